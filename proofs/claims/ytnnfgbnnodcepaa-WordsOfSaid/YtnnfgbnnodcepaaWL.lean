/-
  Contracts: words.Set; what the law's own closed run tells (newsstandlaw06.lives).
-/
import Derived.Test.YtnnfgbnnodcepaaWJ
import Derived.Sort.OwnSorted
import Derived.Lib.OwnBridge
namespace Go.Proofs.Ytnnfgbnnodcepaa
open Go.RowKit Go.Lib Go.Sort

def setB (s : ByteArray) : List ByteArray := (setW (wordsL (bys s))).map ofB
theorem wordsB_ofB (s : ByteArray) : wordsB s = (wordsL (bys s)).map ofB := rfl
theorem enc_ofB (l : List (List UInt8)) : (l.map ofB).map Value.string = l.map encStr := by
  rw [List.map_map]
  rfl
theorem compact_len (l : List (List UInt8)) : (compact l).length ≤ l.length := by
  unfold compact compactUpTo
  rw [List.length_map]
  have := List.length_filter_le (keeps l.toArray) (List.range l.length)
  simpa using this
theorem frm_putRow (w : World) (g q : Nat) (d : Array (List UInt8)) : Frm (fun k => k = g) w (putRow encStr (Sort.ahead w q) g 0 d) :=
  ⟨rfl, rfl, rfl, by simp [putRow, mapBlock, Sort.ahead], fun k _ hn => by
    have : g ≠ k := fun e => hn e.symm
    simp [putRow, mapBlock, Sort.ahead, Array.getElem?_modify, this]⟩

theorem splitW_total : ∀ (rs cur : List Nat), (splitW cur rs).flatten.length ≤ cur.length + rs.length
  | [], cur => by
    unfold splitW
    split <;> simp
  | r :: t, cur => by
    unfold splitW
    split
    · have := splitW_total t (cur ++ [r])
      simp at this ⊢
      omega
    · have := splitW_total t []
      rw [List.flatten_append, List.length_append]
      split
      · simp at this ⊢
        omega
      · simp at this ⊢
        omega
theorem flat_len : ∀ (ws : List (List Nat)), (∀ w ∈ ws, w ≠ []) → ws.length ≤ ws.flatten.length ∧ (joinW (ws.map fun w => enc (w.take 32))).length ≤ 5 * ws.flatten.length
  | [], _ => by simp [joinW]
  | w :: ws, h => by
    obtain ⟨h1, h2⟩ := flat_len ws fun x hx => h x (by simp [hx])
    have hw : 0 < w.length := List.length_pos_iff.2 (h w (by simp))
    have he := (enc_len (w.take 32)).2
    have ht := List.length_take_le 32 w
    have ht2 := List.length_take (i := 32) (l := w)
    have e : joinW ((w :: ws).map fun w => enc (w.take 32)) = 32 :: (enc (w.take 32) ++ joinW (ws.map fun w => enc (w.take 32))) := by simp [joinW]
    rw [e, List.flatten_cons, List.length_append, List.length_cons, List.length_cons, List.length_append]
    omega
theorem words_bound (l : List UInt8) : (wordsL l).length ≤ l.length ∧ (joinW (wordsL l)).length ≤ 5 * l.length := by
  have h1 := flat_len (splitW [] (folds l)) fun w hw => (splitW_letters (folds l) [] (fun _ h => by cases h) w hw).1
  have h2 := splitW_total (folds l) []
  have h3 := runesD_len l
  have h4 : (folds l).length = (runesD l).length := by simp [folds]
  have e : wordsL l = (splitW [] (folds l)).map fun w => enc (w.take 32) := by simp [wordsL, wordsR]
  rw [e, List.length_map]
  simp only [List.length_nil] at h2
  omega

set_option maxRecDepth 100000 in
set_option maxHeartbeats 1000000 in
theorem Set_any (s : ByteArray) (w : World) (hs : s.size ≤ 1000000) :
    Calls Try.prog 11 #[.string s] w (StrsOut w (setB s)) := by
  have KW := Words_any s w hs
  rw [wordsB_ofB] at KW
  have hwl := (words_bound (bys s)).1
  rw [← size_bys] at hwl
  unfold setB
  generalize wordsL (bys s) = l at *
  have HKW := Lib.hid KW
  clear KW
  go_enter Try.func11, Try.ntmps11
  go_wp2_with fail
  refine HKW.out.mono ?_
  rintro e w1 ⟨A, c, rfl, hrow⟩
  rw [enc_ofB] at hrow
  simp only [List.length_map] at hrow ⊢
  by_cases h0 : l.length = 0
  · have hl : l = [] := List.eq_nil_of_length_eq_zero h0
    subst hl
    have HR := Lib.hid hrow
    clear hrow
    simp only [List.length_nil]
    go_wp2_with fail
    refine (Try.slices_Sort_string_none A c w1).mono ?_
    rintro e w2 ⟨rfl, rfl⟩
    go_wp2_with fail
    refine (Try.slices_Compact_string_empty A c w2).mono ?_
    rintro e w3 ⟨rfl, rfl⟩
    go_wp2
    go_ret
    exact ⟨A, c, rfl, HR.out⟩
  · have hrl := hrow.own.2
    rcases hrl with ⟨-, hn0⟩ | ⟨g, cap, cur, hv, hbase, hb, h1, h2, h3, h4⟩
    · exact absurd hn0 h0
    · injection hv with e1 _ e3
      subst e1
      subst e3
      rw [Nat.mul_one] at h4
      have hH := holds_of_block hb h4
      have hlt : g < w1.heap.size := lt_of_obj hb
      have hcm : c ≤ 9223372036854775807 := by unfold maxLen at h2; omega
      have hbound : l.length < 4611686018427387904 := by omega
      have KS := Lib.hid (Try.slices_Sort_string g 0 c l w1 hH hlt hbound)
      have HR := Lib.hid hrow
      have HB := Lib.hid hb
      have HL := Lib.hid (And.intro h1 (And.intro h2 h3))
      clear hrow hb h4 hH h3 h2
      go_wp2_with fail
      refine KS.out.mono ?_
      rintro e w2 ⟨rfl, q, os, rfl⟩
      have hown2 := ownsRow_sorted (n := q) (os := os) (ss := l) (ts := l.mergeSort fun x y => decide (x ≤ y)) (by simp) hbase HB.out HL.out.1 HL.out.2.1 (by simpa using HL.out.2.2)
      have hgr := grownBy_sorted (w := w1) (g := g) (n := q) (os := os) (l.mergeSort fun x y => decide (x ≤ y)).toArray
      have hr2 : RowIn 9 w (grow (putRow encStr (Sort.ahead w1 q) g 0 (l.mergeSort fun x y => decide (x ≤ y)).toArray) os) (.slice (some ⟨g, 0, none⟩) l.length c) l.length ((l.mergeSort fun x y => decide (x ≤ y)).map encStr) :=
        ⟨hown2, HR.out.frm.grown hgr fun k hk => .inr (by injection hk with hk; omega)⟩
      have HR2 := Lib.hid hr2
      have hml : (l.mergeSort fun x y => decide (x ≤ y)).length = l.length := by simp
      have hcs := compact_sort l
      generalize grow (putRow encStr (Sort.ahead w1 q) g 0 (l.mergeSort fun x y => decide (x ≤ y)).toArray) os = w2 at *
      generalize (l.mergeSort fun x y => decide (x ≤ y)) = ts at *
      have hH2 : Holds encStr w2 g 0 ts.toArray := by
        obtain ⟨g', cap', e1, -, -, -, -, -, h⟩ := holds_of_ownsRow HR2.out.own (by intro h; cases h)
        injection e1 with e1
        injection e1 with e1
        injection e1 with e1
        subst e1
        exact h
      have KC := Try.slices_Compact_string g 0 c ts w2 hH2 (by omega) (by omega)
      have hkl := compact_len ts
      rw [hml] at KC
      have HKC := Lib.hid KC
      have HCS := Lib.hid hcs
      have HKL := Lib.hid hkl
      have HML := Lib.hid hml
      clear hown2 hgr hr2 hH2 KC hcs hkl hml KS
      go_wp2_with fail
      refine HKC.out.mono ?_
      rintro e w3 ⟨rfl, q2, rfl⟩
      have hfin := ownsRow_putRow (q := q2) (k := (compact ts).length) HR2.out.own (ys := compact ts ++ List.replicate (l.length - (compact ts).length) []) (by rw [List.length_append, List.length_replicate]; have := HKL.out; have := HML.out; omega) (by have := HKL.out; have := HML.out; omega)
      rw [List.take_left'] at hfin
      · have HFin := Lib.hid hfin
        have HFr := Lib.hid (HR2.out.frm.next (frm_putRow w2 g q2 (compact ts ++ List.replicate (l.length - (compact ts).length) []).toArray) fun k hk => .inr (by omega))
        clear hfin
        generalize putRow encStr (Sort.ahead w2 q2) g 0 (compact ts ++ List.replicate (l.length - (compact ts).length) []).toArray = w3 at *
        have HCS2 := HCS.out
        go_wp2
        go_ret
        refine ⟨some ⟨g, 0, none⟩, c, ?_, ?_⟩
        · rw [List.length_map, ← HCS.out]; rfl
        · rw [List.length_map, enc_ofB, ← HCS.out]
          exact ⟨HFin.out, HFr.out⟩
      · rfl

/-! ### the closed run -/
def z0 : ByteArray := ⟨#[84, 104, 101, 32, 85, 46, 83, 46, 45, 98, 97, 115, 101, 100, 32, 195, 132, 114, 122, 116, 101, 32, 51]⟩
def L0 : List ByteArray := [⟨#[116, 104, 101]⟩, ⟨#[117]⟩, ⟨#[115]⟩, ⟨#[98, 97, 115, 101, 100]⟩, ⟨#[195, 164, 114, 122, 116, 101]⟩, ⟨#[51]⟩]
def z1 : ByteArray := ⟨#[98, 32, 97, 32, 66]⟩
def L1 : List ByteArray := [⟨#[97]⟩, ⟨#[98]⟩]
def z2 : ByteArray := ⟨#[79, 110, 101, 32, 116, 119, 111]⟩
def z3 : ByteArray := ⟨#[84, 87, 79]⟩
def z4 : ByteArray := ⟨#[]⟩
def z5 : ByteArray := ⟨#[116, 119, 111]⟩
def z6 : ByteArray := ⟨#[84, 119, 111]⟩
def z7 : ByteArray := ⟨#[111, 110, 101, 32, 116, 119, 111]⟩
def z8 : ByteArray := ⟨#[116, 119]⟩
def z9 : ByteArray := ⟨#[97, 32, 98]⟩
def z10 : ByteArray := ⟨#[65, 44, 32, 66, 33]⟩
theorem live0 : wordsB z0 = L0 := by decide +kernel
theorem live1 : setB z1 = L1 := by decide +kernel
theorem live2 : someB (fun x y => decide (x = y)) (wordsB z2) (wordsB z3) = true := by decide +kernel
theorem live3 : someB (fun x y => decide (x = y)) (wordsB z2) (wordsB z4) = false := by decide +kernel
theorem live4 : decide (wordsB z5 = [z5]) = true := by decide +kernel
theorem live5 : decide (wordsB z6 = [z6]) = false := by decide +kernel
theorem live6 : someB (fun x y => (bys y).isPrefixOf (bys x)) (wordsB z7) (wordsB z8) = true := by decide +kernel
theorem live7 : decide (wordsB z9 = wordsB z10) = true := by decide +kernel
theorem len0 : L0.length = 6 := rfl
theorem len1 : L1.length = 2 := rfl

set_option maxRecDepth 100000 in
set_option maxHeartbeats 2000000 in
theorem lives_any (w : World) : Calls Try.prog 7 #[] w fun e w' => e = .returned (.bool true) ∧ Frm Nix w w' := by
  have K0 := Lib.hid (fun W => Words_any z0 W (by decide))
  rw [live0] at K0
  have K1 := Lib.hid (fun W => Set_any z1 W (by decide))
  rw [live1] at K1
  have K2 := Lib.hid (fun W => Has_any z2 z3 W (by decide) (by decide))
  rw [live2] at K2
  have K3 := Lib.hid (fun W => Has_any z2 z4 W (by decide) (by decide))
  rw [live3] at K3
  have K4 := Lib.hid (fun W => Is_any z5 W (by decide))
  rw [live4] at K4
  have K5 := Lib.hid (fun W => Is_any z6 W (by decide))
  rw [live5] at K5
  have K6 := Lib.hid (fun W => Begins_any z7 z8 W (by decide) (by decide))
  rw [live6] at K6
  have K7 := Lib.hid (fun W => Same_any z9 z10 W (by decide) (by decide))
  rw [live7] at K7
  go_enter Try.func7, Try.ntmps7
  go_wp2_with fail
  refine (K0.out _).mono ?_
  rintro e w1 ⟨A, c, rfl, hrow⟩
  rw [len0] at hrow ⊢
  have KS0 := Lib.hid (rSame_any (c := c) (d := 6) (hrow.more ((Frm.refl Nix w1).alloc (.cells (L0.map Value.string).toArray 9))).rd (ys := L0) (Rd.of_obj (heap_alloc_new w1 (.cells (L0.map Value.string).toArray 9)) 6 rfl) (by decide) (by decide))
  have HF1 := Lib.hid (hrow.frm.alloc (.cells (L0.map Value.string).toArray 9))
  clear hrow
  go_wp2_with fail
  refine KS0.out.mono ?_
  rintro e w2 ⟨rfl, f2⟩
  have HF2 := Lib.hid (HF1.out.trans f2)
  simp only [decide_true]
  clear f2 KS0 HF1
  go_wp2_with fail
  refine (K1.out _).mono ?_
  rintro e w3 ⟨A, c, rfl, hrow⟩
  rw [len1] at hrow ⊢
  have KS1 := Lib.hid (rSame_any (c := c) (d := 2) (hrow.more ((Frm.refl Nix w3).alloc (.cells (L1.map Value.string).toArray 9))).rd (ys := L1) (Rd.of_obj (heap_alloc_new w3 (.cells (L1.map Value.string).toArray 9)) 2 rfl) (by decide) (by decide))
  have HF3 := Lib.hid (HF2.out.trans (hrow.frm.alloc (.cells (L1.map Value.string).toArray 9)))
  clear hrow HF2
  go_wp2_with fail
  refine KS1.out.mono ?_
  rintro e w4 ⟨rfl, f4⟩
  have HF4 := Lib.hid (HF3.out.trans f4)
  simp only [decide_true]
  clear f4 KS1 HF3
  go_wp2_with fail
  refine (K2.out _).mono ?_
  rintro e w5 ⟨rfl, f5⟩
  go_wp2_with fail
  refine (K3.out _).mono ?_
  rintro e w6 ⟨rfl, f6⟩
  have HF6 := Lib.hid ((HF4.out.trans f5).trans f6)
  clear f5 f6 HF4
  go_wp2_with fail
  refine (K4.out _).mono ?_
  rintro e w7 ⟨rfl, f7⟩
  go_wp2_with fail
  refine (K5.out _).mono ?_
  rintro e w8 ⟨rfl, f8⟩
  have HF8 := Lib.hid ((HF6.out.trans f7).trans f8)
  clear f7 f8 HF6
  go_wp2_with fail
  refine (K6.out _).mono ?_
  rintro e w9 ⟨rfl, f9⟩
  go_wp2_with fail
  refine (K7.out _).mono ?_
  rintro e w10 ⟨rfl, f10⟩
  have HF10 := Lib.hid ((HF8.out.trans f9).trans f10)
  clear f9 f10 HF8
  go_wp2
  go_ret
  exact ⟨rfl, HF10.out⟩
end Go.Proofs.Ytnnfgbnnodcepaa
