/-
  Contracts: words.first, some, Has, Begins; newsstandref06.Has, Begins.
-/
import Derived.Test.YtnnfgbnnodcepaaWI
namespace Go.Proofs.Ytnnfgbnnodcepaa
open Go.RowKit Go.Lib

def headB (l : List ByteArray) : ByteArray := match l with | [] => ⟨#[]⟩ | x :: _ => x
def someB (h : ByteArray → ByteArray → Bool) (l ws : List ByteArray) : Bool := match ws with | [] => false | f :: _ => l.any fun x => h x f

set_option maxRecDepth 100000 in
set_option maxHeartbeats 1000000 in
theorem first_any (s : ByteArray) (w : World) (hs : s.size ≤ 1000000) :
    Calls Try.prog 42 #[.string s] w fun e w' => e = .returned (.tuple #[.string (headB (wordsB s)), .bool (!(wordsB s).isEmpty)]) ∧ Frm Nix w w' := by
  have KW := Lib.hid (Words_any s w hs)
  generalize wordsB s = l at *
  rcases l with _ | ⟨x, l⟩
  · go_enter Try.func42, Try.ntmps42
    go_wp2_with fail
    refine KW.out.mono ?_
    rintro e w1 ⟨A, c, rfl, hrow⟩
    have HF := Lib.hid hrow.frm
    clear hrow
    go_wp2
    go_ret2
    exact ⟨rfl, HF.out⟩
  · go_enter Try.func42, Try.ntmps42
    go_wp2_with fail
    refine KW.out.mono ?_
    rintro e w1 ⟨A, c, rfl, hrow⟩
    have HF := Lib.hid hrow.frm
    obtain ⟨ad, u, rfl, -, -, hu, cx⟩ := hrow.rd.at_ (k := 0) (by simp)
    simp at hu
    subst hu
    have ca : w1.cell? ad = some (.string x) := cx
    have hl : (0 : Int) < ((l.length : Int) + 1) := by omega
    have hl2 : ¬ ((l.length : Int) + 1 = 0) := by omega
    clear hrow cx
    go_wp2
    go_ret2
    exact ⟨rfl, HF.out⟩

set_option maxRecDepth 100000 in
set_option maxHeartbeats 1000000 in
/-- the closure of 'some'. -/
theorem some1_pred (hf : FuncId) (h : ByteArray → ByteArray → Bool) (eh : ∀ args w, (callFunc hf args).run Try.prog w = .ok (.enter hf args) w) (hh : ∀ W x y, Calls Try.prog hf #[.string x, .string y] W fun e W' => e = .returned (.bool (h x y)) ∧ W' = W)
    (b5 b7 : Nat) (f : ByteArray) (w : World) (h5 : b5 < w.heap.size) (h7 : b7 < w.heap.size) (c5 : w.cell? ⟨b5, 0, none⟩ = some (.func (.func hf) #[] #[])) (c7 : w.cell? ⟨b7, 0, none⟩ = some (.string f)) :
    PredAt Try.prog 44 #[.pointer (some ⟨b5, 0, none⟩), .pointer (some ⟨b7, 0, none⟩)] Value.string (fun x => h x f) w := fun W x hb => by
  have k5 := (hb.cell (p := ⟨b5, 0, none⟩) h5).trans c5
  have k7 := (hb.cell (p := ⟨b7, 0, none⟩) h7).trans c7
  clear c5 c7
  show Calls Try.prog 44 #[.string x, .pointer (some ⟨b5, 0, none⟩), .pointer (some ⟨b7, 0, none⟩)] W _
  go_enter Try.func44, Try.ntmps44
  go_wp2_with (go_at_fn hf; refine (hh _ _ _).mono ?_; rintro e w' ⟨rfl, rfl⟩)
  go_ret
  exact ⟨rfl, 0, rfl⟩

theorem Contains_any {w : World} {G : Nat → Prop} {A : Option Addr} {n c : Nat} {xs : List ByteArray} (hx : Rd w G 1 A n (xs.map Value.string)) (hn : n ≤ 9223372036854775807) (g : FuncId) (lb : Array Value) (eg : ∀ args w, (callFunc g args).run Try.prog w = .ok (.enter g args) w) (p : ByteArray → Bool)
    (hp : PredAt Try.prog g lb Value.string p w) :
    Calls Try.prog 43 #[.slice A n c, .func (.func g) #[] lb] w fun e w' => e = .returned (.bool (xs.any p)) ∧ Frm Nix w w' := by
  have hxl : xs.length = n := by have := hx.1; simpa using this
  by_cases h0 : 0 < n
  · obtain ⟨b1, o1, rfl, -, -, c1⟩ := rd_strs hx h0
    have := AnyE.slices_ContainsFunc Try.cf8 Value.string p g lb eg b1 o1 n c xs w hp (by omega) hn (fun j hj => by
      rw [c1 j hj, List.getD_eq_getElem?_getD, List.getElem?_eq_getElem hj, getElem!_pos xs j hj]
      rfl)
    refine Calls.mono this ?_
    rintro e w' ⟨rfl, q, rfl⟩
    refine ⟨?_, (Frm.refl Nix w).drewN q⟩
    rw [List.take_of_length_le (by omega)]
  · obtain rfl : n = 0 := by omega
    have := AnyE.slices_ContainsFunc_empty Try.cf8 A c (.func (.func g) #[] lb) w
    refine Calls.mono this ?_
    rintro e w' ⟨rfl, rfl⟩
    have e1 : xs = [] := List.eq_nil_of_length_eq_zero hxl
    exact ⟨ret_bool (by simp [e1]), Frm.refl _ _⟩

set_option maxRecDepth 100000 in
set_option maxHeartbeats 1000000 in
theorem some_any (s word : ByteArray) (w : World) (hs : s.size ≤ 1000000) (hw : word.size ≤ 1000000) (hf : FuncId) (h : ByteArray → ByteArray → Bool) (eh : ∀ args w, (callFunc hf args).run Try.prog w = .ok (.enter hf args) w)
    (hh : ∀ W x y, Calls Try.prog hf #[.string x, .string y] W fun e W' => e = .returned (.bool (h x y)) ∧ W' = W) :
    Calls Try.prog 30 #[.string s, .string word, .func (.func hf) #[] #[]] w fun e w' => e = .returned (.bool (someB h (wordsB s) (wordsB word))) ∧ Frm Nix w w' := by
  have hb5 := Blk.new w 27 #[.func (.func hf) #[] #[]]
  have HFi := Lib.hid (fun W => first_any word W hw)
  have HHh := Lib.hid hh
  have HEh := Lib.hid eh
  have ef : ∀ args w, (callFunc 44 args).run Try.prog w = .ok (.enter 44 args) w := enters_of Try.func44 (by kernel_rfl) rfl
  have HEf := Lib.hid ef
  have HB5 := Lib.hid hb5
  clear hh eh ef hb5
  rcases hwb : wordsB word with _ | ⟨f, ws⟩
  · rw [hwb] at HFi
    clear hwb
    go_enter Try.func30, Try.ntmps30
    go_wp2_with fail
    refine (HFi.out _).mono ?_
    rintro e w1 ⟨rfl, f1⟩
    have HF1 := Lib.hid (((Frm.refl Nix w).alloc _).trans f1)
    clear f1
    simp only [headB, List.isEmpty_nil, Bool.not_true]
    go_wp2
    go_ret
    exact ⟨rfl, HF1.out.alloc _⟩
  · rw [hwb] at HFi
    clear hwb
    go_enter Try.func30, Try.ntmps30
    go_wp2_with fail
    refine (HFi.out _).mono ?_
    rintro e w1 ⟨rfl, f1⟩
    have HF1 := Lib.hid (((Frm.refl Nix w).alloc (.cells #[.func (.func hf) #[] #[]] 27)).trans f1)
    have HB1 := Lib.hid (HB5.out.frm f1 id)
    clear f1
    simp only [headB, List.isEmpty_cons, Bool.not_false]
    have hb7 := Blk.new w1 9 #[.string f]
    have HB7 := Lib.hid hb7
    have HB5' := Lib.hid (HB1.out.alloc (.cells #[.string f] 9))
    clear hb7
    go_wp2_with fail
    refine (Words_any s _ hs).mono ?_
    rintro e w3 ⟨A, c, rfl, hrow⟩
    have hl : (wordsB s).length ≤ 9223372036854775807 := by
      obtain ⟨_, _, _, -, h1, h2, -⟩ := hrow.shape
      unfold maxLen at h2
      omega
    have k5 := HB5'.out.frm hrow.frm id
    have k7 := HB7.out.frm hrow.frm id
    have KC := Lib.hid (Contains_any (c := c) hrow.rd hl 44 _ HEf.out (fun x => h x f) (some1_pred hf h HEh.out HHh.out w.heap.size w1.heap.size f w3 k5.lt k7.lt (k5.cell 0) (k7.cell 0)))
    have HF3 := Lib.hid (((HF1.out.alloc (.cells #[.string f] 9))).trans hrow.frm)
    clear hrow k5 k7 hl
    generalize (wordsB s).length = N at *
    go_wp2_with fail
    refine KC.out.mono ?_
    rintro e w4 ⟨rfl, f4⟩
    go_wp2
    go_ret
    exact ⟨rfl, HF3.out.trans f4⟩

set_option maxRecDepth 100000 in
theorem has1_any (W : World) (x y : ByteArray) : Calls Try.prog 31 #[.string x, .string y] W fun e W' => e = .returned (.bool (decide (x = y))) ∧ W' = W := by
  by_cases hxy : x = y
  · subst hxy
    go_enter Try.func31, Try.ntmps31
    go_wp2
    go_ret
    exact ⟨ret_bool (by simp), rfl⟩
  · have hb := beq_of hxy
    go_enter Try.func31, Try.ntmps31
    go_wp2
    go_ret
    exact ⟨ret_bool (by simp [hxy]), rfl⟩

set_option maxRecDepth 100000 in
theorem Has_any (s word : ByteArray) (w : World) (hs : s.size ≤ 1000000) (hw : word.size ≤ 1000000) :
    Calls Try.prog 14 #[.string s, .string word] w fun e w' => e = .returned (.bool (someB (fun x y => decide (x = y)) (wordsB s) (wordsB word))) ∧ Frm Nix w w' := by
  have K := some_any s word w hs hw 31 (fun x y => decide (x = y)) (enters_of Try.func31 (by kernel_rfl) rfl) has1_any
  go_enter Try.func14, Try.ntmps14
  go_wp2_with fail
  refine K.mono ?_
  rintro e w1 ⟨rfl, f1⟩
  go_wp2
  go_ret
  exact ⟨rfl, f1⟩

set_option maxRecDepth 100000 in
theorem Begins_any (s word : ByteArray) (w : World) (hs : s.size ≤ 1000000) (hw : word.size ≤ 1000000) :
    Calls Try.prog 16 #[.string s, .string word] w fun e w' => e = .returned (.bool (someB (fun x y => (bys y).isPrefixOf (bys x)) (wordsB s) (wordsB word))) ∧ Frm Nix w w' := by
  have K := some_any s word w hs hw 32 (fun x y => (bys y).isPrefixOf (bys x)) (enters_of Try.func32 (by kernel_rfl) rfl) (fun W x y => Try.strings_HasPrefix x y W)
  obtain ⟨bb, hbb⟩ : ∃ bb, someB (fun x y => (bys y).isPrefixOf (bys x)) (wordsB s) (wordsB word) = bb := ⟨_, rfl⟩
  rw [hbb] at K ⊢
  clear hbb
  go_enter Try.func16, Try.ntmps16
  go_wp2_with fail
  refine K.mono ?_
  rintro e w1 ⟨rfl, f1⟩
  go_wp2
  go_ret
  exact ⟨rfl, f1⟩
end Go.Proofs.Ytnnfgbnnodcepaa
