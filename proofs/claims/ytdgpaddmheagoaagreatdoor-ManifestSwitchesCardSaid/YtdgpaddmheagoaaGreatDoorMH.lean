/-
  Contracts: a disk's manifest switched, by the program.
-/
import Derived.Test.YtdgpaddmheagoaaGreatDoorMG
namespace Go.Proofs.YtdgpaddmheagoaaGreatDoor
open Go.RowKit
set_option linter.unusedVariables false

/-- the k-th deed of a switch. -/
def swStep (x : List UInt8) : Nat → Dsk → Dsk × Int
  | 0, d => d.append sNext x
  | 1, d => d.sync sNext
  | _, d => d.rename sNext sList
/-- deeds from the k-th on, until one is refused. -/
def swFrom (x : List UInt8) : Nat → Nat → Dsk → Dsk × Int
  | 0, _, d => (d, 0)
  | j + 1, k, d => if (swStep x k d).2 ≠ 0 then swStep x k d else swFrom x j (k + 1) (swStep x k d).1
def swDsk (d : Dsk) (x : List UInt8) : Dsk × Int := if (d.delete sNext).2 ≠ 0 ∧ (d.delete sNext).2 ≠ 4 then d.delete sNext else swFrom x 3 0 (d.delete sNext).1

theorem deedD (d : Dsk) : d.deed.1.deeds ≤ d.deeds + 1 := by
  unfold Dsk.deed
  split <;> simp
theorem appendTo_deeds (d : Dsk) (s : ByteArray) (x : List UInt8) : (d.appendTo s x).deeds = d.deeds := by
  unfold Dsk.appendTo
  split <;> rfl
theorem append_deeds (d : Dsk) (s : ByteArray) (x : List UInt8) : (d.append s x).1.deeds ≤ d.deeds + 1 := by
  unfold Dsk.append
  split
  · simp
  split
  · simp
  split
  · simp
  · have := deedD (d.appendTo s x)
    rwa [appendTo_deeds] at this
theorem sync_deeds (d : Dsk) (s : ByteArray) : (d.sync s).1.deeds ≤ d.deeds + 1 := by
  have h := deedD d
  unfold Dsk.sync
  split
  · simp
  split
  · exact h
  · unfold Dsk.syncTo
    simp only
    split <;> exact h
theorem delete_deeds (d : Dsk) (s : ByteArray) : (d.delete s).1.deeds ≤ d.deeds + 1 := by
  have h := deedD d
  unfold Dsk.delete
  split
  · simp
  split
  · exact h
  · exact h
theorem rename_deeds (d : Dsk) (s t : ByteArray) : (d.rename s t).1.deeds ≤ d.deeds + 1 := by
  have h := deedD d
  unfold Dsk.rename
  split
  · simp
  split
  · simp
  split
  · simp
  split
  · exact h
  · unfold Dsk.renameTo
    simp only
    split <;> exact h
theorem swStep_deeds (x : List UInt8) (k : Nat) (d : Dsk) : (swStep x k d).1.deeds ≤ d.deeds + 1 := by
  match k with
  | 0 => exact append_deeds d _ _
  | 1 => exact sync_deeds d _
  | k + 2 => exact rename_deeds d _ _

/-! ### the closures -/

section
variable {B g : Nat} {F : Nat → Prop} {D : Dsk} {w : World}
set_option maxRecDepth 100000 in
theorem sw1_any (h : Dk w B g F D) (bd bb : Nat) (A : Option Addr) (c : Nat) (l : List UInt8) (G : Nat → Prop) (hr : Rd w G 1 A l.length (bvs l)) (hG : ∀ k, G k → ¬ F k) (hd : D.deeds < 4611686018427387904)
    (c1 : w.cell? ⟨bd, 0, none⟩ = some (.pointer (some ⟨g, 0, none⟩))) (c2 : w.cell? ⟨bb, 0, none⟩ = some (.slice A l.length c)) :
    Calls Tryz.prog 36 #[.pointer (some ⟨bd, 0, none⟩), .pointer (some ⟨bb, 0, none⟩)] w (DkOut w B g F (D.append sNext l).1 (D.append sNext l).2) := by
  have K := Lib.hid (Append_any h sNext (by decide) A l.length c l rfl G hr hG hd)
  clear h hr hG hd
  go_enter Tryz.func36, Tryz.ntmps36
  go_wp2_with fail
  refine K.out.mono ?_
  rintro e w1 ⟨rfl, h⟩
  have H := Lib.hid h
  clear h
  go_wp2
  go_ret
  exact ⟨rfl, H.out⟩
set_option maxRecDepth 100000 in
theorem sw2_any (h : Dk w B g F D) (bd : Nat) (hd : D.deeds < 4611686018427387904) (c1 : w.cell? ⟨bd, 0, none⟩ = some (.pointer (some ⟨g, 0, none⟩))) :
    Calls Tryz.prog 37 #[.pointer (some ⟨bd, 0, none⟩)] w (DkOut w B g F (D.sync sNext).1 (D.sync sNext).2) := by
  have K := Lib.hid (Sync_any h sNext hd)
  clear h hd
  go_enter Tryz.func37, Tryz.ntmps37
  go_wp2_with fail
  refine K.out.mono ?_
  rintro e w1 ⟨rfl, h⟩
  have H := Lib.hid h
  clear h
  go_wp2
  go_ret
  exact ⟨rfl, H.out⟩
set_option maxRecDepth 100000 in
theorem sw3_any (h : Dk w B g F D) (bd : Nat) (hd : D.deeds < 4611686018427387904) (c1 : w.cell? ⟨bd, 0, none⟩ = some (.pointer (some ⟨g, 0, none⟩))) :
    Calls Tryz.prog 38 #[.pointer (some ⟨bd, 0, none⟩)] w (DkOut w B g F (D.rename sNext sList).1 (D.rename sNext sList).2) := by
  have K := Lib.hid (Rename_any h sNext sList hd (by decide))
  clear h hd
  go_enter Tryz.func38, Tryz.ntmps38
  go_wp2_with fail
  refine K.out.mono ?_
  rintro e w1 ⟨rfl, h⟩
  have H := Lib.hid h
  clear h
  go_wp2
  go_ret
  exact ⟨rfl, H.out⟩

def fnV (f : FuncId) (caps : Array Value) : Value := .func (.func f) #[] caps

set_option maxRecDepth 100000 in
set_option maxHeartbeats 2000000 in
theorem until_any (h : Dk w B g F D) (bd bb bl : Nat) (A : Option Addr) (c : Nat) (l : List UInt8) (G : Nat → Prop) (hr : Rd w G 1 A l.length (bvs l)) (hG : ∀ k, G k → ¬ F k ∧ k < w.heap.size) (hd : D.deeds < 4611686018427387900)
    (c1 : w.cell? ⟨bd, 0, none⟩ = some (.pointer (some ⟨g, 0, none⟩))) (c2 : w.cell? ⟨bb, 0, none⟩ = some (.slice A l.length c))
    (c3 : w.cell? ⟨bl, 0, none⟩ = some (.func (.func 36) #[] #[.pointer (some ⟨bd, 0, none⟩), .pointer (some ⟨bb, 0, none⟩)]))
    (c4 : w.cell? ⟨bl, 1, none⟩ = some (.func (.func 37) #[] #[.pointer (some ⟨bd, 0, none⟩)]))
    (c5 : w.cell? ⟨bl, 2, none⟩ = some (.func (.func 38) #[] #[.pointer (some ⟨bd, 0, none⟩)]))
    (n1 : ¬ F bd) (n2 : ¬ F bb) (n3 : ¬ F bl) :
    Calls Tryz.prog 35 #[.slice (some ⟨bl, 0, none⟩) 3 3] w (DkOut w B g F (swFrom l 3 0 D).1 (swFrom l 3 0 D).2) := by
  have H : Hid (Dk w B g F D ∧ Rd w G 1 A l.length (bvs l) ∧ (∀ k, G k → ¬ F k ∧ k < w.heap.size)) := ⟨h, hr, hG⟩
  have HC : Hid (∀ (W : World) (F' : Nat → Prop), Frm F w W → (∀ k, F' k → F k ∨ w.heap.size ≤ k) → W.cell? ⟨bd, 0, none⟩ = some (.pointer (some ⟨g, 0, none⟩)) ∧ W.cell? ⟨bb, 0, none⟩ = some (.slice A l.length c) ∧ W.cell? ⟨bl, 0, none⟩ = some (.func (.func 36) #[] #[.pointer (some ⟨bd, 0, none⟩), .pointer (some ⟨bb, 0, none⟩)]) ∧
      W.cell? ⟨bl, 1, none⟩ = some (.func (.func 37) #[] #[.pointer (some ⟨bd, 0, none⟩)]) ∧ W.cell? ⟨bl, 2, none⟩ = some (.func (.func 38) #[] #[.pointer (some ⟨bd, 0, none⟩)]) ∧ Rd W G 1 A l.length (bvs l) ∧ (∀ k, G k → ¬ F' k)) := fun W F' hW hF' =>
    ⟨(hW.cell (World.block_lt_of_cell? w _ c1) n1).trans c1, (hW.cell (World.block_lt_of_cell? w _ c2) n2).trans c2, (hW.cell (World.block_lt_of_cell? w _ c3) n3).trans c3, (hW.cell (World.block_lt_of_cell? w _ c4) n3).trans c4, (hW.cell (World.block_lt_of_cell? w _ c5) n3).trans c5,
      hr.frm hW fun k hk => (hG k hk).1, fun k hk hf => by
        rcases hF' k hf with h1 | h1
        · exact (hG k hk).1 h1
        · have := (hG k hk).2; omega⟩
  obtain ⟨out, hout⟩ : ∃ out, out = swFrom l 3 0 D := ⟨_, rfl⟩
  have HO := Lib.hid hout
  rw [← hout]
  clear h hr hG c1 c2 c3 c4 c5 n1 n2 n3 hout
  go_enter Tryz.func35, Tryz.ntmps35
  go_wp2
  go_loopw [4, 5, 8] (fun _ _ kv wr => ∃ (k : Nat) (F' : Nat → Prop) (Dc : Dsk), k ≤ 3 ∧ kv = .int .i64 k ∧ Dk wr B g F' Dc ∧ Frm F w wr ∧ (∀ k, F' k → F k ∨ w.heap.size ≤ k) ∧ swFrom l (3 - k) k Dc = out ∧ Dc.deeds ≤ D.deeds + k) (fun _ _ kv _ => 3 - (intOf kv).toNat)
  case atStart => exact ⟨0, F, D, by omega, rfl, H.out.1, Frm.refl _ _, fun _ hk => .inl hk, HO.out.symm, by omega⟩
  case round =>
    obtain ⟨k, F', Dc, hk, rfl, hdk, hfr, hfo, hsw, hdd⟩ := hrel
    have HD : Hid (Dk wr B g F' Dc ∧ Frm F w wr ∧ (∀ k, F' k → F k ∨ w.heap.size ≤ k) ∧ swFrom l (3 - k) k Dc = out) := ⟨hdk, hfr, hfo, hsw⟩
    obtain ⟨d1, d2, d3, d4, d5, d6, d7⟩ := HC.out wr F' hfr hfo
    have KS : Hid (∀ j, k = j → Calls Tryz.prog (if j = 0 then 36 else if j = 1 then 37 else 38) (if j = 0 then #[.pointer (some ⟨bd, 0, none⟩), .pointer (some ⟨bb, 0, none⟩)] else #[.pointer (some ⟨bd, 0, none⟩)]) wr (DkOut wr B g F' (swStep l k Dc).1 (swStep l k Dc).2)) := by
      rintro j rfl
      by_cases h0 : k = 0
      · subst h0
        exact sw1_any hdk bd bb A c l G d6 d7 (by omega) d1 d2
      · by_cases h1 : k = 1
        · subst h1
          exact sw2_any hdk bd (by omega) d1
        · rw [if_neg h0, if_neg h1, if_neg h0]
          obtain ⟨q, rfl⟩ : ∃ q, k = q + 2 := ⟨k - 2, by omega⟩
          exact sw3_any hdk bd (by omega) d1
    have HST : Hid (∀ (w1 : World) (e : Ending), k < 3 → DkOut wr B g F' (swStep l k Dc).1 (swStep l k Dc).2 e w1 → e = .returned (.int .i64 (swStep l k Dc).2) ∧ ((swStep l k Dc).2 ≠ 0 → DkOut w B g F out.1 out.2 e w1) ∧
        ((swStep l k Dc).2 = 0 → ∃ (F2 : Nat → Prop) (D2 : Dsk), Dk w1 B g F2 D2 ∧ Frm F w w1 ∧ (∀ k, F2 k → F k ∨ w.heap.size ≤ k) ∧ swFrom l (3 - (k + 1)) (k + 1) D2 = out ∧ D2.deeds ≤ D.deeds + (k + 1))) := by
      rintro w1 e hk3 ⟨rfl, F2, h2, h3, h4⟩
      have hf2 : Frm F w w1 := hfr.next h3 hfo
      have ho2 : ∀ k, F2 k → F k ∨ w.heap.size ≤ k := fun j hj => by
        rcases h4 j hj with h5 | h5
        · exact hfo j h5
        · have := hfr.size
          right; omega
      have hsw' := hsw
      rw [show 3 - k = (3 - (k + 1)) + 1 by omega, swFrom] at hsw'
      refine ⟨rfl, fun hne => ?_, fun hz => ?_⟩
      · rw [if_pos hne] at hsw'
        rw [← hsw']
        exact ⟨rfl, F2, h2, hf2, ho2⟩
      · rw [if_neg (by simpa using hz)] at hsw'
        exact ⟨F2, _, h2, hf2, ho2, hsw', by have := swStep_deeds l k Dc; omega⟩
    clear hdk hfr hfo hsw hdd d6 d7
    generalize hST : swStep l k Dc = st at *
    have HSTE := Lib.hid hST
    clear hST
    rcases (by omega : k = 0 ∨ k = 1 ∨ k = 2 ∨ k = 3) with hkk | hkk | hkk | hkk
    · subst hkk
      have K : Hid (Calls Tryz.prog 36 #[.pointer (some ⟨bd, 0, none⟩), .pointer (some ⟨bb, 0, none⟩)] wr (DkOut wr B g F' st.1 st.2)) := KS.out 0 rfl
      go_wp2_with fail
      refine K.out.mono ?_
      intro e w1 hdo
      obtain ⟨rfl, h1, h2⟩ := HST.out w1 e (by omega) hdo
      by_cases hz : st.2 = 0
      · obtain ⟨F2, D2, q1, q2, q3, q4, q5⟩ := h2 hz
        have HQ : Hid (Dk w1 B g F2 D2 ∧ Frm F w w1 ∧ (∀ k, F2 k → F k ∨ w.heap.size ≤ k) ∧ swFrom l (3 - (0 + 1)) (0 + 1) D2 = out ∧ D2.deeds ≤ D.deeds + (0 + 1)) := ⟨q1, q2, q3, q4, q5⟩
        rw [hz]
        clear hdo h1 h2 q1 q2 q3 q4 q5 hz K KS HST HSTE
        go_wp2
        go_roundw
        case rel => exact ⟨0 + 1, F2, D2, by omega, by go_num, HQ.out.1, HQ.out.2.1, HQ.out.2.2.1, HQ.out.2.2.2.1, HQ.out.2.2.2.2⟩
        case measure => simp [intOf]
      · have HQ := Lib.hid (h1 hz)
        have hb : (st.2 == 0) = false := beq_eq_false_iff_ne.2 hz
        have hb2 : (st.2 != 0) = true := by rw [bne, hb]; rfl
        clear hdo h1 h2 hz K KS HST HSTE
        go_wp2
        go_ret
        exact HQ.out
    · subst hkk
      have K : Hid (Calls Tryz.prog 37 #[.pointer (some ⟨bd, 0, none⟩)] wr (DkOut wr B g F' st.1 st.2)) := KS.out 1 rfl
      go_wp2_with fail
      refine K.out.mono ?_
      intro e w1 hdo
      obtain ⟨rfl, h1, h2⟩ := HST.out w1 e (by omega) hdo
      by_cases hz : st.2 = 0
      · obtain ⟨F2, D2, q1, q2, q3, q4, q5⟩ := h2 hz
        have HQ : Hid (Dk w1 B g F2 D2 ∧ Frm F w w1 ∧ (∀ k, F2 k → F k ∨ w.heap.size ≤ k) ∧ swFrom l (3 - (1 + 1)) (1 + 1) D2 = out ∧ D2.deeds ≤ D.deeds + (1 + 1)) := ⟨q1, q2, q3, q4, q5⟩
        rw [hz]
        clear hdo h1 h2 q1 q2 q3 q4 q5 hz K KS HST HSTE
        go_wp2
        go_roundw
        case rel => exact ⟨1 + 1, F2, D2, by omega, by go_num, HQ.out.1, HQ.out.2.1, HQ.out.2.2.1, HQ.out.2.2.2.1, HQ.out.2.2.2.2⟩
        case measure => simp [intOf]
      · have HQ := Lib.hid (h1 hz)
        have hb : (st.2 == 0) = false := beq_eq_false_iff_ne.2 hz
        have hb2 : (st.2 != 0) = true := by rw [bne, hb]; rfl
        clear hdo h1 h2 hz K KS HST HSTE
        go_wp2
        go_ret
        exact HQ.out
    · subst hkk
      have K : Hid (Calls Tryz.prog 38 #[.pointer (some ⟨bd, 0, none⟩)] wr (DkOut wr B g F' st.1 st.2)) := KS.out 2 rfl
      go_wp2_with fail
      refine K.out.mono ?_
      intro e w1 hdo
      obtain ⟨rfl, h1, h2⟩ := HST.out w1 e (by omega) hdo
      by_cases hz : st.2 = 0
      · obtain ⟨F2, D2, q1, q2, q3, q4, q5⟩ := h2 hz
        have HQ : Hid (Dk w1 B g F2 D2 ∧ Frm F w w1 ∧ (∀ k, F2 k → F k ∨ w.heap.size ≤ k) ∧ swFrom l (3 - (2 + 1)) (2 + 1) D2 = out ∧ D2.deeds ≤ D.deeds + (2 + 1)) := ⟨q1, q2, q3, q4, q5⟩
        rw [hz]
        clear hdo h1 h2 q1 q2 q3 q4 q5 hz K KS HST HSTE
        go_wp2
        go_roundw
        case rel => exact ⟨2 + 1, F2, D2, by omega, by go_num, HQ.out.1, HQ.out.2.1, HQ.out.2.2.1, HQ.out.2.2.2.1, HQ.out.2.2.2.2⟩
        case measure => simp [intOf]
      · have HQ := Lib.hid (h1 hz)
        have hb : (st.2 == 0) = false := beq_eq_false_iff_ne.2 hz
        have hb2 : (st.2 != 0) = true := by rw [bne, hb]; rfl
        clear hdo h1 h2 hz K KS HST HSTE
        go_wp2
        go_ret
        exact HQ.out
    · subst hkk
      have HQ : Hid (DkOut w B g F out.1 out.2 (.returned (.int .i64 0)) wr) := by
        have this : (Dc, (0 : Int)) = out := HD.out.2.2.2
        rw [← this]
        exact ⟨rfl, F', HD.out.1, HD.out.2.1, HD.out.2.2.1⟩
      clear KS HST HSTE
      go_wp2
      go_ret
      exact HQ.out
end

theorem swDsk_deeds (d : Dsk) (x : List UInt8) : (swDsk d x).1.deeds ≤ d.deeds + 4 := by
  have h0 := delete_deeds d sNext
  have h3 : ∀ j k (d : Dsk), (swFrom x j k d).1.deeds ≤ d.deeds + j := by
    intro j
    induction j with
    | zero => intro k d; simp [swFrom]
    | succ j ih =>
      intro k d
      have h1 := swStep_deeds x k d
      have h2 := ih (k + 1) (swStep x k d).1
      unfold swFrom
      split
      · omega
      · omega
  have := h3 3 0 (d.delete sNext).1
  unfold swDsk
  split <;> omega

set_option maxRecDepth 100000 in
set_option maxHeartbeats 1000000 in
theorem pSwitch_no (m : Man) (A : Option Addr) (c : Nat) (G : Nat → Prop) (d : Option Addr) (w : World) (h : ManIn w G m A c) (ho : manOk m = false) :
    Calls Tryz.prog 9 #[.pointer d, manV m A c] w fun e w' => e = .returned (.int .i64 1) ∧ Frm Nix w w' := by
  have HF : Hid (Frm Nix w ((w.alloc (.cells #[.pointer d] 28)).alloc (.cells #[.int .i64 m.gen, .int .i64 m.snap, .slice A m.segs.length c] 25))) := ((Frm.refl Nix w).alloc _).alloc _
  have KP : Hid (∀ W, Frm Nix w W → Calls Tryz.prog 16 #[.agg #[.int .i64 m.gen, .int .i64 m.snap, .slice A m.segs.length c]] W fun e w' => e = .returned (.tuple #[.slice none 0 0, .int .i64 1]) ∧ Frm Nix W w') := fun W hW => pPut_no m A c G W (h.nix hW) ho
  unfold manV
  clear h
  go_enter Tryz.func9, Tryz.ntmps9
  go_wp2_with fail
  refine (KP.out _ HF.out).mono ?_
  rintro e w1 ⟨rfl, hf1⟩
  have HF1 := Lib.hid hf1
  clear hf1
  go_wp2
  go_ret
  exact ⟨rfl, (HF.out.trans HF1.out).alloc _⟩

set_option maxRecDepth 100000 in
set_option maxHeartbeats 2000000 in
theorem pSwitch_yes {B g : Nat} {F : Nat → Prop} {D : Dsk} {w : World} (h : Dk w B g F D) (m : Man) (A : Option Addr) (c : Nat) (G : Nat → Prop) (hm : ManIn w G m A c) (ho : manOk m = true) (ht : Tab w) (hB : 0 < B) (hG : ∀ k, G k → ¬ F k) (hd : D.deeds < 4611686018427387000) :
    Calls Tryz.prog 9 #[.pointer (some ⟨g, 0, none⟩), manV m A c] w (DkOut w B g F (swDsk D (manPut m)).1 (swDsk D (manPut m)).2) := by
  have H : Hid (Dk w B g F D ∧ ManIn w G m A c ∧ Tab w) := ⟨h, hm, ht⟩
  have HL : Hid ((manPut m).length ≤ 404) := manPut_len (manOk_parts ho).2.2.2.2.2.1
  have KP : Hid (∀ W, Frm Nix w W → Calls Tryz.prog 16 #[.agg #[.int .i64 m.gen, .int .i64 m.snap, .slice A m.segs.length c]] W (BytesOkOut W (manPut m) 0)) := fun W hW => pPut_yes m A c G W (hm.nix hW) ho (ht.nix hW)
  have HF : Hid (Frm Nix w ((w.alloc (.cells #[.pointer (some ⟨g, 0, none⟩)] 28)).alloc (.cells #[.int .i64 m.gen, .int .i64 m.snap, .slice A m.segs.length c] 25))) := ((Frm.refl Nix w).alloc _).alloc _
  have hbd := (Blk.new w 28 #[.pointer (some ⟨g, 0, none⟩)]).alloc (.cells #[.int .i64 m.gen, .int .i64 m.snap, .slice A m.segs.length c] 25)
  have HB := Lib.hid hbd
  have HSW : Hid (swDsk D (manPut m) = if (D.delete sNext).2 ≠ 0 ∧ (D.delete sNext).2 ≠ 4 then D.delete sNext else swFrom (manPut m) 3 0 (D.delete sNext).1) := rfl
  have hdd := delete_deeds D sNext
  unfold manV
  clear h hm ht hG hbd
  generalize manPut m = x at *
  generalize swDsk D x = out at *
  go_enter Tryz.func9, Tryz.ntmps9
  go_wp2_with fail
  refine (KP.out _ HF.out).mono ?_
  rintro e w1 ⟨A1, c1, rfl, hrow⟩
  have hb1 := HB.out.frm hrow.frm id
  have hcd := hb1.cell 0
  simp at hcd
  have HB1 := Lib.hid hb1
  have HR1 := Lib.hid hrow
  have hzl := hb1.lt
  clear hb1 hrow KP HB
  generalize hxn : x.length = xn at *
  have HXN := Lib.hid hxn
  clear hxn
  go_wp2_with fail
  have hfa : Frm Nix w1 (w1.alloc (.cells #[.slice A1 xn c1] 35)) := (Frm.refl Nix w1).alloc _
  have hw1 : Frm Nix w w1 := HF.out.trans HR1.out.frm
  have hwa : Frm Nix w (w1.alloc (.cells #[.slice A1 xn c1] 35)) := hw1.trans hfa
  refine (Delete_any (H.out.1.nix hwa) sNext (by omega)).mono ?_
  rintro e w2 ⟨rfl, F2, hd2, hf2, hk2⟩
  obtain ⟨D2, hD2⟩ : ∃ D2, D2 = (D.delete sNext).1 := ⟨_, rfl⟩
  obtain ⟨n2, hn2⟩ : ∃ n, n = (D.delete sNext).2 := ⟨_, rfl⟩
  have e12 : D.delete sNext = (D2, n2) := by rw [hD2, hn2]
  rw [← hD2] at hd2
  rw [← hn2]
  rw [e12] at HSW hdd
  simp only at HSW hdd
  have hlo := H.out.1.lo
  have hsz1 := hw1.size
  have hszf : w.heap.size + 2 ≤ w1.heap.size := by have := HR1.out.frm.size; simpa using this
  have hsza : (w1.alloc (.cells #[.slice A1 xn c1] 35)).heap.size = w1.heap.size + 1 := by simp
  have hsz2 := hf2.size
  rw [hsza] at hsz2 hk2
  have hfw2 : Frm F w w2 := (hwa.nix).trans hf2
  have hF2 : ∀ k, F2 k → F k ∨ w.heap.size ≤ k := fun k hk => by
    rcases hk2 k hk with h1 | h1
    · exact .inl h1
    · right; omega
  have H2 : Hid (DkOut w B g F D2 n2 (.returned (.int .i64 n2)) w2) := ⟨rfl, F2, hd2, hfw2, hF2⟩
  by_cases hne : n2 ≠ 0 ∧ n2 ≠ 4
  · rw [if_pos hne] at HSW
    obtain ⟨h0, h4⟩ := hne
    have b0 : (n2 == 0) = false := beq_eq_false_iff_ne.2 h0
    have b1 : (n2 != 0) = true := by rw [bne, b0]; rfl
    have b2 : (n2 == 4) = false := beq_eq_false_iff_ne.2 h4
    have b3 : (n2 != 4) = true := by rw [bne, b2]; rfl
    clear hd2 hf2 hk2 hF2 hfw2 hD2 hn2 e12 h0 h4 hlo hsz1 hszf hsza hsz2 hfa hw1 hwa hdd
    go_wp2
    go_ret
    rw [HSW.out]
    exact H2.out
  · rw [if_neg hne] at HSW
    have HRd : Hid (∀ W, Frm F2 w2 W → Frm Nix w2 W → Rd W (fun k => (Value.slice A1 xn c1).ownBlock = some k) 1 A1 x.length (bvs x)) := fun W _ hW => by
      have h1 := HR1.out.rd
      rw [HXN.out]
      exact ((h1.frm hfa fun _ _ => id).frm hf2 fun k hk hF => by
        have := (HR1.out.own.lt k hk).1
        have := (hlo k hF).2
        simp at *
        omega).frm hW fun _ _ => id
    have hbd2 : w2.cell? ⟨w.heap.size, 0, none⟩ = some (.pointer (some ⟨g, 0, none⟩)) := by
      have h1 := (HB1.out.frm hfa id).frm hf2 (fun hF => by have := (hlo _ hF).2; omega)
      simpa using h1.cell 0
    have hbb2 : w2.cell? ⟨w1.heap.size, 0, none⟩ = some (.slice A1 xn c1) := by
      have h1 := (Blk.new w1 35 #[.slice A1 xn c1]).frm hf2 (fun hF => by have := (hlo _ hF).2; omega)
      simpa using h1.cell 0
    have hGx : ∀ k, (Value.slice A1 xn c1).ownBlock = some k → ¬ F2 k ∧ k < w2.heap.size := fun k hk => by
      obtain ⟨h1, h2⟩ := HR1.out.own.lt k hk
      refine ⟨fun hF => ?_, by omega⟩
      rcases hk2 k hF with h3 | h3
      · have := (hlo k h3).2
        simp at h1
        omega
      · omega
    have HU : Hid (∀ O : Obj, O = .cells #[.func (.func 36) #[] #[.pointer (some ⟨w.heap.size, 0, none⟩), .pointer (some ⟨w1.heap.size, 0, none⟩)], .func (.func 37) #[] #[.pointer (some ⟨w.heap.size, 0, none⟩)], .func (.func 38) #[] #[.pointer (some ⟨w.heap.size, 0, none⟩)]] 65 →
        Calls Tryz.prog 35 #[.slice (some ⟨w2.heap.size, 0, none⟩) 3 3] (w2.alloc O) (DkOut w B g F out.1 out.2)) := by
      rintro O rfl
      have hfo : Frm Nix w2 (w2.alloc (.cells #[.func (.func 36) #[] #[.pointer (some ⟨w.heap.size, 0, none⟩), .pointer (some ⟨w1.heap.size, 0, none⟩)], .func (.func 37) #[] #[.pointer (some ⟨w.heap.size, 0, none⟩)], .func (.func 38) #[] #[.pointer (some ⟨w.heap.size, 0, none⟩)]] 65)) := (Frm.refl Nix w2).alloc _
      have hbn := Blk.new w2 65 #[.func (.func 36) #[] #[.pointer (some ⟨w.heap.size, 0, none⟩), .pointer (some ⟨w1.heap.size, 0, none⟩)], .func (.func 37) #[] #[.pointer (some ⟨w.heap.size, 0, none⟩)], .func (.func 38) #[] #[.pointer (some ⟨w.heap.size, 0, none⟩)]]
      have K := until_any (hd2.nix hfo) w.heap.size w1.heap.size w2.heap.size A1 c1 x _ (HRd.out _ hfo.nix hfo) (fun k hk => ⟨(hGx k hk).1, by have := (hGx k hk).2; simp; omega⟩) (by omega)
        ((hfo.cell (by simp only; omega) id).trans hbd2) (by rw [HXN.out]; exact (hfo.cell (by simp only; omega) id).trans hbb2)
        ((hbn.cell 0).trans rfl) ((hbn.cell 1).trans rfl) ((hbn.cell 2).trans rfl)
        (fun hF => by rcases hk2 _ hF with h1 | h1; · have := (hlo _ h1).2; omega
                      · omega)
        (fun hF => by rcases hk2 _ hF with h1 | h1; · have := (hlo _ h1).2; omega
                      · omega)
        (fun hF => by have := (hd2.lo _ hF).2; omega)
      rw [← HSW.out] at K
      refine K.mono ?_
      rintro e w3 ⟨rfl, F3, h1, h2, h3⟩
      refine ⟨rfl, F3, h1, hfw2.next ((Frm.nix hfo).trans h2) hF2, fun k hk => ?_⟩
      rcases h3 k hk with h4 | h4
      · exact hF2 k h4
      · right; simp at h4; omega
    have hcase : n2 = 0 ∨ n2 = 4 := by
      by_cases h0 : n2 = 0
      · exact .inl h0
      · right
        by_cases h4 : n2 = 4
        · exact h4
        · exact absurd ⟨h0, h4⟩ hne
    clear hne hd2 hf2 hk2 hF2 hfw2 hD2 hn2 e12 hlo hsz1 hszf hsza hsz2 hfa hw1 hwa hdd hbd2 hbb2 hGx HRd H2
    rcases hcase with rfl | rfl
    all_goals
      go_wp2_with fail
      refine (HU.out _ rfl).mono ?_
      rintro e w3 ⟨rfl, h⟩
      have H3 := Lib.hid h
      clear h
      go_wp2
      go_ret
      exact ⟨rfl, H3.out⟩
end Go.Proofs.YtdgpaddmheagoaaGreatDoor
