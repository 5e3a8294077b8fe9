/-
  A manifest as bytes and back, or that it is none: ManifestPuts answers true for every input. Its card: the table of the sum by halves of bytes is tied to the program's text.
-/
import Derived.Test.YtdgpaddmheagoaaDoorMI
import Derived.Test.YtdgpaddmheagoaaDoorViewM
import Derived.Test.YtdgpaddmheagoaaDoorTie
import Derived.Test.YtdgpaddmheagoaaDoorLaid
import Derived.Test.YtdgpaddmheagoaaDoorCards
import Derived.LaidMore
import Derived.OpenShut
import Derived.Lib.LaidTab
import Derived.SevenTiedAt
namespace Go.Proofs.YtdgpaddmheagoaaDoor
open Go.ChangeShapes Go.WideShapes Go.ChangeAt Go.RowKit
set_option linter.unusedVariables false
set_option linter.unusedSimpArgs false

namespace manifestPuts
theorem callLives (vals : Array Value) (w : World) : (callFunc 6 vals).run Tryd.prog w = .ok (.enter 6 vals) w := by kernel_rfl
theorem callPutR (vals : Array Value) (w : World) : (callFunc 13 vals).run Tryd.prog w = .ok (.enter 13 vals) w := by kernel_rfl

/-- what a law's first reading leaves: two manifests in memory of their own. -/
structure At (w W : World) (g1 g2 : Nat) (m o : Man) (A A' : Option Addr) (c c' : Nat) : Prop where
  f : Frm Nix w W
  a : Blk W g1 24 #[.int .i64 m.gen, .int .i64 m.snap, .slice A m.segs.length c]
  b : Blk W g2 24 #[.int .i64 o.gen, .int .i64 o.snap, .slice A' o.segs.length c']
theorem At.nix {w W W1 : World} {g1 g2 : Nat} {m o : Man} {A A' : Option Addr} {c c' : Nat} (h : At w W g1 g2 m o A A' c c') (hf : Frm Nix W W1) : At w W1 g1 g2 m o A A' c c' :=
  ⟨h.f.trans hf, h.a.frm hf id, h.b.frm hf id⟩

set_option maxRecDepth 100000 in
set_option maxHeartbeats 8000000 in
theorem walk (m : Man) (A : Option Addr) (c : Nat) (o : Man) (A' : Option Addr) (c' : Nat) (w : World) (h : ManIn w (OldB w) m A c) (h' : ManIn w (OldB w) o A' c') (ht : Tab w) :
    Calls Tryd.prog 3 #[manV m A c, manV o A' c'] w fun e w' => e = .returned (.bool true) ∧ Frm Nix w w' := by
  have HT := Lib.hid ht
  have hA0 : At w ((w.alloc (.cells #[.int .i64 m.gen, .int .i64 m.snap, .slice A m.segs.length c] 24)).alloc (.cells #[.int .i64 o.gen, .int .i64 o.snap, .slice A' o.segs.length c'] 24)) w.heap.size (w.heap.size + 1) m o A A' c c' := by
    refine ⟨((Frm.refl Nix w).alloc _).alloc _, (Blk.new w _ _).alloc _, ?_⟩
    have := Blk.new (w.alloc (.cells #[.int .i64 m.gen, .int .i64 m.snap, .slice A m.segs.length c] 24)) 24 #[.int .i64 o.gen, .int .i64 o.snap, .slice A' o.segs.length c']
    simpa using this
  have H0 := Lib.hid hA0
  have HM := Lib.hid h
  have HO := Lib.hid h'
  have hcl : m.segs.length ≤ maxLen := Nat.le_trans h.cap h.max
  have hcl' : o.segs.length ≤ maxLen := Nat.le_trans h'.cap h'.max
  unfold maxLen at hcl hcl'
  clear h h' ht hA0
  unfold manV
  by_cases hla : 100 < m.segs.length ∨ 100 < o.segs.length
  · have KL : Hid (∀ W, Frm Nix w W → Calls Tryd.prog 6 #[] W fun e w' => e = .returned (.bool true) ∧ Frm Nix W w') := fun W hW => lives_any W (HT.out.nix hW)
    rcases hla with hla | hla
    · have hl : decide ((100 : Int) < (m.segs.length : Int)) = true := by simp; omega
      go_enter Tryd.func3, Tryd.ntmps3
      go_wp2_with (go_at_call 6; refine (KL.out _ H0.out.f).mono ?_; rintro e w1 ⟨rfl, hf⟩)
      go_ret
      exact ⟨rfl, H0.out.f.trans hf⟩
    · have hl : decide ((100 : Int) < (o.segs.length : Int)) = true := by simp; omega
      go_enter Tryd.func3, Tryd.ntmps3
      by_cases hlb : decide ((100 : Int) < (m.segs.length : Int)) = true
      · go_wp2_with (go_at_call 6; refine (KL.out _ H0.out.f).mono ?_; rintro e w1 ⟨rfl, hf⟩)
        go_ret
        exact ⟨rfl, H0.out.f.trans hf⟩
      · have hlb := Bool.eq_false_iff.2 hlb
        go_wp2_with (go_at_call 6; refine (KL.out _ H0.out.f).mono ?_; rintro e w1 ⟨rfl, hf⟩)
        go_ret
        exact ⟨rfl, H0.out.f.trans hf⟩
  have hl1 : decide ((100 : Int) < (m.segs.length : Int)) = false := by simp; omega
  have hl2 : decide ((100 : Int) < (o.segs.length : Int)) = false := by simp; omega
  have KS1 : Hid (∀ W, Frm Nix w W → Calls Tryd.prog 8 #[.agg #[.int .i64 m.gen, .int .i64 m.snap, .slice A m.segs.length c], .agg #[.int .i64 o.gen, .int .i64 o.snap, .slice A' o.segs.length c']] W fun e w' => e = .returned (.bool (manEq m o)) ∧ Frm Nix W w') := fun W hW => pSame_any m o A A' c c' _ _ W (HM.out.nix hW) (HO.out.nix hW) (by omega) (by omega)
  have KS2 : Hid (∀ W, Frm Nix w W → Calls Tryd.prog 9 #[.agg #[.int .i64 m.gen, .int .i64 m.snap, .slice A m.segs.length c], .agg #[.int .i64 o.gen, .int .i64 o.snap, .slice A' o.segs.length c']] W fun e w' => e = .returned (.bool (manEq m o)) ∧ Frm Nix W w') := fun W hW => rSame_any m o A A' c c' _ _ W (HM.out.nix hW) (HO.out.nix hW) (by omega) (by omega)
  generalize manEq m o = eqB at *
  clear hcl hcl' hla
  cases hok : manOk m with
  | false =>
    have KP : Hid (∀ W, Frm Nix w W → Calls Tryd.prog 7 #[.agg #[.int .i64 m.gen, .int .i64 m.snap, .slice A m.segs.length c]] W fun e w' => e = .returned (.tuple #[.slice none 0 0, .int .i64 1]) ∧ Frm Nix W w') := fun W hW => pPut_no m A c _ W (HM.out.nix hW) hok
    have KC : Hid (∀ W, Frm Nix w W → Calls Tryd.prog 10 #[.agg #[.int .i64 m.gen, .int .i64 m.snap, .slice A m.segs.length c]] W fun e w' => e = .returned (.bool false) ∧ Frm Nix W w') := fun W hW => (rCheck_any m A c _ W (HM.out.nix hW)).mono fun e w' h => by rwa [hok] at h
    have KD : Hid (∀ W, Frm Nix w W → Calls Tryd.prog 11 #[.agg #[.int .i64 m.gen, .int .i64 m.snap, .slice A m.segs.length c]] W fun e w' => e = .returned (.int .i64 1) ∧ Frm Nix W w') := fun W hW => (pCheck_any m A c _ W (HM.out.nix hW)).mono fun e w' h => by unfold CheckOut at h; rwa [hok] at h
    clear hok
    go_enter Tryd.func3, Tryd.ntmps3
    go_wp2_with fail
    refine (KP.out _ H0.out.f).mono ?_
    rintro e w1 ⟨rfl, hf1⟩
    have H1 := Lib.hid (H0.out.nix hf1)
    clear hf1
    have HX : Hid (∀ W, Frm Nix w1 W → W.cell? ⟨w.heap.size, 0, none⟩ = some (.int .i64 m.gen) ∧ W.cell? ⟨w.heap.size, 1, none⟩ = some (.int .i64 m.snap) ∧ W.cell? ⟨w.heap.size, 2, none⟩ = some (.slice A m.segs.length c) ∧ W.cell? ⟨w.heap.size + 1, 0, none⟩ = some (.int .i64 o.gen) ∧ W.cell? ⟨w.heap.size + 1, 1, none⟩ = some (.int .i64 o.snap) ∧ W.cell? ⟨w.heap.size + 1, 2, none⟩ = some (.slice A' o.segs.length c')) := fun W hW => by
      have h := H1.out.nix hW
      exact ⟨h.a.cell 0, h.a.cell 1, h.a.cell 2, h.b.cell 0, h.b.cell 1, h.b.cell 2⟩
    have KL : Hid (∀ W, Frm Nix w1 W → Calls Tryd.prog 6 #[] W fun e w' => e = .returned (.bool true) ∧ Frm Nix w1 w') := fun W hW => (lives_any W (HT.out.nix (H1.out.f.trans hW))).mono fun e w' h => ⟨h.1, hW.trans h.2⟩
    have K1 : Hid (∀ W, Frm Nix w1 W → Calls Tryd.prog 8 #[.agg #[.int .i64 m.gen, .int .i64 m.snap, .slice A m.segs.length c], .agg #[.int .i64 o.gen, .int .i64 o.snap, .slice A' o.segs.length c']] W fun e w' => e = .returned (.bool eqB) ∧ Frm Nix w1 w') := fun W hW => (KS1.out W (H1.out.f.trans hW)).mono fun e w' h => ⟨h.1, hW.trans h.2⟩
    have K2 : Hid (∀ W, Frm Nix w1 W → Calls Tryd.prog 9 #[.agg #[.int .i64 m.gen, .int .i64 m.snap, .slice A m.segs.length c], .agg #[.int .i64 o.gen, .int .i64 o.snap, .slice A' o.segs.length c']] W fun e w' => e = .returned (.bool eqB) ∧ Frm Nix w1 w') := fun W hW => (KS2.out W (H1.out.f.trans hW)).mono fun e w' h => ⟨h.1, hW.trans h.2⟩
    have HFin : Hid (∀ W, Frm Nix w1 W → Frm Nix w W) := fun W hW => H1.out.f.trans hW
    clear H1
    go_wp2_with fail
    refine wp_region_held_drew (S := fun W => W.cell? ⟨w.heap.size, 0, none⟩ = some (.int .i64 m.gen) ∧ W.cell? ⟨w.heap.size, 1, none⟩ = some (.int .i64 m.snap) ∧ W.cell? ⟨w.heap.size, 2, none⟩ = some (.slice A m.segs.length c) ∧ W.cell? ⟨w.heap.size + 1, 0, none⟩ = some (.int .i64 o.gen) ∧ W.cell? ⟨w.heap.size + 1, 1, none⟩ = some (.int .i64 o.snap) ∧ W.cell? ⟨w.heap.size + 1, 2, none⟩ = some (.slice A' o.segs.length c')) (by kernel_rfl) (HX.out _ (Frm.refl Nix w1).drew) (fun hHeld => ?_)
    refine wpAnyH_ready (rs := [0]) (by kernel_rfl) (by simp) ?_
    refine AllReadyH.cons rfl (fun K hK => ?_) AllReadyH.nil
    refine step_go_w (by rfl) _ _ (by rfl) (by rfl) (callLives _) (KL.out _ (Frm.refl Nix w1).drew) ?_
    rintro e w2 ⟨rfl, hf2⟩
    refine ⟨_, rfl, ?_⟩
    refine hK.out _ _ (HX.out _ hf2) (fun hHeld => ?_)
    clear hK K
    try simp only [List.getElem_toArray, List.getElem_cons_zero, List.getElem_cons_succ, Act.put, List.setIfInBounds_toArray, List.set_cons_zero, List.set_cons_succ]
    refine wpAnyH_take (i := 1) (v := ?_) rfl (by kernel_rfl) (by kernel_rfl) (by kernel_rfl) (fun _ _ _ h => h) (Or.inl ⟨by rfl, ?_⟩) (by assumption) ?_
    rotate_left
    · intro wS hSw; (try dsimp only at hSw)
      go_simp
      all_goals with_reducible rfl
    try simp only [List.getElem_toArray, List.getElem_cons_zero, List.getElem_cons_succ, Act.put, List.setIfInBounds_toArray, List.set_cons_zero, List.set_cons_succ]
    refine wpAnyH_take (i := 2) (v := ?_) rfl (by kernel_rfl) (by kernel_rfl) (by kernel_rfl) (fun _ _ _ h => h) (Or.inl ⟨by rfl, ?_⟩) (by assumption) ?_
    rotate_left
    · intro wS hSw; (try dsimp only at hSw)
      go_simp
      all_goals with_reducible rfl
    try simp only [List.getElem_toArray, List.getElem_cons_zero, List.getElem_cons_succ, Act.put, List.setIfInBounds_toArray, List.set_cons_zero, List.set_cons_succ]
    refine wpAnyH_take (i := 3) (v := ?_) rfl (by kernel_rfl) (by kernel_rfl) (by kernel_rfl) (fun _ _ _ h => h) (Or.inl ⟨by rfl, ?_⟩) (by assumption) ?_
    rotate_left
    · intro wS hSw; (try dsimp only at hSw)
      go_simp
      all_goals with_reducible rfl
    try simp only [List.getElem_toArray, List.getElem_cons_zero, List.getElem_cons_succ, Act.put, List.setIfInBounds_toArray, List.set_cons_zero, List.set_cons_succ]
    refine wpAnyH_take (i := 4) (v := ?_) rfl (by kernel_rfl) (by kernel_rfl) (by kernel_rfl) (fun _ _ _ h => h) (Or.inl ⟨by rfl, ?_⟩) (by assumption) ?_
    rotate_left
    · intro wS hSw; (try dsimp only at hSw)
      go_simp
      all_goals with_reducible rfl
    try simp only [List.getElem_toArray, List.getElem_cons_zero, List.getElem_cons_succ, Act.put, List.setIfInBounds_toArray, List.set_cons_zero, List.set_cons_succ]
    refine wpAnyH_take (i := 6) (v := ?_) rfl (by kernel_rfl) (by kernel_rfl) (by kernel_rfl) (fun _ _ _ h => h) (Or.inl ⟨by rfl, ?_⟩) (by assumption) ?_
    rotate_left
    · intro wS hSw; (try dsimp only at hSw)
      go_simp
      all_goals with_reducible rfl
    try simp only [List.getElem_toArray, List.getElem_cons_zero, List.getElem_cons_succ, Act.put, List.setIfInBounds_toArray, List.set_cons_zero, List.set_cons_succ]
    refine wpAnyH_take (i := 7) (v := ?_) rfl (by kernel_rfl) (by kernel_rfl) (by kernel_rfl) (fun _ _ _ h => h) (Or.inl ⟨by rfl, ?_⟩) (by assumption) ?_
    rotate_left
    · intro wS hSw; (try dsimp only at hSw)
      go_simp
      all_goals with_reducible rfl
    try simp only [List.getElem_toArray, List.getElem_cons_zero, List.getElem_cons_succ, Act.put, List.setIfInBounds_toArray, List.set_cons_zero, List.set_cons_succ]
    refine wpAnyH_ready (rs := [5]) (by kernel_rfl) (by simp) ?_
    refine AllReadyH.cons rfl (fun K hK => ?_) AllReadyH.nil
    refine step_go_w (by rfl) _ _ (by rfl) (by rfl) (callSame _) (K1.out _ hf2) ?_
    rintro e w3 ⟨rfl, hf3⟩
    refine ⟨_, rfl, ?_⟩
    refine hK.out _ _ (HX.out _ hf3) (fun hHeld => ?_)
    clear hK K
    try simp only [List.getElem_toArray, List.getElem_cons_zero, List.getElem_cons_succ, Act.put, List.setIfInBounds_toArray, List.set_cons_zero, List.set_cons_succ]
    refine wpAnyH_ready (rs := [8]) (by kernel_rfl) (by simp) ?_
    refine AllReadyH.cons rfl (fun K hK => ?_) AllReadyH.nil
    refine step_go_w (by rfl) _ _ (by rfl) (by rfl) (callSameR _) (K2.out _ hf3) ?_
    rintro e w4 ⟨rfl, hf4⟩
    refine ⟨_, rfl, ?_⟩
    refine hK.out _ _ (HX.out _ hf4) (fun hHeld => ?_)
    clear hK K
    try simp only [List.getElem_toArray, List.getElem_cons_zero, List.getElem_cons_succ, Act.put, List.setIfInBounds_toArray, List.set_cons_zero, List.set_cons_succ]
    refine wpAnyH_take (i := 9) (v := ?_) rfl (by kernel_rfl) (by kernel_rfl) (by kernel_rfl) (fun _ _ _ h => h) (Or.inl ⟨by rfl, ?_⟩) (by assumption) ?_
    rotate_left
    · intro wS hSw; (try dsimp only at hSw)
      go_simp
      all_goals with_reducible rfl
    try simp only [List.getElem_toArray, List.getElem_cons_zero, List.getElem_cons_succ, Act.put, List.setIfInBounds_toArray, List.set_cons_zero, List.set_cons_succ]
    refine wpAnyH_take (i := 10) (v := ?_) rfl (by kernel_rfl) (by kernel_rfl) (by kernel_rfl) (fun _ _ _ h => h) (Or.inl ⟨by rfl, ?_⟩) (by assumption) ?_
    rotate_left
    · intro wS hSw; (try dsimp only at hSw)
      go_simp
      all_goals with_reducible rfl
    try simp only [List.getElem_toArray, List.getElem_cons_zero, List.getElem_cons_succ, Act.put, List.setIfInBounds_toArray, List.set_cons_zero, List.set_cons_succ]
    refine wpAnyH_done (by kernel_rfl) ?_ _
    obtain ⟨x0, x1, x2, -, -, -⟩ := HX.out _ hf4
    go_wp2_with fail
    refine (KC.out _ (HFin.out _ hf4)).mono ?_
    rintro e w5 ⟨rfl, hf5⟩
    obtain ⟨x0, x1, x2, -, -, -⟩ := HX.out _ (hf4.trans hf5)
    have H5 := Lib.hid (HFin.out _ (hf4.trans hf5))
    clear hf5
    go_wp2_with (go_at_call 11; refine (KD.out _ H5.out).mono ?_; rintro e w6 ⟨rfl, hf6⟩)
    go_ret
    exact ⟨rfl, H5.out.trans hf6⟩
  | true =>
    have hlen := (manOk_parts hok).2.2.2.2.2.1
    have hput := manPut_len (manOk_parts hok).2.2.2.2.2.1
    have KP : Hid (∀ W, Frm Nix w W → Calls Tryd.prog 7 #[.agg #[.int .i64 m.gen, .int .i64 m.snap, .slice A m.segs.length c]] W (BytesOkOut W (manPut m) 0)) := fun W hW => pPut_yes m A c _ W (HM.out.nix hW) hok (HT.out.nix hW)
    have KC : Hid (∀ W, Frm Nix w W → Calls Tryd.prog 10 #[.agg #[.int .i64 m.gen, .int .i64 m.snap, .slice A m.segs.length c]] W fun e w' => e = .returned (.bool true) ∧ Frm Nix W w') := fun W hW => (rCheck_any m A c _ W (HM.out.nix hW)).mono fun e w' h => by rwa [hok] at h
    have KD : Hid (∀ W, Frm Nix w W → Calls Tryd.prog 11 #[.agg #[.int .i64 m.gen, .int .i64 m.snap, .slice A m.segs.length c]] W fun e w' => e = .returned (.int .i64 0) ∧ Frm Nix W w') := fun W hW => (pCheck_any m A c _ W (HM.out.nix hW)).mono fun e w' h => by unfold CheckOut at h; rwa [hok] at h
    have KPR : Hid (∀ W, Frm Nix w W → Calls Tryd.prog 13 #[.agg #[.int .i64 m.gen, .int .i64 m.snap, .slice A m.segs.length c]] W fun e w' => ∃ A1 c1, e = .returned (.slice A1 (manPut m).length c1) ∧ Frm Nix W w' ∧ (convert 26 9 (.slice A1 (manPut m).length c1)).run Tryd.prog w' = .ok (.string ⟨(manPut m).toArray⟩) w') := fun W hW => (rPut_yes m A c _ W (HM.out.nix hW) hok).mono fun e w' h => by
      obtain ⟨A1, c1, he, hr⟩ := h
      exact ⟨A1, c1, he, hr.frm, run_str_of hr.rd⟩
    have KG : Hid (∀ W W1 A1 c1, Frm Nix w W1 → RowIn 5 W W1 (.slice A1 (manPut m).length c1) (manPut m).length (bvs (manPut m)) → ∀ W2, Frm Nix W1 W2 → Calls Tryd.prog 12 #[.slice A1 (manPut m).length c1] W2 fun e w' => ∃ A2 c2, e = .returned (.tuple #[.agg #[.int .i64 m.gen, .int .i64 m.snap, .slice A2 m.segs.length c2], .int .i64 0]) ∧ RowIn 3 W2 w' (.slice A2 m.segs.length c2) m.segs.length (ivs m.segs)) := fun W W1 A1 c1 hW1 hr W2 hW2 => by
      obtain ⟨A3, c3, e3, hz, hc1, hc2, hown⟩ := hr.shape
      injection e3 with ea eb ec
      subst ea; subst ec
      have hr2 := hr.more hW2
      refine (pGet_any A1 _ c1 (manPut m) _ W2 rfl hr2.rd (by omega) hc1 hc2 ?_ (HT.out.nix (hW1.trans hW2))).mono fun e w' h => ?_
      · intro hn
        exact ⟨by have := hz hn; omega, hz hn⟩
      · unfold GetOut at h
        rw [manGet_put hok] at h
        exact h
    have KST : Hid (∀ W A2 c2 G, ManIn W G m A2 c2 → Frm Nix w W → Calls Tryd.prog 9 #[.agg #[.int .i64 m.gen, .int .i64 m.snap, .slice A2 m.segs.length c2], .agg #[.int .i64 m.gen, .int .i64 m.snap, .slice A m.segs.length c]] W fun e w' => e = .returned (.bool true) ∧ Frm Nix W w') := fun W A2 c2 G hm hW => (rSame_any m m A2 A c2 c _ _ W hm (HM.out.nix hW) (by omega) (by omega)).mono fun e w' h => by rwa [(manEq_iff m m).2 rfl] at h
    have HOK := Lib.hid hok
    clear hok hlen hput
    go_enter Tryd.func3, Tryd.ntmps3
    go_wp2_with fail
    refine (KP.out _ H0.out.f).mono ?_
    rintro e w1 ⟨A1, c1, rfl, hr1⟩
    have H1 := Lib.hid (H0.out.nix hr1.frm)
    have HR1 := Lib.hid hr1
    clear hr1
    have HX : Hid (∀ W, Frm Nix w1 W → W.cell? ⟨w.heap.size, 0, none⟩ = some (.int .i64 m.gen) ∧ W.cell? ⟨w.heap.size, 1, none⟩ = some (.int .i64 m.snap) ∧ W.cell? ⟨w.heap.size, 2, none⟩ = some (.slice A m.segs.length c) ∧ W.cell? ⟨w.heap.size + 1, 0, none⟩ = some (.int .i64 o.gen) ∧ W.cell? ⟨w.heap.size + 1, 1, none⟩ = some (.int .i64 o.snap) ∧ W.cell? ⟨w.heap.size + 1, 2, none⟩ = some (.slice A' o.segs.length c')) := fun W hW => by
      have h := H1.out.nix hW
      exact ⟨h.a.cell 0, h.a.cell 1, h.a.cell 2, h.b.cell 0, h.b.cell 1, h.b.cell 2⟩
    have KL : Hid (∀ W, Frm Nix w1 W → Calls Tryd.prog 6 #[] W fun e w' => e = .returned (.bool true) ∧ Frm Nix w1 w') := fun W hW => (lives_any W (HT.out.nix (H1.out.f.trans hW))).mono fun e w' h => ⟨h.1, hW.trans h.2⟩
    have K1 : Hid (∀ W, Frm Nix w1 W → Calls Tryd.prog 8 #[.agg #[.int .i64 m.gen, .int .i64 m.snap, .slice A m.segs.length c], .agg #[.int .i64 o.gen, .int .i64 o.snap, .slice A' o.segs.length c']] W fun e w' => e = .returned (.bool eqB) ∧ Frm Nix w1 w') := fun W hW => (KS1.out W (H1.out.f.trans hW)).mono fun e w' h => ⟨h.1, hW.trans h.2⟩
    have K2 : Hid (∀ W, Frm Nix w1 W → Calls Tryd.prog 9 #[.agg #[.int .i64 m.gen, .int .i64 m.snap, .slice A m.segs.length c], .agg #[.int .i64 o.gen, .int .i64 o.snap, .slice A' o.segs.length c']] W fun e w' => e = .returned (.bool eqB) ∧ Frm Nix w1 w') := fun W hW => (KS2.out W (H1.out.f.trans hW)).mono fun e w' h => ⟨h.1, hW.trans h.2⟩
    have HFin : Hid (∀ W, Frm Nix w1 W → Frm Nix w W) := fun W hW => H1.out.f.trans hW
    have H1F : Hid (Frm Nix w w1) := H1.out.f
    clear H1
    go_wp2_with fail
    refine wp_region_held_drew (S := fun W => W.cell? ⟨w.heap.size, 0, none⟩ = some (.int .i64 m.gen) ∧ W.cell? ⟨w.heap.size, 1, none⟩ = some (.int .i64 m.snap) ∧ W.cell? ⟨w.heap.size, 2, none⟩ = some (.slice A m.segs.length c) ∧ W.cell? ⟨w.heap.size + 1, 0, none⟩ = some (.int .i64 o.gen) ∧ W.cell? ⟨w.heap.size + 1, 1, none⟩ = some (.int .i64 o.snap) ∧ W.cell? ⟨w.heap.size + 1, 2, none⟩ = some (.slice A' o.segs.length c')) (by kernel_rfl) (HX.out _ (Frm.refl Nix w1).drew) (fun hHeld => ?_)
    refine wpAnyH_ready (rs := [0]) (by kernel_rfl) (by simp) ?_
    refine AllReadyH.cons rfl (fun K hK => ?_) AllReadyH.nil
    refine step_go_w (by rfl) _ _ (by rfl) (by rfl) (callLives _) (KL.out _ (Frm.refl Nix w1).drew) ?_
    rintro e w2 ⟨rfl, hf2⟩
    refine ⟨_, rfl, ?_⟩
    refine hK.out _ _ (HX.out _ hf2) (fun hHeld => ?_)
    clear hK K
    try simp only [List.getElem_toArray, List.getElem_cons_zero, List.getElem_cons_succ, Act.put, List.setIfInBounds_toArray, List.set_cons_zero, List.set_cons_succ]
    refine wpAnyH_take (i := 1) (v := ?_) rfl (by kernel_rfl) (by kernel_rfl) (by kernel_rfl) (fun _ _ _ h => h) (Or.inl ⟨by rfl, ?_⟩) (by assumption) ?_
    rotate_left
    · intro wS hSw; (try dsimp only at hSw)
      go_simp
      all_goals with_reducible rfl
    try simp only [List.getElem_toArray, List.getElem_cons_zero, List.getElem_cons_succ, Act.put, List.setIfInBounds_toArray, List.set_cons_zero, List.set_cons_succ]
    refine wpAnyH_take (i := 2) (v := ?_) rfl (by kernel_rfl) (by kernel_rfl) (by kernel_rfl) (fun _ _ _ h => h) (Or.inl ⟨by rfl, ?_⟩) (by assumption) ?_
    rotate_left
    · intro wS hSw; (try dsimp only at hSw)
      go_simp
      all_goals with_reducible rfl
    try simp only [List.getElem_toArray, List.getElem_cons_zero, List.getElem_cons_succ, Act.put, List.setIfInBounds_toArray, List.set_cons_zero, List.set_cons_succ]
    refine wpAnyH_take (i := 3) (v := ?_) rfl (by kernel_rfl) (by kernel_rfl) (by kernel_rfl) (fun _ _ _ h => h) (Or.inl ⟨by rfl, ?_⟩) (by assumption) ?_
    rotate_left
    · intro wS hSw; (try dsimp only at hSw)
      go_simp
      all_goals with_reducible rfl
    try simp only [List.getElem_toArray, List.getElem_cons_zero, List.getElem_cons_succ, Act.put, List.setIfInBounds_toArray, List.set_cons_zero, List.set_cons_succ]
    refine wpAnyH_take (i := 4) (v := ?_) rfl (by kernel_rfl) (by kernel_rfl) (by kernel_rfl) (fun _ _ _ h => h) (Or.inl ⟨by rfl, ?_⟩) (by assumption) ?_
    rotate_left
    · intro wS hSw; (try dsimp only at hSw)
      go_simp
      all_goals with_reducible rfl
    try simp only [List.getElem_toArray, List.getElem_cons_zero, List.getElem_cons_succ, Act.put, List.setIfInBounds_toArray, List.set_cons_zero, List.set_cons_succ]
    refine wpAnyH_take (i := 6) (v := ?_) rfl (by kernel_rfl) (by kernel_rfl) (by kernel_rfl) (fun _ _ _ h => h) (Or.inl ⟨by rfl, ?_⟩) (by assumption) ?_
    rotate_left
    · intro wS hSw; (try dsimp only at hSw)
      go_simp
      all_goals with_reducible rfl
    try simp only [List.getElem_toArray, List.getElem_cons_zero, List.getElem_cons_succ, Act.put, List.setIfInBounds_toArray, List.set_cons_zero, List.set_cons_succ]
    refine wpAnyH_take (i := 7) (v := ?_) rfl (by kernel_rfl) (by kernel_rfl) (by kernel_rfl) (fun _ _ _ h => h) (Or.inl ⟨by rfl, ?_⟩) (by assumption) ?_
    rotate_left
    · intro wS hSw; (try dsimp only at hSw)
      go_simp
      all_goals with_reducible rfl
    try simp only [List.getElem_toArray, List.getElem_cons_zero, List.getElem_cons_succ, Act.put, List.setIfInBounds_toArray, List.set_cons_zero, List.set_cons_succ]
    refine wpAnyH_ready (rs := [5]) (by kernel_rfl) (by simp) ?_
    refine AllReadyH.cons rfl (fun K hK => ?_) AllReadyH.nil
    refine step_go_w (by rfl) _ _ (by rfl) (by rfl) (callSame _) (K1.out _ hf2) ?_
    rintro e w3 ⟨rfl, hf3⟩
    refine ⟨_, rfl, ?_⟩
    refine hK.out _ _ (HX.out _ hf3) (fun hHeld => ?_)
    clear hK K
    try simp only [List.getElem_toArray, List.getElem_cons_zero, List.getElem_cons_succ, Act.put, List.setIfInBounds_toArray, List.set_cons_zero, List.set_cons_succ]
    refine wpAnyH_ready (rs := [8]) (by kernel_rfl) (by simp) ?_
    refine AllReadyH.cons rfl (fun K hK => ?_) AllReadyH.nil
    refine step_go_w (by rfl) _ _ (by rfl) (by rfl) (callSameR _) (K2.out _ hf3) ?_
    rintro e w4 ⟨rfl, hf4⟩
    refine ⟨_, rfl, ?_⟩
    refine hK.out _ _ (HX.out _ hf4) (fun hHeld => ?_)
    clear hK K
    try simp only [List.getElem_toArray, List.getElem_cons_zero, List.getElem_cons_succ, Act.put, List.setIfInBounds_toArray, List.set_cons_zero, List.set_cons_succ]
    refine wpAnyH_take (i := 9) (v := ?_) rfl (by kernel_rfl) (by kernel_rfl) (by kernel_rfl) (fun _ _ _ h => h) (Or.inl ⟨by rfl, ?_⟩) (by assumption) ?_
    rotate_left
    · intro wS hSw; (try dsimp only at hSw)
      go_simp
      all_goals with_reducible rfl
    try simp only [List.getElem_toArray, List.getElem_cons_zero, List.getElem_cons_succ, Act.put, List.setIfInBounds_toArray, List.set_cons_zero, List.set_cons_succ]
    refine wpAnyH_take (i := 10) (v := ?_) rfl (by kernel_rfl) (by kernel_rfl) (by kernel_rfl) (fun _ _ _ h => h) (Or.inl ⟨by rfl, ?_⟩) (by assumption) ?_
    rotate_left
    · intro wS hSw; (try dsimp only at hSw)
      go_simp
      all_goals with_reducible rfl
    try simp only [List.getElem_toArray, List.getElem_cons_zero, List.getElem_cons_succ, Act.put, List.setIfInBounds_toArray, List.set_cons_zero, List.set_cons_succ]
    refine wpAnyH_done (by kernel_rfl) ?_ _
    obtain ⟨x0, x1, x2, -, -, -⟩ := HX.out _ hf4
    go_wp2_with fail
    refine (KC.out _ (HFin.out _ hf4)).mono ?_
    rintro e w5 ⟨rfl, hf5⟩
    have H5 : Hid (Frm Nix w1 w5) := hf4.trans hf5
    clear hf5 hf4 hf3 hf2 x0 x1 x2
    go_wp2_with fail
    refine (KG.out _ _ _ _ H1F.out HR1.out _ H5.out).mono ?_
    rintro e w6 ⟨A6, c6, rfl, hr6⟩
    have hfa : Frm Nix w6 (w6.alloc (.cells #[.int .i64 m.gen, .int .i64 m.snap, .slice A6 m.segs.length c6] 24)) := (Frm.refl Nix w6).alloc _
    have hX9 : ∀ W, Frm Nix (w6.alloc (.cells #[.int .i64 m.gen, .int .i64 m.snap, .slice A6 m.segs.length c6] 24)) W → (Frm Nix w W ∧ Blk W w6.heap.size 24 #[.int .i64 m.gen, .int .i64 m.snap, .slice A6 m.segs.length c6] ∧ ManIn W (fun k => (Value.slice A6 m.segs.length c6).ownBlock = some k) m A6 c6 ∧ (convert 26 9 (.slice A1 (manPut m).length c1)).run Tryd.prog W = .ok (.string ⟨(manPut m).toArray⟩) W) := fun W hW => by
      have hf1 : Frm Nix w1 W := H5.out.trans (hr6.frm.trans (hfa.trans hW))
      exact ⟨H1F.out.trans hf1, (Blk.new w6 _ _).frm hW id, (hr6.manIn HOK.out).nix (hfa.trans hW), run_str_of (HR1.out.more hf1).rd⟩
    have hf9 : ∀ W, Frm Nix (w6.alloc (.cells #[.int .i64 m.gen, .int .i64 m.snap, .slice A6 m.segs.length c6] 24)) W → Frm Nix w1 W := fun W hW => H5.out.trans (hr6.frm.trans (hfa.trans hW))
    have HX1 := HX
    have HX : Hid (∀ W, Frm Nix (w6.alloc (.cells #[.int .i64 m.gen, .int .i64 m.snap, .slice A6 m.segs.length c6] 24)) W → W.cell? ⟨w.heap.size, 0, none⟩ = some (.int .i64 m.gen) ∧ W.cell? ⟨w.heap.size, 1, none⟩ = some (.int .i64 m.snap) ∧ W.cell? ⟨w.heap.size, 2, none⟩ = some (.slice A m.segs.length c) ∧ W.cell? ⟨w6.heap.size, 0, none⟩ = some (.int .i64 m.gen) ∧ W.cell? ⟨w6.heap.size, 1, none⟩ = some (.int .i64 m.snap) ∧ W.cell? ⟨w6.heap.size, 2, none⟩ = some (.slice A6 m.segs.length c6) ∧ (convert 26 9 (.slice A1 (manPut m).length c1)).run Tryd.prog W = .ok (.string ⟨(manPut m).toArray⟩) W) := fun W hW => by
      obtain ⟨hf, hb, -, hs⟩ := hX9 W hW
      obtain ⟨x0, x1, x2, -, -, -⟩ := HX1.out _ (hf9 W hW)
      exact ⟨x0, x1, x2, hb.cell 0, hb.cell 1, hb.cell 2, hs⟩
    obtain ⟨w7, hw7⟩ : ∃ w7, w7 = w6.alloc (.cells #[.int .i64 m.gen, .int .i64 m.snap, .slice A6 m.segs.length c6] 24) := ⟨_, rfl⟩
    rw [← hw7] at hX9 HX
    have K1 : Hid (∀ W, Frm Nix w7 W → Calls Tryd.prog 11 #[.agg #[.int .i64 m.gen, .int .i64 m.snap, .slice A m.segs.length c]] W fun e w' => e = .returned (.int .i64 0) ∧ Frm Nix w7 w') := fun W hW => (KD.out W (hX9 W hW).1).mono fun e w' h => ⟨h.1, hW.trans h.2⟩
    have K2 : Hid (∀ W, Frm Nix w7 W → Calls Tryd.prog 13 #[.agg #[.int .i64 m.gen, .int .i64 m.snap, .slice A m.segs.length c]] W fun e w' => ∃ A1 c1, e = .returned (.slice A1 (manPut m).length c1) ∧ Frm Nix w7 w' ∧ (convert 26 9 (.slice A1 (manPut m).length c1)).run Tryd.prog w' = .ok (.string ⟨(manPut m).toArray⟩) w') := fun W hW => (KPR.out W (hX9 W hW).1).mono fun e w' h => by
      obtain ⟨A3, c3, he, hf, hs⟩ := h
      exact ⟨A3, c3, he, hW.trans hf, hs⟩
    have K3 : Hid (∀ W, Frm Nix w7 W → Calls Tryd.prog 9 #[.agg #[.int .i64 m.gen, .int .i64 m.snap, .slice A6 m.segs.length c6], .agg #[.int .i64 m.gen, .int .i64 m.snap, .slice A m.segs.length c]] W fun e w' => e = .returned (.bool true) ∧ Frm Nix w7 w') := fun W hW => (KST.out W A6 c6 _ (hX9 W hW).2.2.1 (hX9 W hW).1).mono fun e w' h => ⟨h.1, hW.trans h.2⟩
    have HFin9 : Hid (∀ W, Frm Nix w7 W → Frm Nix w W) := fun W hW => (hX9 W hW).1
    have HW7 := Lib.hid hw7
    clear hX9 hf9 hfa hr6 KP KC KD KPR KG KST KL KS1 KS2 HX1 HR1 H5 H1F HFin hw7
    generalize (⟨(manPut m).toArray⟩ : ByteArray) = str at *
    generalize (manPut m).length = N at *
    go_wp2_with fail
    rw [← HW7.out]
    refine wp_region_held_drew (S := fun W => W.cell? ⟨w.heap.size, 0, none⟩ = some (.int .i64 m.gen) ∧ W.cell? ⟨w.heap.size, 1, none⟩ = some (.int .i64 m.snap) ∧ W.cell? ⟨w.heap.size, 2, none⟩ = some (.slice A m.segs.length c) ∧ W.cell? ⟨w6.heap.size, 0, none⟩ = some (.int .i64 m.gen) ∧ W.cell? ⟨w6.heap.size, 1, none⟩ = some (.int .i64 m.snap) ∧ W.cell? ⟨w6.heap.size, 2, none⟩ = some (.slice A6 m.segs.length c6) ∧ (convert 26 9 (.slice A1 N c1)).run Tryd.prog W = .ok (.string str) W) (by kernel_rfl) (HX.out _ (Frm.refl Nix w7).drew) (fun hHeld => ?_)
    refine wpAnyH_take (i := 0) (v := ?_) rfl (by kernel_rfl) (by kernel_rfl) (by kernel_rfl) (fun _ _ _ h => h) (Or.inl ⟨by rfl, ?_⟩) (by assumption) ?_
    rotate_left
    · intro wS hSw; (try dsimp only at hSw)
      go_simp
      all_goals with_reducible rfl
    try simp only [List.getElem_toArray, List.getElem_cons_zero, List.getElem_cons_succ, Act.put, List.setIfInBounds_toArray, List.set_cons_zero, List.set_cons_succ]
    refine wpAnyH_take (i := 1) (v := ?_) rfl (by kernel_rfl) (by kernel_rfl) (by kernel_rfl) (fun _ _ _ h => h) (Or.inl ⟨by rfl, ?_⟩) (by assumption) ?_
    rotate_left
    · intro wS hSw; (try dsimp only at hSw)
      go_simp
      all_goals with_reducible rfl
    try simp only [List.getElem_toArray, List.getElem_cons_zero, List.getElem_cons_succ, Act.put, List.setIfInBounds_toArray, List.set_cons_zero, List.set_cons_succ]
    refine wpAnyH_take (i := 2) (v := ?_) rfl (by kernel_rfl) (by kernel_rfl) (by kernel_rfl) (fun _ _ _ h => h) (Or.inl ⟨by rfl, ?_⟩) (by assumption) ?_
    rotate_left
    · intro wS hSw; (try dsimp only at hSw)
      go_simp
      all_goals with_reducible rfl
    try simp only [List.getElem_toArray, List.getElem_cons_zero, List.getElem_cons_succ, Act.put, List.setIfInBounds_toArray, List.set_cons_zero, List.set_cons_succ]
    refine wpAnyH_take (i := 3) (v := ?_) rfl (by kernel_rfl) (by kernel_rfl) (by kernel_rfl) (fun _ _ _ h => h) (Or.inl ⟨by rfl, ?_⟩) (by assumption) ?_
    rotate_left
    · intro wS hSw; (try dsimp only at hSw)
      go_simp
      all_goals with_reducible rfl
    try simp only [List.getElem_toArray, List.getElem_cons_zero, List.getElem_cons_succ, Act.put, List.setIfInBounds_toArray, List.set_cons_zero, List.set_cons_succ]
    refine wpAnyH_ready (rs := [4]) (by kernel_rfl) (by simp) ?_
    refine AllReadyH.cons rfl (fun K hK => ?_) AllReadyH.nil
    refine step_go_w (by rfl) _ _ (by rfl) (by rfl) (callCheck _) (K1.out _ (Frm.refl Nix w7).drew) ?_
    rintro e w8 ⟨rfl, hf8⟩
    refine ⟨_, rfl, ?_⟩
    refine hK.out _ _ (HX.out _ hf8) (fun hHeld => ?_)
    clear hK K
    try simp only [List.getElem_toArray, List.getElem_cons_zero, List.getElem_cons_succ, Act.put, List.setIfInBounds_toArray, List.set_cons_zero, List.set_cons_succ]
    refine wpAnyH_take (i := 5) (v := ?_) rfl (by kernel_rfl) (by kernel_rfl) (by kernel_rfl) (fun _ _ _ h => h) (Or.inl ⟨by rfl, ?_⟩) (by assumption) ?_
    rotate_left
    · intro wS hSw; (try dsimp only at hSw)
      go_simp
      all_goals with_reducible rfl
    try simp only [List.getElem_toArray, List.getElem_cons_zero, List.getElem_cons_succ, Act.put, List.setIfInBounds_toArray, List.set_cons_zero, List.set_cons_succ]
    refine wpAnyH_take (i := 6) (v := ?_) rfl (by kernel_rfl) (by kernel_rfl) (by kernel_rfl) (fun _ _ _ h => h) (Or.inl ⟨by rfl, ?_⟩) (by assumption) ?_
    rotate_left
    · intro wS hSw; (try dsimp only at hSw)
      go_simp
      all_goals with_reducible rfl
    try simp only [List.getElem_toArray, List.getElem_cons_zero, List.getElem_cons_succ, Act.put, List.setIfInBounds_toArray, List.set_cons_zero, List.set_cons_succ]
    refine wpAnyH_take (i := 7) (v := ?_) rfl (by kernel_rfl) (by kernel_rfl) (by kernel_rfl) (fun _ _ _ h => h) (Or.inl ⟨by rfl, ?_⟩) (by assumption) ?_
    rotate_left
    · intro wS hSw; (try dsimp only at hSw)
      go_simp
      all_goals with_reducible rfl
    try simp only [List.getElem_toArray, List.getElem_cons_zero, List.getElem_cons_succ, Act.put, List.setIfInBounds_toArray, List.set_cons_zero, List.set_cons_succ]
    refine wpAnyH_take (i := 8) (v := ?_) rfl (by kernel_rfl) (by kernel_rfl) (by kernel_rfl) (fun _ _ _ h => h) (Or.inl ⟨by rfl, ?_⟩) (by assumption) ?_
    rotate_left
    · intro wS hSw; (try dsimp only at hSw)
      go_simp
      all_goals with_reducible rfl
    try simp only [List.getElem_toArray, List.getElem_cons_zero, List.getElem_cons_succ, Act.put, List.setIfInBounds_toArray, List.set_cons_zero, List.set_cons_succ]
    refine wpAnyH_take (i := 9) (v := ?_) rfl (by kernel_rfl) (by kernel_rfl) (by kernel_rfl) (fun _ _ _ h => h) (Or.inl ⟨by rfl, ?_⟩) (by assumption) ?_
    rotate_left
    · intro wS hSw; (try dsimp only at hSw)
      go_simp
      all_goals with_reducible rfl
    try simp only [List.getElem_toArray, List.getElem_cons_zero, List.getElem_cons_succ, Act.put, List.setIfInBounds_toArray, List.set_cons_zero, List.set_cons_succ]
    refine wpAnyH_take (i := 10) (v := ?_) rfl (by kernel_rfl) (by kernel_rfl) (by kernel_rfl) (fun _ _ _ h => h) (Or.inl ⟨by rfl, ?_⟩) (by assumption) ?_
    rotate_left
    · intro wS hSw; (try dsimp only at hSw)
      go_simp
      all_goals with_reducible rfl
    try simp only [List.getElem_toArray, List.getElem_cons_zero, List.getElem_cons_succ, Act.put, List.setIfInBounds_toArray, List.set_cons_zero, List.set_cons_succ]
    refine wpAnyH_ready (rs := [11]) (by kernel_rfl) (by simp) ?_
    refine AllReadyH.cons rfl (fun K hK => ?_) AllReadyH.nil
    refine step_go_w (by rfl) _ _ (by rfl) (by rfl) (callPutR _) (K2.out _ hf8) ?_
    rintro e w9 ⟨A9, c9, rfl, hf9, hv9⟩
    refine ⟨_, rfl, ?_⟩
    refine hK.out _ _ (HX.out _ hf9) (fun hHeld => ?_)
    clear hK K
    try simp only [List.getElem_toArray, List.getElem_cons_zero, List.getElem_cons_succ, Act.put, List.setIfInBounds_toArray, List.set_cons_zero, List.set_cons_succ]
    refine wpAnyH_ready (rs := [12]) (by kernel_rfl) (by simp) ?_
    refine AllReadyH.cons rfl (fun K hK => ?_) AllReadyH.nil
    go_simp
    refine hK.out _ _ (HX.out _ hf9) (fun hHeld => ?_)
    clear hK K
    try simp only [List.getElem_toArray, List.getElem_cons_zero, List.getElem_cons_succ, Act.put, List.setIfInBounds_toArray, List.set_cons_zero, List.set_cons_succ]
    refine wpAnyH_take (i := 13) (v := ?_) rfl (by kernel_rfl) (by kernel_rfl) (by kernel_rfl) (fun _ _ _ h => h) (Or.inl ⟨by rfl, ?_⟩) (by assumption) ?_
    rotate_left
    · intro wS hSw; (try dsimp only at hSw)
      go_simp
      all_goals with_reducible rfl
    try simp only [List.getElem_toArray, List.getElem_cons_zero, List.getElem_cons_succ, Act.put, List.setIfInBounds_toArray, List.set_cons_zero, List.set_cons_succ]
    refine wpAnyH_take (i := 14) (v := ?_) rfl (by kernel_rfl) (by kernel_rfl) (by kernel_rfl) (fun _ _ _ h => h) (Or.inl ⟨by rfl, ?_⟩) (by assumption) ?_
    rotate_left
    · intro wS hSw; (try dsimp only at hSw)
      go_simp
      all_goals with_reducible rfl
    try simp only [List.getElem_toArray, List.getElem_cons_zero, List.getElem_cons_succ, Act.put, List.setIfInBounds_toArray, List.set_cons_zero, List.set_cons_succ]
    refine wpAnyH_take (i := 15) (v := ?_) rfl (by kernel_rfl) (by kernel_rfl) (by kernel_rfl) (fun _ _ _ h => h) (Or.inl ⟨by rfl, ?_⟩) (by assumption) ?_
    rotate_left
    · intro wS hSw; (try dsimp only at hSw)
      go_simp
      all_goals with_reducible rfl
    try simp only [List.getElem_toArray, List.getElem_cons_zero, List.getElem_cons_succ, Act.put, List.setIfInBounds_toArray, List.set_cons_zero, List.set_cons_succ]
    refine wpAnyH_take (i := 16) (v := ?_) rfl (by kernel_rfl) (by kernel_rfl) (by kernel_rfl) (fun _ _ _ h => h) (Or.inl ⟨by rfl, ?_⟩) (by assumption) ?_
    rotate_left
    · intro wS hSw; (try dsimp only at hSw)
      go_simp
      all_goals with_reducible rfl
    try simp only [List.getElem_toArray, List.getElem_cons_zero, List.getElem_cons_succ, Act.put, List.setIfInBounds_toArray, List.set_cons_zero, List.set_cons_succ]
    refine wpAnyH_take (i := 17) (v := ?_) rfl (by kernel_rfl) (by kernel_rfl) (by kernel_rfl) (fun _ _ _ h => h) (Or.inl ⟨by rfl, ?_⟩) (by assumption) ?_
    rotate_left
    · intro wS hSw; (try dsimp only at hSw)
      go_simp
      all_goals with_reducible rfl
    try simp only [List.getElem_toArray, List.getElem_cons_zero, List.getElem_cons_succ, Act.put, List.setIfInBounds_toArray, List.set_cons_zero, List.set_cons_succ]
    refine wpAnyH_take (i := 18) (v := ?_) rfl (by kernel_rfl) (by kernel_rfl) (by kernel_rfl) (fun _ _ _ h => h) (Or.inl ⟨by rfl, ?_⟩) (by assumption) ?_
    rotate_left
    · intro wS hSw; (try dsimp only at hSw)
      go_simp
      all_goals with_reducible rfl
    try simp only [List.getElem_toArray, List.getElem_cons_zero, List.getElem_cons_succ, Act.put, List.setIfInBounds_toArray, List.set_cons_zero, List.set_cons_succ]
    refine wpAnyH_take (i := 19) (v := ?_) rfl (by kernel_rfl) (by kernel_rfl) (by kernel_rfl) (fun _ _ _ h => h) (Or.inl ⟨by rfl, ?_⟩) (by assumption) ?_
    rotate_left
    · intro wS hSw; (try dsimp only at hSw)
      go_simp
      all_goals with_reducible rfl
    try simp only [List.getElem_toArray, List.getElem_cons_zero, List.getElem_cons_succ, Act.put, List.setIfInBounds_toArray, List.set_cons_zero, List.set_cons_succ]
    refine wpAnyH_take (i := 20) (v := ?_) rfl (by kernel_rfl) (by kernel_rfl) (by kernel_rfl) (fun _ _ _ h => h) (Or.inl ⟨by rfl, ?_⟩) (by assumption) ?_
    rotate_left
    · intro wS hSw; (try dsimp only at hSw)
      go_simp
      all_goals with_reducible rfl
    try simp only [List.getElem_toArray, List.getElem_cons_zero, List.getElem_cons_succ, Act.put, List.setIfInBounds_toArray, List.set_cons_zero, List.set_cons_succ]
    refine wpAnyH_take (i := 21) (v := ?_) rfl (by kernel_rfl) (by kernel_rfl) (by kernel_rfl) (fun _ _ _ h => h) (Or.inl ⟨by rfl, ?_⟩) (by assumption) ?_
    rotate_left
    · intro wS hSw; (try dsimp only at hSw)
      go_simp
      all_goals with_reducible rfl
    try simp only [List.getElem_toArray, List.getElem_cons_zero, List.getElem_cons_succ, Act.put, List.setIfInBounds_toArray, List.set_cons_zero, List.set_cons_succ]
    refine wpAnyH_ready (rs := [22]) (by kernel_rfl) (by simp) ?_
    refine AllReadyH.cons rfl (fun K hK => ?_) AllReadyH.nil
    refine step_go_w (by rfl) _ _ (by rfl) (by rfl) (callSameR _) (K3.out _ hf9) ?_
    rintro e w10 ⟨rfl, hf10⟩
    refine ⟨_, rfl, ?_⟩
    refine hK.out _ _ (HX.out _ hf10) (fun hHeld => ?_)
    clear hK K
    try simp only [List.getElem_toArray, List.getElem_cons_zero, List.getElem_cons_succ, Act.put, List.setIfInBounds_toArray, List.set_cons_zero, List.set_cons_succ]
    refine wpAnyH_take (i := 23) (v := ?_) rfl (by kernel_rfl) (by kernel_rfl) (by kernel_rfl) (fun _ _ _ h => h) (Or.inl ⟨by rfl, ?_⟩) (by assumption) ?_
    rotate_left
    · intro wS hSw; (try dsimp only at hSw)
      go_simp
      all_goals with_reducible rfl
    try simp only [List.getElem_toArray, List.getElem_cons_zero, List.getElem_cons_succ, Act.put, List.setIfInBounds_toArray, List.set_cons_zero, List.set_cons_succ]
    refine wpAnyH_take (i := 24) (v := ?_) rfl (by kernel_rfl) (by kernel_rfl) (by kernel_rfl) (fun _ _ _ h => h) (Or.inl ⟨by rfl, ?_⟩) (by assumption) ?_
    rotate_left
    · intro wS hSw; (try dsimp only at hSw)
      go_simp
      all_goals with_reducible rfl
    try simp only [List.getElem_toArray, List.getElem_cons_zero, List.getElem_cons_succ, Act.put, List.setIfInBounds_toArray, List.set_cons_zero, List.set_cons_succ]
    refine wpAnyH_done (by kernel_rfl) ?_ _
    go_wp2
    go_ret
    exact ⟨rfl, HFin9.out _ hf10⟩

theorem own : ownKnob Tryd.prog.godebug = none := by kernel_rfl
theorem laidOut : laidOutB Tryd.prog = true := by kernel_rfl

set_option maxRecDepth 100000 in
theorem lifted (os : Os) (started : os.Started) (H : Type) (enc : TypeId × Value → H) :
    ReturnsInHanded {} Tryd.checked os 3 .any (fun w args => (Rows.manifestPutsSpec.pre enc Tryd.prog Tryd.f3 [] false w args ∧ laidMetH Tryd.prog laid1 w) ∧ sizedMet enc Tryd.prog Tryd.f3 (OpenSpec.ofChange Rows.manifestPutsSpec) false w args)
      (Rows.manifestPutsSpec.post enc Tryd.prog Tryd.f3 false true false false) := by
  refine returnsInHanded_of_change_and (C := Tryd.checked) (X := fun w _ => laidMetH Tryd.prog laid1 w) (fun _ _ _ hh h => h.of_heap hh) own started (by kernel_rfl) Tryd.func3
    (ChangeSpec.witness_shaped (enc := enc) (C := Tryd.checked) (os := os) (X := fun w _ => laidMetH Tryd.prog laid1 w) false (World.doorLaid Tryd.prog 400 os) #[.agg #[.int .i64 0, .int .i64 0, .slice none 0 0], .agg #[.int .i64 0, .int .i64 0, .slice none 0 0]] 8 rfl (World.shaped_of_RefB (by kernel_rfl) (by kernel_rfl)) (by kernel_rfl) (by kernel_rfl) (by kernel_rfl) (door_met os _)) ?_
  intro W base args ds gs before hval0 hW _ _ hL _
  have hval : ∀ (j : Nat) t v, Tryd.f3.params[j]? = some t → args[j]? = some v → Value.okWide Tryd.prog W .any base t v := hval0
  have hW' := hW
  obtain ⟨p, q, hA0, hV, rfl, hfz, hnd⟩ := hW
  have hA : DataW.TrodAll enc Tryd.prog W 0 (fun _ => true) true Tryd.f3.params.toList args.toList ds p := hA0
  rw [Tryd.params3] at hA hval
  obtain ⟨v0, vs0, d0, ds0, p0, q0, hargs, rfl, rfl, h0, r0⟩ := trodAll_cons hA
  obtain ⟨v1, vs1, d1, ds1, p1, q1, rfl, rfl, rfl, h1, r1⟩ := trodAll_cons r0
  obtain ⟨rfl, rfl, rfl⟩ := trodAll_nil r1
  obtain rfl : args = #[v0, v1] := by cases args; simp_all
  obtain ⟨rfl, rfl⟩ := trodVars_none hV
  have k0 := h0
  have lt0 : ∀ x ∈ p0, x.block < W.heap.size := by obtain ⟨m, hm⟩ := k0; exact DataW.trod_lt m _ _ _ hm
  obtain ⟨m0, a0, c0, rfl, wx0⟩ : ∃ m A c, v0 = manV m A c ∧ ManIn W (OldB W) m A c := by
    obtain ⟨cs, rfl, -⟩ := okWide_struct Tryd.underlying24 (hval 0 24 v0 rfl rfl)
    obtain ⟨fuel, hf⟩ := h0
    obtain ⟨m, A, c, ho, hk⟩ := vMan hf
    exact ⟨m, A, c, by unfold manV; rw [← ho]; rfl, hk⟩
  have k1 := h1
  have lt1 : ∀ x ∈ p1, x.block < W.heap.size := by obtain ⟨m, hm⟩ := k1; exact DataW.trod_lt m _ _ _ hm
  obtain ⟨m1, a1, c1, rfl, wx1⟩ : ∃ m A c, v1 = manV m A c ∧ ManIn W (OldB W) m A c := by
    obtain ⟨cs, rfl, -⟩ := okWide_struct Tryd.underlying24 (hval 1 24 v1 rfl rfl)
    obtain ⟨fuel, hf⟩ := h1
    obtain ⟨m, A, c, ho, hk⟩ := vMan hf
    exact ⟨m, A, c, by unfold manV; rw [← ho]; rfl, hk⟩
  clear hA0 hval0
  refine (walk m0 a0 c0 m1 a1 c1 W wx0 wx1 (tab_of_laid hL)).mono fun e W' ⟨he, hfr⟩ => ?_
  have bel : Below W.heap.size W W' := hfr.below (fun _ h => absurd h id) (Nat.le_refl _)
  subst he
  exact ⟨_, rfl, _, _, _, [], _, [], hW', trodAll_mk1 (shut_bool Tryd.underlying4 _), (trodAll_cons_mk (Below.trod laidOut (by kernel_rfl) (of_decide_eq_true (by kernel_rfl)) k0 bel lt0) (trodAll_cons_mk (Below.trod laidOut (by kernel_rfl) (of_decide_eq_true (by kernel_rfl)) k1 bel lt1) trodAll_mk0)), rfl, bel.frame _, fun h => by cases h⟩

theorem proved : Rows.ManifestPutsSaid :=
  OpenClaim.holds_of_wide 3 Tryd.f3 rfl rfl rfl rfl rfl rfl rfl ⟨rfl, rfl, rfl, rfl, rfl⟩ rfl rfl rfl rfl rfl (by kernel_rfl) Tryd.func3 (by kernel_rfl)
    (of_decide_eq_true (by kernel_rfl)) (by unfold Func.isWrapper; first | (rw [if_pos (by decide +kernel)]; kernel_rfl) | (rw [if_neg (by decide +kernel)]; exact ⟨rfl, rfl⟩))
    (fun os started H enc _ => lifted os started H enc)
#print axioms proved

theorem card : Rows.ManifestPutsCardSaid :=
  Claim7.holds_tied_plain_at .later [] [.data] true (true, "a414ffddb31cc5f763b9fc8611f6813be59f682ddef2834ddb7c0cc24705e4e3") false
    proved (fun _ h => by cases h) (by kernel_rfl) (fun _ h => by cases h) manifestPuts_row_tie rfl ⟨rfl, rfl⟩ (by kernel_rfl) rfl
    (fun f fn hf hfn => by
      obtain rfl : f = 3 := Option.some.inj ((show Tryd.prog.funcNamed "newsstand/newsstandlaw19.ManifestPuts" = some 3 by kernel_rfl).symm.trans hf) |>.symm
      obtain rfl : fn = Tryd.f3 := (Option.some.inj (Tryd.func3.symm.trans hfn)).symm
      exact ⟨by kernel_rfl, fun j t ht => by
        rw [Tryd.params3] at ht
        have hm : t ∈ [24, 24] := by simpa using Array.mem_of_getElem? ht
        have hall : ([24, 24].all fun u => !Tryd.prog.wantsStandIn u) = true := by kernel_rfl
        exact (show Tryd.prog.wantsStandIn t = false by simpa using List.all_eq_true.1 hall t hm)⟩)
    (by kernel_rfl)
#print axioms card
end manifestPuts
end Go.Proofs.YtdgpaddmheagoaaDoor
