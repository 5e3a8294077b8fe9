/-
  The reference's disk: Append to a file that is there.
-/
import Derived.Test.YtdgpaddmheagoaaGreatDoorRefI
namespace Go.Proofs.YtdgpaddmheagoaaGreatDoor
open Go.RowKit

section
variable {w : World} {B g : Nat} {W F : Nat → Prop} {D : Dsk}

set_option maxRecDepth 100000 in
set_option maxHeartbeats 4000000 in
theorem rAppend_old (h : RD w B g W F D) (s : ByteArray) (hoff : D.off = false) (hn : nameOk s = true) (hs : s.size ≤ maxLen) {f : Fil} (hf : findF s D.L = some f) {G : Nat → Prop} {bA : Option Addr} {m : Nat} (bc : Nat) {l : List UInt8} (hrd : Rd w G 1 bA m (bvs l)) (hG : ∀ k, G k → ¬ F k) (hl : l.length = m)
    (hroom : usedL D.L + (m : Int) ≤ D.quota) (hd : D.deeds < 4611686018427387904) :
    Calls Tryz.prog 22 #[.pointer (some ⟨g, 0, none⟩), .string s, .slice bA m bc] w fun e w' => e = .returned (.int .i64 D.deed.2) ∧ RGo w B g W F { D.deed.1 with L := putF { f with b := f.b ++ l } D.L } w' := by
  obtain ⟨A, c, V, h1, h2, h3⟩ := h.at_
  have c0 := h1.blk.cell 0
  have c1 := h1.blk.cell 1
  have c3 := h1.blk.cell 3
  simp at c0 c1 c3
  rw [hoff] at c3
  have KN := fun w1 => Name_any s w1 hs
  rw [hn] at KN
  have H1 := Lib.hid h1
  have hq0 := h1.ok.q0
  have hq1 := h1.ok.q1
  have hu := h1.ok.used
  have hww : IntKind.i64.wrap ((usedL D.L : Int) + (m : Int)) = (usedL D.L : Int) + (m : Int) := IntWalk.i64_in _ (by omega)
  have hcmp : decide (D.quota < (usedL D.L : Int) + (m : Int)) = false := by simp; omega
  have hcx : ∀ x : FW (Frm Nix w), x.w.cell? ⟨g, 0, none⟩ = some (.slice A D.L.length c) := fun x => (x.h.cell (below_size_of_cell c0) id).trans c0
  have hcy : ∀ x : FW (Frm Nix w), x.w.cell? ⟨g, 1, none⟩ = some (.int .i64 D.quota) := fun x => (x.h.cell (below_size_of_cell c1) id).trans c1
  have hisf : isF s D.L = true := by simp [isF, hf]
  have K := rfind_any h1 s
  rw [hisf] at K
  obtain ⟨p1, -, p3⟩ := posF_some h1.ok.sorted hf
  have hnm := (findF_some hf).2
  obtain ⟨hpl, hpf⟩ := List.getElem?_eq_some_iff.1 p1
  have hfl : f.b.length ≤ 16777216 := by
    have := len_le_used (findF_some hf).1
    omega
  have HT : Hid (∀ w4, RDiskAt w4 B g D.deed.1 A c V → Frm (fun k => k = g) w w4 → ∃ gr c4 fA fc v1 w5 A2 c2 w6, AppAt w B g W F { D.deed.1 with L := putF { f with b := f.b ++ l } D.L } w4 (posF s D.L) bA m bc gr D.L.length c4 fA f.b.length fc v1 w5 A2 c2 w6) := fun w4 h4 hf4 => by
    have := appAt h h2 h3 h4 hf4 (fun k hk => .inl (.inr (by rw [deed_L] at hk; exact hk))) (fun r hr k hk => .inl ⟨r, hr, hk⟩) (p := posF s D.L) (by rw [deed_L]; exact hpl) (f := f) (by simp only [deed_L]; exact hpf) bc hrd hG hl (by omega) (by
      rw [deed_L, p3 { f with b := f.b ++ l } hnm]
      have := Dsk.Ok.turn (f := { f with b := f.b ++ l }) (f0 := f) h4.ok (by rw [deed_L]; simpa [hnm] using hf) (by
        have := h1.ok.safe f (findF_some hf).1
        simp
        omega) (by
        rw [deed_L, deed_quota]
        simp only [List.length_append, hl]
        omega)
      rw [deed_L] at this
      exact this)
    rw [deed_L, p3 { f with b := f.b ++ l } hnm] at this
    exact this
  have hpn : posF s D.L < D.L.length := hpl
  rcases hb : D.deed.2 == 0 with _ | _
  · have e30 : D.deed.2 = 30 := by
      rcases deed_two D with e | e
      · exact e
      · simp [e] at hb
    rw [e30]
    have KD : Hid (∀ w2, Frm Nix w w2 → Calls Tryz.prog 62 #[.pointer (some ⟨g, 0, none⟩)] w2 fun e w' => e = .returned (.bool false) ∧ RDiskAt w' B g D.deed.1 A c V ∧ Frm (fun k => k = g) w2 w') := fun w2 hf2 => by
      have := rdeed_any (H1.out.nix hf2) hd
      rwa [hb] at this
    clear h h1 h2 h3 hoff hn hf hisf hd hb e30 p1 p3 hpf hpl hnm hroom hrd hl hfl
    generalize posF s D.L = p at *
    go_enter Tryz.func22, Tryz.ntmps22
    go_wp2_with (first | (go_at_call 60; refine K.mono ?_; rintro e w1 ⟨rfl, n, rfl⟩) | (go_at_call 61; refine (KN _).mono ?_; rintro e w2 ⟨rfl, rfl⟩))
    refine wp_region_class (Frm Nix w) (((Frm.refl Nix w).drewN _).drew) (by kernel_rfl) (by kernel_rfl) ?_
    repeat (go_big_quiet_step (first | (rename_i x; go_at_call 43; refine x.call (rUsed_any (H1.out.nix x.h)) ?_; exact fun w' hf => hf ▸ x.h)))
    refine wpQuiet_nil ?_
    rintro w2 ⟨⟨_, hf2⟩, rfl⟩
    clear hcx hcy c0 c1 c3 K KN
    go_wp2_with (go_at_call 62; refine (KD.out _ hf2).mono ?_; rintro e w4 ⟨rfl, h4, hf4⟩)
    obtain ⟨gr, c4, fA, fc, v1, w5, A2, c2, w6, Q⟩ := HT.out w4 h4 ((Frm.nix hf2).trans hf4)
    have HQ := Lib.hid Q
    obtain ⟨hrun1, hrun2, q1, q2, q3, q4, q5, q6, q7, q8, q9, q10, -⟩ := Q
    clear h4 hf4 hf2
    go_region_law (first | (refine step_append_run hrun1 (by rfl) _ _ (by rfl) (by rfl) (by rfl) ?_) | (refine step_append_run hrun2 (by rfl) _ _ (by rfl) (by rfl) (by rfl) ?_))
    all_goals
      go_wp2
      go_ret
      exact ⟨rfl, HQ.out.fin⟩
  · have e0 : D.deed.2 = 0 := by simpa using hb
    rw [e0]
    have KD : Hid (∀ w2, Frm Nix w w2 → Calls Tryz.prog 62 #[.pointer (some ⟨g, 0, none⟩)] w2 fun e w' => e = .returned (.bool true) ∧ RDiskAt w' B g D.deed.1 A c V ∧ Frm (fun k => k = g) w2 w') := fun w2 hf2 => by
      have := rdeed_any (H1.out.nix hf2) hd
      rwa [hb] at this
    clear h h1 h2 h3 hoff hn hf hisf hd hb e0 p1 p3 hpf hpl hnm hroom hrd hl hfl
    generalize posF s D.L = p at *
    go_enter Tryz.func22, Tryz.ntmps22
    go_wp2_with (first | (go_at_call 60; refine K.mono ?_; rintro e w1 ⟨rfl, n, rfl⟩) | (go_at_call 61; refine (KN _).mono ?_; rintro e w2 ⟨rfl, rfl⟩))
    refine wp_region_class (Frm Nix w) (((Frm.refl Nix w).drewN _).drew) (by kernel_rfl) (by kernel_rfl) ?_
    repeat (go_big_quiet_step (first | (rename_i x; go_at_call 43; refine x.call (rUsed_any (H1.out.nix x.h)) ?_; exact fun w' hf => hf ▸ x.h)))
    refine wpQuiet_nil ?_
    rintro w2 ⟨⟨_, hf2⟩, rfl⟩
    clear hcx hcy c0 c1 c3 K KN
    go_wp2_with (go_at_call 62; refine (KD.out _ hf2).mono ?_; rintro e w4 ⟨rfl, h4, hf4⟩)
    obtain ⟨gr, c4, fA, fc, v1, w5, A2, c2, w6, Q⟩ := HT.out w4 h4 ((Frm.nix hf2).trans hf4)
    have HQ := Lib.hid Q
    obtain ⟨hrun1, hrun2, q1, q2, q3, q4, q5, q6, q7, q8, q9, q10, -⟩ := Q
    clear h4 hf4 hf2
    go_region_law (first | (refine step_append_run hrun1 (by rfl) _ _ (by rfl) (by rfl) (by rfl) ?_) | (refine step_append_run hrun2 (by rfl) _ _ (by rfl) (by rfl) (by rfl) ?_))
    all_goals
      go_wp2
      go_ret
      exact ⟨rfl, HQ.out.fin⟩
end
end Go.Proofs.YtdgpaddmheagoaaGreatDoor
