/-
  The reference's disk: Append to a new file.
-/
import Derived.Test.YtdgpaddmheagoaaGreatDoorRefI
namespace Go.Proofs.YtdgpaddmheagoaaGreatDoor
open Go.RowKit

section
variable {w : World} {B g : Nat} {W F : Nat → Prop} {D : Dsk}

set_option maxRecDepth 100000 in
set_option maxHeartbeats 4000000 in
theorem rAppend_new (h : RD w B g W F D) (s : ByteArray) (hoff : D.off = false) (hn : nameOk s = true) (hs : s.size ≤ maxLen) (hf : findF s D.L = none) (h64 : D.L.length < 64) {G : Nat → Prop} {bA : Option Addr} {m : Nat} (bc : Nat) {l : List UInt8} (hrd : Rd w G 1 bA m (bvs l)) (hG : ∀ k, G k → ¬ F k) (hl : l.length = m)
    (hroom : usedL D.L + (m : Int) ≤ D.quota) (hd : D.deeds < 4611686018427387904) :
    Calls Tryz.prog 22 #[.pointer (some ⟨g, 0, none⟩), .string s, .slice bA m bc] w fun e w' => e = .returned (.int .i64 D.deed.2) ∧ RGo w B g W F { D.deed.1 with L := putF ⟨s, l, 0⟩ D.L } w' := by
  obtain ⟨A, c, V, h1, h2, h3⟩ := h.at_
  have c0 := h1.blk.cell 0
  have c1 := h1.blk.cell 1
  have c3 := h1.blk.cell 3
  simp at c0 c1 c3
  rw [hoff] at c3
  have KN := fun w1 => Name_any s w1 hs
  rw [hn] at KN
  have H1 := Lib.hid h1
  have hq0 := h1.ok.q0
  have hq1 := h1.ok.q1
  have hu := h1.ok.used
  have hww : IntKind.i64.wrap ((usedL D.L : Int) + (m : Int)) = (usedL D.L : Int) + (m : Int) := IntWalk.i64_in _ (by omega)
  have hcmp : decide (D.quota < (usedL D.L : Int) + (m : Int)) = false := by simp; omega
  have hcx : ∀ x : FW (Frm Nix w), x.w.cell? ⟨g, 0, none⟩ = some (.slice A D.L.length c) := fun x => (x.h.cell (below_size_of_cell c0) id).trans c0
  have hcy : ∀ x : FW (Frm Nix w), x.w.cell? ⟨g, 1, none⟩ = some (.int .i64 D.quota) := fun x => (x.h.cell (below_size_of_cell c1) id).trans c1
  have hisf : isF s D.L = false := by simp [isF, hf]
  have K := rfind_any h1 s
  rw [hisf] at K
  have hge : decide ((64 : Int) ≤ (D.L.length : Int)) = false := by simp; omega
  have hple := posF_le s D.L
  have hp0 := posF_none (s := s) ⟨s, [], 0⟩ rfl hf
  have hp2 := posF_none (s := s) ⟨s, l, 0⟩ rfl hf
  have hfr : ({ D.deed.1 with L := putF ⟨s, [], 0⟩ D.L } : Dsk).Ok := by
    have := Dsk.Ok.fresh (s := s) h1.ok.deed (by rw [deed_L]; exact hf) (by rw [deed_L]; exact h64) hn
    rw [deed_L] at this
    exact this
  have HP : Hid (∀ w3, RDiskAt w3 B g D.deed.1 A c V → Calls Tryz.prog 63 #[.pointer (some ⟨g, 0, none⟩), .int .i64 (posF s D.L : Nat), .agg #[.string s, .slice none 0 0, .int .i64 0]] w3 (DropOut w3 B g { D.deed.1 with L := putF ⟨s, [], 0⟩ D.L } (V.take (posF s D.L) ++ ((⟨s, [], 0⟩ : Fil), Value.slice none 0 0) :: V.drop (posF s D.L)))) := fun w3 h3 => by
    have := rput_any h3 (posF s D.L) (by rw [deed_L]; exact hple) ⟨s, [], 0⟩ none 0 (World.ownsRow_nil _ _ _ _) (by rw [deed_L, hp0]; exact hfr)
    rw [deed_L, hp0] at this
    exact this
  have hLL : (putF ⟨s, [], 0⟩ D.L).length = D.L.length + 1 := by
    rw [← hp0]
    simp
    omega
  have HT : Hid (∀ w4 A4 c4, RDiskAt w4 B g { D.deed.1 with L := putF ⟨s, [], 0⟩ D.L } A4 c4 (V.take (posF s D.L) ++ ((⟨s, [], 0⟩ : Fil), Value.slice none 0 0) :: V.drop (posF s D.L)) → Frm (fun k => k = g) w w4 → (∀ k, (Value.slice A4 (putF ⟨s, [], 0⟩ D.L).length c4).ownBlock = some k → w.heap.size ≤ k) →
      ∃ gr c4 fA n0 fc v1 w5 A2 c2 w6, AppAt w B g W F { D.deed.1 with L := putF ⟨s, l, 0⟩ D.L } w4 (posF s D.L) bA m bc gr (putF ⟨s, [], 0⟩ D.L).length c4 fA n0 fc v1 w5 A2 c2 w6) := fun w4 A4 c4 h4 hf4 hn4 => by
    have hset : (putF ⟨s, [], 0⟩ D.L).set (posF s D.L) ⟨s, [] ++ l, 0⟩ = putF ⟨s, l, 0⟩ D.L := by
      rw [← hp0, ← hp2, List.set_append_right _ _ (by simp; omega)]
      simp [Nat.min_eq_left hple]
    have hat : ∀ hx, (putF ⟨s, [], 0⟩ D.L)[posF s D.L]'hx = ⟨s, [], 0⟩ := fun hx => by
      simp only [← hp0]
      rw [List.getElem_append_right (by simp; omega)]
      simp [Nat.min_eq_left hple]
    have := appAt h h2 h3 h4 hf4 (fun k hk => .inr (hn4 k hk)) (fun r hr k hk => .inl (by
        rcases List.mem_append.1 hr with hr | hr
        · exact ⟨r, List.mem_of_mem_take hr, hk⟩
        · rcases List.mem_cons.1 hr with rfl | hr
          · cases hk
          · exact ⟨r, List.mem_of_mem_drop hr, hk⟩)) (p := posF s D.L) (by simp only [hLL]; omega) (f := ⟨s, [], 0⟩) (hat _) bc hrd hG hl (by simp only [List.length_nil]; omega) (by
      simp only [hset]
      have ht := Dsk.Ok.turn (f := ⟨s, l, 0⟩) (f0 := ⟨s, [], 0⟩) hfr (findF_put (f := ⟨s, [], 0⟩) h1.ok.sorted) (Nat.zero_le _) (by
          have h1' := used_put (f := ⟨s, [], 0⟩) h1.ok.sorted
          simp only [delF_none hf, List.length_nil] at h1'
          simp only [deed_quota, hl, List.length_nil]
          omega)
      rw [putF_putF (f := ⟨s, l, 0⟩) (f0 := ⟨s, [], 0⟩) h1.ok.sorted rfl] at ht
      exact ht)
    simp only [hset] at this
    obtain ⟨gr, c4, fA, fc, h9⟩ := this
    exact ⟨gr, c4, fA, _, fc, h9⟩
  generalize (putF ⟨s, [], 0⟩ D.L).length = n4 at HT
  rcases hb : D.deed.2 == 0 with _ | _
  · have e30 : D.deed.2 = 30 := by
      rcases deed_two D with e | e
      · exact e
      · simp [e] at hb
    rw [e30]
    have KD : Hid (∀ w2, Frm Nix w w2 → Calls Tryz.prog 62 #[.pointer (some ⟨g, 0, none⟩)] w2 fun e w' => e = .returned (.bool false) ∧ RDiskAt w' B g D.deed.1 A c V ∧ Frm (fun k => k = g) w2 w') := fun w2 hf2 => by
      have := rdeed_any (H1.out.nix hf2) hd
      rwa [hb] at this
    clear h h1 h2 h3 hoff hn hf hisf hd hb e30 hp0 hp2 hfr hroom hrd hl hple hLL
    generalize posF s D.L = p at *
    go_enter Tryz.func22, Tryz.ntmps22
    go_wp2_with (first | (go_at_call 60; refine K.mono ?_; rintro e w1 ⟨rfl, n, rfl⟩) | (go_at_call 61; refine (KN _).mono ?_; rintro e w2 ⟨rfl, rfl⟩))
    refine wp_region_class (Frm Nix w) (((Frm.refl Nix w).drewN _).drew) (by kernel_rfl) (by kernel_rfl) ?_
    repeat (go_big_quiet_step (first | (rename_i x; go_at_call 43; refine x.call (rUsed_any (H1.out.nix x.h)) ?_; exact fun w' hf => hf ▸ x.h)))
    refine wpQuiet_nil ?_
    rintro w2 ⟨⟨_, hf2⟩, rfl⟩
    clear hcx hcy c0 c1 c3 K KN
    go_wp2_with (first | (go_at_call 62; refine (KD.out _ hf2).mono ?_; rintro e w3 ⟨rfl, h30, hf30⟩) | (go_at_call 63; refine (HP.out _ h30).mono ?_; rintro e w4 ⟨rfl, A4, c40, h4, hf4, hn4⟩))
    have hfw3 : Frm (fun k => k = g) w w3 := (Frm.nix hf2).trans hf30
    obtain ⟨gr, c4, fA, n0, fc, v1, w5, A2, c2, w6, Q⟩ := HT.out w4 A4 c40 h4 (hfw3.trans hf4) (fun k hk => Nat.le_trans hfw3.size (hn4 k (by rw [← hk]; exact ownBlock_slice _ _ _ _ _)))
    have HQ := Lib.hid Q
    obtain ⟨hrun1, hrun2, q1, q2, q3, q4, q5, q6, q7, q8, q9, q10, -⟩ := Q
    clear h4 hf4 hf2 hf30 h30 hn4 hfw3
    go_region_law (first | (refine step_append_run hrun1 (by rfl) _ _ (by rfl) (by rfl) (by rfl) ?_) | (refine step_append_run hrun2 (by rfl) _ _ (by rfl) (by rfl) (by rfl) ?_))
    all_goals
      go_wp2
      go_ret
      exact ⟨rfl, HQ.out.fin⟩
  · have e0 : D.deed.2 = 0 := by simpa using hb
    rw [e0]
    have KD : Hid (∀ w2, Frm Nix w w2 → Calls Tryz.prog 62 #[.pointer (some ⟨g, 0, none⟩)] w2 fun e w' => e = .returned (.bool true) ∧ RDiskAt w' B g D.deed.1 A c V ∧ Frm (fun k => k = g) w2 w') := fun w2 hf2 => by
      have := rdeed_any (H1.out.nix hf2) hd
      rwa [hb] at this
    clear h h1 h2 h3 hoff hn hf hisf hd hb e0 hp0 hp2 hfr hroom hrd hl hple hLL
    generalize posF s D.L = p at *
    go_enter Tryz.func22, Tryz.ntmps22
    go_wp2_with (first | (go_at_call 60; refine K.mono ?_; rintro e w1 ⟨rfl, n, rfl⟩) | (go_at_call 61; refine (KN _).mono ?_; rintro e w2 ⟨rfl, rfl⟩))
    refine wp_region_class (Frm Nix w) (((Frm.refl Nix w).drewN _).drew) (by kernel_rfl) (by kernel_rfl) ?_
    repeat (go_big_quiet_step (first | (rename_i x; go_at_call 43; refine x.call (rUsed_any (H1.out.nix x.h)) ?_; exact fun w' hf => hf ▸ x.h)))
    refine wpQuiet_nil ?_
    rintro w2 ⟨⟨_, hf2⟩, rfl⟩
    clear hcx hcy c0 c1 c3 K KN
    go_wp2_with (first | (go_at_call 62; refine (KD.out _ hf2).mono ?_; rintro e w3 ⟨rfl, h30, hf30⟩) | (go_at_call 63; refine (HP.out _ h30).mono ?_; rintro e w4 ⟨rfl, A4, c40, h4, hf4, hn4⟩))
    have hfw3 : Frm (fun k => k = g) w w3 := (Frm.nix hf2).trans hf30
    obtain ⟨gr, c4, fA, n0, fc, v1, w5, A2, c2, w6, Q⟩ := HT.out w4 A4 c40 h4 (hfw3.trans hf4) (fun k hk => Nat.le_trans hfw3.size (hn4 k (by rw [← hk]; exact ownBlock_slice _ _ _ _ _)))
    have HQ := Lib.hid Q
    obtain ⟨hrun1, hrun2, q1, q2, q3, q4, q5, q6, q7, q8, q9, q10, -⟩ := Q
    clear h4 hf4 hf2 hf30 h30 hn4 hfw3
    go_region_law (first | (refine step_append_run hrun1 (by rfl) _ _ (by rfl) (by rfl) (by rfl) ?_) | (refine step_append_run hrun2 (by rfl) _ _ (by rfl) (by rfl) (by rfl) ?_))
    all_goals
      go_wp2
      go_ret
      exact ⟨rfl, HQ.out.fin⟩
end
end Go.Proofs.YtdgpaddmheagoaaGreatDoor
