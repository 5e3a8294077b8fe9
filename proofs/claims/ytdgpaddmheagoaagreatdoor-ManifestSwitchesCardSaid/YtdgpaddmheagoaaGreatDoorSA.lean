/-
  Contracts: a disk's manifest switched and read, by the document.
-/
import Derived.Test.YtdgpaddmheagoaaGreatDoorMH
import Derived.Test.YtdgpaddmheagoaaGreatDoorRefP
namespace Go.Proofs.YtdgpaddmheagoaaGreatDoor
open Go.RowKit
set_option linter.unusedVariables false

/-- the document's disk, behind calls since w. -/
structure RS (w : World) (B g : Nat) (W F : Nat → Prop) (D1 : Dsk) (w1 : World) (W1 F1 : Nat → Prop) : Prop where
  x : RD w1 B g W1 F1 D1
  f : Frm W w w1
  nW : ∀ k, W1 k → W k ∨ w.heap.size ≤ k
  nF : ∀ k, F1 k → F k ∨ w.heap.size ≤ k
section
variable {w w1 w2 w3 : World} {B g : Nat} {W F W1 F1 : Nat → Prop} {D D1 D2 : Dsk}
theorem RS.start (h : RD w B g W F D) : RS w B g W F D w W F := ⟨h, Frm.refl _ _, fun _ => .inl, fun _ => .inl⟩
theorem RS.nix (h : RS w B g W F D1 w1 W1 F1) (hf : Frm Nix w1 w2) : RS w B g W F D1 w2 W1 F1 := ⟨h.x.nix hf, h.f.trans hf.nix, h.nW, h.nF⟩
theorem RS.next (h : RS w B g W F D1 w1 W1 F1) (k : RGo w1 B g W1 F1 D2 w2) : ∃ W2 F2, RS w B g W F D2 w2 W2 F2 := by
  obtain ⟨W2, F2, x2, f2, n2, n3⟩ := k
  have hs := h.f.size
  exact ⟨W2, F2, x2, h.f.next f2 h.nW, fun k hk => (n2 k hk).elim (h.nW k) fun e => .inr (by omega), fun k hk => (n3 k hk).elim (h.nF k) fun e => .inr (by omega)⟩
theorem RS.go (h : RS w B g W F D1 w1 W1 F1) : RGo w B g W F D1 w1 := ⟨W1, F1, h.x, h.f, h.nW, h.nF⟩
end

set_option maxRecDepth 100000 in
set_option maxHeartbeats 2000000 in
theorem rSwitch_yes {B g : Nat} {W F : Nat → Prop} {D : Dsk} {w : World} (h : RD w B g W F D) (m : Man) (A : Option Addr) (c : Nat) (G : Nat → Prop) (hm : ManIn w G m A c) (ho : manOk m = true) (hG : ∀ k, G k → ¬ W k) (hd : D.deeds < 4611686018427387000) :
    Calls Tryz.prog 11 #[.pointer (some ⟨g, 0, none⟩), manV m A c] w fun e w' => e = .returned (.int .i64 (swDsk D (manPut m)).2) ∧ RGo w B g W F (swDsk D (manPut m)).1 w' := by
  have hlen : (manPut m).length ≤ 404 := manPut_len (manOk_parts ho).2.2.2.2.2.1
  have hfa : Frm Nix w (w.alloc (.cells #[.int .i64 m.gen, .int .i64 m.snap, .slice A m.segs.length c] 25)) := (Frm.refl Nix w).alloc _
  have hsa : (w.alloc (.cells #[.int .i64 m.gen, .int .i64 m.snap, .slice A m.segs.length c] 25)).heap.size = w.heap.size + 1 := by simp
  have hlo := h.lo
  have hwf := h.wf
  have e1 := delete_deeds D sNext
  have hba := Blk.new w 25 #[.int .i64 m.gen, .int .i64 m.snap, .slice A m.segs.length c]
  have KP : Hid (∀ w1, Frm W w w1 → Calls Tryz.prog 39 #[.agg #[.int .i64 m.gen, .int .i64 m.snap, .slice A m.segs.length c]] w1 (BytesOut w1 (manPut m))) := fun w1 hf => rPut_yes m A c G w1 (hm.frm hf hG) ho
  obtain ⟨x, hx⟩ : ∃ x, x = manPut m := ⟨_, rfl⟩
  rw [← hx] at hlen KP
  have HSW : swDsk D x = if (D.delete sNext).2 ≠ 0 ∧ (D.delete sNext).2 ≠ 4 then D.delete sNext else swFrom x 3 0 (D.delete sNext).1 := rfl
  rw [← hx]
  clear hx
  simp only [swFrom, swStep] at HSW
  have KD : Hid (Calls Tryz.prog 28 #[.pointer (some ⟨g, 0, none⟩), .string sNext] (w.alloc (.cells #[.int .i64 m.gen, .int .i64 m.snap, .slice A m.segs.length c] 25)) fun e w1 => e = .returned (.int .i64 (D.delete sNext).2) ∧
      ∃ W1 F1, RS w B g W F (D.delete sNext).1 w1 W1 F1 ∧ Blk w1 w.heap.size 25 #[.int .i64 m.gen, .int .i64 m.snap, .slice A m.segs.length c]) := by
    refine (rDelete_any (h.nix hfa) sNext (by omega)).mono ?_
    rintro e w1 ⟨he, hgo⟩
    obtain ⟨W1, F1, hr⟩ := ((RS.start h).nix hfa).next hgo
    refine ⟨he, W1, F1, hr, ?_⟩
    obtain ⟨_, _, _, hf, _⟩ := hgo
    exact hba.frm hf fun hk => by have := (hlo _ (hwf _ hk)).2; omega
  obtain ⟨D1, n1, h1⟩ : ∃ D1 n1, D.delete sNext = (D1, n1) := ⟨_, _, rfl⟩
  rw [h1] at KD HSW e1
  simp only at KD HSW e1
  have hD1d : D1.deeds < 4611686018427387100 := by omega
  have KA : Hid (∀ w1 w2 W1 F1 A1 c1 n, x.length = n → RS w B g W F D1 w1 W1 F1 → RowIn 5 w1 w2 (.slice A1 n c1) n (bvs x) → Calls Tryz.prog 22 #[.pointer (some ⟨g, 0, none⟩), .string sNext, .slice A1 n c1] w2 fun e w3 => e = .returned (.int .i64 (D1.append sNext x).2) ∧ ∃ W2 F2, RS w B g W F (D1.append sNext x).1 w3 W2 F2) := fun w1 w2 W1 F1 A1 c1 n hn hr hrow => by
    refine (rAppend_any (hr.x.nix hrow.frm) sNext (by decide) A1 n c1 x hn _ hrow.rd (fun k hk hF => ?_) (by omega) (by omega)).mono ?_
    · have := (hrow.own.lt k hk).1
      have := (hr.x.lo k hF).2
      omega
    · rintro e w3 ⟨he, hgo⟩
      exact ⟨he, (hr.nix hrow.frm).next hgo⟩
  have e2 := append_deeds D1 sNext x
  obtain ⟨D2, n2, h2⟩ : ∃ D2 n2, D1.append sNext x = (D2, n2) := ⟨_, _, rfl⟩
  rw [h2] at KA HSW e2
  simp only at KA HSW e2
  have KS : Hid (∀ w1 W1 F1, RS w B g W F D2 w1 W1 F1 → Calls Tryz.prog 24 #[.pointer (some ⟨g, 0, none⟩), .string sNext] w1 fun e w3 => e = .returned (.int .i64 (D2.sync sNext).2) ∧ ∃ W2 F2, RS w B g W F (D2.sync sNext).1 w3 W2 F2) := fun w1 W1 F1 hr =>
    (rSync_any hr.x sNext (by omega)).mono fun e w3 ⟨he, hgo⟩ => ⟨he, hr.next hgo⟩
  have e3 := sync_deeds D2 sNext
  obtain ⟨D3, n3, h3⟩ : ∃ D3 n3, D2.sync sNext = (D3, n3) := ⟨_, _, rfl⟩
  rw [h3] at KS HSW e3
  simp only at KS HSW e3
  have KR : Hid (∀ w1 W1 F1, RS w B g W F D3 w1 W1 F1 → Calls Tryz.prog 26 #[.pointer (some ⟨g, 0, none⟩), .string sNext, .string sList] w1 fun e w3 => e = .returned (.int .i64 (D3.rename sNext sList).2) ∧ ∃ W2 F2, RS w B g W F (D3.rename sNext sList).1 w3 W2 F2) := fun w1 W1 F1 hr =>
    (rRename_any hr.x sNext sList (by decide) (by omega)).mono fun e w3 ⟨he, hgo⟩ => ⟨he, hr.next hgo⟩
  obtain ⟨D4, n4, h4⟩ : ∃ D4 n4, D3.rename sNext sList = (D4, n4) := ⟨_, _, rfl⟩
  rw [h4] at KR HSW
  simp only at KR HSW
  have HSW2 : Hid (swDsk D x = if n1 ≠ 0 ∧ n1 ≠ 4 then (D1, n1) else if n2 ≠ 0 then (D2, n2) else if n3 ≠ 0 then (D3, n3) else (D4, n4)) := by
    unfold Hid
    rw [HSW]
    by_cases hz : n4 = 0
    · subst hz
      simp
    · simp [hz]
  clear HSW
  generalize swDsk D x = out at *
  clear h hm hG hd hlen e1 e2 e3 h1 h2 h3 h4 hD1d hlo hwf hba hfa hsa
  unfold manV
  go_enter Tryz.func11, Tryz.ntmps11
  go_wp2_with fail
  refine KD.out.mono ?_
  rintro e w1 ⟨rfl, W1, F1, hr1, hb1⟩
  have x0 := hb1.cell 0
  have x1 := hb1.cell 1
  have x2 := hb1.cell 2
  simp at x0 x1 x2
  have HR1 := Lib.hid hr1
  clear hr1 hb1
  by_cases hne : n1 ≠ 0 ∧ n1 ≠ 4
  · have HO : Hid (out = (D1, n1)) := by have := HSW2.out; rwa [if_pos hne] at this
    obtain ⟨h0, h4⟩ := hne
    have b0 : (n1 == 0) = false := beq_eq_false_iff_ne.2 h0
    have b1 : (n1 != 0) = true := by rw [bne, b0]; rfl
    have b2 : (n1 == 4) = false := beq_eq_false_iff_ne.2 h4
    have b3 : (n1 != 4) = true := by rw [bne, b2]; rfl
    clear h0 h4
    go_wp2
    go_ret
    rw [HO.out]
    exact ⟨rfl, HR1.out.go⟩
  have HO : Hid (out = if n2 ≠ 0 then (D2, n2) else if n3 ≠ 0 then (D3, n3) else (D4, n4)) := by have := HSW2.out; rwa [if_neg hne] at this
  have hcase : n1 = 0 ∨ n1 = 4 := by
    by_cases h0 : n1 = 0
    · exact .inl h0
    · right
      by_cases h4 : n1 = 4
      · exact h4
      · exact absurd ⟨h0, h4⟩ hne
  clear hne HSW2
  rcases hcase with rfl | rfl
  all_goals
    go_wp2_with fail
    refine (KP.out _ HR1.out.f).mono ?_
    rintro e w2 ⟨A1, c1, rfl, hrow⟩
    obtain ⟨n, hn⟩ : ∃ n, n = x.length := ⟨_, rfl⟩
    rw [← hn] at hrow
    rw [← hn]
    have HROW := Lib.hid hrow
    have HN := Lib.hid hn
    clear hrow hn
    go_wp2_with fail
    refine (KA.out _ _ _ _ _ _ _ HN.out.symm HR1.out HROW.out).mono ?_
    rintro e w3 ⟨rfl, W3, F3, hr3⟩
    have HR3 := Lib.hid hr3
    clear hr3
    by_cases hz2 : n2 = 0
    · subst hz2
      go_wp2_with fail
      refine (KS.out _ _ _ HR3.out).mono ?_
      rintro e w4 ⟨rfl, W4, F4, hr4⟩
      have HR4 := Lib.hid hr4
      clear hr4
      by_cases hz3 : n3 = 0
      · subst hz3
        go_wp2_with fail
        refine (KR.out _ _ _ HR4.out).mono ?_
        rintro e w5 ⟨rfl, W5, F5, hr5⟩
        have HR5 := Lib.hid hr5
        clear hr5
        go_wp2
        go_ret
        rw [HO.out]
        exact ⟨rfl, HR5.out.go⟩
      · have b0 : (n3 == 0) = false := beq_eq_false_iff_ne.2 hz3
        have HO2 : Hid (out = (D3, n3)) := by have := HO.out; simp [hz3] at this; exact this
        clear HO hz3
        go_wp2
        go_ret
        rw [HO2.out]
        exact ⟨rfl, HR4.out.go⟩
    · have b0 : (n2 == 0) = false := beq_eq_false_iff_ne.2 hz2
      have HO2 : Hid (out = (D2, n2)) := by have := HO.out; rwa [if_pos hz2] at this
      clear HO hz2
      go_wp2
      go_ret
      rw [HO2.out]
      exact ⟨rfl, HR3.out.go⟩

/-! ### Read -/

theorem rReadM_ret {W : World} {g : Nat} {tmps : Array Value} {a b c ev : Value} (hb : Blk W g 25 #[a, b, c]) (h2 : tmps.getD 2 undef = .pointer (some ⟨g, 0, none⟩)) (h3 : tmps.getD 3 undef = ev) :
    (results Tryz.f13 tmps).run Tryz.prog W = .ok (.tuple #[.agg #[a, b, c], ev]) W := by
  have c0 := hb.cell 0
  have c1 := hb.cell 1
  have c2 := hb.cell 2
  simp at c0 c1 c2
  have h2' : tmps[2]?.getD undef = .pointer (some ⟨g, 0, none⟩) := by simpa using h2
  have h3' : tmps[3]?.getD undef = ev := by simpa using h3
  simp [results, Tryz.results13, h2', h3', go_sem, c0, c1, c2]

set_option maxRecDepth 100000 in
set_option maxHeartbeats 2000000 in
theorem rReadM_any {B g : Nat} {W F : Nat → Prop} {D : Dsk} {w : World} (h : RD w B g W F D) (hok : D.Ok) :
    Calls Tryz.prog 13 #[.pointer (some ⟨g, 0, none⟩)] w (ReadMOut w (rdDsk D).1 (rdDsk D).2) := by
  obtain ⟨w0, hw0⟩ : ∃ w0, w0 = w.alloc (.cells #[.int .i64 0, .int .i64 0, .slice none 0 0] 25) := ⟨_, rfl⟩
  have hf : Frm Nix w w0 := by rw [hw0]; exact (Frm.refl Nix w).alloc _
  have hb0 : Blk w0 w.heap.size 25 #[.int .i64 0, .int .i64 0, .slice none 0 0] := by rw [hw0]; exact Blk.new w _ _
  have HF : Hid (Frm Nix w w0 ∧ Blk w0 w.heap.size 25 #[.int .i64 0, .int .i64 0, .slice none 0 0]) := ⟨hf, hb0⟩
  have KR := Lib.hid (rRead_any (h.nix hf) sList)
  have HW := Lib.hid hw0
  have HL := Lib.hid (read_len hok sList)
  have HE : Hid (rdDsk D = if D.there sList ≠ 0 then (⟨0, 0, []⟩, D.there sList) else match manGet (D.read sList) with | some m => (m, 0) | none => (⟨0, 0, []⟩, 190)) := rfl
  clear hf hb0 h hw0 hok
  generalize rdDsk D = out at *
  generalize D.there sList = th at *
  generalize D.read sList = l at *
  go_enter Tryz.func13, Tryz.ntmps13
  go_wp2_with fail
  rw [← HW.out]
  refine KR.out.mono ?_
  rintro e w1 ⟨v, rfl, hown, hf1⟩
  obtain ⟨A1, c1, rfl, hn1, hc1, hm1, -⟩ := own_shape hown
  have hb1 := HF.out.2.frm hf1 id
  have HF1 : Hid (Frm Nix w w1) := HF.out.1.trans hf1
  have hr0 := hb1.cell 0
  have hr1 := hb1.cell 1
  have hr2 := hb1.cell 2
  simp at hr0 hr1 hr2
  have hz0 := hb1.frozen 0
  have hz1 := hb1.frozen 1
  have hz2 := hb1.frozen 2
  have hrl := hb1.lt
  have HB1 := Lib.hid hb1
  by_cases hth : th = 0
  · subst hth
    have KG := Lib.hid (rGet_any A1 l.length c1 l _ w1 rfl (Rd.of_own hown) (fun k hk => (hown.lt k hk).2) HL.out hc1 hm1)
    clear hown hf1 hb1
    generalize l.length = ln at *
    cases hg : manGet l with
    | none =>
      have HO : Hid (out = (⟨0, 0, []⟩, 190)) := by
        unfold Hid
        rw [HE.out, hg]
        rfl
      have KG2 : Hid (Calls Tryz.prog 40 #[.slice A1 ln c1] w1 fun e w' => e = .returned (.tuple #[.agg #[.int .i64 0, .int .i64 0, .slice none 0 0], .bool false]) ∧ Frm Nix w1 w') :=
        KG.out.mono fun e w' h => by unfold GetROut at h; rwa [hg] at h
      clear KG hg
      go_wp2_with fail
      refine KG2.out.mono ?_
      rintro e w2 ⟨rfl, hf2⟩
      have hbb := HB1.out.frm hf2 id
      have HF2 : Hid (Frm Nix w w2) := HF1.out.trans hf2
      have hbw := HB1.out.frm hf2 id
      have hr0 := hbw.cell 0
      have hr1 := hbw.cell 1
      have hr2 := hbw.cell 2
      simp at hr0 hr1 hr2
      have hz0 := hbw.frozen 0
      have hz1 := hbw.frozen 1
      have hz2 := hbw.frozen 2
      have hrl := hbw.lt
      clear hbw
      have HB2 := Lib.hid hbb
      clear hbb hf2
      go_wp2
      have hb2 := (((HB2.out.set_ 0 (.int .i64 0)).set_ 1 (.int .i64 0)).set_ 2 (.slice none 0 0)).alloc (.cells #[.int .i64 0, .int .i64 0, .slice none 0 0] 25)
      refine bodyPost_ret (rReadM_ret (a := .int .i64 0) (b := .int .i64 0) (c := .slice none 0 0) (ev := .int .i64 190) hb2 rfl rfl) rfl ?_
      rw [HO.out]
      exact ⟨none, 0, rfl, RowIn.nil_ _ ((((HF2.out.setCell (.inr (Nat.le_refl _)) _).setCell (.inr (Nat.le_refl _)) _).setCell (.inr (Nat.le_refl _)) _).alloc _)⟩
    | some m =>
      have HO : Hid (out = (m, 0)) := by
        unfold Hid
        rw [HE.out, hg]
        rfl
      have KG2 : Hid (Calls Tryz.prog 40 #[.slice A1 ln c1] w1 fun e w' => ∃ A c, e = .returned (.tuple #[.agg #[.int .i64 m.gen, .int .i64 m.snap, .slice A m.segs.length c], .bool true]) ∧ RowIn 3 w1 w' (.slice A m.segs.length c) m.segs.length (ivs m.segs)) :=
        KG.out.mono fun e w' h => by unfold GetROut at h; rwa [hg] at h
      clear KG hg
      go_wp2_with fail
      refine KG2.out.mono ?_
      rintro e w2 ⟨A2, c2, rfl, hrow2⟩
      have hbb := HB1.out.frm hrow2.frm id
      have HF2 := Lib.hid hrow2
      have hbw := HB1.out.frm hrow2.frm id
      have hr0 := hbw.cell 0
      have hr1 := hbw.cell 1
      have hr2 := hbw.cell 2
      simp at hr0 hr1 hr2
      have hz0 := hbw.frozen 0
      have hz1 := hbw.frozen 1
      have hz2 := hbw.frozen 2
      have hrl := hbw.lt
      clear hbw
      have HB2 := Lib.hid hbb
      clear hbb hrow2
      go_wp2
      have hb2 := ((HB2.out.set_ 0 (.int .i64 m.gen)).set_ 1 (.int .i64 m.snap)).set_ 2 (.slice A2 m.segs.length c2)
      have hb2 := hb2.alloc (.cells #[.int .i64 m.gen, .int .i64 m.snap, .slice A2 m.segs.length c2] 25)
      refine bodyPost_ret (rReadM_ret (a := .int .i64 m.gen) (b := .int .i64 m.snap) (c := .slice A2 m.segs.length c2) (ev := .int .i64 0) hb2 rfl rfl) rfl ?_
      rw [HO.out]
      refine ⟨A2, c2, rfl, ?_⟩
      have hfs : Frm (· = w.heap.size) w2 ((((w2.setCell ⟨w.heap.size, 0, none⟩ (.int .i64 m.gen)).setCell ⟨w.heap.size, 1, none⟩ (.int .i64 m.snap)).setCell ⟨w.heap.size, 2, none⟩ (.slice A2 m.segs.length c2)).alloc (.cells #[.int .i64 m.gen, .int .i64 m.snap, .slice A2 m.segs.length c2] 25)) :=
        ((((Frm.refl (fun k => k = w.heap.size) w2).setCell (.inl rfl) _).setCell (.inl rfl) _).setCell (.inl rfl) _).alloc _
      refine (HF2.out.since HF1.out).far hfs (fun k hk => by omega) fun k hk e => ?_
      have h1 := HF2.out.own.lt k hk
      have := HB1.out.lt
      omega
  · have HO : Hid (out = (⟨0, 0, []⟩, th)) := by
      unfold Hid
      rw [HE.out, if_pos hth]
    have hb : (th == 0) = false := beq_eq_false_iff_ne.2 hth
    have hb2 : (th != 0) = true := by rw [bne, hb]; rfl
    clear hown hf1 hb1 hth
    generalize l.length = ln at *
    go_wp2
    have hb2 := ((HB1.out.set_ 0 (.int .i64 0)).set_ 1 (.int .i64 0)).set_ 2 (.slice none 0 0)
    refine bodyPost_ret (rReadM_ret (a := .int .i64 0) (b := .int .i64 0) (c := .slice none 0 0) (ev := .int .i64 th) hb2 rfl rfl) rfl ?_
    rw [HO.out]
    exact ⟨none, 0, rfl, RowIn.nil_ _ (((HF1.out.setCell (.inr (Nat.le_refl _)) _).setCell (.inr (Nat.le_refl _)) _).setCell (.inr (Nat.le_refl _)) _)⟩
end Go.Proofs.YtdgpaddmheagoaaGreatDoor
