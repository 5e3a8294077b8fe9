/-
  Contracts: a manifest's bytes by the document; are two manifests the same, by the program and by the document.
-/
import Derived.Test.YtdgpaddmheagoaaGreatDoorMB
namespace Go.Proofs.YtdgpaddmheagoaaGreatDoor
open Go.RowKit
set_option linter.unusedVariables false

set_option maxRecDepth 100000 in
set_option maxHeartbeats 2000000 in
theorem rPut_yes (m : Man) (A : Option Addr) (c : Nat) (G : Nat → Prop) (w : World) (h : ManIn w G m A c) (ho : manOk m = true) :
    Calls Tryz.prog 39 #[manV m A c] w (BytesOut w (manPut m)) := by
  obtain ⟨p1, p2, p3, p4, hn1, hn2, -, -⟩ := manOk_parts ho
  have hmay := manNums_may ho
  obtain ⟨w0, hw0⟩ : ∃ w0, w0 = w.alloc (.cells #[.int .i64 m.gen, .int .i64 m.snap, .slice A m.segs.length c] 25) := ⟨_, rfl⟩
  have hf : Frm Nix w w0 := by rw [hw0]; exact (Frm.refl Nix w).alloc _
  have hb : Blk w0 w.heap.size 25 #[.int .i64 m.gen, .int .i64 m.snap, .slice A m.segs.length c] := by rw [hw0]; exact Blk.new w _ _
  have HBX : Hid (∀ W, Frm Nix w0 W → W.cell? ⟨w.heap.size, 0, none⟩ = some (.int .i64 m.gen) ∧ W.cell? ⟨w.heap.size, 1, none⟩ = some (.int .i64 m.snap) ∧ W.cell? ⟨w.heap.size, 2, none⟩ = some (.slice A m.segs.length c)) := fun W hW => by
    have hb1 := hb.frm hW id
    have c0 := hb1.cell 0
    have c1 := hb1.cell 1
    have c2 := hb1.cell 2
    simp at c0 c1 c2
    exact ⟨c0, c1, c2⟩
  have HR : Hid (∀ W, Frm Nix w0 W → Rd W G 1 A m.segs.length (ivs m.segs)) := fun W hW => (h.nix (hf.trans hW)).rd
  have HF := Lib.hid hf
  have HM : Hid (∀ n ∈ m.segs, -9007199254740991 ≤ n ∧ n ≤ 9007199254740991) := fun n hn => hmay n (by simp [manNums, hn])
  have K1 : Hid (∀ W, Calls Tryz.prog 68 #[.int .i64 m.gen] W (BytesOut W (putN m.gen))) := fun W => PutR_any m.gen W (by omega) p2
  have K2 : Hid (∀ W, Calls Tryz.prog 68 #[.int .i64 m.snap] W (BytesOut W (putN m.snap))) := fun W => PutR_any m.snap W (by omega) (by omega)
  have l1 := putN_len m.gen
  have l2 := putN_len m.snap
  have l3 := putN_len (m.segs.length : Int)
  have HBL := Lib.hid (manBytes_len (m := m) hn2)
  have HMB : Hid (manBytes m = (putN m.gen ++ putN m.snap ++ putN (m.segs.length : Int)) ++ m.segs.flatMap putN) := by simp [manBytes, Hid]
  have HSL : Hid (m.segs.length = m.segs.length) := rfl
  have hq1 : (putN m.gen).length + (putN m.snap).length ≤ maxLen := by unfold maxLen; omega
  have hq2 : ((putN m.gen).length + (putN m.snap).length) * 1 ≤ 140737488355328 := by omega
  have HW := Lib.hid hw0
  unfold manV
  clear h hf hb hmay hw0
  go_enter Tryz.func39, Tryz.ntmps39
  go_wp2
  rw [← HW.out]
  obtain ⟨c0, c1, c2⟩ := HBX.out w0 (Frm.refl _ _)
  obtain ⟨c0', c1', c2'⟩ := HBX.out w0.drew (Frm.refl _ _).drew
  go_region_held3 (fun w' => w'.cell? ⟨w.heap.size, 0, none⟩ = some (.int .i64 m.gen) ∧ w'.cell? ⟨w.heap.size, 1, none⟩ = some (.int .i64 m.snap)) (first | go_keep | (refine ⟨?_, ?_⟩ <;> assumption) | assumption)
    (first
      | (go_at_call 68; (with_reducible refine (K1.out _).mono ?_); rintro e w1 ⟨A1, cc1, rfl, hb1⟩; have hf1 := (Frm.refl Nix w0).drew.trans hb1.frm; obtain ⟨d0, d1, d2⟩ := HBX.out w1 hf1)
      | (go_at_call 68; (with_reducible refine (K2.out _).mono ?_); rintro e w2 ⟨A2, cc2, rfl, hb2⟩; obtain ⟨e0, e1, e2⟩ := HBX.out w2 (hf1.trans hb2.frm); obtain ⟨v3, w3, hrun3, hrow3, hf3, hat3⟩ := (hb1.more hb2.frm).app (P := Tryz.prog) elemB cc2 hb2.rd (bvs_one _) hq1 hq2; obtain ⟨f0, f1, f2⟩ := HBX.out w3 ((Frm.refl Nix w0).drew.trans hrow3.frm))
      | (refine step_append_run hrun3 (by rfl) _ _ (by rfl) (by rfl) (by rfl) ?_)
      | fail)
  have HR3 : Hid (RowIn 5 w0 w3 v3 ((putN m.gen).length + (putN m.snap).length) (bvs (putN m.gen) ++ bvs (putN m.snap))) := hrow3.since (Frm.refl Nix w0).drew
  clear hb1 hf1 hb2 hrow3 hf3 hat3 c0 c1 c2 c0' c1' c2' d0 d1 d2 e0 e1 e2 f0 f1
  go_wp2_with fail
  refine (PutR_any (m.segs.length : Int) w3 (by omega) (by omega)).mono ?_
  rintro e w4 ⟨A4, cc4, rfl, hb4⟩
  obtain ⟨v5, w5, hrun5, hrow5, hf5, hat5⟩ := (HR3.out.more hb4.frm).app (P := Tryz.prog) elemB cc4 hb4.rd (bvs_one _) (by unfold maxLen; omega) (by omega)
  have e5 : (putN m.gen).length + (putN m.snap).length + (putN (m.segs.length : Int)).length = (putN m.gen ++ putN m.snap ++ putN (m.segs.length : Int)).length := by simp; omega
  rw [← bvs_append, ← bvs_append, e5] at hrow5
  have HR5 := Lib.hid hrow5
  obtain ⟨g0, g1, g2⟩ := HBX.out w5 hrow5.frm
  have l5 : (putN m.gen ++ putN m.snap ++ putN (m.segs.length : Int)).length ≤ 27 := by rw [← e5]; omega
  clear hb4 hrow5 hf5 hat5 e5 f2
  go_wp2_with (at_builtin; refine wpList_append_run hrun5 rfl _ _ rfl rfl rfl ?_)
  generalize putN m.gen ++ putN m.snap ++ putN (m.segs.length : Int) = hd at *
  clear hrun5 hrun3 g0 g1 g2 l1 l2 l3
  clear HSL hq1 hq2
  generalize hsn : m.segs.length = sn at *
  have HSN := Lib.hid hsn
  clear hsn
  generalize m.segs = l at *
  go_loopw [3, 4] (fun ov kv wr => ∃ k : Nat, k ≤ sn ∧ kv = .int .i64 k ∧ RowIn 5 w0 wr ov (hd ++ (l.take k).flatMap putN).length (bvs (hd ++ (l.take k).flatMap putN))) (fun _ kv _ => sn - (intOf kv).toNat)
  case atStart => exact ⟨0, by omega, rfl, by simpa using HR5.out⟩
  case round =>
    obtain ⟨k, hk, rfl, hout⟩ := hrel
    have HO := Lib.hid hout
    obtain ⟨Ao, co, rfl, -, -, -, -⟩ := hout.shape
    obtain ⟨g0, g1, g2⟩ := HBX.out wr hout.frm
    clear hout
    have hl9 := flat_len (l.take k)
    rw [List.length_take] at hl9
    have hdl : (hd ++ (l.take k).flatMap putN).length = hd.length + ((l.take k).flatMap putN).length := List.length_append
    by_cases hlt : k < sn
    · obtain ⟨ad, u, rfl, -, hla, hu, hcu⟩ := (HR.out wr HO.out.frm).at_ (k := k) hlt
      have hkl : k < l.length := by rw [HSN.out]; exact hlt
      rw [ivs_at _ k hkl] at hu
      obtain rfl := Option.some.inj hu
      obtain ⟨hv1, hv2⟩ := HM.out l[k] (List.getElem_mem hkl)
      have HFS := Lib.hid (flat_succ l k hkl)
      have hp9 := putN_len l[k]
      generalize l[k] = x at *
      clear hu
      go_wp2_with fail
      refine (PutR_any x _ hv1 hv2).mono ?_
      rintro e w3 ⟨Ab, cb, rfl, hb3⟩
      obtain ⟨v4, w4, hrun4, hrow4, hf4, hat4⟩ := (HO.out.more hb3.frm).app (P := Tryz.prog) elemB cb hb3.rd (bvs_one _) (by unfold maxLen; omega) (by omega)
      have HX : Hid (RowIn 5 w0 w4 v4 (hd ++ (l.take (k + 1)).flatMap putN).length (bvs (hd ++ (l.take (k + 1)).flatMap putN))) := by
        unfold Hid
        rw [HFS.out, ← List.append_assoc, bvs_append, List.length_append]
        exact hrow4
      clear hb3 hrow4 hf4 hat4 hl9 hdl
      generalize (putN x).length = pn at *
      generalize (hd ++ (l.take k).flatMap putN).length = dn at *
      go_wp2_with (at_builtin; refine wpList_append_run hrun4 rfl _ _ rfl rfl rfl ?_)
      go_roundw
      case rel => exact ⟨k + 1, by omega, by go_num, HX.out⟩
      case measure => simp [intOf]; omega
    · obtain rfl : k = sn := by omega
      have HL : Hid (l.take k = l) := List.take_of_length_le (by rw [HSN.out]; exact Nat.le_refl _)
      have ho := HO.out
      rw [HL.out, ← HMB.out] at ho
      have KS := SealR_any Ao _ co _ _ wr rfl ho.rd (by have := HBL.out; omega)
      have HW2 : Hid (∀ e W, BytesOut wr (sealB (manBytes m)) e W → BytesOut w (manPut m) e W) := fun e W h => h.since (HF.out.trans ho.frm)
      have HLen : Hid ((hd ++ (l.take k).flatMap putN).length = (manBytes m).length) := by unfold Hid; rw [HL.out, ← HMB.out]
      rw [← HLen.out] at KS
      have KS := Lib.hid KS
      clear ho hl9 hdl
      generalize (hd ++ (l.take k).flatMap putN).length = dn at *
      go_wp2_with fail
      refine KS.out.mono ?_
      intro e W hb
      obtain ⟨A5, c5, rfl, h5⟩ := HW2.out _ _ hb
      have H5 : Hid (BytesOut w (manPut m) (.returned (.slice A5 (manPut m).length c5)) W) := ⟨A5, c5, rfl, h5⟩
      clear hb h5
      go_wp2
      go_ret
      exact H5.out

/-! ### are two the same? -/

def manEq (m m' : Man) : Bool := decide (m.gen = m'.gen) && decide (m.snap = m'.snap) && decide (m.segs = m'.segs)
theorem manEq_iff (m m' : Man) : manEq m m' = true ↔ m = m' := by
  obtain ⟨g, s, l⟩ := m
  obtain ⟨g', s', l'⟩ := m'
  simp [manEq, and_assoc]
theorem take_both {α : Type} {xs ys : List α} {k : Nat} (hx : k < xs.length) (hy : k < ys.length) (h : xs.take k = ys.take k) (he : xs[k] = ys[k]) : xs.take (k + 1) = ys.take (k + 1) := by
  rw [List.take_succ_eq_append_getElem hx, List.take_succ_eq_append_getElem hy, h, he]

set_option maxRecDepth 100000 in
set_option maxHeartbeats 1000000 in
theorem EqualI_any {w : World} {G G' : Nat → Prop} {A A' : Option Addr} {n c m d : Nat} {xs ys : List Int} (hx : Rd w G 1 A n (ivs xs)) (hy : Rd w G' 1 A' m (ivs ys)) (hn : n ≤ 4611686018427387904) (hm : m ≤ 4611686018427387904) :
    Calls Tryz.prog 55 #[.slice A n c, .slice A' m d] w fun e w' => e = .returned (.bool (decide (xs = ys))) ∧ ∃ q, w' = w.drewN q := by
  have hxl : xs.length = n := by have := hx.1; simpa [ivs] using this
  have hyl : ys.length = m := by have := hy.1; simpa [ivs] using this
  have HXL := Lib.hid hxl
  have HYL := Lib.hid hyl
  have HX := Lib.hid hx
  have HY := Lib.hid hy
  clear hx hy
  by_cases hnm : n = m
  · subst hnm
    clear hxl hyl
    go_enter Tryz.func55, Tryz.ntmps55
    go_wp2
    go_loopw [5, 13] (fun _ i wr => ∃ k : Nat, k ≤ n ∧ i = .int .i64 k ∧ xs.take k = ys.take k ∧ ∃ q, wr = w.drewN q) (fun _ i _ => n - (intOf i).toNat)
    case atStart => exact ⟨0, Nat.zero_le _, rfl, rfl, 0, rfl⟩
    case round =>
      obtain ⟨k, hk, rfl, hall, q, rfl⟩ := hrel
      have HA := Lib.hid hall
      clear hall
      by_cases hlt : k < n
      · obtain ⟨ax, u, rfl, -, lx, hu, cx⟩ := HX.out.at_ hlt
        obtain ⟨ay, v, rfl, -, ly, hv, cy⟩ := HY.out.at_ hlt
        have kx : k < xs.length := by rw [HXL.out]; exact hlt
        have ky : k < ys.length := by rw [HYL.out]; exact hlt
        rw [ivs_at _ k kx] at hu
        rw [ivs_at _ k ky] at hv
        obtain rfl := Option.some.inj hu
        obtain rfl := Option.some.inj hv
        have HT := Lib.hid (take_both kx ky HA.out)
        have HNE : Hid (xs[k] ≠ ys[k] → xs ≠ ys) := fun h e => h (by subst e; rfl)
        clear hu hv
        generalize xs[k] = X at *
        generalize ys[k] = Y at *
        have hk0 : (0 : Int) ≤ (k : Int) := Int.natCast_nonneg _
        have hk1 : (k : Int) < (n : Int) := by omega
        by_cases hxy : X = Y
        · have HE := Lib.hid (HT.out hxy)
          subst hxy
          go_wp2_with fail
          go_quiet (fail)
          go_wp2
          go_roundw
          case rel => exact ⟨k + 1, by omega, by go_num, HE.out, _, rfl⟩
          case measure => simp [intOf]; omega
        · have HE := Lib.hid (HNE.out hxy)
          have hb : (X == Y) = false := beq_eq_false_iff_ne.2 hxy
          have hb2 : (X != Y) = true := by rw [bne, hb]; rfl
          go_wp2_with fail
          go_quiet (fail)
          go_wp2
          go_ret
          exact ⟨ret_bool (by rw [eq_comm, decide_eq_false_iff_not]; exact HE.out), _, World.drewN_drewN _ _ _⟩
      · obtain rfl : k = n := by omega
        go_wp2
        go_ret
        refine ⟨ret_bool ?_, q, rfl⟩
        have := HA.out
        rw [List.take_of_length_le (by rw [HXL.out]; exact Nat.le_refl _), List.take_of_length_le (by rw [HYL.out]; exact Nat.le_refl _)] at this
        rw [eq_comm, decide_eq_true_eq]
        exact this
  · have hd : decide ((n : Int) = (m : Int)) = false := by simp; omega
    have hb : ((n : Int) != (m : Int)) = true := by simp; omega
    have HNE : Hid (xs ≠ ys) := fun e => by rw [e] at hxl; omega
    clear hxl hyl
    go_enter Tryz.func55, Tryz.ntmps55
    go_wp2
    go_ret
    exact ⟨ret_bool (by rw [eq_comm, decide_eq_false_iff_not]; exact HNE.out), 0, rfl⟩

set_option maxRecDepth 100000 in
set_option maxHeartbeats 2000000 in
theorem pSame_any (m m' : Man) (A A' : Option Addr) (c c' : Nat) (G G' : Nat → Prop) (w : World) (h : ManIn w G m A c) (h' : ManIn w G' m' A' c') (hn : m.segs.length ≤ 4611686018427387904) (hn' : m'.segs.length ≤ 4611686018427387904) :
    Calls Tryz.prog 19 #[manV m A c, manV m' A' c'] w fun e w' => e = .returned (.bool (manEq m m')) ∧ Frm Nix w w' := by
  obtain ⟨w0, hw0⟩ : ∃ w0, w0 = (w.alloc (.cells #[.int .i64 m.gen, .int .i64 m.snap, .slice A m.segs.length c] 25)).alloc (.cells #[.int .i64 m'.gen, .int .i64 m'.snap, .slice A' m'.segs.length c'] 25) := ⟨_, rfl⟩
  have hf : Frm Nix w w0 := by rw [hw0]; exact ((Frm.refl Nix w).alloc _).alloc _
  have KE := Lib.hid (EqualI_any (c := c) (d := c') (h.nix hf).rd (h'.nix hf).rd hn hn')
  have HF := Lib.hid hf
  obtain ⟨g, s, l⟩ := m
  obtain ⟨g', s', l'⟩ := m'
  unfold manV
  simp only at *
  rw [hw0] at KE
  have HW := Lib.hid hw0
  clear h h' hf hw0 hn hn'
  by_cases e1 : g = g'
  · subst e1
    by_cases e2 : s = s'
    · subst e2
      have HE : Hid (manEq ⟨g, s, l⟩ ⟨g, s, l'⟩ = decide (l = l')) := by simp [manEq, Hid]
      go_enter Tryz.func19, Tryz.ntmps19
      go_wp2_with (go_at_call 55; refine KE.out.mono ?_; rintro e w' ⟨rfl, q, rfl⟩)
      go_ret
      exact ⟨by rw [HE.out]; rfl, by rw [← HW.out]; exact HF.out.drewN q⟩
    · have HE : Hid (manEq ⟨g, s, l⟩ ⟨g, s', l'⟩ = false) := by simp [manEq, Hid, e2]
      have hb : (s == s') = false := beq_eq_false_iff_ne.2 e2
      clear e2
      go_enter Tryz.func19, Tryz.ntmps19
      go_wp2
      go_ret
      exact ⟨by rw [HE.out]; rfl, by rw [← HW.out]; exact HF.out⟩
  · have HE : Hid (manEq ⟨g, s, l⟩ ⟨g', s', l'⟩ = false) := by simp [manEq, Hid, e1]
    have hb : (g == g') = false := beq_eq_false_iff_ne.2 e1
    clear e1
    go_enter Tryz.func19, Tryz.ntmps19
    go_wp2
    go_ret
    exact ⟨by rw [HE.out]; rfl, by rw [← HW.out]; exact HF.out⟩
end Go.Proofs.YtdgpaddmheagoaaGreatDoor
