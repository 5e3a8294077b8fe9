/-
  Contracts: a manifest's bytes, by the program and by the document.
-/
import Derived.Test.YtdgpaddmheagoaaGreatDoorMA
import Derived.Test.YtdgpaddmheagoaaGreatDoorNG
namespace Go.Proofs.YtdgpaddmheagoaaGreatDoor
open Go.RowKit
set_option linter.unusedVariables false

theorem elemI : ElemOk Tryz.prog 23 3 8 := ⟨Tryz.underlying23, ⟨.int .i64 0, by kernel_rfl, rfl⟩⟩
theorem ivs_one (l : List Int) : ∀ u ∈ ivs l, u.oneCell' = true := by
  intro u hu
  obtain ⟨c, -, rfl⟩ := List.mem_map.1 hu
  rfl
theorem ivs_len (l : List Int) : (ivs l).length = l.length := by simp [ivs]
theorem ivs_append (a b : List Int) : ivs (a ++ b) = ivs a ++ ivs b := by simp [ivs]
theorem row_apart {e e' : TypeId} {w0 w0' w1 : World} {v v' : Value} {n n' : Nat} {xs xs' : List Value} (h : RowIn e w0 w1 v n xs) (h' : RowIn e' w0' w1 v' n' xs') (hne : e ≠ e') {k : Nat} (hk : v.ownBlock = some k) : v'.ownBlock ≠ some k := by
  rcases h.own.2 with ⟨rfl, _⟩ | ⟨g, cap, cur, rfl, _, hh, _⟩
  · simp [Value.ownBlock] at hk
  · have : g = k := by simpa [Value.ownBlock] using hk
    subst this
    exact h'.ne_blk (t := e) (cs := cur) hh (Ne.symm hne)

/-- the numbers of a manifest, in order. -/
def manNums (m : Man) : List Int := m.gen :: m.snap :: (m.segs.length : Int) :: m.segs
theorem manNums_bytes (m : Man) : (manNums m).flatMap putN = manBytes m := by simp [manNums, manBytes]
theorem manNums_may {m : Man} (h : manOk m = true) : ∀ n ∈ manNums m, -9007199254740991 ≤ n ∧ n ≤ 9007199254740991 := by
  obtain ⟨h1, h2, h3, h4, h5, h6, h7, h8⟩ := manOk_parts h
  intro n hn
  rcases List.mem_cons.1 hn with rfl | hn
  · omega
  rcases List.mem_cons.1 hn with rfl | hn
  · omega
  rcases List.mem_cons.1 hn with rfl | hn
  · omega
  have := risB_may m.segs 0 (by omega) h7 n hn
  obtain ⟨a, b⟩ : -most ≤ n ∧ n ≤ most := by simpa [mayN] using this
  unfold most at a b
  exact ⟨a, b⟩
theorem flat_len (l : List Int) : (l.flatMap putN).length ≤ 9 * l.length := by
  induction l with
  | nil => simp
  | cons a l ih =>
    have := putN_len a
    simp only [List.flatMap_cons, List.length_append, List.length_cons]
    omega
theorem flat_succ (l : List Int) (k : Nat) (h : k < l.length) : (l.take (k + 1)).flatMap putN = (l.take k).flatMap putN ++ putN l[k] := by
  rw [List.take_succ_eq_append_getElem h, List.flatMap_append]
  congr 1
  simp

set_option maxRecDepth 100000 in
theorem pPut_no (m : Man) (A : Option Addr) (c : Nat) (G : Nat → Prop) (w : World) (h : ManIn w G m A c) (ho : manOk m = false) :
    Calls Tryz.prog 16 #[manV m A c] w fun e w' => e = .returned (.tuple #[.slice none 0 0, .int .i64 1]) ∧ Frm Nix w w' := by
  have hf : Frm Nix w (w.alloc (.cells #[.int .i64 m.gen, .int .i64 m.snap, .slice A m.segs.length c] 25)) := (Frm.refl Nix w).alloc _
  have KC := pCheck_any m A c G _ (h.nix hf)
  rw [ho] at KC
  unfold manV at KC ⊢
  have KC := Lib.hid KC
  have HF := Lib.hid hf
  clear h hf
  go_enter Tryz.func16, Tryz.ntmps16
  go_wp2_with (go_at_call 20; refine KC.out.mono ?_; rintro e w1 ⟨rfl, hf1⟩; have HF1 := Lib.hid hf1; clear hf1; simp only [Bool.false_eq_true, if_false])
  go_ret2
  exact ⟨rfl, HF.out.trans HF1.out⟩

set_option maxRecDepth 100000 in
set_option maxHeartbeats 2000000 in
theorem pPut_yes (m : Man) (A : Option Addr) (c : Nat) (G : Nat → Prop) (w : World) (h : ManIn w G m A c) (ho : manOk m = true) (ht : Tab w) :
    Calls Tryz.prog 16 #[manV m A c] w (BytesOkOut w (manPut m) 0) := by
  have hparts := manOk_parts ho
  have hmay := manNums_may ho
  have hf : Frm Nix w (w.alloc (.cells #[.int .i64 m.gen, .int .i64 m.snap, .slice A m.segs.length c] 25)) := (Frm.refl Nix w).alloc _
  have hb := Blk.new w 25 #[.int .i64 m.gen, .int .i64 m.snap, .slice A m.segs.length c]
  have KC := pCheck_any m A c G _ (h.nix hf)
  rw [ho] at KC
  unfold manV at KC ⊢
  have KC := Lib.hid KC
  have H := Lib.hid h
  have HF := Lib.hid hf
  have HB := Lib.hid hb
  have HM := Lib.hid hmay
  have HT := Lib.hid ht
  obtain ⟨-, -, -, -, hn1, hn2, -, -⟩ := hparts
  have HN : Hid ((manNums m).length = m.segs.length + 3) := by simp [manNums, Hid]
  have HNB := Lib.hid (manNums_bytes m)
  have HBL := Lib.hid (manBytes_len (m := m) hn2)
  have hseq : ivs (manNums m) = [.int .i64 m.gen, .int .i64 m.snap, .int .i64 (m.segs.length : Int)] ++ ivs m.segs := by simp [ivs, manNums]
  have HS := Lib.hid hseq
  clear h hf hb hmay ht hseq
  go_enter Tryz.func16, Tryz.ntmps16
  go_wp2_with fail
  refine KC.out.mono ?_
  rintro e w1 ⟨rfl, hf1⟩
  have hb1 := HB.out.frm hf1 id
  have c0 := hb1.cell 0
  have c1 := hb1.cell 1
  have c2 := hb1.cell 2
  simp at c0 c1 c2
  have HF1 : Hid (Frm Nix w w1) := HF.out.trans hf1
  obtain ⟨v2, w2, hrun2, hrow2, -, -⟩ := (RowIn.lit (w0 := w) (w1 := w1) 3 HF1.out [.int .i64 m.gen, .int .i64 m.snap, .int .i64 (m.segs.length : Int)] (by unfold maxLen; simp)).app (P := Tryz.prog) elemI c
    ((H.out.nix (HF1.out.alloc _)).rd) (ivs_one _) (by unfold maxLen; simp; omega) (by simp; omega)
  obtain ⟨A2, cc2, rfl, -, hle2, hm2, -⟩ := hrow2.shape
  rw [← HS.out] at hrow2
  simp only [List.length_cons, List.length_nil] at hrun2 hrow2 hle2
  have e3 : 0 + 1 + 1 + 1 + m.segs.length = m.segs.length + 3 := by omega
  rw [e3] at hrun2 hrow2 hle2
  have c2' := (hb1.alloc (.cells #[.int .i64 m.gen, .int .i64 m.snap, .int .i64 (m.segs.length : Int)] 3)).cell 2
  simp at c2'
  have HR2 := Lib.hid hrow2
  have HNL : Hid ((manNums m).length = m.segs.length + 3) := HN.out
  clear hf1 hb1 hrow2 HN
  simp only [if_true]
  generalize m.segs.length = sn at *
  unfold maxLen at hm2
  go_wp2_with (at_builtin; refine wpList_append_run hrun2 rfl _ _ rfl rfl rfl ?_)
  clear hrun2 c0 c1 c2 c2'
  generalize manNums m = l at *
  have hN : sn + 3 ≤ 35 := by omega
  generalize sn + 3 = N at *
  go_loopw [5, 27] (fun ov kv wr => ∃ k : Nat, k ≤ N ∧ kv = .int .i64 k ∧ RowIn 3 w wr (.slice A2 N cc2) N (ivs l) ∧ RowIn 5 w wr ov ((l.take k).flatMap putN).length (bvs ((l.take k).flatMap putN))) (fun _ kv _ => N - (intOf kv).toNat)
  case atStart => exact ⟨0, by omega, rfl, HR2.out, RowIn.nil_ _ HR2.out.frm⟩
  case round =>
    obtain ⟨k, hk, rfl, hrow, hout⟩ := hrel
    have HR := Lib.hid hrow
    have HO := Lib.hid hout
    obtain ⟨Ao, co, rfl, -, -, -, -⟩ := hout.shape
    clear hrow hout
    by_cases hlt : k < N
    · obtain ⟨ad, u, rfl, -, hla, hu, hcu⟩ := HR.out.rd.at_ (k := k) hlt
      have hkl : k < l.length := by rw [HNL.out]; exact hlt
      rw [ivs_at _ k hkl] at hu
      obtain rfl := Option.some.inj hu
      obtain ⟨hv1, hv2⟩ := HM.out l[k] (List.getElem_mem hkl)
      have HFS := Lib.hid (flat_succ l k hkl)
      have hl9 := flat_len (l.take k)
      rw [List.length_take] at hl9
      have hp9 := putN_len l[k]
      generalize l[k] = x at *
      clear hu
      go_wp2_with fail
      refine (Put_any x _ hv1 hv2).mono ?_
      rintro e w3 ⟨Ab, cb, rfl, hb3⟩
      obtain ⟨v4, w4, hrun4, hrow4, hf4, hat4⟩ := (HO.out.more hb3.frm).app (P := Tryz.prog) elemB cb hb3.rd (bvs_one _) (by unfold maxLen; omega) (by omega)
      have HX : Hid (RowIn 3 w w4 (.slice (some ad) N cc2) N (ivs l) ∧ RowIn 5 w w4 v4 ((l.take (k + 1)).flatMap putN).length (bvs ((l.take (k + 1)).flatMap putN))) := by
        refine ⟨(HR.out.more hb3.frm).far hf4 (fun j hj => ((HO.out.more hb3.frm).own.lt j hj).1) fun j hj hj2 => row_apart (HR.out.more hb3.frm) (HO.out.more hb3.frm) (by decide) hj hj2, ?_⟩
        rw [HFS.out, bvs_append, List.length_append]
        exact hrow4
      clear hb3 hrow4 hf4 hat4 hl9
      generalize (putN x).length = pn at *
      generalize ((l.take k).flatMap putN).length = dn at *
      go_wp2_with (at_builtin; refine wpList_append_run hrun4 rfl _ _ rfl rfl rfl ?_)
      go_roundw
      case rel => exact ⟨k + 1, by omega, by go_num, HX.out.1, HX.out.2⟩
      case measure => simp [intOf]; omega
    · obtain rfl : k = N := by omega
      have HL : Hid (l.take k = l) := List.take_of_length_le (by rw [HNL.out]; exact Nat.le_refl _)
      have ho := HO.out
      rw [HL.out, HNB.out] at ho
      have KS := Seal_any Ao _ co _ _ wr rfl ho.rd (by have := HBL.out; omega) (HT.out.nix ho.frm)
      have HW : Hid (∀ e W, BytesOut wr (sealB (manBytes m)) e W → BytesOut w (manPut m) e W) := fun e W h => h.since ho.frm
      have HLen : Hid (((l.take k).flatMap putN).length = (manBytes m).length) := by unfold Hid; rw [HL.out, HNB.out]
      rw [← HLen.out] at KS
      have KS := Lib.hid KS
      clear ho
      generalize ((l.take k).flatMap putN).length = dn at *
      go_wp2_with fail
      refine KS.out.mono ?_
      intro e W hb
      obtain ⟨A5, c5, rfl, h5⟩ := HW.out _ _ hb
      have H5 : Hid (BytesOkOut w (manPut m) 0 (.returned (.tuple #[.slice A5 (manPut m).length c5, .int .i64 0])) W) := ⟨A5, c5, rfl, h5⟩
      clear hb h5
      go_wp2
      go_ret2
      exact H5.out
end Go.Proofs.YtdgpaddmheagoaaGreatDoor
