/-
  Contracts: built, From, Check, History.
-/
import Derived.Test.YtjbifjgeheigoaaGreatGa41
import Derived.Test.YtjbifjgeheigoaaGreatGa44
import Derived.Test.YtjbifjgeheigoaaGreatGa32
import Derived.Test.YtjbifjgeheigoaaGreatGa12
import Derived.Deep.RegionWith
section
set_option linter.unusedVariables false
set_option linter.unusedSimpArgs false
namespace Go.Proofs.YtjbifjgeheigoaaGreat
open Go.RowKit Go.Lib

theorem StP.small {x : St} (h : StP x) : StSmall x := ⟨by have := h.fL; omega, by have := h.eL; omega, by have := h.iL; omega, by have := h.sL; omega, fun t ht => by have := (h.iE t ht).2.2.2.1; omega⟩
theorem leads_fits : ∀ {l : List Ev} {x z : St} {e : Ev} {r : List Ev}, Leads x (l ++ e :: r) z → fits (foldE x l) e = true
  | [], _, _, _, _, h => h.1
  | a :: l, x, z, e, r, h => by
    have h1 := h.1
    have := leads_fits (l := l) h.2
    unfold foldE at this ⊢
    rw [List.foldl_cons, show (applyS x a).1 = doS x a by simp [applyS, h1]]
    exact this
theorem leads_step {l : List Ev} {x : St} {e : Ev} (h : Leads x l (foldE x l)) (hf : fits (foldE x l) e = true) : Leads x (l ++ [e]) (foldE x (l ++ [e])) := by
  have e0 : foldE x (l ++ [e]) = (applyS (foldE x l) e).1 := by
    unfold foldE
    rw [List.foldl_append]
    rfl
  have e1 : foldE x (l ++ [e]) = doS (foldE x l) e := by
    rw [e0]
    simp [applyS, hf]
  rw [e1]
  exact h.app ⟨hf, rfl⟩

def BuiltOut (w : World) (x : St) (e : Ending) (w' : World) : Prop :=
  (stOk x = true ∧ ∃ g M A c, e = .returned (.tuple #[.pointer (some ⟨g, 0, none⟩), .slice A (pastS x).length c]) ∧ StAt w' g M x ∧ RowK 38 7 w w' (.slice A (pastS x).length c) (pastS x).length ((pastS x).flatMap Ev.cells) ∧ (∀ k, SF g M k → w.heap.size ≤ k)) ∨
  (stOk x = false ∧ e = .returned (.tuple #[.pointer none, .slice none 0 0]) ∧ Frm Nix w w')
set_option maxRecDepth 100000 in
set_option maxHeartbeats 8000000 in
theorem built_any {w : World} {fo fe it se : Sl} {ts : List (Sl × Itm)} {x : St} {G : Nat → Prop} (hS : StIn w G fo fe it se ts x) (hsm : StSmall x) (hp : (pastS x).length ≤ 900000) (hI : ∀ e ∈ pastS x, I64 e.a ∧ I64 e.b) :
    Calls Tryz.prog 83 #[stV fo fe it se x] w (BuiltOut w x) := by
  obtain ⟨w0, hw0⟩ : ∃ w0, w0 = w.alloc (.cells #[.int .i64 x.clock, .slice fo.1 x.fols.length fo.2, .slice fe.1 x.fees.length fe.2, .slice it.1 x.itms.length it.2, .slice se.1 x.seas.length se.2, .int .i64 x.tFol, .int .i64 x.tFee, .int .i64 x.tItm, .int .i64 x.tSea] 30) := ⟨_, rfl⟩
  have hf0 : Frm Nix w w0 := by rw [hw0]; exact (Frm.refl Nix w).alloc _
  have hb0 : Blk w0 w.heap.size 30 #[.int .i64 x.clock, .slice fo.1 x.fols.length fo.2, .slice fe.1 x.fees.length fe.2, .slice it.1 x.itms.length it.2, .slice se.1 x.seas.length se.2, .int .i64 x.tFol, .int .i64 x.tFee, .int .i64 x.tItm, .int .i64 x.tSea] := by rw [hw0]; exact Blk.new w _ _
  obtain ⟨x0, x1, x2, x3, x4, x5, x6, x7, x8⟩ := blk9 hb0
  have KP := Lib.hid (past_any (hS.nix hf0) hsm hp)
  have HS := Lib.hid hS
  have HSm := Lib.hid hsm
  have HI := Lib.hid hI
  have HF0 := Lib.hid hf0
  have HB0 := Lib.hid hb0
  have HW0 := Lib.hid hw0
  clear hS hsm hI hf0 hb0 hw0
  obtain ⟨l, hl⟩ : ∃ l, pastS x = l := ⟨_, rfl⟩
  obtain ⟨n, hn⟩ : ∃ n, l.length = n := ⟨_, rfl⟩
  have HLP := Lib.hid hl
  have HLN := Lib.hid hn
  rw [hl] at HI KP hp
  rw [hn] at KP hp
  clear hl hn
  unfold stV at *
  go_enter Tryz.func83, Tryz.ntmps83
  go_wp2_with (first
    | (go_at_call 140; rw [← HW0.out]; refine KP.out.mono ?_; rintro r w1 ⟨A, c, rfl, hrow⟩; have HR := Lib.hid hrow; have KN := Lib.hid (New_any w1); clear hrow)
    | (go_at_call 15; refine KN.out.mono ?_; rintro r w2 ⟨g, M, rfl, hs, hf, hg⟩; have HS2 := Lib.hid hs; have HF2 := Lib.hid hf; have HG := Lib.hid hg; clear hs hf hg))
  go_loopw [13] (fun kv wr => ∃ k : Nat, k ≤ n ∧ kv = .int .i64 k ∧ StAt wr g M (foldE st0 (l.take k)) ∧ Frm Nix w1 wr ∧ Leads st0 (l.take k) (foldE st0 (l.take k))) (fun kv _ => n - (intOf kv).toNat)
  case atStart => exact ⟨0, by omega, rfl, HS2.out, HF2.out, rfl⟩
  case round =>
    obtain ⟨k, hk, rfl, hs, hf, hl⟩ := hrel
    have HS3 := Lib.hid hs
    have HF3 := Lib.hid hf
    have HL3 := Lib.hid hl
    clear hs hf hl
    by_cases hlt : k < n
    · have hkl : k < l.length := by rw [HLN.out]; exact hlt
      have hsl := (HR.out.more HF3.out).sl
      rw [← HLN.out] at hsl
      obtain ⟨b, off, hA, -, hbl, hcell⟩ := hsl.at_ Ev.clen (by decide) (by omega)
      dsimp only at hA
      subst hA
      have hce := hcell k hkl
      have hie := HI.out l[k] (List.getElem_mem hkl)
      have HFT := Lib.hid (foldE_take (x := st0) hkl)
      have HDrop : Hid (l = l.take k ++ l[k] :: l.drop (k + 1)) := by unfold Hid; rw [← List.drop_eq_getElem_cons hkl, List.take_append_drop]
      have HTk : Hid (l.take (k + 1) = l.take k ++ [l[k]]) := List.take_succ_eq_append_getElem hkl
      obtain ⟨ev, hev⟩ : ∃ ev, l[k] = ev := ⟨_, rfl⟩
      rw [hev] at hce hie HFT HDrop HTk
      obtain ⟨y0, y1, y2, y3, y4, y5, y6⟩ := evc7 (w := wr) (b := b) (off := off + k * 7) (e := ev) hce
      have KA : Hid (Calls Tryz.prog 22 #[.pointer (some ⟨g, 0, none⟩), .agg #[.int .i64 ev.kind, .int .i64 ev.a, .int .i64 ev.b, .int .i64 ev.n, .string ev.s, .string ev.t, .string ev.u]] (wr.alloc (.cells #[.int .i64 ev.kind, .int .i64 ev.a, .int .i64 ev.b, .int .i64 ev.n, .string ev.s, .string ev.t, .string ev.u] 38)) fun r w' => r = .returned (.bool (fits (foldE st0 (l.take k)) ev)) ∧ StAt w' g M (foldE st0 (l.take (k + 1))) ∧ Frm Nix w1 w') :=
        (Apply_any (HS3.out.nix ((Frm.refl Nix wr).alloc _)) ev hie.1 hie.2).mono fun r w' ⟨h1, h2, h3⟩ => ⟨by rw [h1]; unfold applyS; cases fits (foldE st0 (l.take k)) ev <;> rfl, by rw [HFT.out]; exact h2, frm_own (HF3.out.alloc _) h3 HG.out⟩
      clear hcell hce hev hie hsl
      cases hfit : fits (foldE st0 (l.take k)) ev with
      | true =>
        rw [hfit] at KA
        have HL4 : Hid (Leads st0 (l.take (k + 1)) (foldE st0 (l.take (k + 1)))) := by unfold Hid; rw [HTk.out]; exact leads_step HL3.out hfit
        clear hfit
        go_wp2_with (go_at_call 22; refine KA.out.mono ?_; rintro r w3 ⟨rfl, hs2, hf2⟩; have HS4 := Lib.hid hs2; have HF4 := Lib.hid hf2; clear hs2 hf2)
        go_roundw
        case rel => exact ⟨k + 1, by omega, by go_num, HS4.out, HF4.out, HL4.out⟩
        case measure => simp [intOf]; omega
      | false =>
        rw [hfit] at KA
        have HNo : Hid (stOk x = false) := by
          unfold Hid
          cases hok : stOk x with
          | false => rfl
          | true =>
            exfalso
            have h1 := (leads_iff_ok x).2 hok
            rw [HLP.out, HDrop.out] at h1
            have := leads_fits h1
            rw [hfit] at this
            cases this
        clear hfit
        go_wp2_with (go_at_call 22; refine KA.out.mono ?_; rintro r w3 ⟨rfl, hs2, hf2⟩; have HS4 := Lib.hid hs2; have HF4 := Lib.hid hf2; clear hs2 hf2)
        go_ret2
        exact .inr ⟨HNo.out, rfl, (HF0.out.trans HR.out.frm).trans HF4.out⟩
    · obtain rfl : k = n := by omega
      have HTk : Hid (l.take k = l) := List.take_of_length_le (by rw [HLN.out]; exact Nat.le_refl _)
      rw [HTk.out] at HS3 HL3
      obtain ⟨y, hy⟩ : ∃ y, foldE st0 l = y := ⟨_, rfl⟩
      rw [hy] at HS3 HL3
      have hfw : Frm Nix w wr := (HF0.out.trans HR.out.frm).trans HF3.out
      have KT : Hid (∀ W, Frm Nix wr W → Calls Tryz.prog 18 #[.pointer (some ⟨g, 0, none⟩)] W fun e w' => ∃ fo fe it se : Sl, ∃ ts : List (Sl × Itm), e = .returned (stV fo fe it se y) ∧ StIn w' (fun k => W.heap.size ≤ k) fo fe it se ts y ∧ Frm Nix W w') := fun W hW => Tell_any (HS3.out.nix hW)
      have KQ : Hid (∀ W W0 fo' fe' it' se' ts', Frm Nix wr W → StIn W (fun k => W0 ≤ k) fo' fe' it' se' ts' y → Calls Tryz.prog 26 #[stV fo' fe' it' se' y, stV fo fe it se x] W fun e w' => e = .returned (.bool (decide (y = x))) ∧ Frm Nix W w') := fun W W0 fo' fe' it' se' ts' hW hin => Same_any hin (HS.out.nix (hfw.trans hW)) HS3.out.ok.small HSm.out
      have HBx : Hid (∀ W, Frm Nix wr W → Blk W w.heap.size 30 #[.int .i64 x.clock, .slice fo.1 x.fols.length fo.2, .slice fe.1 x.fees.length fe.2, .slice it.1 x.itms.length it.2, .slice se.1 x.seas.length se.2, .int .i64 x.tFol, .int .i64 x.tFee, .int .i64 x.tItm, .int .i64 x.tSea]) := fun W hW => (HB0.out.frm (HR.out.frm.trans HF3.out) id).frm hW id
      have HY : Hid (stOk x = decide (y = x)) := by
        unfold Hid
        by_cases hyx : y = x
        · rw [decide_eq_true hyx]
          refine (leads_iff_ok x).1 ?_
          rw [HLP.out]
          have := HL3.out
          rwa [hyx] at this
        · rw [decide_eq_false hyx]
          cases hok : stOk x with
          | false => rfl
          | true =>
            exfalso
            have h1 := (leads_iff_ok x).2 hok
            rw [HLP.out] at h1
            have := h1.fold
            rw [hy] at this
            exact hyx this
      have HFW := Lib.hid hfw
      clear hfw hy
      obtain ⟨z0, z1, z2, z3, z4, z5, z6, z7, z8⟩ := blk9 (HBx.out wr (Frm.refl _ _))
      unfold stV at KT KQ
      by_cases hyx : y = x
      · rw [decide_eq_true hyx] at KQ HY
        have HYX := Lib.hid hyx
        clear hyx
        go_wp2
        go_region_with (first
          | (go_at_call 18; refine (KT.out _ (Frm.refl Nix wr).drew).mono ?_; rintro r w4 ⟨fo', fe', it', se', ts', rfl, hin, hf4⟩; have HF5 : Hid (Frm Nix wr w4) := (Frm.refl Nix wr).drew.trans hf4; have KQ2 := Lib.hid (KQ.out _ _ _ _ _ _ _ HF5.out hin); obtain ⟨q0, q1, q2, q3, q4, q5, q6, q7, q8⟩ := blk9 (HBx.out _ HF5.out); clear hin hf4)
          | (go_at_call 26; refine KQ2.out.mono ?_; rintro r w5 ⟨rfl, hf5⟩; have HF6 := Lib.hid (HF5.out.trans hf5); clear hf5))
        all_goals
          go_wp2
          go_ret2
          have hs := HS3.out.nix HF6.out
          rw [HYX.out] at hs
          refine .inl ⟨HY.out, g, M, A, c, ?_, hs, ?_, fun k hk => Nat.le_trans (Nat.le_trans HF0.out.size HR.out.frm.size) (HG.out k hk)⟩
          · rw [HLP.out, HLN.out]
            rfl
          · rw [HLP.out, HLN.out]
            exact (HR.out.more (HF3.out.trans HF6.out)).since HF0.out
      · rw [decide_eq_false hyx] at KQ HY
        clear hyx
        go_wp2
        go_region_with (first
          | (go_at_call 18; refine (KT.out _ (Frm.refl Nix wr).drew).mono ?_; rintro r w4 ⟨fo', fe', it', se', ts', rfl, hin, hf4⟩; have HF5 : Hid (Frm Nix wr w4) := (Frm.refl Nix wr).drew.trans hf4; have KQ2 := Lib.hid (KQ.out _ _ _ _ _ _ _ HF5.out hin); obtain ⟨q0, q1, q2, q3, q4, q5, q6, q7, q8⟩ := blk9 (HBx.out _ HF5.out); clear hin hf4)
          | (go_at_call 26; refine KQ2.out.mono ?_; rintro r w5 ⟨rfl, hf5⟩; have HF6 := Lib.hid (HF5.out.trans hf5); clear hf5))
        all_goals
          go_wp2
          go_ret2
          exact .inr ⟨HY.out, rfl, HFW.out.trans HF6.out⟩
end Go.Proofs.YtjbifjgeheigoaaGreat
end
section
set_option linter.unusedVariables false
set_option linter.unusedSimpArgs false
namespace Go.Proofs.YtjbifjgeheigoaaGreat
open Go.RowKit Go.Lib

section
variable {w : World} {fo fe it se : Sl} {ts : List (Sl × Itm)} {x : St} {G : Nat → Prop}
theorem box_st (w : World) (fo fe it se : Sl) (x : St) : ∃ w0, w0 = w.alloc (.cells #[.int .i64 x.clock, .slice fo.1 x.fols.length fo.2, .slice fe.1 x.fees.length fe.2, .slice it.1 x.itms.length it.2, .slice se.1 x.seas.length se.2, .int .i64 x.tFol, .int .i64 x.tFee, .int .i64 x.tItm, .int .i64 x.tSea] 30) ∧ Frm Nix w w0 ∧ Blk w0 w.heap.size 30 #[.int .i64 x.clock, .slice fo.1 x.fols.length fo.2, .slice fe.1 x.fees.length fe.2, .slice it.1 x.itms.length it.2, .slice se.1 x.seas.length se.2, .int .i64 x.tFol, .int .i64 x.tFee, .int .i64 x.tItm, .int .i64 x.tSea] :=
  ⟨_, rfl, (Frm.refl Nix w).alloc _, Blk.new w _ _⟩
set_option maxRecDepth 100000 in
set_option maxHeartbeats 8000000 in
theorem From_yes (hS : StIn w G fo fe it se ts x) (hsm : StSmall x) (hp : (pastS x).length ≤ 900000) (hI : ∀ e ∈ pastS x, I64 e.a ∧ I64 e.b) (hok : stOk x = true) :
    Calls Tryz.prog 25 #[stV fo fe it se x] w fun e w' => ∃ g M, e = .returned (.tuple #[.pointer (some ⟨g, 0, none⟩), .int .i64 0]) ∧ StAt w' g M x ∧ Frm Nix w w' ∧ ∀ k, SF g M k → w.heap.size ≤ k := by
  obtain ⟨w0, hw0, hf0, hb0⟩ := box_st w fo fe it se x
  obtain ⟨x0, x1, x2, x3, x4, x5, x6, x7, x8⟩ := blk9 hb0
  have KB : Hid (Calls Tryz.prog 83 #[stV fo fe it se x] w0 fun e w' => ∃ g M A c, e = .returned (.tuple #[.pointer (some ⟨g, 0, none⟩), .slice A (pastS x).length c]) ∧ StAt w' g M x ∧ Frm Nix w w' ∧ ∀ k, SF g M k → w.heap.size ≤ k) :=
    (built_any (hS.nix hf0) hsm hp hI).mono fun e w' h => by
      rcases h with ⟨-, g, M, A, c, h1, h2, h3, h4⟩ | ⟨h1, -⟩
      · exact ⟨g, M, A, c, h1, h2, hf0.trans h3.frm, fun k hk => Nat.le_trans hf0.size (h4 k hk)⟩
      · rw [hok] at h1
        cases h1
  have HW := Lib.hid hw0
  clear hS hsm hp hI hok hw0 hf0 hb0
  unfold stV at *
  go_enter Tryz.func25, Tryz.ntmps25
  go_wp2_with (go_at_call 83; rw [← HW.out]; refine KB.out.mono ?_; rintro r w1 ⟨g, M, A, c, rfl, h1, h2, h3⟩; have H := Lib.hid (And.intro h1 (And.intro h2 h3)); clear h1 h2 h3)
  go_ret2
  exact ⟨g, M, rfl, H.out⟩
set_option maxRecDepth 100000 in
set_option maxHeartbeats 8000000 in
theorem From_no (hS : StIn w G fo fe it se ts x) (hsm : StSmall x) (hp : (pastS x).length ≤ 900000) (hI : ∀ e ∈ pastS x, I64 e.a ∧ I64 e.b) (hok : stOk x = false) :
    Calls Tryz.prog 25 #[stV fo fe it se x] w fun e w' => e = .returned (.tuple #[.pointer none, .int .i64 210]) ∧ Frm Nix w w' := by
  obtain ⟨w0, hw0, hf0, hb0⟩ := box_st w fo fe it se x
  obtain ⟨x0, x1, x2, x3, x4, x5, x6, x7, x8⟩ := blk9 hb0
  have KB : Hid (Calls Tryz.prog 83 #[stV fo fe it se x] w0 fun e w' => e = .returned (.tuple #[.pointer none, .slice none 0 0]) ∧ Frm Nix w w') :=
    (built_any (hS.nix hf0) hsm hp hI).mono fun e w' h => by
      rcases h with ⟨h1, -⟩ | ⟨-, h1, h2⟩
      · rw [hok] at h1
        cases h1
      · exact ⟨h1, hf0.trans h2⟩
  have HW := Lib.hid hw0
  clear hS hsm hp hI hok hw0 hf0 hb0
  unfold stV at *
  go_enter Tryz.func25, Tryz.ntmps25
  go_wp2_with (go_at_call 83; rw [← HW.out]; refine KB.out.mono ?_; rintro r w1 ⟨rfl, h1⟩; have H := Lib.hid h1; clear h1)
  go_ret2
  exact ⟨rfl, H.out⟩
set_option maxRecDepth 100000 in
set_option maxHeartbeats 8000000 in
theorem Check_any (hS : StIn w G fo fe it se ts x) (hsm : StSmall x) (hp : (pastS x).length ≤ 900000) (hI : ∀ e ∈ pastS x, I64 e.a ∧ I64 e.b) :
    Calls Tryz.prog 28 #[stV fo fe it se x] w fun e w' => e = .returned (.int .i64 (if stOk x = true then 0 else 210)) ∧ Frm Nix w w' := by
  obtain ⟨w0, hw0, hf0, hb0⟩ := box_st w fo fe it se x
  obtain ⟨x0, x1, x2, x3, x4, x5, x6, x7, x8⟩ := blk9 hb0
  have KB : Hid (Calls Tryz.prog 25 #[stV fo fe it se x] w0 fun e w' => ∃ p, e = .returned (.tuple #[.pointer p, .int .i64 (if stOk x = true then 0 else 210)]) ∧ Frm Nix w w') := by
    cases hok : stOk x with
    | true => exact (From_yes (hS.nix hf0) hsm hp hI hok).mono fun e w' ⟨g, M, h1, h2, h3, h4⟩ => ⟨_, h1, hf0.trans h3⟩
    | false => exact (From_no (hS.nix hf0) hsm hp hI hok).mono fun e w' ⟨h1, h2⟩ => ⟨_, h1, hf0.trans h2⟩
  have HW := Lib.hid hw0
  clear hS hsm hp hI hw0 hf0 hb0
  unfold stV at *
  generalize (if stOk x = true then (0 : Int) else 210) = r at *
  go_enter Tryz.func28, Tryz.ntmps28
  go_wp2_with (go_at_call 25; rw [← HW.out]; refine KB.out.mono ?_; rintro q w1 ⟨p, rfl, h1⟩; have H := Lib.hid h1; clear h1)
  go_ret
  exact ⟨rfl, H.out⟩
set_option maxRecDepth 100000 in
set_option maxHeartbeats 8000000 in
theorem History_yes (hS : StIn w G fo fe it se ts x) (hsm : StSmall x) (hp : (pastS x).length ≤ 900000) (hI : ∀ e ∈ pastS x, I64 e.a ∧ I64 e.b) (hok : stOk x = true) :
    Calls Tryz.prog 29 #[stV fo fe it se x] w fun e w' => ∃ A c, e = .returned (.slice A (pastS x).length c) ∧ RowK 38 7 w w' (.slice A (pastS x).length c) (pastS x).length ((pastS x).flatMap Ev.cells) := by
  obtain ⟨w0, hw0, hf0, hb0⟩ := box_st w fo fe it se x
  obtain ⟨x0, x1, x2, x3, x4, x5, x6, x7, x8⟩ := blk9 hb0
  have KB : Hid (Calls Tryz.prog 83 #[stV fo fe it se x] w0 fun e w' => ∃ g A c, e = .returned (.tuple #[.pointer (some ⟨g, 0, none⟩), .slice A (pastS x).length c]) ∧ RowK 38 7 w w' (.slice A (pastS x).length c) (pastS x).length ((pastS x).flatMap Ev.cells)) :=
    (built_any (hS.nix hf0) hsm hp hI).mono fun e w' h => by
      rcases h with ⟨-, g, M, A, c, h1, h2, h3, h4⟩ | ⟨h1, -⟩
      · exact ⟨g, A, c, h1, h3.since hf0⟩
      · rw [hok] at h1
        cases h1
  have HW := Lib.hid hw0
  clear hS hsm hp hI hok hw0 hf0 hb0
  unfold stV at *
  generalize (pastS x).flatMap Ev.cells = L at *
  generalize (pastS x).length = n at *
  go_enter Tryz.func29, Tryz.ntmps29
  go_wp2_with (go_at_call 83; rw [← HW.out]; refine KB.out.mono ?_; rintro r w1 ⟨g, A, c, rfl, h1⟩; have H := Lib.hid h1; clear h1)
  go_ret
  exact ⟨A, c, rfl, H.out⟩
set_option maxRecDepth 100000 in
set_option maxHeartbeats 8000000 in
theorem History_no (hS : StIn w G fo fe it se ts x) (hsm : StSmall x) (hp : (pastS x).length ≤ 900000) (hI : ∀ e ∈ pastS x, I64 e.a ∧ I64 e.b) (hok : stOk x = false) :
    Calls Tryz.prog 29 #[stV fo fe it se x] w fun e w' => e = .returned (.slice none 0 0) ∧ Frm Nix w w' := by
  obtain ⟨w0, hw0, hf0, hb0⟩ := box_st w fo fe it se x
  obtain ⟨x0, x1, x2, x3, x4, x5, x6, x7, x8⟩ := blk9 hb0
  have KB : Hid (Calls Tryz.prog 83 #[stV fo fe it se x] w0 fun e w' => e = .returned (.tuple #[.pointer none, .slice none 0 0]) ∧ Frm Nix w w') :=
    (built_any (hS.nix hf0) hsm hp hI).mono fun e w' h => by
      rcases h with ⟨h1, -⟩ | ⟨-, h1, h2⟩
      · rw [hok] at h1
        cases h1
      · exact ⟨h1, hf0.trans h2⟩
  have HW := Lib.hid hw0
  clear hS hsm hp hI hok hw0 hf0 hb0
  unfold stV at *
  go_enter Tryz.func29, Tryz.ntmps29
  go_wp2_with (go_at_call 83; rw [← HW.out]; refine KB.out.mono ?_; rintro r w1 ⟨rfl, h1⟩; have H := Lib.hid h1; clear h1)
  go_ret
  exact ⟨rfl, H.out⟩
end
end Go.Proofs.YtjbifjgeheigoaaGreat
end
