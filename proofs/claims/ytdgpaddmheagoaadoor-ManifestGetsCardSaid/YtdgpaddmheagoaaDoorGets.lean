/-
  The manifest of any bytes, or that they are none's: ManifestGets answers true for every input. Its card: the table of the sum by halves of bytes is tied to the program's text.
-/
import Derived.Test.YtdgpaddmheagoaaDoorMI
import Derived.Test.YtdgpaddmheagoaaDoorView
import Derived.Test.YtdgpaddmheagoaaDoorTie
import Derived.Test.YtdgpaddmheagoaaDoorLaid
import Derived.Test.YtdgpaddmheagoaaDoorCards
import Derived.LaidMore
import Derived.OpenShut
import Derived.Lib.LaidTab
import Derived.SevenTiedAt
namespace Go.Proofs.YtdgpaddmheagoaaDoor
open Go.ChangeShapes Go.WideShapes Go.ChangeAt Go.RowKit
set_option linter.unusedVariables false

namespace manifestGets
theorem manGet_ok {l : List UInt8} {m : Man} (h : manGet l = some m) : manOk m = true := by
  unfold manGet at h
  split at h
  · unfold manOf at h
    split at h
    · rename_i hc
      injection h with h
      rw [← h]
      exact hc.2.2
    · cases h
  · cases h

set_option maxRecDepth 100000 in
set_option maxHeartbeats 4000000 in
theorem walk (aA : Option Addr) (an ac : Nat) (al : List UInt8) (w : World) (ha : al.length = an ∧ Rd w (OldB w) 1 aA an (bvs al) ∧ NilOk aA an ac ∧ an ≤ ac ∧ ac ≤ maxLen) (ht : Tab w) :
    Calls Tryd.prog 4 #[.slice aA an ac] w fun e w' => e = .returned (.bool true) ∧ Frm Nix w w' := by
  obtain ⟨hal, har, hnil, hac, ham⟩ := ha
  have HT := Lib.hid ht
  clear ht
  by_cases hla : 2000 < an
  · have hl : decide ((2000 : Int) < (an : Int)) = true := by simp; omega
    unfold maxLen at ham
    clear har hal hnil
    go_enter Tryd.func4, Tryd.ntmps4
    go_wp2_with (go_at_call 6; refine (lives_any _ HT.out).mono ?_; rintro e w1 ⟨rfl, hf⟩)
    go_ret
    exact ⟨rfl, hf⟩
  have hl : decide ((2000 : Int) < (an : Int)) = false := by simp; omega
  have KG := Lib.hid (pGet_any aA an ac al _ w hal har (by omega) hac ham hnil HT.out)
  have KR : Hid (∀ W, Frm Nix w W → Calls Tryd.prog 14 #[.slice aA an ac] W (GetROut W al)) := fun W hW => rGet_any aA an ac al (OldB w) W hal (har.frm hW fun _ _ => id) (fun k hk => by have := hW.size; unfold OldB at hk; omega) (by omega) hac ham
  have HLv : Hid (∀ W, Frm Nix w W → Calls Tryd.prog 6 #[] W fun e w' => e = .returned (.bool true) ∧ Frm Nix W w') := fun W hW => lives_any W (HT.out.nix hW)
  unfold maxLen at ham
  clear har hal hnil
  cases hg : manGet al with
  | none =>
    have KG2 : Hid (Calls Tryd.prog 12 #[.slice aA an ac] w fun e w' => e = .returned (.tuple #[.agg #[.int .i64 0, .int .i64 0, .slice none 0 0], .int .i64 190]) ∧ Frm Nix w w') := KG.out.mono fun e w' h => by unfold GetOut at h; rwa [hg] at h
    have KR2 : Hid (∀ W, Frm Nix w W → Calls Tryd.prog 14 #[.slice aA an ac] W fun e w' => e = .returned (.tuple #[.agg #[.int .i64 0, .int .i64 0, .slice none 0 0], .bool false]) ∧ Frm Nix W w') := fun W hW => (KR.out W hW).mono fun e w' h => by unfold GetROut at h; rwa [hg] at h
    have KS : Hid (∀ W, Calls Tryd.prog 9 #[.agg #[.int .i64 0, .int .i64 0, .slice none 0 0], .agg #[.int .i64 0, .int .i64 0, .slice none 0 0]] W fun e w' => e = .returned (.bool true) ∧ Frm Nix W w') := fun W =>
      rSame_any ⟨0, 0, []⟩ ⟨0, 0, []⟩ none none 0 0 (fun _ => True) (fun _ => True) W ⟨by decide, by decide, by decide, by decide, Rd.none_, by decide, by decide, by simp⟩ ⟨by decide, by decide, by decide, by decide, Rd.none_, by decide, by decide, by simp⟩ (by decide) (by decide)
    clear KG KR hg
    go_enter Tryd.func4, Tryd.ntmps4
    go_wp2_with fail
    refine KG2.out.mono ?_
    rintro e w1 ⟨rfl, hf1⟩
    have H1 : Hid (Frm Nix w (w1.alloc (.cells #[.int .i64 0, .int .i64 0, .slice none 0 0] 24))) := hf1.alloc _
    have b1 := Blk.new w1 24 #[.int .i64 0, .int .i64 0, .slice none 0 0]
    clear hf1
    go_wp2_with fail
    refine (KR2.out _ H1.out).mono ?_
    rintro e w2 ⟨rfl, hf2⟩
    have b2 := b1.frm hf2 id
    have b3 := b2.alloc (.cells #[.int .i64 0, .int .i64 0, .slice none 0 0] 24)
    have b4 := Blk.new w2 24 #[.int .i64 0, .int .i64 0, .slice none 0 0]
    have H2 : Hid (Frm Nix w (w2.alloc (.cells #[.int .i64 0, .int .i64 0, .slice none 0 0] 24)) ∧ Blk (w2.alloc (.cells #[.int .i64 0, .int .i64 0, .slice none 0 0] 24)) w1.heap.size 24 #[.int .i64 0, .int .i64 0, .slice none 0 0] ∧ Blk (w2.alloc (.cells #[.int .i64 0, .int .i64 0, .slice none 0 0] 24)) w2.heap.size 24 #[.int .i64 0, .int .i64 0, .slice none 0 0]) := ⟨(H1.out.trans hf2).alloc _, b3, b4⟩
    clear hf2 b1 b2 b3 b4
    go_wp2_with fail
    refine (HLv.out _ H2.out.1).mono ?_
    rintro e w3 ⟨rfl, hf3⟩
    have q1 := H2.out.2.1.frm hf3 id
    have q2 := H2.out.2.2.frm hf3 id
    have x0 := q1.cell 0
    have x1 := q1.cell 1
    have x2 := q1.cell 2
    have y0 := q2.cell 0
    have y1 := q2.cell 1
    have y2 := q2.cell 2
    simp at x0 x1 x2 y0 y1 y2
    have H3 : Hid (Frm Nix w w3) := H2.out.1.trans hf3
    clear hf3 q1 q2
    go_wp2_with (go_at_call 9; refine (KS.out _).mono ?_; rintro e w4 ⟨rfl, hf4⟩; have HF4 := Lib.hid hf4; clear hf4)
    go_ret
    exact ⟨rfl, H3.out.trans HF4.out⟩
  | some m =>
    have hok := manGet_ok hg
    have KG2 : Hid (Calls Tryd.prog 12 #[.slice aA an ac] w fun e w' => ∃ A c, e = .returned (.tuple #[.agg #[.int .i64 m.gen, .int .i64 m.snap, .slice A m.segs.length c], .int .i64 0]) ∧ RowIn 3 w w' (.slice A m.segs.length c) m.segs.length (ivs m.segs)) := KG.out.mono fun e w' h => by unfold GetOut at h; rwa [hg] at h
    have KR2 : Hid (∀ W, Frm Nix w W → Calls Tryd.prog 14 #[.slice aA an ac] W fun e w' => ∃ A c, e = .returned (.tuple #[.agg #[.int .i64 m.gen, .int .i64 m.snap, .slice A m.segs.length c], .bool true]) ∧ RowIn 3 W w' (.slice A m.segs.length c) m.segs.length (ivs m.segs)) := fun W hW => (KR.out W hW).mono fun e w' h => by unfold GetROut at h; rwa [hg] at h
    have hlen := (manOk_parts hok).2.2.2.2.2.1
    have HOK := Lib.hid hok
    have HLEN := Lib.hid hlen
    have HEQ : Hid (manEq m m = true) := (manEq_iff m m).2 rfl
    clear KG KR hg hok hlen
    go_enter Tryd.func4, Tryd.ntmps4
    go_wp2_with fail
    refine KG2.out.mono ?_
    rintro e w1 ⟨A1, c1, rfl, hr1⟩
    have H1 : Hid (Frm Nix w (w1.alloc (.cells #[.int .i64 m.gen, .int .i64 m.snap, .slice A1 m.segs.length c1] 24)) ∧ Blk (w1.alloc (.cells #[.int .i64 m.gen, .int .i64 m.snap, .slice A1 m.segs.length c1] 24)) w1.heap.size 24 #[.int .i64 m.gen, .int .i64 m.snap, .slice A1 m.segs.length c1] ∧
        ManIn (w1.alloc (.cells #[.int .i64 m.gen, .int .i64 m.snap, .slice A1 m.segs.length c1] 24)) (fun k => (Value.slice A1 m.segs.length c1).ownBlock = some k) m A1 c1) := ⟨hr1.frm.alloc _, Blk.new w1 _ _, (hr1.manIn HOK.out).nix ((Frm.refl Nix w1).alloc _)⟩
    clear hr1
    go_wp2_with fail
    refine (KR2.out _ H1.out.1).mono ?_
    rintro e w2 ⟨A2, c2, rfl, hr2⟩
    have hfa : Frm Nix w2 (w2.alloc (.cells #[.int .i64 m.gen, .int .i64 m.snap, .slice A2 m.segs.length c2] 24)) := (Frm.refl Nix w2).alloc _
    have H2 : Hid (Frm Nix w (w2.alloc (.cells #[.int .i64 m.gen, .int .i64 m.snap, .slice A2 m.segs.length c2] 24)) ∧ Blk (w2.alloc (.cells #[.int .i64 m.gen, .int .i64 m.snap, .slice A2 m.segs.length c2] 24)) w1.heap.size 24 #[.int .i64 m.gen, .int .i64 m.snap, .slice A1 m.segs.length c1] ∧
        Blk (w2.alloc (.cells #[.int .i64 m.gen, .int .i64 m.snap, .slice A2 m.segs.length c2] 24)) w2.heap.size 24 #[.int .i64 m.gen, .int .i64 m.snap, .slice A2 m.segs.length c2] ∧
        ManIn (w2.alloc (.cells #[.int .i64 m.gen, .int .i64 m.snap, .slice A2 m.segs.length c2] 24)) (fun k => (Value.slice A1 m.segs.length c1).ownBlock = some k) m A1 c1 ∧ ManIn (w2.alloc (.cells #[.int .i64 m.gen, .int .i64 m.snap, .slice A2 m.segs.length c2] 24)) (fun k => (Value.slice A2 m.segs.length c2).ownBlock = some k) m A2 c2) :=
      ⟨H1.out.1.trans (hr2.frm.trans hfa), (H1.out.2.1.frm hr2.frm id).frm hfa id, Blk.new w2 _ _, H1.out.2.2.nix (hr2.frm.trans hfa), (hr2.manIn HOK.out).nix hfa⟩
    clear hr2 hfa
    go_wp2_with fail
    refine (HLv.out _ H2.out.1).mono ?_
    rintro e w3 ⟨rfl, hf3⟩
    have q1 := H2.out.2.1.frm hf3 id
    have q2 := H2.out.2.2.1.frm hf3 id
    have x0 := q1.cell 0
    have x1 := q1.cell 1
    have x2 := q1.cell 2
    have y0 := q2.cell 0
    have y1 := q2.cell 1
    have y2 := q2.cell 2
    simp at x0 x1 x2 y0 y1 y2
    have KS := rSame_any m m A1 A2 c1 c2 _ _ w3 (H2.out.2.2.2.1.nix hf3) (H2.out.2.2.2.2.nix hf3) (by have := HLEN.out; omega) (by have := HLEN.out; omega)
    rw [HEQ.out] at KS
    unfold manV at KS
    have KS := Lib.hid KS
    have H3 : Hid (Frm Nix w w3) := H2.out.1.trans hf3
    clear hf3 q1 q2
    go_wp2_with (go_at_call 9; refine KS.out.mono ?_; rintro e w4 ⟨rfl, hf4⟩; have HF4 := Lib.hid hf4; clear hf4)
    go_ret
    exact ⟨rfl, H3.out.trans HF4.out⟩

theorem own : ownKnob Tryd.prog.godebug = none := by kernel_rfl
theorem laidOut : laidOutB Tryd.prog = true := by kernel_rfl

set_option maxRecDepth 100000 in
theorem lifted (os : Os) (started : os.Started) (H : Type) (enc : TypeId × Value → H) :
    ReturnsInHanded {} Tryd.checked os 4 .any (fun w args => (Rows.manifestGetsSpec.pre enc Tryd.prog Tryd.f4 [] false w args ∧ laidMetH Tryd.prog laid1 w) ∧ sizedMet enc Tryd.prog Tryd.f4 (OpenSpec.ofChange Rows.manifestGetsSpec) false w args)
      (Rows.manifestGetsSpec.post enc Tryd.prog Tryd.f4 false true false false) := by
  refine returnsInHanded_of_change_and (C := Tryd.checked) (X := fun w _ => laidMetH Tryd.prog laid1 w) (fun _ _ _ hh h => h.of_heap hh) own started (by kernel_rfl) Tryd.func4
    (ChangeSpec.witness_shaped (enc := enc) (C := Tryd.checked) (os := os) (X := fun w _ => laidMetH Tryd.prog laid1 w) false (World.doorLaid Tryd.prog 400 os) #[.slice none 0 0] 8 rfl (World.shaped_of_RefB (by kernel_rfl) (by kernel_rfl)) (by kernel_rfl) (by kernel_rfl) (by kernel_rfl) (door_met os _)) ?_
  intro W base args ds gs before hval0 hW _ _ hL _
  have hval : ∀ (j : Nat) t v, Tryd.f4.params[j]? = some t → args[j]? = some v → Value.okWide Tryd.prog W .any base t v := hval0
  have hW' := hW
  obtain ⟨p, q, hA0, hV, rfl, hfz, hnd⟩ := hW
  have hA : DataW.TrodAll enc Tryd.prog W 0 (fun _ => true) true Tryd.f4.params.toList args.toList ds p := hA0
  rw [Tryd.params4] at hA hval
  obtain ⟨v0, vs0, d0, ds0, p0, q0, hargs, rfl, rfl, h0, r0⟩ := trodAll_cons hA
  obtain ⟨rfl, rfl, rfl⟩ := trodAll_nil r0
  obtain rfl : args = #[v0] := by cases args; simp_all
  obtain ⟨rfl, rfl⟩ := trodVars_none hV
  have k0 := h0
  have lt0 : ∀ x ∈ p0, x.block < W.heap.size := by obtain ⟨m, hm⟩ := k0; exact DataW.trod_lt m _ _ _ hm
  obtain ⟨a0, n0, c0, l0, rfl, wx0⟩ : ∃ a n c, ∃ l : List UInt8, v0 = .slice a n c ∧ l.length = n ∧ Rd W (OldB W) 1 a n (bvs l) ∧ NilOk a n c ∧ n ≤ c ∧ c ≤ maxLen := by
    obtain ⟨a, n, c, rfl⟩ := okWide_slice Tryd.underlying26 (hval 0 26 v0 rfl rfl)
    obtain ⟨fuel, hf⟩ := h0
    obtain ⟨A, n', c', l, e, hk⟩ := vBytes hf
    simp [Value.cells] at e
    obtain ⟨rfl, rfl, rfl⟩ := e
    exact ⟨_, _, _, l, rfl, hk⟩
  clear hA0 hval0
  refine (walk a0 n0 c0 l0 W wx0 (tab_of_laid hL)).mono fun e W' ⟨he, hfr⟩ => ?_
  have bel : Below W.heap.size W W' := hfr.below (fun _ h => absurd h id) (Nat.le_refl _)
  subst he
  exact ⟨_, rfl, _, _, _, [], _, [], hW', trodAll_mk1 (shut_bool Tryd.underlying4 _), (trodAll_cons_mk (Below.trod laidOut (by kernel_rfl) (of_decide_eq_true (by kernel_rfl)) k0 bel lt0) trodAll_mk0), rfl, bel.frame _, fun h => by cases h⟩

theorem proved : Rows.ManifestGetsSaid :=
  OpenClaim.holds_of_wide 4 Tryd.f4 rfl rfl rfl rfl rfl rfl rfl ⟨rfl, rfl, rfl, rfl, rfl⟩ rfl rfl rfl rfl rfl (by kernel_rfl) Tryd.func4 (by kernel_rfl)
    (of_decide_eq_true (by kernel_rfl)) (by unfold Func.isWrapper; first | (rw [if_pos (by decide +kernel)]; kernel_rfl) | (rw [if_neg (by decide +kernel)]; exact ⟨rfl, rfl⟩))
    (fun os started H enc _ => lifted os started H enc)
#print axioms proved

theorem card : Rows.ManifestGetsCardSaid :=
  Claim7.holds_tied_plain_at .later [] [.data] true (true, "a414ffddb31cc5f763b9fc8611f6813be59f682ddef2834ddb7c0cc24705e4e3") false
    proved (fun _ h => by cases h) (by kernel_rfl) (fun _ h => by cases h) manifestGets_row_tie rfl ⟨rfl, rfl⟩ (by kernel_rfl) rfl
    (fun f fn hf hfn => by
      obtain rfl : f = 4 := Option.some.inj ((show Tryd.prog.funcNamed "newsstand/newsstandlaw19.ManifestGets" = some 4 by kernel_rfl).symm.trans hf) |>.symm
      obtain rfl : fn = Tryd.f4 := (Option.some.inj (Tryd.func4.symm.trans hfn)).symm
      exact ⟨by kernel_rfl, fun j t ht => by
        rw [Tryd.params4] at ht
        have hm : t ∈ [26] := by simpa using Array.mem_of_getElem? ht
        have hall : ([26].all fun u => !Tryd.prog.wantsStandIn u) = true := by kernel_rfl
        exact (show Tryd.prog.wantsStandIn t = false by simpa using List.all_eq_true.1 hall t hm)⟩)
    (by kernel_rfl)
#print axioms card
end manifestGets
end Go.Proofs.YtdgpaddmheagoaaDoor
