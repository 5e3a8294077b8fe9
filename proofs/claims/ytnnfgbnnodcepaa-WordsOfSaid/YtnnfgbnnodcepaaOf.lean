/-
  WordsOf: for every input the law 'the words of any text, in order, and each once; whether it is one' returns true, and its argument reads as it did. No condition.
-/
import Derived.Test.YtnnfgbnnodcepaaRows
import Derived.Test.YtnnfgbnnodcepaaWN
import Derived.ProofKit
import Derived.OpenShut
import Derived.ShutString
import Derived.ChangeOld
namespace Go.Proofs.Ytnnfgbnnodcepaa
open Go.ChangeShapes Go.WideShapes Go.ChangeAt Go.RowKit

namespace wordsOf
set_option maxRecDepth 100000 in
set_option maxHeartbeats 2000000 in
theorem walk (s : ByteArray) (w : World) (hs : s.size ≤ maxLen) :
    Calls Try.prog 3 #[.string s] w fun e w' => e = .returned (.bool true) ∧ Frm Nix w w' := by
  unfold maxLen at hs
  by_cases h1 : 3000 < s.size
  · have d1 : decide ((3000 : Int) < (s.size : Int)) = true := decide_eq_true (by omega)
    go_enter Try.func3, Try.ntmps3
    go_wp2_with fail
    refine (lives_any w).mono ?_
    rintro e w1 ⟨rfl, f1⟩
    go_wp2
    go_ret
    exact ⟨rfl, f1⟩
  have d1 : decide ((3000 : Int) < (s.size : Int)) = false := decide_eq_false (by omega)
  have K1 := Lib.hid (fun W => rWords_any s W (by omega))
  have K2 := Lib.hid (fun W => Words_any s W (by omega))
  have K3 := Lib.hid (fun W => Set_any s W (by omega))
  have K4 := Lib.hid (fun W => rSet_any s W (by omega))
  have K5 := Lib.hid (fun W => Is_any s W (by omega))
  have hls := (words_bound (bys s)).1
  rw [← size_bys] at hls
  have hls2 : (wordsB s).length ≤ 3000 := by rw [wordsB_ofB, List.length_map]; omega
  have hse2 : (setB s).length ≤ 3000 := by
    unfold setB
    rw [List.length_map]
    have := setW_len (wordsL (bys s)) (wordsL (bys s)).length (Nat.le_refl _)
    rw [List.take_of_length_le (Nat.le_refl _)] at this
    omega
  clear hls
  generalize wordsB s = l at *
  generalize setB s = se at *
  go_enter Try.func3, Try.ntmps3
  go_wp2_with fail
  refine (K1.out _).mono ?_
  rintro e w1 ⟨A, c, rfl, hrow⟩
  have HR := Lib.hid hrow
  clear hrow
  go_wp2_with fail
  refine (lives_any _).mono ?_
  rintro e w2 ⟨rfl, f2⟩
  have HF2 := Lib.hid f2
  clear f2
  go_wp2_with fail
  refine (K2.out _).mono ?_
  rintro e w3 ⟨A', c', rfl, hrow3⟩
  have HF3 := Lib.hid (HF2.out.trans hrow3.frm)
  have KS := Lib.hid (rSame_any (c := c') (d := c) hrow3.rd (HR.out.more HF3.out).rd (by omega) (by omega))
  clear hrow3 HF2
  simp only [decide_true] at KS
  go_wp2_with fail
  refine KS.out.mono ?_
  rintro e w4 ⟨rfl, f4⟩
  have HF4 := Lib.hid (HF3.out.trans f4)
  clear f4 KS HF3
  go_wp2_with fail
  refine (K3.out _).mono ?_
  rintro e w5 ⟨A5, c5, rfl, hrow5⟩
  have H5 := Lib.hid hrow5
  clear hrow5
  go_wp2_with fail
  refine (K4.out _).mono ?_
  rintro e w6 ⟨A6, c6, rfl, hrow6⟩
  have KS := Lib.hid (rSame_any (c := c5) (d := c6) (H5.out.more hrow6.frm).rd hrow6.rd (by omega) (by omega))
  have HF6 := Lib.hid ((HF4.out.trans H5.out.frm).trans hrow6.frm)
  clear hrow6 H5 HF4
  simp only [decide_true] at KS
  generalize se.length = n5 at *
  go_wp2_with fail
  refine KS.out.mono ?_
  rintro e w7 ⟨rfl, f7⟩
  have HF7 := Lib.hid (HF6.out.trans f7)
  clear f7 KS HF6
  go_wp2_with fail
  refine (K5.out _).mono ?_
  rintro e w8 ⟨rfl, f8⟩
  have HF8 := Lib.hid (HF7.out.trans f8)
  have HR8 := Lib.hid (HR.out.more HF8.out)
  clear f8 HF7 K1 K2 K3 K4 K5
  by_cases h1 : l.length = 1
  · obtain ⟨x, rfl⟩ := List.length_eq_one_iff.1 h1
    obtain ⟨ad, u, rfl, -, -, hu, cx⟩ := HR8.out.rd.at_ (k := 0) (by simp)
    simp at hu
    subst hu
    have ca : w8.cell? ad = some (.string x) := cx
    clear cx
    by_cases hxs : x = s
    · subst hxs
      simp only [decide_true]
      go_wp2
      go_ret
      exact ⟨ret_bool (by simp), HR.out.frm.trans HF8.out⟩
    · have hb := beq_of hxs
      have hd : decide ([x] = [s]) = false := by simp [hxs]
      simp only [hd]
      go_wp2
      go_ret
      exact ⟨ret_bool (by simp), HR.out.frm.trans HF8.out⟩
  · have hb : ((l.length : Int) == 1) = false := by simp; omega
    have hd : decide (l = [s]) = false := decide_eq_false (fun e => h1 (by rw [e]; rfl))
    simp only [hd]
    have HFin := Lib.hid (HR.out.frm.trans HF8.out)
    clear HR8 h1 hd HR HF8
    generalize l.length = N at *
    go_wp2
    go_ret
    exact ⟨ret_bool (by simp), HFin.out⟩

theorem own : ownKnob Try.prog.godebug = none := by kernel_rfl
theorem laidOut : laidOutB Try.prog = true := by kernel_rfl

set_option maxRecDepth 100000 in
theorem lifted (os : Os) (started : os.Started) (H : Type) (enc : TypeId × Value → H) :
    ReturnsInHanded {} Try.checked os 3 .any (Rows.wordsOfSpec.pre6 enc Try.prog Try.f3 Rows.wordsOfRow.domain false) (Rows.wordsOfSpec.post enc Try.prog Try.f3 false true false false) := by
  refine returnsInHanded_of_change (C := Try.checked) own started (by kernel_rfl) Try.func3
    (ChangeSpec.witness6 (enc := enc) (C := Try.checked) false ⟨#[], #[.string ByteArray.empty], []⟩ 8 (by kernel_rfl) (by kernel_rfl) (by kernel_rfl) (by kernel_rfl)) ?_
  intro W base args ds gs before hval0 hW hcnd _
  have hval : ∀ (j : Nat) t v, Try.f3.params[j]? = some t → args[j]? = some v → Value.okWide Try.prog W .any base t v := hval0
  have hW' := hW
  obtain ⟨p, q, hA0, hV, rfl, hfz, hnd⟩ := hW
  have hA : DataW.TrodAll enc Try.prog W 0 (fun _ => true) true Try.f3.params.toList args.toList ds p := hA0
  rw [Try.params3] at hA hval
  obtain ⟨v0, vs0, d0, ds0, p0, q0, hargs, rfl, rfl, h0, r0⟩ := trodAll_cons hA
  obtain ⟨rfl, rfl, rfl⟩ := trodAll_nil r0
  obtain rfl : args = #[v0] := by cases args; simp_all
  obtain ⟨rfl, rfl⟩ := trodVars_none hV
  have k0 := h0
  have lt0 : ∀ x ∈ p0, x.block < W.heap.size := by obtain ⟨m, hm⟩ := k0; exact DataW.trod_lt m _ _ _ hm
  obtain ⟨x0, rfl, rfl, rfl, wx0⟩ := ChangeMaps.open_string Try.underlying9 (hval 0 9 v0 rfl rfl) h0
  clear hA0 hval0
  refine (walk x0 W wx0).mono fun e W' ⟨he, hfr⟩ => ?_
  have bel : Below W.heap.size W W' := hfr.below (fun _ h => absurd h id) (Nat.le_refl _)
  subst he
  exact ⟨_, rfl, _, _, _, [], _, [], hW', trodAll_mk1 (shut_bool Try.underlying4 _), (trodAll_cons_mk (Below.trod laidOut (by kernel_rfl) (of_decide_eq_true (by kernel_rfl)) k0 bel lt0) trodAll_mk0), rfl, bel.frame _, fun h => by cases h⟩

theorem proved : Rows.WordsOfSaid :=
  OpenClaim.holds_of_wide 3 Try.f3 rfl rfl rfl rfl rfl rfl rfl ⟨rfl, rfl, rfl, rfl, rfl⟩ rfl rfl rfl rfl rfl (by kernel_rfl) Try.func3 (by kernel_rfl)
    (of_decide_eq_true (by kernel_rfl)) (by unfold Func.isWrapper; first | (rw [if_pos (by decide +kernel)]; kernel_rfl) | (rw [if_neg (by decide +kernel)]; exact ⟨rfl, rfl⟩))
    (fun os started H enc _ => lifted os started H enc)
#print axioms proved
end wordsOf
end Go.Proofs.Ytnnfgbnnodcepaa
