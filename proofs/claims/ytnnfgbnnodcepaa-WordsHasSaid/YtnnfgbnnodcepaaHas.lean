/-
  WordsHas: for every input the law 'whether any text has a word, or one that begins so, or the same words as another one' returns true, and its arguments read as they did. No condition.
-/
import Derived.Test.YtnnfgbnnodcepaaRows
import Derived.Test.YtnnfgbnnodcepaaWL
import Derived.Test.YtnnfgbnnodcepaaWK
import Derived.ProofKit
import Derived.OpenShut
import Derived.ShutString
import Derived.ChangeOld
namespace Go.Proofs.Ytnnfgbnnodcepaa
open Go.ChangeShapes Go.WideShapes Go.ChangeAt Go.RowKit

namespace wordsHas
set_option maxRecDepth 100000 in
set_option maxHeartbeats 2000000 in
theorem walk (s t : ByteArray) (w : World) (hs : s.size ≤ maxLen) (ht : t.size ≤ maxLen) :
    Calls Try.prog 4 #[.string s, .string t] w fun e w' => e = .returned (.bool true) ∧ Frm Nix w w' := by
  unfold maxLen at hs ht
  by_cases h1 : 2000 < s.size
  · have d1 : decide ((2000 : Int) < (s.size : Int)) = true := decide_eq_true (by omega)
    go_enter Try.func4, Try.ntmps4
    go_wp2_with fail
    refine (lives_any w).mono ?_
    rintro e w1 ⟨rfl, f1⟩
    go_wp2
    go_ret
    exact ⟨rfl, f1⟩
  have d1 : decide ((2000 : Int) < (s.size : Int)) = false := decide_eq_false (by omega)
  by_cases h2 : 2000 < t.size
  · have d2 : decide ((2000 : Int) < (t.size : Int)) = true := decide_eq_true (by omega)
    go_enter Try.func4, Try.ntmps4
    go_wp2_with fail
    refine (lives_any w).mono ?_
    rintro e w1 ⟨rfl, f1⟩
    go_wp2
    go_ret
    exact ⟨rfl, f1⟩
  have d2 : decide ((2000 : Int) < (t.size : Int)) = false := decide_eq_false (by omega)
  have K1 := Lib.hid (fun W => Has_any s t W (by omega) (by omega))
  have K2 := Lib.hid (fun W => rHas_any s t W (by omega) (by omega))
  have K3 := Lib.hid (fun W => Begins_any s t W (by omega) (by omega))
  have K4 := Lib.hid (fun W => rBegins_any s t W (by omega) (by omega))
  have K5 := Lib.hid (fun W => Same_any s t W (by omega) (by omega))
  have K6 := Lib.hid (fun W => rWords_any s W (by omega))
  have K7 := Lib.hid (fun W => rWords_any t W (by omega))
  have hls := (words_bound (bys s)).1
  have hlt := (words_bound (bys t)).1
  rw [← size_bys] at hls hlt
  have hls2 : (wordsB s).length ≤ 2000 := by rw [wordsB_ofB, List.length_map]; omega
  have hlt2 : (wordsB t).length ≤ 2000 := by rw [wordsB_ofB, List.length_map]; omega
  clear hls hlt
  generalize someB (fun x y => decide (x = y)) (wordsB s) (wordsB t) = b1 at *
  generalize someB (fun x y => (bys y).isPrefixOf (bys x)) (wordsB s) (wordsB t) = b2 at *
  generalize wordsB s = ls at *
  generalize wordsB t = lt at *
  go_enter Try.func4, Try.ntmps4
  go_wp2_with fail
  refine (lives_any w).mono ?_
  rintro e w1 ⟨rfl, f1⟩
  go_wp2_with fail
  refine (K1.out _).mono ?_
  rintro e w2 ⟨rfl, f2⟩
  go_wp2_with fail
  refine (K2.out _).mono ?_
  rintro e w3 ⟨rfl, f3⟩
  have HF3 := Lib.hid ((f1.trans f2).trans f3)
  clear f1 f2 f3 K1 K2
  have e1 : (b1 == b1) = true := by simp
  go_wp2_with fail
  refine (K3.out _).mono ?_
  rintro e w4 ⟨rfl, f4⟩
  go_wp2_with fail
  refine (K4.out _).mono ?_
  rintro e w5 ⟨rfl, f5⟩
  have HF5 := Lib.hid ((HF3.out.trans f4).trans f5)
  clear f4 f5 K3 K4 HF3 e1
  have e2 : (b2 == b2) = true := by simp
  go_wp2_with fail
  refine (K5.out _).mono ?_
  rintro e w6 ⟨rfl, f6⟩
  have HF6 := Lib.hid (HF5.out.trans f6)
  clear f6 HF5 e2
  go_wp2_with fail
  refine (K6.out _).mono ?_
  rintro e w7 ⟨A, c, rfl, hrow7⟩
  have H7 := Lib.hid hrow7
  clear hrow7
  go_wp2_with fail
  refine (K7.out _).mono ?_
  rintro e w8 ⟨A', c', rfl, hrow8⟩
  have KS := Lib.hid (rSame_any (c := c) (d := c') (H7.out.more hrow8.frm).rd hrow8.rd (by omega) (by omega))
  have HF8 := Lib.hid ((HF6.out.trans H7.out.frm).trans hrow8.frm)
  clear hrow8 H7 HF6
  generalize decide (ls = lt) = b3 at *
  generalize ls.length = n1 at *
  generalize lt.length = n2 at *
  go_wp2_with fail
  refine KS.out.mono ?_
  rintro e w9 ⟨rfl, f9⟩
  have HF9 := Lib.hid (HF8.out.trans f9)
  have e3 : (b3 == b3) = true := by simp
  clear f9
  go_wp2
  go_ret
  exact ⟨ret_bool (by simp), HF9.out⟩

theorem own : ownKnob Try.prog.godebug = none := by kernel_rfl
theorem laidOut : laidOutB Try.prog = true := by kernel_rfl

set_option maxRecDepth 100000 in
theorem lifted (os : Os) (started : os.Started) (H : Type) (enc : TypeId × Value → H) :
    ReturnsInHanded {} Try.checked os 4 .any (Rows.wordsHasSpec.pre6 enc Try.prog Try.f4 Rows.wordsHasRow.domain false) (Rows.wordsHasSpec.post enc Try.prog Try.f4 false true false false) := by
  refine returnsInHanded_of_change (C := Try.checked) own started (by kernel_rfl) Try.func4
    (ChangeSpec.witness6 (enc := enc) (C := Try.checked) false ⟨#[], #[.string ByteArray.empty, .string ByteArray.empty], []⟩ 8 (by kernel_rfl) (by kernel_rfl) (by kernel_rfl) (by kernel_rfl)) ?_
  intro W base args ds gs before hval0 hW hcnd _
  have hval : ∀ (j : Nat) t v, Try.f4.params[j]? = some t → args[j]? = some v → Value.okWide Try.prog W .any base t v := hval0
  have hW' := hW
  obtain ⟨p, q, hA0, hV, rfl, hfz, hnd⟩ := hW
  have hA : DataW.TrodAll enc Try.prog W 0 (fun _ => true) true Try.f4.params.toList args.toList ds p := hA0
  rw [Try.params4] at hA hval
  obtain ⟨v0, vs0, d0, ds0, p0, q0, hargs, rfl, rfl, h0, r0⟩ := trodAll_cons hA
  obtain ⟨v1, vs1, d1, ds1, p1, q1, rfl, rfl, rfl, h1, r1⟩ := trodAll_cons r0
  obtain ⟨rfl, rfl, rfl⟩ := trodAll_nil r1
  obtain rfl : args = #[v0, v1] := by cases args; simp_all
  obtain ⟨rfl, rfl⟩ := trodVars_none hV
  have k0 := h0
  have lt0 : ∀ x ∈ p0, x.block < W.heap.size := by obtain ⟨m, hm⟩ := k0; exact DataW.trod_lt m _ _ _ hm
  obtain ⟨x0, rfl, rfl, rfl, wx0⟩ := ChangeMaps.open_string Try.underlying9 (hval 0 9 v0 rfl rfl) h0
  have k1 := h1
  have lt1 : ∀ x ∈ p1, x.block < W.heap.size := by obtain ⟨m, hm⟩ := k1; exact DataW.trod_lt m _ _ _ hm
  obtain ⟨x1, rfl, rfl, rfl, wx1⟩ := ChangeMaps.open_string Try.underlying9 (hval 1 9 v1 rfl rfl) h1
  clear hA0 hval0
  refine (walk x0 x1 W wx0 wx1).mono fun e W' ⟨he, hfr⟩ => ?_
  have bel : Below W.heap.size W W' := hfr.below (fun _ h => absurd h id) (Nat.le_refl _)
  subst he
  exact ⟨_, rfl, _, _, _, [], _, [], hW', trodAll_mk1 (shut_bool Try.underlying4 _), (trodAll_cons_mk (Below.trod laidOut (by kernel_rfl) (of_decide_eq_true (by kernel_rfl)) k0 bel lt0) (trodAll_cons_mk (Below.trod laidOut (by kernel_rfl) (of_decide_eq_true (by kernel_rfl)) k1 bel lt1) trodAll_mk0)), rfl, bel.frame _, fun h => by cases h⟩

theorem proved : Rows.WordsHasSaid :=
  OpenClaim.holds_of_wide 4 Try.f4 rfl rfl rfl rfl rfl rfl rfl ⟨rfl, rfl, rfl, rfl, rfl⟩ rfl rfl rfl rfl rfl (by kernel_rfl) Try.func4 (by kernel_rfl)
    (of_decide_eq_true (by kernel_rfl)) (by unfold Func.isWrapper; first | (rw [if_pos (by decide +kernel)]; kernel_rfl) | (rw [if_neg (by decide +kernel)]; exact ⟨rfl, rfl⟩))
    (fun os started H enc _ => lifted os started H enc)
#print axioms proved
end wordsHas
end Go.Proofs.Ytnnfgbnnodcepaa
