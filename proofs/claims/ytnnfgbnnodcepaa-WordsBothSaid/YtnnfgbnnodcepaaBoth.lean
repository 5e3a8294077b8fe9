/-
  WordsBoth: for every input the law 'the words of two texts with a blank between are both texts' words' returns true, and its arguments read as they did. No condition.
-/
import Derived.Test.YtnnfgbnnodcepaaRows
import Derived.Test.YtnnfgbnnodcepaaWL
import Derived.ProofKit
import Derived.OpenShut
import Derived.ShutString
import Derived.ChangeOld
namespace Go.Proofs.Ytnnfgbnnodcepaa
open Go.ChangeShapes Go.WideShapes Go.ChangeAt Go.RowKit

namespace wordsBoth
theorem bys_append (a b : ByteArray) : bys (a ++ b) = bys a ++ bys b := by
  show (ByteArray.append _ _).data.toList = _
  simp
theorem words_cat (a b : ByteArray) : wordsB ((a ++ ⟨#[32]⟩) ++ b) = wordsB a ++ wordsB b := by
  rw [wordsB_ofB, wordsB_ofB, wordsB_ofB, bys_append, bys_append, ← List.map_append]
  congr 1
  have := wordsL_blank (bys a) (bys b)
  rw [← this]
  congr 1
  simp [bys]
theorem size_cat (a b : ByteArray) : ((a ++ ⟨#[32]⟩) ++ b).size = a.size + 1 + b.size := by
  rw [size_bys, bys_append, bys_append, List.length_append, List.length_append, ← size_bys, ← size_bys]
  rfl
theorem strs_one (l : List ByteArray) : ∀ u ∈ l.map Value.string, u.oneCell' = true := by
  intro u hu
  obtain ⟨x, -, rfl⟩ := List.mem_map.1 hu
  rfl

/-- an append whose run is known, at a guarded operation that is wanted. -/
theorem append_wanted {P : Program} {w w' : World} {v u v' : Value} {t : TypeId} (hrun : ∀ ty, (Builtin.append_ #[t, t] ty #[v, u]).run P w = .ok v' w')
    {ops : Array Oper} {rest : List Oper} {o : Oper} {a : Act} {Q : Exit → Act → World → Prop} (hw : Region.wanted o (yielded ops a.tmps) = true) (s x : Operand)
    (ho : o.op = .call { callee := .builtin .append, args := #[s, x], argTypes := #[t, t] }) (hs : a.eval s = v) (hx : a.eval x = u)
    (h : wpList P ops Q rest (a.put o.dst v') w') : wpList P ops Q (o :: rest) a w :=
  wpList_step fun K hK => by
    rw [if_pos hw]
    unfold Oper.wp execOp
    simp only [ho, resolve, invoke, builtin, Sem.run_bind, Sem.run_pure, Result.andThen_ok, List.map_toArray, List.map_cons, List.map_nil, hs, hx, hrun]
    exact hK _ _ h

set_option maxRecDepth 100000 in
set_option maxHeartbeats 2000000 in
theorem walk (a b : ByteArray) (w : World) (ha : a.size ≤ maxLen) (hb : b.size ≤ maxLen) :
    Calls Try.prog 6 #[.string a, .string b] w fun e w' => e = .returned (.bool true) ∧ Frm Nix w w' := by
  unfold maxLen at ha hb
  by_cases h1 : 2000 < a.size
  · have d1 : decide ((2000 : Int) < (a.size : Int)) = true := decide_eq_true (by omega)
    go_enter Try.func6, Try.ntmps6
    go_wp2_with fail
    refine (lives_any w).mono ?_
    rintro e w1 ⟨rfl, f1⟩
    go_wp2
    go_ret
    exact ⟨rfl, f1⟩
  have d1 : decide ((2000 : Int) < (a.size : Int)) = false := decide_eq_false (by omega)
  by_cases h2 : 2000 < b.size
  · have d2 : decide ((2000 : Int) < (b.size : Int)) = true := decide_eq_true (by omega)
    go_enter Try.func6, Try.ntmps6
    go_wp2_with fail
    refine (lives_any w).mono ?_
    rintro e w1 ⟨rfl, f1⟩
    go_wp2
    go_ret
    exact ⟨rfl, f1⟩
  have d2 : decide ((2000 : Int) < (b.size : Int)) = false := decide_eq_false (by omega)
  have hsc := size_cat a b
  have K0 := fun W => Words_any ((a ++ ⟨#[32]⟩) ++ b) W (by omega)
  rw [words_cat] at K0
  have K1 := fun W => Words_any a W (by omega)
  have K2 := fun W => Words_any b W (by omega)
  have hla := (words_bound (bys a)).1
  have hlb := (words_bound (bys b)).1
  rw [← size_bys] at hla hlb
  have hla2 : (wordsB a).length ≤ 2000 := by rw [wordsB_ofB, List.length_map]; omega
  have hlb2 : (wordsB b).length ≤ 2000 := by rw [wordsB_ofB, List.length_map]; omega
  generalize wordsB a = la at *
  generalize wordsB b = lb at *
  have H0 := Lib.hid K0
  have H1 := Lib.hid K1
  have H2 := Lib.hid K2
  clear K0 K1 K2 hla hlb hsc
  go_enter Try.func6, Try.ntmps6
  go_wp2_with fail
  refine (lives_any w).mono ?_
  rintro e w1 ⟨rfl, f1⟩
  have HF1 := Lib.hid f1
  clear f1
  go_wp2_with fail
  refine (H0.out _).mono ?_
  rintro e w2 ⟨A0, c0, rfl, hrow0⟩
  obtain ⟨M, hM⟩ : ∃ M, (la ++ lb).length = M := ⟨_, rfl⟩
  rw [hM] at hrow0 ⊢
  have hMb : M ≤ 4000 := by rw [← hM, List.length_append]; omega
  have HR0 := Lib.hid hrow0
  clear hrow0 hM
  go_wp2_with fail
  refine (H1.out _).mono ?_
  rintro e w3 ⟨A1, c1, rfl, hrow1⟩
  have hem := (RowIn.empty 9 (Frm.refl Nix w2)).more hrow1.frm
  obtain ⟨v1, w4, hrun1, R1, -, -⟩ := hem.app elemS c1 hrow1.rd (strs_one la) (by unfold maxLen; omega) (by omega)
  have HR1 := Lib.hid R1
  clear hrow1 hem R1
  generalize la.length = n at *
  go_wp2_with (at_builtin; refine append_wanted hrun1 (by rfl) _ _ rfl rfl rfl ?_)
  refine (H2.out _).mono ?_
  rintro e w5 ⟨A2, c2, rfl, hrow2⟩
  obtain ⟨v2, w6, hrun2, R2, -, -⟩ := (HR1.out.more hrow2.frm).app elemS c2 hrow2.rd (strs_one lb) (by unfold maxLen; omega) (by omega)
  obtain ⟨A3, c3, rfl, -, -, -, -⟩ := R2.shape
  have hcells : [] ++ List.map Value.string la ++ List.map Value.string lb = (la ++ lb).map Value.string := by simp
  rw [hcells] at R2
  obtain ⟨N, hN⟩ : ∃ N, 0 + n + lb.length = N := ⟨_, rfl⟩
  rw [hN] at R2 hrun2
  have hNb : N ≤ 5000 := by omega
  have HR2 := Lib.hid R2
  have hR0 := HR0.out
  have KS := Lib.hid (rSame_any (c := c0) (d := c3) (hR0.more R2.frm).rd R2.rd (by omega) (by omega))
  have HF6 := Lib.hid ((HF1.out.trans hR0.frm).trans R2.frm)
  have HNN := Lib.hid hN
  simp only [decide_true] at KS
  clear R2 hrow2 hR0 hcells hN hrun1 HR1 hMb hNb
  generalize lb.length = m at *
  go_wp2_with (at_builtin; refine append_wanted hrun2 (by rfl) _ _ rfl rfl rfl ?_)
  refine KS.out.mono ?_
  rintro e w7 ⟨rfl, f7⟩
  have HF7 := Lib.hid (HF6.out.trans f7)
  clear f7
  go_wp2
  go_ret
  exact ⟨rfl, HF7.out⟩

theorem own : ownKnob Try.prog.godebug = none := by kernel_rfl
theorem laidOut : laidOutB Try.prog = true := by kernel_rfl

set_option maxRecDepth 100000 in
theorem lifted (os : Os) (started : os.Started) (H : Type) (enc : TypeId × Value → H) :
    ReturnsInHanded {} Try.checked os 6 .any (Rows.wordsBothSpec.pre6 enc Try.prog Try.f6 Rows.wordsBothRow.domain false) (Rows.wordsBothSpec.post enc Try.prog Try.f6 false true false false) := by
  refine returnsInHanded_of_change (C := Try.checked) own started (by kernel_rfl) Try.func6
    (ChangeSpec.witness6 (enc := enc) (C := Try.checked) false ⟨#[], #[.string ByteArray.empty, .string ByteArray.empty], []⟩ 8 (by kernel_rfl) (by kernel_rfl) (by kernel_rfl) (by kernel_rfl)) ?_
  intro W base args ds gs before hval0 hW hcnd _
  have hval : ∀ (j : Nat) t v, Try.f6.params[j]? = some t → args[j]? = some v → Value.okWide Try.prog W .any base t v := hval0
  have hW' := hW
  obtain ⟨p, q, hA0, hV, rfl, hfz, hnd⟩ := hW
  have hA : DataW.TrodAll enc Try.prog W 0 (fun _ => true) true Try.f6.params.toList args.toList ds p := hA0
  rw [Try.params6] at hA hval
  obtain ⟨v0, vs0, d0, ds0, p0, q0, hargs, rfl, rfl, h0, r0⟩ := trodAll_cons hA
  obtain ⟨v1, vs1, d1, ds1, p1, q1, rfl, rfl, rfl, h1, r1⟩ := trodAll_cons r0
  obtain ⟨rfl, rfl, rfl⟩ := trodAll_nil r1
  obtain rfl : args = #[v0, v1] := by cases args; simp_all
  obtain ⟨rfl, rfl⟩ := trodVars_none hV
  have k0 := h0
  have lt0 : ∀ x ∈ p0, x.block < W.heap.size := by obtain ⟨m, hm⟩ := k0; exact DataW.trod_lt m _ _ _ hm
  obtain ⟨x0, rfl, rfl, rfl, wx0⟩ := ChangeMaps.open_string Try.underlying9 (hval 0 9 v0 rfl rfl) h0
  have k1 := h1
  have lt1 : ∀ x ∈ p1, x.block < W.heap.size := by obtain ⟨m, hm⟩ := k1; exact DataW.trod_lt m _ _ _ hm
  obtain ⟨x1, rfl, rfl, rfl, wx1⟩ := ChangeMaps.open_string Try.underlying9 (hval 1 9 v1 rfl rfl) h1
  clear hA0 hval0
  refine (walk x0 x1 W wx0 wx1).mono fun e W' ⟨he, hfr⟩ => ?_
  have bel : Below W.heap.size W W' := hfr.below (fun _ h => absurd h id) (Nat.le_refl _)
  subst he
  exact ⟨_, rfl, _, _, _, [], _, [], hW', trodAll_mk1 (shut_bool Try.underlying4 _), (trodAll_cons_mk (Below.trod laidOut (by kernel_rfl) (of_decide_eq_true (by kernel_rfl)) k0 bel lt0) (trodAll_cons_mk (Below.trod laidOut (by kernel_rfl) (of_decide_eq_true (by kernel_rfl)) k1 bel lt1) trodAll_mk0)), rfl, bel.frame _, fun h => by cases h⟩

theorem proved : Rows.WordsBothSaid :=
  OpenClaim.holds_of_wide 6 Try.f6 rfl rfl rfl rfl rfl rfl rfl ⟨rfl, rfl, rfl, rfl, rfl⟩ rfl rfl rfl rfl rfl (by kernel_rfl) Try.func6 (by kernel_rfl)
    (of_decide_eq_true (by kernel_rfl)) (by unfold Func.isWrapper; first | (rw [if_pos (by decide +kernel)]; kernel_rfl) | (rw [if_neg (by decide +kernel)]; exact ⟨rfl, rfl⟩))
    (fun os started H enc _ => lifted os started H enc)
#print axioms proved
end wordsBoth
end Go.Proofs.Ytnnfgbnnodcepaa
