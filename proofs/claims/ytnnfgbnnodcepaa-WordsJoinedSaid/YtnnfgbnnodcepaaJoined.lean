/-
  WordsJoined: for every input the law 'the words of a text, a blank between, are its words; each is its own only word' returns true, and its argument reads as it did. No condition.
-/
import Derived.Test.YtnnfgbnnodcepaaRows
import Derived.Test.YtnnfgbnnodcepaaWL
import Derived.ProofKit
import Derived.OpenShut
import Derived.ShutString
import Derived.ChangeOld
namespace Go.Proofs.Ytnnfgbnnodcepaa
open Go.ChangeShapes Go.WideShapes Go.ChangeAt Go.RowKit

namespace wordsJoined
open Go.Lib in
theorem bys_append (a b : ByteArray) : bys (a ++ b) = bys a ++ bys b := by
  show (ByteArray.append _ _).data.toList = _
  simp
theorem joinW_succ (l : List (List UInt8)) (k : Nat) (h : k < l.length) : joinW (l.take (k + 1)) = joinW (l.take k) ++ 32 :: l[k] := by
  rw [List.take_succ_eq_append_getElem h]
  unfold joinW
  rw [List.flatMap_append]
  simp
theorem cat_step (l : List (List UInt8)) (k : Nat) (h : k < l.length) : (ofB (joinW (l.take k)) ++ ⟨#[32]⟩) ++ ofB l[k] = ofB (joinW (l.take (k + 1))) := by
  apply bys_inj
  rw [bys_append, bys_append, bys_ofB, bys_ofB, bys_ofB, joinW_succ l k h, List.append_assoc]
  rfl
theorem joinW_take_le (l : List (List UInt8)) (k : Nat) : (joinW (l.take k)).length ≤ (joinW l).length := by
  have : joinW l = joinW (l.take k) ++ joinW (l.drop k) := by
    unfold joinW
    rw [← List.flatMap_append, List.take_append_drop]
  rw [this, List.length_append]
  omega

set_option maxRecDepth 100000 in
set_option maxHeartbeats 2000000 in
theorem walk (s : ByteArray) (w : World) (hs : s.size ≤ maxLen) :
    Calls Try.prog 5 #[.string s] w fun e w' => e = .returned (.bool true) ∧ Frm Nix w w' := by
  unfold maxLen at hs
  by_cases h1 : 2000 < s.size
  · have d1 : decide ((2000 : Int) < (s.size : Int)) = true := decide_eq_true (by omega)
    go_enter Try.func5, Try.ntmps5
    go_wp2_with fail
    refine (lives_any w).mono ?_
    rintro e w1 ⟨rfl, f1⟩
    go_wp2
    go_ret
    exact ⟨rfl, f1⟩
  have d1 : decide ((2000 : Int) < (s.size : Int)) = false := decide_eq_false (by omega)
  have hwb := words_bound (bys s)
  rw [← size_bys] at hwb
  have K1 := Lib.hid (fun W => Words_any s W (by omega))
  have hown : ∀ x ∈ wordsL (bys s), wordsL x = [x] := fun x hx => wordsL_own hx
  have hjoin : wordsL (joinW (wordsL (bys s))) = wordsL (bys s) := by
    have := wordsL_join (wordsL (bys s)) hown []
    simpa [wordsL_nil] using this
  have K2 := fun W (t : ByteArray) (ht : t.size ≤ 1000000) => Same_any s t W (by omega) ht
  have hws := wordsB_ofB s
  generalize hl : wordsL (bys s) = l at *
  rw [hws] at K1 K2
  have HK1 := Lib.hid K1.out
  have HK2 := Lib.hid K2
  have HO := Lib.hid hown
  have HJ := Lib.hid hjoin
  have HB := Lib.hid hwb
  have hln : l.length ≤ 2000 := by omega
  clear K1 K2 hown hjoin hwb hws hl
  go_enter Try.func5, Try.ntmps5
  go_wp2_with fail
  refine (HK1.out _).mono ?_
  rintro e w1 ⟨A, c, rfl, hrow⟩
  simp only [List.length_map] at hrow ⊢
  have HR := Lib.hid hrow
  clear hrow
  go_wp2
  go_loopw [4, 5] (fun t i wr => ∃ k : Nat, k ≤ l.length ∧ i = .int .i64 k ∧ t = .string (ofB (joinW (l.take k))) ∧ Frm Nix w1 wr) (fun _ i _ => l.length - (intOf i).toNat)
  case atStart => exact ⟨0, Nat.zero_le _, rfl, rfl, Frm.refl _ _⟩
  case round =>
    obtain ⟨k, hk, rfl, rfl, hfr⟩ := hrel
    have HF := Lib.hid hfr
    clear hfr
    by_cases hlt : k < l.length
    · obtain ⟨ad, u, rfl, -, la, hu, cu⟩ := HR.out.rd.at_ hlt
      rw [List.getElem?_map, List.getElem?_map, List.getElem?_eq_getElem hlt] at hu
      injection hu with hu
      subst hu
      have cr := (HF.out.cell (p := ad.add k) (by rw [block_of_add]; exact la) id).trans cu
      have hone := HO.out l[k] (List.getElem_mem hlt)
      have hle := joinW_take_le l (k + 1)
      have hB := HB.out.2
      have hsz : (ofB l[k]).size ≤ 1000000 := by
        rw [size_bys, bys_ofB]
        rw [joinW_succ l k hlt, List.length_append, List.length_cons] at hle
        omega
      have KI := Is_any (ofB l[k])
      have hw1 : wordsB (ofB l[k]) = [ofB l[k]] := by
        rw [wordsB_ofB, bys_ofB, hone]
        rfl
      rw [hw1] at KI
      simp only [decide_true] at KI
      have HKI := Lib.hid (fun W => KI W hsz)
      have HC := Lib.hid (cat_step l k hlt)
      have hk0 : (0 : Int) ≤ (k : Int) := Int.natCast_nonneg _
      have hk1 : (k : Int) < (l.length : Int) := by omega
      have hcat := HC.out
      have hT1 : (ofB (joinW (l.take k))).size ≤ 1000000 := by
        rw [size_bys, bys_ofB]
        have := joinW_take_le l k
        omega
      clear cu hone hle hB KI hw1
      generalize hT2 : ofB (joinW (l.take (k + 1))) = T2 at *
      have HT2 := Lib.hid hT2
      clear hT2
      generalize ofB (joinW (l.take k)) = T1 at *
      generalize ofB l[k] = X at *
      go_wp2_with fail
      refine (HKI.out _).mono ?_
      rintro e w2 ⟨rfl, f2⟩
      have HF2 := Lib.hid (HF.out.trans f2)
      have cr2 := (f2.cell (p := ad.add k) (by rw [block_of_add]; exact Nat.lt_of_lt_of_le la HF.out.size) id).trans cr
      clear f2 cr
      go_wp2
      go_roundw
      case rel => exact ⟨k + 1, by omega, by go_num, by rw [HT2.out], HF2.out⟩
      case measure => simp [intOf]; omega
    · obtain rfl : k = l.length := by omega
      have hj : l.take l.length = l := List.take_of_length_le (Nat.le_refl _)
      rw [hj]
      have hjs : (ofB (joinW l)).size ≤ 1000000 := by
        rw [size_bys, bys_ofB]
        have := HB.out.2
        omega
      have hwj : wordsB (ofB (joinW l)) = l.map ofB := by rw [wordsB_ofB, bys_ofB, HJ.out]
      have K3 := fun W => Words_any (ofB (joinW l)) W hjs
      rw [hwj] at K3
      have K4 := fun W => HK2.out W (ofB (joinW l)) hjs
      rw [hwj] at K4
      have H3 := Lib.hid K3
      have H4 := Lib.hid K4
      clear hjs hwj K3 K4 hj
      generalize ofB (joinW l) = T at *
      go_wp2_with fail
      refine (lives_any _).mono ?_
      rintro e w2 ⟨rfl, f2⟩
      go_wp2_with fail
      refine (H3.out _).mono ?_
      rintro e w3 ⟨A', c', rfl, hrow3⟩
      simp only [List.length_map] at hrow3 ⊢
      have HF3 := Lib.hid ((HF.out.trans f2).trans hrow3.frm)
      have KS := Lib.hid (rSame_any (c := c') (d := c) hrow3.rd (HR.out.more HF3.out).rd (by omega) (by omega))
      clear f2 hrow3
      simp only [decide_true] at KS
      go_wp2_with fail
      refine KS.out.mono ?_
      rintro e w4 ⟨rfl, f4⟩
      go_wp2_with fail
      refine (H4.out _).mono ?_
      rintro e w5 ⟨rfl, f5⟩
      have HF5 := Lib.hid (((HR.out.frm.trans HF3.out).trans f4).trans f5)
      clear f4 f5
      simp only [decide_true]
      go_wp2
      go_ret
      exact ⟨rfl, HF5.out⟩

theorem own : ownKnob Try.prog.godebug = none := by kernel_rfl
theorem laidOut : laidOutB Try.prog = true := by kernel_rfl

set_option maxRecDepth 100000 in
theorem lifted (os : Os) (started : os.Started) (H : Type) (enc : TypeId × Value → H) :
    ReturnsInHanded {} Try.checked os 5 .any (Rows.wordsJoinedSpec.pre6 enc Try.prog Try.f5 Rows.wordsJoinedRow.domain false) (Rows.wordsJoinedSpec.post enc Try.prog Try.f5 false true false false) := by
  refine returnsInHanded_of_change (C := Try.checked) own started (by kernel_rfl) Try.func5
    (ChangeSpec.witness6 (enc := enc) (C := Try.checked) false ⟨#[], #[.string ByteArray.empty], []⟩ 8 (by kernel_rfl) (by kernel_rfl) (by kernel_rfl) (by kernel_rfl)) ?_
  intro W base args ds gs before hval0 hW hcnd _
  have hval : ∀ (j : Nat) t v, Try.f5.params[j]? = some t → args[j]? = some v → Value.okWide Try.prog W .any base t v := hval0
  have hW' := hW
  obtain ⟨p, q, hA0, hV, rfl, hfz, hnd⟩ := hW
  have hA : DataW.TrodAll enc Try.prog W 0 (fun _ => true) true Try.f5.params.toList args.toList ds p := hA0
  rw [Try.params5] at hA hval
  obtain ⟨v0, vs0, d0, ds0, p0, q0, hargs, rfl, rfl, h0, r0⟩ := trodAll_cons hA
  obtain ⟨rfl, rfl, rfl⟩ := trodAll_nil r0
  obtain rfl : args = #[v0] := by cases args; simp_all
  obtain ⟨rfl, rfl⟩ := trodVars_none hV
  have k0 := h0
  have lt0 : ∀ x ∈ p0, x.block < W.heap.size := by obtain ⟨m, hm⟩ := k0; exact DataW.trod_lt m _ _ _ hm
  obtain ⟨x0, rfl, rfl, rfl, wx0⟩ := ChangeMaps.open_string Try.underlying9 (hval 0 9 v0 rfl rfl) h0
  clear hA0 hval0
  refine (walk x0 W wx0).mono fun e W' ⟨he, hfr⟩ => ?_
  have bel : Below W.heap.size W W' := hfr.below (fun _ h => absurd h id) (Nat.le_refl _)
  subst he
  exact ⟨_, rfl, _, _, _, [], _, [], hW', trodAll_mk1 (shut_bool Try.underlying4 _), (trodAll_cons_mk (Below.trod laidOut (by kernel_rfl) (of_decide_eq_true (by kernel_rfl)) k0 bel lt0) trodAll_mk0), rfl, bel.frame _, fun h => by cases h⟩

theorem proved : Rows.WordsJoinedSaid :=
  OpenClaim.holds_of_wide 5 Try.f5 rfl rfl rfl rfl rfl rfl rfl ⟨rfl, rfl, rfl, rfl, rfl⟩ rfl rfl rfl rfl rfl (by kernel_rfl) Try.func5 (by kernel_rfl)
    (of_decide_eq_true (by kernel_rfl)) (by unfold Func.isWrapper; first | (rw [if_pos (by decide +kernel)]; kernel_rfl) | (rw [if_neg (by decide +kernel)]; exact ⟨rfl, rfl⟩))
    (fun os started H enc _ => lifted os started H enc)
#print axioms proved
end wordsJoined
end Go.Proofs.Ytnnfgbnnodcepaa
