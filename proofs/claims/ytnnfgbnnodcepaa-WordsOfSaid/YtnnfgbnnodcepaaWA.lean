/-
  Contracts: folding, letters, bytes of a rune, the first rune of a text (utf, words, newsstandref05, newsstandref06).
-/
import Derived.Test.YtnnfgbnnodcepaaProg
import Derived.Test.YtnnfgbnnodcepaaBase
import Derived.Test.YtnnfgbnnodcepaaSets
import Derived.Test.YtnnfgbnnodcepaaDec
namespace Go.Proofs.Ytnnfgbnnodcepaa
open Go.RowKit Go.Lib

set_option maxRecDepth 100000 in
set_option maxHeartbeats 1000000 in
theorem between_any (c a b : Int) (w : World) : Calls Try.prog 49 #[.int .i32 c, .int .i32 a, .int .i32 b] w fun e w' => e = .returned (.bool (decide (a ≤ c ∧ c ≤ b))) ∧ w = w' := by
  go_enter Try.func49, Try.ntmps49
  go_wp2
  all_goals
    go_ret
    refine ⟨ret_bool ?_, rfl⟩
    rw [Bool.eq_iff_iff]
    simp
    try omega

set_option maxRecDepth 100000 in
set_option maxHeartbeats 1000000 in
theorem ufold_any (c : Nat) (w : World) (hc : c ≤ 1114111) : Calls Try.prog 38 #[.int .i32 c] w fun e w' => e = .returned (.int .i32 (foldR c)) ∧ w = w' := by
  go_enter Try.func38, Try.ntmps38
  go_wp2_with (go_at_call 49; refine (between_any _ _ _ _).mono ?_; rintro e w' ⟨rfl, rfl⟩)
  all_goals
    go_ret
    refine ⟨ret_int ?_, rfl⟩
    try simp only [beq_iff_eq, bne_iff_ne, bne_eq_false_iff_eq, beq_eq_false_iff_ne, ne_eq, decide_eq_true_eq, decide_eq_false_iff_not, Bool.or_eq_true, Bool.or_eq_false_iff, Bool.and_eq_true, Bool.and_eq_false_iff] at *
    unfold foldR
    split
    · omega
    · split <;> omega

set_option maxRecDepth 100000 in
set_option maxHeartbeats 1000000 in
theorem wletter_any (c : Nat) (w : World) (hc : c ≤ 1114111) : Calls Try.prog 26 #[.int .i32 c] w fun e w' => e = .returned (.bool (letterR c)) ∧ w = w' := by
  go_enter Try.func26, Try.ntmps26
  go_wp2
  all_goals
    go_ret
    refine ⟨ret_bool ?_, rfl⟩
    try simp only [beq_iff_eq, bne_iff_ne, bne_eq_false_iff_eq, beq_eq_false_iff_ne, ne_eq, decide_eq_true_eq, decide_eq_false_iff_not, Bool.or_eq_true, Bool.or_eq_false_iff, Bool.and_eq_true, Bool.and_eq_false_iff] at *
    unfold letterR
    rw [Bool.eq_iff_iff]
    split
    all_goals (simp; try omega)

set_option maxRecDepth 100000 in
set_option maxHeartbeats 1000000 in
theorem rfold_any (c : Nat) (w : World) (hc : c ≤ 1114111) : Calls Try.prog 35 #[.int .i32 c] w fun e w' => e = .returned (.int .i32 (foldR c)) ∧ w = w' := by
  go_enter Try.func35, Try.ntmps35
  go_wp2
  all_goals
    go_ret
    refine ⟨ret_int ?_, rfl⟩
    try simp only [beq_iff_eq, bne_iff_ne, bne_eq_false_iff_eq, beq_eq_false_iff_ne, ne_eq, decide_eq_true_eq, decide_eq_false_iff_not, Bool.or_eq_true, Bool.or_eq_false_iff, Bool.and_eq_true, Bool.and_eq_false_iff] at *
    unfold foldR
    split
    · omega
    · split <;> omega

set_option maxRecDepth 100000 in
set_option maxHeartbeats 1000000 in
theorem rletter_any (c : Nat) (w : World) (hc : c ≤ 1114111) : Calls Try.prog 21 #[.int .i32 c] w fun e w' => e = .returned (.bool (letterR c)) ∧ w = w' := by
  go_enter Try.func21, Try.ntmps21
  go_wp2
  all_goals
    go_ret
    refine ⟨ret_bool ?_, rfl⟩
    try simp only [beq_iff_eq, bne_iff_ne, bne_eq_false_iff_eq, beq_eq_false_iff_ne, ne_eq, decide_eq_true_eq, decide_eq_false_iff_not, Bool.or_eq_true, Bool.or_eq_false_iff, Bool.and_eq_true, Bool.and_eq_false_iff] at *
    unfold letterR
    rw [Bool.eq_iff_iff]
    split
    all_goals (simp; try omega)

set_option maxRecDepth 100000 in
set_option maxHeartbeats 1000000 in
theorem rtail_any (c : Int) (w : World) : Calls Try.prog 46 #[.int .u8 c] w fun e w' => e = .returned (.bool (decide (128 ≤ c ∧ c < 192))) ∧ w = w' := by
  go_enter Try.func46, Try.ntmps46
  go_wp2
  all_goals
    go_ret
    refine ⟨ret_bool ?_, rfl⟩
    rw [Bool.eq_iff_iff]
    simp
    try omega
end Go.Proofs.Ytnnfgbnnodcepaa
