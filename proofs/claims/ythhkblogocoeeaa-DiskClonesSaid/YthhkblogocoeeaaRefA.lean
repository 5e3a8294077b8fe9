/-
  The reference's disk: whether a name may be.
-/
import Derived.Test.YthhkblogocoeeaaView
namespace Go.Proofs.Ythhkblogocoeeaa
open Go.RowKit

theorem bl_get (s : ByteArray) (k : Nat) (h : k < s.size) : (bl s)[k]'(by simpa using h) = s[k] := rfl

set_option maxRecDepth 100000 in
set_option maxHeartbeats 1000000 in
theorem Name_any (s : ByteArray) (w : World) (hs : s.size ≤ maxLen) : Calls Try.prog 21 #[.string s] w fun e w' => e = .returned (.bool (nameOk s)) ∧ w = w' := by
  unfold maxLen at hs
  go_enter Try.func21, Try.ntmps21
  go_wp2
  go_loop [3, 4] (fun i _ => ∃ k : Nat, k ≤ s.size ∧ i = .int .i64 k ∧ ((bl s).take k).all signB = true) (fun i _ => s.size - (intOf i).toNat)
  case atStart => exact ⟨0, Nat.zero_le _, rfl, by simp⟩
  case round =>
    obtain ⟨k, hk, rfl, hall⟩ := hrel
    have HA := Lib.hid hall
    clear hall
    by_cases hlt : k < s.size
    · have hbd := (s[k]'hlt).toNat_lt
      cases hsg : signB s[k] with
      | true =>
        have HN := Lib.hid (take_all_succ s k hlt HA.out hsg)
        have HS : Hid (signI ((s[k]'hlt).toNat : Int) = true) := by unfold Hid; rw [← signB_iff]; exact hsg
        clear hsg
        go_wp2
        all_goals first
          | (go_round
             case rel => exact ⟨k + 1, by omega, by go_num, HN.out⟩
             case measure => simp [intOf]; omega)
          | (exfalso; have hx := HS.out; simp [signI] at hx; simp_all; done)
          | (exfalso; have hx := HS.out; simp [signI] at hx; simp_all; omega)
      | false =>
        have HN := Lib.hid (all_false s k hlt hsg)
        have HS : Hid (signI ((s[k]'hlt).toNat : Int) = false) := by unfold Hid; rw [← signB_iff]; exact hsg
        clear hsg
        go_wp2
        all_goals first
          | (go_ret; exact ⟨ret_bool HN.out.symm, rfl⟩)
          | (exfalso; have hx := HS.out; simp [signI] at hx; simp_all; done)
          | (exfalso; have hx := HS.out; simp [signI] at hx; simp_all; omega)
    · obtain rfl : k = s.size := by omega
      go_wp2
      all_goals
        go_ret
        refine ⟨ret_bool ?_, rfl⟩
        rw [nameOk_end s HA.out, Bool.eq_iff_iff]
        first | (simp; done) | (simp; omega)
end Go.Proofs.Ythhkblogocoeeaa
