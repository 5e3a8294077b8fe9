/-
  Contracts: the number with which bytes begin, by the document; sums of bytes, by the program and by the document.
-/
import Derived.Test.YtdgpaddmheagoaaGreatDoorNB
namespace Go.Proofs.YtdgpaddmheagoaaGreatDoor
open Go.RowKit
set_option linter.unusedVariables false

def getRV : Option (Int × Nat) → Value
  | some (m, k) => .tuple #[.int .i64 m, .int .i64 k, .bool true]
  | none => .tuple #[.int .i64 0, .int .i64 0, .bool false]
theorem mul_in (a : Int) (h0 : 0 ≤ a) (h : a < 72057594037927936) : wrap64 a = a := IntWalk.wrap64_in a (by omega)

set_option maxRecDepth 100000 in
set_option maxHeartbeats 2000000 in
theorem GetR_any (A : Option Addr) (n c : Nat) (l : List UInt8) (G : Nat → Prop) (w : World) (hl : l.length = n) (hr : Rd w G 1 A n (bvs l)) (hc : n ≤ c) (hm : c ≤ 9223372036854775807) :
    Calls Tryz.prog 84 #[.slice A n c] w fun e w' => e = .returned (getRV (getN l)) ∧ w = w' := by
  have HL := Lib.hid hl
  have HR := Lib.hid hr
  clear hl hr
  go_enter Tryz.func84, Tryz.ntmps84
  go_wp2
  go_loop [5, 6, 7] (fun xv bv iv => ∃ k x : Nat, k ≤ n ∧ k ≤ 8 ∧ iv = .int .i64 k ∧ bv = .int .i64 (128 ^ k : Nat) ∧ xv = .int .i64 x ∧ x < 128 ^ k ∧ getG k x (l.drop k) = getN l) (fun _ _ iv => n - (intOf iv).toNat)
  case atStart => exact ⟨0, 0, by omega, by omega, rfl, rfl, rfl, by simp, rfl⟩
  case round =>
    obtain ⟨k, x, hk, hk8, rfl, rfl, rfl, hx, hg⟩ := hrel
    by_cases hlt : k < n ∧ k < 8
    · obtain ⟨hlt, hlt8⟩ := hlt
      obtain ⟨ad, u, rfl, -, hla, hu, hcu⟩ := HR.out.at_ (k := k) (by omega)
      have hkl : k < l.length := by rw [HL.out]; omega
      obtain rfl : u = bv l[k] := by simpa [bvs, List.getElem?_eq_getElem hkl] using hu.symm
      rw [getG_at l k x hkl, if_neg (by omega)] at hg
      have hb := l[k].toNat_lt
      have hy := next_lt x k l[k] hlt8 hx
      have hp1 : 128 ^ (k + 1) = 128 ^ k * 128 := Nat.pow_succ _ _
      have hp2 : 128 ^ k ≤ 128 ^ 7 := Nat.pow_le_pow_right (by omega) (by omega)
      simp at hp2
      have hz : ((l[k].toNat % 128 * 128 ^ k : Nat) : Int) = (l[k].toNat : Int) % 128 * ((128 ^ k : Nat) : Int) := by push_cast; rfl
      generalize hZ : l[k].toNat % 128 * 128 ^ k = Z at *
      have HP : Hid (128 ^ (k + 1) = 128 ^ k * 128) := hp1
      have hx7 : x < 562949953421312 := by omega
      have hxx := Lib.hid hx
      clear hp1 hx
      generalize hPP : 128 ^ k = P at *
      clear hZ
      obtain ⟨hy1, hy2⟩ := hy
      have hmul : wrap64 ((l[k].toNat : Int) % 128 * (P : Int)) = (Z : Int) := by rw [← hz]; exact mul_in _ (by omega) (by omega)
      clear hz
      have HX : Hid (x + Z < 128 ^ (k + 1)) := hy1
      have HG := Lib.hid hg
      have HPK := Lib.hid hPP
      generalize l[k] = b at *
      clear hu hy1 hg hPP
      have hYe : (x : Int) + (Z : Int) = ((x + Z : Nat) : Int) := by omega
      generalize x + Z = Y at *
      by_cases h128 : 128 ≤ b.toNat
      · go_wp2
        go_round
        case rel => exact ⟨k + 1, Y, by omega, by omega, by go_num, by rw [HP.out]; go_num, rfl, HX.out, by have := HG.out; rwa [if_pos h128] at this⟩
        case measure => simp [intOf]; omega
      · have HG2 : Hid ((if 0 < k ∧ b.toNat = 0 then none else if mayN (unfN Y) then some (unfN Y, k + 1) else none) = getN l) := by have := HG.out; rwa [if_neg h128] at this
        clear HG HX HP HPK hxx
        by_cases hz : 0 < k ∧ b.toNat = 0
        · have hb0 : ((b.toNat : Int) == 0) = true := by rw [beq_iff_eq]; omega
          have HG3 : Hid (getN l = none) := by have := HG2.out; rw [if_pos hz] at this; exact this.symm
          clear HG2
          obtain ⟨hk0, hz⟩ := hz
          clear hz
          go_wp2
          go_ret3
          exact ⟨by simp only [HG3.out, getRV]; rfl, rfl⟩
        · have HG3 : Hid ((if mayN (unfN Y) then some (unfN Y, k + 1) else none) = getN l) := by have := HG2.out; rwa [if_neg hz] at this
          clear HG2
          have hb0 : (k : Int) ≤ 0 ∨ (0 < (k : Int) ∧ ((b.toNat : Int) == 0) = false) := by
            by_cases h : 0 < k
            · right; exact ⟨by omega, by rw [beq_eq_false_iff_ne]; omega⟩
            · left; omega
          clear hz
          obtain ⟨N, hN⟩ : ∃ N, N = unfN Y := ⟨_, rfl⟩
          have HN := Lib.hid hN
          rw [← hN] at HG3
          have KM : Hid (∀ w, Calls Tryz.prog 90 #[.int .i64 N] w fun e w' => e = .returned (.bool (mayN N)) ∧ w = w') := fun w => May_any N w
          rcases Nat.mod_two_eq_zero_or_one Y with h2 | h2
          · have h3 : ((Y : Int) % 2 == 1) = false := by rw [beq_eq_false_iff_ne]; omega
            have hNe : (Y : Int) / 2 = N := by rw [hN]; unfold unfN; rw [if_neg (by omega)]; omega
            clear hN h2
            cases hm1 : mayN N
            · have HE : Hid (getN l = none) := by have := HG3.out; rw [hm1] at this; exact this.symm
              rw [hm1] at KM
              clear hm1 HG3
              rcases hb0 with hb0 | ⟨hb1, hb0⟩
              all_goals
                go_wp2_with (go_at_call 90; refine (KM.out _).mono ?_; rintro e w' ⟨rfl, rfl⟩)
                go_ret3
                exact ⟨by simp only [HE.out, getRV]; rfl, rfl⟩
            · have HE : Hid (getN l = some (N, k + 1)) := by have := HG3.out; rw [hm1] at this; exact this.symm
              rw [hm1] at KM
              clear hm1 HG3
              rcases hb0 with hb0 | ⟨hb1, hb0⟩
              all_goals
                go_wp2_with (go_at_call 90; refine (KM.out _).mono ?_; rintro e w' ⟨rfl, rfl⟩)
                go_ret3
                exact ⟨by simp only [HE.out, getRV]; rfl, rfl⟩
          · have h3 : ((Y : Int) % 2 == 1) = true := by rw [beq_iff_eq]; omega
            have hNe : -((Y : Int) / 2) - 1 = N := by rw [hN]; unfold unfN; rw [if_pos h2]; omega
            clear hN h2
            cases hm1 : mayN N
            · have HE : Hid (getN l = none) := by have := HG3.out; rw [hm1] at this; exact this.symm
              rw [hm1] at KM
              clear hm1 HG3
              rcases hb0 with hb0 | ⟨hb1, hb0⟩
              all_goals
                go_wp2_with (go_at_call 90; refine (KM.out _).mono ?_; rintro e w' ⟨rfl, rfl⟩)
                go_ret3
                exact ⟨by simp only [HE.out, getRV]; rfl, rfl⟩
            · have HE : Hid (getN l = some (N, k + 1)) := by have := HG3.out; rw [hm1] at this; exact this.symm
              rw [hm1] at KM
              clear hm1 HG3
              rcases hb0 with hb0 | ⟨hb1, hb0⟩
              all_goals
                go_wp2_with (go_at_call 90; refine (KM.out _).mono ?_; rintro e w' ⟨rfl, rfl⟩)
                go_ret3
                exact ⟨by simp only [HE.out, getRV]; rfl, rfl⟩
    · have HG : Hid (getN l = none) := by rw [← hg]; exact getG_over l k x (by rw [HL.out]; omega)
      clear hg hx
      by_cases hkn : k < n
      · have hk9 : ¬ (k : Int) < 8 := by omega
        generalize 128 ^ k = P at *
        go_wp2
        go_ret3
        exact ⟨by simp only [HG.out, getRV]; rfl, rfl⟩
      · generalize 128 ^ k = P at *
        go_wp2
        go_ret3
        exact ⟨by simp only [HG.out, getRV]; rfl, rfl⟩
end Go.Proofs.YtdgpaddmheagoaaGreatDoor
