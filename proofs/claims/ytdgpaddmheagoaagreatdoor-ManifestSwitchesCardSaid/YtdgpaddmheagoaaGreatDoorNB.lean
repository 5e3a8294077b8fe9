/-
  Contracts: the number with which bytes begin, by the program.
-/
import Derived.Test.YtdgpaddmheagoaaGreatDoorNA
namespace Go.Proofs.YtdgpaddmheagoaaGreatDoor
open Go.RowKit
set_option linter.unusedVariables false

theorem and127 (c : UInt8) : bits .and .u8 (c.toNat : Int) 127 = ((c.toNat % 128 : Nat) : Int) := by
  have h := u8_and_nat c.toNat 127 c.toNat_lt (by omega)
  have hd : ∀ y, y < 256 → y &&& 127 = y % 128 := by decide +kernel
  rw [show (127 : Int) = ((127 : Nat) : Int) from rfl, h, hd _ c.toNat_lt]
theorem and1 (Y : Nat) (h : Y < 72057594037927936) : bits .and .u64 (Y : Int) 1 = (Y : Int) % 2 := by
  have h := u64_and_nat Y 1 (by omega) (by omega)
  rw [show (1 : Int) = ((1 : Nat) : Int) from rfl, h, Nat.and_one_is_mod]
  omega
theorem pow128 (k : Nat) : 2 ^ (7 * k) = 128 ^ k := by rw [Nat.pow_mul]
theorem next_lt (x k : Nat) (c : UInt8) (hk : k < 8) (hx : x < 128 ^ k) : x + c.toNat % 128 * 128 ^ k < 128 ^ (k + 1) ∧ x + c.toNat % 128 * 128 ^ k < 72057594037927936 := by
  have h1 : c.toNat % 128 * 128 ^ k ≤ 127 * 128 ^ k := Nat.mul_le_mul_right _ (by omega)
  have h2 : 128 ^ (k + 1) = 128 ^ k * 128 := Nat.pow_succ _ _
  have h3 : 128 ^ (k + 1) ≤ 128 ^ 8 := Nat.pow_le_pow_right (by omega) (by omega)
  simp at h3
  omega
theorem or_shift (x k : Nat) (c : UInt8) (hk : k < 8) (hx : x < 128 ^ k) :
    bits .or .u64 (x : Int) (IntKind.u64.wrap ((c.toNat : Int) % 128 * 2 ^ (7 * k))) = ((x + c.toNat % 128 * 128 ^ k : Nat) : Int) := by
  obtain ⟨h1, h2⟩ := next_lt x k c hk hx
  have e0 : (c.toNat : Int) % 128 * 2 ^ (7 * k) = ((c.toNat % 128 * 128 ^ k : Nat) : Int) := by
    rw [← pow128 k]
    push_cast
    rfl
  have e1 : IntKind.u64.wrap ((c.toNat % 128 * 128 ^ k : Nat) : Int) = ((c.toNat % 128 * 128 ^ k : Nat) : Int) := by rw [IntKind.wrap_u64]; omega
  rw [e0, e1, u64_or_nat _ _ (by omega) (by omega)]
  have := Nat.two_pow_add_eq_or_of_lt (i := 7 * k) (b := x) (by rw [pow128]; exact hx) (c.toNat % 128)
  rw [pow128] at this
  rw [Nat.or_comm, Nat.mul_comm, ← this, Nat.mul_comm, Nat.add_comm]
theorem xor_unf (Y : Nat) (h : Y < 72057594037927936) : bits .xor .i64 ((Y : Int) / 2) (-((Y : Int) % 2)) = unfN Y := by
  unfold unfN
  have hd : (Y : Int) / 2 = ((Y / 2 : Nat) : Int) := by omega
  have hb : ∀ z : Int, (BitVec.ofInt 64 z).toNat < 2 ^ 64 := fun z => (BitVec.ofInt 64 z).isLt
  rcases Nat.mod_two_eq_zero_or_one Y with h0 | h0
  · rw [if_neg (by omega), show (-((Y : Int) % 2)) = 0 by omega, hd]
    show IntKind.i64.wrap ((BitVec.ofInt 64 ((Y / 2 : Nat) : Int) ^^^ BitVec.ofInt 64 0).toNat : Int) = _
    rw [BitVec.ofInt_natCast, show BitVec.ofInt 64 0 = 0#64 from rfl, BitVec.xor_zero, BitVec.toNat_ofNat, Nat.mod_eq_of_lt (by omega)]
    exact IntWalk.i64_in _ (by omega)
  · rw [if_pos h0, show (-((Y : Int) % 2)) = -1 by omega, hd]
    show IntKind.i64.wrap ((BitVec.ofInt 64 ((Y / 2 : Nat) : Int) ^^^ BitVec.ofInt 64 (-1)).toNat : Int) = _
    rw [BitVec.ofInt_natCast, show BitVec.ofInt 64 (-1) = BitVec.allOnes 64 from by decide, BitVec.xor_allOnes, BitVec.toNat_not, BitVec.toNat_ofNat, Nat.mod_eq_of_lt (by omega)]
    have e : ((2 ^ 64 - 1 - Y / 2 : Nat) : Int) = 18446744073709551615 - ((Y / 2 : Nat) : Int) := by omega
    rw [e]
    simp [IntKind.wrap, IntKind.bits, IntKind.signed]
    split <;> omega
theorem unf_bounds (Y : Nat) (h : Y < 72057594037927936) : -36028797018963968 ≤ unfN Y ∧ unfN Y ≤ 36028797018963968 := by
  unfold unfN
  split <;> omega
theorem getG_at (l : List UInt8) (k x : Nat) (hk : k < l.length) : getG k x (l.drop k) =
    if 8 ≤ k then none
    else if 128 ≤ l[k].toNat then getG (k + 1) (x + (l[k].toNat % 128) * 128 ^ k) (l.drop (k + 1))
    else if 0 < k ∧ l[k].toNat = 0 then none
    else if mayN (unfN (x + (l[k].toNat % 128) * 128 ^ k)) then some (unfN (x + (l[k].toNat % 128) * 128 ^ k), k + 1) else none := by
  rw [List.drop_eq_getElem_cons hk]
  rfl
theorem getG_over (l : List UInt8) (k x : Nat) (hk : l.length ≤ k ∨ 8 ≤ k) : getG k x (l.drop k) = none := by
  by_cases h : k < l.length
  · rw [getG_at l k x h, if_pos (by omega)]
  · rw [List.drop_of_length_le (by omega)]
    rfl
def getV : Option (Int × Nat) → Value
  | some (m, k) => .tuple #[.int .i64 m, .int .i64 k, .int .i64 0]
  | none => .tuple #[.int .i64 0, .int .i64 0, .int .i64 10]

set_option maxRecDepth 100000 in
set_option maxHeartbeats 2000000 in
theorem Get_any (A : Option Addr) (n c : Nat) (l : List UInt8) (G : Nat → Prop) (w : World) (hl : l.length = n) (hr : Rd w G 1 A n (bvs l)) (hc : n ≤ c) (hm : c ≤ 9223372036854775807) :
    Calls Tryz.prog 79 #[.slice A n c] w fun e w' => e = .returned (getV (getN l)) ∧ w = w' := by
  by_cases h8 : n ≤ 8
  · obtain ⟨M, hM⟩ : ∃ M, M = n := ⟨_, rfl⟩
    subst hM
    have HL := Lib.hid hl
    have HR := Lib.hid hr
    clear hl hr
    go_enter Tryz.func79, Tryz.ntmps79
    go_wp2
    go_loop [5, 15] (fun xv iv => ∃ k x : Nat, k ≤ M ∧ iv = .int .i64 k ∧ xv = .int .u64 x ∧ x < 128 ^ k ∧ getG k x (l.drop k) = getN l) (fun _ iv => M - (intOf iv).toNat)
    case atStart => exact ⟨0, 0, by omega, rfl, rfl, by simp, rfl⟩
    case round =>
      obtain ⟨k, x, hk, rfl, rfl, hx, hg⟩ := hrel
      by_cases hlt : k < M
      · obtain ⟨ad, u, rfl, -, hla, hu, hcu⟩ := HR.out.at_ (k := k) (by omega)
        have hkl : k < l.length := by rw [HL.out]; omega
        obtain rfl : u = bv l[k] := by simpa [bvs, List.getElem?_eq_getElem hkl] using hu.symm
        rw [getG_at l k x hkl, if_neg (by omega)] at hg
        have ea := and127 l[k]
        have hb := l[k].toNat_lt
        have hk8 : k < 8 := by omega
        have eo := or_shift x k l[k] hk8 hx
        have hy := next_lt x k l[k] hk8 hx
        generalize hY : x + l[k].toNat % 128 * 128 ^ k = Y at *
        clear hY
        obtain ⟨hy1, hy2⟩ := hy
        have HX : Hid (Y < 128 ^ (k + 1)) := hy1
        have HG := Lib.hid hg
        generalize l[k] = b at *
        clear hu hx hy1 hg
        by_cases h128 : 128 ≤ b.toNat
        · go_wp2
          go_round
          case rel => exact ⟨k + 1, Y, by omega, by go_num, rfl, HX.out, by have := HG.out; rwa [if_pos h128] at this⟩
          case measure => simp [intOf]; omega
        · have e1 := and1 Y hy2
          have e2 := xor_unf Y hy2
          have HG2 : Hid ((if 0 < k ∧ b.toNat = 0 then none else if mayN (unfN Y) then some (unfN Y, k + 1) else none) = getN l) := by have := HG.out; rwa [if_neg h128] at this
          clear HG
          obtain ⟨hu1, hu2⟩ := unf_bounds Y hy2
          generalize hN : unfN Y = N at *
          clear hN
          by_cases hk0 : 0 < k
          · by_cases hz : b.toNat = 0
            · have hb0 : ((b.toNat : Int) == 0) = true := by rw [beq_iff_eq]; omega
              have HG3 : Hid (getN l = none) := by have := HG2.out; rw [if_pos ⟨hk0, hz⟩] at this; exact this.symm
              clear HG2 hz
              go_wp2
              go_ret3
              exact ⟨by simp only [HG3.out, getV]; rfl, rfl⟩
            · have hb0 : ((b.toNat : Int) == 0) = false := by rw [beq_eq_false_iff_ne]; omega
              have HG3 : Hid ((if mayN N then some (N, k + 1) else none) = getN l) := by have := HG2.out; rwa [if_neg (by omega)] at this
              clear HG2 hz
              cases hm1 : mayN N
              · have HG4 : Hid (getN l = none) := by have := HG3.out; rw [hm1] at this; exact this.symm
                clear HG3
                have KM := Lib.hid hm1
                clear hm1
                go_wp2_with (go_at_call 74; have c1 := may_any N w; rw [KM.out] at c1; refine c1.mono ?_; clear c1; rintro e w' ⟨rfl, rfl⟩)
                go_ret3
                exact ⟨by simp only [HG4.out, getV]; rfl, rfl⟩
              · have HG4 : Hid (getN l = some (N, k + 1)) := by have := HG3.out; rw [hm1] at this; exact this.symm
                clear HG3
                have KM := Lib.hid hm1
                clear hm1
                go_wp2_with (go_at_call 74; have c1 := may_any N w; rw [KM.out] at c1; refine c1.mono ?_; clear c1; rintro e w' ⟨rfl, rfl⟩)
                go_ret3
                exact ⟨by simp only [HG4.out, getV]; rfl, rfl⟩
          · obtain rfl : k = 0 := by omega
            have ew : IntKind.u64.wrap ((b.toNat : Int) % 128) = (b.toNat : Int) % 128 := by rw [IntKind.wrap_u64]; omega
            rw [show (b.toNat : Int) % 128 * 2 ^ (7 * 0) = (b.toNat : Int) % 128 by simp, ew] at eo
            simp [Addr.add] at hcu
            clear ew
            have HG3 : Hid ((if mayN N then some (N, 0 + 1) else none) = getN l) := by have := HG2.out; rwa [if_neg (by omega)] at this
            clear HG2
            cases hm1 : mayN N
            · have HG4 : Hid (getN l = none) := by have := HG3.out; rw [hm1] at this; exact this.symm
              clear HG3
              have KM := Lib.hid hm1
              clear hm1
              go_wp2_with (go_at_call 74; have c1 := may_any N w; rw [KM.out] at c1; refine c1.mono ?_; clear c1; rintro e w' ⟨rfl, rfl⟩)
              go_ret3
              exact ⟨by simp only [HG4.out, getV]; rfl, rfl⟩
            · have HG4 : Hid (getN l = some (N, 0 + 1)) := by have := HG3.out; rw [hm1] at this; exact this.symm
              clear HG3
              have KM := Lib.hid hm1
              clear hm1
              go_wp2_with (go_at_call 74; have c1 := may_any N w; rw [KM.out] at c1; refine c1.mono ?_; clear c1; rintro e w' ⟨rfl, rfl⟩)
              go_ret3
              exact ⟨by simp only [HG4.out, getV]; rfl, rfl⟩
      · have HG : Hid (getN l = none) := by rw [← hg]; exact getG_over l k x (by rw [HL.out]; omega)
        clear hg hx
        go_wp2
        go_ret3
        exact ⟨by simp only [HG.out, getV]; rfl, rfl⟩
  · have h9 : ¬ (n : Int) ≤ 8 := by omega
    have HL := Lib.hid hl
    have HR := Lib.hid hr
    clear hl hr
    go_enter Tryz.func79, Tryz.ntmps79
    go_wp2
    try rw [show (max 8 0 : Int) = 8 from rfl]
    go_loop [5, 15] (fun xv iv => ∃ k x : Nat, k ≤ 8 ∧ iv = .int .i64 k ∧ xv = .int .u64 x ∧ x < 128 ^ k ∧ getG k x (l.drop k) = getN l) (fun _ iv => 8 - (intOf iv).toNat)
    case atStart => exact ⟨0, 0, by omega, rfl, rfl, by simp, rfl⟩
    case round =>
      obtain ⟨k, x, hk, rfl, rfl, hx, hg⟩ := hrel
      by_cases hlt : k < 8
      · obtain ⟨ad, u, rfl, -, hla, hu, hcu⟩ := HR.out.at_ (k := k) (by omega)
        have hkl : k < l.length := by rw [HL.out]; omega
        obtain rfl : u = bv l[k] := by simpa [bvs, List.getElem?_eq_getElem hkl] using hu.symm
        rw [getG_at l k x hkl, if_neg (by omega)] at hg
        have ea := and127 l[k]
        have hb := l[k].toNat_lt
        have hk8 : k < 8 := by omega
        have eo := or_shift x k l[k] hk8 hx
        have hy := next_lt x k l[k] hk8 hx
        generalize hY : x + l[k].toNat % 128 * 128 ^ k = Y at *
        clear hY
        obtain ⟨hy1, hy2⟩ := hy
        have HX : Hid (Y < 128 ^ (k + 1)) := hy1
        have HG := Lib.hid hg
        generalize l[k] = b at *
        clear hu hx hy1 hg
        by_cases h128 : 128 ≤ b.toNat
        · go_wp2
          go_round
          case rel => exact ⟨k + 1, Y, by omega, by go_num, rfl, HX.out, by have := HG.out; rwa [if_pos h128] at this⟩
          case measure => simp [intOf]; omega
        · have e1 := and1 Y hy2
          have e2 := xor_unf Y hy2
          have HG2 : Hid ((if 0 < k ∧ b.toNat = 0 then none else if mayN (unfN Y) then some (unfN Y, k + 1) else none) = getN l) := by have := HG.out; rwa [if_neg h128] at this
          clear HG
          obtain ⟨hu1, hu2⟩ := unf_bounds Y hy2
          generalize hN : unfN Y = N at *
          clear hN
          by_cases hk0 : 0 < k
          · by_cases hz : b.toNat = 0
            · have hb0 : ((b.toNat : Int) == 0) = true := by rw [beq_iff_eq]; omega
              have HG3 : Hid (getN l = none) := by have := HG2.out; rw [if_pos ⟨hk0, hz⟩] at this; exact this.symm
              clear HG2 hz
              go_wp2
              go_ret3
              exact ⟨by simp only [HG3.out, getV]; rfl, rfl⟩
            · have hb0 : ((b.toNat : Int) == 0) = false := by rw [beq_eq_false_iff_ne]; omega
              have HG3 : Hid ((if mayN N then some (N, k + 1) else none) = getN l) := by have := HG2.out; rwa [if_neg (by omega)] at this
              clear HG2 hz
              cases hm1 : mayN N
              · have HG4 : Hid (getN l = none) := by have := HG3.out; rw [hm1] at this; exact this.symm
                clear HG3
                have KM := Lib.hid hm1
                clear hm1
                go_wp2_with (go_at_call 74; have c1 := may_any N w; rw [KM.out] at c1; refine c1.mono ?_; clear c1; rintro e w' ⟨rfl, rfl⟩)
                go_ret3
                exact ⟨by simp only [HG4.out, getV]; rfl, rfl⟩
              · have HG4 : Hid (getN l = some (N, k + 1)) := by have := HG3.out; rw [hm1] at this; exact this.symm
                clear HG3
                have KM := Lib.hid hm1
                clear hm1
                go_wp2_with (go_at_call 74; have c1 := may_any N w; rw [KM.out] at c1; refine c1.mono ?_; clear c1; rintro e w' ⟨rfl, rfl⟩)
                go_ret3
                exact ⟨by simp only [HG4.out, getV]; rfl, rfl⟩
          · obtain rfl : k = 0 := by omega
            have ew : IntKind.u64.wrap ((b.toNat : Int) % 128) = (b.toNat : Int) % 128 := by rw [IntKind.wrap_u64]; omega
            rw [show (b.toNat : Int) % 128 * 2 ^ (7 * 0) = (b.toNat : Int) % 128 by simp, ew] at eo
            simp [Addr.add] at hcu
            clear ew
            have HG3 : Hid ((if mayN N then some (N, 0 + 1) else none) = getN l) := by have := HG2.out; rwa [if_neg (by omega)] at this
            clear HG2
            cases hm1 : mayN N
            · have HG4 : Hid (getN l = none) := by have := HG3.out; rw [hm1] at this; exact this.symm
              clear HG3
              have KM := Lib.hid hm1
              clear hm1
              go_wp2_with (go_at_call 74; have c1 := may_any N w; rw [KM.out] at c1; refine c1.mono ?_; clear c1; rintro e w' ⟨rfl, rfl⟩)
              go_ret3
              exact ⟨by simp only [HG4.out, getV]; rfl, rfl⟩
            · have HG4 : Hid (getN l = some (N, 0 + 1)) := by have := HG3.out; rw [hm1] at this; exact this.symm
              clear HG3
              have KM := Lib.hid hm1
              clear hm1
              go_wp2_with (go_at_call 74; have c1 := may_any N w; rw [KM.out] at c1; refine c1.mono ?_; clear c1; rintro e w' ⟨rfl, rfl⟩)
              go_ret3
              exact ⟨by simp only [HG4.out, getV]; rfl, rfl⟩
      · have HG : Hid (getN l = none) := by rw [← hg]; exact getG_over l k x (by rw [HL.out]; omega)
        clear hg hx
        go_wp2
        go_ret3
        exact ⟨by simp only [HG.out, getV]; rfl, rfl⟩
end Go.Proofs.YtdgpaddmheagoaaGreatDoor
