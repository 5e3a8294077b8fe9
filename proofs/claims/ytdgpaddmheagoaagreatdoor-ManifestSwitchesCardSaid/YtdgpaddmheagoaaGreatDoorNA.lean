/-
  Contracts: numbers as bytes, by the program (num) and by the document (newsstandref01).
-/
import Derived.Test.YtdgpaddmheagoaaGreatDoorDiskC
import Derived.Test.YtdgpaddmheagoaaGreatDoorNum
import Derived.Test.YtdgpaddmheagoaaGreatDoorRow
import Derived.Laws.BitsAll
namespace Go.Proofs.YtdgpaddmheagoaaGreatDoor
open Go.RowKit

theorem elemB : ElemOk Tryz.prog 35 5 1 := ⟨Tryz.underlying35, ⟨.int .u8 0, by kernel_rfl, rfl⟩⟩

theorem mayN_of (n : Int) (h1 : -9007199254740991 ≤ n) (h2 : n ≤ 9007199254740991) : mayN n = true := by
  unfold mayN most
  rw [decide_eq_true h1, decide_eq_true h2]
  rfl
theorem mayN_not (n : Int) (h : n < -9007199254740991 ∨ 9007199254740991 < n) : mayN n = false := by
  cases e : mayN n
  · rfl
  · obtain ⟨h1, h2⟩ : -most ≤ n ∧ n ≤ most := by simpa [mayN] using e
    unfold most at h1 h2
    omega

set_option maxRecDepth 100000 in
theorem may_any (n : Int) (w : World) : Calls Tryz.prog 74 #[.int .i64 n] w fun e w' => e = .returned (.bool (mayN n)) ∧ w = w' := by
  by_cases h1 : -9007199254740991 ≤ n
  · by_cases h2 : n ≤ 9007199254740991
    · rw [mayN_of n h1 h2]
      go_enter Tryz.func74, Tryz.ntmps74
      go_wp2
      go_ret
      exact ⟨rfl, rfl⟩
    · rw [mayN_not n (by omega)]
      have h3 : ¬ n ≤ 9007199254740991 := h2
      go_enter Tryz.func74, Tryz.ntmps74
      go_wp2
      go_ret
      exact ⟨rfl, rfl⟩
  · rw [mayN_not n (by omega)]
    go_enter Tryz.func74, Tryz.ntmps74
    go_wp2
    go_ret
    exact ⟨rfl, rfl⟩

set_option maxRecDepth 100000 in
theorem May_any (n : Int) (w : World) : Calls Tryz.prog 90 #[.int .i64 n] w fun e w' => e = .returned (.bool (mayN n)) ∧ w = w' := by
  by_cases h1 : -9007199254740991 ≤ n
  · by_cases h2 : n ≤ 9007199254740991
    · rw [mayN_of n h1 h2]
      go_enter Tryz.func90, Tryz.ntmps90
      go_wp2
      go_ret
      exact ⟨rfl, rfl⟩
    · rw [mayN_not n (by omega)]
      have h3 : ¬ n ≤ 9007199254740991 := h2
      go_enter Tryz.func90, Tryz.ntmps90
      go_wp2
      go_ret
      exact ⟨rfl, rfl⟩
  · rw [mayN_not n (by omega)]
    go_enter Tryz.func90, Tryz.ntmps90
    go_wp2
    go_ret
    exact ⟨rfl, rfl⟩

set_option maxRecDepth 100000 in
theorem fold_any (n : Int) (w : World) (h1 : -9007199254740991 ≤ n) (h2 : n ≤ 9007199254740991) : Calls Tryz.prog 83 #[.int .i64 n] w fun e w' => e = .returned (.int .i64 (foldN n)) ∧ w = w' := by
  by_cases h0 : 0 ≤ n
  · have e : ((foldN n : Nat) : Int) = 2 * n := by unfold foldN; rw [if_pos h0]; omega
    rw [e]
    clear e
    go_enter Tryz.func83, Tryz.ntmps83
    go_wp2
    go_ret
    exact ⟨rfl, rfl⟩
  · have e : ((foldN n : Nat) : Int) = -2 * n - 1 := by unfold foldN; rw [if_neg h0]; omega
    rw [e]
    clear e
    go_enter Tryz.func83, Tryz.ntmps83
    go_wp2
    go_ret
    exact ⟨rfl, rfl⟩

/-! ### a number's bytes -/

def BytesOut (w : World) (l : List UInt8) (e : Ending) (w' : World) : Prop :=
  ∃ A c, e = .returned (.slice A l.length c) ∧ RowIn 5 w w' (.slice A l.length c) l.length (bvs l)
def BytesOkOut (w : World) (l : List UInt8) (n : Int) (e : Ending) (w' : World) : Prop :=
  ∃ A c, e = .returned (.tuple #[.slice A l.length c, .int .i64 n]) ∧ RowIn 5 w w' (.slice A l.length c) l.length (bvs l)

theorem putG_low {k x : Nat} (h : x < 128) : putG k x = [UInt8.ofNat x] := by
  cases k with
  | zero => unfold putG; rw [Nat.mod_eq_of_lt (by omega)]
  | succ k => unfold putG; rw [if_pos h]
theorem putG_high {k x : Nat} (h : 128 ≤ x) : putG (k + 1) x = UInt8.ofNat (x % 128 + 128) :: putG k (x / 128) := by
  rw [putG, if_neg (by omega)]
/-- what holds at the head of the loop: fuel, what is left, what was put. -/
def PutAt (n : Int) (x : Nat) (done : List UInt8) : Prop := ∃ k, k ≤ 8 ∧ x < 128 ^ (k + 1) ∧ done ++ putG k x = putN n ∧ done.length + k ≤ 8
theorem PutAt.start {n : Int} (h : mayN n = true) : PutAt n (foldN n) [] := ⟨8, by omega, by have := foldN_lt h; simp; omega, rfl, by simp⟩
theorem PutAt.step {n : Int} {x : Nat} {done : List UInt8} (h : PutAt n x done) (hx : 128 ≤ x) : PutAt n (x / 128) (done ++ [UInt8.ofNat (x % 128 + 128)]) := by
  obtain ⟨k, hk, hlt, hp, hd⟩ := h
  rcases k with _ | k
  · simp at hlt
    omega
  · refine ⟨k, by omega, ?_, ?_, by rw [List.length_append, List.length_singleton]; omega⟩
    · rw [Nat.pow_succ] at hlt
      exact Nat.div_lt_of_lt_mul (by rw [Nat.mul_comm]; exact hlt)
    · rw [← hp, putG_high hx]
      simp
theorem PutAt.lt {n : Int} {x : Nat} {done : List UInt8} (h : PutAt n x done) : done.length ≤ 8 ∧ x < 9223372036854775808 := by
  obtain ⟨k, hk, hlt, -, hd⟩ := h
  have : 128 ^ (k + 1) ≤ 128 ^ 9 := Nat.pow_le_pow_right (by omega) (by omega)
  simp at this
  omega
theorem PutAt.done {n : Int} {x : Nat} {done : List UInt8} (h : PutAt n x done) (hx : x < 128) : done ++ [UInt8.ofNat x] = putN n := by
  obtain ⟨k, -, -, hp, -⟩ := h
  rwa [putG_low hx] at hp
theorem bv_ofNat (x : Nat) (h : x < 256) : bv (UInt8.ofNat x) = .int .u8 (x : Int) := by
  show Value.int .u8 ((UInt8.ofNat x).toNat : Int) = _
  rw [show (UInt8.ofNat x).toNat = x by simp; omega]

set_option maxRecDepth 100000 in
set_option maxHeartbeats 1000000 in
theorem PutR_any (n : Int) (w : World) (h1 : -9007199254740991 ≤ n) (h2 : n ≤ 9007199254740991) : Calls Tryz.prog 68 #[.int .i64 n] w (BytesOut w (putN n)) := by
  have hp := PutAt.start (mayN_of n h1 h2)
  have hl := hp.lt
  generalize hX : foldN n = X at *
  have HP := Lib.hid hp
  have HX := Lib.hid hX
  clear hp hX
  go_enter Tryz.func68, Tryz.ntmps68
  go_wp2_with (go_at_call 83; have c1 := fold_any n w h1 h2; rw [HX.out] at c1; refine c1.mono ?_; clear c1; rintro e w' ⟨rfl, rfl⟩)
  go_loopw [3, 4] (fun xv v wr => ∃ (x : Nat) (done : List UInt8), xv = .int .i64 x ∧ PutAt n x done ∧ RowIn 5 w wr v done.length (bvs done)) (fun xv _ _ => (intOf xv).toNat)
  case atStart => exact ⟨X, [], rfl, HP.out, RowIn.nil_ _ (Frm.refl _ _)⟩
  case round =>
    obtain ⟨x, done, rfl, hpa, hrow⟩ := hrel
    obtain ⟨hd8, hx63⟩ := hpa.lt
    have HPA := Lib.hid hpa
    have HR := Lib.hid hrow
    obtain ⟨A, c, rfl, -, -, -, -⟩ := hrow.shape
    clear hpa hrow
    by_cases hx : 128 ≤ x
    · obtain ⟨v2, w2, hrun, hrow2, -, -⟩ := HR.out.push elemB (.int .u8 ((x : Int) % 128 + 128)) rfl (by unfold maxLen; omega) (by omega)
      have HR2 := Lib.hid hrow2
      clear hrow2
      have e8 : IntKind.u8.wrap ((x : Int) % 128 + 128) = (x : Int) % 128 + 128 := by rw [IntKind.wrap_u8']; omega
      go_wp2_with (at_builtin; refine wpList_append_run hrun rfl _ _ rfl rfl rfl ?_)
      go_roundw
      case rel =>
        refine ⟨x / 128, done ++ [UInt8.ofNat (x % 128 + 128)], by go_num, HPA.out.step hx, ?_⟩
        rw [List.length_append, List.length_singleton, bvs_append, show bvs [UInt8.ofNat (x % 128 + 128)] = [bv (UInt8.ofNat (x % 128 + 128))] from rfl, bv_ofNat _ (by omega)]
        exact HR2.out
      case measure => simp [intOf]; omega
    · obtain ⟨v2, w2, hrun, hrow2, -, -⟩ := HR.out.push elemB (.int .u8 (x : Int)) rfl (by unfold maxLen; omega) (by omega)
      have HE : Hid (BytesOut w (putN n) (.returned v2) w2) := by
        obtain ⟨A2, c2, rfl, -⟩ := hrow2.shape
        rw [← HPA.out.done (by omega)]
        have e1 : (done ++ [UInt8.ofNat x]).length = done.length + 1 := by simp
        refine ⟨A2, c2, by rw [e1], ?_⟩
        rw [e1, bvs_append, show bvs [UInt8.ofNat x] = [bv (UInt8.ofNat x)] from rfl, bv_ofNat _ (by omega)]
        exact hrow2
      clear hrow2
      have e8 : IntKind.u8.wrap (x : Int) = (x : Int) := by rw [IntKind.wrap_u8']; omega
      go_wp2_with (at_builtin; refine wpList_append_run hrun rfl _ _ rfl rfl rfl ?_)
      go_ret
      exact HE.out

theorem fold_bits (n : Int) (h1 : -9007199254740991 ≤ n) (h2 : n ≤ 9007199254740991) :
    bits .xor .u64 (IntKind.u64.wrap (n * 2)) (IntKind.u64.wrap (n / 9223372036854775808)) = (foldN n : Int) := by
  rw [IntKind.wrap_u64, IntKind.wrap_u64]
  unfold foldN
  by_cases h0 : 0 ≤ n
  · obtain ⟨m, rfl⟩ := Int.eq_ofNat_of_zero_le h0
    have e1 : ((m : Int) * 2) % 18446744073709551616 = ((2 * m : Nat) : Int) := by omega
    have e2 : ((m : Int) / 9223372036854775808) % 18446744073709551616 = ((0 : Nat) : Int) := by omega
    rw [e1, e2, bits_xor_u64_nat _ _ (by omega) (by omega), if_pos h0, Nat.xor_zero]
    omega
  · obtain ⟨m, rfl⟩ : ∃ m : Nat, n = -((m : Nat) : Int) := ⟨n.natAbs, by omega⟩
    have e1 : (-(m : Int) * 2) % 18446744073709551616 = ((18446744073709551616 - 2 * m : Nat) : Int) := by omega
    have e2 : (-(m : Int) / 9223372036854775808) % 18446744073709551616 = ((18446744073709551615 : Nat) : Int) := by omega
    have e3 : (18446744073709551616 - 2 * m) ^^^ 18446744073709551615 = 2 * m - 1 := by
      have hb := congrArg BitVec.toNat (BitVec.xor_allOnes (x := BitVec.ofNat 64 (18446744073709551616 - 2 * m)))
      rw [BitVec.toNat_xor, BitVec.toNat_not, BitVec.toNat_allOnes, BitVec.toNat_ofNat, Nat.mod_eq_of_lt (by omega)] at hb
      have e4 : (2 : Nat) ^ 64 - 1 = 18446744073709551615 := by decide
      rw [e4] at hb
      rw [hb]
      omega
    rw [e1, e2, bits_xor_u64_nat _ _ (by omega) (by omega), if_neg h0, e3]
    omega
theorem or128 (x : Nat) : bits .or .u8 ((x : Int) % 256) 128 = (x : Int) % 128 + 128 := by
  have e1 : (x : Int) % 256 = ((x % 256 : Nat) : Int) := by omega
  have h := u8_or_nat (x % 256) 128 (by omega) (by omega)
  rw [e1, show (128 : Int) = ((128 : Nat) : Int) from rfl, h]
  have hd : ∀ y, y < 256 → y ||| 128 = y % 128 + 128 := by decide +kernel
  rw [hd _ (by omega)]
  omega

set_option maxRecDepth 100000 in
set_option maxHeartbeats 1000000 in
theorem Put_any (n : Int) (w : World) (h1 : -9007199254740991 ≤ n) (h2 : n ≤ 9007199254740991) : Calls Tryz.prog 46 #[.int .i64 n] w (BytesOkOut w (putN n) 0) := by
  have hp := PutAt.start (mayN_of n h1 h2)
  have hl := hp.lt
  have hb := fold_bits n h1 h2
  generalize hX : foldN n = X at *
  have HP := Lib.hid hp
  have HX := Lib.hid hb
  clear hp hX hb
  go_enter Tryz.func46, Tryz.ntmps46
  go_wp2_with (go_at_call 74; have c1 := may_any n w; rw [mayN_of n h1 h2] at c1; refine c1.mono ?_; clear c1; rintro e w' ⟨rfl, rfl⟩)
  rw [HX.out]
  go_loopw [4, 5] (fun xv v wr => ∃ (x : Nat) (done : List UInt8), xv = .int .u64 x ∧ PutAt n x done ∧ RowIn 5 w wr v done.length (bvs done)) (fun xv _ _ => (intOf xv).toNat)
  case atStart => exact ⟨X, [], rfl, HP.out, RowIn.nil_ _ (Frm.refl _ _)⟩
  case round =>
    obtain ⟨x, done, rfl, hpa, hrow⟩ := hrel
    obtain ⟨hd8, hx63⟩ := hpa.lt
    have HPA := Lib.hid hpa
    have HR := Lib.hid hrow
    obtain ⟨A, c, rfl, -, -, -, -⟩ := hrow.shape
    clear hpa hrow
    by_cases hx : 128 ≤ x
    · have eo := or128 x
      obtain ⟨v2, w2, hrun, hrow2, -, -⟩ := HR.out.push elemB (.int .u8 ((x : Int) % 128 + 128)) rfl (by unfold maxLen; omega) (by omega)
      have HR2 := Lib.hid hrow2
      clear hrow2
      go_wp2_with (at_builtin; refine wpList_append_run hrun rfl _ _ rfl rfl rfl ?_)
      go_roundw
      case rel =>
        refine ⟨x / 128, done ++ [UInt8.ofNat (x % 128 + 128)], by go_num, HPA.out.step hx, ?_⟩
        rw [List.length_append, List.length_singleton, bvs_append, show bvs [UInt8.ofNat (x % 128 + 128)] = [bv (UInt8.ofNat (x % 128 + 128))] from rfl, bv_ofNat _ (by omega)]
        exact HR2.out
      case measure => simp [intOf]; omega
    · obtain ⟨v2, w2, hrun, hrow2, -, -⟩ := HR.out.push elemB (.int .u8 (x : Int)) rfl (by unfold maxLen; omega) (by omega)
      have HE : Hid (BytesOkOut w (putN n) 0 (.returned (.tuple #[v2, .int .i64 0])) w2) := by
        obtain ⟨A2, c2, rfl, -⟩ := hrow2.shape
        rw [← HPA.out.done (by omega)]
        have e1 : (done ++ [UInt8.ofNat x]).length = done.length + 1 := by simp
        refine ⟨A2, c2, by rw [e1], ?_⟩
        rw [e1, bvs_append, show bvs [UInt8.ofNat x] = [bv (UInt8.ofNat x)] from rfl, bv_ofNat _ (by omega)]
        exact hrow2
      clear hrow2
      go_wp2_with (at_builtin; refine wpList_append_run hrun rfl _ _ rfl rfl rfl ?_)
      go_ret2
      exact HE.out
end Go.Proofs.YtdgpaddmheagoaaGreatDoor
