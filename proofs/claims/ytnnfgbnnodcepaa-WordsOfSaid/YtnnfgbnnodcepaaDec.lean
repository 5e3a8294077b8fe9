/-
  The first rune of a text, by the lead byte's class. Plain lemmas; no program in sight; no condition.
-/
import Derived.Test.YtnnfgbnnodcepaaUtf
namespace Go.Proofs.Ytnnfgbnnodcepaa
open Go.Lib

def bat (l : List UInt8) (k : Nat) : Nat := (l.getD k 0).toNat
theorem bat_lt (l : List UInt8) (k : Nat) : bat l k < 256 := (l.getD k 0).toNat_lt
def isTl (l : List UInt8) (k : Nat) : Prop := 128 ≤ bat l k ∧ bat l k < 192
instance (l : List UInt8) (k : Nat) : Decidable (isTl l k) := inferInstanceAs (Decidable (_ ∧ _))
/-- what the rune is up to byte k. -/
def accF (a : Nat) (l : List UInt8) : Nat → Nat
  | 0 => a
  | k + 1 => if k = 0 then a else accF a l k * 64 + (bat l k - 128)
theorem accF_one (a : Nat) (l : List UInt8) : accF a l 1 = a := rfl
theorem accF_succ (a : Nat) (l : List UInt8) (k : Nat) (h : 1 ≤ k) : accF a l (k + 1) = accF a l k * 64 + (bat l k - 128) := by
  obtain ⟨j, rfl⟩ : ∃ j, k = j + 1 := ⟨k - 1, by omega⟩
  simp [accF]
def outOf (n r least : Nat) : Nat × Nat := if r < least ∨ 1114111 < r ∨ (55296 ≤ r ∧ r ≤ 57343) then (65533, 1) else (r, n)

theorem dec_eq (l : List UInt8) : decodeL l = decodeN l.length (bat l 0) (bat l 1) (bat l 2) (bat l 3) := decodeL_N l
theorem bat_none {l : List UInt8} {k : Nat} (h : l.length ≤ k) : bat l k = 0 := by
  unfold bat
  rw [List.getD_eq_getElem?_getD, List.getElem?_eq_none h]
  rfl

theorem dec1 {l : List UInt8} (h : bat l 0 < 128) : decodeL l = (bat l 0, 1) := by
  rw [dec_eq, decodeN, if_pos h]
theorem decBad {l : List UInt8} (h : 128 ≤ bat l 0 ∧ bat l 0 < 192 ∨ 248 ≤ bat l 0) : decodeL l = (65533, 1) := by
  rw [dec_eq, decodeN, if_neg (by omega), if_neg (by omega), if_neg (by omega), if_neg (by omega)]
/-- a tail is missing. -/
theorem dec2_no {l : List UInt8} (h : 192 ≤ bat l 0 ∧ bat l 0 < 224) (k : Nat) (hk : 1 ≤ k ∧ k < 2) (ht : ¬ isTl l k) : decodeL l = (65533, 1) := by
  obtain rfl : k = 1 := by omega
  unfold isTl at ht
  rw [dec_eq, decodeN, if_neg (by omega), if_neg (by omega), if_neg (by omega), if_neg (by omega)]
theorem dec3_no {l : List UInt8} (h : 224 ≤ bat l 0 ∧ bat l 0 < 240) (k : Nat) (hk : 1 ≤ k ∧ k < 3) (ht : ¬ isTl l k) : decodeL l = (65533, 1) := by
  unfold isTl at ht
  have : k = 1 ∨ k = 2 := by omega
  rw [dec_eq, decodeN, if_neg (by omega), if_neg (by omega)]
  rcases this with rfl | rfl
  · rw [if_neg (by omega), if_neg (by omega)]
  · rw [if_neg (by omega), if_neg (by omega)]
theorem dec4_no {l : List UInt8} (h : 240 ≤ bat l 0 ∧ bat l 0 < 248) (k : Nat) (hk : 1 ≤ k ∧ k < 4) (ht : ¬ isTl l k) : decodeL l = (65533, 1) := by
  unfold isTl at ht
  have : k = 1 ∨ k = 2 ∨ k = 3 := by omega
  rw [dec_eq, decodeN, if_neg (by omega), if_neg (by omega), if_neg (by omega)]
  rcases this with rfl | rfl | rfl <;> rw [if_neg (by omega)]
theorem tl_len {l : List UInt8} {k : Nat} (h : isTl l k) : k < l.length := by
  by_cases e : k < l.length
  · exact e
  · have := bat_none (l := l) (k := k) (by omega)
    unfold isTl at h
    omega
theorem dec2_yes {l : List UInt8} (h : 192 ≤ bat l 0 ∧ bat l 0 < 224) (ht : ∀ k, 1 ≤ k ∧ k < 2 → isTl l k) : decodeL l = outOf 2 (accF (bat l 0 - 192) l 2) 128 := by
  have h1 := ht 1 (by omega)
  have l1 := tl_len h1
  unfold isTl at h1
  rw [accF_succ _ _ 1 (by omega), accF_one, dec_eq, decodeN, if_neg (by omega), if_pos (by omega)]
  unfold outOf
  have e : bat l 0 % 32 * 64 + bat l 1 % 64 = (bat l 0 - 192) * 64 + (bat l 1 - 128) := by omega
  rw [e]
  have := bat_lt l 1
  split
  · rw [if_neg (by omega)]
  · rw [if_pos (by omega)]
theorem dec3_yes {l : List UInt8} (h : 224 ≤ bat l 0 ∧ bat l 0 < 240) (ht : ∀ k, 1 ≤ k ∧ k < 3 → isTl l k) : decodeL l = outOf 3 (accF (bat l 0 - 224) l 3) 2048 := by
  have h1 := ht 1 (by omega)
  have h2 := ht 2 (by omega)
  have l2 := tl_len h2
  unfold isTl at h1 h2
  rw [accF_succ _ _ 2 (by omega), accF_succ _ _ 1 (by omega), accF_one, dec_eq, decodeN, if_neg (by omega), if_neg (by omega), if_pos (by omega)]
  unfold outOf
  have e : bat l 0 % 16 * 4096 + bat l 1 % 64 * 64 + bat l 2 % 64 = ((bat l 0 - 224) * 64 + (bat l 1 - 128)) * 64 + (bat l 2 - 128) := by omega
  rw [e]
  split
  · rw [if_neg (by omega)]
  · rw [if_pos (by omega)]
theorem dec4_yes {l : List UInt8} (h : 240 ≤ bat l 0 ∧ bat l 0 < 248) (ht : ∀ k, 1 ≤ k ∧ k < 4 → isTl l k) : decodeL l = outOf 4 (accF (bat l 0 - 240) l 4) 65536 := by
  have h1 := ht 1 (by omega)
  have h2 := ht 2 (by omega)
  have h3 := ht 3 (by omega)
  have l3 := tl_len h3
  unfold isTl at h1 h2 h3
  rw [accF_succ _ _ 3 (by omega), accF_succ _ _ 2 (by omega), accF_succ _ _ 1 (by omega), accF_one, dec_eq, decodeN, if_neg (by omega), if_neg (by omega), if_neg (by omega), if_pos (by omega)]
  unfold outOf
  have e : bat l 0 % 8 * 262144 + bat l 1 % 64 * 4096 + bat l 2 % 64 * 64 + bat l 3 % 64 = (((bat l 0 - 240) * 64 + (bat l 1 - 128)) * 64 + (bat l 2 - 128)) * 64 + (bat l 3 - 128) := by omega
  rw [e]
  split
  · rw [if_neg (by omega)]
  · rw [if_pos (by omega)]
theorem accF_le (a : Nat) (l : List UInt8) (ha : a < 32) : ∀ k, k ≤ 4 → accF a l k < 9000000
  | k, hk => by
    have b1 := bat_lt l 1
    have b2 := bat_lt l 2
    have b3 := bat_lt l 3
    have : k = 0 ∨ k = 1 ∨ k = 2 ∨ k = 3 ∨ k = 4 := by omega
    rcases this with rfl | rfl | rfl | rfl | rfl <;> simp [accF] <;> omega
end Go.Proofs.Ytnnfgbnnodcepaa
