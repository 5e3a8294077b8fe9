/-
  Numbers as bytes, sums of bytes, in plain Lean: what is put is got; the sum by halves of bytes is the sum by bits. No program in sight; no condition.
-/
import Derived.Test.YtdgpaddmheagoaaGreatDoorBase
namespace Go.Proofs.YtdgpaddmheagoaaGreatDoor

/-! ### numbers -/

def most : Int := 9007199254740991
def mayN (n : Int) : Bool := decide (-most ≤ n) && decide (n ≤ most)
/-- a number as a natural one. -/
def foldN (n : Int) : Nat := if 0 ≤ n then (2 * n).toNat else (-2 * n - 1).toNat
def unfN (x : Nat) : Int := if x % 2 = 1 then -((x / 2 : Nat) : Int) - 1 else ((x / 2 : Nat) : Int)
/-- groups of seven bits, the low ones first. -/
def putG : Nat → Nat → List UInt8
  | 0, x => [UInt8.ofNat (x % 256)]
  | k + 1, x => if x < 128 then [UInt8.ofNat x] else UInt8.ofNat (x % 128 + 128) :: putG k (x / 128)
def putN (n : Int) : List UInt8 := putG 8 (foldN n)

def getG : Nat → Nat → List UInt8 → Option (Int × Nat)
  | _, _, [] => none
  | i, x, c :: r =>
    if 8 ≤ i then none
    else if 128 ≤ c.toNat then getG (i + 1) (x + (c.toNat % 128) * 128 ^ i) r
    else if 0 < i ∧ c.toNat = 0 then none
    else if mayN (unfN (x + (c.toNat % 128) * 128 ^ i)) then some (unfN (x + (c.toNat % 128) * 128 ^ i), i + 1) else none
def getN (l : List UInt8) : Option (Int × Nat) := getG 0 0 l

theorem foldN_lt {n : Int} (h : mayN n = true) : foldN n < 18014398509481984 := by
  obtain ⟨h1, h2⟩ : -most ≤ n ∧ n ≤ most := by simpa [mayN] using h
  unfold most at h1 h2
  unfold foldN
  split <;> omega
theorem unf_fold (n : Int) : unfN (foldN n) = n := by
  unfold foldN unfN
  split
  · have h1 : (2 * n).toNat % 2 = 0 := by omega
    rw [if_neg (by omega)]
    omega
  · have h1 : (-2 * n - 1).toNat % 2 = 1 := by omega
    rw [if_pos h1]
    omega

theorem getG_putG (n : Int) (rest : List UInt8) (h : mayN n = true) : ∀ (k i y x : Nat), i + k = 8 → y * 128 ^ i + x = foldN n → y < 128 ^ (8 - i) → x < 128 ^ i → (0 < i → 0 < y) →
    getG i x (putG k y ++ rest) = some (n, i + (putG k y).length) := by
  intro k
  induction k with
  | zero =>
    intro i y x hi hy hlt _ h0
    have e : i = 8 := by omega
    subst e
    simp at hlt
    omega
  | succ k ih =>
    intro i y x hi hy hlt hx h0
    unfold putG
    by_cases hs : y < 128
    · rw [if_pos hs]
      simp only [List.singleton_append, List.length_singleton]
      have hb : (UInt8.ofNat y).toNat = y := by simp; omega
      unfold getG
      rw [hb, if_neg (by omega), if_neg (by omega), if_neg (by omega), Nat.mod_eq_of_lt hs]
      have e : x + y * 128 ^ i = foldN n := by omega
      rw [e, unf_fold, if_pos h]
    · rw [if_neg hs]
      simp only [List.cons_append, List.length_cons]
      have hb : (UInt8.ofNat (y % 128 + 128)).toNat = y % 128 + 128 := by simp; omega
      unfold getG
      rw [hb, if_neg (by omega), if_pos (by omega)]
      have e1 : (y % 128 + 128) % 128 = y % 128 := by omega
      rw [e1]
      have hp : 128 ^ (i + 1) = 128 ^ i * 128 := Nat.pow_succ _ _
      have hp2 : 128 ^ (8 - i) = 128 ^ (8 - (i + 1)) * 128 := by
        rw [← Nat.pow_succ]
        congr 1
        omega
      have hdm := Nat.div_add_mod y 128
      have hmul : (y / 128) * 128 ^ (i + 1) + (x + y % 128 * 128 ^ i) = y * 128 ^ i + x := by
        rw [hp]
        have : y * 128 ^ i = (128 * (y / 128) + y % 128) * 128 ^ i := by rw [hdm]
        rw [this, Nat.add_mul, show y / 128 * (128 ^ i * 128) = 128 * (y / 128) * 128 ^ i by rw [Nat.mul_comm (128 ^ i) 128, ← Nat.mul_assoc, Nat.mul_comm (y / 128) 128]]
        omega
      rw [ih (i + 1) (y / 128) (x + y % 128 * 128 ^ i) (by omega) (by omega) (by rw [hp2] at hlt; exact Nat.div_lt_of_lt_mul (by rw [Nat.mul_comm]; exact hlt)) ?_ (fun _ => by omega)]
      · congr 2
        omega
      · have h1 : y % 128 ≤ 127 := by omega
        have h2 : y % 128 * 128 ^ i ≤ 127 * 128 ^ i := Nat.mul_le_mul_right _ h1
        rw [hp]
        omega

theorem putG_len_pos : ∀ k x, 0 < (putG k x).length
  | 0, _ => by simp [putG]
  | k + 1, x => by unfold putG; split <;> simp
theorem putG_len : ∀ k x, (putG k x).length ≤ k + 1
  | 0, _ => by simp [putG]
  | k + 1, x => by
    unfold putG
    split
    · simp
    · have := putG_len k (x / 128)
      simp only [List.length_cons]
      omega
theorem putN_len (n : Int) : (putN n).length ≤ 9 := putG_len 8 _

/-- WHAT IS PUT IS GOT. -/
theorem getN_putN (n : Int) (rest : List UInt8) (h : mayN n = true) : getN (putN n ++ rest) = some (n, (putN n).length) := by
  have := getG_putG n rest h 8 0 (foldN n) 0 rfl (by omega) (by have := foldN_lt h; simp; omega) (by simp) (by omega)
  simpa [getN, putN] using this

theorem getG_len {n : Int} {k : Nat} : ∀ (l : List UInt8) (i x : Nat), getG i x l = some (n, k) → i < k ∧ k ≤ i + l.length ∧ k ≤ 8 ∧ mayN n = true
  | [], _, _, h => by simp [getG] at h
  | c :: r, i, x, h => by
    unfold getG at h
    split at h
    · cases h
    · split at h
      · obtain ⟨h1, h2, h3, h4⟩ := getG_len r _ _ h
        simp only [List.length_cons]
        exact ⟨by omega, by omega, h3, h4⟩
      · split at h
        · cases h
        · split at h
          · injection h with h
            injection h with h1 h2
            subst h1 h2
            simp only [List.length_cons]
            rename_i h3
            exact ⟨by omega, by omega, by omega, h3⟩
          · cases h
theorem getN_len {l : List UInt8} {n : Int} {k : Nat} (h : getN l = some (n, k)) : 0 < k ∧ k ≤ l.length ∧ k ≤ 8 ∧ mayN n = true := by
  have := getG_len l 0 0 h
  simpa using this

/-! ### sums -/

def bit1 (c : Nat) : Nat := if c % 2 = 1 then (c / 2) ^^^ 3988292384 else c / 2
def halvesL : List Nat := [0, 498536548, 997073096, 651767980, 1994146192, 1802195444, 1303535960, 1342533948, 3988292384, 4027552580, 3604390888, 3412177804, 2607071920, 2262029012, 2685067896, 3183342108]
def halfB (c : Nat) : Nat := halvesL.getD (c % 16) 0 ^^^ c / 16
def byteB (c : Nat) (x : UInt8) : Nat := halfB (halfB (c ^^^ x.toNat))
def bits8 (c : Nat) : Nat := bit1 (bit1 (bit1 (bit1 (bit1 (bit1 (bit1 (bit1 c)))))))
def byteR (c : Nat) (x : UInt8) : Nat := bits8 (c ^^^ x.toNat)
def moreN (sum : Nat) (l : List UInt8) : Nat := 4294967295 ^^^ l.foldl byteB (4294967295 ^^^ sum)
def sumN (l : List UInt8) : Nat := moreN 0 l

theorem xor_div2 (a b : Nat) : (a ^^^ b) / 2 = (a / 2) ^^^ (b / 2) := by
  apply Nat.eq_of_testBit_eq
  intro i
  simp [Nat.testBit_div_two]
theorem xor_mod2 (a b : Nat) : (a ^^^ b) % 2 = (a % 2 + b % 2) % 2 := by
  have h := Nat.testBit_xor a b 0
  simp only [Nat.testBit_zero] at h
  rcases Nat.mod_two_eq_zero_or_one a with h1 | h1 <;> rcases Nat.mod_two_eq_zero_or_one b with h2 | h2 <;> rcases Nat.mod_two_eq_zero_or_one (a ^^^ b) with h3 | h3 <;> simp [h1, h2, h3] at h ⊢
theorem xor_lt32 {a b : Nat} (ha : a < 4294967296) (hb : b < 4294967296) : a ^^^ b < 4294967296 := Nat.xor_lt_two_pow (n := 32) ha hb
theorem bit1_xor (a b : Nat) : bit1 (a ^^^ b) = bit1 a ^^^ bit1 b := by
  unfold bit1
  rw [xor_mod2, xor_div2]
  have e : ∀ x y p : Nat, (x ^^^ p) ^^^ (y ^^^ p) = x ^^^ y := fun x y p => by
    rw [Nat.xor_assoc, Nat.xor_comm y p, ← Nat.xor_assoc p p y, Nat.xor_self, Nat.zero_xor]
  rcases Nat.mod_two_eq_zero_or_one a with h1 | h1 <;> rcases Nat.mod_two_eq_zero_or_one b with h2 | h2
  · simp [h1, h2]
  · simp [h1, h2, Nat.xor_assoc]
  · simp [h1, h2]
    rw [Nat.xor_assoc, Nat.xor_comm (b / 2), ← Nat.xor_assoc]
  · simp [h1, h2, e]
theorem bit1_lt {c : Nat} (h : c < 4294967296) : bit1 c < 4294967296 := by
  unfold bit1
  split
  · exact xor_lt32 (by omega) (by omega)
  · omega
theorem bit1_even (q : Nat) : bit1 (2 * q) = q := by
  unfold bit1
  rw [if_neg (by omega)]
  omega
theorem split16 (c : Nat) : c = (16 * (c / 16)) ^^^ (c % 16) := by
  apply Nat.eq_of_testBit_eq
  intro i
  have e1 : 16 * (c / 16) = c / 2 ^ 4 * 2 ^ 4 := by omega
  have e2 : c % 16 = c % 2 ^ 4 := rfl
  rw [Nat.testBit_xor, e1, e2, Nat.testBit_mul_two_pow, Nat.testBit_div_two_pow, Nat.testBit_mod_two_pow]
  by_cases h : i < 4
  · have h4 : ¬ 4 ≤ i := by omega
    simp [h, h4]
  · have h4 : 4 ≤ i := by omega
    simp [h, h4]
theorem half_bits (c : Nat) : bit1 (bit1 (bit1 (bit1 c))) = halfB c := by
  have hq : bit1 (bit1 (bit1 (bit1 (16 * (c / 16))))) = c / 16 := by
    rw [show 16 * (c / 16) = 2 * (2 * (2 * (2 * (c / 16)))) by omega, bit1_even, bit1_even, bit1_even, bit1_even]
  have hr : ∀ r, r < 16 → bit1 (bit1 (bit1 (bit1 r))) = halvesL.getD r 0 := by decide +kernel
  conv => lhs; rw [split16 c]
  rw [bit1_xor, bit1_xor, bit1_xor, bit1_xor, hq, hr _ (Nat.mod_lt _ (by omega)), Nat.xor_comm]
  rfl
theorem byteR_eq (c : Nat) (x : UInt8) : byteR c x = byteB c x := by
  unfold byteR byteB bits8
  rw [half_bits, half_bits]
theorem half_lt {c : Nat} (h : c < 4294967296) : halfB c < 4294967296 := by
  rw [← half_bits]
  exact bit1_lt (bit1_lt (bit1_lt (bit1_lt h)))
theorem byteB_lt {c : Nat} (x : UInt8) (h : c < 4294967296) : byteB c x < 4294967296 :=
  half_lt (half_lt (xor_lt32 h (by have := x.toNat_lt; omega)))
theorem foldB_lt : ∀ (l : List UInt8) {c : Nat}, c < 4294967296 → l.foldl byteB c < 4294967296
  | [], _, h => h
  | x :: l, _, h => foldB_lt l (byteB_lt x h)
theorem moreN_lt (sum : Nat) (l : List UInt8) (h : sum < 4294967296) : moreN sum l < 4294967296 :=
  xor_lt32 (by omega) (foldB_lt l (xor_lt32 (by omega) h))
theorem sumN_lt (l : List UInt8) : sumN l < 4294967296 := moreN_lt 0 l (by omega)

/-! ### words, seals -/

def wordB (n : Nat) : List UInt8 := [UInt8.ofNat (n % 256), UInt8.ofNat (n / 256 % 256), UInt8.ofNat (n / 65536 % 256), UInt8.ofNat (n / 16777216 % 256)]
def unword (a b c d : UInt8) : Nat := a.toNat + 256 * b.toNat + 65536 * c.toNat + 16777216 * d.toNat
def sealB (l : List UInt8) : List UInt8 := l ++ wordB (sumN l)
def openB (b : List UInt8) : Option (List UInt8) := if 4 ≤ b.length ∧ sealB (b.take (b.length - 4)) = b then some (b.take (b.length - 4)) else none

theorem wordB_len (n : Nat) : (wordB n).length = 4 := rfl
theorem sealB_len (l : List UInt8) : (sealB l).length = l.length + 4 := by simp [sealB, wordB_len]
theorem openB_seal (l : List UInt8) : openB (sealB l) = some l := by
  have e : (sealB l).take ((sealB l).length - 4) = l := by
    rw [sealB_len]
    simp [sealB]
  unfold openB
  rw [e, if_pos ⟨by rw [sealB_len]; omega, rfl⟩]
theorem word_inj {n : Nat} (h : n < 4294967296) (a b c d : UInt8) : wordB n = [a, b, c, d] ↔ unword a b c d = n := by
  have h1 := a.toNat_lt
  have h2 := b.toNat_lt
  have h3 := c.toNat_lt
  have h4 := d.toNat_lt
  have hb : ∀ (m : Nat) (x : UInt8), m < 256 → (UInt8.ofNat m = x ↔ m = x.toNat) := fun m x hm => by
    constructor
    · rintro rfl
      simp
      omega
    · rintro rfl
      simp
  simp only [wordB, List.cons.injEq, and_true]
  rw [hb _ _ (by omega), hb _ _ (by omega), hb _ _ (by omega), hb _ _ (by omega)]
  unfold unword
  omega
end Go.Proofs.YtdgpaddmheagoaaGreatDoor
