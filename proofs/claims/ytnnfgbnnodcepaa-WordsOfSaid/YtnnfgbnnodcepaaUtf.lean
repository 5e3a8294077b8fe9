/-
  Texts as lists of runes: plain lemmas (decoding, encoding, folding, words). No program in sight; no condition.
-/
import Derived.Lib.MapLaws
import Derived.Lib.FieldsP
namespace Go.Proofs.Ytnnfgbnnodcepaa
open Go.Lib

def Vr (r : Nat) : Prop := r < 55296 ∨ (57344 ≤ r ∧ r ≤ 1114111)
instance (r : Nat) : Decidable (Vr r) := inferInstanceAs (Decidable (_ ∨ _))

theorem decodeL_valid (l : List UInt8) : Vr (decodeL l).1 := by
  rw [decodeL_N]
  have k0 := (l.getD 0 0).toNat_lt
  have k1 := (l.getD 1 0).toNat_lt
  have k2 := (l.getD 2 0).toNat_lt
  have k3 := (l.getD 3 0).toNat_lt
  unfold Vr
  rcases decodeN_shape l.length (l.getD 0 0).toNat (l.getD 1 0).toNat (l.getD 2 0).toNat (l.getD 3 0).toNat with ⟨c, e⟩ | ⟨c1, c2, c3, cv, e⟩ | ⟨c1, c2, c3, c4, cv, cs, e⟩ | ⟨c1, c2, c3, c4, c5, cv, cw, e⟩ | e
  all_goals (rw [e]; dsimp only; omega)

def runesG : Nat → List UInt8 → List Nat
  | 0, _ => []
  | n + 1, l => if l = [] then [] else (decodeL l).1 :: runesG n (l.drop (decodeL l).2)
def runesD (l : List UInt8) : List Nat := runesG l.length l
theorem runesG_nil : ∀ n, runesG n [] = []
  | 0 => rfl
  | _ + 1 => by simp [runesG]
theorem runesG_fuel : ∀ (n m : Nat) (l : List UInt8), l.length ≤ n → l.length ≤ m → runesG n l = runesG m l
  | 0, m, l, hn, _ => by
    have : l = [] := List.eq_nil_of_length_eq_zero (by omega)
    subst this
    rw [runesG_nil, runesG_nil]
  | n + 1, 0, l, _, hm => by
    have : l = [] := List.eq_nil_of_length_eq_zero (by omega)
    subst this
    rw [runesG_nil, runesG_nil]
  | n + 1, m + 1, l, hn, hm => by
    by_cases hne : l = []
    · subst hne
      rw [runesG_nil, runesG_nil]
    · have hw := decodeL_width l
      have hl : 0 < l.length := List.length_pos_iff.2 hne
      simp only [runesG, if_neg hne]
      rw [runesG_fuel n m _ (by rw [List.length_drop]; omega) (by rw [List.length_drop]; omega)]
theorem runesD_nil : runesD [] = [] := rfl
theorem runesD_step (l : List UInt8) (hne : l ≠ []) : runesD l = (decodeL l).1 :: runesD (l.drop (decodeL l).2) := by
  have hw := decodeL_width l
  have hl : 0 < l.length := List.length_pos_iff.2 hne
  unfold runesD
  obtain ⟨n, hn⟩ : ∃ n, l.length = n + 1 := ⟨l.length - 1, by omega⟩
  rw [hn]
  simp only [runesG, if_neg hne]
  rw [runesG_fuel n _ _ (by rw [List.length_drop]; omega) (Nat.le_refl _)]
theorem runesG_valid : ∀ (n : Nat) (l : List UInt8), ∀ r ∈ runesG n l, Vr r
  | 0, _, r, h => by cases h
  | n + 1, l, r, h => by
    unfold runesG at h
    split at h
    · cases h
    · rcases List.mem_cons.1 h with rfl | h
      · exact decodeL_valid l
      · exact runesG_valid n _ r h
theorem runesD_valid (l : List UInt8) : ∀ r ∈ runesD l, Vr r := runesG_valid _ l
theorem runesG_len : ∀ (n : Nat) (l : List UInt8), (runesG n l).length ≤ n
  | 0, _ => Nat.le_refl _
  | n + 1, l => by
    unfold runesG
    split
    · exact Nat.zero_le _
    · have := runesG_len n (l.drop (decodeL l).2)
      simpa using this
theorem runesD_len (l : List UInt8) : (runesD l).length ≤ l.length := runesG_len _ l

def encR (r : Nat) : List UInt8 := encodeRune (r : Int)
def enc (rs : List Nat) : List UInt8 := rs.flatMap encR
theorem enc_nil : enc [] = [] := rfl
theorem enc_cons (r : Nat) (rs : List Nat) : enc (r :: rs) = encR r ++ enc rs := rfl
theorem enc_append (a b : List Nat) : enc (a ++ b) = enc a ++ enc b := by simp [enc]
theorem encR_len (r : Nat) : 1 ≤ (encR r).length ∧ (encR r).length ≤ 4 := by
  have := encodeRuneZ_length r
  simpa [encR, encodeRune] using this
theorem enc_len (rs : List Nat) : rs.length ≤ (enc rs).length ∧ (enc rs).length ≤ 4 * rs.length := by
  induction rs with
  | nil => simp [enc]
  | cons r rs ih =>
    have := encR_len r
    rw [enc_cons, List.length_append, List.length_cons]
    omega

theorem byte_toNat {z : Int} (h0 : 0 ≤ z) (h1 : z < 256) : ((z.toNat.toUInt8).toNat : Int) = z := by
  have h : (z.toNat.toUInt8).toNat = z.toNat := by
    rw [Nat.toUInt8, UInt8.toNat_ofNat']
    exact Nat.mod_eq_of_lt (by omega)
  rw [h]
  omega

/-- a rune's bytes are read as that rune. -/
theorem decode_enc (r : Nat) (h : Vr r) (t : List UInt8) : decodeL (encR r ++ t) = (r, (encR r).length) := by
  rw [decodeL_N]
  unfold Vr at h
  unfold encR encodeRune
  by_cases c1 : r ≤ 127
  · rw [encodeRuneZ_one (by omega) (by omega)]
    have e0 := byte_toNat (z := (r : Int)) (by omega) (by omega)
    simp only [List.map_cons, List.map_nil, List.cons_append, List.nil_append, List.getD_cons_zero, List.length_cons, List.length_nil]
    rw [decodeN, if_pos (by omega)]
    ext <;> simp only <;> omega
  by_cases c2 : r ≤ 2047
  · rw [encodeRuneZ_two (by omega) (by omega)]
    have e0 := byte_toNat (z := 192 + (r : Int) / 64) (by omega) (by omega)
    have e1 := byte_toNat (z := 128 + (r : Int) % 64) (by omega) (by omega)
    simp only [List.map_cons, List.map_nil, List.cons_append, List.nil_append, List.getD_cons_zero, List.getD_cons_succ, List.length_cons, List.length_nil]
    rw [decodeN, if_neg (by omega), if_pos (by omega), if_pos (by omega)]
    ext <;> simp only <;> omega
  by_cases c3 : r ≤ 65535
  · rw [encodeRuneZ_three (by omega)]
    have e0 := byte_toNat (z := 224 + (r : Int) / 4096) (by omega) (by omega)
    have e1 := byte_toNat (z := 128 + (r : Int) / 64 % 64) (by omega) (by omega)
    have e2 := byte_toNat (z := 128 + (r : Int) % 64) (by omega) (by omega)
    simp only [List.map_cons, List.map_nil, List.cons_append, List.nil_append, List.getD_cons_zero, List.getD_cons_succ, List.length_cons, List.length_nil]
    rw [decodeN, if_neg (by omega), if_neg (by omega), if_pos (by omega), if_pos (by omega)]
    ext <;> simp only <;> omega
  · rw [encodeRuneZ_four (by omega) (by omega)]
    have e0 := byte_toNat (z := 240 + (r : Int) / 262144) (by omega) (by omega)
    have e1 := byte_toNat (z := 128 + (r : Int) / 4096 % 64) (by omega) (by omega)
    have e2 := byte_toNat (z := 128 + (r : Int) / 64 % 64) (by omega) (by omega)
    have e3 := byte_toNat (z := 128 + (r : Int) % 64) (by omega) (by omega)
    simp only [List.map_cons, List.map_nil, List.cons_append, List.nil_append, List.getD_cons_zero, List.getD_cons_succ, List.length_cons, List.length_nil]
    rw [decodeN, if_neg (by omega), if_neg (by omega), if_neg (by omega), if_pos (by omega), if_pos (by omega)]
    ext <;> simp only <;> omega

theorem encR_ne (r : Nat) : encR r ≠ [] := fun e => by
  have := encR_len r
  rw [e] at this
  simp at this
theorem runesD_enc : ∀ (rs : List Nat), (∀ r ∈ rs, Vr r) → ∀ t, runesD (enc rs ++ t) = rs ++ runesD t
  | [], _, t => rfl
  | r :: rs, h, t => by
    have hr : Vr r := h r (by simp)
    have e : enc (r :: rs) ++ t = encR r ++ (enc rs ++ t) := by rw [enc_cons, List.append_assoc]
    have hne : encR r ++ (enc rs ++ t) ≠ [] := fun e => encR_ne r (List.append_eq_nil_iff.1 e).1
    rw [e, runesD_step _ hne, decode_enc r hr]
    simp only [List.drop_left']
    rw [runesD_enc rs (fun x hx => h x (by simp [hx])) t]
    rfl
theorem runesD_enc' (rs : List Nat) (h : ∀ r ∈ rs, Vr r) : runesD (enc rs) = rs := by
  have := runesD_enc rs h []
  simpa [runesD_nil] using this
theorem enc_inj {a b : List Nat} (ha : ∀ r ∈ a, Vr r) (hb : ∀ r ∈ b, Vr r) (h : enc a = enc b) : a = b := by
  rw [← runesD_enc' a ha, h, runesD_enc' b hb]

/-! ### folding -/
def foldR (c : Nat) : Nat :=
  if (65 ≤ c ∧ c ≤ 90) ∨ (192 ≤ c ∧ c ≤ 222 ∧ c ≠ 215) ∨ (913 ≤ c ∧ c ≤ 937 ∧ c ≠ 930) ∨ (1040 ≤ c ∧ c ≤ 1071) then c + 32
  else if 1024 ≤ c ∧ c ≤ 1039 then c + 80 else c
theorem foldR_valid {c : Nat} (h : Vr c) : Vr (foldR c) := by
  unfold Vr at *
  unfold foldR
  split
  · omega
  · split <;> omega
theorem foldR_idem (c : Nat) : foldR (foldR c) = foldR c := by
  unfold foldR
  repeat' split
  all_goals omega
def folds (l : List UInt8) : List Nat := (runesD l).map foldR
theorem folds_valid (l : List UInt8) : ∀ r ∈ folds l, Vr r := by
  intro r hr
  obtain ⟨x, hx, rfl⟩ := List.mem_map.1 hr
  exact foldR_valid (runesD_valid l x hx)
def foldS (l : List UInt8) : List UInt8 := enc (folds l)

/-! ### words -/
def letterR (c : Nat) : Bool := if c < 192 then (decide (97 ≤ c ∧ c ≤ 122 ∨ 48 ≤ c ∧ c ≤ 57)) else !decide (c = 215 ∨ c = 247 ∨ c = 65533 ∨ (8192 ≤ c ∧ c ≤ 8303) ∨ (12288 ≤ c ∧ c ≤ 12351))

/-- the runs of letters; 'cur': the one that is under way. -/
def splitW : List Nat → List Nat → List (List Nat)
  | cur, [] => if cur = [] then [] else [cur]
  | cur, r :: t => if letterR r then splitW (cur ++ [r]) t else (if cur = [] then [] else [cur]) ++ splitW [] t
def wordsR (rs : List Nat) : List (List Nat) := (splitW [] rs).map (·.take 32)
def wordsL (l : List UInt8) : List (List UInt8) := (wordsR (folds l)).map enc
def wordsB (s : ByteArray) : List ByteArray := (wordsL s.data.toList).map fun w => ⟨w.toArray⟩

theorem splitW_letters : ∀ (rs cur : List Nat), (∀ r ∈ cur, letterR r = true) → ∀ w ∈ splitW cur rs, w ≠ [] ∧ ∀ r ∈ w, letterR r = true
  | [], cur, hc, w, hw => by
    unfold splitW at hw
    split at hw
    · cases hw
    · rename_i hne
      simp only [List.mem_singleton] at hw
      subst hw
      exact ⟨hne, hc⟩
  | r :: t, cur, hc, w, hw => by
    unfold splitW at hw
    split at hw
    · rename_i hl
      exact splitW_letters t _ (fun x hx => by
        rcases List.mem_append.1 hx with hx | hx
        · exact hc x hx
        · simp at hx
          subst hx
          exact hl) w hw
    · rcases List.mem_append.1 hw with hw | hw
      · split at hw
        · cases hw
        · rename_i hne
          simp only [List.mem_singleton] at hw
          subst hw
          exact ⟨hne, hc⟩
      · exact splitW_letters t [] (fun x hx => by cases hx) w hw
theorem splitW_mem : ∀ (rs cur : List Nat), ∀ w ∈ splitW cur rs, ∀ r ∈ w, r ∈ cur ∨ r ∈ rs
  | [], cur, w, hw, r, hr => by
    unfold splitW at hw
    split at hw
    · cases hw
    · simp only [List.mem_singleton] at hw
      subst hw
      exact .inl hr
  | a :: t, cur, w, hw, r, hr => by
    unfold splitW at hw
    split at hw
    · rcases splitW_mem t _ w hw r hr with h | h
      · rcases List.mem_append.1 h with h | h
        · exact .inl h
        · simp at h
          subst h
          exact .inr (by simp)
      · exact .inr (by simp [h])
    · rcases List.mem_append.1 hw with hw | hw
      · split at hw
        · cases hw
        · simp only [List.mem_singleton] at hw
          subst hw
          exact .inl hr
      · rcases splitW_mem t [] w hw r hr with h | h
        · cases h
        · exact .inr (by simp [h])
end Go.Proofs.Ytnnfgbnnodcepaa
