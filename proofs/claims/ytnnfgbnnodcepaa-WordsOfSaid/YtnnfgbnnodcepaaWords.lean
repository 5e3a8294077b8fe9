/-
  Words of texts: the code's way (fields, then their beginnings) and the laws of texts joined. Plain lemmas; no program in sight; no condition.
-/
import Derived.Test.YtnnfgbnnodcepaaUtf
import Derived.Lib.Strings
import Derived.Lib.TrimAscii
namespace Go.Proofs.Ytnnfgbnnodcepaa
open Go.Lib

abbrev bys (s : ByteArray) : List UInt8 := s.data.toList
def ofB (l : List UInt8) : ByteArray := ⟨l.toArray⟩
theorem bys_ofB (l : List UInt8) : bys (ofB l) = l := rfl
theorem ofB_bys (s : ByteArray) : ofB (bys s) = s := rfl
theorem ofB_inj {a b : List UInt8} (h : ofB a = ofB b) : a = b := by
  have := congrArg bys h
  exact this
theorem bys_inj {a b : ByteArray} (h : bys a = bys b) : a = b := by
  have := congrArg ofB h
  exact this
theorem size_bys (s : ByteArray) : s.size = (bys s).length := (Array.length_toList (xs := s.data)).symm

def extr (s : ByteArray) (x : Nat × Nat) : ByteArray := s.extract x.1 x.2
theorem extr_mid (s : ByteArray) (a b c : List UInt8) (h : bys s = a ++ b ++ c) : extr s (a.length, a.length + b.length) = ofB b := by
  apply bys_inj
  show (s.extract a.length (a.length + b.length)).data.toList = b
  rw [extract_data, show s.data.toList = a ++ b ++ c from h]
  simp [List.append_assoc]

theorem fields_go (s : ByteArray) : ∀ (rest cur done : List Nat) (acc : List (Nat × Nat)) (fuel : Nat) (st : Option Nat),
    (∀ r ∈ rest, Vr r) → bys s = enc done ++ enc cur ++ enc rest → (enc rest).length ≤ fuel → st = (if cur = [] then none else some (enc done).length) →
    (closeSpans s (spansFromP (fun r => !letterR r) s fuel ((enc done).length + (enc cur).length) st acc)).map (extr s) = acc.map (extr s) ++ (splitW cur rest).map (fun w => ofB (enc w))
  | [], cur, done, acc, fuel, st, _, hs, _, hst => by
    have hsz : s.size = (enc done).length + (enc cur).length := by
      rw [size_bys, hs]
      simp [enc_nil]
    rw [spansFromP_end _ _ _ _ _ _ (by omega)]
    subst hst
    by_cases hc : cur = []
    · subst hc
      simp [closeSpans, splitW]
    · have h1 : splitW cur [] = [cur] := by simp [splitW, hc]
      rw [h1]
      simp only [if_neg hc, closeSpans, List.map_append, List.map_cons, List.map_nil]
      rw [hsz, extr_mid s (enc done) (enc cur) [] (by rw [hs]; simp [enc_nil])]
  | r :: t, cur, done, acc, fuel, st, hv, hs, hf, hst => by
    have hl := encR_len r
    have hv' : ∀ x ∈ t, Vr x := fun x hx => hv x (by simp [hx])
    rw [enc_cons, List.length_append] at hf
    obtain ⟨f, rfl⟩ : ∃ f, fuel = f + 1 := ⟨fuel - 1, by omega⟩
    have hsz : s.size = (enc done).length + (enc cur).length + ((encR r).length + (enc t).length) := by
      rw [size_bys, hs]
      simp [enc_cons]
      omega
    have hdec : Utf8.decode s ((enc done).length + (enc cur).length) = (r, (encR r).length) := by
      rw [← decodeL_drop, show s.data.toList = enc done ++ enc cur ++ enc (r :: t) from hs, enc_cons]
      rw [show (enc done).length + (enc cur).length = (enc done ++ enc cur).length by simp, List.drop_left']
      · exact decode_enc r (hv r (by simp)) _
      · rfl
    simp only [spansFromP]
    rw [if_pos (by omega), hdec]
    subst hst
    rcases (by cases letterR r <;> simp : letterR r = true ∨ letterR r = false) with hlr | hlr
    · simp only [hlr]
      have h1 : splitW cur (r :: t) = splitW (cur ++ [r]) t := by simp [splitW, hlr]
      have e1 : enc (cur ++ [r]) = enc cur ++ encR r := by simp [enc]
      have hs' : bys s = enc done ++ enc (cur ++ [r]) ++ enc t := by rw [hs, e1, enc_cons]; simp
      have ih := fun st => fields_go s t (cur ++ [r]) done acc f st hv' hs' (by omega)
      rw [e1, List.length_append, ← Nat.add_assoc] at ih
      simp only [Bool.not_true, Bool.false_eq_true, if_false, h1]
      by_cases hc : cur = []
      · subst hc
        simp only [if_true, enc_nil, List.length_nil, Nat.add_zero] at ih ⊢
        exact ih _ (by simp)
      · simp only [if_neg hc] at ih ⊢
        exact ih _ (by simp)
    · simp only [hlr]
      simp only [Bool.not_false, if_true]
      by_cases hc : cur = []
      · subst hc
        have h1 : splitW [] (r :: t) = splitW [] t := by simp [splitW, hlr]
        have hs' : bys s = enc (done ++ [r]) ++ enc [] ++ enc t := by rw [hs, enc_append, enc_cons]; simp [enc]
        have ih := fields_go s t [] (done ++ [r]) acc f none hv' hs' (by omega) (by simp)
        have e1 : (enc (done ++ [r])).length + (enc ([] : List Nat)).length = (enc done).length + (enc ([] : List Nat)).length + (encR r).length := by simp [enc]
        rw [e1] at ih
        simp only [if_true, h1]
        exact ih
      · have h1 : splitW cur (r :: t) = cur :: splitW [] t := by simp [splitW, hlr, hc]
        have hs' : bys s = enc (done ++ cur ++ [r]) ++ enc [] ++ enc t := by rw [hs, enc_append, enc_append, enc_cons]; simp [enc]
        have ih := fields_go s t [] (done ++ cur ++ [r]) (acc ++ [((enc done).length, (enc done).length + (enc cur).length)]) f none hv' hs' (by omega) (by simp)
        have e1 : (enc (done ++ cur ++ [r])).length + (enc ([] : List Nat)).length = (enc done).length + (enc cur).length + (encR r).length := by simp [enc]; omega
        rw [e1] at ih
        simp only [if_neg hc, h1]
        rw [ih]
        simp only [List.map_append, List.map_cons, List.map_nil, List.append_assoc, List.singleton_append]
        rw [extr_mid s (enc done) (enc cur) (enc (r :: t)) hs]

/-- the fields of a text of valid runes. -/
theorem fields_enc (rs : List Nat) (hv : ∀ r ∈ rs, Vr r) : goFieldsP (fun r => !letterR r) (ofB (enc rs)) = (splitW [] rs).map fun w => ofB (enc w) := by
  have := fields_go (ofB (enc rs)) rs [] [] [] (ofB (enc rs)).size none hv rfl (by rw [size_bys, bys_ofB]; exact Nat.le_refl _) rfl
  simp only [enc_nil, List.length_nil, Nat.add_zero, List.map_nil, List.nil_append] at this
  exact this

/-! ### what words are -/

theorem wordsR_mem {rs : List Nat} {w : List Nat} (h : w ∈ wordsR rs) : w ≠ [] ∧ (∀ r ∈ w, letterR r = true) ∧ w.length ≤ 32 ∧ ∀ r ∈ w, r ∈ rs := by
  obtain ⟨x, hx, rfl⟩ := List.mem_map.1 h
  obtain ⟨h1, h2⟩ := splitW_letters rs [] (fun _ h => by cases h) x hx
  refine ⟨fun e => ?_, fun r hr => h2 r (List.mem_of_mem_take hr), by simp; omega, fun r hr => ?_⟩
  · have := List.take_eq_nil_iff.1 e
    simp [h1] at this
  · rcases splitW_mem rs [] x hx r (List.mem_of_mem_take hr) with h | h
    · cases h
    · exact h

theorem splitW_run : ∀ (w cur t : List Nat), (∀ r ∈ w, letterR r = true) → splitW cur (w ++ t) = splitW (cur ++ w) t
  | [], cur, t, _ => by simp
  | r :: w, cur, t, h => by
    have h1 := h r (by simp)
    rw [List.cons_append]
    simp only [splitW, h1, if_true]
    rw [splitW_run w (cur ++ [r]) t fun x hx => h x (by simp [hx])]
    simp
/-- a text, a rune that is no letter, a text. -/
theorem splitW_sep : ∀ (a cur b : List Nat) (r : Nat), letterR r = false → splitW cur (a ++ r :: b) = splitW cur a ++ splitW [] b
  | [], cur, b, r, h => by simp [splitW, h]
  | x :: a, cur, b, r, h => by
    rw [List.cons_append]
    cases hx : letterR x with
    | true =>
      simp only [splitW, hx, if_true]
      exact splitW_sep a _ b r h
    | false =>
      simp only [splitW, hx, Bool.false_eq_true, if_false, List.append_assoc]
      rw [splitW_sep a [] b r h]
theorem wordsR_sep (a b : List Nat) (r : Nat) (h : letterR r = false) : wordsR (a ++ r :: b) = wordsR a ++ wordsR b := by
  simp [wordsR, splitW_sep a [] b r h]


theorem decodeN_same {n m b0 b1 b2 b3 c1 c2 c3 : Nat} (h1 : (1 < n ∧ b1 / 64 = 2) ∧ (1 < m ∧ c1 / 64 = 2) ∧ b1 = c1 ∨ ¬ (1 < n ∧ b1 / 64 = 2) ∧ ¬ (1 < m ∧ c1 / 64 = 2))
    (h2 : (2 < n ∧ b2 / 64 = 2) ∧ (2 < m ∧ c2 / 64 = 2) ∧ b2 = c2 ∨ ¬ (2 < n ∧ b2 / 64 = 2) ∧ ¬ (2 < m ∧ c2 / 64 = 2) ∨ (¬ (1 < n ∧ b1 / 64 = 2) ∧ ¬ (1 < m ∧ c1 / 64 = 2)))
    (h3 : (3 < n ∧ b3 / 64 = 2) ∧ (3 < m ∧ c3 / 64 = 2) ∧ b3 = c3 ∨ ¬ (3 < n ∧ b3 / 64 = 2) ∧ ¬ (3 < m ∧ c3 / 64 = 2) ∨ (¬ (2 < n ∧ b2 / 64 = 2) ∧ ¬ (2 < m ∧ c2 / 64 = 2)) ∨ (¬ (1 < n ∧ b1 / 64 = 2) ∧ ¬ (1 < m ∧ c1 / 64 = 2))) :
    decodeN n b0 b1 b2 b3 = decodeN m b0 c1 c2 c3 := by
  unfold decodeN
  rcases h1 with ⟨p1, q1, rfl⟩ | ⟨p1, q1⟩
  · rcases h2 with ⟨p2, q2, rfl⟩ | ⟨p2, q2⟩ | ⟨p2, q2⟩
    · rcases h3 with ⟨p3, q3, rfl⟩ | ⟨p3, q3⟩ | ⟨p3, q3⟩ | ⟨p3, q3⟩
      · simp only [p1, q1, p2, q2, p3, q3]
      · simp only [p1, q1, p2, q2, p3, q3, and_false, if_false]
      · exact absurd p2 p3
      · exact absurd p1 p3
    · simp only [p1, q1, p2, q2]
      simp
    · exact absurd p1 p2
  · simp only [p1, q1]
    simp

/-- a byte below 128 is no part of the rune ahead. -/
theorem decodeL_ascii_tail (a : List UInt8) (hne : a ≠ []) (c : UInt8) (hc : c.toNat < 128) (b : List UInt8) : decodeL (a ++ c :: b) = decodeL a := by
  rw [decodeL_N, decodeL_N]
  match a, hne with
  | [x], _ =>
    simp only [List.cons_append, List.nil_append, List.getD_cons_zero, List.getD_cons_succ, List.getD_nil, List.length_cons, List.length_nil]
    exact decodeN_same (.inr ⟨by omega, by omega⟩) (.inr (.inr ⟨by omega, by omega⟩)) (.inr (.inr (.inr ⟨by omega, by omega⟩)))
  | [x, y], _ =>
    simp only [List.cons_append, List.nil_append, List.getD_cons_zero, List.getD_cons_succ, List.getD_nil, List.length_cons, List.length_nil]
    exact decodeN_same (by omega) (.inr (.inl ⟨by omega, by omega⟩)) (.inr (.inr (.inl ⟨by omega, by omega⟩)))
  | [x, y, z], _ =>
    simp only [List.cons_append, List.nil_append, List.getD_cons_zero, List.getD_cons_succ, List.getD_nil, List.length_cons, List.length_nil]
    exact decodeN_same (by omega) (by omega) (.inr (.inl ⟨by omega, by omega⟩))
  | x :: y :: z :: u :: l, _ =>
    simp only [List.cons_append, List.getD_cons_zero, List.getD_cons_succ, List.length_cons, List.length_append]
    exact decodeN_same (by omega) (by omega) (by omega)

theorem runesD_ascii (a b : List UInt8) (c : UInt8) (hc : c.toNat < 128) : runesD (a ++ c :: b) = runesD a ++ c.toNat :: runesD b := by
  have hcb : runesD (c :: b) = c.toNat :: runesD b := by
    rw [runesD_step _ (by simp), decodeL_ascii c b hc]
    rfl
  generalize hn : a.length = n
  induction n using Nat.strongRecOn generalizing a with
  | ind n ih =>
    by_cases hne : a = []
    · subst hne
      rw [List.nil_append, hcb, runesD_nil, List.nil_append]
    · have hw := decodeL_width a
      have hle := decodeL_le a hne
      have hl : 0 < a.length := List.length_pos_iff.2 hne
      rw [runesD_step (a ++ c :: b) (by simp), decodeL_ascii_tail a hne c hc b, runesD_step a hne, List.drop_append_of_le_length hle, ih _ (by rw [List.length_drop]; omega) _ rfl]
      rfl
theorem folds_ascii (a b : List UInt8) (c : UInt8) (hc : c.toNat < 128) : folds (a ++ c :: b) = folds a ++ foldR c.toNat :: folds b := by
  simp [folds, runesD_ascii a b c hc]
/-- the words of two texts with a blank between. -/
theorem wordsL_blank (a b : List UInt8) : wordsL (a ++ 32 :: b) = wordsL a ++ wordsL b := by
  unfold wordsL
  rw [folds_ascii a b 32 (by decide)]
  have : foldR (32 : UInt8).toNat = 32 := by decide
  rw [this, wordsR_sep _ _ _ (by decide), List.map_append]

/-- a letter that is folded is folded already. -/
theorem folds_enc {w : List Nat} (hv : ∀ r ∈ w, Vr r) (hf : ∀ r ∈ w, foldR r = r) : folds (enc w) = w := by
  rw [folds, runesD_enc' w hv]
  exact (List.map_congr_left hf).trans (List.map_id _)
theorem wordsL_one {w : List Nat} (hne : w ≠ []) (hv : ∀ r ∈ w, Vr r) (hf : ∀ r ∈ w, foldR r = r) (hl : ∀ r ∈ w, letterR r = true) (h32 : w.length ≤ 32) : wordsL (enc w) = [enc w] := by
  unfold wordsL
  rw [folds_enc hv hf, wordsR]
  have : splitW [] w = [w] := by
    have := splitW_run w [] [] hl
    rw [List.append_nil] at this
    rw [this]
    simp [splitW, hne]
  rw [this]
  simp [List.take_of_length_le h32]
/-- each word of a text is its own only word. -/
theorem wordsL_own {l x : List UInt8} (h : x ∈ wordsL l) : wordsL x = [x] := by
  obtain ⟨w, hw, rfl⟩ := List.mem_map.1 h
  obtain ⟨h1, h2, h3, h4⟩ := wordsR_mem hw
  refine wordsL_one h1 (fun r hr => folds_valid l r (h4 r hr)) (fun r hr => ?_) h2 h3
  obtain ⟨y, -, rfl⟩ := List.mem_map.1 (h4 r hr)
  exact foldR_idem y
/-- blank, word; blank, word; .. -/
def joinW (l : List (List UInt8)) : List UInt8 := l.flatMap fun w => 32 :: w
theorem wordsL_nil : wordsL [] = [] := rfl
theorem wordsL_cons_blank (a : List UInt8) : wordsL (32 :: a) = wordsL a := by
  have := wordsL_blank [] a
  rwa [List.nil_append, wordsL_nil, List.nil_append] at this
theorem wordsL_join : ∀ (l : List (List UInt8)), (∀ x ∈ l, wordsL x = [x]) → ∀ a, wordsL (a ++ joinW l) = wordsL a ++ l
  | [], _, a => by simp [joinW]
  | x :: l, h, a => by
    have e : a ++ joinW (x :: l) = a ++ 32 :: (x ++ joinW l) := by simp [joinW]
    rw [e, wordsL_blank, wordsL_join l (fun y hy => h y (by simp [hy])) x, h x (by simp)]
    rfl

/-! ### sets -/
theorem takeEnc (n : Nat) (rs : List Nat) : enc (rs.take n) <+: enc rs := by
  conv => rhs; rw [← List.take_append_drop n rs, enc_append]
  exact List.prefix_append _ _
end Go.Proofs.Ytnnfgbnnodcepaa
