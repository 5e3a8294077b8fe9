/-
  A set of words: sorted and compacted, or put in one by one: the same list. Plain lemmas; no program in sight; no condition.
-/
import Derived.Test.YtnnfgbnnodcepaaWords
import Derived.Lib.SlicesCompact
namespace Go.Proofs.Ytnnfgbnnodcepaa
open Go.Lib

def SortedW (l : List (List UInt8)) : Prop := l.Pairwise (· < ·)
theorem lt_irr (a : List UInt8) : ¬ a < a := List.lt_irrefl _
theorem SortedW.eq {l l' : List (List UInt8)} (h : SortedW l) (h' : SortedW l') (hm : ∀ x, x ∈ l ↔ x ∈ l') : l = l' := by
  have ne : ∀ {a b : List UInt8}, a < b → a ≠ b := fun hab e => by
    subst e
    exact lt_irr _ hab
  have n1 : l.Nodup := List.Pairwise.imp ne h
  have n2 : l'.Nodup := List.Pairwise.imp ne h'
  exact ((List.perm_ext_iff_of_nodup n1 n2).2 hm).eq_of_pairwise (fun _ _ _ _ hab hba => absurd (List.lt_trans hab hba) (lt_irr _)) h h'

/-- one word, put in at its place, once. -/
def insW (x : List UInt8) : List (List UInt8) → List (List UInt8)
  | [] => [x]
  | y :: t => if y < x then y :: insW x t else if y = x then y :: t else x :: y :: t
def setW (l : List (List UInt8)) : List (List UInt8) := l.foldl (fun o x => insW x o) []
theorem mem_insW (x z : List UInt8) : ∀ l, z ∈ insW x l ↔ z = x ∨ z ∈ l
  | [] => by simp [insW]
  | y :: t => by
    unfold insW
    split
    · rw [List.mem_cons, mem_insW x z t, List.mem_cons]
      constructor
      · rintro (h | h | h)
        · exact .inr (.inl h)
        · exact .inl h
        · exact .inr (.inr h)
      · rintro (h | h | h)
        · exact .inr (.inl h)
        · exact .inl h
        · exact .inr (.inr h)
    · split
      · rename_i e
        subst e
        simp
      · simp
theorem gt_of {a b : List UInt8} (h : ¬ a < b) (hne : a ≠ b) : b < a := by
  by_cases h1 : b < a
  · exact h1
  · exact absurd (List.le_antisymm (List.not_lt.1 h1) (List.not_lt.1 h)) hne
theorem SortedW.ins {x : List UInt8} : ∀ {l : List (List UInt8)}, SortedW l → SortedW (insW x l)
  | [], _ => by simp [insW, SortedW]
  | y :: t, h => by
    obtain ⟨h1, h2⟩ := List.pairwise_cons.1 h
    unfold insW
    split
    · rename_i hlt
      refine List.pairwise_cons.2 ⟨fun z hz => ?_, SortedW.ins h2⟩
      rcases (mem_insW x z t).1 hz with rfl | hz
      · exact hlt
      · exact h1 z hz
    · rename_i hlt
      split
      · exact h
      · rename_i hne
        have hg := gt_of hlt hne
        refine List.pairwise_cons.2 ⟨fun z hz => ?_, h⟩
        rcases List.mem_cons.1 hz with rfl | hz
        · exact hg
        · exact List.lt_trans hg (h1 z hz)
theorem setW_go : ∀ (l o : List (List UInt8)), SortedW o → SortedW (l.foldl (fun o x => insW x o) o) ∧ ∀ z, z ∈ l.foldl (fun o x => insW x o) o ↔ z ∈ l ∨ z ∈ o
  | [], o, h => ⟨h, fun z => by simp⟩
  | x :: l, o, h => by
    obtain ⟨h1, h2⟩ := setW_go l (insW x o) h.ins
    refine ⟨h1, fun z => ?_⟩
    simp only [List.foldl_cons]
    rw [h2, mem_insW, List.mem_cons]
    constructor
    · rintro (h | h | h)
      · exact .inl (.inr h)
      · exact .inl (.inl h)
      · exact .inr h
    · rintro ((h | h) | h)
      · exact .inr (.inl h)
      · exact .inl h
      · exact .inr (.inr h)
theorem setW_sorted (l : List (List UInt8)) : SortedW (setW l) := (setW_go l [] List.Pairwise.nil).1
theorem mem_setW (l : List (List UInt8)) (z : List UInt8) : z ∈ setW l ↔ z ∈ l := by
  rw [setW, (setW_go l [] List.Pairwise.nil).2]
  simp

theorem compact_sorted (l : List (List UInt8)) (h : l.Pairwise (· ≤ ·)) : SortedW (compact l) := by
  unfold compact compactUpTo SortedW
  rw [List.pairwise_map]
  have hr : ((List.range l.length).filter (keeps l.toArray)).Pairwise (· < ·) := List.pairwise_lt_range.filter _
  refine hr.imp_of_mem ?_
  intro i j hi hj hij
  rw [List.mem_filter, List.mem_range] at hi hj
  obtain ⟨hj1, hj2⟩ := hj
  have hne : l.toArray[j]! ≠ l.toArray[j - 1]! := by
    have : j ≠ 0 := by omega
    simpa [keeps, this] using hj2
  have e1 : l.toArray[j]! = l[j] := by rw [getElem!_pos _ _ (by simpa using hj1)]; rfl
  have e2 : l.toArray[j - 1]! = l[j - 1]'(by omega) := by rw [getElem!_pos _ _ (by simp; omega)]; rfl
  have e3 : l.toArray[i]! = l[i]'(by omega) := by rw [getElem!_pos _ _ (by simp; omega)]; rfl
  rw [e1, e2] at hne
  rw [e1, e3]
  have le1 : l[j - 1]'(by omega) ≤ l[j] := List.pairwise_iff_getElem.1 h (j - 1) j (by omega) hj1 (by omega)
  have lt1 : l[j - 1]'(by omega) < l[j] := gt_of (List.not_lt.2 le1) hne
  by_cases hij2 : i = j - 1
  · subst hij2
    exact lt1
  · have le2 : l[i]'(by omega) ≤ l[j - 1]'(by omega) := List.pairwise_iff_getElem.1 h i (j - 1) (by omega) (by omega) (by omega)
    exact List.lt_of_le_of_lt le2 lt1
theorem mem_compact (l : List (List UInt8)) (z : List UInt8) : z ∈ compact l ↔ z ∈ l := by
  unfold compact compactUpTo
  rw [List.mem_map]
  constructor
  · rintro ⟨j, hj, rfl⟩
    rw [List.mem_filter, List.mem_range] at hj
    rw [getElem!_pos _ _ (by simpa using hj.1)]
    exact List.getElem_mem _
  · intro hz
    obtain ⟨i, hi, rfl⟩ := List.mem_iff_getElem.1 hz
    induction i using Nat.strongRecOn with
    | ind i ih =>
      by_cases hk : keeps l.toArray i = true
      · exact ⟨i, List.mem_filter.2 ⟨List.mem_range.2 hi, hk⟩, by rw [getElem!_pos _ _ (by simpa using hi)]; rfl⟩
      · have h0 : i ≠ 0 := fun e => by subst e; simp [keeps] at hk
        have h1 : l.toArray[i]! = l.toArray[i - 1]! := by
          simpa [keeps, h0] using hk
        have e1 : l.toArray[i]! = l[i] := by rw [getElem!_pos _ _ (by simpa using hi)]; rfl
        have e2 : l.toArray[i - 1]! = l[i - 1]'(by omega) := by rw [getElem!_pos _ _ (by simp; omega)]; rfl
        rw [e1, e2] at h1
        rw [h1]
        exact ih (i - 1) (by omega) (by omega) (List.getElem_mem _)
/-- SORTED AND COMPACTED IS PUT IN ONE BY ONE. -/
theorem compact_sort (l : List (List UInt8)) : compact (l.mergeSort fun x y => decide (x ≤ y)) = setW l := by
  refine SortedW.eq (compact_sorted _ ?_) (setW_sorted l) fun z => ?_
  · have := List.pairwise_mergeSort (le := fun x y : List UInt8 => decide (x ≤ y)) (fun a b c hab hbc => by
      simp only [decide_eq_true_eq] at *
      exact List.le_trans hab hbc) (fun a b => by
      simp only [Bool.or_eq_true, decide_eq_true_eq]
      exact List.le_total a b) l
    exact this.imp fun {a b} h => by simpa using h
  · rw [mem_compact, mem_setW, List.mem_mergeSort]
/-- where a word stands, or would. -/
def posW (x : List UInt8) : List (List UInt8) → Nat
  | [] => 0
  | y :: t => if y < x then posW x t + 1 else 0
theorem posW_le (x : List UInt8) : ∀ l, posW x l ≤ l.length
  | [] => Nat.le_refl _
  | y :: t => by
    unfold posW
    split
    · have := posW_le x t
      simp only [List.length_cons]
      omega
    · exact Nat.zero_le _
theorem posW_ahead (x : List UInt8) : ∀ (l : List (List UInt8)) (i : Nat) (h : i < l.length), i < posW x l → l[i] < x
  | [], i, h, _ => by simp at h
  | y :: t, i, h, hi => by
    unfold posW at hi
    split at hi
    · rename_i hlt
      cases i with
      | zero => exact hlt
      | succ i => exact posW_ahead x t i (by simpa using h) (by omega)
    · omega
theorem posW_at (x : List UInt8) : ∀ (l : List (List UInt8)) (h : posW x l < l.length), ¬ l[posW x l] < x
  | [], h => by simp at h
  | y :: t, h => by
    by_cases hlt : y < x
    · have e : posW x (y :: t) = posW x t + 1 := by simp [posW, hlt]
      have h' : posW x t < t.length := by rw [e] at h; simpa using h
      have := posW_at x t h'
      simp only [e, List.getElem_cons_succ]
      exact this
    · have e : posW x (y :: t) = 0 := by simp [posW, hlt]
      simp only [e, List.getElem_cons_zero]
      exact hlt
/-- it is there. -/
theorem insW_there (x : List UInt8) : ∀ (l : List (List UInt8)) (h : posW x l < l.length), l[posW x l] = x → insW x l = l
  | [], h, _ => by simp at h
  | y :: t, h, he => by
    by_cases hlt : y < x
    · have e : posW x (y :: t) = posW x t + 1 := by simp [posW, hlt]
      have h' : posW x t < t.length := by rw [e] at h; simpa using h
      simp only [e, List.getElem_cons_succ] at he
      simp [insW, hlt, insW_there x t h' he]
    · have e : posW x (y :: t) = 0 := by simp [posW, hlt]
      simp only [e, List.getElem_cons_zero] at he
      subst he
      simp [insW, lt_irr]
/-- it is not there. -/
theorem insW_new (x : List UInt8) : ∀ (l : List (List UInt8)), (∀ h : posW x l < l.length, l[posW x l] ≠ x) → insW x l = l.take (posW x l) ++ x :: l.drop (posW x l)
  | [], _ => rfl
  | y :: t, he => by
    by_cases hlt : y < x
    · have e : posW x (y :: t) = posW x t + 1 := by simp [posW, hlt]
      have := insW_new x t fun h => by
        have := he (by rw [e]; simpa using h)
        simp only [e, List.getElem_cons_succ] at this
        exact this
      simp [insW, hlt, e, this]
    · have e : posW x (y :: t) = 0 := by simp [posW, hlt]
      have hne : y ≠ x := by
        have := he (by rw [e]; simp)
        simp only [e, List.getElem_cons_zero] at this
        exact this
      simp [insW, hlt, hne, e]
end Go.Proofs.Ytnnfgbnnodcepaa
