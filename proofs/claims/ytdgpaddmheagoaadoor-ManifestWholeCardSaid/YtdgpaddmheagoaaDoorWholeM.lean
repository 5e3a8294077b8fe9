/-
  The plain law of a switch that a power cut stops: the list is whole, the old or the new. No program in sight.
-/
import Derived.Test.YtdgpaddmheagoaaDoorMH
namespace Go.Proofs.YtdgpaddmheagoaaDoor
open Go.RowKit

theorem sNext_ok : nameOk sNext = true := by decide +kernel
theorem sList_ok : nameOk sList = true := by decide +kernel
theorem sLN : sList ≠ sNext := by decide
theorem sNL : sNext ≠ sList := by decide
theorem sLN_lt : ltN sList sNext := by decide
theorem sNL_lt : ¬ ltN sNext sList := by decide

theorem deed_no (L : List Fil) (q : Int) (k : Nat) : (⟨L, q, 0, false, k⟩ : Dsk).deed = (⟨L, q, 0, true, k⟩, 30) := by simp [Dsk.deed]
theorem deed_yes (L : List Fil) (q n : Int) (k : Nat) (h : n ≠ 0) : (⟨L, q, n, false, k⟩ : Dsk).deed = (⟨L, q, max (n - 1) (-1), false, k + 1⟩, 0) := by simp [Dsk.deed, h]

/-- the disk as a first switch leaves it. -/
def dOne (x : List UInt8) (n : Int) : Dsk := ⟨[⟨sList, x, x.length⟩], 1048576, n, false, 3⟩

theorem sw_first (x : List UInt8) (hx : x.length ≤ 404) : swDsk (dsk0 1048576) x = (dOne x (-1), 0) := by
  have h1 : (dsk0 1048576).delete sNext = (dsk0 1048576, 4) := by simp [Dsk.delete, Dsk.there, dsk0, findF]
  have h2 : (dsk0 1048576).append sNext x = (⟨[⟨sNext, x, 0⟩], 1048576, -1, false, 1⟩, 0) := by
    have hq : ¬ ((1048576 : Int) < (x.length : Int)) := by omega
    simp [Dsk.append, dsk0, sNext_ok, Dsk.full, Dsk.appendTo, findF, putF, usedL, hq, Dsk.deed]
    try decide
  have h3 : (⟨[⟨sNext, x, 0⟩], 1048576, -1, false, 1⟩ : Dsk).sync sNext = (⟨[⟨sNext, x, x.length⟩], 1048576, -1, false, 2⟩, 0) := by
    have := ltN_irrefl sNext
    simp [Dsk.sync, Dsk.there, findF, Dsk.deed, Dsk.syncTo, putF, this]
    try decide
  have h4 : (⟨[⟨sNext, x, x.length⟩], 1048576, -1, false, 2⟩ : Dsk).rename sNext sList = (dOne x (-1), 0) := by
    simp [Dsk.rename, Dsk.there, findF, Dsk.deed, Dsk.renameTo, putF, delF, sList_ok, dOne]
    try decide
  unfold swDsk
  rw [h1]
  simp only [swFrom, swStep, h2, h3, h4]
  simp

theorem sw_second (x y : List UInt8) (n : Int) (hx : x.length ≤ 404) (hy : y.length ≤ 404) (hn : 0 ≤ n) :
    ∃ L n' o k, swDsk (dOne x n) y = (⟨L, 1048576, n', o, k⟩, if n < 3 then 30 else 0) ∧ (L = [⟨sList, x, x.length⟩] ∨ (∃ s, L = [⟨sList, x, x.length⟩, ⟨sNext, y, s⟩]) ∨ L = [⟨sList, y, y.length⟩]) ∧ (L = [⟨sList, y, y.length⟩] ∨ n < 3) ∧ k ≤ 6 := by
  have h1 : (dOne x n).delete sNext = (dOne x n, 4) := by simp [Dsk.delete, Dsk.there, dOne, findF, sLN]
  have h2 : (dOne x n).append sNext y = (⟨[⟨sList, x, x.length⟩, ⟨sNext, y, 0⟩], 1048576, n, false, 3⟩ : Dsk).deed := by
    have hq : ¬ ((1048576 : Int) < (x.length : Int) + (y.length : Int)) := by omega
    simp [Dsk.append, dOne, sNext_ok, Dsk.full, Dsk.appendTo, findF, putF, usedL, hq, sLN, sLN_lt]
  have h3 : ∀ m k, (⟨[⟨sList, x, x.length⟩, ⟨sNext, y, 0⟩], 1048576, m, false, k⟩ : Dsk).sync sNext = if m = 0 then (⟨[⟨sList, x, x.length⟩, ⟨sNext, y, 0⟩], 1048576, m, true, k⟩, 30) else (⟨[⟨sList, x, x.length⟩, ⟨sNext, y, y.length⟩], 1048576, max (m - 1) (-1), false, k + 1⟩, 0) := by
    intro m k
    have := ltN_irrefl sNext
    by_cases hm : m = 0
    · simp [Dsk.sync, Dsk.there, findF, Dsk.deed, sLN, hm]
    · simp [Dsk.sync, Dsk.there, findF, Dsk.deed, Dsk.syncTo, putF, this, sLN, sLN_lt, hm]
  have h4 : ∀ m k, (⟨[⟨sList, x, x.length⟩, ⟨sNext, y, y.length⟩], 1048576, m, false, k⟩ : Dsk).rename sNext sList = if m = 0 then (⟨[⟨sList, x, x.length⟩, ⟨sNext, y, y.length⟩], 1048576, m, true, k⟩, 30) else (⟨[⟨sList, y, y.length⟩], 1048576, max (m - 1) (-1), false, k + 1⟩, 0) := by
    intro m k
    have := ltN_irrefl sList
    by_cases hm : m = 0
    · simp [Dsk.rename, Dsk.there, findF, Dsk.deed, sLN, hm, sList_ok]
    · simp [Dsk.rename, Dsk.there, findF, Dsk.deed, Dsk.renameTo, putF, delF, this, sLN, hm, sList_ok]
  unfold swDsk
  rw [h1]
  simp only [swFrom, swStep, h2]
  by_cases n0 : n = 0
  · subst n0
    rw [deed_no]
    exact ⟨[⟨sList, x, x.length⟩, ⟨sNext, y, 0⟩], 0, true, 3, by simp, .inr (.inl ⟨_, rfl⟩), .inr (by omega), by omega⟩
  rw [deed_yes _ _ _ _ n0]
  simp only [h3]
  by_cases n1 : n = 1
  · subst n1
    have e0 : max ((1 : Int) - 1) (-1) = 0 := by decide
    rw [e0]
    exact ⟨[⟨sList, x, x.length⟩, ⟨sNext, y, 0⟩], 0, true, 4, by simp, .inr (.inl ⟨_, rfl⟩), .inr (by omega), by omega⟩
  have e1 : max (n - 1) (-1) = n - 1 := by omega
  rw [e1]
  have e2 : ¬ n - 1 = 0 := by omega
  simp only [e2, if_false, h4]
  by_cases n2 : n = 2
  · subst n2
    have e0 : max ((2 : Int) - 1 - 1) (-1) = 0 := by decide
    simp only [e0, if_true]
    exact ⟨[⟨sList, x, x.length⟩, ⟨sNext, y, y.length⟩], 0, true, 5, by simp, .inr (.inl ⟨_, rfl⟩), .inr (by omega), by omega⟩
  have e3 : max (n - 1 - 1) (-1) = n - 2 := by omega
  rw [e3]
  have e4 : ¬ n - 2 = 0 := by omega
  have e5 : ¬ n < 3 := by omega
  simp only [e4, e5, if_false]
  exact ⟨[⟨sList, y, y.length⟩], max (n - 2 - 1) (-1), false, 6, by simp, .inr (.inr rfl), .inl rfl, by omega⟩

def rdOf (o : Option Man) : Man × Int := match o with | some m => (m, 0) | none => (⟨0, 0, []⟩, 190)
/-- what is read after a power cut. -/
theorem whole_read (x y : List UInt8) (n : Int) (hx : x.length ≤ 404) (hy : y.length ≤ 404) (hn : 0 ≤ n) (ks : List Int) :
    (swDsk (dOne x n) y).2 = (if n < 3 then 30 else 0) ∧ (swDsk (dOne x n) y).1.deeds ≤ 6 ∧ (rdDsk ((swDsk (dOne x n) y).1.crash ks) = rdOf (manGet x) ∧ n < 3 ∨
      rdDsk ((swDsk (dOne x n) y).1.crash ks) = rdOf (manGet y)) := by
  obtain ⟨L, n', o, k, he, hL, hL2, hk⟩ := sw_second x y n hx hy hn
  rw [he]
  refine ⟨rfl, hk, ?_⟩
  rcases hL with rfl | ⟨s, rfl⟩ | rfl
  · rcases hL2 with h | h
    · injection h with h _
      injection h with _ h _
      subst h
      right
      simp [rdDsk, Dsk.crash, crashL, Dsk.there, Dsk.read, findF]
      rfl
    · left
      refine ⟨?_, h⟩
      simp [rdDsk, Dsk.crash, crashL, Dsk.there, Dsk.read, findF]
      rfl
  · left
    refine ⟨?_, ?_⟩
    · simp only [Dsk.crash, crashL, if_true]
      split <;> simp [rdDsk, Dsk.there, Dsk.read, findF] <;> rfl
    · rcases hL2 with h | h
      · injection h with _ h
        cases h
      · exact h
  · right
    simp [rdDsk, Dsk.crash, crashL, Dsk.there, Dsk.read, findF]
    rfl
end Go.Proofs.YtdgpaddmheagoaaDoor
