/-
  The plain model of a disk (files in order of their names, a quota, deeds until the power goes), and what each call does to it. No program in sight; no condition.
-/
import Derived.Test.YtdgpaddmheagoaaGreatDoorBase
namespace Go.Proofs.YtdgpaddmheagoaaGreatDoor
open Go.RowKit

structure Fil where
  name : ByteArray
  b : List UInt8
  safe : Nat

structure Dsk where
  L : List Fil
  quota : Int
  left : Int
  off : Bool
  deeds : Nat

abbrev bl (s : ByteArray) : List UInt8 := s.data.toList
def ltN (a b : ByteArray) : Prop := bl a < bl b
instance (a b : ByteArray) : Decidable (ltN a b) := inferInstanceAs (Decidable (bl a < bl b))

def signB (c : UInt8) : Bool := (97 ≤ c && c ≤ 122) || (48 ≤ c && c ≤ 57) || c == 46 || c == 45
def nameOk (s : ByteArray) : Bool := (bl s).all signB && decide (1 ≤ s.size) && decide (s.size ≤ 24)

def usedL (L : List Fil) : Nat := (L.map (·.b.length)).sum
def findF (s : ByteArray) : List Fil → Option Fil
  | [] => none
  | f :: r => if f.name = s then some f else findF s r
/-- a file at its place. -/
def putF (f : Fil) : List Fil → List Fil
  | [] => [f]
  | g :: r => if ltN g.name f.name then g :: putF f r else if g.name = f.name then f :: r else f :: g :: r
def delF (s : ByteArray) (L : List Fil) : List Fil := L.filter fun f => decide (f.name ≠ s)

def Dsk.deed (d : Dsk) : Dsk × Int :=
  if d.left = 0 then ({ d with off := true }, 30) else ({ d with left := max (d.left - 1) (-1), deeds := d.deeds + 1 }, 0)

def Dsk.appendTo (d : Dsk) (s : ByteArray) (x : List UInt8) : Dsk :=
  match findF s d.L with
  | some f => { d with L := putF { f with b := f.b ++ x } d.L }
  | none => { d with L := putF ⟨s, x, 0⟩ d.L }
def Dsk.full (d : Dsk) (s : ByteArray) (x : List UInt8) : Bool := decide (findF s d.L = none ∧ 64 ≤ d.L.length ∨ d.quota < usedL d.L + x.length)
def Dsk.append (d : Dsk) (s : ByteArray) (x : List UInt8) : Dsk × Int :=
  if d.off then (d, 30) else if !nameOk s then (d, 31) else if d.full s x then (d, 2) else (d.appendTo s x).deed

def Dsk.there (d : Dsk) (s : ByteArray) : Int := if d.off then 30 else if findF s d.L = none then 4 else 0

def Dsk.syncTo (d : Dsk) (s : ByteArray) : Dsk :=
  match findF s d.L with
  | some f => { d with L := putF { f with safe := f.b.length } d.L }
  | none => d
def Dsk.sync (d : Dsk) (s : ByteArray) : Dsk × Int :=
  if d.there s ≠ 0 then (d, d.there s) else if d.deed.2 ≠ 0 then d.deed else (d.deed.1.syncTo s, 0)

def Dsk.deleteTo (d : Dsk) (s : ByteArray) : Dsk := { d with L := delF s d.L }
def Dsk.delete (d : Dsk) (s : ByteArray) : Dsk × Int :=
  if d.there s ≠ 0 then (d, d.there s) else if d.deed.2 ≠ 0 then d.deed else (d.deed.1.deleteTo s, 0)

def Dsk.renameTo (d : Dsk) (s t : ByteArray) : Dsk :=
  match findF s d.L with
  | some f => { d with L := putF { f with name := t } (delF s d.L) }
  | none => d
def Dsk.rename (d : Dsk) (s t : ByteArray) : Dsk × Int :=
  if d.off then (d, 30) else if !nameOk t then (d, 31) else if d.there s ≠ 0 then (d, d.there s) else if d.deed.2 ≠ 0 then d.deed else (d.deed.1.renameTo s t, 0)

def Dsk.read (d : Dsk) (s : ByteArray) : List UInt8 := if d.there s ≠ 0 then [] else match findF s d.L with | some f => f.b | none => []

def Dsk.stop (d : Dsk) (n : Int) : Dsk × Int := if n < 0 then (d, 1) else ({ d with left := n }, 0)

def Fil.cut (f : Fil) (keep : Int) : Fil :=
  let b := f.b.take (f.safe + min (max keep 0).toNat (f.b.length - f.safe))
  { f with b := b, safe := b.length }
/-- a crash: files in order; those that are not whole use up the numbers. -/
def crashL : List Fil → List Int → List Fil
  | [], _ => []
  | f :: r, ks => if f.safe = f.b.length then f :: crashL r ks else f.cut (ks.headD 0) :: crashL r ks.tail
def Dsk.crash (d : Dsk) (ks : List Int) : Dsk := { d with L := crashL d.L ks, off := false, left := -1 }

/-! ### order -/

theorem ltN_trans {a b c : ByteArray} (h : ltN a b) (k : ltN b c) : ltN a c := List.lt_trans h k
theorem ltN_irrefl (a : ByteArray) : ¬ ltN a a := List.lt_irrefl _
theorem bl_inj {a b : ByteArray} (h : bl a = bl b) : a = b := by
  cases a; cases b
  simp only [bl] at h
  congr
  exact Array.toList_inj.1 h
theorem ltN_total {a b : ByteArray} (h : ¬ ltN a b) (hne : a ≠ b) : ltN b a := by
  by_cases h1 : bl b < bl a
  · exact h1
  · exact absurd (bl_inj (List.le_antisymm (List.not_lt.1 h1) (List.not_lt.1 h))) hne

def SortedF (L : List Fil) : Prop := L.Pairwise fun a b => ltN a.name b.name

theorem SortedF.names_ne {L : List Fil} (h : SortedF L) : L.Pairwise fun a b => a.name ≠ b.name :=
  h.imp fun {a b} hab (e : a.name = b.name) => ltN_irrefl _ (e ▸ hab)

theorem mem_putF {f g : Fil} : ∀ {L : List Fil}, g ∈ putF f L → g = f ∨ g ∈ L
  | [], h => by simp [putF] at h; exact .inl h
  | a :: r, h => by
    unfold putF at h
    split at h
    · rcases List.mem_cons.1 h with h | h
      · exact .inr (by simp [h])
      · rcases mem_putF h with h | h
        · exact .inl h
        · exact .inr (by simp [h])
    · split at h
      · rcases List.mem_cons.1 h with h | h
        · exact .inl h
        · exact .inr (by simp [h])
      · rcases List.mem_cons.1 h with h | h
        · exact .inl h
        · exact .inr h

theorem SortedF.put {f : Fil} : ∀ {L : List Fil}, SortedF L → SortedF (putF f L)
  | [], _ => by simp [putF, SortedF]
  | a :: r, h => by
    obtain ⟨h1, h2⟩ := List.pairwise_cons.1 h
    unfold putF
    split
    · rename_i hlt
      refine List.pairwise_cons.2 ⟨fun g hg => ?_, SortedF.put h2⟩
      rcases mem_putF hg with rfl | hg
      · exact hlt
      · exact h1 g hg
    · rename_i hlt
      split
      · rename_i he
        exact List.pairwise_cons.2 ⟨fun g hg => he ▸ h1 g hg, h2⟩
      · rename_i hne
        have hfa := ltN_total hlt hne
        refine List.pairwise_cons.2 ⟨fun g hg => ?_, h⟩
        rcases List.mem_cons.1 hg with rfl | hg
        · exact hfa
        · exact ltN_trans hfa (h1 g hg)

theorem SortedF.del {L : List Fil} (h : SortedF L) (s : ByteArray) : SortedF (delF s L) := h.filter _

theorem findF_some {s : ByteArray} {f : Fil} : ∀ {L : List Fil}, findF s L = some f → f ∈ L ∧ f.name = s
  | [], h => by simp [findF] at h
  | a :: r, h => by
    unfold findF at h
    split at h
    · rename_i he
      injection h with h
      subst h
      exact ⟨by simp, he⟩
    · obtain ⟨h1, h2⟩ := findF_some h
      exact ⟨by simp [h1], h2⟩
theorem findF_none {s : ByteArray} : ∀ {L : List Fil}, findF s L = none ↔ ∀ f ∈ L, f.name ≠ s
  | [] => by simp [findF]
  | a :: r => by
    unfold findF
    split
    · rename_i he
      simp [he]
    · rename_i he
      rw [findF_none]
      simp [he]
theorem findF_mem {L : List Fil} (h : SortedF L) {f : Fil} (hf : f ∈ L) : findF f.name L = some f := by
  induction L with
  | nil => cases hf
  | cons a r ih =>
    obtain ⟨h1, h2⟩ := List.pairwise_cons.1 h
    unfold findF
    rcases List.mem_cons.1 hf with rfl | hf
    · simp
    · have hne : a.name ≠ f.name := fun e => ltN_irrefl _ (e ▸ h1 f hf)
      rw [if_neg hne]
      exact ih h2 hf

/-- what 'putF' holds: the file, and the others of other names. -/
theorem putF_perm {f : Fil} : ∀ {L : List Fil}, SortedF L → (putF f L).Perm (f :: delF f.name L)
  | [], _ => by simp [putF, delF]
  | a :: r, h => by
    obtain ⟨h1, h2⟩ := List.pairwise_cons.1 h
    unfold putF
    split
    · rename_i hlt
      have hne : a.name ≠ f.name := fun e => ltN_irrefl _ (e ▸ hlt)
      have : delF f.name (a :: r) = a :: delF f.name r := by simp [delF, hne]
      rw [this]
      exact ((putF_perm h2).cons a).trans (List.Perm.swap _ _ _)
    · rename_i hlt
      split
      · rename_i he
        have : delF f.name (a :: r) = r := by
          simp only [delF, List.filter_cons, he, ne_eq, not_true_eq_false, decide_false, Bool.false_eq_true, if_false]
          exact List.filter_eq_self.2 fun g hg => by
            have := h1 g hg
            simp only [ne_eq, decide_eq_true_eq]
            exact fun e => ltN_irrefl _ (he ▸ e ▸ this)
        rw [this]
      · rename_i hne
        have hfa := ltN_total hlt hne
        have : delF f.name (a :: r) = a :: r := by
          refine List.filter_eq_self.2 fun g hg => ?_
          simp only [ne_eq, decide_eq_true_eq]
          rcases List.mem_cons.1 hg with rfl | hg
          · exact hne
          · exact fun e => ltN_irrefl _ (e ▸ ltN_trans hfa (h1 g hg))
        rw [this]

theorem sorted_perm_eq {L L' : List Fil} (h : SortedF L) (h' : SortedF L') (hp : L.Perm L') : L = L' :=
  hp.eq_of_pairwise (fun _ _ _ _ hab hba => absurd (ltN_trans hab hba) (ltN_irrefl _)) h h'

theorem delF_none {s : ByteArray} {L : List Fil} (h : findF s L = none) : delF s L = L :=
  List.filter_eq_self.2 fun f hf => by simpa using findF_none.1 h f hf

theorem usedL_perm {L L' : List Fil} (h : L.Perm L') : usedL L = usedL L' := by
  unfold usedL
  exact (h.map _).sum_nat
end Go.Proofs.YtdgpaddmheagoaaGreatDoor
