/-
  Plain laws of a file's place; the reference's disk with what it writes and what it reads.
-/
import Derived.Test.YthhkblogocoeeaaRefC
namespace Go.Proofs.Ythhkblogocoeeaa
open Go.RowKit

theorem posF_none {s : ByteArray} (f : Fil) (hf : f.name = s) : ∀ {L : List Fil}, findF s L = none → L.take (posF s L) ++ f :: L.drop (posF s L) = putF f L
  | [], _ => rfl
  | a :: r, h => by
    have hne : a.name ≠ s := findF_none.1 h a (by simp)
    have hr : findF s r = none := findF_none.2 fun g hg => findF_none.1 h g (by simp [hg])
    by_cases hlt : ltN a.name s
    · have e : posF s (a :: r) = posF s r + 1 := by simp [posF, hlt]
      have := posF_none f hf hr
      simp only [e, List.take_succ_cons, List.drop_succ_cons, List.cons_append, this, putF]
      rw [hf, if_pos hlt]
    · have e : posF s (a :: r) = 0 := by simp [posF, hlt]
      simp only [e, List.take_zero, List.drop_zero, List.nil_append, putF]
      rw [hf, if_neg hlt, if_neg hne]

theorem posF_some {s : ByteArray} {f : Fil} : ∀ {L : List Fil}, SortedF L → findF s L = some f → L[posF s L]? = some f ∧ L.take (posF s L) ++ L.drop (posF s L + 1) = delF s L ∧
    ∀ f' : Fil, f'.name = s → L.set (posF s L) f' = putF f' L
  | [], _, h => by simp [findF] at h
  | a :: r, hs, h => by
    obtain ⟨h1, h2⟩ := List.pairwise_cons.1 hs
    by_cases hlt : ltN a.name s
    · have e : posF s (a :: r) = posF s r + 1 := by simp [posF, hlt]
      have hne : a.name ≠ s := fun e => ltN_irrefl _ (e ▸ hlt)
      have hr : findF s r = some f := by
        unfold findF at h
        rwa [if_neg hne] at h
      obtain ⟨p1, p2, p3⟩ := posF_some h2 hr
      refine ⟨by rw [e]; simpa using p1, ?_, fun f' hf' => ?_⟩
      · simp only [e, List.take_succ_cons, List.drop_succ_cons, List.cons_append, p2]
        simp [delF, hne]
      · simp only [e, List.set_cons_succ, p3 f' hf', putF]
        rw [hf', if_pos hlt]
    · have e : posF s (a :: r) = 0 := by simp [posF, hlt]
      have he : a.name = s := by
        by_cases he : a.name = s
        · exact he
        · have := ltN_total hlt he
          obtain ⟨q1, q2⟩ := findF_some h
          rcases List.mem_cons.1 q1 with rfl | q1
          · exact q2
          · exact absurd (ltN_trans this (h1 f q1)) (by rw [q2]; exact ltN_irrefl _)
      have hf : f = a := by
        unfold findF at h
        rw [if_pos he] at h
        injection h with h
        exact h.symm
      subst hf
      refine ⟨by rw [e]; rfl, ?_, fun f' hf' => ?_⟩
      · simp only [e, List.take_zero, List.nil_append, List.drop_succ_cons, List.drop_zero, delF, List.filter_cons, he, ne_eq, not_true_eq_false, decide_false, Bool.false_eq_true, if_false]
        exact (List.filter_eq_self.2 fun g hg => by
            simp only [decide_eq_true_eq]
            exact fun e => ltN_irrefl _ (he ▸ e ▸ h1 g hg)).symm
      · simp only [e, List.set_cons_zero, putF]
        rw [hf', if_neg hlt, if_pos he]
theorem set_take_drop {α : Type} (L : List α) (i : Nat) (h : i < L.length) (x : α) : L.set i x = L.take i ++ x :: L.drop (i + 1) := by
  induction L generalizing i with
  | nil => cases h
  | cons a r ih =>
    cases i with
    | zero => rfl
    | succ i => simp at h; simp [ih i h]

/-- The reference's disk D behind a pointer to block g: it writes blocks of W alone, and reads blocks of F alone. -/
structure RD (w : World) (B g : Nat) (W F : Nat → Prop) (D : Dsk) : Prop where
  at_ : ∃ A c V, RDiskAt w B g D A c V ∧ (∀ k, RFoot g (.slice A D.L.length c) k → W k) ∧ ∀ r ∈ V, ∀ k, r.2.ownBlock = some k → F k
  wf : ∀ k, W k → F k
  lo : ∀ k, F k → B ≤ k ∧ k < w.heap.size

/-- a call of the reference's disk. -/
def RGo (w : World) (B g : Nat) (W F : Nat → Prop) (D' : Dsk) (w' : World) : Prop :=
  ∃ W' F', RD w' B g W' F' D' ∧ Frm W w w' ∧ (∀ k, W' k → W k ∨ w.heap.size ≤ k) ∧ ∀ k, F' k → F k ∨ w.heap.size ≤ k

theorem RD.frm {w w' : World} {B g : Nat} {W F F' : Nat → Prop} {D : Dsk} (h : RD w B g W F D) (hf : Frm F' w w') (hd : ∀ k, F k → ¬ F' k) : RD w' B g W F D := by
  obtain ⟨A, c, V, h1, h2, h3⟩ := h.at_
  exact ⟨⟨A, c, V, h1.frm hf (hd g (h.wf _ (h2 g (.inl rfl)))) (fun k hk => hd k (h.wf _ (h2 k (.inr hk)))) (fun r hr k hk => hd k (h3 r hr k hk)), h2, h3⟩, h.wf, fun k hk => ⟨(h.lo k hk).1, Nat.lt_of_lt_of_le (h.lo k hk).2 hf.size⟩⟩

/-- what a call gives: its writes lie in g, the row and new blocks; the row is the old one or a new one; the bytes are old ones or new ones. -/
theorem RD.go {w w' : World} {B g : Nat} {W F : Nat → Prop} {D D' : Dsk} {A A' : Option Addr} {c c' : Nat} {V V' : List RFil} (h : RD w B g W F D) (hB : B ≤ w.heap.size) (h2 : ∀ k, RFoot g (.slice A D.L.length c) k → W k) (h3 : ∀ r ∈ V, ∀ k, r.2.ownBlock = some k → F k)
    (h' : RDiskAt w' B g D' A' c' V') (hf : Frm (RFoot g (.slice A D.L.length c)) w w') (hrow : ∀ k, (Value.slice A' D'.L.length c').ownBlock = some k → RFoot g (.slice A D.L.length c) k ∨ w.heap.size ≤ k)
    (hV : ∀ r ∈ V', ∀ k, r.2.ownBlock = some k → (∃ r' ∈ V, r'.2.ownBlock = some k) ∨ w.heap.size ≤ k) : RGo w B g W F D' w' := by
  refine ⟨fun k => W k ∨ (w.heap.size ≤ k ∧ k < w'.heap.size), fun k => F k ∨ (w.heap.size ≤ k ∧ k < w'.heap.size), ⟨⟨A', c', V', h', ?_, ?_⟩, ?_, ?_⟩, hf.mono h2, ?_, ?_⟩
  · rintro k (rfl | hk)
    · exact .inl (h2 _ (.inl rfl))
    · rcases hrow k hk with e | e
      · exact .inl (h2 k e)
      · exact .inr ⟨e, (h'.row.lt k hk).2⟩
  · intro r hr k hk
    rcases hV r hr k hk with ⟨r', hr', e⟩ | e
    · exact .inl (h3 r' hr' k e)
    · exact .inr ⟨e, ((h'.own r hr).lt k hk).2⟩
  · rintro k (hk | hk)
    · exact .inl (h.wf k hk)
    · exact .inr hk
  · rintro k (hk | hk)
    · exact ⟨(h.lo k hk).1, Nat.lt_of_lt_of_le (h.lo k hk).2 hf.size⟩
    · exact ⟨by omega, hk.2⟩
  · rintro k (hk | hk)
    · exact .inl hk
    · exact .inr hk.1
  · rintro k (hk | hk)
    · exact .inl hk
    · exact .inr hk.1
end Go.Proofs.Ythhkblogocoeeaa
