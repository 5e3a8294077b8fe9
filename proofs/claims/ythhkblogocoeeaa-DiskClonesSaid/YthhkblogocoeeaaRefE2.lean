/-
  A cell of the row of files is turned.
-/
import Derived.Test.YthhkblogocoeeaaRefE
namespace Go.Proofs.Ythhkblogocoeeaa
open Go.RowKit

theorem rcells_set (V : List RFil) (i j : Nat) (hi : i < V.length) (hj : j < 3) (r : RFil) (u : Value) (h : RFil.cells r = (RFil.cells V[i]).set j u) : (rcells V).set (i * 3 + j) u = rcells (V.set i r) := by
  induction V generalizing i with
  | nil => cases hi
  | cons a V ih =>
    cases i with
    | zero =>
      simp only [List.getElem_cons_zero] at h
      simp only [rcells, List.flatMap_cons, List.set_cons_zero, h, Nat.zero_mul, Nat.zero_add]
      rw [List.set_append_left _ _ (by show j < 3; exact hj)]
    | succ i =>
      have h3 : (RFil.cells a).length = 3 := rfl
      simp only [List.getElem_cons_succ] at h
      have := ih i (by simpa using hi) h
      simp only [rcells, List.flatMap_cons, List.set_cons_succ] at this ⊢
      rw [List.set_append_right _ _ (by omega), h3, show (i + 1) * 3 + j - 3 = i * 3 + j by omega, this]

section
variable {w : World} {B g gr : Nat} {D : Dsk} {c : Nat} {V : List RFil}
theorem RDiskAt.rowFrozen (h : RDiskAt w B g D (some ⟨gr, 0, none⟩) c V) (i : Nat) : w.frozen? ⟨gr, i, none⟩ = false := by
  obtain ⟨cs, hb⟩ := own3_at h.row (k := gr) rfl
  exact hb.frozen i
theorem RDiskAt.cellSet (h : RDiskAt w B g D (some ⟨gr, 0, none⟩) c V) {i j : Nat} (hi : i < V.length) (hj : j < 3) (r : RFil) (u : Value) (hr : RFil.cells r = (RFil.cells V[i]).set j u)
    (hown : w.ownsRow B 5 1 r.2 r.1.b.length (bvs r.1.b)) (hok : ({ D with L := D.L.set i r.1 } : Dsk).Ok) :
    RDiskAt (w.setCell ⟨gr, i * 3 + j, none⟩ u) B g { D with L := D.L.set i r.1 } (some ⟨gr, 0, none⟩) c (V.set i r) ∧ Frm (fun k => k = gr) w (w.setCell ⟨gr, i * 3 + j, none⟩ u) := by
  have hf : Frm (fun k => k = gr) w (w.setCell ⟨gr, i * 3 + j, none⟩ u) := (Frm.refl (fun k => k = gr) w).setCell (.inl rfl) _
  have hg : gr ≠ g := h.row_ne_g (k := gr) rfl
  have hne : ∀ {v : Value} {n : Nat} {xs : List Value} {k : Nat}, w.ownsRow B 5 1 v n xs → v.ownBlock = some k → k ≠ gr := fun ho hk => by
    obtain ⟨cs, hb⟩ := own3_at ho hk
    obtain ⟨cs', hb'⟩ := own3_at h.row (k := gr) rfl
    exact hb.ne_ hb' (by decide)
  refine ⟨⟨h.gB, ?_, ?_, ?_, ?_, hok⟩, hf⟩
  · simp only [List.length_set]
    exact h.blk.frm hf (fun e => hg e.symm)
  · simp only [List.length_set]
    rw [← rcells_set V i j hi hj r u hr]
    have hlen := h.row.1
    rcases h.row.2 with ⟨hv, hn⟩ | ⟨g0, cap, cur, hv, hb, hh, h1, h2, h4, h5⟩
    · cases hv
    · injection hv with e1 e2 e3
      injection e1 with e1
      injection e1 with e1
      subst e1
      subst e3
      have hx := (show Blk w gr _ cur from hh).set_ (i * 3 + j) u
      refine ⟨by rw [List.length_set]; exact hlen, .inr ⟨gr, c, _, rfl, hb, hx, h1, h2, by simpa using h4, ?_⟩⟩
      rw [← h5]
      simp [List.take_set]
  · rw [List.map_set, h.fils]
  · intro r' hr'
    rcases List.mem_or_eq_of_mem_set hr' with hr' | rfl
    · exact own_frm (h.own r' hr') hf (fun k hk => hne (h.own r' hr') hk)
    · exact own_frm hown hf (fun k hk => hne hown hk)
end
end Go.Proofs.Ythhkblogocoeeaa
