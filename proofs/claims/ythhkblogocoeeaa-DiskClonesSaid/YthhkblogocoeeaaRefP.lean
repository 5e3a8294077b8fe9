/-
  The reference's disk: Crash.
-/
import Derived.Test.YthhkblogocoeeaaRefO
namespace Go.Proofs.Ythhkblogocoeeaa
open Go.RowKit

/-- behind the first k files. -/
def RCr (w : World) (B g : Nat) (D : Dsk) (A : Option Addr) (c : Nat) (V0 : List RFil) (ks : List Int) (k : Nat) (wr : World) : Prop :=
  ∃ V, RDiskAt wr B g { D with L := crashTo D.L ks k } A c V ∧ Frm (RFoot g (.slice A D.L.length c)) w wr ∧ ∀ r ∈ V, ∀ b, r.2.ownBlock = some b → (∃ r' ∈ V0, r'.2.ownBlock = some b) ∨ w.heap.size ≤ b

theorem crashTo_len (L : List Fil) (ks : List Int) (k : Nat) : (crashTo L ks k).length = L.length := by
  unfold crashTo
  rw [List.length_append, crashL_len]
  simp
  omega
theorem crashTo_at (L : List Fil) (ks : List Int) (k : Nat) (h : k < L.length) (hx : k < (crashTo L ks k).length) : (crashTo L ks k)[k] = L[k] := by
  have hl : (crashL (L.take k) ks).length = k := by rw [crashL_len]; simp; omega
  simp only [crashTo]
  rw [List.getElem_append_right (by omega)]
  simp [hl]
theorem crashTo_set (L : List Fil) (ks : List Int) (k : Nat) (h : k < L.length) : (crashTo L ks k).set k (crash1 L[k] ks (cntU (L.take k))) = crashTo L ks (k + 1) := by
  have hl : (crashL (L.take k) ks).length = k := by rw [crashL_len]; simp; omega
  rw [crashTo_succ L ks k h, crashTo_split L ks k h, List.set_append_right _ _ (by omega), hl, Nat.sub_self]
  rfl

section
variable {w wr w7 : World} {B g gr c k : Nat} {D : Dsk} {V0 : List RFil} {ks : List Int}

/-- the number of safe bytes is told: one file more is done. -/
theorem RCr.next {V : List RFil} {D7 : Dsk} {f7 : Fil} (hk : k < D.L.length) (hD7 : ({ D7 with L := D7.L.set k { f7 with safe := f7.b.length } } : Dsk) = { D with L := crashTo D.L ks (k + 1) })
    (h7 : RDiskAt w7 B g D7 (some ⟨gr, 0, none⟩) c V) (hl : D7.L.length = D.L.length) (hf7 : ∀ hx, D7.L[k]'hx = f7)
    (hfr : Frm (RFoot g (.slice (some ⟨gr, 0, none⟩) D.L.length c)) w w7) (hby : ∀ r ∈ V, ∀ b, r.2.ownBlock = some b → (∃ r' ∈ V0, r'.2.ownBlock = some b) ∨ w.heap.size ≤ b) :
    RCr w B g D (some ⟨gr, 0, none⟩) c V0 ks (k + 1) (w7.setCell ⟨gr, k * 3 + 2, none⟩ (.int .i64 f7.b.length)) := by
  obtain ⟨gr', fA, fc, e0, ⟨hv, e1, e2⟩, -⟩ := h7.at_ (i := k) (by omega)
  have hkl : k < D7.L.length := by omega
  rw [hf7 hkl] at e1 e2
  have hown := h7.own V[k] (List.getElem_mem hv)
  rw [e1] at hown
  have := h7.cellSet hv (j := 2) (by decide) ({ f7 with safe := f7.b.length }, V[k].2) (.int .i64 f7.b.length) (by simp only [RFil.cells, e1]; rfl) hown (Ok_set h7.ok hkl (by simp [hf7 hkl]) (by simp [hf7 hkl]) (Nat.le_refl _))
  simp only at this
  rw [hD7] at this
  refine ⟨_, this.1, hfr.trans (this.2.mono fun b e => .inr (by rw [e]; rfl)), fun r hr b hb => ?_⟩
  rcases List.mem_or_eq_of_mem_set hr with hr | rfl
  · exact hby r hr b hb
  · exact hby V[k] (List.getElem_mem hv) b hb
end
end Go.Proofs.Ythhkblogocoeeaa
