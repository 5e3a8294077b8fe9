/-
  The reference's disk: Crash: one file is cut.
-/
import Derived.Test.YthhkblogocoeeaaRefN
namespace Go.Proofs.Ythhkblogocoeeaa
open Go.RowKit

theorem Ok_set {D : Dsk} (h : D.Ok) {p : Nat} (hp : p < D.L.length) {f' : Fil} (hn : f'.name = D.L[p].name) (hb : f'.b.length ≤ D.L[p].b.length) (hs : f'.safe ≤ f'.b.length) : ({ D with L := D.L.set p f' } : Dsk).Ok := by
  have hsplit : D.L = D.L.take p ++ D.L[p] :: D.L.drop (p + 1) := by
    rw [← List.drop_eq_getElem_cons hp, List.take_append_drop]
  have hset : D.L.set p f' = putF f' D.L := by
    have hso := h.sorted
    rw [hsplit] at hso
    have := putF_mid hso hn
    rw [← hsplit] at this
    rw [this, set_take_drop _ _ hp]
  have hf := findF_mem h.sorted (List.getElem_mem hp)
  have := Dsk.Ok.turn (f := f') (f0 := D.L[p]) h (by rw [hn]; exact hf) hs (by have := h.used; omega)
  rw [hset]
  exact this

theorem bvs_take (l : List UInt8) (n : Nat) : (bvs l).take n = bvs (l.take n) := by simp [bvs]

/-- a file's bytes are cut, in a slice of their own. -/
theorem cut_tail {w4 : World} {B g gr c p : Nat} {D : Dsk} {V : List RFil} (h4 : RDiskAt w4 B g D (some ⟨gr, 0, none⟩) c V) (hp : p < D.L.length) {f : Fil} (hf : D.L[p] = f) {fA : Option Addr} {fc : Nat}
    (hown : w4.ownsRow B 5 1 (.slice fA f.b.length fc) f.b.length (bvs f.b)) (hv : p < V.length) (e1 : V[p].1 = f) (N : Nat) (hN : N ≤ f.b.length) (hs : f.safe ≤ N) (bx : Obj) (hbl : f.b.length ≤ 16777216) :
    ∃ A2 c2 w6, (∀ ty, (Builtin.append_ #[32, 32] ty #[.slice (some ⟨w4.heap.size + 1, 0, none⟩) 0 0, .slice fA N fc]).run Try.prog ((w4.alloc bx).alloc (.cells #[] 5)).drew = .ok (.slice A2 N c2) w6) ∧
      Frm Nix (w4.alloc bx) w6 ∧ w6.frozen? ⟨gr, p * 3 + 1, none⟩ = false ∧
      RDiskAt (w6.setCell ⟨gr, p * 3 + 1, none⟩ (.slice A2 N c2)) B g { D with L := D.L.set p { f with b := f.b.take N } } (some ⟨gr, 0, none⟩) c (V.set p ({ f with b := f.b.take N }, .slice A2 N c2)) ∧
      Frm (fun k => k = gr) w4 (w6.setCell ⟨gr, p * 3 + 1, none⟩ (.slice A2 N c2)) ∧ ∀ k, (Value.slice A2 N c2).ownBlock = some k → w4.heap.size ≤ k := by
  have hB : B ≤ w4.heap.size := Nat.le_trans h4.gB (Nat.le_of_lt h4.blk.lt)
  have esz : (w4.alloc bx).heap.size = w4.heap.size + 1 := by simp
  have S := (BytIn.new_ (B := B) (w0 := w4.alloc bx) (w1 := w4.alloc bx) (by omega) (Frm.refl Nix _)).drew
  have hfa : Frm Nix w4 (w4.alloc bx) := (Frm.refl Nix w4).alloc bx
  obtain ⟨v1, w6, hrun, R, -⟩ := S.app fc (((Rd.of_own hown).take hN).frm (hfa.trans S.2.2.1) fun _ _ => id) (fun u hu => bvs_one f.b u (List.mem_of_mem_take hu)) (by omega)
  rw [Nat.zero_add, List.nil_append] at R
  obtain ⟨A2, c2, rfl, -⟩ := own_shape R.1
  rw [esz] at hrun
  have h6 := h4.nix (hfa.trans R.2.2.1)
  have hl : (f.b.take N).length = N := by simp; omega
  have := h6.cellSet hv (j := 1) (by decide) ({ f with b := f.b.take N }, .slice A2 N c2) (.slice A2 N c2) (by simp only [RFil.cells, e1]; rfl) (by
    simp only [hl, ← bvs_take]
    have := R.1
    rw [Nat.mul_one] at this
    exact this) (Ok_set h4.ok hp (by simp [hf]) (by simp only [hl, hf]; exact hN) (by simp only [hl]; exact hs))
  refine ⟨A2, c2, w6, hrun, R.2.2.1, h6.rowFrozen _, this.1, (Frm.nix (hfa.trans R.2.2.1)).trans this.2, fun k hk => ?_⟩
  have := R.2.1 k hk
  omega
end Go.Proofs.Ythhkblogocoeeaa
