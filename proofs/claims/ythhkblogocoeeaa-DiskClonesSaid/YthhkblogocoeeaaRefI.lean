/-
  The reference's disk: Append, done.
-/
import Derived.Test.YthhkblogocoeeaaRefH
namespace Go.Proofs.Ythhkblogocoeeaa
open Go.RowKit

section
variable {w : World} {B g : Nat} {W F : Nat → Prop} {D : Dsk}

/-- what is left of an append from world w4 on: the disk D4 with its file at p. -/
structure AppAt (w : World) (B g : Nat) (W F : Nat → Prop) (D' : Dsk) (w4 : World) (p : Nat) (bA : Option Addr) (m bc : Nat) (gr n4 c4 : Nat) (fA : Option Addr) (fn fc : Nat) (v1 : Value) (w5 : World) (A2 : Option Addr) (c2 : Nat) (w6 : World) : Prop where
  run1 : ∀ ty, (Builtin.append_ #[32, 32] ty #[.slice (some ⟨w4.heap.size, 0, none⟩) 0 0, .slice fA fn fc]).run Try.prog (w4.alloc (.cells #[] 5)).drew = .ok v1 w5
  run2 : ∀ ty, (Builtin.append_ #[32, 32] ty #[v1, .slice bA m bc]).run Try.prog w5 = .ok (.slice A2 (fn + m) c2) w6
  x4 : w4.cell? ⟨g, 0, none⟩ = some (.slice (some ⟨gr, 0, none⟩) n4 c4)
  x4a : (w4.alloc (.cells #[] 5)).cell? ⟨g, 0, none⟩ = some (.slice (some ⟨gr, 0, none⟩) n4 c4)
  x5 : w5.cell? ⟨g, 0, none⟩ = some (.slice (some ⟨gr, 0, none⟩) n4 c4)
  x6 : w6.cell? ⟨g, 0, none⟩ = some (.slice (some ⟨gr, 0, none⟩) n4 c4)
  k4 : w4.cell? ⟨gr, p * 3 + 1, none⟩ = some (.slice fA fn fc)
  k4a : (w4.alloc (.cells #[] 5)).cell? ⟨gr, p * 3 + 1, none⟩ = some (.slice fA fn fc)
  k6 : w6.cell? ⟨gr, p * 3 + 1, none⟩ = some (.slice fA fn fc)
  z6 : w6.frozen? ⟨gr, p * 3 + 1, none⟩ = false
  b0 : (0 : Int) ≤ p
  b1 : (p : Int) < n4
  fin : RGo w B g W F D' (w6.setCell ⟨gr, p * 3 + 1, none⟩ (.slice A2 (fn + m) c2))

theorem appAt {w4 : World} {c4 p : Nat} {D4 : Dsk} {A A4 : Option Addr} {c : Nat} {V V4 : List RFil} (h : RD w B g W F D) (h2 : ∀ k, RFoot g (.slice A D.L.length c) k → W k) (h3 : ∀ r ∈ V, ∀ k, r.2.ownBlock = some k → F k)
    (h4 : RDiskAt w4 B g D4 A4 c4 V4) (hf4 : Frm (fun k => k = g) w w4) (hrow : ∀ k, (Value.slice A4 D4.L.length c4).ownBlock = some k → RFoot g (.slice A D.L.length c) k ∨ w.heap.size ≤ k)
    (hV : ∀ r ∈ V4, ∀ k, r.2.ownBlock = some k → (∃ r' ∈ V, r'.2.ownBlock = some k) ∨ w.heap.size ≤ k)
    (hp : p < D4.L.length) {f : Fil} (hf : D4.L[p] = f)
    {G : Nat → Prop} {bA : Option Addr} {m : Nat} (bc : Nat) {l : List UInt8} (hrd : Rd w G 1 bA m (bvs l)) (hG : ∀ k, G k → ¬ F k) (hl : l.length = m) (hm : f.b.length + m ≤ 140737488355328)
    (hok : ({ D4 with L := D4.L.set p { f with b := f.b ++ l } } : Dsk).Ok) :
    ∃ gr c4 fA fc v1 w5 A2 c2 w6, AppAt w B g W F { D4 with L := D4.L.set p { f with b := f.b ++ l } } w4 p bA m bc gr D4.L.length c4 fA f.b.length fc v1 w5 A2 c2 w6 := by
  obtain ⟨gr, -, -, rfl, -⟩ := h4.at_ hp
  have hrd4 := hrd.frm hf4 (fun k hk e => hG k hk (by rw [e]; exact h.wf _ (h2 g (.inl rfl))))
  obtain ⟨fA, fc, v1, w5, A2, c2, w6, r1, r2, f5, f6, k1, hgr, hz, h7, hf7, hn7⟩ := app_tail h4 hp hf bc hrd4 hl hm hok
  have hgl := h4.blk.lt
  have c0 := h4.blk.cell 0
  simp at c0
  have hfa : Frm Nix w4 (w4.alloc (.cells #[] 5)) := (Frm.refl Nix w4).alloc _
  have hgr' := hrow gr rfl
  refine ⟨gr, c4, fA, fc, v1, w5, A2, c2, w6, r1, r2, c0, (hfa.cell (p := ⟨g, 0, none⟩) hgl id).trans c0, (f5.cell (p := ⟨g, 0, none⟩) hgl id).trans c0, (f6.cell (p := ⟨g, 0, none⟩) hgl id).trans c0, k1, (hfa.cell (p := ⟨gr, p * 3 + 1, none⟩) hgr id).trans k1,
    (f6.cell (p := ⟨gr, p * 3 + 1, none⟩) hgr id).trans k1, hz, Int.natCast_nonneg _, by omega, ?_⟩
  have hs := hf4.size
  refine h.go h.lt h2 h3 h7 ((hf4.mono fun k e => .inl e).next hf7 (fun k e => by rw [e]; exact hgr')) (fun k hk => hrow k (by rw [← hk]; exact ownBlock_slice _ _ _ _ _)) (fun r hr k hk => ?_)
  rcases List.mem_or_eq_of_mem_set hr with hr | rfl
  · exact hV r hr k hk
  · exact .inr (Nat.le_trans hs (hn7 k hk))

theorem RGo.more {D' : Dsk} {w1 w2 : World} (h : RGo w B g W F D' w1) (hf : Frm Nix w1 w2) : RGo w B g W F D' w2 := by
  obtain ⟨W', F', h1, h2, h3, h4⟩ := h
  exact ⟨W', F', h1.nix hf, h2.more hf, h3, h4⟩

end
end Go.Proofs.Ythhkblogocoeeaa
