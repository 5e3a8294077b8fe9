/-
  The reference's disk: Crash.
-/
import Derived.Test.YtdgpaddmheagoaaGreatDoorRefL
import Derived.Test.YtdgpaddmheagoaaGreatDoorRefJ
import Derived.Test.YtdgpaddmheagoaaGreatDoorRefK
namespace Go.Proofs.YtdgpaddmheagoaaGreatDoor
open Go.RowKit

section
variable {w : World} {B g : Nat} {W F : Nat → Prop} {D : Dsk}
theorem rRename_any (h : RD w B g W F D) (s t : ByteArray) (ht : t.size ≤ maxLen) (hd : D.deeds < 4611686018427387904) :
    Calls Tryz.prog 26 #[.pointer (some ⟨g, 0, none⟩), .string s, .string t] w fun e w' => e = .returned (.int .i64 (D.rename s t).2) ∧ RGo w B g W F (D.rename s t).1 w' := by
  rcases ho : D.off with _ | _
  · rcases hn : nameOk t with _ | _
    · have e : D.rename s t = (D, 31) := by simp [Dsk.rename, ho, hn]
      rw [e]
      exact rRename_no h s t ht 31 (.inr (.inl ⟨ho, hn, rfl⟩))
    · rcases hf : findF s D.L with _ | f
      · have e : D.rename s t = (D, 4) := by simp [Dsk.rename, Dsk.there, ho, hn, hf]
        rw [e]
        exact rRename_no h s t ht 4 (.inr (.inr ⟨ho, hn, hf, rfl⟩))
      · rcases hb : D.deed.2 == 0 with _ | _
        · have hb' : D.deed.2 ≠ 0 := by simpa using hb
          have e30 : D.deed.2 = 30 := by
            rcases deed_two D with e | e
            · exact e
            · exact absurd e hb'
          have e : D.rename s t = D.deed := by simp [Dsk.rename, Dsk.there, ho, hn, hf, hb']
          rw [e, e30]
          exact rRename_off h s t ht ho hn hf hd hb
        · have hb' : D.deed.2 = 0 := by simpa using hb
          have e : D.rename s t = ({ D.deed.1 with L := putF { f with name := t } (delF s D.L) }, 0) := by simp [Dsk.rename, Dsk.there, ho, hn, hf, hb', Dsk.renameTo, deed_L]
          rw [e]
          exact rRename_do h s t ht ho hn hf hd hb
  · have e : D.rename s t = (D, 30) := by simp [Dsk.rename, ho]
    rw [e]
    exact rRename_no h s t ht 30 (.inl ⟨ho, rfl⟩)

theorem rAppend_any (h : RD w B g W F D) (s : ByteArray) (hs : s.size ≤ maxLen) (bA : Option Addr) (m bc : Nat) (l : List UInt8) (hl : l.length = m) (G : Nat → Prop) (hrd : Rd w G 1 bA m (bvs l)) (hG : ∀ k, G k → ¬ F k) (hm : m ≤ 140737488355328) (hd : D.deeds < 4611686018427387904) :
    Calls Tryz.prog 22 #[.pointer (some ⟨g, 0, none⟩), .string s, .slice bA m bc] w fun e w' => e = .returned (.int .i64 (D.append s l).2) ∧ RGo w B g W F (D.append s l).1 w' := by
  rcases ho : D.off with _ | _
  · rcases hn : nameOk s with _ | _
    · have e : D.append s l = (D, 31) := by simp [Dsk.append, ho, hn]
      rw [e]
      exact rAppend_bad h s bA m bc ho hn hs
    · by_cases hfull : D.quota < (usedL D.L : Int) + m
      · have e : D.append s l = (D, 2) := by simp [Dsk.append, Dsk.full, ho, hn, hl, hfull]
        rw [e]
        by_cases h64 : 64 ≤ D.L.length ∧ findF s D.L = none
        · exact rAppend_many h s bA m bc ho hn hs h64.2 h64.1
        · refine rAppend_full h s bA m bc ho hn hs ?_ hm hfull
          by_cases h1 : D.L.length < 64
          · exact .inr h1
          · refine .inl ?_
            rcases hf : findF s D.L with _ | f
            · exact absurd ⟨by omega, hf⟩ h64
            · simp [isF, hf]
      · rcases hf : findF s D.L with _ | f
        · by_cases h64 : 64 ≤ D.L.length
          · have e : D.append s l = (D, 2) := by simp [Dsk.append, Dsk.full, ho, hn, hf, h64]
            rw [e]
            exact rAppend_many h s bA m bc ho hn hs hf h64
          · have e : D.append s l = ({ D.deed.1 with L := putF ⟨s, l, 0⟩ D.L }, D.deed.2) := by
              have hx : ¬ D.quota < (usedL D.L : Int) + l.length := by rw [hl]; exact hfull
              simp [Dsk.append, Dsk.full, ho, hn, hf, h64, hx, Dsk.appendTo]
              rw [← ho]
              exact deed_with D _
            rw [e]
            exact rAppend_new h s ho hn hs hf (by omega) bc hrd hG hl (by omega) hd
        · have e : D.append s l = ({ D.deed.1 with L := putF { f with b := f.b ++ l } D.L }, D.deed.2) := by
            have hx : ¬ D.quota < (usedL D.L : Int) + l.length := by rw [hl]; exact hfull
            simp [Dsk.append, Dsk.full, ho, hn, hf, hx, Dsk.appendTo]
            rw [← ho]
            exact deed_with D _
          rw [e]
          exact rAppend_old h s ho hn hs hf bc hrd hG hl (by omega) hd
  · have e : D.append s l = (D, 30) := by simp [Dsk.append, ho]
    rw [e]
    exact rAppend_off h s bA m bc ho
end
end Go.Proofs.YtdgpaddmheagoaaGreatDoor

namespace Go.Proofs.YtdgpaddmheagoaaGreatDoor
open Go.RowKit

def RClone (w : World) (B : Nat) (F : Nat → Prop) (D : Dsk) (e : Ending) (w' : World) : Prop :=
  ∃ g2 W2 F2, e = .returned (.pointer (some ⟨g2, 0, none⟩)) ∧ RD w' B g2 W2 F2 D ∧ Frm Nix w w' ∧ (∀ k, W2 k → w.heap.size ≤ k) ∧ ∀ k, F2 k → F k ∨ w.heap.size ≤ k

end Go.Proofs.YtdgpaddmheagoaaGreatDoor
namespace Go.Proofs.YtdgpaddmheagoaaGreatDoor
open Go.RowKit

theorem Ok_set {D : Dsk} (h : D.Ok) {p : Nat} (hp : p < D.L.length) {f' : Fil} (hn : f'.name = D.L[p].name) (hb : f'.b.length ≤ D.L[p].b.length) (hs : f'.safe ≤ f'.b.length) : ({ D with L := D.L.set p f' } : Dsk).Ok := by
  have hsplit : D.L = D.L.take p ++ D.L[p] :: D.L.drop (p + 1) := by
    rw [← List.drop_eq_getElem_cons hp, List.take_append_drop]
  have hset : D.L.set p f' = putF f' D.L := by
    have hso := h.sorted
    rw [hsplit] at hso
    have := putF_mid hso hn
    rw [← hsplit] at this
    rw [this, set_take_drop _ _ hp]
  have hf := findF_mem h.sorted (List.getElem_mem hp)
  have := Dsk.Ok.turn (f := f') (f0 := D.L[p]) h (by rw [hn]; exact hf) hs (by have := h.used; omega)
  rw [hset]
  exact this

theorem bvs_takeP (l : List UInt8) (n : Nat) : (bvs l).take n = bvs (l.take n) := by simp [bvs]

/-- a file's bytes are cut, in a slice of their own. -/
theorem cut_tail {w4 : World} {B g gr c p : Nat} {D : Dsk} {V : List RFil} (h4 : RDiskAt w4 B g D (some ⟨gr, 0, none⟩) c V) (hp : p < D.L.length) {f : Fil} (hf : D.L[p] = f) {fA : Option Addr} {fc : Nat}
    (hown : w4.ownsRow B 5 1 (.slice fA f.b.length fc) f.b.length (bvs f.b)) (hv : p < V.length) (e1 : V[p].1 = f) (N : Nat) (hN : N ≤ f.b.length) (hs : f.safe ≤ N) (bx : Obj) (hbl : f.b.length ≤ 16777216) :
    ∃ A2 c2 w6, (∀ ty, (Builtin.append_ #[35, 35] ty #[.slice (some ⟨w4.heap.size + 1, 0, none⟩) 0 0, .slice fA N fc]).run Tryz.prog ((w4.alloc bx).alloc (.cells #[] 5)).drew = .ok (.slice A2 N c2) w6) ∧
      Frm Nix (w4.alloc bx) w6 ∧ w6.frozen? ⟨gr, p * 3 + 1, none⟩ = false ∧
      RDiskAt (w6.setCell ⟨gr, p * 3 + 1, none⟩ (.slice A2 N c2)) B g { D with L := D.L.set p { f with b := f.b.take N } } (some ⟨gr, 0, none⟩) c (V.set p ({ f with b := f.b.take N }, .slice A2 N c2)) ∧
      Frm (fun k => k = gr) w4 (w6.setCell ⟨gr, p * 3 + 1, none⟩ (.slice A2 N c2)) ∧ ∀ k, (Value.slice A2 N c2).ownBlock = some k → w4.heap.size ≤ k := by
  have hB : B ≤ w4.heap.size := Nat.le_trans h4.gB (Nat.le_of_lt h4.blk.lt)
  have esz : (w4.alloc bx).heap.size = w4.heap.size + 1 := by simp
  have S := (BytIn.new_ (B := B) (w0 := w4.alloc bx) (w1 := w4.alloc bx) (by omega) (Frm.refl Nix _)).drew
  have hfa : Frm Nix w4 (w4.alloc bx) := (Frm.refl Nix w4).alloc bx
  obtain ⟨v1, w6, hrun, R, -⟩ := S.app fc (((Rd.of_own hown).take hN).frm (hfa.trans S.2.2.1) fun _ _ => id) (fun u hu => bvs_one f.b u (List.mem_of_mem_take hu)) (by omega)
  rw [Nat.zero_add, List.nil_append] at R
  obtain ⟨A2, c2, rfl, -⟩ := own_shape R.1
  rw [esz] at hrun
  have h6 := h4.nix (hfa.trans R.2.2.1)
  have hl : (f.b.take N).length = N := by simp; omega
  have := h6.cellSet hv (j := 1) (by decide) ({ f with b := f.b.take N }, .slice A2 N c2) (.slice A2 N c2) (by simp only [RFil.cells, e1]; rfl) (by
    simp only [hl, ← bvs_takeP]
    have := R.1
    rw [Nat.mul_one] at this
    exact this) (Ok_set h4.ok hp (by simp [hf]) (by simp only [hl, hf]; exact hN) (by simp only [hl]; exact hs))
  refine ⟨A2, c2, w6, hrun, R.2.2.1, h6.rowFrozen _, this.1, (Frm.nix (hfa.trans R.2.2.1)).trans this.2, fun k hk => ?_⟩
  have := R.2.1 k hk
  omega
end Go.Proofs.YtdgpaddmheagoaaGreatDoor

namespace Go.Proofs.YtdgpaddmheagoaaGreatDoor
open Go.RowKit

/-- behind the first k files. -/
def RCr (w : World) (B g : Nat) (D : Dsk) (A : Option Addr) (c : Nat) (V0 : List RFil) (ks : List Int) (k : Nat) (wr : World) : Prop :=
  ∃ V, RDiskAt wr B g { D with L := crashTo D.L ks k } A c V ∧ Frm (RFoot g (.slice A D.L.length c)) w wr ∧ ∀ r ∈ V, ∀ b, r.2.ownBlock = some b → (∃ r' ∈ V0, r'.2.ownBlock = some b) ∨ w.heap.size ≤ b

theorem crashTo_len (L : List Fil) (ks : List Int) (k : Nat) : (crashTo L ks k).length = L.length := by
  unfold crashTo
  rw [List.length_append, crashL_len]
  simp
  omega
theorem crashTo_at (L : List Fil) (ks : List Int) (k : Nat) (h : k < L.length) (hx : k < (crashTo L ks k).length) : (crashTo L ks k)[k] = L[k] := by
  have hl : (crashL (L.take k) ks).length = k := by rw [crashL_len]; simp; omega
  simp only [crashTo]
  rw [List.getElem_append_right (by omega)]
  simp [hl]
theorem crashTo_set (L : List Fil) (ks : List Int) (k : Nat) (h : k < L.length) : (crashTo L ks k).set k (crash1 L[k] ks (cntU (L.take k))) = crashTo L ks (k + 1) := by
  have hl : (crashL (L.take k) ks).length = k := by rw [crashL_len]; simp; omega
  rw [crashTo_succ L ks k h, crashTo_split L ks k h, List.set_append_right _ _ (by omega), hl, Nat.sub_self]
  rfl

section
variable {w wr w7 : World} {B g gr c k : Nat} {D : Dsk} {V0 : List RFil} {ks : List Int}

/-- the number of safe bytes is told: one file more is done. -/
theorem RCr.next {V : List RFil} {D7 : Dsk} {f7 : Fil} (hk : k < D.L.length) (hD7 : ({ D7 with L := D7.L.set k { f7 with safe := f7.b.length } } : Dsk) = { D with L := crashTo D.L ks (k + 1) })
    (h7 : RDiskAt w7 B g D7 (some ⟨gr, 0, none⟩) c V) (hl : D7.L.length = D.L.length) (hf7 : ∀ hx, D7.L[k]'hx = f7)
    (hfr : Frm (RFoot g (.slice (some ⟨gr, 0, none⟩) D.L.length c)) w w7) (hby : ∀ r ∈ V, ∀ b, r.2.ownBlock = some b → (∃ r' ∈ V0, r'.2.ownBlock = some b) ∨ w.heap.size ≤ b) :
    RCr w B g D (some ⟨gr, 0, none⟩) c V0 ks (k + 1) (w7.setCell ⟨gr, k * 3 + 2, none⟩ (.int .i64 f7.b.length)) := by
  obtain ⟨gr', fA, fc, e0, ⟨hv, e1, e2⟩, -⟩ := h7.at_ (i := k) (by omega)
  have hkl : k < D7.L.length := by omega
  rw [hf7 hkl] at e1 e2
  have hown := h7.own V[k] (List.getElem_mem hv)
  rw [e1] at hown
  have := h7.cellSet hv (j := 2) (by decide) ({ f7 with safe := f7.b.length }, V[k].2) (.int .i64 f7.b.length) (by simp only [RFil.cells, e1]; rfl) hown (Ok_set h7.ok hkl (by simp [hf7 hkl]) (by simp [hf7 hkl]) (Nat.le_refl _))
  simp only at this
  rw [hD7] at this
  refine ⟨_, this.1, hfr.trans (this.2.mono fun b e => .inr (by rw [e]; rfl)), fun r hr b hb => ?_⟩
  rcases List.mem_or_eq_of_mem_set hr with hr | rfl
  · exact hby r hr b hb
  · exact hby V[k] (List.getElem_mem hv) b hb
end
end Go.Proofs.YtdgpaddmheagoaaGreatDoor
