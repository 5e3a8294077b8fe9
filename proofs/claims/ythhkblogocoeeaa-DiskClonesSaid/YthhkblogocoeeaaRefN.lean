/-
  The reference's disk: Clone.
-/
import Derived.Test.YthhkblogocoeeaaRefM
namespace Go.Proofs.Ythhkblogocoeeaa
open Go.RowKit

def RClone (w : World) (B : Nat) (F : Nat → Prop) (D : Dsk) (e : Ending) (w' : World) : Prop :=
  ∃ g2 W2 F2, e = .returned (.pointer (some ⟨g2, 0, none⟩)) ∧ RD w' B g2 W2 F2 D ∧ Frm Nix w w' ∧ (∀ k, W2 k → w.heap.size ≤ k) ∧ ∀ k, F2 k → F k ∨ w.heap.size ≤ k

set_option maxRecDepth 100000 in
set_option maxHeartbeats 1000000 in
theorem rClone_any {w : World} {B g : Nat} {W F : Nat → Prop} {D : Dsk} (h : RD w B g W F D) :
    Calls Try.prog 19 #[.pointer (some ⟨g, 0, none⟩)] w (RClone w B F D) := by
  obtain ⟨A, c, V, h1, h2, h3⟩ := h.at_
  have hB := h.lt
  have hgl := h1.blk.lt
  have hcnt := h1.ok.cnt
  have c0 := h1.blk.cell 0
  have c1 := h1.blk.cell 1
  have c2 := h1.blk.cell 2
  have c3 := h1.blk.cell 3
  have c4 := h1.blk.cell 4
  simp at c0 c1 c2 c3 c4
  generalize hbx : (Obj.cells #[.slice A D.L.length c, .int .i64 D.quota, .int .i64 D.left, .bool D.off, .int .i64 D.deeds] 60 : Obj) = bx
  have hfb : Frm Nix w (w.alloc bx) := (Frm.refl Nix w).alloc bx
  have esz : (w.alloc bx).heap.size = w.heap.size + 1 := by simp
  have S := RowIn.new_ (w0 := w.alloc bx) (w1 := w.alloc bx) (B := B) (by omega) (Frm.refl Nix _)
  obtain ⟨v1, w2, hrun, R, -⟩ := S.app c ((Rd.of_own h1.row).frm (hfb.trans S.2.2.1) fun _ _ => id) h1.one (by omega)
  rw [Nat.zero_add, List.nil_append] at R
  obtain ⟨A2, cc, rfl, -⟩ := own_shape R.1
  rw [esz] at hrun
  have hf2 : Frm Nix w w2 := hfb.trans R.2.2.1
  have hb2 : Blk w2 w.heap.size 60 #[.slice A D.L.length c, .int .i64 D.quota, .int .i64 D.left, .bool D.off, .int .i64 D.deeds] := by
    have := Blk.new w 60 #[.slice A D.L.length c, .int .i64 D.quota, .int .i64 D.left, .bool D.off, .int .i64 D.deeds]
    rw [hbx] at this
    exact this.frm R.2.2.1 id
  have x0 := hb2.cell 0
  have z0 := hb2.frozen 0
  simp at x0
  have hfs : Frm (fun k => k = w.heap.size) w2 (w2.setCell ⟨w.heap.size, 0, none⟩ (.slice A2 D.L.length cc)) := (Frm.refl (fun k => k = w.heap.size) w2).setCell (.inl rfl) _
  have hsz : w.heap.size + 1 ≤ w2.heap.size := by rw [← esz]; exact R.2.2.1.size
  have hRn : ∀ k, (Value.slice A2 D.L.length cc).ownBlock = some k → w.heap.size + 1 ≤ k := fun k hk => by rw [← esz]; exact R.2.1 k hk
  have HR : Hid (RClone w B F D (.returned (.pointer (some ⟨w.heap.size, 0, none⟩))) (w2.setCell ⟨w.heap.size, 0, none⟩ (.slice A2 D.L.length cc))) := by
    refine ⟨w.heap.size, fun k => w.heap.size ≤ k ∧ k < w2.heap.size, fun k => F k ∨ (w.heap.size ≤ k ∧ k < w2.heap.size), rfl, ⟨⟨A2, cc, V, ⟨hB, by simpa using hb2.set_ 0 (.slice A2 D.L.length cc), own_frm R.1 hfs (fun k hk e => by have := hRn k hk; omega), h1.fils, fun r hr => ?_, h1.ok⟩, ?_, fun r hr k hk => .inl (h3 r hr k hk)⟩, fun _ => .inr, ?_⟩, ?_, fun k hk => hk.1, ?_⟩
    · refine own_frm (own_frm (h1.own r hr) hf2 fun _ _ => id) hfs (fun k hk e => ?_)
      have := ((h1.own r hr).lt k hk).2
      omega
    · rintro k (rfl | hk)
      · exact ⟨Nat.le_refl _, by omega⟩
      · exact ⟨by have := hRn k hk; omega, (R.1.lt k hk).2⟩
    · rintro k (hk | hk)
      · exact ⟨(h.lo k hk).1, Nat.lt_of_lt_of_le (h.lo k hk).2 (Nat.le_trans hf2.size hfs.size)⟩
      · exact ⟨by omega, Nat.lt_of_lt_of_le hk.2 hfs.size⟩
    · exact hf2.next hfs (fun k e => .inr (by omega))
    · rintro k (hk | hk)
      · exact .inl hk
      · exact .inr hk.1
  have hfbe : Frm Nix w ((w.alloc bx).alloc (.cells #[] 62)) := hfb.alloc _
  have y0 := (hfbe.cell (p := ⟨g, 0, none⟩) hgl id).trans c0
  subst hbx
  clear hfbe hRn hfs hsz hb2 hf2 R S hfb esz h1 h2 h3 h hB hcnt
  go_enter Try.func19, Try.ntmps19
  go_wp2_with (at_builtin; refine wpList_append_run hrun rfl _ _ rfl rfl rfl ?_)
  go_ret
  exact HR.out
end Go.Proofs.Ythhkblogocoeeaa
