/-
  The reference's disk: Append.
-/
import Derived.Test.YthhkblogocoeeaaRefG
namespace Go.Proofs.Ythhkblogocoeeaa
open Go.RowKit

/-- bytes behind a file's, in a slice of their own. -/
theorem app_tail {w4 : World} {B g gr c4 p : Nat} {D4 : Dsk} {V4 : List RFil} (h4 : RDiskAt w4 B g D4 (some ⟨gr, 0, none⟩) c4 V4) (hp : p < D4.L.length) {f : Fil} (hf : D4.L[p] = f)
    {G : Nat → Prop} {bA : Option Addr} {m : Nat} (bc : Nat) {l : List UInt8} (hrd : Rd w4 G 1 bA m (bvs l)) (hl : l.length = m) (hm : f.b.length + m ≤ 140737488355328)
    (hok : ({ D4 with L := D4.L.set p { f with b := f.b ++ l } } : Dsk).Ok) :
    ∃ fA fc v1 w5 A2 c2 w6, (∀ ty, (Builtin.append_ #[32, 32] ty #[.slice (some ⟨w4.heap.size, 0, none⟩) 0 0, .slice fA f.b.length fc]).run Try.prog (w4.alloc (.cells #[] 5)).drew = .ok v1 w5) ∧
      (∀ ty, (Builtin.append_ #[32, 32] ty #[v1, .slice bA m bc]).run Try.prog w5 = .ok (.slice A2 (f.b.length + m) c2) w6) ∧
      Frm Nix w4 w5 ∧ Frm Nix w4 w6 ∧ w4.cell? ⟨gr, p * 3 + 1, none⟩ = some (.slice fA f.b.length fc) ∧ gr < w4.heap.size ∧ w6.frozen? ⟨gr, p * 3 + 1, none⟩ = false ∧
      RDiskAt (w6.setCell ⟨gr, p * 3 + 1, none⟩ (.slice A2 (f.b.length + m) c2)) B g { D4 with L := D4.L.set p { f with b := f.b ++ l } } (some ⟨gr, 0, none⟩) c4 (V4.set p ({ f with b := f.b ++ l }, .slice A2 (f.b.length + m) c2)) ∧
      Frm (fun k => k = gr) w4 (w6.setCell ⟨gr, p * 3 + 1, none⟩ (.slice A2 (f.b.length + m) c2)) ∧ ∀ k, (Value.slice A2 (f.b.length + m) c2).ownBlock = some k → w4.heap.size ≤ k := by
  obtain ⟨gr', fA, fc, hgr', ⟨hv, e1, e2⟩, k0, k1, k2, -, -, hown, hbl, hgr, hgB⟩ := h4.at_ hp
  injection hgr' with hgr'
  injection hgr' with hgr'
  subst hgr'
  rw [hf] at e1 e2 k0 k1 k2 hown hbl
  have hB : B ≤ w4.heap.size := by omega
  have S := (BytIn.new_ (B := B) (w0 := w4) (w1 := w4) hB (Frm.refl Nix w4)).drew
  obtain ⟨v1, w5, hrun1, R1, -⟩ := S.app fc ((Rd.of_own hown).frm S.2.2.1 fun _ _ => id) (bvs_one _) (by omega)
  rw [Nat.zero_add, List.nil_append] at R1
  obtain ⟨v2, w6, hrun2, R2, -⟩ := R1.app bc (hrd.frm R1.2.2.1 fun _ _ => id) (bvs_one _) hm
  obtain ⟨A2, c2, rfl, -⟩ := own_shape R2.1
  have h6 := h4.nix R2.2.2.1
  have hbv : bvs f.b ++ bvs l = bvs (f.b ++ l) := by simp [bvs]
  have hll : (f.b ++ l).length = f.b.length + m := by simp [hl]
  have := h6.cellSet hv (j := 1) (by decide) ({ f with b := f.b ++ l }, .slice A2 (f.b.length + m) c2) (.slice A2 (f.b.length + m) c2) (by simp only [RFil.cells, e1]; rfl) (by
    simp only [hll, ← hbv]
    exact R2.1) hok
  exact ⟨fA, fc, v1, w5, A2, c2, w6, hrun1, hrun2, R1.2.2.1, R2.2.2.1, k1, hgr, h6.rowFrozen _, this.1, (Frm.nix R2.2.2.1).trans this.2, R2.2.1⟩

theorem deed_with (D : Dsk) (L : List Fil) : ({ D with L := L } : Dsk).deed = ({ D.deed.1 with L := L }, D.deed.2) := by
  unfold Dsk.deed
  simp only
  split <;> rfl

section
variable {w : World} {B g : Nat} {W F : Nat → Prop} {D : Dsk}

set_option maxRecDepth 100000 in
set_option maxHeartbeats 1000000 in
theorem rAppend_off (h : RD w B g W F D) (s : ByteArray) (bA : Option Addr) (m bc : Nat) (hoff : D.off = true) :
    Calls Try.prog 28 #[.pointer (some ⟨g, 0, none⟩), .string s, .slice bA m bc] w fun e w' => e = .returned (.int .i64 30) ∧ RGo w B g W F D w' := by
  obtain ⟨A, c, V, h1, h2, h3⟩ := h.at_
  have c3 := h1.blk.cell 3
  simp at c3
  rw [hoff] at c3
  have K := rfind_any h1 s
  have HH := Lib.hid h
  clear h h1 h2 h3 hoff
  go_enter Try.func28, Try.ntmps28
  go_wp2_with (go_at_call 44; refine K.mono ?_; rintro e w1 ⟨rfl, n, rfl⟩)
  go_ret
  exact ⟨rfl, HH.out.same ((Frm.refl Nix w).drewN _)⟩

set_option maxRecDepth 100000 in
set_option maxHeartbeats 1000000 in
theorem rAppend_bad (h : RD w B g W F D) (s : ByteArray) (bA : Option Addr) (m bc : Nat) (hoff : D.off = false) (hn : nameOk s = false) (hs : s.size ≤ maxLen) :
    Calls Try.prog 28 #[.pointer (some ⟨g, 0, none⟩), .string s, .slice bA m bc] w fun e w' => e = .returned (.int .i64 31) ∧ RGo w B g W F D w' := by
  obtain ⟨A, c, V, h1, h2, h3⟩ := h.at_
  have c3 := h1.blk.cell 3
  simp at c3
  rw [hoff] at c3
  have K := rfind_any h1 s
  have KN := fun w1 => Name_any s w1 hs
  rw [hn] at KN
  have HH := Lib.hid h
  clear h h1 h2 h3 hoff hn
  go_enter Try.func28, Try.ntmps28
  go_wp2_with (first | (go_at_call 44; refine K.mono ?_; rintro e w1 ⟨rfl, n, rfl⟩) | (go_at_call 21; refine (KN _).mono ?_; rintro e w2 ⟨rfl, rfl⟩))
  go_ret
  exact ⟨rfl, HH.out.same ((Frm.refl Nix w).drewN _)⟩

set_option maxRecDepth 100000 in
set_option maxHeartbeats 1000000 in
theorem rAppend_many (h : RD w B g W F D) (s : ByteArray) (bA : Option Addr) (m bc : Nat) (hoff : D.off = false) (hn : nameOk s = true) (hs : s.size ≤ maxLen) (hf : findF s D.L = none) (h64 : 64 ≤ D.L.length) :
    Calls Try.prog 28 #[.pointer (some ⟨g, 0, none⟩), .string s, .slice bA m bc] w fun e w' => e = .returned (.int .i64 2) ∧ RGo w B g W F D w' := by
  obtain ⟨A, c, V, h1, h2, h3⟩ := h.at_
  have c0 := h1.blk.cell 0
  have c3 := h1.blk.cell 3
  simp at c0 c3
  rw [hoff] at c3
  have hisf : isF s D.L = false := by simp [isF, hf]
  have K := rfind_any h1 s
  rw [hisf] at K
  have KN := fun w1 => Name_any s w1 hs
  rw [hn] at KN
  have HH := Lib.hid h
  have hge : decide ((64 : Int) ≤ (D.L.length : Int)) = true := by simp; omega
  clear h h1 h2 h3 hoff hn hf hisf
  go_enter Try.func28, Try.ntmps28
  go_wp2_with (first | (go_at_call 44; refine K.mono ?_; rintro e w1 ⟨rfl, n, rfl⟩) | (go_at_call 21; refine (KN _).mono ?_; rintro e w2 ⟨rfl, rfl⟩))
  have hcx : ∀ x : FW (Frm Nix w), x.w.cell? ⟨g, 0, none⟩ = some (.slice A D.L.length c) := fun x => (x.h.cell (below_size_of_cell c0) id).trans c0
  refine wp_region_class (Frm Nix w) (((Frm.refl Nix w).drewN _).drew) (by kernel_rfl) (by kernel_rfl) ?_
  repeat (go_big_quiet_step (fail))
  refine wpQuiet_nil ?_
  rintro w2 ⟨⟨_, hf2⟩, rfl⟩
  go_wp2
  go_ret
  exact ⟨rfl, HH.out.same hf2⟩

set_option maxRecDepth 100000 in
set_option maxHeartbeats 1000000 in
theorem rAppend_full (h : RD w B g W F D) (s : ByteArray) (bA : Option Addr) (m bc : Nat) (hoff : D.off = false) (hn : nameOk s = true) (hs : s.size ≤ maxLen) (hf : isF s D.L = true ∨ D.L.length < 64) (hm : m ≤ 140737488355328) (hfull : D.quota < usedL D.L + m) :
    Calls Try.prog 28 #[.pointer (some ⟨g, 0, none⟩), .string s, .slice bA m bc] w fun e w' => e = .returned (.int .i64 2) ∧ RGo w B g W F D w' := by
  obtain ⟨A, c, V, h1, h2, h3⟩ := h.at_
  have c0 := h1.blk.cell 0
  have c1 := h1.blk.cell 1
  have c3 := h1.blk.cell 3
  simp at c0 c1 c3
  rw [hoff] at c3
  have KN := fun w1 => Name_any s w1 hs
  rw [hn] at KN
  have HH := Lib.hid h
  have H1 := Lib.hid h1
  have hq0 := h1.ok.q0
  have hq1 := h1.ok.q1
  have hu := h1.ok.used
  have hww : IntKind.i64.wrap ((usedL D.L : Int) + (m : Int)) = (usedL D.L : Int) + (m : Int) := IntWalk.i64_in _ (by omega)
  have hcmp : decide (D.quota < (usedL D.L : Int) + (m : Int)) = true := by simp; omega
  have hcx : ∀ x : FW (Frm Nix w), x.w.cell? ⟨g, 0, none⟩ = some (.slice A D.L.length c) := fun x => (x.h.cell (below_size_of_cell c0) id).trans c0
  have hcy : ∀ x : FW (Frm Nix w), x.w.cell? ⟨g, 1, none⟩ = some (.int .i64 D.quota) := fun x => (x.h.cell (below_size_of_cell c1) id).trans c1
  rcases hisf : isF s D.L with _ | _
  · have K := rfind_any h1 s
    rw [hisf] at K
    have hlt : D.L.length < 64 := by simpa [hisf] using hf
    have hge : decide ((64 : Int) ≤ (D.L.length : Int)) = false := by simp; omega
    clear h h1 h2 h3 hoff hn hf hisf hfull
    go_enter Try.func28, Try.ntmps28
    go_wp2_with (first | (go_at_call 44; refine K.mono ?_; rintro e w1 ⟨rfl, n, rfl⟩) | (go_at_call 21; refine (KN _).mono ?_; rintro e w2 ⟨rfl, rfl⟩))
    refine wp_region_class (Frm Nix w) (((Frm.refl Nix w).drewN _).drew) (by kernel_rfl) (by kernel_rfl) ?_
    repeat (go_big_quiet_step (first | (rename_i x; go_at_call 35; refine x.call (rUsed_any (H1.out.nix x.h)) ?_; exact fun w' hf => hf ▸ x.h)))
    refine wpQuiet_nil ?_
    rintro w2 ⟨⟨_, hf2⟩, rfl⟩
    go_wp2
    go_ret
    exact ⟨rfl, HH.out.same hf2⟩
  · have K := rfind_any h1 s
    rw [hisf] at K
    clear h h1 h2 h3 hoff hn hf hisf hfull
    go_enter Try.func28, Try.ntmps28
    go_wp2_with (first | (go_at_call 44; refine K.mono ?_; rintro e w1 ⟨rfl, n, rfl⟩) | (go_at_call 21; refine (KN _).mono ?_; rintro e w2 ⟨rfl, rfl⟩))
    refine wp_region_class (Frm Nix w) (((Frm.refl Nix w).drewN _).drew) (by kernel_rfl) (by kernel_rfl) ?_
    repeat (go_big_quiet_step (first | (rename_i x; go_at_call 35; refine x.call (rUsed_any (H1.out.nix x.h)) ?_; exact fun w' hf => hf ▸ x.h)))
    refine wpQuiet_nil ?_
    rintro w2 ⟨⟨_, hf2⟩, rfl⟩
    go_wp2
    go_ret
    exact ⟨rfl, HH.out.same hf2⟩
end
end Go.Proofs.Ythhkblogocoeeaa
