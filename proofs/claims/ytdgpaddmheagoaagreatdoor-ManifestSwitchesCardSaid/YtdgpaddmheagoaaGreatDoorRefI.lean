/-
  The reference's disk: Append, done.
-/
import Derived.Test.YtdgpaddmheagoaaGreatDoorRefF
import Derived.Test.YtdgpaddmheagoaaGreatDoorRefD
namespace Go.Proofs.YtdgpaddmheagoaaGreatDoor
open Go.RowKit

/-- bytes that are new since w0. -/
def BytIn (w0 w1 : World) (B : Nat) (v : Value) (n : Nat) (xs : List Value) : Prop :=
  w1.ownsRow B 5 1 v n xs ∧ (∀ k, v.ownBlock = some k → w0.heap.size ≤ k) ∧ Frm Nix w0 w1 ∧ B ≤ w0.heap.size

section
variable {w0 w1 w2 : World} {B : Nat} {v : Value} {n : Nat} {xs : List Value}
theorem BytIn.app (h : BytIn w0 w1 B v n xs) {G : Nat → Prop} {A : Option Addr} {m : Nat} {ys : List Value} (c : Nat) (hr : Rd w1 G 1 A m ys) (h1 : ∀ u ∈ ys, u.oneCell' = true) (hn : n + m ≤ 140737488355328) :
    ∃ v' w2, (∀ ty, (Builtin.append_ #[35, 35] ty #[v, .slice A m c]).run Tryz.prog w1 = .ok v' w2) ∧ BytIn w0 w2 B v' (n + m) (xs ++ ys) ∧ Frm (fun k => v.ownBlock = some k) w1 w2 := by
  obtain ⟨i0, hi0, hz0, hz1, hz2⟩ := info_parts info_u8
  obtain ⟨v1, w2, hrun, hown, hg, hat⟩ := run_append_any (P := Tryz.prog) w1 B 35 5 i0 _ 1 1 Tryz.underlying35 hi0 hz0 hz1 hz2 rfl (by decide) v n xs h.1
    _ A m c ys hr h1 (by unfold maxLen; omega) (by omega) (Nat.le_trans h.2.2.2 h.2.2.1.size)
  refine ⟨v1, w2, hrun, ⟨hown, fun k hk => ?_, h.2.2.1.grown hg (fun k hk => .inr (h.2.1 k hk)), h.2.2.2⟩, (Frm.refl _ w1).grown hg fun k hk => .inl hk⟩
  rcases hat with e | e
  · rw [e] at hk
    exact h.2.1 k hk
  · rw [e] at hk
    injection hk with hk
    have := h.2.2.1.size
    omega
theorem BytIn.drewN (h : BytIn w0 w1 B v n xs) (k : Nat) : BytIn w0 (w1.drewN k) B v n xs := ⟨own_frm h.1 ((Frm.refl Nix w1).drewN k) (fun _ _ => id), h.2.1, h.2.2.1.drewN k, h.2.2.2⟩
theorem BytIn.drew (h : BytIn w0 w1 B v n xs) : BytIn w0 w1.drew B v n xs := ⟨own_frm h.1 (Frm.refl Nix w1).drew (fun _ _ => id), h.2.1, h.2.2.1.drew, h.2.2.2⟩
theorem BytIn.new_ (hB : B ≤ w0.heap.size) (hf : Frm Nix w0 w1) : BytIn w0 (w1.alloc (.cells #[] 5)) B (.slice (some ⟨w1.heap.size, 0, none⟩) 0 0) 0 [] :=
  ⟨⟨rfl, .inr ⟨_, 0, #[], rfl, Nat.le_trans hB hf.size, heap_alloc_new w1 _, Nat.le_refl _, Nat.zero_le _, rfl, rfl⟩⟩, fun k hk => by
    simp [Value.ownBlock] at hk
    have := hf.size
    omega, hf.alloc _, hB⟩
end

set_option maxRecDepth 100000 in
set_option maxHeartbeats 1000000 in
theorem rRead_any {w : World} {B g : Nat} {W F : Nat → Prop} {D : Dsk} (h : RD w B g W F D) (s : ByteArray) :
    Calls Tryz.prog 30 #[.pointer (some ⟨g, 0, none⟩), .string s] w (ReadOut w (D.read s) (D.there s)) := by
  obtain ⟨A, c, V, h1, h2, h3⟩ := h.at_
  have c3 := h1.blk.cell 3
  simp at c3
  have H1 := Lib.hid h1
  have hB := h.lt
  clear h1 h2 h3 h
  rcases hoff : D.off with _ | _
  · rcases hf : findF s D.L with _ | f
    · have hth : D.there s = 4 := by simp [Dsk.there, hoff, hf]
      have hrd : D.read s = [] := by simp [Dsk.read, hth]
      have hisf : isF s D.L = false := by simp [isF, hf]
      have K := rfind_any H1.out s
      rw [hisf] at K
      rw [hth, hrd]
      rw [hoff] at c3
      clear hth hf hisf hoff hrd
      go_enter Tryz.func30, Tryz.ntmps30
      go_wp2_with (go_at_call 60; refine K.mono ?_; rintro e w1 ⟨rfl, n, rfl⟩)
      go_ret2
      exact ⟨_, rfl, World.ownsRow_nil _ _ _ _, (Frm.refl Nix w).drewN _⟩
    · have hth : D.there s = 0 := by simp [Dsk.there, hoff, hf]
      have hrd : D.read s = f.b := by simp [Dsk.read, hth, hf]
      have hisf : isF s D.L = true := by simp [isF, hf]
      have K := rfind_any H1.out s
      rw [hisf] at K
      rw [hth, hrd]
      rw [hoff] at c3
      obtain ⟨p1, -⟩ := posF_some H1.out.ok.sorted hf
      clear hth hf hisf hoff hrd
      generalize posF s D.L = p at *
      obtain ⟨hpl, hpf⟩ := List.getElem?_eq_some_iff.1 p1
      obtain ⟨gr, fA, fc, rfl, ⟨hv, e1, e2⟩, k0, k1, k2, -, -, hown, hbl, hgr, hgB⟩ := H1.out.at_ hpl
      rw [hpf] at e1 e2 k0 k1 k2 hown hbl
      have c0 := H1.out.blk.cell 0
      simp at c0
      have hp0 : (0 : Int) ≤ (p : Int) := Int.natCast_nonneg _
      have hp1 : (p : Int) < (D.L.length : Int) := by omega
      have hone : ∀ u ∈ bvs f.b, u.oneCell' = true := by
        intro u hu
        obtain ⟨x, -, rfl⟩ := List.mem_map.1 hu
        rfl
      have HR : Hid (∀ w1, Frm Nix w w1 → (∃ v' w2, (∀ ty, (Builtin.append_ #[35, 35] ty #[.slice (some ⟨w1.heap.size, 0, none⟩) 0 0, .slice fA f.b.length fc]).run Tryz.prog (w1.alloc (.cells #[] 5)) = .ok v' w2) ∧ BytIn w w2 w.heap.size v' (0 + f.b.length) ([] ++ bvs f.b) ∧ Frm (fun k => (Value.slice (some ⟨w1.heap.size, 0, none⟩) 0 0).ownBlock = some k) (w1.alloc (.cells #[] 5)) w2) ∧
          w1.cell? ⟨g, 0, none⟩ = some (.slice (some ⟨gr, 0, none⟩) D.L.length c) ∧ w1.cell? ⟨g, 3, none⟩ = some (.bool false) ∧ (w1.alloc (.cells #[] 5)).cell? ⟨g, 0, none⟩ = some (.slice (some ⟨gr, 0, none⟩) D.L.length c) ∧ (w1.alloc (.cells #[] 5)).cell? ⟨gr, p * 3 + 1, none⟩ = some (.slice fA f.b.length fc)) := fun w1 hf =>
        ⟨(BytIn.new_ (B := w.heap.size) (w0 := w) (w1 := w1) (Nat.le_refl _) hf).app fc ((Rd.of_own hown).frm (hf.alloc (.cells #[] 5)) fun _ _ => id) hone (by omega),
          (hf.cell (p := ⟨g, 0, none⟩) H1.out.blk.lt id).trans c0, (hf.cell (p := ⟨g, 3, none⟩) H1.out.blk.lt id).trans c3, ((hf.alloc _).cell (p := ⟨g, 0, none⟩) H1.out.blk.lt id).trans c0, ((hf.alloc _).cell (p := ⟨gr, p * 3 + 1, none⟩) hgr id).trans k1⟩
      clear hown e1 e2 hpf p1 hone c0 c3 k0 k1 k2
      go_enter Tryz.func30, Tryz.ntmps30
      go_wp2_with (first | (go_at_call 60; refine K.mono ?_; rintro e w1 ⟨rfl, n, hn⟩; have hfw : Frm Nix w w1 := hn ▸ (Frm.refl Nix w).drewN n; clear hn; obtain ⟨⟨v1, w2, hrun, R1, -⟩, c0, c3, c0', k1⟩ := HR.out w1 hfw) | (at_builtin; refine wpList_append_run hrun rfl _ _ rfl rfl rfl ?_))
      go_ret2
      rw [Nat.zero_add, List.nil_append] at R1
      exact ⟨_, rfl, R1.1, R1.2.2.1⟩
  · have hth : D.there s = 30 := by simp [Dsk.there, hoff]
    have hrd : D.read s = [] := by simp [Dsk.read, hth]
    rw [hth, hrd]
    rw [hoff] at c3
    have K := rfind_any H1.out s
    clear hth hoff hrd
    go_enter Tryz.func30, Tryz.ntmps30
    go_wp2_with (go_at_call 60; refine K.mono ?_; rintro e w1 ⟨rfl, n, rfl⟩)
    go_ret2
    exact ⟨_, rfl, World.ownsRow_nil _ _ _ _, (Frm.refl Nix w).drewN _⟩
end Go.Proofs.YtdgpaddmheagoaaGreatDoor

namespace Go.Proofs.YtdgpaddmheagoaaGreatDoor
open Go.RowKit

/-- bytes behind a file's, in a slice of their own. -/
theorem app_tail {w4 : World} {B g gr c4 p : Nat} {D4 : Dsk} {V4 : List RFil} (h4 : RDiskAt w4 B g D4 (some ⟨gr, 0, none⟩) c4 V4) (hp : p < D4.L.length) {f : Fil} (hf : D4.L[p] = f)
    {G : Nat → Prop} {bA : Option Addr} {m : Nat} (bc : Nat) {l : List UInt8} (hrd : Rd w4 G 1 bA m (bvs l)) (hl : l.length = m) (hm : f.b.length + m ≤ 140737488355328)
    (hok : ({ D4 with L := D4.L.set p { f with b := f.b ++ l } } : Dsk).Ok) :
    ∃ fA fc v1 w5 A2 c2 w6, (∀ ty, (Builtin.append_ #[35, 35] ty #[.slice (some ⟨w4.heap.size, 0, none⟩) 0 0, .slice fA f.b.length fc]).run Tryz.prog (w4.alloc (.cells #[] 5)).drew = .ok v1 w5) ∧
      (∀ ty, (Builtin.append_ #[35, 35] ty #[v1, .slice bA m bc]).run Tryz.prog w5 = .ok (.slice A2 (f.b.length + m) c2) w6) ∧
      Frm Nix w4 w5 ∧ Frm Nix w4 w6 ∧ w4.cell? ⟨gr, p * 3 + 1, none⟩ = some (.slice fA f.b.length fc) ∧ gr < w4.heap.size ∧ w6.frozen? ⟨gr, p * 3 + 1, none⟩ = false ∧
      RDiskAt (w6.setCell ⟨gr, p * 3 + 1, none⟩ (.slice A2 (f.b.length + m) c2)) B g { D4 with L := D4.L.set p { f with b := f.b ++ l } } (some ⟨gr, 0, none⟩) c4 (V4.set p ({ f with b := f.b ++ l }, .slice A2 (f.b.length + m) c2)) ∧
      Frm (fun k => k = gr) w4 (w6.setCell ⟨gr, p * 3 + 1, none⟩ (.slice A2 (f.b.length + m) c2)) ∧ ∀ k, (Value.slice A2 (f.b.length + m) c2).ownBlock = some k → w4.heap.size ≤ k := by
  obtain ⟨gr', fA, fc, hgr', ⟨hv, e1, e2⟩, k0, k1, k2, -, -, hown, hbl, hgr, hgB⟩ := h4.at_ hp
  injection hgr' with hgr'
  injection hgr' with hgr'
  subst hgr'
  rw [hf] at e1 e2 k0 k1 k2 hown hbl
  have hB : B ≤ w4.heap.size := by omega
  have S := (BytIn.new_ (B := B) (w0 := w4) (w1 := w4) hB (Frm.refl Nix w4)).drew
  obtain ⟨v1, w5, hrun1, R1, -⟩ := S.app fc ((Rd.of_own hown).frm S.2.2.1 fun _ _ => id) (bvs_one _) (by omega)
  rw [Nat.zero_add, List.nil_append] at R1
  obtain ⟨v2, w6, hrun2, R2, -⟩ := R1.app bc (hrd.frm R1.2.2.1 fun _ _ => id) (bvs_one _) hm
  obtain ⟨A2, c2, rfl, -⟩ := own_shape R2.1
  have h6 := h4.nix R2.2.2.1
  have hbv : bvs f.b ++ bvs l = bvs (f.b ++ l) := by simp [bvs]
  have hll : (f.b ++ l).length = f.b.length + m := by simp [hl]
  have := h6.cellSet hv (j := 1) (by decide) ({ f with b := f.b ++ l }, .slice A2 (f.b.length + m) c2) (.slice A2 (f.b.length + m) c2) (by simp only [RFil.cells, e1]; rfl) (by
    simp only [hll, ← hbv]
    exact R2.1) hok
  exact ⟨fA, fc, v1, w5, A2, c2, w6, hrun1, hrun2, R1.2.2.1, R2.2.2.1, k1, hgr, h6.rowFrozen _, this.1, (Frm.nix R2.2.2.1).trans this.2, R2.2.1⟩

theorem deed_with (D : Dsk) (L : List Fil) : ({ D with L := L } : Dsk).deed = ({ D.deed.1 with L := L }, D.deed.2) := by
  unfold Dsk.deed
  simp only
  split <;> rfl

section
variable {w : World} {B g : Nat} {W F : Nat → Prop} {D : Dsk}

set_option maxRecDepth 100000 in
set_option maxHeartbeats 1000000 in
theorem rAppend_off (h : RD w B g W F D) (s : ByteArray) (bA : Option Addr) (m bc : Nat) (hoff : D.off = true) :
    Calls Tryz.prog 22 #[.pointer (some ⟨g, 0, none⟩), .string s, .slice bA m bc] w fun e w' => e = .returned (.int .i64 30) ∧ RGo w B g W F D w' := by
  obtain ⟨A, c, V, h1, h2, h3⟩ := h.at_
  have c3 := h1.blk.cell 3
  simp at c3
  rw [hoff] at c3
  have K := rfind_any h1 s
  have HH := Lib.hid h
  clear h h1 h2 h3 hoff
  go_enter Tryz.func22, Tryz.ntmps22
  go_wp2_with (go_at_call 60; refine K.mono ?_; rintro e w1 ⟨rfl, n, rfl⟩)
  go_ret
  exact ⟨rfl, HH.out.same ((Frm.refl Nix w).drewN _)⟩

set_option maxRecDepth 100000 in
set_option maxHeartbeats 1000000 in
theorem rAppend_bad (h : RD w B g W F D) (s : ByteArray) (bA : Option Addr) (m bc : Nat) (hoff : D.off = false) (hn : nameOk s = false) (hs : s.size ≤ maxLen) :
    Calls Tryz.prog 22 #[.pointer (some ⟨g, 0, none⟩), .string s, .slice bA m bc] w fun e w' => e = .returned (.int .i64 31) ∧ RGo w B g W F D w' := by
  obtain ⟨A, c, V, h1, h2, h3⟩ := h.at_
  have c3 := h1.blk.cell 3
  simp at c3
  rw [hoff] at c3
  have K := rfind_any h1 s
  have KN := fun w1 => Name_any s w1 hs
  rw [hn] at KN
  have HH := Lib.hid h
  clear h h1 h2 h3 hoff hn
  go_enter Tryz.func22, Tryz.ntmps22
  go_wp2_with (first | (go_at_call 60; refine K.mono ?_; rintro e w1 ⟨rfl, n, rfl⟩) | (go_at_call 61; refine (KN _).mono ?_; rintro e w2 ⟨rfl, rfl⟩))
  go_ret
  exact ⟨rfl, HH.out.same ((Frm.refl Nix w).drewN _)⟩

set_option maxRecDepth 100000 in
set_option maxHeartbeats 1000000 in
theorem rAppend_many (h : RD w B g W F D) (s : ByteArray) (bA : Option Addr) (m bc : Nat) (hoff : D.off = false) (hn : nameOk s = true) (hs : s.size ≤ maxLen) (hf : findF s D.L = none) (h64 : 64 ≤ D.L.length) :
    Calls Tryz.prog 22 #[.pointer (some ⟨g, 0, none⟩), .string s, .slice bA m bc] w fun e w' => e = .returned (.int .i64 2) ∧ RGo w B g W F D w' := by
  obtain ⟨A, c, V, h1, h2, h3⟩ := h.at_
  have c0 := h1.blk.cell 0
  have c3 := h1.blk.cell 3
  simp at c0 c3
  rw [hoff] at c3
  have hisf : isF s D.L = false := by simp [isF, hf]
  have K := rfind_any h1 s
  rw [hisf] at K
  have KN := fun w1 => Name_any s w1 hs
  rw [hn] at KN
  have HH := Lib.hid h
  have hge : decide ((64 : Int) ≤ (D.L.length : Int)) = true := by simp; omega
  clear h h1 h2 h3 hoff hn hf hisf
  go_enter Tryz.func22, Tryz.ntmps22
  go_wp2_with (first | (go_at_call 60; refine K.mono ?_; rintro e w1 ⟨rfl, n, rfl⟩) | (go_at_call 61; refine (KN _).mono ?_; rintro e w2 ⟨rfl, rfl⟩))
  have hcx : ∀ x : FW (Frm Nix w), x.w.cell? ⟨g, 0, none⟩ = some (.slice A D.L.length c) := fun x => (x.h.cell (below_size_of_cell c0) id).trans c0
  refine wp_region_class (Frm Nix w) (((Frm.refl Nix w).drewN _).drew) (by kernel_rfl) (by kernel_rfl) ?_
  repeat (go_big_quiet_step (fail))
  refine wpQuiet_nil ?_
  rintro w2 ⟨⟨_, hf2⟩, rfl⟩
  go_wp2
  go_ret
  exact ⟨rfl, HH.out.same hf2⟩

set_option maxRecDepth 100000 in
set_option maxHeartbeats 1000000 in
theorem rAppend_full (h : RD w B g W F D) (s : ByteArray) (bA : Option Addr) (m bc : Nat) (hoff : D.off = false) (hn : nameOk s = true) (hs : s.size ≤ maxLen) (hf : isF s D.L = true ∨ D.L.length < 64) (hm : m ≤ 140737488355328) (hfull : D.quota < usedL D.L + m) :
    Calls Tryz.prog 22 #[.pointer (some ⟨g, 0, none⟩), .string s, .slice bA m bc] w fun e w' => e = .returned (.int .i64 2) ∧ RGo w B g W F D w' := by
  obtain ⟨A, c, V, h1, h2, h3⟩ := h.at_
  have c0 := h1.blk.cell 0
  have c1 := h1.blk.cell 1
  have c3 := h1.blk.cell 3
  simp at c0 c1 c3
  rw [hoff] at c3
  have KN := fun w1 => Name_any s w1 hs
  rw [hn] at KN
  have HH := Lib.hid h
  have H1 := Lib.hid h1
  have hq0 := h1.ok.q0
  have hq1 := h1.ok.q1
  have hu := h1.ok.used
  have hww : IntKind.i64.wrap ((usedL D.L : Int) + (m : Int)) = (usedL D.L : Int) + (m : Int) := IntWalk.i64_in _ (by omega)
  have hcmp : decide (D.quota < (usedL D.L : Int) + (m : Int)) = true := by simp; omega
  have hcx : ∀ x : FW (Frm Nix w), x.w.cell? ⟨g, 0, none⟩ = some (.slice A D.L.length c) := fun x => (x.h.cell (below_size_of_cell c0) id).trans c0
  have hcy : ∀ x : FW (Frm Nix w), x.w.cell? ⟨g, 1, none⟩ = some (.int .i64 D.quota) := fun x => (x.h.cell (below_size_of_cell c1) id).trans c1
  rcases hisf : isF s D.L with _ | _
  · have K := rfind_any h1 s
    rw [hisf] at K
    have hlt : D.L.length < 64 := by simpa [hisf] using hf
    have hge : decide ((64 : Int) ≤ (D.L.length : Int)) = false := by simp; omega
    clear h h1 h2 h3 hoff hn hf hisf hfull
    go_enter Tryz.func22, Tryz.ntmps22
    go_wp2_with (first | (go_at_call 60; refine K.mono ?_; rintro e w1 ⟨rfl, n, rfl⟩) | (go_at_call 61; refine (KN _).mono ?_; rintro e w2 ⟨rfl, rfl⟩))
    refine wp_region_class (Frm Nix w) (((Frm.refl Nix w).drewN _).drew) (by kernel_rfl) (by kernel_rfl) ?_
    repeat (go_big_quiet_step (first | (rename_i x; go_at_call 43; refine x.call (rUsed_any (H1.out.nix x.h)) ?_; exact fun w' hf => hf ▸ x.h)))
    refine wpQuiet_nil ?_
    rintro w2 ⟨⟨_, hf2⟩, rfl⟩
    go_wp2
    go_ret
    exact ⟨rfl, HH.out.same hf2⟩
  · have K := rfind_any h1 s
    rw [hisf] at K
    clear h h1 h2 h3 hoff hn hf hisf hfull
    go_enter Tryz.func22, Tryz.ntmps22
    go_wp2_with (first | (go_at_call 60; refine K.mono ?_; rintro e w1 ⟨rfl, n, rfl⟩) | (go_at_call 61; refine (KN _).mono ?_; rintro e w2 ⟨rfl, rfl⟩))
    refine wp_region_class (Frm Nix w) (((Frm.refl Nix w).drewN _).drew) (by kernel_rfl) (by kernel_rfl) ?_
    repeat (go_big_quiet_step (first | (rename_i x; go_at_call 43; refine x.call (rUsed_any (H1.out.nix x.h)) ?_; exact fun w' hf => hf ▸ x.h)))
    refine wpQuiet_nil ?_
    rintro w2 ⟨⟨_, hf2⟩, rfl⟩
    go_wp2
    go_ret
    exact ⟨rfl, HH.out.same hf2⟩
end
end Go.Proofs.YtdgpaddmheagoaaGreatDoor

namespace Go.Proofs.YtdgpaddmheagoaaGreatDoor
open Go.RowKit

section
variable {w : World} {B g : Nat} {W F : Nat → Prop} {D : Dsk}

/-- what is left of an append from world w4 on: the disk D4 with its file at p. -/
structure AppAt (w : World) (B g : Nat) (W F : Nat → Prop) (D' : Dsk) (w4 : World) (p : Nat) (bA : Option Addr) (m bc : Nat) (gr n4 c4 : Nat) (fA : Option Addr) (fn fc : Nat) (v1 : Value) (w5 : World) (A2 : Option Addr) (c2 : Nat) (w6 : World) : Prop where
  run1 : ∀ ty, (Builtin.append_ #[35, 35] ty #[.slice (some ⟨w4.heap.size, 0, none⟩) 0 0, .slice fA fn fc]).run Tryz.prog (w4.alloc (.cells #[] 5)).drew = .ok v1 w5
  run2 : ∀ ty, (Builtin.append_ #[35, 35] ty #[v1, .slice bA m bc]).run Tryz.prog w5 = .ok (.slice A2 (fn + m) c2) w6
  x4 : w4.cell? ⟨g, 0, none⟩ = some (.slice (some ⟨gr, 0, none⟩) n4 c4)
  x4a : (w4.alloc (.cells #[] 5)).cell? ⟨g, 0, none⟩ = some (.slice (some ⟨gr, 0, none⟩) n4 c4)
  x5 : w5.cell? ⟨g, 0, none⟩ = some (.slice (some ⟨gr, 0, none⟩) n4 c4)
  x6 : w6.cell? ⟨g, 0, none⟩ = some (.slice (some ⟨gr, 0, none⟩) n4 c4)
  k4 : w4.cell? ⟨gr, p * 3 + 1, none⟩ = some (.slice fA fn fc)
  k4a : (w4.alloc (.cells #[] 5)).cell? ⟨gr, p * 3 + 1, none⟩ = some (.slice fA fn fc)
  k6 : w6.cell? ⟨gr, p * 3 + 1, none⟩ = some (.slice fA fn fc)
  z6 : w6.frozen? ⟨gr, p * 3 + 1, none⟩ = false
  b0 : (0 : Int) ≤ p
  b1 : (p : Int) < n4
  fin : RGo w B g W F D' (w6.setCell ⟨gr, p * 3 + 1, none⟩ (.slice A2 (fn + m) c2))

theorem appAt {w4 : World} {c4 p : Nat} {D4 : Dsk} {A A4 : Option Addr} {c : Nat} {V V4 : List RFil} (h : RD w B g W F D) (h2 : ∀ k, RFoot g (.slice A D.L.length c) k → W k) (h3 : ∀ r ∈ V, ∀ k, r.2.ownBlock = some k → F k)
    (h4 : RDiskAt w4 B g D4 A4 c4 V4) (hf4 : Frm (fun k => k = g) w w4) (hrow : ∀ k, (Value.slice A4 D4.L.length c4).ownBlock = some k → RFoot g (.slice A D.L.length c) k ∨ w.heap.size ≤ k)
    (hV : ∀ r ∈ V4, ∀ k, r.2.ownBlock = some k → (∃ r' ∈ V, r'.2.ownBlock = some k) ∨ w.heap.size ≤ k)
    (hp : p < D4.L.length) {f : Fil} (hf : D4.L[p] = f)
    {G : Nat → Prop} {bA : Option Addr} {m : Nat} (bc : Nat) {l : List UInt8} (hrd : Rd w G 1 bA m (bvs l)) (hG : ∀ k, G k → ¬ F k) (hl : l.length = m) (hm : f.b.length + m ≤ 140737488355328)
    (hok : ({ D4 with L := D4.L.set p { f with b := f.b ++ l } } : Dsk).Ok) :
    ∃ gr c4 fA fc v1 w5 A2 c2 w6, AppAt w B g W F { D4 with L := D4.L.set p { f with b := f.b ++ l } } w4 p bA m bc gr D4.L.length c4 fA f.b.length fc v1 w5 A2 c2 w6 := by
  obtain ⟨gr, -, -, rfl, -⟩ := h4.at_ hp
  have hrd4 := hrd.frm hf4 (fun k hk e => hG k hk (by rw [e]; exact h.wf _ (h2 g (.inl rfl))))
  obtain ⟨fA, fc, v1, w5, A2, c2, w6, r1, r2, f5, f6, k1, hgr, hz, h7, hf7, hn7⟩ := app_tail h4 hp hf bc hrd4 hl hm hok
  have hgl := h4.blk.lt
  have c0 := h4.blk.cell 0
  simp at c0
  have hfa : Frm Nix w4 (w4.alloc (.cells #[] 5)) := (Frm.refl Nix w4).alloc _
  have hgr' := hrow gr rfl
  refine ⟨gr, c4, fA, fc, v1, w5, A2, c2, w6, r1, r2, c0, (hfa.cell (p := ⟨g, 0, none⟩) hgl id).trans c0, (f5.cell (p := ⟨g, 0, none⟩) hgl id).trans c0, (f6.cell (p := ⟨g, 0, none⟩) hgl id).trans c0, k1, (hfa.cell (p := ⟨gr, p * 3 + 1, none⟩) hgr id).trans k1,
    (f6.cell (p := ⟨gr, p * 3 + 1, none⟩) hgr id).trans k1, hz, Int.natCast_nonneg _, by omega, ?_⟩
  have hs := hf4.size
  refine h.go h.lt h2 h3 h7 ((hf4.mono fun k e => .inl e).next hf7 (fun k e => by rw [e]; exact hgr')) (fun k hk => hrow k (by rw [← hk]; exact ownBlock_slice _ _ _ _ _)) (fun r hr k hk => ?_)
  rcases List.mem_or_eq_of_mem_set hr with hr | rfl
  · exact hV r hr k hk
  · exact .inr (Nat.le_trans hs (hn7 k hk))

theorem RGo.more {D' : Dsk} {w1 w2 : World} (h : RGo w B g W F D' w1) (hf : Frm Nix w1 w2) : RGo w B g W F D' w2 := by
  obtain ⟨W', F', h1, h2, h3, h4⟩ := h
  exact ⟨W', F', h1.nix hf, h2.more hf, h3, h4⟩

end
end Go.Proofs.YtdgpaddmheagoaaGreatDoor
