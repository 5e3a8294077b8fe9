/-
  How a disk lies in memory, and the contracts of the disk package's small functions.
-/
import Derived.Test.YtdgpaddmheagoaaGreatDoorProg
import Derived.Test.YtdgpaddmheagoaaGreatDoorDiskM
namespace Go.Proofs.YtdgpaddmheagoaaGreatDoor
open Go.RowKit

abbrev bv (c : UInt8) : Value := .int .u8 c.toNat
def bvs (l : List UInt8) : List Value := l.map bv

structure Rep where
  fil : Fil
  fb : Nat
  A : Option Addr
  cap : Nat
  born : Nat
def Rep.v (r : Rep) : Value := .slice r.A r.fil.b.length r.cap
def Rep.ent (r : Rep) : Ent := ⟨r.fil.name, .pointer (some ⟨r.fb, 0, none⟩), r.born⟩

structure FileAt (w : World) (B : Nat) (r : Rep) : Prop where
  blk : Blk w r.fb 86 #[r.v, .int .i64 r.fil.safe]
  fB : B ≤ r.fb
  own : w.ownsRow B 5 1 r.v r.fil.b.length (bvs r.fil.b)

structure Dsk.Ok (d : Dsk) : Prop where
  sorted : SortedF d.L
  lo : -1 ≤ d.left
  hi : d.left ≤ 9223372036854775807
  q0 : 0 ≤ d.quota
  q1 : d.quota ≤ 16777216
  used : (usedL d.L : Int) ≤ d.quota
  safe : ∀ f ∈ d.L, f.safe ≤ f.b.length
  cnt : d.L.length ≤ 64
  nm : ∀ f ∈ d.L, nameOk f.name = true

structure DiskAt (w : World) (B g m : Nat) (D : Dsk) (R : List Rep) (clock : Nat) : Prop where
  gB : B ≤ g
  mB : B ≤ m
  blk : Blk w g 54 #[.map (some m), .int .i64 D.quota, .int .i64 D.left, .bool D.off, .int .i64 D.deeds]
  map : SMap w m (R.map Rep.ent) clock
  files : ∀ r ∈ R, FileAt w B r
  born : ∀ r ∈ R, r.born < clock
  borns : (R.map (·.born)).Nodup
  apart : ∀ a ∈ R, ∀ b ∈ R, a.fil.name ≠ b.fil.name → a.fb ≠ b.fb ∧ ∀ k, a.v.ownBlock = some k → b.v.ownBlock ≠ some k
  perm : D.L.Perm (R.map (·.fil))
  ok : D.Ok

def Foot (g m : Nat) (R : List Rep) : Nat → Prop := fun k => k = g ∨ k = m ∨ (∃ r ∈ R, k = r.fb) ∨ (∃ r ∈ R, r.v.ownBlock = some k)

/-- A disk D behind a pointer to block g, its memory F, from block B on. -/
def Dk (w : World) (B g : Nat) (F : Nat → Prop) (D : Dsk) : Prop := ∃ m R clock, DiskAt w B g m D R clock ∧ F = Foot g m R

theorem FileAt.lt {w : World} {B : Nat} {r : Rep} (h : FileAt w B r) : ∀ k, r.v.ownBlock = some k → B ≤ k ∧ k < w.heap.size := h.own.lt
theorem FileAt.frm {w w1 : World} {B : Nat} {r : Rep} {F : Nat → Prop} (h : FileAt w B r) (hf : Frm F w w1) (h1 : ¬ F r.fb) (h2 : ∀ k, r.v.ownBlock = some k → ¬ F k) : FileAt w1 B r :=
  ⟨h.blk.frm hf h1, h.fB, own_frm h.own hf h2⟩

theorem DiskAt.frm {w w1 : World} {B g m clock : Nat} {D : Dsk} {R : List Rep} {F : Nat → Prop} (h : DiskAt w B g m D R clock) (hf : Frm F w w1) (hd : ∀ k, Foot g m R k → ¬ F k) : DiskAt w1 B g m D R clock :=
  { h with
    blk := h.blk.frm hf (hd g (.inl rfl))
    map := h.map.frm hf (hd m (.inr (.inl rfl)))
    files := fun r hr => (h.files r hr).frm hf (hd _ (.inr (.inr (.inl ⟨r, hr, rfl⟩)))) fun k hk => hd k (.inr (.inr (.inr ⟨r, hr, hk⟩))) }
theorem Dk.frm {w w1 : World} {B g : Nat} {D : Dsk} {F F' : Nat → Prop} (h : Dk w B g F D) (hf : Frm F' w w1) (hd : ∀ k, F k → ¬ F' k) : Dk w1 B g F D := by
  obtain ⟨m, R, clock, h, rfl⟩ := h
  exact ⟨m, R, clock, h.frm hf hd, rfl⟩
theorem Dk.nix {w w1 : World} {B g : Nat} {D : Dsk} {F : Nat → Prop} (h : Dk w B g F D) (hf : Frm Nix w w1) : Dk w1 B g F D := h.frm hf fun _ _ => id
theorem Dk.lo {w : World} {B g : Nat} {D : Dsk} {F : Nat → Prop} (h : Dk w B g F D) : ∀ k, F k → B ≤ k ∧ k < w.heap.size := by
  obtain ⟨m, R, clock, h, rfl⟩ := h
  rintro k (rfl | rfl | ⟨r, hr, rfl⟩ | ⟨r, hr, hk⟩)
  · exact ⟨h.gB, h.blk.lt⟩
  · exact ⟨h.mB, h.map.lt⟩
  · exact ⟨(h.files r hr).fB, (h.files r hr).blk.lt⟩
  · exact (h.files r hr).lt k hk

/-! ### New, ready, deed, Off, Deeds, Stop -/

set_option maxRecDepth 100000 in
theorem New_no (q : Int) (w : World) (h : q < 0 ∨ 16777216 < q) :
    Calls Tryz.prog 6 #[.int .i64 q] w fun e w' => e = .returned (.tuple #[.pointer none, .int .i64 1]) ∧ w = w' := by
  rcases h with h | h
  · go_enter Tryz.func6, Tryz.ntmps6
    go_wp2
    go_ret2
    exact ⟨rfl, rfl⟩
  · have h' : ¬ q < 0 := by omega
    go_enter Tryz.func6, Tryz.ntmps6
    go_wp2
    go_ret2
    exact ⟨rfl, rfl⟩

def dsk0 (q : Int) : Dsk := ⟨[], q, -1, false, 0⟩

set_option maxRecDepth 100000 in
theorem New_yes (q : Int) (w : World) (B : Nat) (hB : B ≤ w.heap.size) (h0 : 0 ≤ q) (h1 : q ≤ 16777216) :
    Calls Tryz.prog 6 #[.int .i64 q] w fun e w' => ∃ g F, e = .returned (.tuple #[.pointer (some ⟨g, 0, none⟩), .int .i64 0]) ∧ Dk w' B g F (dsk0 q) ∧ Frm Nix w w' ∧ ∀ k, F k → w.heap.size ≤ k := by
  have hmm := @run_makeMap Tryz.prog
  go_enter Tryz.func6, Tryz.ntmps6
  go_wp2
  go_ret2
  refine ⟨w.heap.size + 1, Foot (w.heap.size + 1) w.heap.size [], rfl, ⟨w.heap.size, [], 0, ?_, rfl⟩, ((Frm.refl _ w).alloc _).alloc _, ?_⟩
  · refine ⟨by omega, hB, ?_, ?_, by simp, by simp, by simp, by simp, by simp [dsk0], ⟨by simp [dsk0, SortedF], by simp [dsk0], by simp [dsk0], h0, h1, by simpa [dsk0, usedL] using h0, by simp [dsk0], by simp [dsk0], by simp [dsk0]⟩⟩
    · have := Blk.new (w.alloc (.map #[] 0)) 54 #[.map (some w.heap.size), .int .i64 q, .int .i64 (-1), .bool false, .int .i64 0]
      simpa [dsk0] using this
    · exact (Below.heap_alloc _ _ _ (by simp)).trans (heap_alloc_new w _)
  · rintro k (rfl | rfl | ⟨r, hr, _⟩ | ⟨r, hr, _⟩)
    · omega
    · omega
    · cases hr
    · cases hr

set_option maxRecDepth 100000 in
theorem ready_nil (w : World) : Calls Tryz.prog 57 #[.pointer none] w fun e w' => e = .returned (.int .i64 6) ∧ w = w' := by
  go_enter Tryz.func57, Tryz.ntmps57
  go_wp2
  go_ret
  exact ⟨rfl, rfl⟩

set_option maxRecDepth 100000 in
theorem ready_any (g m : Nat) (q l d : Value) (off : Bool) (w : World) (h : Blk w g 54 #[.map (some m), q, l, .bool off, d]) :
    Calls Tryz.prog 57 #[.pointer (some ⟨g, 0, none⟩)] w fun e w' => e = .returned (.int .i64 (if off then 30 else 0)) ∧ w = w' := by
  have c0 := h.cell 0
  have c3 := h.cell 3
  simp at c0 c3
  clear h
  have hm := fun (W : World) (r : Option Nat) => run_eql_map_nil (P := Tryz.prog) W 52 9 83 r Tryz.underlying52
  cases off
  · go_enter Tryz.func57, Tryz.ntmps57
    go_wp2
    go_ret
    exact ⟨rfl, rfl⟩
  · go_enter Tryz.func57, Tryz.ntmps57
    go_wp2
    go_ret
    exact ⟨rfl, rfl⟩

set_option maxRecDepth 100000 in
theorem deed_stop (g : Nat) (M q d : Value) (off : Bool) (w : World) (h : Blk w g 54 #[M, q, .int .i64 0, .bool off, d]) :
    Calls Tryz.prog 59 #[.pointer (some ⟨g, 0, none⟩)] w fun e w' => e = .returned (.int .i64 30) ∧ Blk w' g 54 #[M, q, .int .i64 0, .bool true, d] ∧ Frm (· = g) w w' := by
  have c2 := h.cell 2
  have c3 := h.cell 3
  simp at c2 c3
  have f3 := h.frozen 3
  have H := Lib.hid h
  clear h
  go_enter Tryz.func59, Tryz.ntmps59
  go_wp2
  go_ret
  exact ⟨rfl, H.out.set_ 3 _, (Frm.refl (fun i => i = g) w).setCell (.inl rfl) _⟩

set_option maxRecDepth 100000 in
theorem deed_go (g : Nat) (M q : Value) (off : Bool) (l : Int) (d : Nat) (w : World) (h : Blk w g 54 #[M, q, .int .i64 l, .bool off, .int .i64 d]) (hl : l ≠ 0) (h1 : -1 ≤ l) (h2 : l ≤ 9223372036854775807) (hd : d < 4611686018427387904) :
    Calls Tryz.prog 59 #[.pointer (some ⟨g, 0, none⟩)] w fun e w' => e = .returned (.int .i64 0) ∧ Blk w' g 54 #[M, q, .int .i64 (max (l - 1) (-1)), .bool off, .int .i64 (d + 1)] ∧ Frm (· = g) w w' := by
  have c2 := h.cell 2
  have c4 := h.cell 4
  simp at c2 c4
  have f2 := h.frozen 2
  have f4 := h.frozen 4
  have H := Lib.hid h
  clear h
  have hl' : (l == 0) = false := beq_eq_false_iff_ne.2 hl
  clear hl
  go_enter Tryz.func59, Tryz.ntmps59
  go_wp2
  · go_ret
    have e : max (l - 1) (-1) = -1 := by omega
    rw [e]
    exact ⟨rfl, (H.out.set_ 2 _).set_ 4 _, ((Frm.refl (fun i => i = g) w).setCell (.inl rfl) _).setCell (.inl rfl) _⟩
  · go_ret
    have e : max (l - 1) (-1) = l - 1 := by omega
    rw [e]
    exact ⟨rfl, (H.out.set_ 2 _).set_ 4 _, ((Frm.refl (fun i => i = g) w).setCell (.inl rfl) _).setCell (.inl rfl) _⟩

set_option maxRecDepth 100000 in
theorem Off_nil (w : World) : Calls Tryz.prog 44 #[.pointer none] w fun e w' => e = .returned (.bool true) ∧ w = w' := by
  go_enter Tryz.func44, Tryz.ntmps44
  go_wp2
  go_ret
  exact ⟨rfl, rfl⟩

set_option maxRecDepth 100000 in
theorem Off_any (B g : Nat) (F : Nat → Prop) (D : Dsk) (w : World) (h : Dk w B g F D) :
    Calls Tryz.prog 44 #[.pointer (some ⟨g, 0, none⟩)] w fun e w' => e = .returned (.bool D.off) ∧ w = w' := by
  obtain ⟨m, R, clock, h, -⟩ := h
  have c3 := h.blk.cell 3
  simp at c3
  clear h
  go_enter Tryz.func44, Tryz.ntmps44
  go_wp2
  go_ret
  exact ⟨rfl, rfl⟩

set_option maxRecDepth 100000 in
theorem Deeds_nil (w : World) : Calls Tryz.prog 45 #[.pointer none] w fun e w' => e = .returned (.int .i64 0) ∧ w = w' := by
  go_enter Tryz.func45, Tryz.ntmps45
  go_wp2
  go_ret
  exact ⟨rfl, rfl⟩

set_option maxRecDepth 100000 in
theorem Deeds_any (B g : Nat) (F : Nat → Prop) (D : Dsk) (w : World) (h : Dk w B g F D) :
    Calls Tryz.prog 45 #[.pointer (some ⟨g, 0, none⟩)] w fun e w' => e = .returned (.int .i64 D.deeds) ∧ w = w' := by
  obtain ⟨m, R, clock, h, -⟩ := h
  have c3 := h.blk.cell 4
  simp at c3
  clear h
  go_enter Tryz.func45, Tryz.ntmps45
  go_wp2
  go_ret
  exact ⟨rfl, rfl⟩

set_option maxRecDepth 100000 in
theorem Stop_nil (n : Int) (w : World) : Calls Tryz.prog 31 #[.pointer none, .int .i64 n] w fun e w' => e = .returned (.int .i64 6) ∧ w = w' := by
  go_enter Tryz.func31, Tryz.ntmps31
  go_wp2
  go_ret
  exact ⟨rfl, rfl⟩

set_option maxRecDepth 100000 in
theorem Stop_any (B g : Nat) (F : Nat → Prop) (D : Dsk) (n : Int) (w : World) (h : Dk w B g F D) (hn : n ≤ 9223372036854775807) :
    Calls Tryz.prog 31 #[.pointer (some ⟨g, 0, none⟩), .int .i64 n] w fun e w' => e = .returned (.int .i64 (D.stop n).2) ∧ Dk w' B g F (D.stop n).1 ∧ Frm F w w' := by
  obtain ⟨m, R, clock, h, hF⟩ := h
  have HF := Lib.hid hF
  clear hF
  have c0 := h.blk.cell 0
  have c2 := h.blk.cell 2
  have f2 := h.blk.frozen 2
  simp at c0 c2
  have H := Lib.hid h
  clear h
  have hm := fun (W : World) (r : Option Nat) => run_eql_map_nil (P := Tryz.prog) W 52 9 83 r Tryz.underlying52
  by_cases h0 : n < 0
  · have e : D.stop n = (D, 1) := by simp [Dsk.stop, h0]
    rw [e]
    go_enter Tryz.func31, Tryz.ntmps31
    go_wp2
    go_ret
    exact ⟨rfl, ⟨m, R, clock, H.out, HF.out⟩, Frm.refl _ _⟩
  · have e : D.stop n = ({ D with left := n }, 0) := by simp [Dsk.stop, h0]
    rw [e]
    go_enter Tryz.func31, Tryz.ntmps31
    go_wp2
    go_ret
    have H := H.out
    have hf : Frm (fun i => i = g) w (w.setCell ⟨g, 2, none⟩ (.int .i64 n)) := (Frm.refl (fun i => i = g) w).setCell (.inl rfl) _
    refine ⟨rfl, ⟨m, R, clock, { H with blk := H.blk.set_ 2 _, map := H.map.frm hf (H.map.ne_blk H.blk).symm, files := fun r hr => ?_, ok := { H.ok with lo := by simp; omega, hi := by simpa using hn } }, HF.out⟩, hf.mono fun i hi => by rw [HF.out]; exact .inl hi⟩
    have hfr := H.files r hr
    exact hfr.frm hf (hfr.blk.ne_ H.blk (by decide)) fun k hk e => own_blk_ne hfr.own H.blk (by decide) (by rw [hk, e])
end Go.Proofs.YtdgpaddmheagoaaGreatDoor
