/-
  The law's own calls over a disk of the code and one of the document: Do. No condition.
-/
import Derived.Test.YtdgpaddmheagoaaGreatDoorRefP
import Derived.Deep.RegionHeld3
set_option linter.unusedVariables false
set_option linter.unusedSimpArgs false
namespace Go.Proofs.YtdgpaddmheagoaaGreatDoor
open Go.RowKit

def Dsk.op (d : Dsk) (o : OpV) : Dsk :=
  if o.kind = 1 then (d.append o.a o.dl).1 else if o.kind = 2 then (d.sync o.a).1 else if o.kind = 3 then (d.rename o.a o.b).1
  else if o.kind = 4 then (d.delete o.a).1 else if o.kind = 6 then (d.stop o.n).1 else if o.kind = 7 then d.crash o.kl else d

theorem deed_deeds (d : Dsk) : d.deed.1.deeds ≤ d.deeds + 1 := by unfold Dsk.deed; split <;> simp
theorem op_deeds (d : Dsk) (o : OpV) : (d.op o).deeds ≤ d.deeds + 1 := by
  have hd := deed_deeds d
  unfold Dsk.op
  split
  · unfold Dsk.append
    have h2 : (d.appendTo o.a o.dl).deeds = d.deeds := by unfold Dsk.appendTo; split <;> rfl
    have := deed_deeds (d.appendTo o.a o.dl)
    split
    · simp
    · split
      · simp
      · split
        · simp
        · omega
  split
  · unfold Dsk.sync
    have h2 : (d.deed.1.syncTo o.a).deeds = d.deed.1.deeds := by unfold Dsk.syncTo; split <;> rfl
    split
    · simp
    · split
      · exact hd
      · rw [h2]; exact hd
  split
  · unfold Dsk.rename
    have h2 : (d.deed.1.renameTo o.a o.b).deeds = d.deed.1.deeds := by unfold Dsk.renameTo; split <;> rfl
    split
    · simp
    · split
      · simp
      · split
        · simp
        · split
          · exact hd
          · rw [h2]; exact hd
  split
  · unfold Dsk.delete
    split
    · simp
    · split
      · exact hd
      · exact hd
  split
  · unfold Dsk.stop
    split <;> simp
  split
  · simp [Dsk.crash]
  · simp

/-- two disks that are the same, of the code and of the document, apart in memory. -/
structure Pair (w : World) (B g : Nat) (F : Nat → Prop) (B' g' : Nat) (W F' : Nat → Prop) (D : Dsk) : Prop where
  d : Dk w B g F D
  x : RD w B' g' W F' D
  ap : ∀ k, F k → ¬ F' k

def PairGo (w : World) (B g : Nat) (F : Nat → Prop) (B' g' : Nat) (W F' : Nat → Prop) (D' : Dsk) (w' : World) : Prop :=
  ∃ F1 W1 F1', Pair w' B g F1 B' g' W1 F1' D' ∧ Frm (fun k => F k ∨ W k) w w' ∧ (∀ k, F1 k → F k ∨ w.heap.size ≤ k) ∧ (∀ k, W1 k → W k ∨ w.heap.size ≤ k) ∧ ∀ k, F1' k → F' k ∨ w.heap.size ≤ k
def DoOut (w : World) (B g : Nat) (F : Nat → Prop) (B' g' : Nat) (W F' : Nat → Prop) (D' : Dsk) (e : Ending) (w' : World) : Prop :=
  e = .returned (.bool true) ∧ PairGo w B g F B' g' W F' D' w'

section
variable {w w1 w2 : World} {B g B' g' : Nat} {F F1 W F' : Nat → Prop} {D D' : Dsk}
theorem Pair.nix (h : Pair w B g F B' g' W F' D) (hf : Frm Nix w w1) : Pair w1 B g F B' g' W F' D := ⟨h.d.nix hf, h.x.nix hf, h.ap⟩
theorem Pair.same (h : Pair w B g F B' g' W F' D) (hf : Frm Nix w w1) : PairGo w B g F B' g' W F' D w1 := ⟨F, W, F', h.nix hf, Frm.nix hf, fun _ => .inl, fun _ => .inl, fun _ => .inl⟩
/-- both are called. -/
theorem Pair.two (h : Pair w B g F B' g' W F' D) {wa : World} (ha : Frm Nix w wa) (h1 : Dk w1 B g F1 D') (f1 : Frm F wa w1) (n1 : ∀ k, F1 k → F k ∨ wa.heap.size ≤ k) (h2 : RGo w1 B' g' W F' D' w2) : PairGo w B g F B' g' W F' D' w2 := by
  obtain ⟨W2, F2, x2, fx, nW, nF⟩ := h2
  have hs := ha.size
  have hs1 := f1.size
  have hlo := h1.lo
  have hFn : ∀ k, F1 k → F k ∨ w.heap.size ≤ k := fun k hk => (n1 k hk).imp id fun e => by omega
  refine ⟨F1, W2, F2, ⟨h1.frm fx fun k hk hW => ?_, x2, fun k hk hF => ?_⟩, ?_, hFn, ?_, ?_⟩
  · have hx := h.x.wf k hW
    rcases hFn k hk with e | e
    · exact h.ap k e hx
    · have := (h.x.lo k hx).2
      omega
  · rcases nF k hF with e | e
    · rcases hFn k hk with e' | e'
      · exact h.ap k e' e
      · have := (h.x.lo k e).2
        omega
    · have := (hlo k hk).2
      omega
  · refine ((Frm.nix (F := fun k => F k ∨ W k) ha).trans (f1.mono fun k => .inl)).trans (fx.mono fun k => .inr)
  · exact fun k hk => (nW k hk).imp id fun e => by omega
  · exact fun k hk => (nF k hk).imp id fun e => by omega
theorem Pair.mid (h : Pair w B g F B' g' W F' D) {wa : World} (ha : Frm Nix w wa) (f1 : Frm F wa w1) : RD w1 B' g' W F' D :=
  (h.x.nix ha).frm f1 fun k hk hF => h.ap k hF hk
theorem PairGo.nix (h : PairGo w B g F B' g' W F' D' w1) (hf : Frm Nix w1 w2) : PairGo w B g F B' g' W F' D' w2 := by
  obtain ⟨F1, W1, F1', h1, h2, h3⟩ := h
  exact ⟨F1, W1, F1', h1.nix hf, h2.more hf, h3⟩

/-- the code's disk has been called, the document's not yet. -/
def Mid (w : World) (B g : Nat) (F : Nat → Prop) (B' g' : Nat) (W F' : Nat → Prop) (D D' : Dsk) (t : TypeId) (cs : Array Value) (w1 : World) : Prop :=
  ∃ wa F1, Frm Nix w wa ∧ Dk w1 B g F1 D' ∧ Frm F wa w1 ∧ (∀ k, F1 k → F k ∨ wa.heap.size ≤ k) ∧ RD w1 B' g' W F' D ∧ Blk w1 w.heap.size t cs
theorem Mid.mk (h : Pair w B g F B' g' W F' D) {t : TypeId} {cs : Array Value} (hb : Blk (w.alloc (.cells cs t)) w.heap.size t cs) {wa : World} (ha : Frm Nix (w.alloc (.cells cs t)) wa) {F1 : Nat → Prop} (h1 : Dk w1 B g F1 D') (f1 : Frm F wa w1) (n1 : ∀ k, F1 k → F k ∨ wa.heap.size ≤ k) : Mid w B g F B' g' W F' D D' t cs w1 := by
  have h0 : Frm Nix w wa := ((Frm.refl Nix w).alloc _).trans ha
  exact ⟨wa, F1, h0, h1, f1, n1, h.mid h0 f1, (hb.frm ha id).frm f1 fun hF => by have := (h.d.lo _ hF).2; omega⟩
theorem Mid.nix {t : TypeId} {cs : Array Value} (h : Mid w B g F B' g' W F' D D' t cs w1) (hf : Frm Nix w1 w2) : Mid w B g F B' g' W F' D D' t cs w2 := by
  obtain ⟨wa, F1, h0, h1, f1, n1, x1, b1⟩ := h
  exact ⟨wa, F1, h0, h1.nix hf, f1.more hf, n1, x1.nix hf, b1.frm hf id⟩
theorem Mid.x {t : TypeId} {cs : Array Value} (h : Mid w B g F B' g' W F' D D' t cs w1) : RD w1 B' g' W F' D := by
  obtain ⟨wa, F1, h0, h1, f1, n1, x1, b1⟩ := h
  exact x1
theorem Mid.blk {t : TypeId} {cs : Array Value} (h : Mid w B g F B' g' W F' D D' t cs w1) : Blk w1 w.heap.size t cs := by
  obtain ⟨wa, F1, h0, h1, f1, n1, x1, b1⟩ := h
  exact b1
theorem Mid.blk2 {t : TypeId} {cs : Array Value} (h : Pair w B g F B' g' W F' D) (hm : Mid w B g F B' g' W F' D D' t cs w1) (h2 : RGo w1 B' g' W F' D' w2) : Blk w2 w.heap.size t cs := by
  obtain ⟨W2, F2, x2, fx, -⟩ := h2
  exact hm.blk.frm fx fun hW => by have := (h.x.lo _ (h.x.wf _ hW)).2; omega
theorem Mid.rd {t : TypeId} {cs : Array Value} (h : Mid w B g F B' g' W F' D D' t cs w1) {G : Nat → Prop} {A : Option Addr} {n : Nat} {xs : List Value} (hr : Rd w G 1 A n xs) (hG : ∀ k, G k → ¬ F k ∧ ¬ F' k) : Rd w1 G 1 A n xs := by
  obtain ⟨wa, F1, h0, h1, f1, n1, x1, b1⟩ := h
  exact (hr.frm h0 fun _ _ => id).frm f1 fun k hk => (hG k hk).1
theorem Mid.go {t : TypeId} {cs : Array Value} (h : Pair w B g F B' g' W F' D) (hm : Mid w B g F B' g' W F' D D' t cs w1) (h2 : RGo w1 B' g' W F' D' w2) : PairGo w B g F B' g' W F' D' w2 := by
  obtain ⟨wa, F1, h0, h1, f1, n1, x1, b1⟩ := hm
  exact h.two h0 h1 f1 n1 h2
end

set_option maxRecDepth 100000 in
set_option maxHeartbeats 2000000 in
theorem Do1 {w : World} {B g B' g' : Nat} {F W F' : Nat → Prop} {D : Dsk} (h : Pair w B g F B' g' W F' D) (a b : ByteArray) (n : Int) (dA kA : Option Addr) (dn dc kn kc : Nat) (dl : List UInt8) (kl : List Int) {G : Nat → Prop} (ha : a.size ≤ maxLen) (hb : b.size ≤ maxLen) (hn : n ≤ 9223372036854775807)
    (hdl : dl.length = dn) (hdr : Rd w G 1 dA dn (bvs dl)) (hdn : dn ≤ 1000) (hkl : kl.length = kn) (hkr : Rd w G 1 kA kn (ivs kl)) (hkn : kn ≤ maxLen) (hG : ∀ k, G k → ¬ F k ∧ ¬ F' k) (hd : D.deeds < 4611686018427387904) :
    Calls Tryz.prog 8 #[.pointer (some ⟨g, 0, none⟩), .pointer (some ⟨g', 0, none⟩), .agg #[.int .i64 1, .string a, .string b, .int .i64 n, .slice dA dn dc, .slice kA kn kc]] w (DoOut w B g F B' g' W F' (D.append a dl).1) := by
  have hbx := Blk.new w 37 #[.int .i64 1, .string a, .string b, .int .i64 n, .slice dA dn dc, .slice kA kn kc]
  have HP := Lib.hid h
  have HB := Lib.hid hbx
  have HDr := Lib.hid hdr
  have HKr := Lib.hid hkr
  have HG := Lib.hid hG
  have HDl := Lib.hid hdl
  have HKl := Lib.hid hkl
  clear h hbx hdr hkr hG hdl hkl
  unfold maxLen at hkn
  have K1 : Hid (∀ W1, Frm Nix (w.alloc (.cells #[.int .i64 1, .string a, .string b, .int .i64 n, .slice dA dn dc, .slice kA kn kc] 37)) W1 → Calls Tryz.prog 21 #[.pointer (some ⟨g, 0, none⟩), .string a, .slice dA dn dc] W1 fun e W' => e = .returned (.int .i64 (D.append a dl).2) ∧ Mid w B g F B' g' W F' D (D.append a dl).1 37 #[.int .i64 1, .string a, .string b, .int .i64 n, .slice dA dn dc, .slice kA kn kc] W' ∧ W'.cell? ⟨w.heap.size, 1, none⟩ = some (.string a) ∧ W'.cell? ⟨w.heap.size, 4, none⟩ = some (.slice dA dn dc)) := fun W1 h1 => by
    have hW : Frm Nix w W1 := ((Frm.refl Nix w).alloc _).trans h1
    refine (Append_any (HP.out.d.nix hW) a ha dA dn dc dl HDl.out G (HDr.out.frm hW fun _ _ => id) (fun k hk => (HG.out k hk).1) hd).mono ?_
    rintro e W' ⟨rfl, F1, hd1, hf1, hn1⟩
    have hmid := Mid.mk HP.out HB.out h1 hd1 hf1 hn1
    exact ⟨rfl, hmid, (hmid.blk.cell 1).trans rfl, (hmid.blk.cell 4).trans rfl⟩
  have K2 : Hid (∀ W1, Mid w B g F B' g' W F' D (D.append a dl).1 37 #[.int .i64 1, .string a, .string b, .int .i64 n, .slice dA dn dc, .slice kA kn kc] W1 → Calls Tryz.prog 22 #[.pointer (some ⟨g', 0, none⟩), .string a, .slice dA dn dc] W1 fun e W' => e = .returned (.int .i64 (D.append a dl).2) ∧ PairGo w B g F B' g' W F' (D.append a dl).1 W' ∧ W'.cell? ⟨w.heap.size, 1, none⟩ = some (.string a) ∧ W'.cell? ⟨w.heap.size, 4, none⟩ = some (.slice dA dn dc)) := fun W1 hm => by
    refine (rAppend_any hm.x a ha dA dn dc dl HDl.out G (hm.rd HDr.out HG.out) (fun k hk => (HG.out k hk).2) (by omega) hd).mono ?_
    rintro e W' ⟨rfl, hgo⟩
    have hb2 := hm.blk2 HP.out hgo
    exact ⟨rfl, hm.go HP.out hgo, (hb2.cell 1).trans rfl, (hb2.cell 4).trans rfl⟩
  generalize (D.append a dl).1 = D1 at *
  generalize (D.append a dl).2 = n1 at *
  go_enter Tryz.func8, Tryz.ntmps8
  go_wp2
  go_region_held3 (fun w' => w'.cell? ⟨w.heap.size, 1, none⟩ = some (.string a) ∧ w'.cell? ⟨w.heap.size, 4, none⟩ = some (.slice dA dn dc)) (first | go_keep | (refine ⟨?_, ?_⟩ <;> assumption) | assumption)
    (first
      | (go_at_call 21; refine (K1.out _ (by first | exact (Frm.refl Nix _).drew | exact Frm.refl Nix _)).mono ?_; rintro e w1 ⟨rfl, hm1, _k1, _k4⟩; have HM1 := Lib.hid hm1; clear hm1)
      | (go_at_call 22; refine (K2.out _ HM1.out).mono ?_; rintro e w2 ⟨rfl, hg2, _j1, _j4⟩; have HG2 := Lib.hid hg2; clear hg2))
  go_wp2
  go_ret
  exact ⟨ret_bool (by simp), HG2.out⟩

set_option maxRecDepth 100000 in
set_option maxHeartbeats 2000000 in
theorem Do2 {w : World} {B g B' g' : Nat} {F W F' : Nat → Prop} {D : Dsk} (h : Pair w B g F B' g' W F' D) (a b : ByteArray) (n : Int) (dA kA : Option Addr) (dn dc kn kc : Nat) (dl : List UInt8) (kl : List Int) {G : Nat → Prop} (ha : a.size ≤ maxLen) (hb : b.size ≤ maxLen) (hn : n ≤ 9223372036854775807)
    (hdl : dl.length = dn) (hdr : Rd w G 1 dA dn (bvs dl)) (hdn : dn ≤ 1000) (hkl : kl.length = kn) (hkr : Rd w G 1 kA kn (ivs kl)) (hkn : kn ≤ maxLen) (hG : ∀ k, G k → ¬ F k ∧ ¬ F' k) (hd : D.deeds < 4611686018427387904) :
    Calls Tryz.prog 8 #[.pointer (some ⟨g, 0, none⟩), .pointer (some ⟨g', 0, none⟩), .agg #[.int .i64 2, .string a, .string b, .int .i64 n, .slice dA dn dc, .slice kA kn kc]] w (DoOut w B g F B' g' W F' (D.sync a).1) := by
  have hbx := Blk.new w 37 #[.int .i64 2, .string a, .string b, .int .i64 n, .slice dA dn dc, .slice kA kn kc]
  have HP := Lib.hid h
  have HB := Lib.hid hbx
  have HDr := Lib.hid hdr
  have HKr := Lib.hid hkr
  have HG := Lib.hid hG
  have HDl := Lib.hid hdl
  have HKl := Lib.hid hkl
  clear h hbx hdr hkr hG hdl hkl
  unfold maxLen at hkn
  have K1 : Hid (∀ W1, Frm Nix (w.alloc (.cells #[.int .i64 2, .string a, .string b, .int .i64 n, .slice dA dn dc, .slice kA kn kc] 37)) W1 → Calls Tryz.prog 23 #[.pointer (some ⟨g, 0, none⟩), .string a] W1 fun e W' => e = .returned (.int .i64 (D.sync a).2) ∧ Mid w B g F B' g' W F' D (D.sync a).1 37 #[.int .i64 2, .string a, .string b, .int .i64 n, .slice dA dn dc, .slice kA kn kc] W' ∧ W'.cell? ⟨w.heap.size, 1, none⟩ = some (.string a)) := fun W1 h1 => by
    have hW : Frm Nix w W1 := ((Frm.refl Nix w).alloc _).trans h1
    refine (Sync_any (HP.out.d.nix hW) a hd).mono ?_
    rintro e W' ⟨rfl, F1, hd1, hf1, hn1⟩
    have hmid := Mid.mk HP.out HB.out h1 hd1 hf1 hn1
    exact ⟨rfl, hmid, (hmid.blk.cell 1).trans rfl⟩
  have K2 : Hid (∀ W1, Mid w B g F B' g' W F' D (D.sync a).1 37 #[.int .i64 2, .string a, .string b, .int .i64 n, .slice dA dn dc, .slice kA kn kc] W1 → Calls Tryz.prog 24 #[.pointer (some ⟨g', 0, none⟩), .string a] W1 fun e W' => e = .returned (.int .i64 (D.sync a).2) ∧ PairGo w B g F B' g' W F' (D.sync a).1 W' ∧ W'.cell? ⟨w.heap.size, 1, none⟩ = some (.string a)) := fun W1 hm => by
    refine (rSync_any hm.x a hd).mono ?_
    rintro e W' ⟨rfl, hgo⟩
    have hb2 := hm.blk2 HP.out hgo
    exact ⟨rfl, hm.go HP.out hgo, (hb2.cell 1).trans rfl⟩
  generalize (D.sync a).1 = D1 at *
  generalize (D.sync a).2 = n1 at *
  go_enter Tryz.func8, Tryz.ntmps8
  go_wp2
  go_region_held3 (fun w' => w'.cell? ⟨w.heap.size, 1, none⟩ = some (.string a)) (first | go_keep | (refine ⟨?_, ?_⟩ <;> assumption) | assumption)
    (first
      | (go_at_call 23; refine (K1.out _ (by first | exact (Frm.refl Nix _).drew | exact Frm.refl Nix _)).mono ?_; rintro e w1 ⟨rfl, hm1, _k1⟩; have HM1 := Lib.hid hm1; clear hm1)
      | (go_at_call 24; refine (K2.out _ HM1.out).mono ?_; rintro e w2 ⟨rfl, hg2, _j1⟩; have HG2 := Lib.hid hg2; clear hg2))
  go_wp2
  go_ret
  exact ⟨ret_bool (by simp), HG2.out⟩

set_option maxRecDepth 100000 in
set_option maxHeartbeats 2000000 in
theorem Do3 {w : World} {B g B' g' : Nat} {F W F' : Nat → Prop} {D : Dsk} (h : Pair w B g F B' g' W F' D) (a b : ByteArray) (n : Int) (dA kA : Option Addr) (dn dc kn kc : Nat) (dl : List UInt8) (kl : List Int) {G : Nat → Prop} (ha : a.size ≤ maxLen) (hb : b.size ≤ maxLen) (hn : n ≤ 9223372036854775807)
    (hdl : dl.length = dn) (hdr : Rd w G 1 dA dn (bvs dl)) (hdn : dn ≤ 1000) (hkl : kl.length = kn) (hkr : Rd w G 1 kA kn (ivs kl)) (hkn : kn ≤ maxLen) (hG : ∀ k, G k → ¬ F k ∧ ¬ F' k) (hd : D.deeds < 4611686018427387904) :
    Calls Tryz.prog 8 #[.pointer (some ⟨g, 0, none⟩), .pointer (some ⟨g', 0, none⟩), .agg #[.int .i64 3, .string a, .string b, .int .i64 n, .slice dA dn dc, .slice kA kn kc]] w (DoOut w B g F B' g' W F' (D.rename a b).1) := by
  have hbx := Blk.new w 37 #[.int .i64 3, .string a, .string b, .int .i64 n, .slice dA dn dc, .slice kA kn kc]
  have HP := Lib.hid h
  have HB := Lib.hid hbx
  have HDr := Lib.hid hdr
  have HKr := Lib.hid hkr
  have HG := Lib.hid hG
  have HDl := Lib.hid hdl
  have HKl := Lib.hid hkl
  clear h hbx hdr hkr hG hdl hkl
  unfold maxLen at hkn
  have K1 : Hid (∀ W1, Frm Nix (w.alloc (.cells #[.int .i64 3, .string a, .string b, .int .i64 n, .slice dA dn dc, .slice kA kn kc] 37)) W1 → Calls Tryz.prog 25 #[.pointer (some ⟨g, 0, none⟩), .string a, .string b] W1 fun e W' => e = .returned (.int .i64 (D.rename a b).2) ∧ Mid w B g F B' g' W F' D (D.rename a b).1 37 #[.int .i64 3, .string a, .string b, .int .i64 n, .slice dA dn dc, .slice kA kn kc] W' ∧ W'.cell? ⟨w.heap.size, 1, none⟩ = some (.string a) ∧ W'.cell? ⟨w.heap.size, 2, none⟩ = some (.string b)) := fun W1 h1 => by
    have hW : Frm Nix w W1 := ((Frm.refl Nix w).alloc _).trans h1
    refine (Rename_any (HP.out.d.nix hW) a b hd hb).mono ?_
    rintro e W' ⟨rfl, F1, hd1, hf1, hn1⟩
    have hmid := Mid.mk HP.out HB.out h1 hd1 hf1 hn1
    exact ⟨rfl, hmid, (hmid.blk.cell 1).trans rfl, (hmid.blk.cell 2).trans rfl⟩
  have K2 : Hid (∀ W1, Mid w B g F B' g' W F' D (D.rename a b).1 37 #[.int .i64 3, .string a, .string b, .int .i64 n, .slice dA dn dc, .slice kA kn kc] W1 → Calls Tryz.prog 26 #[.pointer (some ⟨g', 0, none⟩), .string a, .string b] W1 fun e W' => e = .returned (.int .i64 (D.rename a b).2) ∧ PairGo w B g F B' g' W F' (D.rename a b).1 W' ∧ W'.cell? ⟨w.heap.size, 1, none⟩ = some (.string a) ∧ W'.cell? ⟨w.heap.size, 2, none⟩ = some (.string b)) := fun W1 hm => by
    refine (rRename_any hm.x a b hb hd).mono ?_
    rintro e W' ⟨rfl, hgo⟩
    have hb2 := hm.blk2 HP.out hgo
    exact ⟨rfl, hm.go HP.out hgo, (hb2.cell 1).trans rfl, (hb2.cell 2).trans rfl⟩
  generalize (D.rename a b).1 = D1 at *
  generalize (D.rename a b).2 = n1 at *
  go_enter Tryz.func8, Tryz.ntmps8
  go_wp2
  go_region_held3 (fun w' => w'.cell? ⟨w.heap.size, 1, none⟩ = some (.string a) ∧ w'.cell? ⟨w.heap.size, 2, none⟩ = some (.string b)) (first | go_keep | (refine ⟨?_, ?_⟩ <;> assumption) | assumption)
    (first
      | (go_at_call 25; refine (K1.out _ (by first | exact (Frm.refl Nix _).drew | exact Frm.refl Nix _)).mono ?_; rintro e w1 ⟨rfl, hm1, _k1, _k2⟩; have HM1 := Lib.hid hm1; clear hm1)
      | (go_at_call 26; refine (K2.out _ HM1.out).mono ?_; rintro e w2 ⟨rfl, hg2, _j1, _j2⟩; have HG2 := Lib.hid hg2; clear hg2))
  go_wp2
  go_ret
  exact ⟨ret_bool (by simp), HG2.out⟩

set_option maxRecDepth 100000 in
set_option maxHeartbeats 2000000 in
theorem Do4 {w : World} {B g B' g' : Nat} {F W F' : Nat → Prop} {D : Dsk} (h : Pair w B g F B' g' W F' D) (a b : ByteArray) (n : Int) (dA kA : Option Addr) (dn dc kn kc : Nat) (dl : List UInt8) (kl : List Int) {G : Nat → Prop} (ha : a.size ≤ maxLen) (hb : b.size ≤ maxLen) (hn : n ≤ 9223372036854775807)
    (hdl : dl.length = dn) (hdr : Rd w G 1 dA dn (bvs dl)) (hdn : dn ≤ 1000) (hkl : kl.length = kn) (hkr : Rd w G 1 kA kn (ivs kl)) (hkn : kn ≤ maxLen) (hG : ∀ k, G k → ¬ F k ∧ ¬ F' k) (hd : D.deeds < 4611686018427387904) :
    Calls Tryz.prog 8 #[.pointer (some ⟨g, 0, none⟩), .pointer (some ⟨g', 0, none⟩), .agg #[.int .i64 4, .string a, .string b, .int .i64 n, .slice dA dn dc, .slice kA kn kc]] w (DoOut w B g F B' g' W F' (D.delete a).1) := by
  have hbx := Blk.new w 37 #[.int .i64 4, .string a, .string b, .int .i64 n, .slice dA dn dc, .slice kA kn kc]
  have HP := Lib.hid h
  have HB := Lib.hid hbx
  have HDr := Lib.hid hdr
  have HKr := Lib.hid hkr
  have HG := Lib.hid hG
  have HDl := Lib.hid hdl
  have HKl := Lib.hid hkl
  clear h hbx hdr hkr hG hdl hkl
  unfold maxLen at hkn
  have K1 : Hid (∀ W1, Frm Nix (w.alloc (.cells #[.int .i64 4, .string a, .string b, .int .i64 n, .slice dA dn dc, .slice kA kn kc] 37)) W1 → Calls Tryz.prog 27 #[.pointer (some ⟨g, 0, none⟩), .string a] W1 fun e W' => e = .returned (.int .i64 (D.delete a).2) ∧ Mid w B g F B' g' W F' D (D.delete a).1 37 #[.int .i64 4, .string a, .string b, .int .i64 n, .slice dA dn dc, .slice kA kn kc] W' ∧ W'.cell? ⟨w.heap.size, 1, none⟩ = some (.string a)) := fun W1 h1 => by
    have hW : Frm Nix w W1 := ((Frm.refl Nix w).alloc _).trans h1
    refine (Delete_any (HP.out.d.nix hW) a hd).mono ?_
    rintro e W' ⟨rfl, F1, hd1, hf1, hn1⟩
    have hmid := Mid.mk HP.out HB.out h1 hd1 hf1 hn1
    exact ⟨rfl, hmid, (hmid.blk.cell 1).trans rfl⟩
  have K2 : Hid (∀ W1, Mid w B g F B' g' W F' D (D.delete a).1 37 #[.int .i64 4, .string a, .string b, .int .i64 n, .slice dA dn dc, .slice kA kn kc] W1 → Calls Tryz.prog 28 #[.pointer (some ⟨g', 0, none⟩), .string a] W1 fun e W' => e = .returned (.int .i64 (D.delete a).2) ∧ PairGo w B g F B' g' W F' (D.delete a).1 W' ∧ W'.cell? ⟨w.heap.size, 1, none⟩ = some (.string a)) := fun W1 hm => by
    refine (rDelete_any hm.x a hd).mono ?_
    rintro e W' ⟨rfl, hgo⟩
    have hb2 := hm.blk2 HP.out hgo
    exact ⟨rfl, hm.go HP.out hgo, (hb2.cell 1).trans rfl⟩
  generalize (D.delete a).1 = D1 at *
  generalize (D.delete a).2 = n1 at *
  go_enter Tryz.func8, Tryz.ntmps8
  go_wp2
  go_region_held3 (fun w' => w'.cell? ⟨w.heap.size, 1, none⟩ = some (.string a)) (first | go_keep | (refine ⟨?_, ?_⟩ <;> assumption) | assumption)
    (first
      | (go_at_call 27; refine (K1.out _ (by first | exact (Frm.refl Nix _).drew | exact Frm.refl Nix _)).mono ?_; rintro e w1 ⟨rfl, hm1, _k1⟩; have HM1 := Lib.hid hm1; clear hm1)
      | (go_at_call 28; refine (K2.out _ HM1.out).mono ?_; rintro e w2 ⟨rfl, hg2, _j1⟩; have HG2 := Lib.hid hg2; clear hg2))
  go_wp2
  go_ret
  exact ⟨ret_bool (by simp), HG2.out⟩

end Go.Proofs.YtdgpaddmheagoaaGreatDoor
