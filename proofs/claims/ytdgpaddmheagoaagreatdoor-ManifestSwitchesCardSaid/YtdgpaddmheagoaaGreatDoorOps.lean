/-
  Calls that lie in a row of the caller's, and the loops over them: what holds at their heads. No condition.
-/
import Derived.Test.YtdgpaddmheagoaaGreatDoorView
import Derived.Test.YtdgpaddmheagoaaGreatDoorDo
import Derived.Test.YtdgpaddmheagoaaGreatDoorDo2
namespace Go.Proofs.YtdgpaddmheagoaaGreatDoor
open Go.RowKit

def OpV.big (o : OpV) : Bool := decide (1000 < o.dn) || decide (100 < o.a.size) || decide (100 < o.b.size)
def largeB (l : List OpV) : Bool := decide (150 < l.length) || l.any OpV.big

theorem ops_at (l : List OpV) (i : Nat) (h : i < l.length) (j : Nat) (hj : j < 6) : (l.flatMap OpV.cells)[i * 6 + j]? = l[i].cells[j]? := by
  induction l generalizing i with
  | nil => simp at h
  | cons o l ih =>
    have h6 : o.cells.length = 6 := rfl
    rw [List.flatMap_cons]
    cases i with
    | zero =>
      rw [List.getElem?_append_left (by omega)]
      simp
    | succ i =>
      rw [List.getElem?_append_right (by omega), show (i + 1) * 6 + j - o.cells.length = i * 6 + j by omega, ih i (by simpa using h)]
      rfl

/-- a call of the list lies so in memory. -/
theorem rd_op {w : World} {G : Nat → Prop} {A : Option Addr} {n : Nat} {l : List OpV} (h : Rd w G 6 A n (l.flatMap OpV.cells)) (hl : l.length = n) {i : Nat} (hi : i < n) :
    ∃ ad, A = some ad ∧ G ad.block ∧ ad.block < w.heap.size ∧ ∀ j u, l[i].cells[j]? = some u → w.cell? ((ad.add (i * 6)).add j) = some u := by
  obtain ⟨ad, rfl, h1, h2, h3⟩ := h.2 (by omega)
  refine ⟨ad, rfl, h1, h2, fun j u hu => ?_⟩
  rw [add_of_add]
  refine h3 _ u ?_
  have hj : j < 6 := by
    have := (List.getElem?_eq_some_iff.1 hu).1
    simpa [OpV.cells] using this
  rw [ops_at l i (by omega) j hj, hu]

theorem any_take_succ {l : List OpV} {k : Nat} (h : k < l.length) (h1 : (l.take k).any OpV.big = false) (h2 : l[k].big = false) : (l.take (k + 1)).any OpV.big = false := by
  rw [List.take_succ_eq_append_getElem h, List.any_append, h1]
  simp [h2]
theorem any_at {l : List OpV} {k : Nat} (h : k < l.length) (h2 : l[k].big = true) : l.any OpV.big = true := by
  rw [List.any_eq_true]
  exact ⟨_, List.getElem_mem h, h2⟩

set_option maxRecDepth 100000 in
set_option maxHeartbeats 1000000 in
theorem Large_any (A : Option Addr) (n c : Nat) (l : List OpV) (G : Nat → Prop) (w : World) (hl : l.length = n) (hr : Rd w G 6 A n (l.flatMap OpV.cells)) (hnc : n ≤ maxLen)
    (ho : ∀ o ∈ l, o.dn ≤ maxLen ∧ o.a.size ≤ maxLen ∧ o.b.size ≤ maxLen) :
    Calls Tryz.prog 4 #[.slice A n c] w fun e w' => e = .returned (.bool (largeB l)) ∧ w = w' := by
  unfold maxLen at hnc ho
  have HL := Lib.hid hl
  have HR := Lib.hid hr
  have HO := Lib.hid ho
  by_cases h150 : 150 < n
  · have HB : Hid (largeB l = true) := by unfold Hid; simp [largeB, hl, h150]
    have hd : decide ((150 : Int) < (n : Int)) = true := by simp; omega
    clear hl hr ho
    go_enter Tryz.func4, Tryz.ntmps4
    go_wp2
    go_ret
    exact ⟨ret_bool HB.out.symm, rfl⟩
  have hd : decide ((150 : Int) < (n : Int)) = false := by simp; omega
  have HB : Hid (largeB l = l.any OpV.big) := by unfold Hid; simp [largeB, hl]; omega
  clear hl hr ho
  go_enter Tryz.func4, Tryz.ntmps4
  go_wp2
  go_loop [3] (fun i => ∃ k : Nat, k ≤ n ∧ i = .int .i64 k ∧ (l.take k).any OpV.big = false) (fun i => n - (intOf i).toNat)
  case atStart => exact ⟨0, Nat.zero_le _, rfl, by simp⟩
  case round =>
    obtain ⟨k, hk, rfl, hall⟩ := hrel
    have HA := Lib.hid hall
    clear hall
    by_cases hlt : k < n
    · have hkl : k < l.length := by rw [HL.out]; exact hlt
      obtain ⟨ad, rfl, -, -, hcell⟩ := rd_op HR.out HL.out hlt
      have hok := HO.out _ (List.getElem_mem hkl)
      have HT := Lib.hid (any_at hkl)
      have HF := Lib.hid (any_take_succ hkl HA.out)
      obtain ⟨o, ho⟩ : ∃ o, l[k] = o := ⟨_, rfl⟩
      rw [ho] at hok HT HF hcell
      have c1 : w.cell? ⟨(ad.add (k * 6)).block, (ad.add (k * 6)).off + 1, none⟩ = some (.string o.a) := hcell 1 _ rfl
      have c2 : w.cell? ⟨(ad.add (k * 6)).block, (ad.add (k * 6)).off + 2, none⟩ = some (.string o.b) := hcell 2 _ rfl
      have c4 : w.cell? ⟨(ad.add (k * 6)).block, (ad.add (k * 6)).off + 4, none⟩ = some (.slice o.dA o.dn o.dc) := hcell 4 _ rfl
      obtain ⟨m1, m2, m3⟩ := hok
      have HBig : Hid (o.big = (decide (1000 < o.dn) || decide (100 < o.a.size) || decide (100 < o.b.size))) := rfl
      clear hcell ho
      by_cases b1 : 1000 < o.dn
      · have d1 : decide ((1000 : Int) < (o.dn : Int)) = true := by simp; omega
        go_wp2
        go_ret
        exact ⟨ret_bool (by rw [HB.out, HT.out (by rw [HBig.out]; simp [b1])]), rfl⟩
      have d1 : decide ((1000 : Int) < (o.dn : Int)) = false := by simp; omega
      by_cases b2 : 100 < o.a.size
      · have d2 : decide ((100 : Int) < (o.a.size : Int)) = true := by simp; omega
        go_wp2
        go_ret
        exact ⟨ret_bool (by rw [HB.out, HT.out (by rw [HBig.out]; simp [b2])]), rfl⟩
      have d2 : decide ((100 : Int) < (o.a.size : Int)) = false := by simp; omega
      by_cases b3 : 100 < o.b.size
      · have d3 : decide ((100 : Int) < (o.b.size : Int)) = true := by simp; omega
        go_wp2
        go_ret
        exact ⟨ret_bool (by rw [HB.out, HT.out (by rw [HBig.out]; simp [b3])]), rfl⟩
      have d3 : decide ((100 : Int) < (o.b.size : Int)) = false := by simp; omega
      go_wp2
      go_round
      case rel => exact ⟨k + 1, by omega, by go_num, HF.out (by rw [HBig.out]; simp [b1, b2, b3])⟩
      case measure => simp [intOf]; omega
    · obtain rfl : k = n := by omega
      go_wp2
      go_ret
      refine ⟨ret_bool ?_, rfl⟩
      rw [HB.out, ← HA.out, List.take_of_length_le (by rw [HL.out]; exact Nat.le_refl _)]
end Go.Proofs.YtdgpaddmheagoaaGreatDoor

namespace Go.Proofs.YtdgpaddmheagoaaGreatDoor
open Go.RowKit

theorem read_at {D : Dsk} (hok : D.Ok) {k : Nat} (hk : k < D.L.length) (ho : D.off = false) : D.read D.L[k].name = D.L[k].b ∧ D.there D.L[k].name = 0 := by
  have hf := findF_mem hok.sorted (List.getElem_mem hk)
  have h1 : D.there D.L[k].name = 0 := by simp [Dsk.there, ho, hf]
  exact ⟨by simp [Dsk.read, h1, hf], h1⟩
theorem read_off {D : Dsk} (s : ByteArray) (ho : D.off = true) : D.read s = [] ∧ D.there s = 30 := by
  have h1 : D.there s = 30 := by simp [Dsk.there, ho]
  exact ⟨by simp [Dsk.read, h1], h1⟩

set_option maxRecDepth 100000 in
set_option maxHeartbeats 4000000 in
theorem Alike_any {w : World} {B g B' g' : Nat} {F W F' : Nat → Prop} {D : Dsk} (h : Pair w B g F B' g' W F' D) :
    Calls Tryz.prog 15 #[.pointer (some ⟨g, 0, none⟩), .pointer (some ⟨g', 0, none⟩)] w fun e w' => e = .returned (.bool true) ∧ Frm Nix w w' := by
  obtain ⟨A, c, V, hx, -, -⟩ := h.x.at_
  have HP := Lib.hid h
  have hok := hx.ok
  have hcnt := hok.cnt
  have HO := Lib.hid hok
  clear h hok
  go_enter Tryz.func15, Tryz.ntmps15
  go_wp2_with fail
  refine (Names_any HP.out.d).mono ?_
  rintro e w1 ⟨v, rfl, own1, f1⟩
  obtain ⟨A1, q1, rfl, -, hq, hqm, -⟩ := own_shape own1
  have HN := Lib.hid (Rd.of_own own1)
  have HF1 := Lib.hid f1
  have hx1 := hx.nix f1
  have c0 := hx1.blk.cell 0
  have c3 := hx1.blk.cell 3
  have c4 := hx1.blk.cell 4
  simp at c0 c3 c4
  have hgl := hx1.blk.lt
  have HX := Lib.hid hx1
  unfold maxLen at hqm
  clear own1 f1 hx hx1
  have h0 : ∀ x : FW (Frm Nix w1), x.w.cell? ⟨g', 0, none⟩ = some (.slice A D.L.length c) := fun x => (x.h.cell hgl id).trans c0
  have h3 : ∀ x : FW (Frm Nix w1), x.w.cell? ⟨g', 3, none⟩ = some (.bool D.off) := fun x => (x.h.cell hgl id).trans c3
  have h4 : ∀ x : FW (Frm Nix w1), x.w.cell? ⟨g', 4, none⟩ = some (.int .i64 D.deeds) := fun x => (x.h.cell hgl id).trans c4
  have HD1 : Hid (∀ x : FW (Frm Nix w1), Dk x.w B g F D) := fun x => (HP.out.d.nix HF1.out).nix x.h
  have HX1 : Hid (∀ x : FW (Frm Nix w1), RDiskAt x.w B' g' D A c V) := fun x => HX.out.nix x.h
  have hd1 : decide ((D.L.length : Int) = (D.L.length : Int)) = true := by simp
  go_wp2_with fail
  refine wp_region_class (Frm Nix w1) ((Frm.refl Nix w1).drew) (by kernel_rfl) (by kernel_rfl) ?_
  repeat (go_big_quiet_step (first
    | (rename_i x; go_at_call 42; refine x.call (Used_any (HD1.out x)) ?_; exact fun w' hf => x.h.trans hf)
    | (rename_i x; go_at_call 43; refine x.call (rUsed_any (HX1.out x)) ?_; exact fun w' hf => hf ▸ x.h)
    | (rename_i x; go_at_call 44; refine x.call (Off_any _ _ _ _ _ (HD1.out x)) ?_; exact fun w' hf => hf ▸ x.h)
    | (rename_i x; go_at_call 45; refine x.call (Deeds_any _ _ _ _ _ (HD1.out x)) ?_; exact fun w' hf => hf ▸ x.h)))
  refine wpQuiet_nil ?_
  rintro w2 ⟨⟨_, hf2⟩, rfl⟩
  have HF2 := Lib.hid hf2
  clear hf2 h0 h3 h4 HD1 HX1 c0 c3 c4
  go_wp2
  go_loopw [6] (fun i wr => ∃ k : Nat, k ≤ D.L.length ∧ i = .int .i64 k ∧ Frm Nix w1 wr) (fun i _ => D.L.length - (intOf i).toNat)
  case atStart => exact ⟨0, Nat.zero_le _, rfl, HF2.out⟩
  case round =>
    obtain ⟨k, hk, rfl, hfr⟩ := hrel
    have HW := Lib.hid hfr
    clear hfr HF2
    by_cases hlt : k < D.L.length
    · obtain ⟨ad, u, rfl, -, hla, hu, hcu⟩ := (HN.out.frm HW.out fun _ _ => id).at_ hlt
      have hus : u = .string D.L[k].name := by
        simp only [List.getElem?_map, List.getElem?_eq_getElem hlt, Option.map_some, Option.some.injEq] at hu
        exact hu.symm
      subst hus
      have HRd := Lib.hid (Read_any ((HP.out.d.nix HF1.out).nix HW.out) D.L[k].name)
      have HX2 := Lib.hid (HX.out.nix HW.out)
      have hkx0 : (0 : Int) ≤ (k : Int) := Int.natCast_nonneg _
      have hkx1 : (k : Int) < (D.L.length : Int) := by omega
      clear hu
      cases hoff : D.off with
      | false =>
        obtain ⟨hr1, hr2⟩ := read_at HO.out hlt hoff
        rw [hr1, hr2] at HRd
        clear hr1 hr2
        go_wp2_with fail
        refine HRd.out.mono ?_
        rintro e w3 ⟨v3, rfl, own3, f3⟩
        obtain ⟨A3, q3, rfl, -⟩ := own_shape own3
        have hx3 := HX2.out.nix f3
        obtain ⟨gr, fA, fc, rfl, -, k0, k1, -, hle, -, hown, -, hgr, -⟩ := hx3.at_ (i := k) hlt
        have c0 := hx3.blk.cell 0
        have c3 := hx3.blk.cell 3
        simp at c0 c3
        rw [hoff] at c3
        have hgl := hx3.blk.lt
        have hcu3 := (f3.cell (by rw [block_of_add]; exact hla) id).trans hcu
        have g0 : ∀ x : FW (Frm Nix w3), x.w.cell? ⟨g', 0, none⟩ = some (.slice (some ⟨gr, 0, none⟩) D.L.length c) := fun x => (x.h.cell hgl id).trans c0
        have g3 : ∀ x : FW (Frm Nix w3), x.w.cell? ⟨g', 3, none⟩ = some (.bool false) := fun x => (x.h.cell hgl id).trans c3
        have gk0 : ∀ x : FW (Frm Nix w3), x.w.cell? ⟨gr, k * 3, none⟩ = some (.string D.L[k].name) := fun x => (x.h.cell hgr id).trans k0
        have gk1 : ∀ x : FW (Frm Nix w3), x.w.cell? ⟨gr, k * 3 + 1, none⟩ = some (.slice fA D.L[k].b.length fc) := fun x => (x.h.cell hgr id).trans k1
        have gl : ∀ x : FW (Frm Nix w3), x.w.cell? (ad.add k) = some (.string D.L[k].name) := fun x => (x.h.cell (by rw [block_of_add]; exact Nat.lt_of_lt_of_le hla f3.size) id).trans hcu3
        have s1 : ∀ x : FW (Frm Nix w3), (convert 35 9 (.slice A3 D.L[k].b.length q3)).run Tryz.prog x.w = .ok (.string ⟨D.L[k].b.toArray⟩) x.w := fun x => run_str_of ((Rd.of_own own3).frm x.h fun _ _ => id)
        have s2 : ∀ x : FW (Frm Nix w3), (convert 35 9 (.slice fA D.L[k].b.length fc)).run Tryz.prog x.w = .ok (.string ⟨D.L[k].b.toArray⟩) x.w := fun x => run_str_of ((Rd.of_own hown).frm x.h fun _ _ => id)
        have HW3 := Lib.hid (HW.out.trans f3)
        clear hx3 c0 c3 k0 k1 hcu hcu3 hown own3 f3 HRd
        go_wp2_with fail
        refine wp_region_class (Frm Nix w3) ((Frm.refl Nix w3).drew) (by kernel_rfl) (by kernel_rfl) ?_
        repeat (go_big_quiet_step (fail))
        refine wpQuiet_nil ?_
        rintro w4 ⟨⟨_, hf4⟩, rfl⟩
        have HW4 := Lib.hid (HW3.out.trans hf4)
        clear hf4 g0 g3 gk0 gk1 gl s1 s2
        go_wp2
        go_roundw
        case rel => exact ⟨k + 1, by omega, by go_num, HW4.out⟩
        case measure => simp [intOf]; omega
      | true =>
        obtain ⟨hr1, hr2⟩ := read_off (D := D) D.L[k].name hoff
        rw [hr1, hr2] at HRd
        clear hr1 hr2
        go_wp2_with fail
        refine HRd.out.mono ?_
        rintro e w3 ⟨v3, rfl, own3, f3⟩
        obtain ⟨A3, q3, rfl, -⟩ := own_shape own3
        have hx3 := HX2.out.nix f3
        obtain ⟨gr, fA, fc, rfl, -, k0, -, -, hle, -, hown, -, hgr, -⟩ := hx3.at_ (i := k) hlt
        have c0 := hx3.blk.cell 0
        have c3 := hx3.blk.cell 3
        simp at c0 c3
        rw [hoff] at c3
        have hgl := hx3.blk.lt
        have hcu3 := (f3.cell (by rw [block_of_add]; exact hla) id).trans hcu
        have g0 : ∀ x : FW (Frm Nix w3), x.w.cell? ⟨g', 0, none⟩ = some (.slice (some ⟨gr, 0, none⟩) D.L.length c) := fun x => (x.h.cell hgl id).trans c0
        have g3 : ∀ x : FW (Frm Nix w3), x.w.cell? ⟨g', 3, none⟩ = some (.bool true) := fun x => (x.h.cell hgl id).trans c3
        have gk0 : ∀ x : FW (Frm Nix w3), x.w.cell? ⟨gr, k * 3, none⟩ = some (.string D.L[k].name) := fun x => (x.h.cell hgr id).trans k0
        have gl : ∀ x : FW (Frm Nix w3), x.w.cell? (ad.add k) = some (.string D.L[k].name) := fun x => (x.h.cell (by rw [block_of_add]; exact Nat.lt_of_lt_of_le hla f3.size) id).trans hcu3
        have HW3 := Lib.hid (HW.out.trans f3)
        clear hx3 c0 c3 k0 hcu hcu3 hown own3 f3 HRd
        go_wp2_with fail
        refine wp_region_class (Frm Nix w3) ((Frm.refl Nix w3).drew) (by kernel_rfl) (by kernel_rfl) ?_
        repeat (go_big_quiet_step (fail))
        refine wpQuiet_nil ?_
        rintro w4 ⟨⟨_, hf4⟩, rfl⟩
        have HW4 := Lib.hid (HW3.out.trans hf4)
        clear hf4 g0 g3 gk0 gl
        go_wp2
        go_roundw
        case rel => exact ⟨k + 1, by omega, by go_num, HW4.out⟩
        case measure => simp [intOf]; omega
    · obtain rfl : k = D.L.length := by omega
      go_wp2
      go_ret
      exact ⟨rfl, HF1.out.trans HW.out⟩
end Go.Proofs.YtdgpaddmheagoaaGreatDoor

set_option linter.unusedVariables false
set_option linter.unusedSimpArgs false
namespace Go.Proofs.YtdgpaddmheagoaaGreatDoor
open Go.RowKit

theorem spot_none {w : World} {a : Addr} {v : Value} (h : w.cell? a = some v) : a.spot = none := by
  unfold World.cell? at h
  split at h
  · split at h
    · cases h
    · rename_i hs
      simpa using hs
  · cases h
theorem add_block (b off n : Nat) : (⟨b, off, none⟩ : Addr).add n = ⟨b, off + n, none⟩ := by
  unfold Addr.add
  split
  · rename_i h; rw [h]; rfl
  · rfl

/-- the row of calls, its head's place. -/
theorem rd_ops {w : World} {G : Nat → Prop} {A : Option Addr} {n : Nat} {l : List OpV} (h : Rd w G 6 A n (l.flatMap OpV.cells)) (hl : l.length = n) (hn : 0 < n) :
    ∃ b off, A = some ⟨b, off, none⟩ ∧ G b ∧ b < w.heap.size ∧ ∀ (i : Nat) (hi : i < l.length) (j : Nat) (u : Value), l[i].cells[j]? = some u → w.cell? ⟨b, off + i * 6 + j, none⟩ = some u := by
  obtain ⟨⟨b, off, sp⟩, rfl, h1, h2, h3⟩ := h.2 hn
  have h0 := h3 0 (.int .i64 (l[0]'(by omega)).kind) (by
    have := ops_at l 0 (by omega) 0 (by decide)
    simp only [Nat.zero_mul, Nat.add_zero] at this
    rw [this]
    rfl)
  have e : sp = none := by
    have := spot_none h0
    simpa [Addr.add] using this
  subst e
  refine ⟨b, off, rfl, h1, h2, fun i hi j u hu => ?_⟩
  have hj : j < 6 := by
    have := (List.getElem?_eq_some_iff.1 hu).1
    simpa [OpV.cells] using this
  have := h3 (i * 6 + j) u (by rw [ops_at l i hi j hj, hu])
  rw [add_block, ← Nat.add_assoc] at this
  exact this

/-- two disks of the law's own, behind calls: wl: the world that the law came into; w0: the world of which they turn nothing. -/
structure Two (wl w0 : World) (g g' k : Nat) (D : Dsk) (w : World) : Prop where
  at_ : ∃ F W F', Pair w wl.heap.size g F wl.heap.size g' W F' D ∧ (∀ k, F k → w0.heap.size ≤ k) ∧ ∀ k, W k → w0.heap.size ≤ k
  old : Frm Nix wl w0
  frm : Frm Nix w0 w
  deeds : D.deeds ≤ k
section
variable {wl w0 w w1 : World} {g g' k : Nat} {D D' : Dsk} {F W F' : Nat → Prop}
theorem Two.nix (h : Two wl w0 g g' k D w) (hf : Frm Nix w w1) : Two wl w0 g g' k D w1 := by
  obtain ⟨F, W, F', hp, h1, h2⟩ := h.at_
  exact ⟨⟨F, W, F', hp.nix hf, h1, h2⟩, h.old, h.frm.trans hf, h.deeds⟩
theorem Two.all (h : Two wl w0 g g' k D w) : Frm Nix wl w := h.old.trans h.frm
theorem Two.go (hp : Pair w wl.heap.size g F wl.heap.size g' W F' D) (hF : ∀ k, F k → w0.heap.size ≤ k) (hW : ∀ k, W k → w0.heap.size ≤ k) (ho : Frm Nix wl w0) (hf : Frm Nix w0 w) (h : PairGo w wl.heap.size g F wl.heap.size g' W F' D' w1) (hd : D'.deeds ≤ k) : Two wl w0 g g' k D' w1 := by
  obtain ⟨F1, W1, F1', h1, h2, n1, n2, -⟩ := h
  have hs := hf.size
  refine ⟨⟨F1, W1, F1', h1, fun i hi => ?_, fun i hi => ?_⟩, ho, hf.next h2 (fun i hi => .inr ?_), hd⟩
  · rcases n1 i hi with e | e
    · exact hF i e
    · omega
  · rcases n2 i hi with e | e
    · exact hW i e
    · omega
  · rcases hi with hi | hi
    · exact hF i hi
    · exact hW i hi
/-- the new disks. -/
theorem Two.new {wa wb wc : World} (h : Dk wa wl.heap.size g F D) (hF : Frm Nix wl wa) (hx : RD wb wl.heap.size g' W F' D) (hn : Frm Nix wa wb) (hk : ∀ k, F' k → wa.heap.size ≤ k) (hd : D.deeds = 0) (hc : Frm Nix wb wc) : Two wl wl g g' 0 D wc :=
  ⟨⟨F, W, F', ⟨(h.nix hn).nix hc, hx.nix hc, fun k h1 h2 => by have := (h.lo k h1).2; have := hk k h2; omega⟩, fun k hk => (h.lo k hk).1, fun k hk => (hx.lo k (hx.wf k hk)).1⟩, Frm.refl _ _, (hF.trans hn).trans hc, by omega⟩
/-- clones. -/
theorem Two.clone {wb w2 : World} {g2 g2' : Nat} {F2 W2 F2' : Nat → Prop} (h : Two wl w0 g g' k D wb) (hp : Pair wb wl.heap.size g F wl.heap.size g' W F' D) (h1 : Dk w1 wl.heap.size g2 F2 D) (f1 : Frm Nix wb w1) (n1 : ∀ k, F2 k → wb.heap.size ≤ k) (h2 : RD w2 wl.heap.size g2' W2 F2' D) (f2 : Frm Nix w1 w2) (n2 : ∀ k, W2 k → w1.heap.size ≤ k) (n3 : ∀ k, F2' k → F' k ∨ w1.heap.size ≤ k) :
    Two wl wb g2 g2' k D w2 := by
  have hs := f1.size
  refine ⟨⟨F2, W2, F2', ⟨h1.nix f2, h2, fun i hi hj => ?_⟩, n1, fun i hi => by have := n2 i hi; omega⟩, h.all, f1.trans f2, h.deeds⟩
  have := (h1.lo i hi).2
  have := n1 i hi
  rcases n3 i hj with e | e
  · have := (hp.x.lo i e).2
    omega
  · omega
end
theorem RDk.rd {w : World} {B g : Nat} {F : Nat → Prop} {D : Dsk} (h : RDk w B g F D) (hD : D.L = []) : RD w B g F F D := by
  have hlo := h.lo
  obtain ⟨A, c, V, h1, rfl⟩ := h
  have hV : V = [] := List.eq_nil_of_length_eq_zero (by rw [h1.len, hD]; rfl)
  exact ⟨⟨A, c, V, h1, fun _ hk => hk, fun r hr => by rw [hV] at hr; cases hr⟩, fun _ hk => hk, hlo⟩

theorem OpV.Ok.small {W : World} {l : List OpV} (h : largeB l = false) {o : OpV} (ho : o ∈ l) : o.dn ≤ 1000 := by
  unfold largeB at h
  rw [Bool.or_eq_false_iff] at h
  have := List.any_eq_false.1 h.2 o ho
  simp [OpV.big] at this
  omega
theorem large_len {l : List OpV} (h : largeB l = false) : l.length ≤ 150 := by
  unfold largeB at h
  rw [Bool.or_eq_false_iff] at h
  simpa using h.1

/-- ONE CALL OF BOTH, out of the row. -/
theorem Two.call {wl w0 w : World} {g g' k : Nat} {D : Dsk} (h : Two wl w0 g g' k D w) (o : OpV) (ho : o.Ok wl) (hs : o.dn ≤ 1000) (hk : k < 1000000) :
    Calls Tryz.prog 8 #[.pointer (some ⟨g, 0, none⟩), .pointer (some ⟨g', 0, none⟩), .agg o.cells.toArray] w fun e w' => e = .returned (.bool true) ∧ Two wl w0 g g' (k + 1) (D.op o) w' := by
  obtain ⟨F, W, F', hp, hF, hW⟩ := h.at_
  refine (Do_any (G := OldB wl) hp o ho.a ho.b ho.n.2 ho.dl (ho.dr.frm h.all fun _ _ => id) hs ho.kl (ho.kr.frm h.all fun _ _ => id) ho.km (fun k hk => ⟨fun hF => ?_, fun hF => ?_⟩) (by have := h.deeds; omega)).mono ?_
  · have := (hp.d.lo k hF).1
    unfold OldB at hk
    omega
  · have := (hp.x.lo k hF).1
    unfold OldB at hk
    omega
  · rintro e w' ⟨rfl, hgo⟩
    exact ⟨rfl, Two.go hp hF hW h.old h.frm hgo (by have := op_deeds D o; have := h.deeds; omega)⟩
theorem Two.alike {wl w0 w : World} {g g' k : Nat} {D : Dsk} (h : Two wl w0 g g' k D w) :
    Calls Tryz.prog 15 #[.pointer (some ⟨g, 0, none⟩), .pointer (some ⟨g', 0, none⟩)] w fun e w' => e = .returned (.bool true) ∧ Frm Nix w w' := by
  obtain ⟨F, W, F', hp, -⟩ := h.at_
  exact Alike_any hp
end Go.Proofs.YtdgpaddmheagoaaGreatDoor
