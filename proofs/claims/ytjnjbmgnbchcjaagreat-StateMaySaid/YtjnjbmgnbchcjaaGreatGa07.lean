/-
  DERIVED: THE SHELF's CONTRACTS AT THIS DUMP, IN PLAIN WORDS (tools/lay-plain.mjs out of 'YtjnjbmgnbchcjaaGreatCfScratch.lean', which tools/lay-shelf.mjs wrote): THE SAME DECLARATIONS UNDER THE SAME NAMES: 'import', 'namespace', 'open', 'def', 'theorem' AND NOTHING ELSE: no command of the shelf's: FOR A HAND-IN. Each laying: the table of numbers ('.._ren') and one theorem, a field a fact of the dump's own or the kernel's comparison; each contract: ONE APPLICATION.
-/
import Derived.Shelf.Spec.SearchS
import Derived.Shelf.Spec.SlicesInsert
import Derived.Shelf.Spec.SlicesInsertGrow
import Derived.Shelf.SlMaps.Clone
import Derived.Ground.SlmcProg
import Derived.Test.YtjnjbmgnbchcjaaGreatProg
import Derived.Test.YtjnjbmgnbchcjaaGreatGa04
import Derived.Test.YtjnjbmgnbchcjaaGreatGa05
import Derived.Deep.QuietTactic
section
namespace Go.Proofs
open Go.Shelf
def Tryz.laysBS_ren : Go.Shelf.Ren := ⟨fun | 26 => 107 | 33 => 146 | 34 => 147 | 38 => 175 | n => n, fun | 24 => 66 | 9 => 9 | 3 => 3 | 4 => 4 | 40 => 167 | 0 => 0 | n => n, fun | n => n⟩
theorem Tryz.laysBS : Go.Proofs.Lays2.n26 Tryz.prog Tryz.laysBS_ren := {
  mixed := by kernel_rfl
  f26 := Tryz.func107.trans (congrArg some (by kernel_rfl))
  f33 := Tryz.func146.trans (congrArg some (by kernel_rfl))
  f34 := Tryz.func147.trans (congrArg some (by kernel_rfl))
  f38 := Tryz.func175.trans (congrArg some (by kernel_rfl))
  t0 := Tryz.underlying0
  a0 := Tryz.isAgg0
  z0 := Tryz.sizeOf0
  v0 := Tryz.zeroValue0
  t3 := Tryz.underlying3
  a3 := Tryz.isAgg3
  z3 := Tryz.sizeOf3
  v3 := Tryz.zeroValue3
  t4 := Tryz.underlying4
  a4 := Tryz.isAgg4
  z4 := Tryz.sizeOf4
  v4 := Tryz.zeroValue4
  t9 := Tryz.underlying9
  a9 := Tryz.isAgg9
  z9 := Tryz.sizeOf9
  v9 := Tryz.zeroValue9
  t24 := Tryz.underlying66
  a24 := Tryz.isAgg66
  z24 := Tryz.sizeOf66
  v24 := Tryz.zeroValue66
  t40 := Tryz.underlying167
  a40 := Tryz.isAgg167
  z40 := Tryz.sizeOf167
  v40 := Tryz.zeroValue167 }
def Tryz.laysIns_ren : Go.Shelf.Ren := ⟨fun | 22 => 108 | 29 => 148 | 30 => 149 | 36 => 176 | 17 => 202 | n => n, fun | 24 => 66 | 9 => 9 | 3 => 3 | 4 => 4 | 0 => 0 | n => n, fun | n => n⟩
theorem Tryz.laysIns : Go.Proofs.Lays2.n22 Tryz.prog Tryz.laysIns_ren := {
  mixed := by kernel_rfl
  f17 := Tryz.func202.trans (congrArg some (by kernel_rfl))
  f22 := Tryz.func108.trans (congrArg some (by kernel_rfl))
  f29 := Tryz.func148.trans (congrArg some (by kernel_rfl))
  f30 := Tryz.func149.trans (congrArg some (by kernel_rfl))
  f36 := Tryz.func176.trans (congrArg some (by kernel_rfl))
  t0 := Tryz.underlying0
  a0 := Tryz.isAgg0
  z0 := Tryz.sizeOf0
  v0 := Tryz.zeroValue0
  t3 := Tryz.underlying3
  a3 := Tryz.isAgg3
  z3 := Tryz.sizeOf3
  v3 := Tryz.zeroValue3
  t4 := Tryz.underlying4
  a4 := Tryz.isAgg4
  z4 := Tryz.sizeOf4
  v4 := Tryz.zeroValue4
  t9 := Tryz.underlying9
  a9 := Tryz.isAgg9
  z9 := Tryz.sizeOf9
  v9 := Tryz.zeroValue9
  t24 := Tryz.underlying66
  a24 := Tryz.isAgg66
  z24 := Tryz.sizeOf66
  v24 := Tryz.zeroValue66
  i9 := by kernel_rfl }
def Tryz.cl83_ren : Go.Shelf.Ren := ⟨fun | 5 => 83 | 7 => 120 | n => n, fun | 23 => 90 | 25 => 3 | 3 => 75 | 4 => 4 | 20 => 20 | n => n, fun | n => n⟩
theorem Tryz.cl83 : Go.Proofs.SlLaysW.n5 Tryz.prog Tryz.cl83_ren := {
  mixed := by kernel_rfl
  f5 := ⟨Tryz.f83.name, by decide, Tryz.func83.trans (congrArg some (by kernel_rfl))⟩
  f7 := Tryz.func120.trans (congrArg some (by kernel_rfl))
  t4 := Tryz.underlying4
  a4 := Tryz.isAgg4
  z4 := Tryz.sizeOf4
  v4 := Tryz.zeroValue4
  t20 := Tryz.underlying20
  a20 := Tryz.isAgg20
  z20 := Tryz.sizeOf20
  v20 := Tryz.zeroValue20
  t23 := Tryz.underlying90
  a23 := Tryz.isAgg90
  z23 := Tryz.sizeOf90
  v23 := Tryz.zeroValue90 }
def Tryz.cl84_ren : Go.Shelf.Ren := ⟨fun | 5 => 84 | 7 => 120 | n => n, fun | 23 => 91 | 25 => 3 | 3 => 63 | 4 => 4 | 20 => 20 | n => n, fun | n => n⟩
theorem Tryz.cl84 : Go.Proofs.SlLaysW.n5 Tryz.prog Tryz.cl84_ren := {
  mixed := by kernel_rfl
  f5 := ⟨Tryz.f84.name, by decide, Tryz.func84.trans (congrArg some (by kernel_rfl))⟩
  f7 := Tryz.func120.trans (congrArg some (by kernel_rfl))
  t4 := Tryz.underlying4
  a4 := Tryz.isAgg4
  z4 := Tryz.sizeOf4
  v4 := Tryz.zeroValue4
  t20 := Tryz.underlying20
  a20 := Tryz.isAgg20
  z20 := Tryz.sizeOf20
  v20 := Tryz.zeroValue20
  t23 := Tryz.underlying91
  a23 := Tryz.isAgg91
  z23 := Tryz.sizeOf91
  v23 := Tryz.zeroValue91 }
def Tryz.cl85_ren : Go.Shelf.Ren := ⟨fun | 5 => 85 | 7 => 120 | n => n, fun | 23 => 92 | 25 => 3 | 3 => 68 | 4 => 4 | 20 => 20 | n => n, fun | n => n⟩
theorem Tryz.cl85 : Go.Proofs.SlLaysW.n5 Tryz.prog Tryz.cl85_ren := {
  mixed := by kernel_rfl
  f5 := ⟨Tryz.f85.name, by decide, Tryz.func85.trans (congrArg some (by kernel_rfl))⟩
  f7 := Tryz.func120.trans (congrArg some (by kernel_rfl))
  t4 := Tryz.underlying4
  a4 := Tryz.isAgg4
  z4 := Tryz.sizeOf4
  v4 := Tryz.zeroValue4
  t20 := Tryz.underlying20
  a20 := Tryz.isAgg20
  z20 := Tryz.sizeOf20
  v20 := Tryz.zeroValue20
  t23 := Tryz.underlying92
  a23 := Tryz.isAgg92
  z23 := Tryz.sizeOf92
  v23 := Tryz.zeroValue92 }
def Tryz.cl86_ren : Go.Shelf.Ren := ⟨fun | 5 => 86 | 7 => 120 | n => n, fun | 23 => 93 | 25 => 3 | 3 => 77 | 4 => 4 | 20 => 20 | n => n, fun | n => n⟩
theorem Tryz.cl86 : Go.Proofs.SlLaysW.n5 Tryz.prog Tryz.cl86_ren := {
  mixed := by kernel_rfl
  f5 := ⟨Tryz.f86.name, by decide, Tryz.func86.trans (congrArg some (by kernel_rfl))⟩
  f7 := Tryz.func120.trans (congrArg some (by kernel_rfl))
  t4 := Tryz.underlying4
  a4 := Tryz.isAgg4
  z4 := Tryz.sizeOf4
  v4 := Tryz.zeroValue4
  t20 := Tryz.underlying20
  a20 := Tryz.isAgg20
  z20 := Tryz.sizeOf20
  v20 := Tryz.zeroValue20
  t23 := Tryz.underlying93
  a23 := Tryz.isAgg93
  z23 := Tryz.sizeOf93
  v23 := Tryz.zeroValue93 }
def Tryz.cl87_ren : Go.Shelf.Ren := ⟨fun | 5 => 87 | 7 => 120 | n => n, fun | 23 => 94 | 25 => 112 | 3 => 3 | 4 => 4 | 20 => 20 | n => n, fun | n => n⟩
theorem Tryz.cl87 : Go.Proofs.SlLaysW.n5 Tryz.prog Tryz.cl87_ren := {
  mixed := by kernel_rfl
  f5 := ⟨Tryz.f87.name, by decide, Tryz.func87.trans (congrArg some (by kernel_rfl))⟩
  f7 := Tryz.func120.trans (congrArg some (by kernel_rfl))
  t4 := Tryz.underlying4
  a4 := Tryz.isAgg4
  z4 := Tryz.sizeOf4
  v4 := Tryz.zeroValue4
  t20 := Tryz.underlying20
  a20 := Tryz.isAgg20
  z20 := Tryz.sizeOf20
  v20 := Tryz.zeroValue20
  t23 := Tryz.underlying94
  a23 := Tryz.isAgg94
  z23 := Tryz.sizeOf94
  v23 := Tryz.zeroValue94 }
def Tryz.cl88_ren : Go.Shelf.Ren := ⟨fun | 5 => 88 | 7 => 120 | n => n, fun | 23 => 95 | 25 => 9 | 3 => 3 | 4 => 4 | 20 => 20 | n => n, fun | n => n⟩
theorem Tryz.cl88 : Go.Proofs.SlLaysW.n5 Tryz.prog Tryz.cl88_ren := {
  mixed := by kernel_rfl
  f5 := ⟨Tryz.f88.name, by decide, Tryz.func88.trans (congrArg some (by kernel_rfl))⟩
  f7 := Tryz.func120.trans (congrArg some (by kernel_rfl))
  t4 := Tryz.underlying4
  a4 := Tryz.isAgg4
  z4 := Tryz.sizeOf4
  v4 := Tryz.zeroValue4
  t20 := Tryz.underlying20
  a20 := Tryz.isAgg20
  z20 := Tryz.sizeOf20
  v20 := Tryz.zeroValue20
  t23 := Tryz.underlying95
  a23 := Tryz.isAgg95
  z23 := Tryz.sizeOf95
  v23 := Tryz.zeroValue95 }
def Tryz.cl89_ren : Go.Shelf.Ren := ⟨fun | 5 => 89 | 7 => 120 | n => n, fun | 23 => 96 | 25 => 114 | 3 => 3 | 4 => 4 | 20 => 20 | n => n, fun | n => n⟩
theorem Tryz.cl89 : Go.Proofs.SlLaysW.n5 Tryz.prog Tryz.cl89_ren := {
  mixed := by kernel_rfl
  f5 := ⟨Tryz.f89.name, by decide, Tryz.func89.trans (congrArg some (by kernel_rfl))⟩
  f7 := Tryz.func120.trans (congrArg some (by kernel_rfl))
  t4 := Tryz.underlying4
  a4 := Tryz.isAgg4
  z4 := Tryz.sizeOf4
  v4 := Tryz.zeroValue4
  t20 := Tryz.underlying20
  a20 := Tryz.isAgg20
  z20 := Tryz.sizeOf20
  v20 := Tryz.zeroValue20
  t23 := Tryz.underlying96
  a23 := Tryz.isAgg96
  z23 := Tryz.sizeOf96
  v23 := Tryz.zeroValue96 }
def Tryz.cl90_ren : Go.Shelf.Ren := ⟨fun | 5 => 90 | 7 => 120 | n => n, fun | 23 => 97 | 25 => 3 | 3 => 3 | 4 => 4 | 20 => 20 | n => n, fun | n => n⟩
theorem Tryz.cl90 : Go.Proofs.SlLaysW.n5 Tryz.prog Tryz.cl90_ren := {
  mixed := by kernel_rfl
  f5 := ⟨Tryz.f90.name, by decide, Tryz.func90.trans (congrArg some (by kernel_rfl))⟩
  f7 := Tryz.func120.trans (congrArg some (by kernel_rfl))
  t4 := Tryz.underlying4
  a4 := Tryz.isAgg4
  z4 := Tryz.sizeOf4
  v4 := Tryz.zeroValue4
  t20 := Tryz.underlying20
  a20 := Tryz.isAgg20
  z20 := Tryz.sizeOf20
  v20 := Tryz.zeroValue20
  t23 := Tryz.underlying97
  a23 := Tryz.isAgg97
  z23 := Tryz.sizeOf97
  v23 := Tryz.zeroValue97 }
end Go.Proofs
end
section
namespace Go.Proofs.YtjnjbmgnbchcjaaGreat
open Go.RowKit Go.Lib

theorem spot_none {w : World} {a : Addr} {v : Value} (h : w.cell? a = some v) : a.spot = none := by
  unfold World.cell? at h
  split at h
  · split at h
    · cases h
    · rename_i hs
      simpa using hs
  · cases h
theorem add_block (b off n : Nat) : (⟨b, off, none⟩ : Addr).add n = ⟨b, off + n, none⟩ := by
  unfold Addr.add
  split
  · rename_i h; rw [h]; rfl
  · rfl
/-- a slice of texts, its head's place. -/
theorem rd_strs {w : World} {G : Nat → Prop} {A : Option Addr} {n : Nat} {l : List ByteArray} (h : Rd w G 1 A n (l.map Value.string)) (hn : 0 < n) :
    ∃ b off, A = some ⟨b, off, none⟩ ∧ G b ∧ b < w.heap.size ∧ ∀ j, j < l.length → w.cell? ⟨b, off + j, none⟩ = some (.string (l.getD j ByteArray.empty)) := by
  have hl : l.length = n := by have := h.1; simpa using this
  obtain ⟨⟨b, off, sp⟩, rfl, h1, h2, h3⟩ := h.2 hn
  have hg : ∀ j, j < l.length → w.cell? ((⟨b, off, sp⟩ : Addr).add j) = some (.string (l.getD j ByteArray.empty)) := fun j hj => by
    rw [h3 j _ (by rw [List.getElem?_map, List.getElem?_eq_getElem hj]; rfl), List.getD_eq_getElem?_getD, List.getElem?_eq_getElem hj]
    rfl
  have h0 := hg 0 (by omega)
  have e : sp = none := by
    have := spot_none h0
    simpa [Addr.add] using this
  subst e
  exact ⟨b, off, rfl, h1, h2, fun j hj => by rw [← hg j hj, add_block]⟩

theorem Equal_any {w : World} {G G' : Nat → Prop} {A A' : Option Addr} {n c m d : Nat} {xs ys : List ByteArray} (hx : Rd w G 1 A n (xs.map Value.string)) (hy : Rd w G' 1 A' m (ys.map Value.string)) (hn : n ≤ 9223372036854775807) (hm : m ≤ 9223372036854775807) :
    Calls Tryz.prog 112 #[.slice A n c, .slice A' m d] w fun e w' => e = .returned (.bool (decide (xs = ys))) ∧ Frm Nix w w' := by
  have hxl : xs.length = n := by have := hx.1; simpa using this
  have hyl : ys.length = m := by have := hy.1; simpa using this
  by_cases hnm : n = m
  · subst hnm
    by_cases h0 : 0 < n
    · obtain ⟨b1, o1, rfl, -, -, c1⟩ := rd_strs hx h0
      obtain ⟨b2, o2, rfl, -, -, c2⟩ := rd_strs hy h0
      refine (Tryz.slices_Equal_string b1 o1 n c b2 o2 n d xs ys w (by omega) (by omega) hn hm c1 c2).mono ?_
      rintro e w' ⟨rfl, q, rfl⟩
      refine ⟨?_, (Frm.refl Nix w).drewN q⟩
      rw [List.take_of_length_le (by omega), List.take_of_length_le (by omega)]
    · obtain rfl : n = 0 := by omega
      refine (Tryz.slices_Equal_string_empty A A' c 0 d w hm).mono ?_
      rintro e w' ⟨rfl, rfl⟩
      have e1 : xs = [] := List.eq_nil_of_length_eq_zero hxl
      have e2 : ys = [] := List.eq_nil_of_length_eq_zero hyl
      exact ⟨ret_bool (by simp [e1, e2]), Frm.refl _ _⟩
  · refine (Tryz.slices_Equal_string_lens A A' n c m d w hnm).mono ?_
    rintro e w' ⟨rfl, rfl⟩
    refine ⟨ret_bool ?_, Frm.refl _ _⟩
    rw [eq_comm, decide_eq_false_iff_not]
    intro e
    rw [e] at hxl
    omega

theorem beq_of {x y : ByteArray} (h : x ≠ y) : (x.toList == y.toList) = false := by
  rw [beq_eq_false_iff_ne]
  intro e
  rw [ByteArray.toList_eq, ByteArray.toList_eq] at e
  exact h (bys_inj e)
theorem take_succ_eq {α : Type} {xs ys : List α} {k : Nat} (hx : k < xs.length) (hy : k < ys.length) (h : xs.take k = ys.take k) (he : xs[k] = ys[k]) : xs.take (k + 1) = ys.take (k + 1) := by
  rw [List.take_succ_eq_append_getElem hx, List.take_succ_eq_append_getElem hy, h, he]

set_option maxRecDepth 100000 in
set_option maxHeartbeats 1000000 in
theorem rSame_any {w : World} {G G' : Nat → Prop} {A A' : Option Addr} {n c m d : Nat} {xs ys : List ByteArray} (hx : Rd w G 1 A n (xs.map Value.string)) (hy : Rd w G' 1 A' m (ys.map Value.string)) (hn : n ≤ 4611686018427387904) (hm : m ≤ 4611686018427387904) :
    Calls Tryz.prog 156 #[.slice A n c, .slice A' m d] w fun e w' => e = .returned (.bool (decide (xs = ys))) ∧ Frm Nix w w' := by
  have hxl : xs.length = n := by have := hx.1; simpa using this
  have hyl : ys.length = m := by have := hy.1; simpa using this
  have HXL := Lib.hid hxl
  have HYL := Lib.hid hyl
  have HX := Lib.hid hx
  have HY := Lib.hid hy
  clear hx hy
  by_cases hnm : n = m
  · subst hnm
    clear hxl hyl
    go_enter Tryz.func156, Tryz.ntmps156
    go_wp2
    go_loopw [5] (fun i wr => ∃ k : Nat, k ≤ n ∧ i = .int .i64 k ∧ xs.take k = ys.take k ∧ Frm Nix w wr) (fun i _ => n - (intOf i).toNat)
    case atStart => exact ⟨0, Nat.zero_le _, rfl, rfl, Frm.refl _ _⟩
    case round =>
      obtain ⟨k, hk, rfl, hall, hfr⟩ := hrel
      have HA := Lib.hid hall
      have HF := Lib.hid hfr
      clear hall hfr
      by_cases hlt : k < n
      · obtain ⟨ax, u, rfl, -, lx, hu, cx0⟩ := HX.out.at_ hlt
        obtain ⟨ay, v, rfl, -, ly, hv, cy0⟩ := HY.out.at_ hlt
        have cx := (HF.out.cell (p := ax.add k) (by rw [block_of_add]; exact lx) id).trans cx0
        have cy := (HF.out.cell (p := ay.add k) (by rw [block_of_add]; exact ly) id).trans cy0
        clear cx0 cy0
        have kx : k < xs.length := by rw [HXL.out]; exact hlt
        have ky : k < ys.length := by rw [HYL.out]; exact hlt
        rw [List.getElem?_map, List.getElem?_eq_getElem kx] at hu
        rw [List.getElem?_map, List.getElem?_eq_getElem ky] at hv
        injection hu with hu
        injection hv with hv
        subst hu
        subst hv
        have HT := Lib.hid (take_succ_eq kx ky HA.out)
        have HNE : Hid (xs[k] ≠ ys[k] → xs ≠ ys) := fun h e => h (by subst e; rfl)
        obtain ⟨X, hX⟩ : ∃ X, xs[k] = X := ⟨_, rfl⟩
        obtain ⟨Y, hY⟩ : ∃ Y, ys[k] = Y := ⟨_, rfl⟩
        rw [hX] at cx HT HNE
        rw [hY] at cy HT HNE
        have hk0 : (0 : Int) ≤ (k : Int) := Int.natCast_nonneg _
        have hk1 : (k : Int) < (n : Int) := by omega
        clear hX hY
        by_cases hxy : X = Y
        · have HE := Lib.hid (HT.out hxy)
          subst hxy
          go_wp2_with fail
          go_quiet (fail)
          go_wp2
          go_roundw
          case rel => exact ⟨k + 1, by omega, by go_num, HE.out, HF.out.drewN _⟩
          case measure => simp [intOf]; omega
        · have HE := Lib.hid (HNE.out hxy)
          have hb := beq_of hxy
          go_wp2_with fail
          go_quiet (fail)
          go_wp2
          go_ret
          exact ⟨ret_bool (by rw [eq_comm, decide_eq_false_iff_not]; exact HE.out), HF.out.drewN _⟩
      · obtain rfl : k = n := by omega
        go_wp2
        go_ret
        refine ⟨ret_bool ?_, HF.out⟩
        have := HA.out
        rw [List.take_of_length_le (by rw [HXL.out]; exact Nat.le_refl _), List.take_of_length_le (by rw [HYL.out]; exact Nat.le_refl _)] at this
        rw [eq_comm, decide_eq_true_eq]
        exact this
  · have hd : decide ((n : Int) = (m : Int)) = false := by simp; omega
    have hb : ((n : Int) != (m : Int)) = true := by simp; omega
    have HNE : Hid (xs ≠ ys) := fun e => by rw [e] at hxl; omega
    clear hxl hyl
    go_enter Tryz.func156, Tryz.ntmps156
    go_wp2
    go_ret
    exact ⟨ret_bool (by rw [eq_comm, decide_eq_false_iff_not]; exact HNE.out), Frm.refl _ _⟩

set_option maxRecDepth 100000 in
set_option maxHeartbeats 1000000 in
theorem Is_any (s : ByteArray) (w : World) (hs : s.size ≤ 1000000) :
    Calls Tryz.prog 174 #[.string s] w fun e w' => e = .returned (.bool (decide (wordsB s = [s]))) ∧ Frm Nix w w' := by
  have KW := Lib.hid (Words_any s w hs)
  generalize wordsB s = l at *
  go_enter Tryz.func174, Tryz.ntmps174
  go_wp2_with fail
  refine KW.out.mono ?_
  rintro e w1 ⟨A, c, rfl, hrow⟩
  have HF := Lib.hid hrow.frm
  by_cases h1 : l.length = 1
  · obtain ⟨x, rfl⟩ := List.length_eq_one_iff.1 h1
    obtain ⟨ad, u, rfl, -, -, hu, cx⟩ := hrow.rd.at_ (k := 0) (by simp)
    simp at hu
    subst hu
    have ca : w1.cell? ad = some (.string x) := cx
    clear hrow cx
    by_cases hxs : x = s
    · subst hxs
      go_wp2
      go_ret
      exact ⟨ret_bool (by simp), HF.out⟩
    · have hb := beq_of hxs
      go_wp2
      go_ret
      exact ⟨ret_bool (by simp [hxs]), HF.out⟩
  · have hb : ((l.length : Int) == 1) = false := by simp; omega
    have HNE : Hid (l ≠ [s]) := fun e => h1 (by rw [e]; rfl)
    clear hrow h1
    generalize l.length = N at *
    go_wp2
    go_ret
    exact ⟨ret_bool (by rw [eq_comm, decide_eq_false_iff_not]; exact HNE.out), HF.out⟩

end Go.Proofs.YtjnjbmgnbchcjaaGreat
end
