/-
  What a manifest handed to a law holds, read off the form's own reading of it.
-/
import Derived.Test.YtdgpaddmheagoaaGreatDoorND
import Derived.Test.YtdgpaddmheagoaaGreatDoorRows
import Derived.ProofKit
import Derived.LaidMore
import Derived.OpenShut
import Derived.Lib.LaidTab
import Derived.Test.YtdgpaddmheagoaaGreatDoorView
import Derived.Test.YtdgpaddmheagoaaGreatDoorMA
namespace Go.Proofs.YtdgpaddmheagoaaGreatDoor
open Go.ChangeShapes Go.WideShapes Go.ChangeAt Go.RowKit

def laid1 : List (String × DataW Unit) := [("newsstand/crc.halves", Rows.laid_newsstand_crc_halves)]
theorem gHalves : Tryz.prog.globalNamed "newsstand/crc.halves" = some 0 := by kernel_rfl
theorem tHalves : (Tryz.prog.globals[0]?).map (·.type) = some 124 := by kernel_rfl
theorem tab_data : (Rows.laid_newsstand_crc_halves : DataW Unit) = Lib.tabData .u32 (halvesL.map fun n : Nat => (n : Int)) := rfl

theorem door_met (os : Os) (args : Array Value) : laidMetH Tryz.prog laid1 ((World.doorLaid Tryz.prog 400 os).forCall (fun _ _ => 0) ⟨#[], args, []⟩).memory :=
  laidMetH_of_parts3 (fuel := 8) (laidMet_of_run' 8 (by kernel_rfl) (by kernel_rfl)) (by kernel_rfl) (by kernel_rfl)

theorem tab_of_laid {W : World} (h : laidMetH Tryz.prog laid1 W) : Tab W := by
  rw [MakeChecks.laidMetH_plain _ _ _ (by kernel_rfl)] at h
  obtain ⟨ps, ⟨g0, t0, cs0, f0, p0, q0, hg0, ht0, hv0, hd0, _, _⟩, _, _⟩ := h
  obtain rfl := Option.some.inj (gHalves.symm.trans hg0)
  obtain rfl := Option.some.inj (tHalves.symm.trans ht0)
  rw [tab_data] at hd0
  have hc := Lib.cells_of_tab Tryz.underlying124 Tryz.underlying79 (by kernel_rfl) (by kernel_rfl) hd0
  intro i hi
  have hcell := World.var?_cell hg0 hv0 i
  have e : cs0[i]? = cs0.toList[i]? := by simp
  rw [e, hc] at hcell
  rw [hcell]
  have hl : halvesL.length = 16 := by decide
  simp [List.getElem?_eq_getElem (show i < halvesL.length by omega), List.getD_eq_getElem?_getD]
end Go.Proofs.YtdgpaddmheagoaaGreatDoor

namespace Go.Proofs.YtdgpaddmheagoaaGreatDoor
open Go.ChangeShapes Go.WideShapes Go.ChangeAt Go.RowKit Go.Deep

section
variable {H : Type} {enc : TypeId × Value → H} {W : World} {base : Nat} {sp : Nat → Bool} {held : Bool} {fuel : Nat} {cs : List Value} {x : DataW H × List MemPlace}

theorem list3 {α : Type} {l : List α} (h : l.length = 3) : ∃ a b c, l = [a, b, c] := by
  match l, h with
  | [a, b, c], _ => exact ⟨a, b, c, rfl⟩

theorem vMan (h : DataW.trod enc Tryz.prog W base sp held fuel 25 cs = some x) : ∃ (m : Man) (A : Option Addr) (c : Nat), cs = [.int .i64 m.gen, .int .i64 m.snap, .slice A m.segs.length c] ∧ ManIn W (OldB W) m A c := by
  have hC : Tryz.prog.cellsOf 25 = 3 := by kernel_rfl
  obtain ⟨xs, n, -, -, hlen, hxl, hg⟩ := DataW.trod_struct Tryz.underlying25 h
  rw [hC] at hlen
  obtain ⟨c0, c1, c2, rfl⟩ := list3 hlen
  obtain ⟨y0, h0⟩ := field_of (i := 0) hg hxl rfl rfl one_int rfl rfl
  obtain ⟨y1, h1⟩ := field_of (i := 1) hg hxl rfl rfl one_int rfl rfl
  obtain ⟨y2, h2⟩ := field_of (i := 2) hg hxl rfl rfl one_ints rfl rfl
  obtain ⟨a, e0, w0⟩ := vInt h0
  obtain ⟨b, e1, w1⟩ := vInt h1
  obtain ⟨A, n', c, l, e2, w2, r2, -, l2, m2, v2⟩ := vInts h2
  injection e0 with e0; injection e1 with e1; injection e2 with e2
  subst e0; subst e1; subst e2; subst w2
  exact ⟨⟨a, b, l⟩, A, c, rfl, ⟨w0.1, w0.2, w1.1, w1.2, r2, l2, m2, v2⟩⟩
end
end Go.Proofs.YtdgpaddmheagoaaGreatDoor
