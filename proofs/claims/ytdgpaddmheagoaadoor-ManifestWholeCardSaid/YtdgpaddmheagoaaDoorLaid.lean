/-
  What the row's condition gives the walks: the table of the sum by halves of bytes; the door's own heap meets the condition.
-/
import Derived.Test.YtdgpaddmheagoaaDoorND
import Derived.Test.YtdgpaddmheagoaaDoorRows
import Derived.ProofKit
import Derived.LaidMore
import Derived.OpenShut
import Derived.Lib.LaidTab
namespace Go.Proofs.YtdgpaddmheagoaaDoor
open Go.ChangeShapes Go.WideShapes Go.ChangeAt Go.RowKit

def laid1 : List (String × DataW Unit) := [("newsstand/crc.halves", Rows.laid_newsstand_crc_halves)]
theorem gHalves : Tryd.prog.globalNamed "newsstand/crc.halves" = some 0 := by kernel_rfl
theorem tHalves : (Tryd.prog.globals[0]?).map (·.type) = some 104 := by kernel_rfl
theorem tab_data : (Rows.laid_newsstand_crc_halves : DataW Unit) = Lib.tabData .u32 (halvesL.map fun n : Nat => (n : Int)) := rfl

theorem door_met (os : Os) (args : Array Value) : laidMetH Tryd.prog laid1 ((World.doorLaid Tryd.prog 400 os).forCall (fun _ _ => 0) ⟨#[], args, []⟩).memory :=
  laidMetH_of_parts3 (fuel := 8) (laidMet_of_run' 8 (by kernel_rfl) (by kernel_rfl)) (by kernel_rfl) (by kernel_rfl)

theorem tab_of_laid {W : World} (h : laidMetH Tryd.prog laid1 W) : Tab W := by
  rw [MakeChecks.laidMetH_plain _ _ _ (by kernel_rfl)] at h
  obtain ⟨ps, ⟨g0, t0, cs0, f0, p0, q0, hg0, ht0, hv0, hd0, _, _⟩, _, _⟩ := h
  obtain rfl := Option.some.inj (gHalves.symm.trans hg0)
  obtain rfl := Option.some.inj (tHalves.symm.trans ht0)
  rw [tab_data] at hd0
  have hc := Lib.cells_of_tab Tryd.underlying104 Tryd.underlying77 (by kernel_rfl) (by kernel_rfl) hd0
  intro i hi
  have hcell := World.var?_cell hg0 hv0 i
  have e : cs0[i]? = cs0.toList[i]? := by simp
  rw [e, hc] at hcell
  rw [hcell]
  have hl : halvesL.length = 16 := by decide
  simp [List.getElem?_eq_getElem (show i < halvesL.length by omega), List.getD_eq_getElem?_getD]
end Go.Proofs.YtdgpaddmheagoaaDoor
