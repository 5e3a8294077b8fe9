/-
  DERIVED. GIVEN WITH THE SEED: THE CARDS: each row of YtdgpaddmheagoaaGreatDoorRows.lean that lists a variable, with what it lists TIED to the program's text (the seventh form; the later family's looks); each row that meets fmt, with fmt's text TOLD by the authors' own Lean function (tested against real Go, not proved from fmt's source: count such statements apart). THE CARD IS WHAT COUNTS. Prove the row's statement (the work); the ties are given (YtdgpaddmheagoaaGreatDoorTie.lean); close each card by the builder's one call (the guide's Derived/Test/ToyasCard.lean, 'card_holds'). Laid BY PROGRAM, IN A SANDBOX (cutbox-door.mjs). By AI agents, Wed Nov 11 2026. No macro, syntax, notation, axiom, sorry.
-/
import Derived.Test.YtdgpaddmheagoaaGreatDoorRows
import GoSem.ClaimSeven
namespace Go.Proofs.YtdgpaddmheagoaaGreatDoor
namespace Rows

/-- THE TIED CARD OF 'newsstandlaw19.ManifestSwitches'. -/
def manifestSwitchesCard : Claim7 := { stood := { row := manifestSwitchesRow, standIns := [], harness := (true, "8abc485501e4e63f4bc7e18f015ec5f086b2176f99642b40c1bd5c9c87c62cf9"), looks := false }, kinds := [], alts := [], laidByText := true, laidKinds := [.data], laidTests := true, laidLooks := .later }
def ManifestSwitchesCardSaid : Prop := Claim7.holds Tryz.pinned (.plain (OpenSpec.ofChange manifestSwitchesSpec)) manifestSwitchesCard

/-- THE SECOND FORM's CARD OF 'newsstandlaw19.ManifestSwitches'. -/
def manifestSwitchesUptoCard : Claim7 := { stood := { row := manifestSwitchesUptoRow, standIns := [], harness := (true, "8abc485501e4e63f4bc7e18f015ec5f086b2176f99642b40c1bd5c9c87c62cf9"), looks := false }, kinds := [], alts := [], laidByText := true, laidKinds := [.data], laidTests := true, laidLooks := .later }
def ManifestSwitchesUptoCardSaid : Prop := Claim7.holds Tryz.pinned (.plain (OpenSpec.upto manifestSwitchesSpec)) manifestSwitchesUptoCard
end Rows
end Go.Proofs.YtdgpaddmheagoaaGreatDoor
