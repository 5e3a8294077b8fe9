/-
  DERIVED. GIVEN WITH THE SEED: THE CARDS: each row of YtdgpaddmheagoaaDoorRows.lean that lists a variable, with what it lists TIED to the program's text (the seventh form; the later family's looks); each row that meets fmt, with fmt's text TOLD by the authors' own Lean function (tested against real Go, not proved from fmt's source: count such statements apart). THE CARD IS WHAT COUNTS. Prove the row's statement (the work); the ties are given (YtdgpaddmheagoaaDoorTie.lean); close each card by the builder's one call (the guide's Derived/Test/ToyasCard.lean, 'card_holds'). Laid BY PROGRAM, IN A SANDBOX (cutbox-door.mjs). By AI agents, Wed Nov 11 2026. No macro, syntax, notation, axiom, sorry.
-/
import Derived.Test.YtdgpaddmheagoaaDoorRows
import GoSem.ClaimSeven
namespace Go.Proofs.YtdgpaddmheagoaaDoor
namespace Rows

/-- THE TIED CARD OF 'newsstandlaw19.ManifestPuts'. -/
def manifestPutsCard : Claim7 := { stood := { row := manifestPutsRow, standIns := [], harness := (true, "a414ffddb31cc5f763b9fc8611f6813be59f682ddef2834ddb7c0cc24705e4e3"), looks := false }, kinds := [], alts := [], laidByText := true, laidKinds := [.data], laidTests := true, laidLooks := .later }
def ManifestPutsCardSaid : Prop := Claim7.holds Tryd.pinned (.plain (OpenSpec.ofChange manifestPutsSpec)) manifestPutsCard

/-- THE TIED CARD OF 'newsstandlaw19.ManifestGets'. -/
def manifestGetsCard : Claim7 := { stood := { row := manifestGetsRow, standIns := [], harness := (true, "a414ffddb31cc5f763b9fc8611f6813be59f682ddef2834ddb7c0cc24705e4e3"), looks := false }, kinds := [], alts := [], laidByText := true, laidKinds := [.data], laidTests := true, laidLooks := .later }
def ManifestGetsCardSaid : Prop := Claim7.holds Tryd.pinned (.plain (OpenSpec.ofChange manifestGetsSpec)) manifestGetsCard

/-- THE TIED CARD OF 'newsstandlaw19.ManifestWhole'. -/
def manifestWholeCard : Claim7 := { stood := { row := manifestWholeRow, standIns := [], harness := (true, "a414ffddb31cc5f763b9fc8611f6813be59f682ddef2834ddb7c0cc24705e4e3"), looks := false }, kinds := [], alts := [], laidByText := true, laidKinds := [.data], laidTests := true, laidLooks := .later }
def ManifestWholeCardSaid : Prop := Claim7.holds Tryd.pinned (.plain (OpenSpec.ofChange manifestWholeSpec)) manifestWholeCard

/-- THE SECOND FORM's CARD OF 'newsstandlaw19.ManifestPuts'. -/
def manifestPutsUptoCard : Claim7 := { stood := { row := manifestPutsUptoRow, standIns := [], harness := (true, "a414ffddb31cc5f763b9fc8611f6813be59f682ddef2834ddb7c0cc24705e4e3"), looks := false }, kinds := [], alts := [], laidByText := true, laidKinds := [.data], laidTests := true, laidLooks := .later }
def ManifestPutsUptoCardSaid : Prop := Claim7.holds Tryd.pinned (.plain (OpenSpec.upto manifestPutsSpec)) manifestPutsUptoCard

/-- THE SECOND FORM's CARD OF 'newsstandlaw19.ManifestGets'. -/
def manifestGetsUptoCard : Claim7 := { stood := { row := manifestGetsUptoRow, standIns := [], harness := (true, "a414ffddb31cc5f763b9fc8611f6813be59f682ddef2834ddb7c0cc24705e4e3"), looks := false }, kinds := [], alts := [], laidByText := true, laidKinds := [.data], laidTests := true, laidLooks := .later }
def ManifestGetsUptoCardSaid : Prop := Claim7.holds Tryd.pinned (.plain (OpenSpec.upto manifestGetsSpec)) manifestGetsUptoCard

/-- THE SECOND FORM's CARD OF 'newsstandlaw19.ManifestWhole'. -/
def manifestWholeUptoCard : Claim7 := { stood := { row := manifestWholeUptoRow, standIns := [], harness := (true, "a414ffddb31cc5f763b9fc8611f6813be59f682ddef2834ddb7c0cc24705e4e3"), looks := false }, kinds := [], alts := [], laidByText := true, laidKinds := [.data], laidTests := true, laidLooks := .later }
def ManifestWholeUptoCardSaid : Prop := Claim7.holds Tryd.pinned (.plain (OpenSpec.upto manifestWholeSpec)) manifestWholeUptoCard
end Rows
end Go.Proofs.YtdgpaddmheagoaaDoor
