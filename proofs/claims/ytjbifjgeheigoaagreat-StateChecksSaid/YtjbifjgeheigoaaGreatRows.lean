/-
  No cell of these rows narrows 'for every input' (looked for: loops, veiled, ifaces, maps, wideKeys, modest, calm, conditions, laid).
  DERIVED. THE GIVEN ROWS OF THIS SEAT. 12 by the template 'for every input the law returns true; each argument reads behind the call as it read before'; 0 by the template 'total and deterministic' (their statements: YtjbifjgeheigoaaGreatTotals.lean).
  GIVEN WITH THE SEED: the statements are not yours to turn. If you find one false, say at which input.
  Laid BY PROGRAM, IN A SANDBOX (cutbox-rows.mjs): the forced cells as the released guide's own fill.sh prints them over the translation b6079e5c816d1039… (all of the seat's roots in one cut). By AI agents, Wed Nov 11 2026. No macro, syntax, notation, axiom, sorry.
-/
import Derived.Test.YtjbifjgeheigoaaGreatChecked
import GoSem.Claim
import GoSem.ClaimJoined
import GoSem.ClaimMapViews
import Derived.JoinedTies
import Derived.KernelRfl
namespace Go.Proofs.YtjbifjgeheigoaaGreat
/- THE CELL 'sum', in the pinned program and in every row, IS THE sha256 OF THE DUMP (.gsa) THAT YtjbifjgeheigoaaGreatProg.lean LOADS. Nothing in Lean hashes anything: it is a label: what it is worth is what the hold of that sum in a sandbox is worth. -/
noncomputable def Tryz.pinned : Pinned := { name := "ytjbifjgeheigoaagreat", sum := "b6079e5c816d1039196b8e9d4d8008375b0af22f119d58502b448e0b7e5574de", checked := Tryz.checked }
namespace Rows
def none {H : Type} : Left H := { results := [], args := [] }

/-- 'newsstandlaw21.StateFolds': WHATEVER THE INPUT: true; the input reads as it did. -/
def stateFoldsSpec : ChangeSpec := { name := "stateFolds", fn := fun _ => fun
  | [d] => { results := [.lit (.bool true)], args := [d] }
  | _ => none }
def stateFoldsRow : OpenClaim := { program := "ytjbifjgeheigoaagreat", sum := "b6079e5c816d1039196b8e9d4d8008375b0af22f119d58502b448e0b7e5574de", func := "newsstand/newsstandlaw21.StateFolds", spec := "stateFolds", inPlace := ["internal/abi.NoEscape", "slices.overlaps[string]", "maps.clone"], unfollowed := true, recurses := true, plainKeys := false, apart := false }
def StateFoldsSaid : Prop := stateFoldsRow.holds Tryz.pinned (OpenSpec.ofChange stateFoldsSpec)

/-- ITS FALSE NEIGHBOUR: 'it returns false'. Refute it at one input. -/
def stateFoldsWrong : ChangeSpec := { name := "stateFolds", fn := fun _ => fun
  | [d] => { results := [.lit (.bool false)], args := [d] }
  | _ => none }
def StateFoldsWrongFalsely : Prop := stateFoldsRow.holds Tryz.pinned (OpenSpec.ofChange stateFoldsWrong)

/-- 'newsstandlaw21.StateChecks': WHATEVER THE INPUT: true; the input reads as it did. -/
def stateChecksSpec : ChangeSpec := { name := "stateChecks", fn := fun _ => fun
  | [d1, d2] => { results := [.lit (.bool true)], args := [d1, d2] }
  | _ => none }
def stateChecksRow : OpenClaim := { program := "ytjbifjgeheigoaagreat", sum := "b6079e5c816d1039196b8e9d4d8008375b0af22f119d58502b448e0b7e5574de", func := "newsstand/newsstandlaw21.StateChecks", spec := "stateChecks", inPlace := ["internal/abi.NoEscape", "slices.overlaps[string]", "maps.clone"], unfollowed := true, recurses := true, plainKeys := false, apart := false }
def StateChecksSaid : Prop := stateChecksRow.holds Tryz.pinned (OpenSpec.ofChange stateChecksSpec)

/-- ITS FALSE NEIGHBOUR: 'it returns false'. Refute it at one input. -/
def stateChecksWrong : ChangeSpec := { name := "stateChecks", fn := fun _ => fun
  | [d1, d2] => { results := [.lit (.bool false)], args := [d1, d2] }
  | _ => none }
def StateChecksWrongFalsely : Prop := stateChecksRow.holds Tryz.pinned (OpenSpec.ofChange stateChecksWrong)

/-- 'newsstandlaw21.StateHistory': WHATEVER THE INPUT: true; the input reads as it did. -/
def stateHistorySpec : ChangeSpec := { name := "stateHistory", fn := fun _ => fun
  | [d] => { results := [.lit (.bool true)], args := [d] }
  | _ => none }
def stateHistoryRow : OpenClaim := { program := "ytjbifjgeheigoaagreat", sum := "b6079e5c816d1039196b8e9d4d8008375b0af22f119d58502b448e0b7e5574de", func := "newsstand/newsstandlaw21.StateHistory", spec := "stateHistory", inPlace := ["internal/abi.NoEscape", "slices.overlaps[string]", "maps.clone"], unfollowed := true, recurses := true, plainKeys := false, apart := false }
def StateHistorySaid : Prop := stateHistoryRow.holds Tryz.pinned (OpenSpec.ofChange stateHistorySpec)

/-- ITS FALSE NEIGHBOUR: 'it returns false'. Refute it at one input. -/
def stateHistoryWrong : ChangeSpec := { name := "stateHistory", fn := fun _ => fun
  | [d] => { results := [.lit (.bool false)], args := [d] }
  | _ => none }
def StateHistoryWrongFalsely : Prop := stateHistoryRow.holds Tryz.pinned (OpenSpec.ofChange stateHistoryWrong)

/-- 'newsstandlaw21.StateClones': WHATEVER THE INPUT: true; the input reads as it did. -/
def stateClonesSpec : ChangeSpec := { name := "stateClones", fn := fun _ => fun
  | [d1, d2, d3] => { results := [.lit (.bool true)], args := [d1, d2, d3] }
  | _ => none }
def stateClonesRow : OpenClaim := { program := "ytjbifjgeheigoaagreat", sum := "b6079e5c816d1039196b8e9d4d8008375b0af22f119d58502b448e0b7e5574de", func := "newsstand/newsstandlaw21.StateClones", spec := "stateClones", inPlace := ["internal/abi.NoEscape", "slices.overlaps[string]", "maps.clone"], unfollowed := true, recurses := true, plainKeys := false, apart := false }
def StateClonesSaid : Prop := stateClonesRow.holds Tryz.pinned (OpenSpec.ofChange stateClonesSpec)

/-- ITS FALSE NEIGHBOUR: 'it returns false'. Refute it at one input. -/
def stateClonesWrong : ChangeSpec := { name := "stateClones", fn := fun _ => fun
  | [d1, d2, d3] => { results := [.lit (.bool false)], args := [d1, d2, d3] }
  | _ => none }
def StateClonesWrongFalsely : Prop := stateClonesRow.holds Tryz.pinned (OpenSpec.ofChange stateClonesWrong)

/-- 'newsstandlaw37.AuditBegins': WHATEVER THE INPUT: true; the input reads as it did. -/
def auditBeginsSpec : ChangeSpec := { name := "auditBegins", fn := fun _ => fun
  | [d1, d2] => { results := [.lit (.bool true)], args := [d1, d2] }
  | _ => none }
def auditBeginsRow : OpenClaim := { program := "ytjbifjgeheigoaagreat", sum := "b6079e5c816d1039196b8e9d4d8008375b0af22f119d58502b448e0b7e5574de", func := "newsstand/newsstandlaw37.AuditBegins", spec := "auditBegins", inPlace := ["internal/abi.NoEscape", "slices.overlaps[string]"], unfollowed := true, recurses := true, plainKeys := false, apart := false }
def AuditBeginsSaid : Prop := auditBeginsRow.holds Tryz.pinned (OpenSpec.ofChange auditBeginsSpec)

/-- ITS FALSE NEIGHBOUR: 'it returns false'. Refute it at one input. -/
def auditBeginsWrong : ChangeSpec := { name := "auditBegins", fn := fun _ => fun
  | [d1, d2] => { results := [.lit (.bool false)], args := [d1, d2] }
  | _ => none }
def AuditBeginsWrongFalsely : Prop := auditBeginsRow.holds Tryz.pinned (OpenSpec.ofChange auditBeginsWrong)

/-- 'newsstandlaw21.StateAsks': WHATEVER THE INPUT: true; the input reads as it did. -/
def stateAsksSpec : ChangeSpec := { name := "stateAsks", fn := fun _ => fun
  | [d1, d2, d3, d4] => { results := [.lit (.bool true)], args := [d1, d2, d3, d4] }
  | _ => none }
def stateAsksRow : OpenClaim := { program := "ytjbifjgeheigoaagreat", sum := "b6079e5c816d1039196b8e9d4d8008375b0af22f119d58502b448e0b7e5574de", func := "newsstand/newsstandlaw21.StateAsks", spec := "stateAsks", inPlace := ["internal/abi.NoEscape", "slices.overlaps[string]", "maps.clone"], unfollowed := true, recurses := true, plainKeys := false, apart := false }
def StateAsksSaid : Prop := stateAsksRow.holds Tryz.pinned (OpenSpec.ofChange stateAsksSpec)

/-- ITS FALSE NEIGHBOUR: 'it returns false'. Refute it at one input. -/
def stateAsksWrong : ChangeSpec := { name := "stateAsks", fn := fun _ => fun
  | [d1, d2, d3, d4] => { results := [.lit (.bool false)], args := [d1, d2, d3, d4] }
  | _ => none }
def StateAsksWrongFalsely : Prop := stateAsksRow.holds Tryz.pinned (OpenSpec.ofChange stateAsksWrong)

/-- 'newsstandlaw22.CmdPlans': WHATEVER THE INPUT: true; the input reads as it did. -/
def cmdPlansSpec : ChangeSpec := { name := "cmdPlans", fn := fun _ => fun
  | [d1, d2] => { results := [.lit (.bool true)], args := [d1, d2] }
  | _ => none }
def cmdPlansRow : OpenClaim := { program := "ytjbifjgeheigoaagreat", sum := "b6079e5c816d1039196b8e9d4d8008375b0af22f119d58502b448e0b7e5574de", func := "newsstand/newsstandlaw22.CmdPlans", spec := "cmdPlans", inPlace := ["internal/abi.NoEscape", "slices.overlaps[string]"], unfollowed := true, recurses := true, plainKeys := false, apart := false }
def CmdPlansSaid : Prop := cmdPlansRow.holds Tryz.pinned (OpenSpec.ofChange cmdPlansSpec)

/-- ITS FALSE NEIGHBOUR: 'it returns false'. Refute it at one input. -/
def cmdPlansWrong : ChangeSpec := { name := "cmdPlans", fn := fun _ => fun
  | [d1, d2] => { results := [.lit (.bool false)], args := [d1, d2] }
  | _ => none }
def CmdPlansWrongFalsely : Prop := cmdPlansRow.holds Tryz.pinned (OpenSpec.ofChange cmdPlansWrong)

/-- 'newsstandlaw22.CmdDoes': WHATEVER THE INPUT: true; the input reads as it did. -/
def cmdDoesSpec : ChangeSpec := { name := "cmdDoes", fn := fun _ => fun
  | [d1, d2] => { results := [.lit (.bool true)], args := [d1, d2] }
  | _ => none }
def cmdDoesRow : OpenClaim := { program := "ytjbifjgeheigoaagreat", sum := "b6079e5c816d1039196b8e9d4d8008375b0af22f119d58502b448e0b7e5574de", func := "newsstand/newsstandlaw22.CmdDoes", spec := "cmdDoes", inPlace := ["internal/abi.NoEscape", "slices.overlaps[string]"], unfollowed := true, recurses := true, plainKeys := false, apart := false }
def CmdDoesSaid : Prop := cmdDoesRow.holds Tryz.pinned (OpenSpec.ofChange cmdDoesSpec)

/-- ITS FALSE NEIGHBOUR: 'it returns false'. Refute it at one input. -/
def cmdDoesWrong : ChangeSpec := { name := "cmdDoes", fn := fun _ => fun
  | [d1, d2] => { results := [.lit (.bool false)], args := [d1, d2] }
  | _ => none }
def CmdDoesWrongFalsely : Prop := cmdDoesRow.holds Tryz.pinned (OpenSpec.ofChange cmdDoesWrong)

/-- 'newsstandlaw22.CmdFits': WHATEVER THE INPUT: true; the input reads as it did. -/
def cmdFitsSpec : ChangeSpec := { name := "cmdFits", fn := fun _ => fun
  | [d1, d2] => { results := [.lit (.bool true)], args := [d1, d2] }
  | _ => none }
def cmdFitsRow : OpenClaim := { program := "ytjbifjgeheigoaagreat", sum := "b6079e5c816d1039196b8e9d4d8008375b0af22f119d58502b448e0b7e5574de", func := "newsstand/newsstandlaw22.CmdFits", spec := "cmdFits", inPlace := ["internal/abi.NoEscape", "slices.overlaps[string]"], unfollowed := true, recurses := true, plainKeys := false, apart := false }
def CmdFitsSaid : Prop := cmdFitsRow.holds Tryz.pinned (OpenSpec.ofChange cmdFitsSpec)

/-- ITS FALSE NEIGHBOUR: 'it returns false'. Refute it at one input. -/
def cmdFitsWrong : ChangeSpec := { name := "cmdFits", fn := fun _ => fun
  | [d1, d2] => { results := [.lit (.bool false)], args := [d1, d2] }
  | _ => none }
def CmdFitsWrongFalsely : Prop := cmdFitsRow.holds Tryz.pinned (OpenSpec.ofChange cmdFitsWrong)

/-- 'newsstandlaw22.CmdUndoes': WHATEVER THE INPUT: true; the input reads as it did. -/
def cmdUndoesSpec : ChangeSpec := { name := "cmdUndoes", fn := fun _ => fun
  | [d1, d2] => { results := [.lit (.bool true)], args := [d1, d2] }
  | _ => none }
def cmdUndoesRow : OpenClaim := { program := "ytjbifjgeheigoaagreat", sum := "b6079e5c816d1039196b8e9d4d8008375b0af22f119d58502b448e0b7e5574de", func := "newsstand/newsstandlaw22.CmdUndoes", spec := "cmdUndoes", inPlace := ["internal/abi.NoEscape", "slices.overlaps[string]"], unfollowed := true, recurses := true, plainKeys := false, apart := false }
def CmdUndoesSaid : Prop := cmdUndoesRow.holds Tryz.pinned (OpenSpec.ofChange cmdUndoesSpec)

/-- ITS FALSE NEIGHBOUR: 'it returns false'. Refute it at one input. -/
def cmdUndoesWrong : ChangeSpec := { name := "cmdUndoes", fn := fun _ => fun
  | [d1, d2] => { results := [.lit (.bool false)], args := [d1, d2] }
  | _ => none }
def CmdUndoesWrongFalsely : Prop := cmdUndoesRow.holds Tryz.pinned (OpenSpec.ofChange cmdUndoesWrong)

/-- 'newsstandlaw22.CmdAgain': WHATEVER THE INPUT: true; the input reads as it did. -/
def cmdAgainSpec : ChangeSpec := { name := "cmdAgain", fn := fun _ => fun
  | [d1, d2] => { results := [.lit (.bool true)], args := [d1, d2] }
  | _ => none }
def cmdAgainRow : OpenClaim := { program := "ytjbifjgeheigoaagreat", sum := "b6079e5c816d1039196b8e9d4d8008375b0af22f119d58502b448e0b7e5574de", func := "newsstand/newsstandlaw22.CmdAgain", spec := "cmdAgain", inPlace := ["internal/abi.NoEscape", "slices.overlaps[string]"], unfollowed := true, recurses := true, plainKeys := false, apart := false }
def CmdAgainSaid : Prop := cmdAgainRow.holds Tryz.pinned (OpenSpec.ofChange cmdAgainSpec)

/-- ITS FALSE NEIGHBOUR: 'it returns false'. Refute it at one input. -/
def cmdAgainWrong : ChangeSpec := { name := "cmdAgain", fn := fun _ => fun
  | [d1, d2] => { results := [.lit (.bool false)], args := [d1, d2] }
  | _ => none }
def CmdAgainWrongFalsely : Prop := cmdAgainRow.holds Tryz.pinned (OpenSpec.ofChange cmdAgainWrong)

/-- 'newsstandlaw22.CmdUnders': WHATEVER THE INPUT: true; the input reads as it did. -/
def cmdUndersSpec : ChangeSpec := { name := "cmdUnders", fn := fun _ => fun
  | [d1, d2, d3, d4, d5] => { results := [.lit (.bool true)], args := [d1, d2, d3, d4, d5] }
  | _ => none }
def cmdUndersRow : OpenClaim := { program := "ytjbifjgeheigoaagreat", sum := "b6079e5c816d1039196b8e9d4d8008375b0af22f119d58502b448e0b7e5574de", func := "newsstand/newsstandlaw22.CmdUnders", spec := "cmdUnders", inPlace := ["internal/abi.NoEscape", "slices.overlaps[string]"], unfollowed := true, recurses := true, plainKeys := false, apart := false }
def CmdUndersSaid : Prop := cmdUndersRow.holds Tryz.pinned (OpenSpec.ofChange cmdUndersSpec)

/-- ITS FALSE NEIGHBOUR: 'it returns false'. Refute it at one input. -/
def cmdUndersWrong : ChangeSpec := { name := "cmdUnders", fn := fun _ => fun
  | [d1, d2, d3, d4, d5] => { results := [.lit (.bool false)], args := [d1, d2, d3, d4, d5] }
  | _ => none }
def CmdUndersWrongFalsely : Prop := cmdUndersRow.holds Tryz.pinned (OpenSpec.ofChange cmdUndersWrong)

/- THE SECOND FORM. 'bulk': how many values and letters a reading holds, each counted each time it is reached (what is shared counts as often as it is met; a slice's spare places count too). A statement '..UptoSaid' is the law's where the arguments, and the package variables that the reading takes, are together of bulk at most 1048576: NARROWER than '..Said'. Prove '..Said' where nothing that the law and all that it calls make is longer than what came in: it says more and counts as full. Else prove '..UptoSaid'. A law counts once. -/
mutual
def uptoBulk {H : Type} : DataW H → Nat
  | .lit (.string bytes) => bytes.length + 1
  | .lit _ => 1
  | .nil => 1
  | .ptr d => uptoBulk d + 1
  | .slice elems spare => uptoBulkAll elems + uptoBulkAll spare + 1
  | .agg parts => uptoBulkAll parts + 1
  | .iface _ d => uptoBulk d + 1
  | .map entries => uptoBulkEntries entries + 1
  | .held _ => 1
def uptoBulkAll {H : Type} : List (DataW H) → Nat
  | [] => 0
  | d :: r => uptoBulk d + uptoBulkAll r
def uptoBulkEntries {H : Type} : List (Lit × DataW H) → Nat
  | [] => 0
  | x :: r => uptoBulkEntry x + uptoBulkEntries r
def uptoBulkEntry {H : Type} : Lit × DataW H → Nat
  | (.string bytes, d) => bytes.length + uptoBulk d + 1
  | (_, d) => uptoBulk d + 1
 end
def uptoSmall : (H : Type) → List (DataW H) → Bool := fun _ ds => decide (uptoBulkAll ds ≤ 1048576)
def OpenSpec.upto (s : _root_.Go.ChangeSpec) : _root_.Go.OpenSpec := { _root_.Go.OpenSpec.ofChange s with cond := some uptoSmall }

/-- 'newsstandlaw21.StateFolds', WHERE WHAT IT READS IS OF BULK AT MOST 1048576: true; the input reads as it did. -/
def stateFoldsUptoRow : OpenClaim := { program := "ytjbifjgeheigoaagreat", sum := "b6079e5c816d1039196b8e9d4d8008375b0af22f119d58502b448e0b7e5574de", func := "newsstand/newsstandlaw21.StateFolds", spec := "stateFolds", inPlace := ["internal/abi.NoEscape", "slices.overlaps[string]", "maps.clone"], unfollowed := true, recurses := true, plainKeys := false, apart := false, narrowed := true }
def StateFoldsUptoSaid : Prop := stateFoldsUptoRow.holds Tryz.pinned (OpenSpec.upto stateFoldsSpec)

/-- 'newsstandlaw21.StateChecks', WHERE WHAT IT READS IS OF BULK AT MOST 1048576: true; the input reads as it did. -/
def stateChecksUptoRow : OpenClaim := { program := "ytjbifjgeheigoaagreat", sum := "b6079e5c816d1039196b8e9d4d8008375b0af22f119d58502b448e0b7e5574de", func := "newsstand/newsstandlaw21.StateChecks", spec := "stateChecks", inPlace := ["internal/abi.NoEscape", "slices.overlaps[string]", "maps.clone"], unfollowed := true, recurses := true, plainKeys := false, apart := false, narrowed := true }
def StateChecksUptoSaid : Prop := stateChecksUptoRow.holds Tryz.pinned (OpenSpec.upto stateChecksSpec)

/-- 'newsstandlaw21.StateHistory', WHERE WHAT IT READS IS OF BULK AT MOST 1048576: true; the input reads as it did. -/
def stateHistoryUptoRow : OpenClaim := { program := "ytjbifjgeheigoaagreat", sum := "b6079e5c816d1039196b8e9d4d8008375b0af22f119d58502b448e0b7e5574de", func := "newsstand/newsstandlaw21.StateHistory", spec := "stateHistory", inPlace := ["internal/abi.NoEscape", "slices.overlaps[string]", "maps.clone"], unfollowed := true, recurses := true, plainKeys := false, apart := false, narrowed := true }
def StateHistoryUptoSaid : Prop := stateHistoryUptoRow.holds Tryz.pinned (OpenSpec.upto stateHistorySpec)

/-- 'newsstandlaw21.StateClones', WHERE WHAT IT READS IS OF BULK AT MOST 1048576: true; the input reads as it did. -/
def stateClonesUptoRow : OpenClaim := { program := "ytjbifjgeheigoaagreat", sum := "b6079e5c816d1039196b8e9d4d8008375b0af22f119d58502b448e0b7e5574de", func := "newsstand/newsstandlaw21.StateClones", spec := "stateClones", inPlace := ["internal/abi.NoEscape", "slices.overlaps[string]", "maps.clone"], unfollowed := true, recurses := true, plainKeys := false, apart := false, narrowed := true }
def StateClonesUptoSaid : Prop := stateClonesUptoRow.holds Tryz.pinned (OpenSpec.upto stateClonesSpec)

/-- 'newsstandlaw37.AuditBegins', WHERE WHAT IT READS IS OF BULK AT MOST 1048576: true; the input reads as it did. -/
def auditBeginsUptoRow : OpenClaim := { program := "ytjbifjgeheigoaagreat", sum := "b6079e5c816d1039196b8e9d4d8008375b0af22f119d58502b448e0b7e5574de", func := "newsstand/newsstandlaw37.AuditBegins", spec := "auditBegins", inPlace := ["internal/abi.NoEscape", "slices.overlaps[string]"], unfollowed := true, recurses := true, plainKeys := false, apart := false, narrowed := true }
def AuditBeginsUptoSaid : Prop := auditBeginsUptoRow.holds Tryz.pinned (OpenSpec.upto auditBeginsSpec)

/-- 'newsstandlaw21.StateAsks', WHERE WHAT IT READS IS OF BULK AT MOST 1048576: true; the input reads as it did. -/
def stateAsksUptoRow : OpenClaim := { program := "ytjbifjgeheigoaagreat", sum := "b6079e5c816d1039196b8e9d4d8008375b0af22f119d58502b448e0b7e5574de", func := "newsstand/newsstandlaw21.StateAsks", spec := "stateAsks", inPlace := ["internal/abi.NoEscape", "slices.overlaps[string]", "maps.clone"], unfollowed := true, recurses := true, plainKeys := false, apart := false, narrowed := true }
def StateAsksUptoSaid : Prop := stateAsksUptoRow.holds Tryz.pinned (OpenSpec.upto stateAsksSpec)

/-- 'newsstandlaw22.CmdPlans', WHERE WHAT IT READS IS OF BULK AT MOST 1048576: true; the input reads as it did. -/
def cmdPlansUptoRow : OpenClaim := { program := "ytjbifjgeheigoaagreat", sum := "b6079e5c816d1039196b8e9d4d8008375b0af22f119d58502b448e0b7e5574de", func := "newsstand/newsstandlaw22.CmdPlans", spec := "cmdPlans", inPlace := ["internal/abi.NoEscape", "slices.overlaps[string]"], unfollowed := true, recurses := true, plainKeys := false, apart := false, narrowed := true }
def CmdPlansUptoSaid : Prop := cmdPlansUptoRow.holds Tryz.pinned (OpenSpec.upto cmdPlansSpec)

/-- 'newsstandlaw22.CmdDoes', WHERE WHAT IT READS IS OF BULK AT MOST 1048576: true; the input reads as it did. -/
def cmdDoesUptoRow : OpenClaim := { program := "ytjbifjgeheigoaagreat", sum := "b6079e5c816d1039196b8e9d4d8008375b0af22f119d58502b448e0b7e5574de", func := "newsstand/newsstandlaw22.CmdDoes", spec := "cmdDoes", inPlace := ["internal/abi.NoEscape", "slices.overlaps[string]"], unfollowed := true, recurses := true, plainKeys := false, apart := false, narrowed := true }
def CmdDoesUptoSaid : Prop := cmdDoesUptoRow.holds Tryz.pinned (OpenSpec.upto cmdDoesSpec)

/-- 'newsstandlaw22.CmdFits', WHERE WHAT IT READS IS OF BULK AT MOST 1048576: true; the input reads as it did. -/
def cmdFitsUptoRow : OpenClaim := { program := "ytjbifjgeheigoaagreat", sum := "b6079e5c816d1039196b8e9d4d8008375b0af22f119d58502b448e0b7e5574de", func := "newsstand/newsstandlaw22.CmdFits", spec := "cmdFits", inPlace := ["internal/abi.NoEscape", "slices.overlaps[string]"], unfollowed := true, recurses := true, plainKeys := false, apart := false, narrowed := true }
def CmdFitsUptoSaid : Prop := cmdFitsUptoRow.holds Tryz.pinned (OpenSpec.upto cmdFitsSpec)

/-- 'newsstandlaw22.CmdUndoes', WHERE WHAT IT READS IS OF BULK AT MOST 1048576: true; the input reads as it did. -/
def cmdUndoesUptoRow : OpenClaim := { program := "ytjbifjgeheigoaagreat", sum := "b6079e5c816d1039196b8e9d4d8008375b0af22f119d58502b448e0b7e5574de", func := "newsstand/newsstandlaw22.CmdUndoes", spec := "cmdUndoes", inPlace := ["internal/abi.NoEscape", "slices.overlaps[string]"], unfollowed := true, recurses := true, plainKeys := false, apart := false, narrowed := true }
def CmdUndoesUptoSaid : Prop := cmdUndoesUptoRow.holds Tryz.pinned (OpenSpec.upto cmdUndoesSpec)

/-- 'newsstandlaw22.CmdAgain', WHERE WHAT IT READS IS OF BULK AT MOST 1048576: true; the input reads as it did. -/
def cmdAgainUptoRow : OpenClaim := { program := "ytjbifjgeheigoaagreat", sum := "b6079e5c816d1039196b8e9d4d8008375b0af22f119d58502b448e0b7e5574de", func := "newsstand/newsstandlaw22.CmdAgain", spec := "cmdAgain", inPlace := ["internal/abi.NoEscape", "slices.overlaps[string]"], unfollowed := true, recurses := true, plainKeys := false, apart := false, narrowed := true }
def CmdAgainUptoSaid : Prop := cmdAgainUptoRow.holds Tryz.pinned (OpenSpec.upto cmdAgainSpec)

/-- 'newsstandlaw22.CmdUnders', WHERE WHAT IT READS IS OF BULK AT MOST 1048576: true; the input reads as it did. -/
def cmdUndersUptoRow : OpenClaim := { program := "ytjbifjgeheigoaagreat", sum := "b6079e5c816d1039196b8e9d4d8008375b0af22f119d58502b448e0b7e5574de", func := "newsstand/newsstandlaw22.CmdUnders", spec := "cmdUnders", inPlace := ["internal/abi.NoEscape", "slices.overlaps[string]"], unfollowed := true, recurses := true, plainKeys := false, apart := false, narrowed := true }
def CmdUndersUptoSaid : Prop := cmdUndersUptoRow.holds Tryz.pinned (OpenSpec.upto cmdUndersSpec)

end Rows
end Go.Proofs.YtjbifjgeheigoaaGreat
