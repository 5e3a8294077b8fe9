/-
  No cell of these rows narrows 'for every input' (looked for: loops, veiled, ifaces, maps, wideKeys, modest, calm, conditions, laid).
  DERIVED. THE GIVEN ROWS OF THIS SEAT. 4 by the template 'for every input the law returns true; each argument reads behind the call as it read before'; 0 by the template 'total and deterministic' (their statements: YtlafbakoefcifaaGreatTotals.lean).
  GIVEN WITH THE SEED: the statements are not yours to turn. If you find one false, say at which input.
  Laid BY PROGRAM, IN A SANDBOX (cutbox-rows.mjs): the forced cells as the released guide's own fill.sh prints them over the translation fa8c586b0acd0717… (all of the seat's roots in one cut). By AI agents, Wed Nov 11 2026. No macro, syntax, notation, axiom, sorry.
-/
import Derived.Test.YtlafbakoefcifaaGreatChecked
import GoSem.Claim
import GoSem.ClaimJoined
import GoSem.ClaimMapViews
import Derived.JoinedTies
import Derived.KernelRfl
namespace Go.Proofs.YtlafbakoefcifaaGreat
/- THE CELL 'sum', in the pinned program and in every row, IS THE sha256 OF THE DUMP (.gsa) THAT YtlafbakoefcifaaGreatProg.lean LOADS. Nothing in Lean hashes anything: it is a label: what it is worth is what the hold of that sum in a sandbox is worth. -/
noncomputable def Tryz.pinned : Pinned := { name := "ytlafbakoefcifaagreat", sum := "fa8c586b0acd0717d256a78268d10f5e120aeee0a14c1391a3dce07f72447b9a", checked := Tryz.checked }
namespace Rows
def none {H : Type} : Left H := { results := [], args := [] }

/-- 'newsstandlaw21.StateFolds': WHATEVER THE INPUT: true; the input reads as it did. -/
def stateFoldsSpec : ChangeSpec := { name := "stateFolds", fn := fun _ => fun
  | [d] => { results := [.lit (.bool true)], args := [d] }
  | _ => none }
def stateFoldsRow : OpenClaim := { program := "ytlafbakoefcifaagreat", sum := "fa8c586b0acd0717d256a78268d10f5e120aeee0a14c1391a3dce07f72447b9a", func := "newsstand/newsstandlaw21.StateFolds", spec := "stateFolds", inPlace := ["internal/abi.NoEscape", "slices.overlaps[string]", "maps.clone"], unfollowed := true, recurses := true, plainKeys := false, apart := false }
def StateFoldsSaid : Prop := stateFoldsRow.holds Tryz.pinned (OpenSpec.ofChange stateFoldsSpec)

/-- ITS FALSE NEIGHBOUR: 'it returns false'. Refute it at one input. -/
def stateFoldsWrong : ChangeSpec := { name := "stateFolds", fn := fun _ => fun
  | [d] => { results := [.lit (.bool false)], args := [d] }
  | _ => none }
def StateFoldsWrongFalsely : Prop := stateFoldsRow.holds Tryz.pinned (OpenSpec.ofChange stateFoldsWrong)

/-- 'newsstandlaw21.StateHistory': WHATEVER THE INPUT: true; the input reads as it did. -/
def stateHistorySpec : ChangeSpec := { name := "stateHistory", fn := fun _ => fun
  | [d] => { results := [.lit (.bool true)], args := [d] }
  | _ => none }
def stateHistoryRow : OpenClaim := { program := "ytlafbakoefcifaagreat", sum := "fa8c586b0acd0717d256a78268d10f5e120aeee0a14c1391a3dce07f72447b9a", func := "newsstand/newsstandlaw21.StateHistory", spec := "stateHistory", inPlace := ["internal/abi.NoEscape", "slices.overlaps[string]", "maps.clone"], unfollowed := true, recurses := true, plainKeys := false, apart := false }
def StateHistorySaid : Prop := stateHistoryRow.holds Tryz.pinned (OpenSpec.ofChange stateHistorySpec)

/-- ITS FALSE NEIGHBOUR: 'it returns false'. Refute it at one input. -/
def stateHistoryWrong : ChangeSpec := { name := "stateHistory", fn := fun _ => fun
  | [d] => { results := [.lit (.bool false)], args := [d] }
  | _ => none }
def StateHistoryWrongFalsely : Prop := stateHistoryRow.holds Tryz.pinned (OpenSpec.ofChange stateHistoryWrong)

/-- 'newsstandlaw21.StateClones': WHATEVER THE INPUT: true; the input reads as it did. -/
def stateClonesSpec : ChangeSpec := { name := "stateClones", fn := fun _ => fun
  | [d1, d2, d3] => { results := [.lit (.bool true)], args := [d1, d2, d3] }
  | _ => none }
def stateClonesRow : OpenClaim := { program := "ytlafbakoefcifaagreat", sum := "fa8c586b0acd0717d256a78268d10f5e120aeee0a14c1391a3dce07f72447b9a", func := "newsstand/newsstandlaw21.StateClones", spec := "stateClones", inPlace := ["internal/abi.NoEscape", "slices.overlaps[string]", "maps.clone"], unfollowed := true, recurses := true, plainKeys := false, apart := false }
def StateClonesSaid : Prop := stateClonesRow.holds Tryz.pinned (OpenSpec.ofChange stateClonesSpec)

/-- ITS FALSE NEIGHBOUR: 'it returns false'. Refute it at one input. -/
def stateClonesWrong : ChangeSpec := { name := "stateClones", fn := fun _ => fun
  | [d1, d2, d3] => { results := [.lit (.bool false)], args := [d1, d2, d3] }
  | _ => none }
def StateClonesWrongFalsely : Prop := stateClonesRow.holds Tryz.pinned (OpenSpec.ofChange stateClonesWrong)

/-- 'newsstandlaw21.StateAsks': WHATEVER THE INPUT: true; the input reads as it did. -/
def stateAsksSpec : ChangeSpec := { name := "stateAsks", fn := fun _ => fun
  | [d1, d2, d3, d4] => { results := [.lit (.bool true)], args := [d1, d2, d3, d4] }
  | _ => none }
def stateAsksRow : OpenClaim := { program := "ytlafbakoefcifaagreat", sum := "fa8c586b0acd0717d256a78268d10f5e120aeee0a14c1391a3dce07f72447b9a", func := "newsstand/newsstandlaw21.StateAsks", spec := "stateAsks", inPlace := ["internal/abi.NoEscape", "slices.overlaps[string]", "maps.clone"], unfollowed := true, recurses := true, plainKeys := false, apart := false }
def StateAsksSaid : Prop := stateAsksRow.holds Tryz.pinned (OpenSpec.ofChange stateAsksSpec)

/-- ITS FALSE NEIGHBOUR: 'it returns false'. Refute it at one input. -/
def stateAsksWrong : ChangeSpec := { name := "stateAsks", fn := fun _ => fun
  | [d1, d2, d3, d4] => { results := [.lit (.bool false)], args := [d1, d2, d3, d4] }
  | _ => none }
def StateAsksWrongFalsely : Prop := stateAsksRow.holds Tryz.pinned (OpenSpec.ofChange stateAsksWrong)

/- THE SECOND FORM. 'bulk': how many values and letters a reading holds, each counted each time it is reached (what is shared counts as often as it is met; a slice's spare places count too). A statement '..UptoSaid' is the law's where the arguments, and the package variables that the reading takes, are together of bulk at most 1048576: NARROWER than '..Said'. Prove '..Said' where nothing that the law and all that it calls make is longer than what came in: it says more and counts as full. Else prove '..UptoSaid'. A law counts once. -/
mutual
def uptoBulk {H : Type} : DataW H → Nat
  | .lit (.string bytes) => bytes.length + 1
  | .lit _ => 1
  | .nil => 1
  | .ptr d => uptoBulk d + 1
  | .slice elems spare => uptoBulkAll elems + uptoBulkAll spare + 1
  | .agg parts => uptoBulkAll parts + 1
  | .iface _ d => uptoBulk d + 1
  | .map entries => uptoBulkEntries entries + 1
  | .held _ => 1
def uptoBulkAll {H : Type} : List (DataW H) → Nat
  | [] => 0
  | d :: r => uptoBulk d + uptoBulkAll r
def uptoBulkEntries {H : Type} : List (Lit × DataW H) → Nat
  | [] => 0
  | x :: r => uptoBulkEntry x + uptoBulkEntries r
def uptoBulkEntry {H : Type} : Lit × DataW H → Nat
  | (.string bytes, d) => bytes.length + uptoBulk d + 1
  | (_, d) => uptoBulk d + 1
 end
def uptoSmall : (H : Type) → List (DataW H) → Bool := fun _ ds => decide (uptoBulkAll ds ≤ 1048576)
def OpenSpec.upto (s : _root_.Go.ChangeSpec) : _root_.Go.OpenSpec := { _root_.Go.OpenSpec.ofChange s with cond := some uptoSmall }

/-- 'newsstandlaw21.StateFolds', WHERE WHAT IT READS IS OF BULK AT MOST 1048576: true; the input reads as it did. -/
def stateFoldsUptoRow : OpenClaim := { program := "ytlafbakoefcifaagreat", sum := "fa8c586b0acd0717d256a78268d10f5e120aeee0a14c1391a3dce07f72447b9a", func := "newsstand/newsstandlaw21.StateFolds", spec := "stateFolds", inPlace := ["internal/abi.NoEscape", "slices.overlaps[string]", "maps.clone"], unfollowed := true, recurses := true, plainKeys := false, apart := false, narrowed := true }
def StateFoldsUptoSaid : Prop := stateFoldsUptoRow.holds Tryz.pinned (OpenSpec.upto stateFoldsSpec)

/-- 'newsstandlaw21.StateHistory', WHERE WHAT IT READS IS OF BULK AT MOST 1048576: true; the input reads as it did. -/
def stateHistoryUptoRow : OpenClaim := { program := "ytlafbakoefcifaagreat", sum := "fa8c586b0acd0717d256a78268d10f5e120aeee0a14c1391a3dce07f72447b9a", func := "newsstand/newsstandlaw21.StateHistory", spec := "stateHistory", inPlace := ["internal/abi.NoEscape", "slices.overlaps[string]", "maps.clone"], unfollowed := true, recurses := true, plainKeys := false, apart := false, narrowed := true }
def StateHistoryUptoSaid : Prop := stateHistoryUptoRow.holds Tryz.pinned (OpenSpec.upto stateHistorySpec)

/-- 'newsstandlaw21.StateClones', WHERE WHAT IT READS IS OF BULK AT MOST 1048576: true; the input reads as it did. -/
def stateClonesUptoRow : OpenClaim := { program := "ytlafbakoefcifaagreat", sum := "fa8c586b0acd0717d256a78268d10f5e120aeee0a14c1391a3dce07f72447b9a", func := "newsstand/newsstandlaw21.StateClones", spec := "stateClones", inPlace := ["internal/abi.NoEscape", "slices.overlaps[string]", "maps.clone"], unfollowed := true, recurses := true, plainKeys := false, apart := false, narrowed := true }
def StateClonesUptoSaid : Prop := stateClonesUptoRow.holds Tryz.pinned (OpenSpec.upto stateClonesSpec)

/-- 'newsstandlaw21.StateAsks', WHERE WHAT IT READS IS OF BULK AT MOST 1048576: true; the input reads as it did. -/
def stateAsksUptoRow : OpenClaim := { program := "ytlafbakoefcifaagreat", sum := "fa8c586b0acd0717d256a78268d10f5e120aeee0a14c1391a3dce07f72447b9a", func := "newsstand/newsstandlaw21.StateAsks", spec := "stateAsks", inPlace := ["internal/abi.NoEscape", "slices.overlaps[string]", "maps.clone"], unfollowed := true, recurses := true, plainKeys := false, apart := false, narrowed := true }
def StateAsksUptoSaid : Prop := stateAsksUptoRow.holds Tryz.pinned (OpenSpec.upto stateAsksSpec)

end Rows
end Go.Proofs.YtlafbakoefcifaaGreat
