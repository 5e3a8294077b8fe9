/-
  No cell of these rows narrows 'for every input' (looked for: loops, veiled, ifaces, maps, wideKeys, modest, calm, conditions, laid).
  DERIVED. THE GIVEN ROWS OF THIS SEAT. 12 by the template 'for every input the law returns true; each argument reads behind the call as it read before'; 0 by the template 'total and deterministic' (their statements: YtjnjbmgnbchcjaaGreatTotals.lean).
  GIVEN WITH THE SEED: the statements are not yours to turn. If you find one false, say at which input.
  Laid BY PROGRAM, IN A SANDBOX (cutbox-rows.mjs): the forced cells as the released guide's own fill.sh prints them over the translation 8bbcac01f2c9d687… (all of the seat's roots in one cut). By AI agents, Wed Nov 11 2026. No macro, syntax, notation, axiom, sorry.
-/
import Derived.Test.YtjnjbmgnbchcjaaGreatChecked
import GoSem.Claim
import GoSem.ClaimJoined
import GoSem.ClaimMapViews
import Derived.JoinedTies
import Derived.KernelRfl
namespace Go.Proofs.YtjnjbmgnbchcjaaGreat
/- THE CELL 'sum', in the pinned program and in every row, IS THE sha256 OF THE DUMP (.gsa) THAT YtjnjbmgnbchcjaaGreatProg.lean LOADS. Nothing in Lean hashes anything: it is a label: what it is worth is what the hold of that sum in a sandbox is worth. -/
noncomputable def Tryz.pinned : Pinned := { name := "ytjnjbmgnbchcjaagreat", sum := "8bbcac01f2c9d6875444d323cce760f0262016c44563a86217bce87fbeb26033", checked := Tryz.checked }
namespace Rows
def none {H : Type} : Left H := { results := [], args := [] }

/-- 'newsstandlaw21.StateFolds': WHATEVER THE INPUT: true; the input reads as it did. -/
def stateFoldsSpec : ChangeSpec := { name := "stateFolds", fn := fun _ => fun
  | [d] => { results := [.lit (.bool true)], args := [d] }
  | _ => none }
def stateFoldsRow : OpenClaim := { program := "ytjnjbmgnbchcjaagreat", sum := "8bbcac01f2c9d6875444d323cce760f0262016c44563a86217bce87fbeb26033", func := "newsstand/newsstandlaw21.StateFolds", spec := "stateFolds", inPlace := ["internal/abi.NoEscape", "slices.overlaps[string]", "maps.clone"], unfollowed := true, recurses := true, plainKeys := false, apart := false }
def StateFoldsSaid : Prop := stateFoldsRow.holds Tryz.pinned (OpenSpec.ofChange stateFoldsSpec)

/-- ITS FALSE NEIGHBOUR: 'it returns false'. Refute it at one input. -/
def stateFoldsWrong : ChangeSpec := { name := "stateFolds", fn := fun _ => fun
  | [d] => { results := [.lit (.bool false)], args := [d] }
  | _ => none }
def StateFoldsWrongFalsely : Prop := stateFoldsRow.holds Tryz.pinned (OpenSpec.ofChange stateFoldsWrong)

/-- 'newsstandlaw21.StateChecks': WHATEVER THE INPUT: true; the input reads as it did. -/
def stateChecksSpec : ChangeSpec := { name := "stateChecks", fn := fun _ => fun
  | [d1, d2] => { results := [.lit (.bool true)], args := [d1, d2] }
  | _ => none }
def stateChecksRow : OpenClaim := { program := "ytjnjbmgnbchcjaagreat", sum := "8bbcac01f2c9d6875444d323cce760f0262016c44563a86217bce87fbeb26033", func := "newsstand/newsstandlaw21.StateChecks", spec := "stateChecks", inPlace := ["internal/abi.NoEscape", "slices.overlaps[string]", "maps.clone"], unfollowed := true, recurses := true, plainKeys := false, apart := false }
def StateChecksSaid : Prop := stateChecksRow.holds Tryz.pinned (OpenSpec.ofChange stateChecksSpec)

/-- ITS FALSE NEIGHBOUR: 'it returns false'. Refute it at one input. -/
def stateChecksWrong : ChangeSpec := { name := "stateChecks", fn := fun _ => fun
  | [d1, d2] => { results := [.lit (.bool false)], args := [d1, d2] }
  | _ => none }
def StateChecksWrongFalsely : Prop := stateChecksRow.holds Tryz.pinned (OpenSpec.ofChange stateChecksWrong)

/-- 'newsstandlaw21.StateMay': WHATEVER THE INPUT: true; the input reads as it did. -/
def stateMaySpec : ChangeSpec := { name := "stateMay", fn := fun _ => fun
  | [d1, d2] => { results := [.lit (.bool true)], args := [d1, d2] }
  | _ => none }
def stateMayRow : OpenClaim := { program := "ytjnjbmgnbchcjaagreat", sum := "8bbcac01f2c9d6875444d323cce760f0262016c44563a86217bce87fbeb26033", func := "newsstand/newsstandlaw21.StateMay", spec := "stateMay", inPlace := ["internal/abi.NoEscape", "slices.overlaps[string]", "maps.clone"], unfollowed := true, recurses := true, plainKeys := false, apart := false }
def StateMaySaid : Prop := stateMayRow.holds Tryz.pinned (OpenSpec.ofChange stateMaySpec)

/-- ITS FALSE NEIGHBOUR: 'it returns false'. Refute it at one input. -/
def stateMayWrong : ChangeSpec := { name := "stateMay", fn := fun _ => fun
  | [d1, d2] => { results := [.lit (.bool false)], args := [d1, d2] }
  | _ => none }
def StateMayWrongFalsely : Prop := stateMayRow.holds Tryz.pinned (OpenSpec.ofChange stateMayWrong)

/-- 'newsstandlaw21.StateHistory': WHATEVER THE INPUT: true; the input reads as it did. -/
def stateHistorySpec : ChangeSpec := { name := "stateHistory", fn := fun _ => fun
  | [d] => { results := [.lit (.bool true)], args := [d] }
  | _ => none }
def stateHistoryRow : OpenClaim := { program := "ytjnjbmgnbchcjaagreat", sum := "8bbcac01f2c9d6875444d323cce760f0262016c44563a86217bce87fbeb26033", func := "newsstand/newsstandlaw21.StateHistory", spec := "stateHistory", inPlace := ["internal/abi.NoEscape", "slices.overlaps[string]", "maps.clone"], unfollowed := true, recurses := true, plainKeys := false, apart := false }
def StateHistorySaid : Prop := stateHistoryRow.holds Tryz.pinned (OpenSpec.ofChange stateHistorySpec)

/-- ITS FALSE NEIGHBOUR: 'it returns false'. Refute it at one input. -/
def stateHistoryWrong : ChangeSpec := { name := "stateHistory", fn := fun _ => fun
  | [d] => { results := [.lit (.bool false)], args := [d] }
  | _ => none }
def StateHistoryWrongFalsely : Prop := stateHistoryRow.holds Tryz.pinned (OpenSpec.ofChange stateHistoryWrong)

/-- 'newsstandlaw21.StateClones': WHATEVER THE INPUT: true; the input reads as it did. -/
def stateClonesSpec : ChangeSpec := { name := "stateClones", fn := fun _ => fun
  | [d1, d2, d3] => { results := [.lit (.bool true)], args := [d1, d2, d3] }
  | _ => none }
def stateClonesRow : OpenClaim := { program := "ytjnjbmgnbchcjaagreat", sum := "8bbcac01f2c9d6875444d323cce760f0262016c44563a86217bce87fbeb26033", func := "newsstand/newsstandlaw21.StateClones", spec := "stateClones", inPlace := ["internal/abi.NoEscape", "slices.overlaps[string]", "maps.clone"], unfollowed := true, recurses := true, plainKeys := false, apart := false }
def StateClonesSaid : Prop := stateClonesRow.holds Tryz.pinned (OpenSpec.ofChange stateClonesSpec)

/-- ITS FALSE NEIGHBOUR: 'it returns false'. Refute it at one input. -/
def stateClonesWrong : ChangeSpec := { name := "stateClones", fn := fun _ => fun
  | [d1, d2, d3] => { results := [.lit (.bool false)], args := [d1, d2, d3] }
  | _ => none }
def StateClonesWrongFalsely : Prop := stateClonesRow.holds Tryz.pinned (OpenSpec.ofChange stateClonesWrong)

/-- 'newsstandlaw21.StateFills': WHATEVER THE INPUT: true; the input reads as it did. -/
def stateFillsSpec : ChangeSpec := { name := "stateFills", fn := fun _ => fun
  | [d1, d2] => { results := [.lit (.bool true)], args := [d1, d2] }
  | _ => none }
def stateFillsRow : OpenClaim := { program := "ytjnjbmgnbchcjaagreat", sum := "8bbcac01f2c9d6875444d323cce760f0262016c44563a86217bce87fbeb26033", func := "newsstand/newsstandlaw21.StateFills", spec := "stateFills", inPlace := ["internal/abi.NoEscape", "slices.overlaps[string]", "maps.clone"], unfollowed := true, recurses := true, plainKeys := false, apart := false }
def StateFillsSaid : Prop := stateFillsRow.holds Tryz.pinned (OpenSpec.ofChange stateFillsSpec)

/-- ITS FALSE NEIGHBOUR: 'it returns false'. Refute it at one input. -/
def stateFillsWrong : ChangeSpec := { name := "stateFills", fn := fun _ => fun
  | [d1, d2] => { results := [.lit (.bool false)], args := [d1, d2] }
  | _ => none }
def StateFillsWrongFalsely : Prop := stateFillsRow.holds Tryz.pinned (OpenSpec.ofChange stateFillsWrong)

/-- 'newsstandlaw37.AuditChecks': WHATEVER THE INPUT: true; the input reads as it did. -/
def auditChecksSpec : ChangeSpec := { name := "auditChecks", fn := fun _ => fun
  | [d] => { results := [.lit (.bool true)], args := [d] }
  | _ => none }
def auditChecksRow : OpenClaim := { program := "ytjnjbmgnbchcjaagreat", sum := "8bbcac01f2c9d6875444d323cce760f0262016c44563a86217bce87fbeb26033", func := "newsstand/newsstandlaw37.AuditChecks", spec := "auditChecks", inPlace := ["internal/abi.NoEscape", "slices.overlaps[string]"], unfollowed := true, recurses := true, plainKeys := false, apart := false }
def AuditChecksSaid : Prop := auditChecksRow.holds Tryz.pinned (OpenSpec.ofChange auditChecksSpec)

/-- ITS FALSE NEIGHBOUR: 'it returns false'. Refute it at one input. -/
def auditChecksWrong : ChangeSpec := { name := "auditChecks", fn := fun _ => fun
  | [d] => { results := [.lit (.bool false)], args := [d] }
  | _ => none }
def AuditChecksWrongFalsely : Prop := auditChecksRow.holds Tryz.pinned (OpenSpec.ofChange auditChecksWrong)

/-- 'newsstandlaw37.AuditBegins': WHATEVER THE INPUT: true; the input reads as it did. -/
def auditBeginsSpec : ChangeSpec := { name := "auditBegins", fn := fun _ => fun
  | [d1, d2] => { results := [.lit (.bool true)], args := [d1, d2] }
  | _ => none }
def auditBeginsRow : OpenClaim := { program := "ytjnjbmgnbchcjaagreat", sum := "8bbcac01f2c9d6875444d323cce760f0262016c44563a86217bce87fbeb26033", func := "newsstand/newsstandlaw37.AuditBegins", spec := "auditBegins", inPlace := ["internal/abi.NoEscape", "slices.overlaps[string]"], unfollowed := true, recurses := true, plainKeys := false, apart := false }
def AuditBeginsSaid : Prop := auditBeginsRow.holds Tryz.pinned (OpenSpec.ofChange auditBeginsSpec)

/-- ITS FALSE NEIGHBOUR: 'it returns false'. Refute it at one input. -/
def auditBeginsWrong : ChangeSpec := { name := "auditBegins", fn := fun _ => fun
  | [d1, d2] => { results := [.lit (.bool false)], args := [d1, d2] }
  | _ => none }
def AuditBeginsWrongFalsely : Prop := auditBeginsRow.holds Tryz.pinned (OpenSpec.ofChange auditBeginsWrong)

/-- 'newsstandlaw37.AuditTells': WHATEVER THE INPUT: true; the input reads as it did. -/
def auditTellsSpec : ChangeSpec := { name := "auditTells", fn := fun _ => fun
  | [d1, d2, d3, d4] => { results := [.lit (.bool true)], args := [d1, d2, d3, d4] }
  | _ => none }
def auditTellsRow : OpenClaim := { program := "ytjnjbmgnbchcjaagreat", sum := "8bbcac01f2c9d6875444d323cce760f0262016c44563a86217bce87fbeb26033", func := "newsstand/newsstandlaw37.AuditTells", spec := "auditTells", inPlace := ["internal/abi.NoEscape", "slices.overlaps[string]"], unfollowed := true, recurses := true, plainKeys := false, apart := false }
def AuditTellsSaid : Prop := auditTellsRow.holds Tryz.pinned (OpenSpec.ofChange auditTellsSpec)

/-- ITS FALSE NEIGHBOUR: 'it returns false'. Refute it at one input. -/
def auditTellsWrong : ChangeSpec := { name := "auditTells", fn := fun _ => fun
  | [d1, d2, d3, d4] => { results := [.lit (.bool false)], args := [d1, d2, d3, d4] }
  | _ => none }
def AuditTellsWrongFalsely : Prop := auditTellsRow.holds Tryz.pinned (OpenSpec.ofChange auditTellsWrong)

/-- 'newsstandlaw21.StateUnfeeds': WHATEVER THE INPUT: true; the input reads as it did. -/
def stateUnfeedsSpec : ChangeSpec := { name := "stateUnfeeds", fn := fun _ => fun
  | [d1, d2] => { results := [.lit (.bool true)], args := [d1, d2] }
  | _ => none }
def stateUnfeedsRow : OpenClaim := { program := "ytjnjbmgnbchcjaagreat", sum := "8bbcac01f2c9d6875444d323cce760f0262016c44563a86217bce87fbeb26033", func := "newsstand/newsstandlaw21.StateUnfeeds", spec := "stateUnfeeds", inPlace := ["internal/abi.NoEscape", "slices.overlaps[string]", "maps.clone"], unfollowed := true, recurses := true, plainKeys := false, apart := false }
def StateUnfeedsSaid : Prop := stateUnfeedsRow.holds Tryz.pinned (OpenSpec.ofChange stateUnfeedsSpec)

/-- ITS FALSE NEIGHBOUR: 'it returns false'. Refute it at one input. -/
def stateUnfeedsWrong : ChangeSpec := { name := "stateUnfeeds", fn := fun _ => fun
  | [d1, d2] => { results := [.lit (.bool false)], args := [d1, d2] }
  | _ => none }
def StateUnfeedsWrongFalsely : Prop := stateUnfeedsRow.holds Tryz.pinned (OpenSpec.ofChange stateUnfeedsWrong)

/-- 'newsstandlaw21.StateAsks': WHATEVER THE INPUT: true; the input reads as it did. -/
def stateAsksSpec : ChangeSpec := { name := "stateAsks", fn := fun _ => fun
  | [d1, d2, d3, d4] => { results := [.lit (.bool true)], args := [d1, d2, d3, d4] }
  | _ => none }
def stateAsksRow : OpenClaim := { program := "ytjnjbmgnbchcjaagreat", sum := "8bbcac01f2c9d6875444d323cce760f0262016c44563a86217bce87fbeb26033", func := "newsstand/newsstandlaw21.StateAsks", spec := "stateAsks", inPlace := ["internal/abi.NoEscape", "slices.overlaps[string]", "maps.clone"], unfollowed := true, recurses := true, plainKeys := false, apart := false }
def StateAsksSaid : Prop := stateAsksRow.holds Tryz.pinned (OpenSpec.ofChange stateAsksSpec)

/-- ITS FALSE NEIGHBOUR: 'it returns false'. Refute it at one input. -/
def stateAsksWrong : ChangeSpec := { name := "stateAsks", fn := fun _ => fun
  | [d1, d2, d3, d4] => { results := [.lit (.bool false)], args := [d1, d2, d3, d4] }
  | _ => none }
def StateAsksWrongFalsely : Prop := stateAsksRow.holds Tryz.pinned (OpenSpec.ofChange stateAsksWrong)

/-- 'newsstandlaw21.StateNobody': WHATEVER THE INPUT: true; the input reads as it did. -/
def stateNobodySpec : ChangeSpec := { name := "stateNobody", fn := fun _ => fun
  | [d1, d2, d3] => { results := [.lit (.bool true)], args := [d1, d2, d3] }
  | _ => none }
def stateNobodyRow : OpenClaim := { program := "ytjnjbmgnbchcjaagreat", sum := "8bbcac01f2c9d6875444d323cce760f0262016c44563a86217bce87fbeb26033", func := "newsstand/newsstandlaw21.StateNobody", spec := "stateNobody", inPlace := ["internal/abi.NoEscape", "slices.overlaps[string]", "maps.clone"], unfollowed := true, recurses := true, plainKeys := false, apart := false }
def StateNobodySaid : Prop := stateNobodyRow.holds Tryz.pinned (OpenSpec.ofChange stateNobodySpec)

/-- ITS FALSE NEIGHBOUR: 'it returns false'. Refute it at one input. -/
def stateNobodyWrong : ChangeSpec := { name := "stateNobody", fn := fun _ => fun
  | [d1, d2, d3] => { results := [.lit (.bool false)], args := [d1, d2, d3] }
  | _ => none }
def StateNobodyWrongFalsely : Prop := stateNobodyRow.holds Tryz.pinned (OpenSpec.ofChange stateNobodyWrong)

/- THE SECOND FORM. 'bulk': how many values and letters a reading holds, each counted each time it is reached (what is shared counts as often as it is met; a slice's spare places count too). A statement '..UptoSaid' is the law's where the arguments, and the package variables that the reading takes, are together of bulk at most 1048576: NARROWER than '..Said'. Prove '..Said' where nothing that the law and all that it calls make is longer than what came in: it says more and counts as full. Else prove '..UptoSaid'. A law counts once. -/
mutual
def uptoBulk {H : Type} : DataW H → Nat
  | .lit (.string bytes) => bytes.length + 1
  | .lit _ => 1
  | .nil => 1
  | .ptr d => uptoBulk d + 1
  | .slice elems spare => uptoBulkAll elems + uptoBulkAll spare + 1
  | .agg parts => uptoBulkAll parts + 1
  | .iface _ d => uptoBulk d + 1
  | .map entries => uptoBulkEntries entries + 1
  | .held _ => 1
def uptoBulkAll {H : Type} : List (DataW H) → Nat
  | [] => 0
  | d :: r => uptoBulk d + uptoBulkAll r
def uptoBulkEntries {H : Type} : List (Lit × DataW H) → Nat
  | [] => 0
  | x :: r => uptoBulkEntry x + uptoBulkEntries r
def uptoBulkEntry {H : Type} : Lit × DataW H → Nat
  | (.string bytes, d) => bytes.length + uptoBulk d + 1
  | (_, d) => uptoBulk d + 1
 end
def uptoSmall : (H : Type) → List (DataW H) → Bool := fun _ ds => decide (uptoBulkAll ds ≤ 1048576)
def OpenSpec.upto (s : _root_.Go.ChangeSpec) : _root_.Go.OpenSpec := { _root_.Go.OpenSpec.ofChange s with cond := some uptoSmall }

/-- 'newsstandlaw21.StateFolds', WHERE WHAT IT READS IS OF BULK AT MOST 1048576: true; the input reads as it did. -/
def stateFoldsUptoRow : OpenClaim := { program := "ytjnjbmgnbchcjaagreat", sum := "8bbcac01f2c9d6875444d323cce760f0262016c44563a86217bce87fbeb26033", func := "newsstand/newsstandlaw21.StateFolds", spec := "stateFolds", inPlace := ["internal/abi.NoEscape", "slices.overlaps[string]", "maps.clone"], unfollowed := true, recurses := true, plainKeys := false, apart := false, narrowed := true }
def StateFoldsUptoSaid : Prop := stateFoldsUptoRow.holds Tryz.pinned (OpenSpec.upto stateFoldsSpec)

/-- 'newsstandlaw21.StateChecks', WHERE WHAT IT READS IS OF BULK AT MOST 1048576: true; the input reads as it did. -/
def stateChecksUptoRow : OpenClaim := { program := "ytjnjbmgnbchcjaagreat", sum := "8bbcac01f2c9d6875444d323cce760f0262016c44563a86217bce87fbeb26033", func := "newsstand/newsstandlaw21.StateChecks", spec := "stateChecks", inPlace := ["internal/abi.NoEscape", "slices.overlaps[string]", "maps.clone"], unfollowed := true, recurses := true, plainKeys := false, apart := false, narrowed := true }
def StateChecksUptoSaid : Prop := stateChecksUptoRow.holds Tryz.pinned (OpenSpec.upto stateChecksSpec)

/-- 'newsstandlaw21.StateMay', WHERE WHAT IT READS IS OF BULK AT MOST 1048576: true; the input reads as it did. -/
def stateMayUptoRow : OpenClaim := { program := "ytjnjbmgnbchcjaagreat", sum := "8bbcac01f2c9d6875444d323cce760f0262016c44563a86217bce87fbeb26033", func := "newsstand/newsstandlaw21.StateMay", spec := "stateMay", inPlace := ["internal/abi.NoEscape", "slices.overlaps[string]", "maps.clone"], unfollowed := true, recurses := true, plainKeys := false, apart := false, narrowed := true }
def StateMayUptoSaid : Prop := stateMayUptoRow.holds Tryz.pinned (OpenSpec.upto stateMaySpec)

/-- 'newsstandlaw21.StateHistory', WHERE WHAT IT READS IS OF BULK AT MOST 1048576: true; the input reads as it did. -/
def stateHistoryUptoRow : OpenClaim := { program := "ytjnjbmgnbchcjaagreat", sum := "8bbcac01f2c9d6875444d323cce760f0262016c44563a86217bce87fbeb26033", func := "newsstand/newsstandlaw21.StateHistory", spec := "stateHistory", inPlace := ["internal/abi.NoEscape", "slices.overlaps[string]", "maps.clone"], unfollowed := true, recurses := true, plainKeys := false, apart := false, narrowed := true }
def StateHistoryUptoSaid : Prop := stateHistoryUptoRow.holds Tryz.pinned (OpenSpec.upto stateHistorySpec)

/-- 'newsstandlaw21.StateClones', WHERE WHAT IT READS IS OF BULK AT MOST 1048576: true; the input reads as it did. -/
def stateClonesUptoRow : OpenClaim := { program := "ytjnjbmgnbchcjaagreat", sum := "8bbcac01f2c9d6875444d323cce760f0262016c44563a86217bce87fbeb26033", func := "newsstand/newsstandlaw21.StateClones", spec := "stateClones", inPlace := ["internal/abi.NoEscape", "slices.overlaps[string]", "maps.clone"], unfollowed := true, recurses := true, plainKeys := false, apart := false, narrowed := true }
def StateClonesUptoSaid : Prop := stateClonesUptoRow.holds Tryz.pinned (OpenSpec.upto stateClonesSpec)

/-- 'newsstandlaw21.StateFills', WHERE WHAT IT READS IS OF BULK AT MOST 1048576: true; the input reads as it did. -/
def stateFillsUptoRow : OpenClaim := { program := "ytjnjbmgnbchcjaagreat", sum := "8bbcac01f2c9d6875444d323cce760f0262016c44563a86217bce87fbeb26033", func := "newsstand/newsstandlaw21.StateFills", spec := "stateFills", inPlace := ["internal/abi.NoEscape", "slices.overlaps[string]", "maps.clone"], unfollowed := true, recurses := true, plainKeys := false, apart := false, narrowed := true }
def StateFillsUptoSaid : Prop := stateFillsUptoRow.holds Tryz.pinned (OpenSpec.upto stateFillsSpec)

/-- 'newsstandlaw37.AuditChecks', WHERE WHAT IT READS IS OF BULK AT MOST 1048576: true; the input reads as it did. -/
def auditChecksUptoRow : OpenClaim := { program := "ytjnjbmgnbchcjaagreat", sum := "8bbcac01f2c9d6875444d323cce760f0262016c44563a86217bce87fbeb26033", func := "newsstand/newsstandlaw37.AuditChecks", spec := "auditChecks", inPlace := ["internal/abi.NoEscape", "slices.overlaps[string]"], unfollowed := true, recurses := true, plainKeys := false, apart := false, narrowed := true }
def AuditChecksUptoSaid : Prop := auditChecksUptoRow.holds Tryz.pinned (OpenSpec.upto auditChecksSpec)

/-- 'newsstandlaw37.AuditBegins', WHERE WHAT IT READS IS OF BULK AT MOST 1048576: true; the input reads as it did. -/
def auditBeginsUptoRow : OpenClaim := { program := "ytjnjbmgnbchcjaagreat", sum := "8bbcac01f2c9d6875444d323cce760f0262016c44563a86217bce87fbeb26033", func := "newsstand/newsstandlaw37.AuditBegins", spec := "auditBegins", inPlace := ["internal/abi.NoEscape", "slices.overlaps[string]"], unfollowed := true, recurses := true, plainKeys := false, apart := false, narrowed := true }
def AuditBeginsUptoSaid : Prop := auditBeginsUptoRow.holds Tryz.pinned (OpenSpec.upto auditBeginsSpec)

/-- 'newsstandlaw37.AuditTells', WHERE WHAT IT READS IS OF BULK AT MOST 1048576: true; the input reads as it did. -/
def auditTellsUptoRow : OpenClaim := { program := "ytjnjbmgnbchcjaagreat", sum := "8bbcac01f2c9d6875444d323cce760f0262016c44563a86217bce87fbeb26033", func := "newsstand/newsstandlaw37.AuditTells", spec := "auditTells", inPlace := ["internal/abi.NoEscape", "slices.overlaps[string]"], unfollowed := true, recurses := true, plainKeys := false, apart := false, narrowed := true }
def AuditTellsUptoSaid : Prop := auditTellsUptoRow.holds Tryz.pinned (OpenSpec.upto auditTellsSpec)

/-- 'newsstandlaw21.StateUnfeeds', WHERE WHAT IT READS IS OF BULK AT MOST 1048576: true; the input reads as it did. -/
def stateUnfeedsUptoRow : OpenClaim := { program := "ytjnjbmgnbchcjaagreat", sum := "8bbcac01f2c9d6875444d323cce760f0262016c44563a86217bce87fbeb26033", func := "newsstand/newsstandlaw21.StateUnfeeds", spec := "stateUnfeeds", inPlace := ["internal/abi.NoEscape", "slices.overlaps[string]", "maps.clone"], unfollowed := true, recurses := true, plainKeys := false, apart := false, narrowed := true }
def StateUnfeedsUptoSaid : Prop := stateUnfeedsUptoRow.holds Tryz.pinned (OpenSpec.upto stateUnfeedsSpec)

/-- 'newsstandlaw21.StateAsks', WHERE WHAT IT READS IS OF BULK AT MOST 1048576: true; the input reads as it did. -/
def stateAsksUptoRow : OpenClaim := { program := "ytjnjbmgnbchcjaagreat", sum := "8bbcac01f2c9d6875444d323cce760f0262016c44563a86217bce87fbeb26033", func := "newsstand/newsstandlaw21.StateAsks", spec := "stateAsks", inPlace := ["internal/abi.NoEscape", "slices.overlaps[string]", "maps.clone"], unfollowed := true, recurses := true, plainKeys := false, apart := false, narrowed := true }
def StateAsksUptoSaid : Prop := stateAsksUptoRow.holds Tryz.pinned (OpenSpec.upto stateAsksSpec)

/-- 'newsstandlaw21.StateNobody', WHERE WHAT IT READS IS OF BULK AT MOST 1048576: true; the input reads as it did. -/
def stateNobodyUptoRow : OpenClaim := { program := "ytjnjbmgnbchcjaagreat", sum := "8bbcac01f2c9d6875444d323cce760f0262016c44563a86217bce87fbeb26033", func := "newsstand/newsstandlaw21.StateNobody", spec := "stateNobody", inPlace := ["internal/abi.NoEscape", "slices.overlaps[string]", "maps.clone"], unfollowed := true, recurses := true, plainKeys := false, apart := false, narrowed := true }
def StateNobodyUptoSaid : Prop := stateNobodyUptoRow.holds Tryz.pinned (OpenSpec.upto stateNobodySpec)

end Rows
end Go.Proofs.YtjnjbmgnbchcjaaGreat
