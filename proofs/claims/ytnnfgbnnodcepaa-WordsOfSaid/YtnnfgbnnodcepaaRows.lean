/-
  No cell of these rows narrows 'for every input' (looked for: loops, veiled, ifaces, maps, wideKeys, modest, calm, conditions, laid).
  DERIVED. THE GIVEN ROWS OF THIS SEAT. 4 by the template 'for every input the law returns true; each argument reads behind the call as it read before'; 0 by the template 'total and deterministic' (their statements: YtnnfgbnnodcepaaTotals.lean).
  GIVEN WITH THE SEED: the statements are not yours to turn. If you find one false, say at which input.
  Laid BY PROGRAM, IN A SANDBOX (cutbox-rows.mjs): the forced cells as the released guide's own fill.sh prints them over the translation 0f98415099aba574… (all of the seat's roots in one cut). By AI agents, Wed Nov 11 2026. No macro, syntax, notation, axiom, sorry.
-/
import Derived.Test.YtnnfgbnnodcepaaChecked
import GoSem.Claim
import GoSem.ClaimJoined
import GoSem.ClaimMapViews
import Derived.JoinedTies
import Derived.KernelRfl
namespace Go.Proofs.Ytnnfgbnnodcepaa
/- THE CELL 'sum', in the pinned program and in every row, IS THE sha256 OF THE DUMP (.gsa) THAT YtnnfgbnnodcepaaProg.lean LOADS. Nothing in Lean hashes anything: it is a label: what it is worth is what the hold of that sum in a sandbox is worth. -/
noncomputable def Try.pinned : Pinned := { name := "ytnnfgbnnodcepaa", sum := "0f98415099aba5748aa8e55fec28471519aea17014525c1f071bc657b39afe1b", checked := Try.checked }
namespace Rows
def none {H : Type} : Left H := { results := [], args := [] }

/-- 'newsstandlaw06.WordsOf': WHATEVER THE INPUT: true; the input reads as it did. -/
def wordsOfSpec : ChangeSpec := { name := "wordsOf", fn := fun _ => fun
  | [d] => { results := [.lit (.bool true)], args := [d] }
  | _ => none }
def wordsOfRow : OpenClaim := { program := "ytnnfgbnnodcepaa", sum := "0f98415099aba5748aa8e55fec28471519aea17014525c1f071bc657b39afe1b", func := "newsstand/newsstandlaw06.WordsOf", spec := "wordsOf", inPlace := ["internal/abi.NoEscape"], unfollowed := true, recurses := true, apart := false }
def WordsOfSaid : Prop := wordsOfRow.holds Try.pinned (OpenSpec.ofChange wordsOfSpec)

/-- ITS FALSE NEIGHBOUR: 'it returns false'. Refute it at one input. -/
def wordsOfWrong : ChangeSpec := { name := "wordsOf", fn := fun _ => fun
  | [d] => { results := [.lit (.bool false)], args := [d] }
  | _ => none }
def WordsOfWrongFalsely : Prop := wordsOfRow.holds Try.pinned (OpenSpec.ofChange wordsOfWrong)

/-- 'newsstandlaw06.WordsHas': WHATEVER THE INPUT: true; the input reads as it did. -/
def wordsHasSpec : ChangeSpec := { name := "wordsHas", fn := fun _ => fun
  | [d1, d2] => { results := [.lit (.bool true)], args := [d1, d2] }
  | _ => none }
def wordsHasRow : OpenClaim := { program := "ytnnfgbnnodcepaa", sum := "0f98415099aba5748aa8e55fec28471519aea17014525c1f071bc657b39afe1b", func := "newsstand/newsstandlaw06.WordsHas", spec := "wordsHas", inPlace := ["internal/abi.NoEscape"], unfollowed := true, recurses := true, apart := false }
def WordsHasSaid : Prop := wordsHasRow.holds Try.pinned (OpenSpec.ofChange wordsHasSpec)

/-- ITS FALSE NEIGHBOUR: 'it returns false'. Refute it at one input. -/
def wordsHasWrong : ChangeSpec := { name := "wordsHas", fn := fun _ => fun
  | [d1, d2] => { results := [.lit (.bool false)], args := [d1, d2] }
  | _ => none }
def WordsHasWrongFalsely : Prop := wordsHasRow.holds Try.pinned (OpenSpec.ofChange wordsHasWrong)

/-- 'newsstandlaw06.WordsJoined': WHATEVER THE INPUT: true; the input reads as it did. -/
def wordsJoinedSpec : ChangeSpec := { name := "wordsJoined", fn := fun _ => fun
  | [d] => { results := [.lit (.bool true)], args := [d] }
  | _ => none }
def wordsJoinedRow : OpenClaim := { program := "ytnnfgbnnodcepaa", sum := "0f98415099aba5748aa8e55fec28471519aea17014525c1f071bc657b39afe1b", func := "newsstand/newsstandlaw06.WordsJoined", spec := "wordsJoined", inPlace := ["internal/abi.NoEscape"], unfollowed := true, recurses := true, apart := false }
def WordsJoinedSaid : Prop := wordsJoinedRow.holds Try.pinned (OpenSpec.ofChange wordsJoinedSpec)

/-- ITS FALSE NEIGHBOUR: 'it returns false'. Refute it at one input. -/
def wordsJoinedWrong : ChangeSpec := { name := "wordsJoined", fn := fun _ => fun
  | [d] => { results := [.lit (.bool false)], args := [d] }
  | _ => none }
def WordsJoinedWrongFalsely : Prop := wordsJoinedRow.holds Try.pinned (OpenSpec.ofChange wordsJoinedWrong)

/-- 'newsstandlaw06.WordsBoth': WHATEVER THE INPUT: true; the input reads as it did. -/
def wordsBothSpec : ChangeSpec := { name := "wordsBoth", fn := fun _ => fun
  | [d1, d2] => { results := [.lit (.bool true)], args := [d1, d2] }
  | _ => none }
def wordsBothRow : OpenClaim := { program := "ytnnfgbnnodcepaa", sum := "0f98415099aba5748aa8e55fec28471519aea17014525c1f071bc657b39afe1b", func := "newsstand/newsstandlaw06.WordsBoth", spec := "wordsBoth", inPlace := ["internal/abi.NoEscape"], unfollowed := true, recurses := true, apart := false }
def WordsBothSaid : Prop := wordsBothRow.holds Try.pinned (OpenSpec.ofChange wordsBothSpec)

/-- ITS FALSE NEIGHBOUR: 'it returns false'. Refute it at one input. -/
def wordsBothWrong : ChangeSpec := { name := "wordsBoth", fn := fun _ => fun
  | [d1, d2] => { results := [.lit (.bool false)], args := [d1, d2] }
  | _ => none }
def WordsBothWrongFalsely : Prop := wordsBothRow.holds Try.pinned (OpenSpec.ofChange wordsBothWrong)

/- THE SECOND FORM. 'bulk': how many values and letters a reading holds, each counted each time it is reached (what is shared counts as often as it is met; a slice's spare places count too). A statement '..UptoSaid' is the law's where the arguments, and the package variables that the reading takes, are together of bulk at most 1048576: NARROWER than '..Said'. Prove '..Said' where nothing that the law and all that it calls make is longer than what came in: it says more and counts as full. Else prove '..UptoSaid'. A law counts once. -/
mutual
def uptoBulk {H : Type} : DataW H → Nat
  | .lit (.string bytes) => bytes.length + 1
  | .lit _ => 1
  | .nil => 1
  | .ptr d => uptoBulk d + 1
  | .slice elems spare => uptoBulkAll elems + uptoBulkAll spare + 1
  | .agg parts => uptoBulkAll parts + 1
  | .iface _ d => uptoBulk d + 1
  | .map entries => uptoBulkEntries entries + 1
  | .held _ => 1
def uptoBulkAll {H : Type} : List (DataW H) → Nat
  | [] => 0
  | d :: r => uptoBulk d + uptoBulkAll r
def uptoBulkEntries {H : Type} : List (Lit × DataW H) → Nat
  | [] => 0
  | x :: r => uptoBulkEntry x + uptoBulkEntries r
def uptoBulkEntry {H : Type} : Lit × DataW H → Nat
  | (.string bytes, d) => bytes.length + uptoBulk d + 1
  | (_, d) => uptoBulk d + 1
 end
def uptoSmall : (H : Type) → List (DataW H) → Bool := fun _ ds => decide (uptoBulkAll ds ≤ 1048576)
def OpenSpec.upto (s : _root_.Go.ChangeSpec) : _root_.Go.OpenSpec := { _root_.Go.OpenSpec.ofChange s with cond := some uptoSmall }

/-- 'newsstandlaw06.WordsOf', WHERE WHAT IT READS IS OF BULK AT MOST 1048576: true; the input reads as it did. -/
def wordsOfUptoRow : OpenClaim := { program := "ytnnfgbnnodcepaa", sum := "0f98415099aba5748aa8e55fec28471519aea17014525c1f071bc657b39afe1b", func := "newsstand/newsstandlaw06.WordsOf", spec := "wordsOf", inPlace := ["internal/abi.NoEscape"], unfollowed := true, recurses := true, apart := false, narrowed := true }
def WordsOfUptoSaid : Prop := wordsOfUptoRow.holds Try.pinned (OpenSpec.upto wordsOfSpec)

/-- 'newsstandlaw06.WordsHas', WHERE WHAT IT READS IS OF BULK AT MOST 1048576: true; the input reads as it did. -/
def wordsHasUptoRow : OpenClaim := { program := "ytnnfgbnnodcepaa", sum := "0f98415099aba5748aa8e55fec28471519aea17014525c1f071bc657b39afe1b", func := "newsstand/newsstandlaw06.WordsHas", spec := "wordsHas", inPlace := ["internal/abi.NoEscape"], unfollowed := true, recurses := true, apart := false, narrowed := true }
def WordsHasUptoSaid : Prop := wordsHasUptoRow.holds Try.pinned (OpenSpec.upto wordsHasSpec)

/-- 'newsstandlaw06.WordsJoined', WHERE WHAT IT READS IS OF BULK AT MOST 1048576: true; the input reads as it did. -/
def wordsJoinedUptoRow : OpenClaim := { program := "ytnnfgbnnodcepaa", sum := "0f98415099aba5748aa8e55fec28471519aea17014525c1f071bc657b39afe1b", func := "newsstand/newsstandlaw06.WordsJoined", spec := "wordsJoined", inPlace := ["internal/abi.NoEscape"], unfollowed := true, recurses := true, apart := false, narrowed := true }
def WordsJoinedUptoSaid : Prop := wordsJoinedUptoRow.holds Try.pinned (OpenSpec.upto wordsJoinedSpec)

/-- 'newsstandlaw06.WordsBoth', WHERE WHAT IT READS IS OF BULK AT MOST 1048576: true; the input reads as it did. -/
def wordsBothUptoRow : OpenClaim := { program := "ytnnfgbnnodcepaa", sum := "0f98415099aba5748aa8e55fec28471519aea17014525c1f071bc657b39afe1b", func := "newsstand/newsstandlaw06.WordsBoth", spec := "wordsBoth", inPlace := ["internal/abi.NoEscape"], unfollowed := true, recurses := true, apart := false, narrowed := true }
def WordsBothUptoSaid : Prop := wordsBothUptoRow.holds Try.pinned (OpenSpec.upto wordsBothSpec)

end Rows
end Go.Proofs.Ytnnfgbnnodcepaa
