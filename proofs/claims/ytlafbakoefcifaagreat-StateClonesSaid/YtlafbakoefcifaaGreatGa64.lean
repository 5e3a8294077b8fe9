/-
  StateClones: closed facts of the program and the row. No condition.
-/
import Derived.Test.YtlafbakoefcifaaGreatRows
import Derived.JoinedOf
set_option linter.unusedVariables false
set_option linter.unusedSimpArgs false
namespace Go.Proofs.YtlafbakoefcifaaGreat
namespace stateClones
theorem closed1:laidOutB Tryz.pinned.checked.prog=true:=by kernel_rfl
theorem closed2:mapsRowed Tryz.pinned.checked.prog=true:=by kernel_rfl
theorem closed3:(Rows.stateClonesRow.inPlace==Tryz.pinned.checked.prog.inPlace 5)=true:=by kernel_rfl
theorem closed4:(Rows.stateClonesRow.unfollowed==Tryz.pinned.checked.prog.unfollowed 5)=true:=by kernel_rfl
theorem closed5:(Rows.stateClonesRow.recurses==Tryz.pinned.checked.prog.recurses 5)=true:=by kernel_rfl
theorem closed6:(Rows.stateClonesRow.named==Tryz.pinned.checked.prog.varsNamed 5)=true:=by kernel_rfl
theorem closed:joinedFacts Tryz.pinned.checked.prog 5 Tryz.f5 Rows.stateClonesSpec Rows.stateClonesRow=true:=by
 unfold joinedFacts
 rw[closed1,closed2,closed3,closed4,closed5,closed6]
 kernel_rfl
end stateClones
end Go.Proofs.YtlafbakoefcifaaGreat
