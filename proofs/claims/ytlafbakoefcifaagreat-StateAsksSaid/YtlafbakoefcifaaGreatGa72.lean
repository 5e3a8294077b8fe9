/-
  StateAsks: closed facts of the program and the row. No condition.
-/
import Derived.Test.YtlafbakoefcifaaGreatRows
import Derived.JoinedOf
set_option linter.unusedVariables false
set_option linter.unusedSimpArgs false
namespace Go.Proofs.YtlafbakoefcifaaGreat
namespace stateAsks
theorem closed1:laidOutB Tryz.pinned.checked.prog=true:=by kernel_rfl
theorem closed2:mapsRowed Tryz.pinned.checked.prog=true:=by kernel_rfl
theorem closed3:(Rows.stateAsksRow.inPlace==Tryz.pinned.checked.prog.inPlace 6)=true:=by kernel_rfl
theorem closed4:(Rows.stateAsksRow.unfollowed==Tryz.pinned.checked.prog.unfollowed 6)=true:=by kernel_rfl
theorem closed5:(Rows.stateAsksRow.recurses==Tryz.pinned.checked.prog.recurses 6)=true:=by kernel_rfl
theorem closed6:(Rows.stateAsksRow.named==Tryz.pinned.checked.prog.varsNamed 6)=true:=by kernel_rfl
theorem closed:joinedFacts Tryz.pinned.checked.prog 6 Tryz.f6 Rows.stateAsksSpec Rows.stateAsksRow=true:=by
 unfold joinedFacts;rw[closed1,closed2,closed3,closed4,closed5,closed6]
 kernel_rfl
end stateAsks
end Go.Proofs.YtlafbakoefcifaaGreat
