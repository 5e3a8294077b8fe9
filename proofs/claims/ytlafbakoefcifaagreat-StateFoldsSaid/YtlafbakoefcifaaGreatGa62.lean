/-
  StateFolds: closed facts of the program and the row. No condition.
-/
import Derived.Test.YtlafbakoefcifaaGreatRows
import Derived.JoinedOf
set_option linter.unusedVariables false
set_option linter.unusedSimpArgs false
namespace Go.Proofs.YtlafbakoefcifaaGreat
namespace stateFolds
theorem closed1:laidOutB Tryz.pinned.checked.prog=true:=by kernel_rfl
theorem closed2:mapsRowed Tryz.pinned.checked.prog=true:=by kernel_rfl
theorem closed3:(Rows.stateFoldsRow.inPlace==Tryz.pinned.checked.prog.inPlace 3)=true:=by kernel_rfl
theorem closed4:(Rows.stateFoldsRow.unfollowed==Tryz.pinned.checked.prog.unfollowed 3)=true:=by kernel_rfl
theorem closed5:(Rows.stateFoldsRow.recurses==Tryz.pinned.checked.prog.recurses 3)=true:=by kernel_rfl
theorem closed6:(Rows.stateFoldsRow.named==Tryz.pinned.checked.prog.varsNamed 3)=true:=by kernel_rfl
theorem closed:joinedFacts Tryz.pinned.checked.prog 3 Tryz.f3 Rows.stateFoldsSpec Rows.stateFoldsRow=true:=by
 unfold joinedFacts
 rw[closed1,closed2,closed3,closed4,closed5,closed6]
 kernel_rfl
end stateFolds
end Go.Proofs.YtlafbakoefcifaaGreat
