/-
  CmdAgain: closed facts of the program and the row. No condition.
-/
import Derived.Test.YtdihmpakglakdaaGreatRows
import Derived.JoinedOf
set_option linter.unusedVariables false
set_option linter.unusedSimpArgs false
namespace Go.Proofs.YtdihmpakglakdaaGreat
namespace cmdAgain
theorem closed1:laidOutB Tryz.pinned.checked.prog=true:=by kernel_rfl
theorem closed2:mapsRowed Tryz.pinned.checked.prog=true:=by kernel_rfl
theorem closed3:(Rows.cmdAgainRow.inPlace==Tryz.pinned.checked.prog.inPlace 10)=true:=by kernel_rfl
theorem closed4:(Rows.cmdAgainRow.unfollowed==Tryz.pinned.checked.prog.unfollowed 10)=true:=by kernel_rfl
theorem closed5:(Rows.cmdAgainRow.recurses==Tryz.pinned.checked.prog.recurses 10)=true:=by kernel_rfl
theorem closed6:(Rows.cmdAgainRow.named==Tryz.pinned.checked.prog.varsNamed 10)=true:=by kernel_rfl
theorem closed:joinedFacts Tryz.pinned.checked.prog 10 Tryz.f10 Rows.cmdAgainSpec Rows.cmdAgainRow=true:=by
 unfold joinedFacts;rw[closed1,closed2,closed3,closed4,closed5,closed6]
 kernel_rfl
end cmdAgain
end Go.Proofs.YtdihmpakglakdaaGreat
