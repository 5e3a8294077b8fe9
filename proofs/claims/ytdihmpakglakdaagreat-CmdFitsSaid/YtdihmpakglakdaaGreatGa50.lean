/-
  CmdFits: closed facts of the program and the row. No condition.
-/
import Derived.Test.YtdihmpakglakdaaGreatRows
import Derived.JoinedOf
set_option linter.unusedVariables false
set_option linter.unusedSimpArgs false
namespace Go.Proofs.YtdihmpakglakdaaGreat
namespace cmdFits
theorem closed1:laidOutB Tryz.pinned.checked.prog=true:=by kernel_rfl
theorem closed2:mapsRowed Tryz.pinned.checked.prog=true:=by kernel_rfl
theorem closed3:(Rows.cmdFitsRow.inPlace==Tryz.pinned.checked.prog.inPlace 8)=true:=by kernel_rfl
theorem closed4:(Rows.cmdFitsRow.unfollowed==Tryz.pinned.checked.prog.unfollowed 8)=true:=by kernel_rfl
theorem closed5:(Rows.cmdFitsRow.recurses==Tryz.pinned.checked.prog.recurses 8)=true:=by kernel_rfl
theorem closed6:(Rows.cmdFitsRow.named==Tryz.pinned.checked.prog.varsNamed 8)=true:=by kernel_rfl
theorem closed:joinedFacts Tryz.pinned.checked.prog 8 Tryz.f8 Rows.cmdFitsSpec Rows.cmdFitsRow=true:=by
 unfold joinedFacts;rw[closed1,closed2,closed3,closed4,closed5,closed6]
 kernel_rfl
end cmdFits
end Go.Proofs.YtdihmpakglakdaaGreat
