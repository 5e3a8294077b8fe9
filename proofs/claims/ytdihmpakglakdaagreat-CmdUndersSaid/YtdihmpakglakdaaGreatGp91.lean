/-
  CmdUnders: closed facts of the program and the row. No condition.
-/
import Derived.Test.YtdihmpakglakdaaGreatRows
import Derived.JoinedOf
set_option linter.unusedVariables false
set_option linter.unusedSimpArgs false
namespace Go.Proofs.YtdihmpakglakdaaGreat
namespace cmdUnders
theorem closed1:laidOutB Tryz.pinned.checked.prog=true:=by kernel_rfl
theorem closed2:mapsRowed Tryz.pinned.checked.prog=true:=by kernel_rfl
theorem closed3:(Rows.cmdUndersRow.inPlace==Tryz.pinned.checked.prog.inPlace 11)=true:=by kernel_rfl
theorem closed4:(Rows.cmdUndersRow.unfollowed==Tryz.pinned.checked.prog.unfollowed 11)=true:=by kernel_rfl
theorem closed5:(Rows.cmdUndersRow.recurses==Tryz.pinned.checked.prog.recurses 11)=true:=by kernel_rfl
theorem closed6:(Rows.cmdUndersRow.named==Tryz.pinned.checked.prog.varsNamed 11)=true:=by kernel_rfl
theorem closed:joinedFacts Tryz.pinned.checked.prog 11 Tryz.f11 Rows.cmdUndersSpec Rows.cmdUndersRow=true:=by
 unfold joinedFacts;rw[closed1,closed2,closed3,closed4,closed5,closed6]
 kernel_rfl
end cmdUnders
end Go.Proofs.YtdihmpakglakdaaGreat
