/- Words. -/
import Derived.Test.YtaecjmiobllhmaaGreatRows
import Derived.JoinedOf
set_option linter.unusedVariables false
set_option linter.unusedSimpArgs false
namespace Go.Proofs.YtaecjmiobllhmaaGreat
namespace auditTells
theorem closed1:laidOutB Tryz.pinned.checked.prog=true:=by kernel_rfl
theorem closed2:mapsRowed Tryz.pinned.checked.prog=true:=by kernel_rfl
theorem closed3:(Rows.auditTellsRow.inPlace==Tryz.pinned.checked.prog.inPlace 4)=true:=by kernel_rfl
theorem closed4:(Rows.auditTellsRow.unfollowed==Tryz.pinned.checked.prog.unfollowed 4)=true:=by kernel_rfl
theorem closed5:(Rows.auditTellsRow.recurses==Tryz.pinned.checked.prog.recurses 4)=true:=by kernel_rfl
theorem closed6:(Rows.auditTellsRow.named==Tryz.pinned.checked.prog.varsNamed 4)=true:=by kernel_rfl
theorem closed:joinedFacts Tryz.pinned.checked.prog 4 Tryz.f4 Rows.auditTellsSpec Rows.auditTellsRow=true:=by
 unfold joinedFacts;rw[closed1,closed2,closed3,closed4,closed5,closed6]
 kernel_rfl
end auditTells
end Go.Proofs.YtaecjmiobllhmaaGreat
