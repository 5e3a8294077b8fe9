/- Words. -/
import Derived.Test.YtaecjmiobllhmaaGreatRows
import Derived.JoinedOf
set_option linter.unusedVariables false
set_option linter.unusedSimpArgs false
namespace Go.Proofs.YtaecjmiobllhmaaGreat
namespace auditChecks
theorem KJ:laidOutB Tryz.pinned.checked.prog=true:=by kernel_rfl
theorem KV:mapsRowed Tryz.pinned.checked.prog=true:=by kernel_rfl
theorem KX:(Rows.auditChecksRow.inPlace==Tryz.pinned.checked.prog.inPlace 3)=true:=by kernel_rfl
theorem KY:(Rows.auditChecksRow.unfollowed==Tryz.pinned.checked.prog.unfollowed 3)=true:=by kernel_rfl
theorem KZ:(Rows.auditChecksRow.recurses==Tryz.pinned.checked.prog.recurses 3)=true:=by kernel_rfl
theorem K5:(Rows.auditChecksRow.named==Tryz.pinned.checked.prog.varsNamed 3)=true:=by kernel_rfl
theorem Np:joinedFacts Tryz.pinned.checked.prog 3 Tryz.f3 Rows.auditChecksSpec Rows.auditChecksRow=true:=by
 unfold joinedFacts;rw[KJ,KV,KX,KY,KZ,K5]
 kernel_rfl
end auditChecks
end Go.Proofs.YtaecjmiobllhmaaGreat
