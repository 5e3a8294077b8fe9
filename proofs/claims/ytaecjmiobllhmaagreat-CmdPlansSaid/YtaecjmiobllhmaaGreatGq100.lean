/- Words. -/
import Derived.Test.YtaecjmiobllhmaaGreatRows
import Derived.JoinedOf
set_option linter.unusedVariables false
set_option linter.unusedSimpArgs false
namespace Go.Proofs.YtaecjmiobllhmaaGreat
namespace cmdPlans
theorem za:laidOutB Tryz.pinned.checked.prog=true:=by kernel_rfl
theorem zb:mapsRowed Tryz.pinned.checked.prog=true:=by kernel_rfl
theorem ze:(Rows.cmdPlansRow.inPlace==Tryz.pinned.checked.prog.inPlace 5)=true:=by kernel_rfl
theorem zf:(Rows.cmdPlansRow.unfollowed==Tryz.pinned.checked.prog.unfollowed 5)=true:=by kernel_rfl
theorem zg:(Rows.cmdPlansRow.recurses==Tryz.pinned.checked.prog.recurses 5)=true:=by kernel_rfl
theorem zh:(Rows.cmdPlansRow.named==Tryz.pinned.checked.prog.varsNamed 5)=true:=by kernel_rfl
theorem Dd:joinedFacts Tryz.pinned.checked.prog 5 Tryz.f5 Rows.cmdPlansSpec Rows.cmdPlansRow=true:=by
 unfold joinedFacts;rw[za,zb,ze,zf,zg,zh]
 kernel_rfl
end cmdPlans
end Go.Proofs.YtaecjmiobllhmaaGreat
