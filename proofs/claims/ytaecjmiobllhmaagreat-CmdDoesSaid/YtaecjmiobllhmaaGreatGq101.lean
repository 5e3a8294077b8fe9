/- Words. -/
import Derived.Test.YtaecjmiobllhmaaGreatRows
import Derived.JoinedOf
set_option linter.unusedVariables false
set_option linter.unusedSimpArgs false
namespace Go.Proofs.YtaecjmiobllhmaaGreat
namespace cmdDoes
theorem za:laidOutB Tryz.pinned.checked.prog=true:=by kernel_rfl
theorem zb:mapsRowed Tryz.pinned.checked.prog=true:=by kernel_rfl
theorem ze:(Rows.cmdDoesRow.inPlace==Tryz.pinned.checked.prog.inPlace 6)=true:=by kernel_rfl
theorem zf:(Rows.cmdDoesRow.unfollowed==Tryz.pinned.checked.prog.unfollowed 6)=true:=by kernel_rfl
theorem zg:(Rows.cmdDoesRow.recurses==Tryz.pinned.checked.prog.recurses 6)=true:=by kernel_rfl
theorem zh:(Rows.cmdDoesRow.named==Tryz.pinned.checked.prog.varsNamed 6)=true:=by kernel_rfl
theorem Dd:joinedFacts Tryz.pinned.checked.prog 6 Tryz.f6 Rows.cmdDoesSpec Rows.cmdDoesRow=true:=by
 unfold joinedFacts;rw[za,zb,ze,zf,zg,zh]
 kernel_rfl
end cmdDoes
end Go.Proofs.YtaecjmiobllhmaaGreat
