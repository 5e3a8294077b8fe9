/-
  StateChecks: closed facts of the program and the row. No condition.
-/
import Derived.Test.YtjbifjgeheigoaaGreatRows
import Derived.JoinedOf
namespace Go.Proofs.YtjbifjgeheigoaaGreat

namespace stateChecks
theorem closed1 : laidOutB Tryz.pinned.checked.prog = true := by kernel_rfl
theorem closed2 : mapsRowed Tryz.pinned.checked.prog = true := by kernel_rfl
theorem closed3 : (Rows.stateChecksRow.inPlace == Tryz.pinned.checked.prog.inPlace 4) = true := by kernel_rfl
theorem closed4 : (Rows.stateChecksRow.unfollowed == Tryz.pinned.checked.prog.unfollowed 4) = true := by kernel_rfl
theorem closed5 : (Rows.stateChecksRow.recurses == Tryz.pinned.checked.prog.recurses 4) = true := by kernel_rfl
theorem closed6 : (Rows.stateChecksRow.named == Tryz.pinned.checked.prog.varsNamed 4) = true := by kernel_rfl
theorem closed : joinedFacts Tryz.pinned.checked.prog 4 Tryz.f4 Rows.stateChecksSpec Rows.stateChecksRow = true := by
  unfold joinedFacts
  rw [closed1, closed2, closed3, closed4, closed5, closed6]
  kernel_rfl
end stateChecks
end Go.Proofs.YtjbifjgeheigoaaGreat
