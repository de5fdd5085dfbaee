/- What is proved: what functions of this program answer, by the evaluator. No condition. -/
import Derived.Test.YtdnjagnechibhaaGreatDoorRows
import Derived.JoinedOf
import Derived.KernelRfl
set_option linter.all false
set_option linter.all false
namespace Go.Proofs.YtdnjagnechibhaaGreatDoor.topTimes
open Go
set_option maxRecDepth 100001

theorem rf3 : (Rows.topTimesRow.recurses == Tryz.pinned.checked.prog.recurses 3) = true := by kernel_rfl
theorem rf4 : (Rows.topTimesRow.named == Tryz.pinned.checked.prog.varsNamed 3) = true := by kernel_rfl
end Go.Proofs.YtdnjagnechibhaaGreatDoor.topTimes
