/- What is proved: what functions of this program answer, by the evaluator. No condition. -/
import Derived.Test.YtdnjagnechibhaaGreatDoorRows
import Derived.JoinedOf
import Derived.KernelRfl
set_option linter.all false
set_option linter.all false
namespace Go.Proofs.YtdnjagnechibhaaGreatDoor.topYears
open Go
set_option maxRecDepth 100001

theorem rf1 : (Rows.topYearsRow.inPlace == Tryz.pinned.checked.prog.inPlace 9) = true := by kernel_rfl
theorem rf2 : (Rows.topYearsRow.unfollowed == Tryz.pinned.checked.prog.unfollowed 9) = true := by kernel_rfl
end Go.Proofs.YtdnjagnechibhaaGreatDoor.topYears
