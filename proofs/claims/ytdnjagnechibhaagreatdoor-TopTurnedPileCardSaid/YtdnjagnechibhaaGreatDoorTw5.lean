/- What is proved: what functions of this program answer, by the evaluator. No condition. -/
import Derived.Test.YtdnjagnechibhaaGreatDoorRows
import Derived.JoinedOf
import Derived.KernelRfl
set_option linter.all false
set_option linter.all false
namespace Go.Proofs.YtdnjagnechibhaaGreatDoor.topTurnedPile
open Go
set_option maxRecDepth 100001

theorem rf3 : (Rows.topTurnedPileRow.recurses == Tryz.pinned.checked.prog.recurses 5) = true := by kernel_rfl
theorem rf4 : (Rows.topTurnedPileRow.named == Tryz.pinned.checked.prog.varsNamed 5) = true := by kernel_rfl
end Go.Proofs.YtdnjagnechibhaaGreatDoor.topTurnedPile
