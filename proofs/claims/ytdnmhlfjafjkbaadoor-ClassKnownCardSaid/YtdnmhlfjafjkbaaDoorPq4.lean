/- What is proved: the library of the evaluator is the program's. No condition. -/
import Derived.Test.YtdnmhlfjafjkbaaDoorPq3
import Derived.Test.YtdnmhlfjafjkbaaDoorLib
set_option linter.all false
namespace Go.Proofs.YtdnmhlfjafjkbaaDoor.Vm
open Go Go.Ev
theorem libOk : LibOk Tryd.prog G L := ⟨fnsOk, primSeq_ok rfl ⟨_, Tryd.func87, rfl, by decide⟩ (fun w Bs sv zs h1 h2 h3 => Sq.appendSeq_values w Bs sv zs h1 h2 h3)⟩
end Go.Proofs.YtdnmhlfjafjkbaaDoor.Vm
