/- What is proved: what functions of this program answer, by the evaluator. No condition. -/
import Derived.Test.YtdnmhlfjafjkbaaGreatDoorTq3
import Derived.Test.YtdnmhlfjafjkbaaGreatDoorLib
set_option linter.all false
set_option linter.all false
namespace Go.Proofs.YtdnmhlfjafjkbaaGreatDoor.Vm
open Go Go.Ev
theorem libOk:LibOk Tryz.prog G L:=⟨fnsOk,zhx rfl ⟨_,Tryz.func192,rfl,by decide⟩ (fun w Bs sv zs h1 h2 h3=>Sq.appendSeq_values w Bs sv zs h1 h2 h3)⟩
end Go.Proofs.YtdnmhlfjafjkbaaGreatDoor.Vm
