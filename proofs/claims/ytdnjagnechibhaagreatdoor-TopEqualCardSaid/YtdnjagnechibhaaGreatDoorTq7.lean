/- What is proved: what functions of this program answer, by the evaluator. No condition. -/
import Derived.Test.YtdnjagnechibhaaGreatDoorTq6
import Derived.Test.YtdnjagnechibhaaGreatDoorLib
set_option linter.all false
set_option linter.all false
namespace Go.Proofs.YtdnjagnechibhaaGreatDoor.Vm
open Go Go.Ev
theorem libOk : LibOk Tryz.prog G L := ⟨fnsOk, primGreat_ok rfl ⟨_, Tryz.func108, rfl, by decide⟩ (fun w b off cap k m h1 h2 h3 h4 h5 => Sq.great w b off cap k m h1 h2 h3 h4 h5)⟩
end Go.Proofs.YtdnjagnechibhaaGreatDoor.Vm
