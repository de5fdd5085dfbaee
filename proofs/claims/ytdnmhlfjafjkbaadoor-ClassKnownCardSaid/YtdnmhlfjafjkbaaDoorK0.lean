/- What is proved: what ClassKnown answers, by the evaluator. No condition. -/
import Derived.Test.YtdnmhlfjafjkbaaDoorLib
import Derived.Test.YtdnmhlfjafjkbaaDoorSy
import Derived.KernelRfl
namespace Go.Proofs.YtdnmhlfjafjkbaaDoor.Vm
open Go Go.Ev
set_option linter.all false
set_option maxRecDepth 100000

/-- A function that is called with no state answers the same in each state. -/
theorem run_any {f : FuncId} {fn : IF} (hf : L.fns f = some fn) (hp : L.pure f = true) {args : List AV} {st0 st1 : St} {r : AV} (h : run L f args st0 = some (r, st1)) (st : St) : run L f args st = some (r, st) := by
  rw [run_pure hf hp] at h ⊢
  unfold leaveK at h ⊢
  split at h
  · simp only [leave, Option.some.injEq, Prod.mk.injEq] at h ⊢
    exact ⟨h.1, trivial⟩
  · simp at h
theorem c3 (st : St) : run L 3 [] st = some (.v (.bool true), st) :=
  run_any (fn := ir3) rfl rfl (callAV_run L 400 _ _ _ _ (show callAV L 400 3 [] ⟨[], []⟩ = some (.v (.bool true), ⟨[], []⟩) by kernel_rfl)) st
end Go.Proofs.YtdnmhlfjafjkbaaDoor.Vm
