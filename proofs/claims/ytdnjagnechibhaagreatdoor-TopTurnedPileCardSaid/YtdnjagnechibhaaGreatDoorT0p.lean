/- What is proved: what functions of this program answer, by the evaluator. No condition. -/
import Derived.Test.YtdnjagnechibhaaGreatDoorLib
import Derived.Test.YtdnjagnechibhaaGreatDoorSy
import Derived.KernelRfl
set_option linter.all false
namespace Go.Proofs.YtdnjagnechibhaaGreatDoor.Vm
open Go Go.Ev
set_option maxRecDepth 100001
/-- A function that is called with no state answers the same in each state. -/
theorem run_any {f : FuncId} {fn : IF} (hf : L.fns f = some fn) (hp : L.pure f = true) {args : List AV} {st0 st1 : St} {r : AV} (h : run L f args st0 = some (r, st1)) (st : St) : run L f args st = some (r, st) := by
  rw [run_pure hf hp] at h ⊢
  unfold leaveK at h ⊢
  split at h
  · simp only [leave, Option.some.injEq, Prod.mk.injEq] at h ⊢
    exact ⟨h.1, trivial⟩
  · simp at h
/-- The evaluator, when some functions without parameters are known to answer true. -/
def callO (o : List Nat) : Nat → CallF
  | 0 => fun _ _ _ => none
  | n + 1 => fun f args st => if o.elem f && args.isEmpty then some (.v (.bool true), st) else enterAV L (callO o n) (fun b => loopAV b n) f args st
theorem callO_run {o : List Nat} (ho : ∀ f, o.elem f = true → ∀ st, run L f [] st = some (.v (.bool true), st)) : ∀ n, CLe (callO o n) (run L)
  | 0 => fun f args st r h => by simp [callO] at h
  | n + 1 => fun f args st r h => by
    simp only [callO] at h
    split at h
    · next hc =>
      simp only [Bool.and_eq_true, List.isEmpty_iff] at hc
      obtain ⟨h1, rfl⟩ := hc
      simp only [Option.some.injEq] at h
      subst h
      exact ho f h1 st
    · rw [run_eq]
      exact enterAV_le (callO_run ho n) (loopAV_lim n) _ _ _ _ h
theorem c217 (st : St) : run L 217 [] st = some (.v (.bool true), st) :=
  run_any (fn := ir217) rfl rfl (callO_run (o := []) (fun f h => by simp at h) 300 _ _ _ _ (show callO [] 300 217 [] ⟨[], []⟩ = some (.v (.bool true), ⟨[], []⟩) by kernel_rfl)) st
theorem c180 (st : St) : run L 180 [] st = some (.v (.bool true), st) :=
  run_any (fn := ir180) rfl rfl (callO_run (o := [217]) (fun f h => by
    simp only [List.elem_eq_mem, List.mem_cons, List.not_mem_nil, or_false, decide_eq_true_eq] at h
    rcases h with rfl
    exact c217) 300 _ _ _ _ (show callO [217] 300 180 [] ⟨[], []⟩ = some (.v (.bool true), ⟨[], []⟩) by kernel_rfl)) st
theorem c141 (st : St) : run L 141 [] st = some (.v (.bool true), st) :=
  run_any (fn := ir141) rfl rfl (callO_run (o := [180]) (fun f h => by
    simp only [List.elem_eq_mem, List.mem_cons, List.not_mem_nil, or_false, decide_eq_true_eq] at h
    rcases h with rfl
    exact c180) 300 _ _ _ _ (show callO [180] 300 141 [] ⟨[], []⟩ = some (.v (.bool true), ⟨[], []⟩) by kernel_rfl)) st
theorem c140 (st : St) : run L 140 [] st = some (.v (.bool true), st) :=
  run_any (fn := ir140) rfl rfl (callO_run (o := [180]) (fun f h => by
    simp only [List.elem_eq_mem, List.mem_cons, List.not_mem_nil, or_false, decide_eq_true_eq] at h
    rcases h with rfl
    exact c180) 300 _ _ _ _ (show callO [180] 300 140 [] ⟨[], []⟩ = some (.v (.bool true), ⟨[], []⟩) by kernel_rfl)) st
theorem c80 (st : St) : run L 80 [] st = some (.v (.bool true), st) :=
  run_any (fn := ir80) rfl rfl (callO_run (o := [140]) (fun f h => by
    simp only [List.elem_eq_mem, List.mem_cons, List.not_mem_nil, or_false, decide_eq_true_eq] at h
    rcases h with rfl
    exact c140) 300 _ _ _ _ (show callO [140] 300 80 [] ⟨[], []⟩ = some (.v (.bool true), ⟨[], []⟩) by kernel_rfl)) st
theorem c81 (st : St) : run L 81 [] st = some (.v (.bool true), st) :=
  run_any (fn := ir81) rfl rfl (callO_run (o := [140, 141]) (fun f h => by
    simp only [List.elem_eq_mem, List.mem_cons, List.not_mem_nil, or_false, decide_eq_true_eq] at h
    rcases h with rfl | rfl
    · exact c140
    · exact c141) 300 _ _ _ _ (show callO [140, 141] 300 81 [] ⟨[], []⟩ = some (.v (.bool true), ⟨[], []⟩) by kernel_rfl)) st
theorem c30 (st : St) : run L 30 [] st = some (.v (.bool true), st) :=
  run_any (fn := ir30) rfl rfl (callO_run (o := [80, 81]) (fun f h => by
    simp only [List.elem_eq_mem, List.mem_cons, List.not_mem_nil, or_false, decide_eq_true_eq] at h
    rcases h with rfl | rfl
    · exact c80
    · exact c81) 300 _ _ _ _ (show callO [80, 81] 300 30 [] ⟨[], []⟩ = some (.v (.bool true), ⟨[], []⟩) by kernel_rfl)) st
end Go.Proofs.YtdnjagnechibhaaGreatDoor.Vm
