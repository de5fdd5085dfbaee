/- What is proved: what functions of this program answer, by the evaluator. No condition. -/
import Derived.Test.YtdnjagnechibhaaGreatDoorTqp0
import Derived.Test.YtdnjagnechibhaaGreatDoorTqs8
set_option linter.all false
namespace Go.Proofs.YtdnjagnechibhaaGreatDoor.Vm.Q
open Go Go.Ev Go.RowKit Go.Proofs.YtdnjagnechibhaaGreatDoor.Vm
set_option maxRecDepth 100001
theorem kept_gl {l : List (Nat × List Nat)} (h : l.all (fun x => decide (x.1 < glKey)) = true) (g : Nat) : kept l (glKey + g) = [] := by
  unfold kept
  cases hf : l.find? (fun x => x.1 == glKey + g) with
  | none => rfl
  | some x =>
    have hm := List.mem_of_find?_eq_some hf
    have he : x.1 = glKey + g := by simpa using List.find?_some hf
    have := (List.all_eq_true.1 h) x hm
    simp only [decide_eq_true_eq] at this
    omega
theorem comp75 : compF Tryz.prog Vm.pure (kept [(1, [13, 14, 15])]) 75 = some ir75 := by kernel_rfl
theorem comp74 : compF Tryz.prog Vm.pure (kept []) 74 = some ir74 := by kernel_rfl
theorem comp134 : compF Tryz.prog Vm.pure (kept [(0, [3, 4, 5]), (2, [3, 6, 61]), (4, [3, 6, 8]), (6, [3, 11, 12])]) 134 = some ir134 := by kernel_rfl
theorem fnsOk : FnsOk Tryz.prog (fun _ => []) L := by
  intro f fn h
  have h : fns f = some fn := h
  unfold fns at h
  split at h
  · next e => subst e; obtain rfl := Option.some.inj h; exact ⟨_, fun g hg => absurd (kept_gl (by rfl) g) hg, comp75⟩
  · split at h
    · next e => subst e; obtain rfl := Option.some.inj h; exact ⟨_, fun g hg => absurd (kept_gl (by rfl) g) hg, comp74⟩
    · split at h
      · next e => subst e; obtain rfl := Option.some.inj h; exact ⟨_, fun g hg => absurd (kept_gl (by rfl) g) hg, comp134⟩
      · simp at h
theorem libOk : LibOk Tryz.prog (fun _ => []) L := ⟨fnsOk, primOk_none fun _ _ _ => rfl⟩
theorem mixed : Tryz.prog.follows .mixedOrders = true := by kernel_rfl
theorem globs (us : Us) (w : World) : GlobOk (fun _ => []) us w := fun g hg => absurd rfl hg
theorem check {us : Us} {w : World} {K : Kx} {S : St} (hG : Go.Ev.Good us w K S) (l : List (Int × Int)) (h1 : 1 ≤ l.length) (h7 : l.length ≤ 7) (hl : SpOk l) (vs : Array Value) (hr : Rels us w K [spL l] vs.toList) :
    Calls Tryz.prog 75 vs w fun e w' => e = .returned (.int .i64 0) ∧ Below w.heap.size w w' := by
  obtain ⟨n, hn⟩ := (run_some L).1 (c75 l h1 h7 hl ⟨[], []⟩)
  obtain ⟨_, hc⟩ := callAV_ok mixed libOk n 75 _ _ _ _ hn us w K S S vs hG (globs us w) (by
    rw [if_pos (show L.pure 75 = true from rfl)]
    exact ⟨rfl, rfl, ⟨S.tips, rfl⟩, fun t _ h => by simp at h⟩) hr
  refine hc.mono fun e w' he => ?_
  obtain ⟨x, us', K', rfl, hx, hE, _, _, hp⟩ := he
  have := hx.v_inv
  subst this
  exact ⟨rfl, hE.os, hE.tape, hE.output, hE.size, hp rfl⟩
end Go.Proofs.YtdnjagnechibhaaGreatDoor.Vm.Q
