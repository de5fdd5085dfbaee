/- What is proved: what functions of this program answer, by the evaluator. No condition. -/
import Derived.Test.YtdnjagnechibhaaGreatDoorTq5
set_option linter.all false
namespace Go.Proofs.YtdnjagnechibhaaGreatDoor.Sq
open Go Go.RowKit Go.Shelf Go.Ev Go.Proofs
attribute [local go_sem] Oper.semAt_some
attribute [local go_sem] mk2
set_option linter.all false

set_option maxRecDepth 100001 in
set_option maxHeartbeats 8000000 in
/-- The payment by greatest coins, of one penny and another coin. -/
theorem great_in (F : Fence) (n : Nat) (h11 : F.fn 108) (h159 : F.fn 159) (h195 : F.fn 195) (hro : F.round = none) (hn : 3 ≤ n) (w : World) (b off cap : Nat) (k m : Int) (hk : 2 ≤ k ∧ k ≤ 1000) (hm : 0 ≤ m ∧ m ≤ 1000) (hb : b < w.heap.size) (hc0 : w.cell? ⟨b, off, none⟩ = some (ci 1)) (hc1 : w.cell? ⟨b, off + 1, none⟩ = some (ci k)) :
    CallsIn F n Tryz.prog 108 #[.slice (some ⟨b, off, none⟩) 2 cap, ci m] w fun e w' => ∃ g, e = .returned (.tuple #[.slice (some ⟨g, 0, none⟩) 2 2, ci (m / k + m % k)]) ∧ w.heap.size ≤ g ∧ w'.heap[g]? = some (.cells #[ci (m % k), ci (m / k)] 3 (0, 0)) ∧ Below w.heap.size w w' := by
  refine callsIn_of_wp_marks Tryz.func108 rfl h11 ?_ hro
  have hmix : Tryz.prog.follows .mixedOrders = true := mixG
  simp only [Tryz.ntmps108, List.size_toArray, List.length_cons, List.length_nil, Nat.reduceAdd, Nat.reduceSub, Array.replicate_succ, Array.replicate_zero, List.push_toArray, List.append_toArray, List.nil_append, List.cons_append]
  gi_wp2
  refine ⟨fun _ => by omega, (back0 F (n - 1) h159 hro ⟨b, off, none⟩ 2 cap _).mono ?_⟩
  rintro e W' ⟨rfl, rfl⟩
  gi_wp2
  refine wpIn_rangeFunc ?_
  intro fn hfn
  rw [hro]
  obtain ⟨W0, hW0⟩ : ∃ W0, ((((w.alloc (.cells #[ci m] 3)).alloc (.cells #[.int .i64 0, .int .i64 0] 3)).alloc (.cells #[.slice (some ⟨w.heap.size + 1, 0, none⟩) 2 2] 24)).alloc (.cells #[.int .i64 0] 3)).alloc (.cells #[.slice (some ⟨b, off, none⟩) 2 cap] 24) = W0 := ⟨_, rfl⟩
  have hs0 : W0.heap.size = w.heap.size + 1 + 1 + 1 + 1 + 1 := by rw [← hW0]; simp
  have al : ∀ (V : World) (o : Obj) {j : Nat} {x : Obj}, V.heap[j]? = some x → (V.alloc o).heap[j]? = some x := fun V o j x h => (Below.heap_alloc V o j (Array.getElem?_eq_some_iff.1 h).1).trans h
  have nw : ∀ (V : World) (o : Obj) {j : Nat}, V.heap.size = j → (V.alloc o).heap[j]? = some o := fun V o j h => by subst h; exact World.alloc_heap_new V o
  have hS0 : W0.heap[w.heap.size]? = some (.cells #[ci m] 3 (0, 0)) := by rw [← hW0]; exact al _ _ (al _ _ (al _ _ (al _ _ (nw _ _ rfl))))
  have hR0 : W0.heap[w.heap.size + 1]? = some (.cells #[ci 0, ci 0] 3 (0, 0)) := by rw [← hW0]; exact al _ _ (al _ _ (al _ _ (nw _ _ (by simp))))
  have hO0 : W0.heap[w.heap.size + 1 + 1]? = some (.cells #[.slice (some ⟨w.heap.size + 1, 0, none⟩) 2 2] 24 (0, 0)) := by rw [← hW0]; exact al _ _ (al _ _ (nw _ _ (by simp)))
  have hN0 : W0.heap[w.heap.size + 1 + 1 + 1]? = some (.cells #[ci 0] 3 (0, 0)) := by rw [← hW0]; exact al _ _ (nw _ _ (by simp))
  have hB0 : W0.heap[w.heap.size + 1 + 1 + 1 + 1]? = some (.cells #[.slice (some ⟨b, off, none⟩) 2 cap] 24 (0, 0)) := by rw [← hW0]; exact nw _ _ (by simp)
  have hb0 : Below w.heap.size w W0 := by
    rw [← hW0]
    exact (((((Below.refl _ w).alloc (Nat.le_refl _) _).alloc (by simp) _).alloc (by simp; omega) _).alloc (by simp; omega) _).alloc (by simp; omega) _
  have hsz5 : ((((w.alloc (.cells #[ci m] 3)).alloc (.cells #[.int .i64 0, .int .i64 0] 3)).alloc (.cells #[.slice (some ⟨w.heap.size + 1, 0, none⟩) 2 2] 24)).alloc (.cells #[.int .i64 0] 3)).heap.size = w.heap.size + 1 + 1 + 1 + 1 := by simp
  obtain ⟨W1, hW1⟩ : ∃ W1, (W0.alloc (.deferred (some []))).alloc (.loop (grRec fn w.heap.size (.slice (some ⟨b, off, none⟩) 2 cap) m (.func (.func 195) #[] #[.pointer (some ⟨w.heap.size + 1 + 1 + 1 + 1, 0, none⟩)]) W0.heap.size .ready none)) = W1 := ⟨_, rfl⟩
  have hold : ∀ {j : Nat} {x : Obj}, W0.heap[j]? = some x → W1.heap[j]? = some x := fun h => by rw [← hW1]; exact al _ _ (al _ _ h)
  have hb1 : Below w.heap.size w W1 := by rw [← hW1]; exact (hb0.alloc hb0.size _).alloc (by have := hb0.size; simp; omega) _
  have hM : GrAt w fn (.slice (some ⟨b, off, none⟩) 2 cap) m (.func (.func 195) #[] #[.pointer (some ⟨w.heap.size + 1 + 1 + 1 + 1, 0, none⟩)]) (W0.heap.size + 1) W0.heap.size m 0 0 0 W1 :=
    ⟨hold hS0, hold hR0, hold hO0, hold hN0, hold hB0, by rw [← hW1]; exact nw _ _ (by simp), by rw [← hW1]; exact al _ _ (nw _ _ rfl), hb1⟩
  have hmk : 0 ≤ m % k ∧ m % k < k := ⟨Int.emod_nonneg _ (by omega), Int.emod_lt_of_pos _ (by omega)⟩
  have hdk : 0 ≤ m / k ∧ m / k ≤ m := ⟨Int.ediv_nonneg hm.1 (by omega), Int.ediv_le_self _ hm.1⟩
  let J : Nat → World → Prop := fun j W => match j with
    | 0 => GrAt w fn (.slice (some ⟨b, off, none⟩) 2 cap) m (.func (.func 195) #[] #[.pointer (some ⟨w.heap.size + 1 + 1 + 1 + 1, 0, none⟩)]) (W0.heap.size + 1) W0.heap.size m 0 0 0 W
    | 1 => GrAt w fn (.slice (some ⟨b, off, none⟩) 2 cap) m (.func (.func 195) #[] #[.pointer (some ⟨w.heap.size + 1 + 1 + 1 + 1, 0, none⟩)]) (W0.heap.size + 1) W0.heap.size (m % k) 0 (m / k) (0 + m / k) W
    | _ => GrAt w fn (.slice (some ⟨b, off, none⟩) 2 cap) m (.func (.func 195) #[] #[.pointer (some ⟨w.heap.size + 1 + 1 + 1 + 1, 0, none⟩)]) (W0.heap.size + 1) W0.heap.size (m % k % 1) (m % k / 1) (m / k) (0 + m / k + m % k / 1) W
  have hJa : ∀ j W W', J j W → W.grownBy W' none → J j W' := fun j W W' h hg => by
    match j, h with
    | 0, h => exact gr_abides _ _ _ _ _ _ _ _ _ _ _ _ _ h hg
    | 1, h => exact gr_abides _ _ _ _ _ _ _ _ _ _ _ _ _ h hg
    | j + 2, h => exact gr_abides _ _ _ _ _ _ _ _ _ _ _ _ _ h hg
  have hJs : ∀ j W, J j W → w.heap.size ≤ W.heap.size := fun j W h => by
    match j, h with
    | 0, h => exact h.below.size
    | 1, h => exact h.below.size
    | j + 2, h => exact h.below.size
  have hJB : ∀ j W, J j W → W.cell? ⟨w.heap.size + 1 + 1 + 1 + 1, 0, none⟩ = some (.slice (some ⟨b, off, none⟩) 2 cap) := fun j W h => by
    match j, h with
    | 0, h => exact (cell_of_row2 h.B 0 (by simp)).1
    | 1, h => exact (cell_of_row2 h.B 0 (by simp)).1
    | j + 2, h => exact (cell_of_row2 h.B 0 (by simp)).1
  refine ⟨W0.heap.size + 1, [{ target := .collected W0.heap.size, args := #[] }], W1, { target := .fn (.func 195) #[.pointer (some ⟨w.heap.size + 1 + 1 + 1 + 1, 0, none⟩)], args := #[.func (.yield (W0.heap.size + 1)) #[] #[]] }, W1, 195,
    #[.func (.yield (W0.heap.size + 1)) #[] #[]] ++ #[.pointer (some ⟨w.heap.size + 1 + 1 + 1 + 1, 0, none⟩)], W1, ?_, ?_, ?_, ?_, fun _ => by omega, ?_⟩
  · rw [← hW1, ← hW0]; exact run_enterLoop_outer _ _ _ _ _
  · simp [resolve, go_sem]
  · intro f' hf'; simp [Target.leads] at hf'; subst hf'; exact h195
  · simp [invoke, go_sem, callFunc, Tryz.func195, Tryz.f195]
  · have hcc : ∀ j, j < 2 → W1.cell? ⟨b, off + j, none⟩ = some (ci ((fun j => if j = 0 then 1 else k) j)) := fun j hj => by
      rcases (show j = 0 ∨ j = 1 by omega) with rfl | rfl
      · exact (hb1.cell (p := ⟨b, off + 0, none⟩) hb).trans hc0
      · exact (hb1.cell (p := ⟨b, off + 1, none⟩) hb).trans hc1
    have hback := back1 F (n - 1) h195 hro (by omega) (W0.heap.size + 1) (w.heap.size + 1 + 1 + 1 + 1) w.heap.size b off 2 cap (fun j => if j = 0 then 1 else k) (by omega) hb J hJB hJa hJs (fun j W h hj => by
      rcases (show j = 0 ∨ j = 1 by omega) with rfl | rfl
      · exact grYield F (n - 1 - 1) w fn hfn _ m _ _ _ (by omega) (by omega) (by omega) m 0 0 0 hm (by omega) 1 (by omega) k (by omega) W h
      · exact grYield F (n - 1 - 1) w fn hfn _ m _ _ _ (by omega) (by omega) (by omega) (m % k) 0 (m / k) (0 + m / k) (by omega) (by omega) 0 (by omega) 1 (by omega) W h) W1 hcc hM
    refine hback.mono ?_
    rintro e W2 ⟨⟨v0, rfl⟩, h2⟩
    have h2 : GrAt w fn (.slice (some ⟨b, off, none⟩) 2 cap) m (.func (.func 195) #[] #[.pointer (some ⟨w.heap.size + 1 + 1 + 1 + 1, 0, none⟩)]) (W0.heap.size + 1) W0.heap.size (m % k % 1) (m % k / 1) (m / k) (0 + m / k + m % k / 1) W2 := h2
    have hend := run_endLoop (P := Tryz.prog) h2.L (by simp [grRec])
    obtain ⟨W3, hW3⟩ : ∃ W3, W2.putObj (W0.heap.size + 1) (.loop { grRec fn w.heap.size (.slice (some ⟨b, off, none⟩) 2 cap) m (.func (.func 195) #[] #[.pointer (some ⟨w.heap.size + 1 + 1 + 1 + 1, 0, none⟩)]) W0.heap.size .ready none with state := .exhausted }) = W3 := ⟨_, rfl⟩
    rw [hW3] at hend
    have hg3 : W2.grownBy W3 (some (W0.heap.size + 1)) := by rw [← hW3]; exact grownBy_putObj _ _ _
    have pt : ∀ {j : Nat} {o : Obj}, j ≠ W0.heap.size + 1 → W2.heap[j]? = some o → W3.heap[j]? = some o := fun hj ho => by rw [← hW3]; exact (World.putObj_heap_other hj).trans ho
    have hR3 := pt (by omega) h2.R
    have hO3 := pt (by omega) h2.O
    have hN3 := pt (by omega) h2.N
    have hK3 := pt (by omega) h2.K
    have hb3 : Below w.heap.size w W3 := h2.below.grown hg3 h2.below.size (fun k e => by cases e; omega)
    obtain ⟨cO, fO⟩ := cell_of_row2 hO3 0 (by simp)
    obtain ⟨cN, fN⟩ := cell_of_row2 hN3 0 (by simp)
    clear hW3
    refine ⟨none, W3, hend, ?_⟩
    gi_wp2
    gi_region
    all_goals gi_wp2
    all_goals
      rw [← hs0]
      have hK4 : W3.drew.heap[W0.heap.size]? = some (.deferred (some [])) := hK3
      refine ⟨by simp, .inl ⟨_, _, rfl, run_takeDeferred hK4, ?_⟩⟩
      refine ⟨_, results_tmp2 rfl _ _ _, w.heap.size + 1, rfl, by omega, ?_, hb3.drew.grown (grownBy_putObj _ _ _) hb3.size (fun k e => by cases e; omega)⟩
      rw [World.putObj_heap_other (by omega), drew_heap]
      simpa using hR3
theorem great (w : World) (b off cap : Nat) (k m : Int) (hk : 2 ≤ k ∧ k ≤ 1000) (hm : 0 ≤ m ∧ m ≤ 1000) (hb : b < w.heap.size) (hc0 : w.cell? ⟨b, off, none⟩ = some (ci 1)) (hc1 : w.cell? ⟨b, off + 1, none⟩ = some (ci k)) :
    Calls Tryz.prog 108 #[.slice (some ⟨b, off, none⟩) 2 cap, ci m] w fun e w' => ∃ g, e = .returned (.tuple #[.slice (some ⟨g, 0, none⟩) 2 2, ci (m / k + m % k)]) ∧ w.heap.size ≤ g ∧ w'.heap[g]? = some (.cells #[ci (m % k), ci (m / k)] 3 (0, 0)) ∧ Below w.heap.size w w' := by
  rw [← callsIn_wide (n := 3)]
  exact great_in Fence.wide 3 trivial trivial trivial rfl (by omega) w b off cap k m hk hm hb hc0 hc1
end Go.Proofs.YtdnjagnechibhaaGreatDoor.Sq
