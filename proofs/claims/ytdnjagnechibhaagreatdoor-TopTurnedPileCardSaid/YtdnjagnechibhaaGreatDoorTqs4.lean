/- What is proved: what functions of this program answer, by the evaluator. No condition. -/
import Derived.Test.YtdnjagnechibhaaGreatDoorTqs3
set_option linter.all false
namespace Go.Proofs.YtdnjagnechibhaaGreatDoor.Sb
open Go Go.RowKit Go.Shelf Go.Ev Go.Proofs
attribute [local go_sem] Oper.semAt_some
set_option linter.all false

def trn (l : List (Int × Int)) : List (Int × Int) := (l.map fun p => (p.2, p.1)).reverse
theorem trn_take (l : List (Int × Int)) (k : Nat) (h : k < l.length) : (trn l).take (k + 1) = (trn l).take k ++ [((l[l.length - 1 - k]'(by omega)).2, (l[l.length - 1 - k]'(by omega)).1)] := by
  have hk : k < (trn l).length := by simpa [trn] using h
  rw [List.take_succ_eq_append_getElem hk]
  congr 2
  simp [trn]
set_option maxRecDepth 100001 in
set_option maxHeartbeats 8000000 in
theorem turn_in (F : Fence) (n : Nat) (h28 : F.fn 28) (h76 : F.fn 76) (h135 : F.fn 135) (h75 : F.fn 75) (hro : F.round = none) (hn : 3 ≤ n) (w : World) (b off cap : Nat) (l : List (Int × Int)) (hl : l.length ≤ 1000) (hb : b < w.heap.size)
    (hc : ∀ j (h : j < l.length), w.cell? ⟨b, off + j * 2, none⟩ = some (ci l[j].1) ∧ w.cell? ⟨b, off + j * 2 + 1, none⟩ = some (ci l[j].2))
    (hchk : CallsIn F (n - 1) Tryz.prog 75 #[.slice (some ⟨b, off, none⟩) l.length cap] w fun e w' => e = .returned (ci 0) ∧ Below w.heap.size w w') :
    CallsIn F n Tryz.prog 28 #[.slice (some ⟨b, off, none⟩) l.length cap] w fun e w' => ∃ v, e = .returned (.tuple #[v, ci 0]) ∧ (∃ w1, w.heap.size ≤ w1 ∧ w'.ownsRow w1 120 2 v l.length (prs (trn l))) ∧ (v = .slice none 0 0 ↔ l = []) ∧ Below w.heap.size w w' := by
  refine callsIn_of_wp_marks Tryz.func28 rfl h28 ?_ hro
  simp only [Tryz.ntmps28, List.size_toArray, List.length_cons, List.length_nil, Nat.reduceAdd, Nat.reduceSub, Array.replicate_succ, Array.replicate_zero, List.push_toArray, List.append_toArray, List.nil_append, List.cons_append]
  gi_wp2
  refine ⟨fun _ => by omega, hchk.mono ?_⟩
  rintro e W ⟨rfl, hbW⟩
  gi_wp2
  refine ⟨fun _ => by omega, (back0 F (n - 1) h76 hro ⟨b, off, none⟩ l.length cap _).mono ?_⟩
  rintro e W' ⟨rfl, rfl⟩
  gi_wp2
  refine wpIn_rangeFunc ?_
  intro fn hfn
  rw [hro]
  obtain ⟨W0, hW0⟩ : ∃ W0, (W.alloc (.cells #[.slice none 0 0] 55)).alloc (.cells #[.slice (some ⟨b, off, none⟩) l.length cap] 55) = W0 := ⟨_, rfl⟩
  have hs0 : W0.heap.size = W.heap.size + 1 + 1 := by rw [← hW0]; simp
  have al : ∀ (V : World) (o : Obj) {j : Nat} {x : Obj}, V.heap[j]? = some x → (V.alloc o).heap[j]? = some x := fun V o j x h => (Below.heap_alloc V o j (Array.getElem?_eq_some_iff.1 h).1).trans h
  have nw : ∀ (V : World) (o : Obj) {j : Nat}, V.heap.size = j → (V.alloc o).heap[j]? = some o := fun V o j h => by subst h; exact World.alloc_heap_new V o
  have hv0 : W0.heap[W.heap.size]? = some (.cells #[.slice none 0 0] 55 (0, 0)) := by rw [← hW0]; exact al _ _ (nw _ _ rfl)
  have hC0 : W0.heap[W.heap.size + 1]? = some (.cells #[.slice (some ⟨b, off, none⟩) l.length cap] 55 (0, 0)) := by rw [← hW0]; exact nw _ _ (by simp)
  have hb0 : Below W.heap.size W W0 := by
    rw [← hW0]
    exact ((Below.refl _ W).alloc (Nat.le_refl _) _).alloc (by simp) _
  have hsz1 : (W.alloc (.cells #[.slice none 0 0] 55)).heap.size = W.heap.size + 1 := by simp
  have hbW' : b < W.heap.size := Nat.lt_of_lt_of_le hb hbW.size
  obtain ⟨sv, hsv⟩ : ∃ sv, Value.slice (some ⟨b, off, none⟩) l.length cap = sv := ⟨_, rfl⟩
  obtain ⟨fv, hfv⟩ : ∃ fv, Value.func (.func 135) #[] #[.pointer (some ⟨W.heap.size + 1, 0, none⟩)] = fv := ⟨_, rfl⟩
  obtain ⟨W1, hW1⟩ : ∃ W1, (W0.alloc (.deferred (some []))).alloc (.loop (tnRec fn sv fv W.heap.size W0.heap.size .ready none)) = W1 := ⟨_, rfl⟩
  have hold : ∀ {j : Nat} {x : Obj}, W0.heap[j]? = some x → W1.heap[j]? = some x := fun h => by rw [← hW1]; exact al _ _ (al _ _ h)
  have hb1 : Below W.heap.size W W1 := by rw [← hW1]; exact (hb0.alloc hb0.size _).alloc (by have := hb0.size; simp; omega) _
  have hM : TnAt W fn sv fv W.heap.size (W.heap.size + 1) (W0.heap.size + 1) W0.heap.size [] W1 :=
    ⟨⟨_, hold hv0, World.ownsRow_nil _ _ _ _, by simp⟩, by rw [← hsv]; exact hold hC0, by rw [← hW1]; exact nw _ _ (by simp), by rw [← hW1]; exact al _ _ (nw _ _ rfl), hb1⟩
  have htl : (trn l).length = l.length := by simp [trn]
  rw [hsz1] at *
  rw [hfv]
  refine ⟨W0.heap.size + 1, [{ target := .collected W0.heap.size, args := #[] }], W1, { target := .fn (.func 135) #[.pointer (some ⟨W.heap.size + 1, 0, none⟩)], args := #[.func (.yield (W0.heap.size + 1)) #[] #[]] }, W1, 135,
    #[.func (.yield (W0.heap.size + 1)) #[] #[]] ++ #[.pointer (some ⟨W.heap.size + 1, 0, none⟩)], W1, ?_, ?_, ?_, ?_, fun _ => by omega, ?_⟩
  · rw [← hW1, ← hW0, ← hsv]; exact run_enterLoop_outer _ _ _ _ _
  · rw [← hfv]; simp [resolve, go_sem]
  · intro f' hf'; simp [Target.leads] at hf'; subst hf'; exact h135
  · simp [invoke, go_sem, callFunc, Tryz.func135, Tryz.f135]
  · have hcc : ∀ j, j < l.length → W1.cell? ⟨b, off + j * 2, none⟩ = some (ci ((fun j => (l.getD j (0, 0)).1) j)) ∧ W1.cell? ⟨b, off + j * 2 + 1, none⟩ = some (ci ((fun j => (l.getD j (0, 0)).2) j)) := fun j hj => by
      have hg : l.getD j (0, 0) = l[j] := by simp [List.getD_eq_getElem?_getD, hj]
      dsimp only
      rw [hg]
      exact ⟨((hb1.cell (p := ⟨b, off + j * 2, none⟩) hbW').trans (hbW.cell (p := ⟨b, off + j * 2, none⟩) hb)).trans (hc j hj).1, ((hb1.cell (p := ⟨b, off + j * 2 + 1, none⟩) hbW').trans (hbW.cell (p := ⟨b, off + j * 2 + 1, none⟩) hb)).trans (hc j hj).2⟩
    have hback := back1 F (n - 1) h135 hro (by omega) (W0.heap.size + 1) (W.heap.size + 1) W.heap.size b off l.length cap (fun j => (l.getD j (0, 0)).1) (fun j => (l.getD j (0, 0)).2) hl hbW'
      (fun k W2 => TnAt W fn sv fv W.heap.size (W.heap.size + 1) (W0.heap.size + 1) W0.heap.size ((trn l).take k) W2)
      (fun k W2 h => by rw [(cell_of_box h.C).1, hsv]) (fun k W2 W3 h hg => tn_abides _ _ _ _ _ _ _ _ _ _ _ h hg) (fun k W2 h => h.below.size) (fun k W2 h hk => by
        have hg : l.getD (l.length - 1 - k) (0, 0) = l[l.length - 1 - k]'(by omega) := by rw [List.getD_eq_getElem?_getD, List.getElem?_eq_getElem (by omega)]; rfl
        have := tnYield F (n - 1 - 1) W fn hfn sv fv W.heap.size (W.heap.size + 1) (W0.heap.size + 1) W0.heap.size (by omega) (by omega) (by omega) (by omega) (by omega) (Nat.le_refl _) (by omega) (l.length + 0) (by omega) ((trn l).take k) ((l.length : Int) - 1 - k) (l[l.length - 1 - k]'(by omega)).1 (l[l.length - 1 - k]'(by omega)).2 W2 h (by rw [List.length_take, htl]; omega)
        rw [hg, trn_take l k hk]
        exact this) W1 hcc hM
    refine hback.mono ?_
    rintro e W2 ⟨⟨v0, rfl⟩, h2⟩
    rw [List.take_of_length_le (by omega)] at h2
    obtain ⟨v, hv, hrow, hnil⟩ := h2.box
    have hend := run_endLoop (P := Tryz.prog) h2.L (by simp [tnRec])
    obtain ⟨W3, hW3⟩ : ∃ W3, W2.putObj (W0.heap.size + 1) (.loop { tnRec fn sv fv W.heap.size W0.heap.size .ready none with state := .exhausted }) = W3 := ⟨_, rfl⟩
    rw [hW3] at hend
    have hg3 : W2.grownBy W3 (some (W0.heap.size + 1)) := by rw [← hW3]; exact grownBy_putObj _ _ _
    have hv3 : W3.heap[W.heap.size]? = some (.cells #[v] 55 (0, 0)) := by rw [← hW3]; exact (World.putObj_heap_other (by omega)).trans hv
    have hK3 : W3.heap[W0.heap.size]? = some (.deferred (some [])) := by rw [← hW3]; exact (World.putObj_heap_other (by omega)).trans h2.K
    have hrow3 := hrow.kept hg3 (row_ne hrow h2.L (fun cur e => by cases e))
    have hb3 : Below W.heap.size W W3 := h2.below.grown hg3 h2.below.size (fun k e => by cases e; omega)
    obtain ⟨hc3, hf3⟩ := cell_of_box hv3
    clear hW3
    refine ⟨none, W3, hend, ?_⟩
    gi_wp2
    rw [← hs0]
    refine ⟨by simp, .inl ⟨_, _, rfl, run_takeDeferred hK3, ?_⟩⟩
    refine ⟨_, results_tmp2 rfl _ _ _, v, rfl, ⟨W.heap.size, hbW.size, ?_⟩, ?_, ?_⟩
    · have := hrow3.kept (grownBy_putObj W3 W0.heap.size (.deferred none)) (row_ne hrow3 hK3 (fun cur e => by cases e))
      rwa [htl] at this
    · rw [hnil]
      constructor
      · intro e; exact List.eq_nil_of_length_eq_zero (by rw [← htl, e]; rfl)
      · intro e; rw [e]; rfl
    · exact hbW.trans ((hb3.grown (grownBy_putObj _ _ _) hb3.size (fun k e => by cases e; omega)).mono hbW.size)
theorem turn (w : World) (b off cap : Nat) (l : List (Int × Int)) (hl : l.length ≤ 1000) (hb : b < w.heap.size)
    (hc : ∀ j (h : j < l.length), w.cell? ⟨b, off + j * 2, none⟩ = some (ci l[j].1) ∧ w.cell? ⟨b, off + j * 2 + 1, none⟩ = some (ci l[j].2))
    (hchk : Calls Tryz.prog 75 #[.slice (some ⟨b, off, none⟩) l.length cap] w fun e w' => e = .returned (ci 0) ∧ Below w.heap.size w w') :
    Calls Tryz.prog 28 #[.slice (some ⟨b, off, none⟩) l.length cap] w fun e w' => ∃ v, e = .returned (.tuple #[v, ci 0]) ∧ (∃ w1, w.heap.size ≤ w1 ∧ w'.ownsRow w1 120 2 v l.length (prs (trn l))) ∧ (v = .slice none 0 0 ↔ l = []) ∧ Below w.heap.size w w' := by
  rw [← callsIn_wide (n := 3)]
  rw [← callsIn_wide (n := 2)] at hchk
  exact turn_in Fence.wide 3 trivial trivial trivial trivial rfl (by omega) w b off cap l hl hb hc hchk
end Go.Proofs.YtdnjagnechibhaaGreatDoor.Sb
