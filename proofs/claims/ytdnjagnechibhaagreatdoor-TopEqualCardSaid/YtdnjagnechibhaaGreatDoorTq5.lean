/- What is proved: what functions of this program answer, by the evaluator. No condition. -/
import Derived.Test.YtdnjagnechibhaaGreatDoorTq3
import Derived.Test.YtdnjagnechibhaaGreatDoorTq4
set_option linter.all false
namespace Go.Proofs.YtdnjagnechibhaaGreatDoor.Sq
open Go Go.RowKit Go.Shelf Go.Ev Go.Proofs
attribute [local go_sem] Oper.semAt_some
set_option linter.all false

theorem drew_heap (W : World) : W.drew.heap = W.heap := rfl
theorem heap_setCell_row {W : World} {B j : Nat} {cs : Array Value} {t : TypeId} (v' : Value) (h : W.heap[B]? = some (.cells cs t (0, 0))) : (W.setCell ⟨B, j, none⟩ v').heap[B]? = some (.cells (cs.setIfInBounds j v') t (0, 0)) := by
  obtain ⟨hlt, hk⟩ := Array.getElem?_eq_some_iff.1 h
  show (W.heap.modify B _)[B]? = _
  rw [Array.getElem?_eq_getElem (by rw [Array.size_modify]; exact hlt), Array.getElem_modify_self, hk]
  rfl
theorem heap_setCell_other {W : World} {B j k : Nat} (v' : Value) (h : k ≠ B) : (W.setCell ⟨B, j, none⟩ v').heap[k]? = W.heap[k]? := Below.heap_setCell _ _ _ k h
set_option maxRecDepth 100001 in
set_option maxHeartbeats 8000000 in
theorem grYield (F : Fence) (q : Nat) (w0 : World) (fn : FuncId) (hfn : F.fn fn) (sv : Value) (m : Int) (fv : Value) (l D : Nat) (hl : w0.heap.size + 1 + 1 + 1 + 1 < l) (hD : w0.heap.size + 1 + 1 + 1 + 1 < D) (hDl : D ≠ l)
    (s a0 a1 c : Int) (hs : 0 ≤ s ∧ s ≤ 1000) (hcc : 0 ≤ c ∧ c ≤ 1000) (i : Nat) (hi : i < 2) (d : Int) (hd : 1 ≤ d ∧ d ≤ 1000) (W : World) (h : GrAt w0 fn sv m fv l D s a0 a1 c W) :
    YieldAt F q Tryz.prog l #[ci i, ci d] W fun e W' => e = .returned (.bool true) ∧ GrAt w0 fn sv m fv l D (s % d) (if i = 0 then s / d else a0) (if i = 1 then s / d else a1) (c + s / d) W' ∧ Below w0.heap.size W W' := by
  refine ⟨fn, #[sv, ci m, undef, .pointer (some ⟨w0.heap.size, 0, none⟩), .slice none 0 0, ci 0, .pointer (some ⟨w0.heap.size + 1 + 1, 0, none⟩), .pointer (some ⟨w0.heap.size + 1 + 1 + 1, 0, none⟩), undef, undef, sv, ci 2, .slice (some ⟨w0.heap.size + 1, 0, none⟩) 2 2, sv, fv, ci i, ci d, undef, undef, undef, undef, undef, undef, undef, undef, undef, undef, undef, undef, undef, undef, undef, undef, undef, undef, undef, undef, undef, undef], grAssign, grBody, by simpa [grRec, grTmps] using run_yield (P := Tryz.prog) (args := #[ci i, ci d]) h.L rfl, roundIn_of_wpIn hfn ?_⟩
  obtain ⟨hS, hR, hO, hN, hB, hL, hK, hb⟩ := h
  have lt_of : ∀ {j : Nat} {o : Obj}, W.heap[j]? = some o → j < W.heap.size := fun h => (Array.getElem?_eq_some_iff.1 h).1
  have hbr := run_beginRound (P := Tryz.prog) hL rfl
  obtain ⟨W2, hW2⟩ : ∃ W2, W.putObj l (.loop { grRec fn w0.heap.size sv m fv D .ready none with state := .busy }) = W2 := ⟨_, rfl⟩
  rw [hW2] at hbr
  have hg2 : W.grownBy W2 (some l) := by rw [← hW2]; exact grownBy_putObj _ _ _
  have put : ∀ {j : Nat} {o : Obj}, j ≠ l → W.heap[j]? = some o → W2.heap[j]? = some o := fun hj ho => by rw [← hW2]; exact (World.putObj_heap_other hj).trans ho
  have hS2 := put (by omega) hS
  have hR2 := put (by omega) hR
  have hO2 := put (by omega) hO
  have hN2 := put (by omega) hN
  have hB2 := put (by omega) hB
  have hK2 := put hDl hK
  have hL2 : W2.heap[l]? = some (.loop { grRec fn w0.heap.size sv m fv D .ready none with state := .busy }) := by rw [← hW2]; exact World.putObj_heap_same (lt_of hL)
  have hb2 : Below w0.heap.size w0 W2 := hb.grown hg2 hb.size (fun k e => by cases e; omega)
  have hbl2 : Below w0.heap.size W W2 := (Below.refl _ W).grown hg2 hb.size (fun k e => by cases e; omega)
  clear hW2
  simp only [grAssign, assignOf, Tryz.f108, Option.getD_some]
  gi_wp2
  rw [grBody_eq]
  gi_wp2
  refine walk5 F l q w0.heap.size sv m fv s a0 a1 d i hi hs hd W2 hS2 hR2 hO2 _ ?_
  rename_i K5 hK5
  refine hK5 _ _ ?_
  have hdq : 0 ≤ s / d ∧ s / d ≤ s := ⟨Int.ediv_nonneg hs.1 (by omega), Int.ediv_le_self _ hs.1⟩
  have hv5 : IntKind.i64.wrap (s / d) = s / d := Go.Ev.wrap64 _ (by omega) (by omega)
  rw [hv5]
  obtain ⟨W3, hW3⟩ : ∃ W3, (W2.setCell ⟨w0.heap.size + 1, i, none⟩ (ci (s / d))).drew = W3 := ⟨_, rfl⟩
  rw [hW3]
  have oth3 : ∀ {j : Nat} {o : Obj}, j ≠ w0.heap.size + 1 → W2.heap[j]? = some o → W3.heap[j]? = some o := fun hj ho => by rw [← hW3, drew_heap, heap_setCell_other _ hj]; exact ho
  have hS3 := oth3 (by omega) hS2
  have hO3 := oth3 (by omega) hO2
  have hN3 := oth3 (by omega) hN2
  have hB3 := oth3 (by omega) hB2
  have hK3 := oth3 (by omega) hK2
  have hL3 := oth3 (by omega) hL2
  have hR3 : W3.heap[w0.heap.size + 1]? = some (.cells #[ci (if i = 0 then s / d else a0), ci (if i = 1 then s / d else a1)] 3 (0, 0)) := by
    rw [← hW3, drew_heap, heap_setCell_row _ hR2]
    rcases (show i = 0 ∨ i = 1 by omega) with rfl | rfl <;> rfl
  have hb3 : Below w0.heap.size w0 W3 := by rw [← hW3]; exact (hb2.setCell (by show w0.heap.size ≤ w0.heap.size + 1; omega) _).drew
  have hbl3 : Below w0.heap.size W W3 := by rw [← hW3]; exact (hbl2.setCell (by show w0.heap.size ≤ w0.heap.size + 1; omega) _).drew
  clear hW3
  gi_wp2
  refine walk6 F l q w0.heap.size sv m fv s (s / d) _ _ c d i hi hd _ _ _ _ _ _ undef undef undef undef undef undef undef undef (by rcases (show i = 0 ∨ i = 1 by omega) with rfl | rfl <;> simp) W3 hS3 hR3 hO3 hN3 _ ?_
  rename_i K6 hK6
  refine hK6 _ _ ?_
  have hmd : s / d * d ≤ s ∧ 0 ≤ s / d * d := ⟨Int.ediv_mul_le s (by omega), Int.mul_nonneg hdq.1 (by omega)⟩
  have hv6 : IntKind.i64.wrap (s / d * d) = s / d * d := Go.Ev.wrap64 _ (by omega) (by omega)
  have hv6b : IntKind.i64.wrap (s - s / d * d) = s % d := by
    rw [Go.Ev.wrap64 _ (by omega) (by omega), Int.emod_def, Int.mul_comm]
  rw [hv6, hv6b]
  obtain ⟨W4, hW4⟩ : ∃ W4, (W3.setCell ⟨w0.heap.size, 0, none⟩ (ci (s % d))).drew = W4 := ⟨_, rfl⟩
  rw [hW4]
  have oth4 : ∀ {j : Nat} {o : Obj}, j ≠ w0.heap.size → W3.heap[j]? = some o → W4.heap[j]? = some o := fun hj ho => by rw [← hW4, drew_heap, heap_setCell_other _ hj]; exact ho
  have hR4 := oth4 (by omega) hR3
  have hO4 := oth4 (by omega) hO3
  have hN4 := oth4 (by omega) hN3
  have hB4 := oth4 (by omega) hB3
  have hK4 := oth4 (by omega) hK3
  have hL4 := oth4 (by omega) hL3
  have hS4 : W4.heap[w0.heap.size]? = some (.cells #[ci (s % d)] 3 (0, 0)) := by
    rw [← hW4, drew_heap, heap_setCell_row _ hS3]; rfl
  have hb4 : Below w0.heap.size w0 W4 := by rw [← hW4]; exact (hb3.setCell (Nat.le_refl _) _).drew
  have hbl4 : Below w0.heap.size W W4 := by rw [← hW4]; exact (hbl3.setCell (Nat.le_refl _) _).drew
  clear hW4
  gi_wp2
  refine walk7 F l q w0.heap.size sv m fv (s % d) (s / d) _ _ c d i hi hd _ _ _ _ _ _ _ _ _ _ _ _ _ _ (by rcases (show i = 0 ∨ i = 1 by omega) with rfl | rfl <;> simp) W4 hS4 hR4 hO4 hN4 _ ?_
  have hv7 : IntKind.i64.wrap (c + s / d) = c + s / d := Go.Ev.wrap64 _ (by omega) (by omega)
  rw [hv7]
  obtain ⟨W5, hW5⟩ : ∃ W5, (W4.setCell ⟨w0.heap.size + 1 + 1 + 1, 0, none⟩ (ci (c + s / d))).drew = W5 := ⟨_, rfl⟩
  rw [hW5]
  have oth5 : ∀ {j : Nat} {o : Obj}, j ≠ w0.heap.size + 1 + 1 + 1 → W4.heap[j]? = some o → W5.heap[j]? = some o := fun hj ho => by rw [← hW5, drew_heap, heap_setCell_other _ hj]; exact ho
  have hS5 := oth5 (by omega) hS4
  have hR5 := oth5 (by omega) hR4
  have hO5 := oth5 (by omega) hO4
  have hB5 := oth5 (by omega) hB4
  have hK5' := oth5 (by omega) hK4
  have hL5 := oth5 (by omega) hL4
  have hN5 : W5.heap[w0.heap.size + 1 + 1 + 1]? = some (.cells #[ci (c + s / d)] 3 (0, 0)) := by
    rw [← hW5, drew_heap, heap_setCell_row _ hN4]; rfl
  have hb5 : Below w0.heap.size w0 W5 := by rw [← hW5]; exact (hb4.setCell (by show w0.heap.size ≤ w0.heap.size + 1 + 1 + 1; omega) _).drew
  have hbl5 : Below w0.heap.size W W5 := by rw [← hW5]; exact (hbl4.setCell (by show w0.heap.size ≤ w0.heap.size + 1 + 1 + 1; omega) _).drew
  have hl5 : l < W5.heap.size := (Array.getElem?_eq_some_iff.1 hL5).1
  clear hW5
  have pt : ∀ {j : Nat} {o : Obj} (o' : Obj), j ≠ l → W5.heap[j]? = some o → (W5.putObj l o').heap[j]? = some o := fun _ hj ho => (World.putObj_heap_other hj).trans ho
  refine ⟨_, _, run_endRound none hL5, rfl, ⟨pt _ (by omega) hS5, pt _ (by omega) hR5, pt _ (by omega) hO5, pt _ (by omega) hN5, pt _ (by omega) hB5, World.putObj_heap_same hl5, pt _ hDl hK5', hb5.grown (grownBy_putObj _ _ _) hb5.size (fun k e => by cases e; omega)⟩, hbl5.grown (grownBy_putObj _ _ _) hb5.size (fun k e => by cases e; omega)⟩
end Go.Proofs.YtdnjagnechibhaaGreatDoor.Sq
