/- What is proved: what functions of this program answer, by the evaluator. No condition. -/
import Derived.Test.YtdnjagnechibhaaGreatDoorTq2
set_option linter.all false
namespace Go.Proofs.YtdnjagnechibhaaGreatDoor.Sq
open Go Go.RowKit Go.Shelf Go.Ev Go.Proofs
attribute [local go_sem] Oper.semAt_some
set_option linter.all false

set_option maxRecDepth 100001 in
set_option maxHeartbeats 40000000 in
theorem walk7 (F : Fence) (l q z : Nat) (sv : Value) (m : Int) (fv : Value) (s v a0 a1 c d : Int) (i : Nat) (hi : i < 2) (hd : 1 ≤ d ∧ d ≤ 1000) (a17 a18 a19 a20 a21 a22 a23 a24 a25 a26 a27 a28 a29 a30 : Value) (hv : (if i = 0 then a0 else a1) = v) (W : World) (hS : W.heap[z]? = some (.cells #[ci s] 3 (0, 0))) (hR : W.heap[z + 1]? = some (.cells #[ci a0, ci a1] 3 (0, 0))) (hO : W.heap[z + 1 + 1]? = some (.cells #[.slice (some ⟨z + 1, 0, none⟩) 2 2] 24 (0, 0))) (hN : W.heap[z + 1 + 1 + 1]? = some (.cells #[ci c] 3 (0, 0))) (Q : Exit → Act → World → Prop)
    (hQ : Q .normal { tmps := mkA z sv m fv i d a17 a18 a19 a20 a21 a22 a23 a24 a25 a26 a27 a28 a29 a30 (ci c) (.slice (some ⟨z + 1, 0, none⟩) 2 2) (ci i) (.pointer (some ⟨z + 1, i, none⟩)) (ci v) (ci (IntKind.i64.wrap (c + v))), defers := [] } (W.setCell ⟨z + 1 + 1 + 1, 0, none⟩ (ci (IntKind.i64.wrap (c + v)))).drew) :
    Code.wpIn (F.inRound l) q Tryz.prog reg7 Q { tmps := mkA z sv m fv i d a17 a18 a19 a20 a21 a22 a23 a24 a25 a26 a27 a28 a29 a30 undef undef undef undef undef undef, defers := [] } W := by
  obtain ⟨cS, fS⟩ := cell_of_row2 hS 0 (by simp)
  obtain ⟨cR0, fR0⟩ := cell_of_row2 hR 0 (by simp)
  obtain ⟨cR1, fR1⟩ := cell_of_row2 hR 1 (by simp)
  obtain ⟨cO, fO⟩ := cell_of_row2 hO 0 (by simp)
  obtain ⟨cN, fN⟩ := cell_of_row2 hN 0 (by simp)
  have hmix : Tryz.prog.follows .mixedOrders = true := mixG
  simp only [reg7, part, grBody, bodyOf, Tryz.f108, Option.getD_some, mkA] at hQ ⊢
  rcases (show i = 0 ∨ i = 1 by omega) with rfl | rfl
  · simp only [if_true] at hv
    subst hv
    gi_region
    all_goals exact hQ
  · simp only [Nat.one_ne_zero, if_false] at hv
    subst hv
    gi_region
    all_goals exact hQ
end Go.Proofs.YtdnjagnechibhaaGreatDoor.Sq
