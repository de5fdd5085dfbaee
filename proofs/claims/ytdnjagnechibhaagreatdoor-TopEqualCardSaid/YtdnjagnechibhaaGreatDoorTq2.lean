/- What is proved: what functions of this program answer, by the evaluator. No condition. -/
import Derived.Test.YtdnjagnechibhaaGreatDoorTq1
import Derived.KernelRfl
import Derived.RegionIn
import Derived.BigRegionIn
set_option linter.all false
namespace Go.Proofs.YtdnjagnechibhaaGreatDoor.Sq
open Go Go.RowKit Go.Shelf Go.Ev Go.Proofs
attribute [local go_sem] Oper.semAt_some
set_option linter.all false

set_option maxRecDepth 100001 in
set_option maxHeartbeats 2000000 in
/-- slices.Backward: a function that goes through the slice. -/
theorem back0 (F : Fence) (n : Nat) (h7 : F.fn 159) (hro : F.round = none) (a : Addr) (c d : Nat) (W : World) :
    CallsIn F n Tryz.prog 159 #[.slice (some a) c d] W fun e W' => e = .returned (.func (.func 195) #[] #[.pointer (some ⟨W.heap.size, 0, none⟩)]) ∧ W' = W.alloc (.cells #[.slice (some a) c d] 24) := by
  refine callsIn_of_wp Tryz.func159 rfl h7 ?_ hro
  simp only [Tryz.ntmps159, List.size_toArray, List.length_cons, List.length_nil, Nat.reduceAdd, Nat.reduceSub, Array.replicate_succ, Array.replicate_zero, List.push_toArray, List.append_toArray, List.nil_append, List.cons_append]
  gi_wp2
  refine bodyPost_ret (results_tmp rfl _ _ _) rfl ?_
  exact ⟨rfl, rfl⟩
theorem mk2 (w : World) : Sem.run Tryz.prog (Instr.makeSlice 24 (.int .i64 2) (.int .i64 2)) w = .ok (.slice (some ⟨w.heap.size, 0, none⟩) 2 2) (w.alloc (.cells #[.int .i64 0, .int .i64 0] 3)) := by kernel_rfl
attribute [local go_sem] mk2


/-! ### a round -/
noncomputable def assignOf : Code → Code
  | .seq _ (.seq _ (.seq (.seq _ (.block _ (.rangeFunc _ _ a _))) _)) => a
  | _ => .skip
noncomputable def bodyOf : Code → Code
  | .seq _ (.seq _ (.seq (.seq _ (.block _ (.rangeFunc _ _ _ b))) _)) => b
  | _ => .skip
noncomputable def grAssign : Code := assignOf (Tryz.f108.body.getD .skip)
noncomputable def grBody : Code := bodyOf (Tryz.f108.body.getD .skip)
noncomputable def part : Nat → Code → Code
  | 0, .block _ (.seq a _) => a
  | 1, .block _ (.seq _ (.seq b _)) => b
  | 2, .block _ (.seq _ (.seq _ c)) => c
  | _, _ => .skip
noncomputable def reg5 : Code := part 0 grBody
noncomputable def reg6 : Code := part 1 grBody
noncomputable def reg7 : Code := part 2 grBody
theorem grBody_eq : grBody = .block 1 (.seq reg5 (.seq reg6 reg7)) := rfl
def mkA (z : Nat) (sv : Value) (m : Int) (fv : Value) (i d : Int) (a17 a18 a19 a20 a21 a22 a23 a24 a25 a26 a27 a28 a29 a30 a31 a32 a33 a34 a35 a36 : Value) : Array Value := #[sv, ci m, undef, .pointer (some ⟨z, 0, none⟩), .slice none 0 0, ci 0, .pointer (some ⟨z + 1 + 1, 0, none⟩), .pointer (some ⟨z + 1 + 1 + 1, 0, none⟩), ci i, ci d, sv, ci 2, .slice (some ⟨z + 1, 0, none⟩) 2 2, sv, fv, ci i, ci d, a17, a18, a19, a20, a21, a22, a23, a24, a25, a26, a27, a28, a29, a30, a31, a32, a33, a34, a35, a36, undef, undef]
theorem mixG : Tryz.prog.follows .mixedOrders = true := by kernel_rfl
theorem cell_of_row2 {W : World} {B : Nat} {cs : Array Value} {t : TypeId} (h : W.heap[B]? = some (.cells cs t (0, 0))) (j : Nat) (hj : j < cs.size) : W.cell? ⟨B, j, none⟩ = some cs[j] ∧ W.frozen? ⟨B, j, none⟩ = false := by
  constructor <;> simp [World.cell?, World.frozen?, h, hj]
set_option maxRecDepth 100001 in
set_option maxHeartbeats 8000000 in
theorem walk5 (F : Fence) (l q z : Nat) (sv : Value) (m : Int) (fv : Value) (s a0 a1 d : Int) (i : Nat) (hi : i < 2) (hs : 0 ≤ s ∧ s ≤ 1000) (hd : 1 ≤ d ∧ d ≤ 1000) (W : World) (hS : W.heap[z]? = some (.cells #[ci s] 3 (0, 0))) (hR : W.heap[z + 1]? = some (.cells #[ci a0, ci a1] 3 (0, 0))) (hO : W.heap[z + 1 + 1]? = some (.cells #[.slice (some ⟨z + 1, 0, none⟩) 2 2] 24 (0, 0))) (Q : Exit → Act → World → Prop)
    (hQ : Q .normal { tmps := mkA z sv m fv i d (.slice (some ⟨z + 1, 0, none⟩) 2 2) (ci i) (ci s) (ci d) (ci (IntKind.i64.wrap (s / d))) (.pointer (some ⟨z + 1, i, none⟩)) undef undef undef undef undef undef undef undef undef undef undef undef undef undef, defers := [] } (W.setCell ⟨z + 1, i, none⟩ (ci (IntKind.i64.wrap (s / d)))).drew) :
    Code.wpIn (F.inRound l) q Tryz.prog reg5 Q { tmps := mkA z sv m fv i d undef undef undef undef undef undef undef undef undef undef undef undef undef undef undef undef undef undef undef undef, defers := [] } W := by
  obtain ⟨cS, fS⟩ := cell_of_row2 hS 0 (by simp)
  obtain ⟨cR0, fR0⟩ := cell_of_row2 hR 0 (by simp)
  obtain ⟨cR1, fR1⟩ := cell_of_row2 hR 1 (by simp)
  obtain ⟨cO, fO⟩ := cell_of_row2 hO 0 (by simp)
  have hdne : ¬ (d = 0) := by omega
  have hq : s.tdiv d = s / d := Int.tdiv_eq_ediv_of_nonneg hs.1
  have hmix : Tryz.prog.follows .mixedOrders = true := mixG
  simp only [reg5, part, grBody, bodyOf, Tryz.f108, Option.getD_some, mkA] at hQ ⊢
  rcases (show i = 0 ∨ i = 1 by omega) with rfl | rfl
  · gi_region
    all_goals exact hQ
  · gi_region
    all_goals exact hQ
def grTmps (z : Nat) (sv : Value) (m : Int) (fv : Value) : Array Value := #[sv, ci m, undef, .pointer (some ⟨z, 0, none⟩), .slice none 0 0, ci 0, .pointer (some ⟨z + 1 + 1, 0, none⟩), .pointer (some ⟨z + 1 + 1 + 1, 0, none⟩), undef, undef, sv, ci 2, .slice (some ⟨z + 1, 0, none⟩) 2 2, sv, fv, undef, undef, undef, undef, undef, undef, undef, undef, undef, undef, undef, undef, undef, undef, undef, undef, undef, undef, undef, undef, undef, undef, undef, undef]
noncomputable def grRec (fn : FuncId) (z : Nat) (sv : Value) (m : Int) (fv : Value) (D : Nat) (st : LoopState) (pend : Option Code) : Loop :=
  { state := st, pending := pend, fn, tmps := grTmps z sv m fv, params := #[15, 16], assign := grAssign, body := grBody, defers := D }
/-- Between two rounds. -/
structure GrAt (w0 : World) (fn : FuncId) (sv : Value) (m : Int) (fv : Value) (l D : Nat) (s a0 a1 c : Int) (W : World) : Prop where
  S : W.heap[w0.heap.size]? = some (.cells #[ci s] 3 (0, 0))
  R : W.heap[w0.heap.size + 1]? = some (.cells #[ci a0, ci a1] 3 (0, 0))
  O : W.heap[w0.heap.size + 1 + 1]? = some (.cells #[.slice (some ⟨w0.heap.size + 1, 0, none⟩) 2 2] 24 (0, 0))
  N : W.heap[w0.heap.size + 1 + 1 + 1]? = some (.cells #[ci c] 3 (0, 0))
  B : W.heap[w0.heap.size + 1 + 1 + 1 + 1]? = some (.cells #[sv] 24 (0, 0))
  L : W.heap[l]? = some (.loop (grRec fn w0.heap.size sv m fv D .ready none))
  K : W.heap[D]? = some (.deferred (some []))
  below : Below w0.heap.size w0 W
theorem grown_none {W W' : World} (hg : W.grownBy W' none) {k : Nat} {o : Obj} (h : W.heap[k]? = some o) : W'.heap[k]? = some o :=
  (hg.block k (Array.getElem?_eq_some_iff.1 h).1 (by simp)).trans h
theorem gr_abides (w0 : World) (fn : FuncId) (sv : Value) (m : Int) (fv : Value) (l D : Nat) (s a0 a1 c : Int) (W W' : World) (h : GrAt w0 fn sv m fv l D s a0 a1 c W) (hg : W.grownBy W' none) : GrAt w0 fn sv m fv l D s a0 a1 c W' :=
  ⟨grown_none hg h.S, grown_none hg h.R, grown_none hg h.O, grown_none hg h.N, grown_none hg h.B, grown_none hg h.L, grown_none hg h.K, h.below.grown hg h.below.size (fun k e => by simp at e)⟩
theorem info3 : (Tryz.prog.info? 3).map (fun i => (i.zero, i.size, i.bytes)) = some (some (.int .i64 0), 1, 8) := by kernel_rfl
theorem grownBy_putObj (W : World) (l : Nat) (o : Obj) : W.grownBy (W.putObj l o) (some l) :=
  ⟨rfl, rfl, rfl, by simp, fun k _ hk => World.putObj_heap_other (fun e => hk (by rw [e]))⟩
end Go.Proofs.YtdnjagnechibhaaGreatDoor.Sq
