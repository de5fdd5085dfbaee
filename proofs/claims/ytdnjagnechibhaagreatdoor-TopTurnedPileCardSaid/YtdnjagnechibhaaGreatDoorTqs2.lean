/- What is proved: what functions of this program answer, by the evaluator. No condition. -/
import Derived.Test.YtdnjagnechibhaaGreatDoorTqs1
import Derived.KernelRfl
import Derived.RegionIn
import Derived.BigRegionIn
set_option linter.all false
namespace Go.Proofs.YtdnjagnechibhaaGreatDoor.Sb
open Go Go.RowKit Go.Shelf Go.Ev Go.Proofs
attribute [local go_sem] Oper.semAt_some
set_option linter.all false

set_option maxRecDepth 100001 in
set_option maxHeartbeats 2000000 in
/-- slices.Backward: a function that goes through the slice. -/
theorem back0 (F : Fence) (n : Nat) (h7 : F.fn 76) (hro : F.round = none) (a : Addr) (c d : Nat) (W : World) :
    CallsIn F n Tryz.prog 76 #[.slice (some a) c d] W fun e W' => e = .returned (.func (.func 135) #[] #[.pointer (some ⟨W.heap.size, 0, none⟩)]) ∧ W' = W.alloc (.cells #[.slice (some a) c d] 55) := by
  refine callsIn_of_wp Tryz.func76 rfl h7 ?_ hro
  simp only [Tryz.ntmps76, List.size_toArray, List.length_cons, List.length_nil, Nat.reduceAdd, Nat.reduceSub, Array.replicate_succ, Array.replicate_zero, List.push_toArray, List.append_toArray, List.nil_append, List.cons_append]
  gi_wp2
  refine bodyPost_ret (results_tmp rfl _ _ _) rfl ?_
  exact ⟨rfl, rfl⟩

section
variable {P : Program} {w w' : World} {base : Nat} {e : TypeId} {v : Value} {n : Nat} {xs : List Value}
theorem wpListIn_append_row {F : Fence} {n : Nat} {P : Program} (w : World) {ops : Array Oper} {rest : List Oper} {o : Oper} {a : Act} {Q : Exit → Act → World → Prop}
    (hg : o.guard = none) (s x : Operand) (t : TypeId) (hop : o.op = Op.call { callee := Callee.builtin Builtin.append, args := #[s, x], argTypes := #[t, t] })
    (base : Nat) (e : TypeId) (i : TypeInfo) (z : Value) (size bytes : Nat) (h1 : P.underlying t = some (.slice e)) (h2 : P.info? e = some i) (h3 : i.zero = some z) (h4 : i.size = size) (h5 : i.bytes = bytes) (h6 : z.cells.size = size) (h7 : 0 < size)
    (v : Value) (k : Nat) (xs : List Value) (hs : a.eval s = v) (hown : w.ownsRow base e size v k xs) (ad : Addr) (m c : Nat) (news : List Value) (hx : a.eval x = .slice (some ad) m c) (hn : news.length = m * size)
    (hc : ∀ j u, news[j]? = some u → w.cell? (ad.add j) = some u) (h1c : ∀ u ∈ news, u.oneCell' = true) (b1 : k + m ≤ maxLen) (b2 : (k + m) * bytes ≤ 140737488355328) (b3 : base ≤ w.heap.size)
    (hK : ∀ v' w', w'.ownsRow base e size v' (k + m) (xs ++ news) → w.grownBy w' v.ownBlock → (v' = .slice none 0 0 ↔ v = .slice none 0 0 ∧ m = 0) → wpListIn F n P ops Q rest (a.put o.dst v') w') :
    wpListIn F n P ops Q (o :: rest) a w := by
  refine wpListIn_plain hg fun K hK' => ?_
  obtain ⟨v', w', hrun, r1, r2, r3⟩ := run_append_own (P := P) w base t o.type e i z size bytes h1 h2 h3 h4 h5 h6 h7 v k xs hown ad m c news hn hc h1c b1 b2 b3
  unfold Oper.wpIn
  refine ⟨?_, ?_⟩
  · simp [Oper.about, hop, resolve, Target.leads, Sem.run_pure]
  · rw [Oper.semAt_plain F _ _ (by rw [hop]; intro c hc'; cases hc')]
    simp [execOp, hop, resolve, invoke, builtin, hs, hx, hrun, Result.andThen]
    exact hK' _ _ (hK v' w' r1 r2 r3)
end

noncomputable def assignOf : Code → Code
  | .seq _ (.seq _ (.seq _ (.seq (.seq _ (.block _ (.rangeFunc _ _ a _))) _))) => a
  | _ => .skip
noncomputable def bodyOf : Code → Code
  | .seq _ (.seq _ (.seq _ (.seq (.seq _ (.block _ (.rangeFunc _ _ _ b))) _))) => b
  | _ => .skip
noncomputable def tnAssign : Code := assignOf (Tryz.f28.body.getD .skip)
noncomputable def tnBody : Code := bodyOf (Tryz.f28.body.getD .skip)
def tnTmps (sv fv : Value) (Bs : Nat) (a b : Value) : Array Value := #[sv, undef, .slice none 0 0, ci 0, ci 0, .pointer (some ⟨Bs, 0, none⟩), undef, undef, sv, ci 0, ci 0, .bool false, undef, sv, fv, a, b, undef, undef, undef, undef, undef, undef, undef, undef, undef]
noncomputable def tnRec (fn : FuncId) (sv fv : Value) (Bs D : Nat) (st : LoopState) (pend : Option Code) : Loop :=
  { state := st, pending := pend, fn, tmps := tnTmps sv fv Bs undef undef, params := #[15, 16], assign := tnAssign, body := tnBody, defers := D }
def prs (ss : List (Int × Int)) : List Value := ss.flatMap fun p => [ci p.1, ci p.2]
theorem prs_len (ss : List (Int × Int)) : (prs ss).length = ss.length * 2 := by
  unfold prs
  induction ss with
  | nil => rfl
  | cons p r ih => simp only [List.flatMap_cons, List.length_append, ih, List.length_cons, List.length_nil]; omega
theorem prs_snoc (ss : List (Int × Int)) (p : Int × Int) : prs (ss ++ [p]) = prs ss ++ [ci p.1, ci p.2] := by simp [prs]
/-- Between two rounds. -/
structure TnAt (w0 : World) (fn : FuncId) (sv fv : Value) (Bs Cs l D : Nat) (ss : List (Int × Int)) (W : World) : Prop where
  box : ∃ v, W.heap[Bs]? = some (.cells #[v] 55 (0, 0)) ∧ W.ownsRow w0.heap.size 120 2 v ss.length (prs ss) ∧ (v = .slice none 0 0 ↔ ss = [])
  C : W.heap[Cs]? = some (.cells #[sv] 55 (0, 0))
  L : W.heap[l]? = some (.loop (tnRec fn sv fv Bs D .ready none))
  K : W.heap[D]? = some (.deferred (some []))
  below : Below w0.heap.size w0 W
theorem grown_none {W W' : World} (hg : W.grownBy W' none) {k : Nat} {o : Obj} (h : W.heap[k]? = some o) : W'.heap[k]? = some o :=
  (hg.block k (Array.getElem?_eq_some_iff.1 h).1 (by simp)).trans h
theorem tn_abides (w0 : World) (fn : FuncId) (sv fv : Value) (Bs Cs l D : Nat) (ss : List (Int × Int)) (W W' : World) (h : TnAt w0 fn sv fv Bs Cs l D ss W) (hg : W.grownBy W' none) : TnAt w0 fn sv fv Bs Cs l D ss W' := by
  obtain ⟨v, hv, hr, hn⟩ := h.box
  exact ⟨⟨v, grown_none hg hv, hr.kept hg (by cases v.ownBlock <;> simp), hn⟩, grown_none hg h.C, grown_none hg h.L, grown_none hg h.K, h.below.grown hg h.below.size (fun k e => by simp at e)⟩
theorem grownBy_putObj (W : World) (l : Nat) (o : Obj) : W.grownBy (W.putObj l o) (some l) :=
  ⟨rfl, rfl, rfl, by simp, fun k _ hk => World.putObj_heap_other (fun e => hk (by rw [e]))⟩
theorem grownBy_setCell0 (W : World) (b : Nat) (v : Value) : W.grownBy (W.setCell ⟨b, 0, none⟩ v) (some b) :=
  ⟨rfl, rfl, rfl, (KeepsWalks.setCell W _ v).size, fun k _ hk => Below.heap_setCell _ _ _ k (fun e => hk (by rw [e]))⟩
/-- A slice's own row is not a block that holds something else. -/
theorem row_ne {W : World} {base : Nat} {e : TypeId} {v : Value} {k z : Nat} {xs : List Value} (h : W.ownsRow base e z v k xs) {j : Nat} {o : Obj} (hj : W.heap[j]? = some o) (hno : ∀ cur, o ≠ .cells cur e (0, 0)) :
    v.ownBlock = none ∨ v.ownBlock ≠ some j := by
  rcases h.2 with ⟨rfl, _⟩ | ⟨g, cap, cur, rfl, _, hgb, _⟩
  · exact .inl rfl
  · refine .inr fun e' => ?_
    have : g = j := by simpa [Value.ownBlock] using e'
    subst this; rw [hgb] at hj; cases hj; exact hno cur rfl
theorem cell_of_box {W : World} {B : Nat} {v : Value} {t : TypeId} (h : W.heap[B]? = some (.cells #[v] t (0, 0))) : W.cell? ⟨B, 0, none⟩ = some v ∧ W.frozen? ⟨B, 0, none⟩ = false := by
  constructor <;> simp [World.cell?, World.frozen?, h]
theorem cell_of_row2 {W : World} {B : Nat} {cs : Array Value} {t : TypeId} (h : W.heap[B]? = some (.cells cs t (0, 0))) (j : Nat) (hj : j < cs.size) : W.cell? ⟨B, j, none⟩ = some cs[j] ∧ W.frozen? ⟨B, j, none⟩ = false := by
  constructor <;> simp [World.cell?, World.frozen?, h, hj]
theorem heap_setCell_box {W : World} {B : Nat} {v : Value} {t : TypeId} (v' : Value) (h : W.heap[B]? = some (.cells #[v] t (0, 0))) : (W.setCell ⟨B, 0, none⟩ v').heap[B]? = some (.cells #[v'] t (0, 0)) := by
  obtain ⟨hlt, hk⟩ := Array.getElem?_eq_some_iff.1 h
  show (W.heap.modify B _)[B]? = _
  rw [Array.getElem?_eq_getElem (by rw [Array.size_modify]; exact hlt), Array.getElem_modify_self, hk]
  rfl
theorem cell_two_new (w : World) (x y : Value) (t : TypeId) : ∀ j u, [x, y][j]? = some u → (w.alloc (.cells #[x, y] t)).cell? ((⟨w.heap.size, 0, none⟩ : Addr).add j) = some u := by
  intro j u hj
  match j, hj with
  | 0, hj =>
    simp at hj
    subst hj
    simp [Addr.add]
  | 1, hj =>
    simp at hj
    subst hj
    simp [Addr.add]
theorem info120 : (Tryz.prog.info? 120).map (fun i => (i.zero, i.size, i.bytes)) = some (some (.agg #[ci 0, ci 0]), 2, 16) := by kernel_rfl
end Go.Proofs.YtdnjagnechibhaaGreatDoor.Sb
