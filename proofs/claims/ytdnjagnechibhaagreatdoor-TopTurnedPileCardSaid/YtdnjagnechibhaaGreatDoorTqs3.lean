/- What is proved: what functions of this program answer, by the evaluator. No condition. -/
import Derived.Test.YtdnjagnechibhaaGreatDoorTqs2
set_option linter.all false
namespace Go.Proofs.YtdnjagnechibhaaGreatDoor.Sb
open Go Go.RowKit Go.Shelf Go.Ev Go.Proofs
attribute [local go_sem] Oper.semAt_some
set_option linter.all false
theorem info_parts {i : Option TypeInfo} {z : Option Value} {n b : Nat} (h : i.map (fun i => (i.zero, i.size, i.bytes)) = some (z, n, b)) : ∃ j, i = some j ∧ j.zero = z ∧ j.size = n ∧ j.bytes = b := by
  cases i with
  | none => simp at h
  | some j => simp at h; exact ⟨j, rfl, h.1, h.2.1, h.2.2⟩
set_option maxRecDepth 100001 in
set_option maxHeartbeats 8000000 in
theorem tnYield (F : Fence) (m : Nat) (w0 : World) (fn : FuncId) (hfn : F.fn fn) (sv fv : Value) (Bs Cs l D : Nat) (hBl : Bs ≠ l) (hCl : Cs ≠ l) (hCB : Cs ≠ Bs) (hDl : D ≠ l) (hDB : D ≠ Bs) (h0B : w0.heap.size ≤ Bs) (h0l : w0.heap.size ≤ l)
    (N : Nat) (hN : N ≤ 1000) (ss : List (Int × Int)) (ix x y : Int) (W : World) (h : TnAt w0 fn sv fv Bs Cs l D ss W) (hlen : ss.length < N) :
    YieldAt F m Tryz.prog l #[ci ix, .agg #[ci x, ci y]] W fun e W' => e = .returned (.bool true) ∧ TnAt w0 fn sv fv Bs Cs l D (ss ++ [(y, x)]) W' ∧ Below w0.heap.size W W' := by
  obtain ⟨i0, hi, hz0, hz1, hz2⟩ := info_parts info120
  obtain ⟨v, hv, hrow, _⟩ := h.box
  refine ⟨fn, tnTmps sv fv Bs (ci ix) (.agg #[ci x, ci y]), tnAssign, tnBody, by simpa [tnRec, tnTmps] using run_yield (P := Tryz.prog) (args := #[ci ix, .agg #[ci x, ci y]]) h.L rfl, roundIn_of_wpIn hfn ?_⟩
  have hl : l < W.heap.size := (Array.getElem?_eq_some_iff.1 h.L).1
  have hBlt0 : Bs < W.heap.size := (Array.getElem?_eq_some_iff.1 hv).1
  have hClt0 : Cs < W.heap.size := (Array.getElem?_eq_some_iff.1 h.C).1
  have hg1 : W.grownBy (W.alloc (.cells #[ci x, ci y] 120)) none := World.grownBy_alloc W _ none
  have h1 := tn_abides w0 fn sv fv Bs Cs l D ss _ _ h hg1
  have hv1 := grown_none hg1 hv
  have hrow1 : (W.alloc (.cells #[ci x, ci y] 120)).ownsRow w0.heap.size 120 2 v ss.length (prs ss) := hrow.kept hg1 (by cases v.ownBlock <;> simp)
  have hx1 : (W.alloc (.cells #[ci x, ci y] 120)).heap[W.heap.size]? = some (.cells #[ci x, ci y] 120 (0, 0)) := World.alloc_heap_new W _
  have hbr := run_beginRound (P := Tryz.prog) h1.L rfl
  have hbl1 : Below w0.heap.size W (W.alloc (.cells #[ci x, ci y] 120)) := (Below.refl _ W).alloc h.below.size _
  have hxl : W.heap.size ≠ l := by omega
  have hxB : W.heap.size ≠ Bs := by omega
  obtain ⟨W2, hW2⟩ : ∃ W2, (W.alloc (.cells #[ci x, ci y] 120)).putObj l (.loop { tnRec fn sv fv Bs D .ready none with state := .busy }) = W2 := ⟨_, rfl⟩
  rw [hW2] at hbr
  have hg2 : (W.alloc (.cells #[ci x, ci y] 120)).grownBy W2 (some l) := by rw [← hW2]; exact grownBy_putObj _ _ _
  have hv2 : W2.heap[Bs]? = some (.cells #[v] 55 (0, 0)) := by rw [← hW2]; exact (World.putObj_heap_other hBl).trans hv1
  have hC2 : W2.heap[Cs]? = some (.cells #[sv] 55 (0, 0)) := by rw [← hW2]; exact (World.putObj_heap_other hCl).trans h1.C
  have hx2 : W2.heap[W.heap.size]? = some (.cells #[ci x, ci y] 120 (0, 0)) := by rw [← hW2]; exact (World.putObj_heap_other hxl).trans hx1
  have hK2 : W2.heap[D]? = some (.deferred (some [])) := by rw [← hW2]; exact (World.putObj_heap_other hDl).trans h1.K
  have hL2 : W2.heap[l]? = some (.loop { tnRec fn sv fv Bs D .ready none with state := .busy }) := by rw [← hW2]; exact World.putObj_heap_same (by simp; omega)
  have hrow2 : W2.ownsRow w0.heap.size 120 2 v ss.length (prs ss) := hrow1.kept hg2 (row_ne hrow1 h1.L (fun cur e => by cases e))
  have hb2 : Below w0.heap.size w0 W2 := h1.below.grown hg2 h1.below.size (fun k e => by cases e; exact h0l)
  have hbl2 : Below w0.heap.size W W2 := hbl1.grown hg2 (by have := h.below.size; simp; omega) (fun k e => by cases e; exact h0l)
  obtain ⟨hc2, hf2⟩ := cell_of_box hv2
  obtain ⟨hcx2, hfx2⟩ := cell_of_row2 hx2 0 (by simp)
  obtain ⟨hcy2, hfy2⟩ := cell_of_row2 hx2 1 (by simp)
  simp only [List.getElem_toArray, List.getElem_cons_zero, List.getElem_cons_succ] at hcx2 hcy2
  have hBlt : Bs < W2.heap.size := (Array.getElem?_eq_some_iff.1 hv2).1
  have hClt : Cs < W2.heap.size := (Array.getElem?_eq_some_iff.1 hC2).1
  have hl2 : l < W2.heap.size := (Array.getElem?_eq_some_iff.1 hL2).1
  have hDlt : D < W2.heap.size := (Array.getElem?_eq_some_iff.1 hK2).1
  have ne_of : ∀ {j : Nat} {o : Obj}, W2.heap[j]? = some o → (∀ cur, o ≠ .cells cur 120 (0, 0)) → some j ≠ v.ownBlock := fun hj hno => by
    rcases row_ne hrow2 hj hno with e | e
    · rw [e]; simp
    · exact fun e' => e e'.symm
  clear hW2
  simp only [tnAssign, assignOf, tnBody, bodyOf, Tryz.f28, Option.getD_some, tnTmps]
  gi_wp2_with (first
    | (gi_at_builtin; refine wpListIn_append_row _ rfl _ _ 55 rfl w0.heap.size 120 i0 (.agg #[ci 0, ci 0]) 2 16 Tryz.underlying55 hi hz0 hz1 hz2 rfl (by omega) _ _ _ rfl (hrow2.kept (World.grownBy_alloc W2 _ none) (by cases v.ownBlock <;> simp)) ⟨W2.heap.size, 0, none⟩ 1 1 [ci y, ci x] rfl rfl (cell_two_new _ _ _ _) (by simp [Value.oneCell']) (by simp only [maxLen]; omega) (by omega) (by have := hb2.size; simp; omega) ?_; intro v' w3 hown' hg3 hnil3
       have hv3 : w3.heap[Bs]? = some (.cells #[v] 55 (0, 0)) := (hg3.block Bs (by simp; omega) (ne_of hv2 (fun cur e => by cases e))).trans ((Below.heap_alloc _ _ Bs hBlt).trans hv2)
       obtain ⟨hc3, hf3⟩ := cell_of_box hv3
       obtain ⟨g', cap', cur', rfl, hbase', hgb', hr1⟩ : ∃ g' cap' cur', v' = .slice (some ⟨g', 0, none⟩) (ss.length + 1) cap' ∧ w0.heap.size ≤ g' ∧ w3.heap[g']? = some (.cells cur' 120 (0, 0)) ∧ ss.length + 1 ≤ cap' := by
         rcases hown'.2 with ⟨_, h0⟩ | ⟨g', cap', cur', e1, e2, e3, e4, _⟩
         · exact absurd h0 (by omega)
         · exact ⟨g', cap', cur', e1, e2, e3, e4⟩
       simp only [Act.put, List.setIfInBounds_toArray, List.set_cons_succ, List.set_cons_zero])
    | fail)
  have hg3' : (W2.alloc (.cells #[ci y, ci x] 120)).grownBy w3 v.ownBlock := hg3
  have hL3 : w3.heap[l]? = some (.loop { tnRec fn sv fv Bs D .ready none with state := .busy }) := (hg3'.block l (by simp; omega) (ne_of hL2 (fun cur e => by cases e))).trans ((Below.heap_alloc _ _ l hl2).trans hL2)
  have hK3 : w3.heap[D]? = some (.deferred (some [])) := (hg3'.block D (by simp; omega) (ne_of hK2 (fun cur e => by cases e))).trans ((Below.heap_alloc _ _ D hDlt).trans hK2)
  have hC3 : w3.heap[Cs]? = some (.cells #[sv] 55 (0, 0)) := (hg3'.block Cs (by simp; omega) (ne_of hC2 (fun cur e => by cases e))).trans ((Below.heap_alloc _ _ Cs hClt).trans hC2)
  obtain ⟨w4, hw4⟩ : ∃ w4, w3.setCell ⟨Bs, 0, none⟩ (.slice (some ⟨g', 0, none⟩) (ss.length + 1) cap') = w4 := ⟨_, rfl⟩
  rw [hw4]
  have hg4 : w3.grownBy w4 (some Bs) := by rw [← hw4]; exact grownBy_setCell0 _ _ _
  have hv4 : w4.heap[Bs]? = some (.cells #[.slice (some ⟨g', 0, none⟩) (ss.length + 1) cap'] 55 (0, 0)) := by rw [← hw4]; exact heap_setCell_box _ hv3
  have hL4 : w4.heap[l]? = some (.loop { tnRec fn sv fv Bs D .ready none with state := .busy }) := (hg4.block l (Array.getElem?_eq_some_iff.1 hL3).1 (fun e => hBl (by cases e; rfl))).trans hL3
  have hK4 : w4.heap[D]? = some (.deferred (some [])) := (hg4.block D (Array.getElem?_eq_some_iff.1 hK3).1 (fun e => hDB (by cases e; rfl))).trans hK3
  have hC4 : w4.heap[Cs]? = some (.cells #[sv] 55 (0, 0)) := (hg4.block Cs (Array.getElem?_eq_some_iff.1 hC3).1 (fun e => hCB (by cases e; rfl))).trans hC3
  have hrow4 := hown'.kept hg4 (row_ne hown' hv3 (fun cur e => by cases e))
  have hl4 : l < w4.heap.size := (Array.getElem?_eq_some_iff.1 hL4).1
  have hb3 : Below w0.heap.size w0 w3 := (hb2.alloc hb2.size _).grown hg3' (by have := hb2.size; simp; omega) (fun k e => (hrow2.lt k e).1)
  have hbl3 : Below w0.heap.size W w3 := (hbl2.alloc hb2.size _).grown hg3' (by have := hb2.size; simp; omega) (fun k e => (hrow2.lt k e).1)
  have hb4 : Below w0.heap.size w0 w4 := hb3.grown hg4 hb3.size (fun k e => by cases e; exact h0B)
  have hbl4 : Below w0.heap.size W w4 := hbl3.grown hg4 hb3.size (fun k e => by cases e; exact h0B)
  clear hw4
  refine ⟨_, _, run_endRound none hL4, rfl, ⟨⟨_, (World.putObj_heap_other hBl).trans hv4, ?_, by simp⟩, (World.putObj_heap_other hCl).trans hC4, World.putObj_heap_same hl4, (World.putObj_heap_other hDl).trans hK4, hb4.grown (grownBy_putObj _ _ _) hb4.size (fun k e => by cases e; exact h0l)⟩, hbl4.grown (grownBy_putObj _ _ _) hb4.size (fun k e => by cases e; exact h0l)⟩
  have := hrow4.kept (grownBy_putObj w4 l (.loop { { tnRec fn sv fv Bs D .ready none with state := .busy } with state := if (none : Option Code).isNone then .ready else .done, pending := none })) (row_ne hrow4 hL4 (fun cur e => by cases e))
  rw [prs_snoc]
  simpa using this
end Go.Proofs.YtdnjagnechibhaaGreatDoor.Sb
