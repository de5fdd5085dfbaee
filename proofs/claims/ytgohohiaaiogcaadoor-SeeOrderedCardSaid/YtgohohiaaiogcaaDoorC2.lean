/- What is proved: what each function of this program computes, as equations on the evaluator. No condition. -/
import Derived.Test.YtgohohiaaiogcaaDoorC1
import Derived.KernelRfl
import Derived.Test.YtgohohiaaiogcaaDoorS0
set_option linter.all false
namespace Go.Proofs.YtgohohiaaiogcaaDoor.Vm
open Go Go.Ev
set_option maxRecDepth 100000
attribute [local go_sem] cells_any storable_any ren1_any shaped_ptr cells_ptr storable_ptr ren1_ptr shaped_eptr cells_eptr storable_eptr ren1_eptr shaped_rsl cells_rsl storable_rsl ren1_rsl shaped_int cells_int storable_int ren1_int shaped_bool cells_bool storable_bool ren1_bool shaped_nils cells_nils storable_nils ren1_nils shaped_lst cells_lst storable_lst shaped_fn cells_fn storable_fn ren1_fn shaped_ifc cells_ifc storable_ifc ren1_ifc shaped_agg cells_agg storable_agg ren1_agg shaped_tup cells_tup storable_tup ren1_tup shaped_nif cells_nif storable_nif ren1_nif ren1_lany ren1_lfull ren1_lown len_lst len_rsl len_nil load_ptr load_eptr isRsl_lst isRsl_nil isRsl_rsl elems_nil elems_lst elems_sl isRsl_sl body_eq bodyK_normal bodyK_ret resK_some leaveK_some only_some code_skip code_exit code_ret code_ops code_seq code_cond code_block seqK_normal seqK_ret seqK_exit condK_true condK_false blockK_normal blockK_ret blockK_exit opsK_some ops_nil ops_cons wantK_true wantK_false stepK_some pubs pub pub_sl params okRef_loc storable_loc shaped_loc cells_loc isRsl_loc elems_loc len_loc untips untip untip_sl wantedAV setElems withO isAgg_v isAgg_agg isAgg_lst isAgg_ptr isAgg_fn isAgg_ifc isAgg_rsl isAgg_sl isAgg_loc List.replicate_succ List.replicate_zero opAV valAV aval avals ofVal Env.get setD canon gcAV renAll renEnv renStore renCells ren1_sl cutSt okEnv okStore okRefs okRef okRef_sl bin_int bin_bool bin_lst bin_rsl bin_nil bin_agg cellsEq cellEq isShift intOp boolOp min_int max_int beq_int bne resAV tupAV leave_eq fin_sl fin_loc fins fin_v fin_lst fin_agg fin_tup fin_fn storeAV readCells putCells cells_sl shaped_sl storable_sl fieldAddrAV len_sl goI List.getElem?_cons_zero List.getElem?_cons_succ List.getElem?_nil Option.bind_some Option.map_some List.length_cons List.length_nil List.all_cons List.all_nil Bool.and_true Bool.true_and Bool.and_false Bool.false_and and_true true_and and_false false_and Bool.false_eq_true List.set_cons_zero List.set_cons_succ List.append_nil List.nil_append List.cons_append List.take_zero List.take_succ_cons List.take_nil List.drop_zero List.drop_succ_cons List.map_cons List.map_nil decide_true decide_false beq_self_eq_true Bool.not_true Bool.not_false or_true true_or or_false false_or Nat.zero_add Nat.add_zero Nat.le_refl Nat.lt_irrefl decide_eq_true_eq eq_self_iff_true not_true_eq_false not_false_eq_true List.getD_cons_zero code_loop Nat.zero_le Nat.not_lt_zero Bool.true_beq Bool.false_beq beq_true beq_false ge_iff_le gt_iff_lt Lpure pus Option.map_none assert_ifc assert_nil idxA_ptr idxA_eptr idxV_agg Int.cast_ofNat_Int Nat.mul_one Nat.zero_mul Int.toNat_natCast Int.toNat_zero setParts withO2 hasKey eqnil_sl nenil_sl eqnil_loc nenil_loc map_nil_iff okRefs_ints renCells_ints

/-! ### lists of whatever form, compared -/
def IsL (st : St) (A : AV) (xs : List Int) : Prop := lenAV A = some (I xs.length) ∧ ∃ p : Nat → AV, ∀ i : Nat, i < xs.length → indexSAV 1 A (.v (.int .i64 (i : Int))) = some (p i) ∧ loadAV 1 false st (p i) = some (I (xs.getD i 0))
theorem isL_lst (st : St) (g : Tag) (xs : List Int) : IsL st (.lst g 1 (xs.map I)) xs := by
  refine ⟨by rw [len_lst, List.length_map], fun i => .eptr (I (xs.getD i 0)) 0, fun i hi => ⟨?_, rfl⟩⟩
  simp [indexSAV, hi]
theorem isL_lstJ (st : St) (g : Tag) (c : List Nat) : IsL st (.lst g 1 (c.map J)) (c.map fun (x : Nat) => (x : Int)) := by
  have := isL_lst st g (c.map fun (x : Nat) => (x : Int))
  rw [List.map_map] at this
  exact this
theorem isL_rsl {st : St} {l : Nat} {c : List Nat} (h : st.store[l]? = some (c.map J)) (m : Nat) : IsL st (.rsl l 0 c.length m 1 false) (c.map fun (x : Nat) => (x : Int)) := by
  refine ⟨by rw [len_rsl, List.length_map], fun i => .ptr l i, fun i hi => ?_⟩
  rw [List.length_map] at hi
  refine ⟨?_, ?_⟩
  · rw [index_rsl_if, if_pos ⟨by omega, by omega⟩]
    simp
  · rw [load_ptr, h]
    show (c.map J)[i]? = _
    rw [getJ c i hi]
    congr 2
    rw [List.getD_eq_getElem?_getD, List.getD_eq_getElem?_getD, List.getElem?_map, List.getElem?_eq_getElem hi]
    rfl

theorem loop48v (st0 : St) (A Bv : AV) (xs ys : List Int) (hlen : xs.length < 1000000) (pA pB : Nat → AV) (hlB : lenAV Bv = some (I ys.length)) (hA : ∀ i : Nat, i < xs.length → indexSAV 1 A (.v (.int .i64 (i : Int))) = some (pA i) ∧ loadAV 1 false st0 (pA i) = some (I (xs.getD i 0))) (hB : ∀ i : Nat, i < ys.length → indexSAV 1 Bv (.v (.int .i64 (i : Int))) = some (pB i) ∧ loadAV 1 false st0 (pB i) = some (I (ys.getD i 0))) (lo hi : Nat) (i : Nat) (hok : i ≤ xs.length ∧ i ≤ ys.length) (env : Env) (st : St)
    (hg : gcAV false lo hi (canon env [0, 1, 9, 10, 11]) st = ([(0, A), (1, Bv), (9, A), (10, I xs.length), (11, I i)], st0)) :
    ∃ x_1 en s, lim (headed pure (run L) false [0, 1, 9, 10, 11] lp48_0 lo hi) env st = some (x_1, en, s) ∧ (s = st0 ∧ ((x_1 = .exit 0 ∧ en.get 0 = A ∧ en.get 1 = Bv ∧ cmpN (xs.drop i) (ys.drop i) = if xs.length < ys.length then -1 else 0) ∨ (x_1 = .ret ∧ en.get 4 = I (cmpN (xs.drop i) (ys.drop i))))) := by
  refine loop_wp (α := Nat) (fun i => xs.length - i) (fun i => i ≤ xs.length ∧ i ≤ ys.length) (fun i => ([(0, A), (1, Bv), (9, A), (10, I xs.length), (11, I i)], st0)) (fun i x_1 en s => s = st0 ∧ ((x_1 = .exit 0 ∧ en.get 0 = A ∧ en.get 1 = Bv ∧ cmpN (xs.drop i) (ys.drop i) = if xs.length < ys.length then -1 else 0) ∨ (x_1 = .ret ∧ en.get 4 = I (cmpN (xs.drop i) (ys.drop i))))) (fun i hok => ?_) i hok env st hg
  obtain ⟨hok1, hok2⟩ := hok
  by_cases h : i < xs.length
  · obtain ⟨hx, hx2⟩ := hA i h
    have hs := succ64 i (by omega)
    have hd : xs.drop i = xs.getD i 0 :: xs.drop (i + 1) := by
      rw [List.getD_eq_getElem?_getD, List.getElem?_eq_getElem h]; exact List.drop_eq_getElem_cons h
    have hlt : ((i : Int) < (xs.length : Int)) = True := eq_true (by omega)
    rw [hd]
    by_cases h2 : i < ys.length
    · obtain ⟨hy, hy2⟩ := hB i h2
      have hd2 : ys.drop i = ys.getD i 0 :: ys.drop (i + 1) := by
        rw [List.getD_eq_getElem?_getD, List.getElem?_eq_getElem h2]; exact List.drop_eq_getElem_cons h2
      have hge : ((ys.length : Int) ≤ (i : Int)) = False := eq_false (by omega)
      rw [hd2]
      generalize xs.getD i 0 = a at *
      generalize ys.getD i 0 = b at *
      have hcn : cmpN (a :: xs.drop (i + 1)) (b :: ys.drop (i + 1)) = if a < b then -1 else if b < a then 1 else cmpN (xs.drop (i + 1)) (ys.drop (i + 1)) := rfl
      rw [hcn]
      by_cases p1 : a < b
      · simp only [go_sem, reduceIte, Nat.reduceEqDiff, Nat.reduceAdd, Nat.reduceSub, Nat.reduceLeDiff, Nat.reduceLT, reduceCtorEq, Int.reduceLT, Int.reduceLE, Int.reduceEq, Int.reduceBEq, Int.reduceSub, Int.reduceAdd, Int.reduceMul, Int.reduceNeg, Int.reduceToNat, Nat.reduceMul, Nat.reduceBEq, index_rsl_if, setm, make_ints, condK_dec, wantK_dec, not_dec, and_dec, or_dec, seqK_ite, seqK_none, blockK_ite, blockK_none, opsK_ite, opsK_none, stepK_ite, stepK_none, bodyK_ite, bodyK_none, resK_ite, resK_none, leaveK_ite, leaveK_none, only_ite, only_none, bind_ite, gives_some, gives_none, gives_ite, then_normal, then_ret, then_exit, then_none, then_ite, Option.bind_none, Bool.not_eq_true', decide_eq_false_iff_not, Bool.and_eq_true, Bool.or_eq_true, Option.some.injEq, Int.not_lt, Int.not_le, lp48_0, hx, hy, hx2, hy2, hlB, hlt, hge, c86, p1, List.length_map]
      · by_cases p2 : b < a
        · simp only [go_sem, reduceIte, Nat.reduceEqDiff, Nat.reduceAdd, Nat.reduceSub, Nat.reduceLeDiff, Nat.reduceLT, reduceCtorEq, Int.reduceLT, Int.reduceLE, Int.reduceEq, Int.reduceBEq, Int.reduceSub, Int.reduceAdd, Int.reduceMul, Int.reduceNeg, Int.reduceToNat, Nat.reduceMul, Nat.reduceBEq, index_rsl_if, setm, make_ints, condK_dec, wantK_dec, not_dec, and_dec, or_dec, seqK_ite, seqK_none, blockK_ite, blockK_none, opsK_ite, opsK_none, stepK_ite, stepK_none, bodyK_ite, bodyK_none, resK_ite, resK_none, leaveK_ite, leaveK_none, only_ite, only_none, bind_ite, gives_some, gives_none, gives_ite, then_normal, then_ret, then_exit, then_none, then_ite, Option.bind_none, Bool.not_eq_true', decide_eq_false_iff_not, Bool.and_eq_true, Bool.or_eq_true, Option.some.injEq, Int.not_lt, Int.not_le, lp48_0, hx, hy, hx2, hy2, hlB, hlt, hge, c86, p1, p2, List.length_map]
        · simp only [go_sem, reduceIte, Nat.reduceEqDiff, Nat.reduceAdd, Nat.reduceSub, Nat.reduceLeDiff, Nat.reduceLT, reduceCtorEq, Int.reduceLT, Int.reduceLE, Int.reduceEq, Int.reduceBEq, Int.reduceSub, Int.reduceAdd, Int.reduceMul, Int.reduceNeg, Int.reduceToNat, Nat.reduceMul, Nat.reduceBEq, index_rsl_if, setm, make_ints, condK_dec, wantK_dec, not_dec, and_dec, or_dec, seqK_ite, seqK_none, blockK_ite, blockK_none, opsK_ite, opsK_none, stepK_ite, stepK_none, bodyK_ite, bodyK_none, resK_ite, resK_none, leaveK_ite, leaveK_none, only_ite, only_none, bind_ite, gives_some, gives_none, gives_ite, then_normal, then_ret, then_exit, then_none, then_ite, Option.bind_none, Bool.not_eq_true', decide_eq_false_iff_not, Bool.and_eq_true, Bool.or_eq_true, Option.some.injEq, Int.not_lt, Int.not_le, lp48_0, hx, hy, hx2, hy2, hlB, hlt, hge, c86, p1, p2, hs, List.length_map]
          refine ⟨i + 1, by simp only [go_sem, reduceIte, Nat.reduceEqDiff, Nat.reduceAdd, Nat.reduceSub, Nat.reduceLeDiff, Nat.reduceLT, reduceCtorEq, Int.reduceLT, Int.reduceLE, Int.reduceEq, Int.reduceBEq, Int.reduceSub, Int.reduceAdd, Int.reduceMul, Int.reduceNeg, Int.reduceToNat, Nat.reduceMul, Nat.reduceBEq, ren1_locm, loc_tips, locT_eq] <;> rfl, ?_, ?_, fun x en s hq => ?_⟩
          · omega
          · omega
          · exact hq
    · have hd2 : ys.drop i = [] := List.drop_eq_nil_of_le (by omega)
      have hge : ((ys.length : Int) ≤ (i : Int)) = True := eq_true (by omega)
      rw [hd2]
      generalize xs.getD i 0 = a at *
      simp only [go_sem, reduceIte, Nat.reduceEqDiff, Nat.reduceAdd, Nat.reduceSub, Nat.reduceLeDiff, Nat.reduceLT, reduceCtorEq, Int.reduceLT, Int.reduceLE, Int.reduceEq, Int.reduceBEq, Int.reduceSub, Int.reduceAdd, Int.reduceMul, Int.reduceNeg, Int.reduceToNat, Nat.reduceMul, Nat.reduceBEq, index_rsl_if, setm, make_ints, condK_dec, wantK_dec, not_dec, and_dec, or_dec, seqK_ite, seqK_none, blockK_ite, blockK_none, opsK_ite, opsK_none, stepK_ite, stepK_none, bodyK_ite, bodyK_none, resK_ite, resK_none, leaveK_ite, leaveK_none, only_ite, only_none, bind_ite, gives_some, gives_none, gives_ite, then_normal, then_ret, then_exit, then_none, then_ite, Option.bind_none, Bool.not_eq_true', decide_eq_false_iff_not, Bool.and_eq_true, Bool.or_eq_true, Option.some.injEq, Int.not_lt, Int.not_le, lp48_0, hx, hx2, hlB, hlt, hge, cmpN, List.length_map]
  · have hd : xs.drop i = [] := List.drop_eq_nil_of_le (by omega)
    have hlt : ((i : Int) < (xs.length : Int)) = False := eq_false (by omega)
    have hl2 : (ys.drop i).length = ys.length - i := List.length_drop
    rw [hd, cmpN_nil, hl2]
    simp only [go_sem, reduceIte, Nat.reduceEqDiff, Nat.reduceAdd, Nat.reduceSub, Nat.reduceLeDiff, Nat.reduceLT, reduceCtorEq, Int.reduceLT, Int.reduceLE, Int.reduceEq, Int.reduceBEq, Int.reduceSub, Int.reduceAdd, Int.reduceMul, Int.reduceNeg, Int.reduceToNat, Nat.reduceMul, Nat.reduceBEq, index_rsl_if, setm, make_ints, condK_dec, wantK_dec, not_dec, and_dec, or_dec, seqK_ite, seqK_none, blockK_ite, blockK_none, opsK_ite, opsK_none, stepK_ite, stepK_none, bodyK_ite, bodyK_none, resK_ite, resK_none, leaveK_ite, leaveK_none, only_ite, only_none, bind_ite, gives_some, gives_none, gives_ite, then_normal, then_ret, then_exit, then_none, then_ite, Option.bind_none, Bool.not_eq_true', decide_eq_false_iff_not, Bool.and_eq_true, Bool.or_eq_true, Option.some.injEq, Int.not_lt, Int.not_le, lp48_0, hlt, List.length_map]
    have e : (0 < ys.length - i) = (xs.length < ys.length) := propext (by omega)
    simp only [e]

theorem c48v (A Bv : AV) (xs ys : List Int) (hlen : xs.length < 1000000) (st : St) (hA : IsL st A xs) (hB : IsL st Bv ys) : run L 48 [A, Bv] st = some (I (cmpN xs ys), st) := by
  rw [run_shared (fn := ir48) rfl rfl]
  obtain ⟨hlA, pA, hA⟩ := hA
  obtain ⟨hlB, pB, hB⟩ := hB
  simp only [ir48, go_sem, reduceIte, Nat.reduceEqDiff, Nat.reduceAdd, Nat.reduceSub, Nat.reduceLeDiff, Nat.reduceLT, reduceCtorEq, Int.reduceLT, Int.reduceLE, Int.reduceEq, Int.reduceBEq, Int.reduceSub, Int.reduceAdd, Int.reduceMul, Int.reduceNeg, Int.reduceToNat, Nat.reduceMul, Nat.reduceBEq, hlA]
  generalize hg : lim (headed pure (run L) false _ lp48_0 _ _) _ _ = o
  obtain ⟨x, en, s, rfl, h2⟩ : ∃ x en s, o = some (x, en, s) ∧ _ := by rw [← hg]; exact loop48v st A Bv xs ys hlen pA pB hlB hA hB _ _ 0 ⟨by omega, by omega⟩ _ _ (by simp only [go_sem, reduceIte, Nat.reduceEqDiff, Nat.reduceAdd, Nat.reduceSub, Nat.reduceLeDiff, Nat.reduceLT, reduceCtorEq, Int.reduceLT, Int.reduceLE, Int.reduceEq, Int.reduceBEq, Int.reduceSub, Int.reduceAdd, Int.reduceMul, Int.reduceNeg, Int.reduceToNat, Nat.reduceMul, Nat.reduceBEq] <;> rfl)
  clear hg
  simp only [List.drop_zero] at h2
  obtain ⟨rfl, h2⟩ := h2
  rcases h2 with ⟨rfl, h3, h4, h5⟩ | ⟨rfl, h3⟩
  · rw [h5]
    by_cases p : xs.length < ys.length
    · have q : ((xs.length : Int) < (ys.length : Int)) = True := eq_true (by omega)
      rw [if_pos p]
      simp only [go_sem, reduceIte, Nat.reduceEqDiff, Nat.reduceAdd, Nat.reduceSub, Nat.reduceLeDiff, Nat.reduceLT, reduceCtorEq, Int.reduceLT, Int.reduceLE, Int.reduceEq, Int.reduceBEq, Int.reduceSub, Int.reduceAdd, Int.reduceMul, Int.reduceNeg, Int.reduceToNat, Nat.reduceMul, Nat.reduceBEq, h3, h4, hlA, hlB, q]
    · have q : ((xs.length : Int) < (ys.length : Int)) = False := eq_false (by omega)
      rw [if_neg p]
      simp only [go_sem, reduceIte, Nat.reduceEqDiff, Nat.reduceAdd, Nat.reduceSub, Nat.reduceLeDiff, Nat.reduceLT, reduceCtorEq, Int.reduceLT, Int.reduceLE, Int.reduceEq, Int.reduceBEq, Int.reduceSub, Int.reduceAdd, Int.reduceMul, Int.reduceNeg, Int.reduceToNat, Nat.reduceMul, Nat.reduceBEq, h3, h4, hlA, hlB, q]
  · simp only [go_sem, reduceIte, Nat.reduceEqDiff, Nat.reduceAdd, Nat.reduceSub, Nat.reduceLeDiff, Nat.reduceLT, reduceCtorEq, Int.reduceLT, Int.reduceLE, Int.reduceEq, Int.reduceBEq, Int.reduceSub, Int.reduceAdd, Int.reduceMul, Int.reduceNeg, Int.reduceToNat, Nat.reduceMul, Nat.reduceBEq, h3]
theorem flat_J (c : List Nat) : flatAV (c.map J) = c.map J := by
  unfold flatAV
  induction c with
  | nil => rfl
  | cons x r ih => rw [List.map_cons, List.flatMap_cons, ih]; rfl
/-- A copy that may be written. -/
theorem c58 (g : Tag) (c : List Nat) (h : c ≠ []) (hl : c.length ≤ 1000) : run L 58 [.lst g 1 (c.map J)] ⟨[], []⟩ = some (.rsl 0 0 c.length c.length 1 false, ⟨[c.map J], []⟩) := by
  rw [run_shared (fn := ir58) rfl rfl]
  have hm : c.length ≤ maxGrow := by unfold maxGrow; omega
  have hf : flatAV (c.map J) = c.map J := flat_J c
  have hap : appendmAV 1 false (.lst .full 1 []) (c.map J) ⟨[], []⟩ = some (.rsl 0 0 c.length c.length 1 false, ⟨[c.map J], []⟩) := by
    cases c with
    | nil => exact absurd rfl h
    | cons x r =>
      rw [List.map_cons] at hf ⊢
      simp only [appendmAV, newM, List.nil_append, if_true, List.length_cons, List.length_map] at hm ⊢
      rw [if_pos hm, hf]
      simp
  simp only [ir58, go_sem, reduceIte, Nat.reduceEqDiff, Nat.reduceAdd, Nat.reduceSub, Nat.reduceLeDiff, Nat.reduceLT, reduceCtorEq, Int.reduceLT, Int.reduceLE, Int.reduceEq, Int.reduceBEq, Int.reduceSub, Int.reduceAdd, Int.reduceMul, Int.reduceNeg, Int.reduceToNat, Nat.reduceMul, Nat.reduceBEq, hap]


/-! ### the first goal: the first shortest odd circle -/
def up (c : List Nat) : List Int := c.map fun (x : Nat) => (x : Int)
theorem up_len (c : List Nat) : (up c).length = c.length := by simp [up]
theorem up_J (c : List Nat) : (up c).map I = c.map J := by simp [up, List.map_map, Function.comp]
def better (o : Option (List Nat)) (c : List Nat) : Bool :=
  decide (c.length % 2 = 1) && match o with | none => true | some b => decide (c.length < b.length) || (decide (c.length = b.length) && lexLt (up c) (up b))
def clS (X : List (List Nat)) (c : List Nat) : List (List Nat) := if better X.getLast? c = true then X ++ [c] else X
/-- The circles that were the best ones when they came. -/
def clL (cs : List (List Nat)) : List (List Nat) := cs.foldl clS []
theorem clL_snoc (cs : List (List Nat)) (c : List Nat) : clL (cs ++ [c]) = clS (clL cs) c := by simp [clL]
theorem clS_odd {X : List (List Nat)} (h : ∀ c ∈ X, c.length % 2 = 1) (c : List Nat) : ∀ x ∈ clS X c, x.length % 2 = 1 := by
  unfold clS
  split
  · next hb =>
    intro x hx
    rcases List.mem_append.1 hx with hx | hx
    · exact h x hx
    · simp at hx; subst hx
      unfold better at hb
      rw [Bool.and_eq_true, decide_eq_true_iff] at hb; exact hb.1
  · exact h
theorem foldl_odd : ∀ (cs X : List (List Nat)), (∀ c ∈ X, c.length % 2 = 1) → ∀ x ∈ cs.foldl clS X, x.length % 2 = 1
  | [], _, h => h
  | c :: r, X, h => foldl_odd r _ (clS_odd h c)
theorem clL_odd (cs : List (List Nat)) : ∀ x ∈ clL cs, x.length % 2 = 1 := foldl_odd cs [] (by simp)
theorem clS_len (X : List (List Nat)) (c : List Nat) : X.length ≤ (clS X c).length := by
  unfold clS; split <;> simp
theorem foldl_len : ∀ (cs X : List (List Nat)), X.length ≤ (cs.foldl clS X).length
  | [], _ => Nat.le_refl _
  | c :: r, X => Nat.le_trans (clS_len X c) (foldl_len r _)
theorem clL_mono (cs cs' : List (List Nat)) : (clL cs).length ≤ (clL (cs ++ cs')).length := by
  unfold clL; rw [List.foldl_append]; exact foldl_len cs' _
def obX (d : Nat) (X : List (List Nat)) : AV :=
  match X.getLast? with
  | none => .v (.slice none 0 0)
  | some b => .rsl (d + (3 + X.length)) 0 b.length b.length 1 false
def goalO : Goal := ⟨101, 145, fun d cs => [obX d (clL cs)], fun _ cs => (clL cs).map fun c => c.map J⟩
theorem noLs_J : ∀ c : List Nat, noLs (c.map J) = true
  | [] => rfl
  | x :: r => by simp only [List.map_cons, noLs, noL, noLs_J r, Bool.and_true]
theorem noLs_U : ∀ c : List Nat, noLs (c.map U) = true
  | [] => rfl
  | x :: r => by simp only [List.map_cons, noLs, noL, noLs_U r, Bool.and_true]
theorem visB_J {c : List Nat} (h : c ≠ []) : visB (c.map J) = true := by
  unfold visB
  rw [noLs_J]
  cases c with
  | nil => exact absurd rfl h
  | cons x r => rfl
theorem visB_web (n : Int) (w : List Nat) : visB (webC n w) = true := by
  unfold visB webC
  simp only [noLs, noL, noLs_U]
  rfl
theorem visR_J (st : St) (c : List Nat) : ∀ v ∈ c.map J, visR st v = true := by
  intro v hv
  obtain ⟨x, _, rfl⟩ := List.mem_map.1 hv
  exact visR_v _ _
theorem visR_web (st : St) (n : Int) (w : List Nat) : ∀ v ∈ webC n w, visR st v = true := by
  intro v hv
  unfold webC at hv
  rcases List.mem_cons.1 hv with rfl | hv
  · exact visR_v _ _
  · obtain ⟨x, _, rfl⟩ := List.mem_map.1 hv
    exact visR_v _ _
theorem visN_at {A D : List (List AV)} {d : Nat} (hD : D.length = d) (hA : ∀ x ∈ A, visB x = true) (k : Nat) (hk : k < A.length) (T : List Nat) : visN ⟨D ++ A, T⟩ (d + k) = true := by
  unfold visN
  simp only
  rw [get_app hD, List.getElem?_eq_getElem hk]
  exact hA _ (List.getElem_mem hk)
theorem from_vis {A D : List (List AV)} {d : Nat} (hD : D.length = d) (hA : ∀ x ∈ A, visB x = true) (hk : 4 ≤ A.length) (T : List Nat) : visR ⟨D ++ A, T⟩ (fromV d) = true := by
  unfold fromV
  simp only [visR, visRs, visN_at hD hA 1 (by omega), visN_at hD hA 2 (by omega), visN_at hD hA 3 (by omega), Bool.and_true]
theorem visO (d : Nat) (n : Int) (w : List Nat) (cs : List (List Nat)) (D : List (List AV)) (T : List Nat) (hD : D.length = d) : ∀ x ∈ layG goalO d n w cs, visB x = true ∧ ∀ v ∈ x, visR ⟨D ++ layG goalO d n w cs, T⟩ v = true := by
  have hodd := clL_odd cs
  have hA : ∀ x ∈ layG goalO d n w cs, visB x = true := by
    intro x hx
    unfold layG goalO at hx
    simp only [List.mem_cons] at hx
    rcases hx with rfl | rfl | rfl | rfl | hx
    · unfold obX; split <;> rfl
    · exact visB_web n w
    · rfl
    · rfl
    · obtain ⟨c, hc, rfl⟩ := List.mem_map.1 hx
      refine visB_J fun e => ?_
      have := hodd c hc
      rw [e] at this; simp at this
  have hlen : (layG goalO d n w cs).length = 4 + (clL cs).length := by simp [layG, goalO]; omega
  intro x hx
  refine ⟨hA x hx, ?_⟩
  have hx' := hx
  unfold layG at hx'
  simp only [List.mem_cons] at hx'
  intro v hv
  rcases hx' with rfl | rfl | rfl | rfl | hx'
  · have hv' : v = obX d (clL cs) := by simpa [goalO] using hv
    subst hv'
    unfold obX
    cases hl : (clL cs).getLast? with
    | none => exact visR_v _ _
    | some b =>
      have hpos : 0 < (clL cs).length := by
        cases h : clL cs with
        | nil => rw [h] at hl; simp at hl
        | cons a r => simp
      simp only [visR]
      exact visN_at hD hA _ (by omega) T
  · exact visR_web _ _ _ v hv
  · simp at hv; subst hv
    simp only [visR]
    exact visN_at hD hA 0 (by omega) T
  · simp at hv; subst hv
    exact from_vis hD hA (by omega) T
  · have hx2 : x ∈ (clL cs).map fun c => c.map J := hx'
    obtain ⟨c, _, rfl⟩ := List.mem_map.1 hx2
    exact visR_J _ _ v hv
theorem shVs_J (n : Nat) : ∀ c : List Nat, shVs n (c.map J) = c.map J
  | [] => rfl
  | x :: r => by simp only [List.map_cons, shVs, shV, shVs_J n r]


theorem obX_snoc (d : Nat) (X : List (List Nat)) (c : List Nat) : obX d (X ++ [c]) = .rsl (d + (4 + X.length)) 0 c.length c.length 1 false := by
  unfold obX
  rw [List.getLast?_concat]
  simp only [List.length_append, List.length_singleton]
  rw [show 3 + (X.length + 1) = 4 + X.length by omega]
theorem layO (d : Nat) (n : Int) (w : List Nat) (cs : List (List Nat)) : layG goalO d n w cs = [obX d (clL cs)] :: webC n w :: [.ifc 101 (.ptr d 0)] :: [fromV d] :: (clL cs).map fun c => c.map J := rfl

set_option maxHeartbeats 2000000 in
theorem c145 (d : Nat) (n : Int) (w : List Nat) (cs : List (List Nat)) (c : List Nat) (g : Tag) (T : List Nat) (D : List (List AV)) (hD : D.length = d) (h2 : 2 ≤ c.length) (h7 : c.length ≤ 7) :
    run L 145 [.ptr d 0, .lst g 1 (c.map J)] ⟨D ++ layG goalO d n w cs, T⟩ = some (.tup [], ⟨D ++ layG goalO d n w (cs ++ [c]), T⟩) := by
  rw [run_shared (fn := ir145) rfl rfl, layO, layO, clL_snoc]
  have hodd := clL_odd cs
  have hcne : c ≠ [] := by intro e; subst e; simp at h2
  generalize clL cs = X at *
  have ht2 : (c.length : Int).tmod 2 = ((c.length % 2 : Nat) : Int) := tmod_nat c.length 2
  have g0 := get_app hD ([obX d X] :: webC n w :: [.ifc 101 (.ptr d 0)] :: [fromV d] :: X.map fun c => c.map J) 0
  rw [Nat.add_zero, List.getElem?_cons_zero] at g0
  have h58 := c58 .any c hcne (by omega)
  have hlen : (D ++ ([obX d X] :: webC n w :: [.ifc 101 (.ptr d 0)] :: [fromV d] :: X.map fun c => c.map J)).length = d + (4 + X.length) := by rw [List.length_append, hD]; simp; omega
  have gX : (D ++ ([obX d X] :: webC n w :: [.ifc 101 (.ptr d 0)] :: [fromV d] :: X.map fun c => c.map J) ++ [c.map J])[d]? = some [obX d X] := by
    rw [List.getElem?_append_left (by rw [hlen]; omega)]; exact g0
  have sX : (D ++ ([obX d X] :: webC n w :: [.ifc 101 (.ptr d 0)] :: [fromV d] :: X.map fun c => c.map J) ++ [c.map J]).set d [.rsl (d + (4 + X.length)) 0 c.length c.length 1 false] = D ++ ([obX d (X ++ [c])] :: webC n w :: [.ifc 101 (.ptr d 0)] :: [fromV d] :: (X ++ [c]).map fun c => c.map J) := by
    rw [List.append_assoc]
    have := set_app hD (([obX d X] :: webC n w :: [.ifc 101 (.ptr d 0)] :: [fromV d] :: X.map fun c => c.map J) ++ [c.map J]) 0 [.rsl (d + (4 + X.length)) 0 c.length c.length 1 false]
    rw [Nat.add_zero] at this
    rw [this, obX_snoc]
    simp
  have hbt : better X.getLast? c = (decide (c.length % 2 = 1) && match X.getLast? with | none => true | some b => decide (c.length < b.length) || (decide (c.length = b.length) && lexLt (up c) (up b))) := rfl
  by_cases p : c.length % 2 = 1
  · have q : (((c.length % 2 : Nat) : Int) = 1) = True := eq_true (by omega)
    cases hl : X.getLast? with
    | none =>
      have e : clS X c = X ++ [c] := by unfold clS; rw [if_pos (by rw [hbt, hl]; simp [p])]
      have eo : obX d X = .v (.slice none 0 0) := by unfold obX; rw [hl]
      rw [e]
      rw [eo] at g0 gX hlen sX ⊢
      simp only [ir145, go_sem, reduceIte, Nat.reduceEqDiff, Nat.reduceAdd, Nat.reduceSub, Nat.reduceLeDiff, Nat.reduceLT, reduceCtorEq, Int.reduceLT, Int.reduceLE, Int.reduceEq, Int.reduceBEq, Int.reduceSub, Int.reduceAdd, Int.reduceMul, Int.reduceNeg, Int.reduceToNat, Nat.reduceMul, Nat.reduceBEq, ht2, q, g0, h58, shV, shVs_J, shStore, hlen, gX, sX, show pure 58 = false from rfl, List.length_map]
    | some b =>
      have hpos : 0 < X.length := by
        cases h : X with
        | nil => rw [h] at hl; simp at hl
        | cons a r => simp
      have eo : obX d X = .rsl (d + (3 + X.length)) 0 b.length b.length 1 false := by unfold obX; rw [hl]
      have hgl : X[X.length - 1]? = some b := by rw [← List.getLast?_eq_getElem?]; exact hl
      have gb : (D ++ ([obX d X] :: webC n w :: [.ifc 101 (.ptr d 0)] :: [fromV d] :: X.map fun c => c.map J))[d + (3 + X.length)]? = some (b.map J) := by
        rw [get_app hD, show 3 + X.length = X.length - 1 + 4 by omega]
        simp only [List.getElem?_cons_succ, List.getElem?_map, hgl, Option.map_some]
      have hcmp := fun st (hst : st.store = D ++ ([obX d X] :: webC n w :: [.ifc 101 (.ptr d 0)] :: [fromV d] :: X.map fun c => c.map J)) => c48v (.lst g 1 (c.map J)) (.rsl (d + (3 + X.length)) 0 b.length b.length 1 false) (up c) (up b) (by rw [up_len]; omega) st (isL_lstJ st g c) (isL_rsl (by rw [hst]; exact gb) b.length)
      have hcmp1 := hcmp ⟨D ++ ([obX d X] :: webC n w :: [.ifc 101 (.ptr d 0)] :: [fromV d] :: X.map fun c => c.map J), T⟩ rfl
      have hlx := cmpN_lt (up c) (up b)
      rw [eo] at g0 gX hlen sX hcmp1
      by_cases p1 : c.length < b.length
      · have e : clS X c = X ++ [c] := by unfold clS; rw [if_pos (by rw [hbt, hl]; simp [p, p1])]
        have q1 : ((c.length : Int) < (b.length : Int)) = True := eq_true (by omega)
        rw [e, eo]
        simp only [ir145, go_sem, reduceIte, Nat.reduceEqDiff, Nat.reduceAdd, Nat.reduceSub, Nat.reduceLeDiff, Nat.reduceLT, reduceCtorEq, Int.reduceLT, Int.reduceLE, Int.reduceEq, Int.reduceBEq, Int.reduceSub, Int.reduceAdd, Int.reduceMul, Int.reduceNeg, Int.reduceToNat, Nat.reduceMul, Nat.reduceBEq, ht2, q, q1, g0, h58, shV, shVs_J, shStore, hlen, gX, sX, show pure 58 = false from rfl, List.length_map]
      · have q1 : ((c.length : Int) < (b.length : Int)) = False := eq_false (by omega)
        by_cases p2 : c.length = b.length
        · have q2 : ((c.length : Int) = (b.length : Int)) = True := eq_true (by omega)
          by_cases p3 : cmpN (up c) (up b) < 0
          · have hx3 : lexLt (up c) (up b) = true := by rw [← hlx]; exact decide_eq_true p3
            have e : clS X c = X ++ [c] := by unfold clS; rw [if_pos (by rw [hbt, hl]; simp [p2, hx3, show b.length % 2 = 1 by omega])]
            rw [e, eo]
            simp only [ir145, go_sem, reduceIte, Nat.reduceEqDiff, Nat.reduceAdd, Nat.reduceSub, Nat.reduceLeDiff, Nat.reduceLT, reduceCtorEq, Int.reduceLT, Int.reduceLE, Int.reduceEq, Int.reduceBEq, Int.reduceSub, Int.reduceAdd, Int.reduceMul, Int.reduceNeg, Int.reduceToNat, Nat.reduceMul, Nat.reduceBEq, ht2, q, q1, q2, p3, g0, hcmp1, h58, shV, shVs_J, shStore, hlen, gX, sX, show pure 58 = false from rfl, show pure 48 = false from rfl, List.length_map]
          · have hx3 : lexLt (up c) (up b) = false := by rw [← hlx]; exact decide_eq_false p3
            have e : clS X c = X := by unfold clS; rw [if_neg (by rw [hbt, hl]; simp [p2, hx3, show b.length % 2 = 1 by omega])]
            rw [e, eo]
            simp only [ir145, go_sem, reduceIte, Nat.reduceEqDiff, Nat.reduceAdd, Nat.reduceSub, Nat.reduceLeDiff, Nat.reduceLT, reduceCtorEq, Int.reduceLT, Int.reduceLE, Int.reduceEq, Int.reduceBEq, Int.reduceSub, Int.reduceAdd, Int.reduceMul, Int.reduceNeg, Int.reduceToNat, Nat.reduceMul, Nat.reduceBEq, ht2, q, q1, q2, p3, g0, hcmp1, show pure 48 = false from rfl, List.length_map]
        · have q2 : ((c.length : Int) = (b.length : Int)) = False := eq_false (by omega)
          have e : clS X c = X := by unfold clS; rw [if_neg (by rw [hbt, hl]; simp [p, p1, p2])]
          rw [e, eo]
          simp only [ir145, go_sem, reduceIte, Nat.reduceEqDiff, Nat.reduceAdd, Nat.reduceSub, Nat.reduceLeDiff, Nat.reduceLT, reduceCtorEq, Int.reduceLT, Int.reduceLE, Int.reduceEq, Int.reduceBEq, Int.reduceSub, Int.reduceAdd, Int.reduceMul, Int.reduceNeg, Int.reduceToNat, Nat.reduceMul, Nat.reduceBEq, ht2, q, q1, q2, g0, List.length_map]
  · have q : (((c.length % 2 : Nat) : Int) = 1) = False := eq_false (by omega)
    have e : clS X c = X := by unfold clS; rw [if_neg (by rw [hbt]; simp [p])]
    rw [e]
    simp only [ir145, go_sem, reduceIte, Nat.reduceEqDiff, Nat.reduceAdd, Nat.reduceSub, Nat.reduceLeDiff, Nat.reduceLT, reduceCtorEq, Int.reduceLT, Int.reduceLE, Int.reduceEq, Int.reduceBEq, Int.reduceSub, Int.reduceAdd, Int.reduceMul, Int.reduceNeg, Int.reduceToNat, Nat.reduceMul, Nat.reduceBEq, ht2, q, List.length_map]
theorem goalO_ok (d : Nat) (n : Int) (w : List Nat) : GoalOk goalO d n w where
  inv := rfl
  np := rfl
  vis := fun cs D T hD => visO d n w cs D T hD
  take := fun cs c g T D hD h1 h2 _ => c145 d n w cs c g T D hD h1 h2
  mono := fun cs cs' => by
    have := clL_mono cs cs'
    simp [layG, goalO]; omega


/-! ### the second goal: how many circles, and how many on each reference -/
def wr : Nat → Int
  | 0 => 0
  | k + 1 => IntKind.i64.wrap (wr k + 1)
theorem wr_eq : ∀ k : Nat, k < 2 ^ 62 → wr k = k
  | 0, _ => rfl
  | k + 1, h => by
    show IntKind.i64.wrap (wr k + 1) = _
    rw [wr_eq k (by omega), wrap64] <;> omega
def tallyC (tot : Nat) (O : List Nat) : List AV := I (wr tot) :: O.map fun k => I (wr k)
theorem tally_get (tot : Nat) (O : List Nat) (p : Nat) (h : p < O.length) : (tallyC tot O)[1 + p]? = some (I (wr (O.getD p 0))) := by
  unfold tallyC
  rw [Nat.add_comm, List.getElem?_cons_succ, List.getElem?_map, List.getElem?_eq_getElem h, List.getD_eq_getElem?_getD, List.getElem?_eq_getElem h]
  rfl
theorem tally_set (tot : Nat) (O : List Nat) (p k : Nat) : (tallyC tot O).set (1 + p) (I (wr k)) = tallyC tot (O.set p k) := by
  unfold tallyC
  rw [Nat.add_comm, List.set_cons_succ, List.map_set]
theorem tally_len (tot : Nat) (O : List Nat) : (tallyC tot O).length = 1 + O.length := by simp [tallyC]; omega
def atP (c : List Nat) (i : Nat) : Nat := c.getD i 0 * 7 + c.getD ((i + 1) % c.length) 0
def ovS (c : List Nat) (O : List Nat) (i : Nat) : List Nat := O.set (atP c i) (O.getD (atP c i) 0 + 1)
def ovC (O : List Nat) (c : List Nat) : List Nat := (List.range' 0 c.length).foldl (ovS c) O
def ovL (cs : List (List Nat)) : List Nat := cs.foldl ovC (List.replicate 49 0)
theorem ovS_len (c : List Nat) : ∀ (l : List Nat) (O : List Nat), (l.foldl (ovS c) O).length = O.length
  | [], _ => rfl
  | i :: r, O => by rw [List.foldl_cons, ovS_len c r]; simp [ovS]
theorem ovC_len : ∀ (cs : List (List Nat)) (O : List Nat), (cs.foldl ovC O).length = O.length
  | [], _ => rfl
  | c :: r, O => by rw [List.foldl_cons, ovC_len r]; exact ovS_len c _ _
theorem ovL_len (cs : List (List Nat)) : (ovL cs).length = 49 := by unfold ovL; rw [ovC_len]; simp
theorem ovL_snoc (cs : List (List Nat)) (c : List Nat) : ovL (cs ++ [c]) = ovC (ovL cs) c := by simp [ovL]
def goalT : Goal := ⟨111, 146, fun _ cs => tallyC cs.length (ovL cs), fun _ _ => []⟩
def layT (d : Nat) (n : Int) (w : List Nat) (tot : Nat) (O : List Nat) : List (List AV) := tallyC tot O :: webC n w :: [.ifc 111 (.ptr d 0)] :: [fromV d] :: []
theorem layT_eq (d : Nat) (n : Int) (w : List Nat) (cs : List (List Nat)) : layG goalT d n w cs = layT d n w cs.length (ovL cs) := rfl

theorem loop146_0 (d : Nat) (n : Int) (w : List Nat) (tot : Nat) (c : List Nat) (g : Tag) (T : List Nat) (D : List (List AV)) (hD : D.length = d) (h7 : c.length ≤ 7) (hc : ∀ x ∈ c, x < 7) (lo hi : Nat) (i : Nat) (O : List Nat) (hok : i ≤ c.length ∧ O.length = 49) (env : Env) (st : St)
    (hg : gcAV false lo hi (canon env [0, 1, 13, 14, 15]) st = ([(0, .ptr d 0), (1, .lst g 1 (c.map J)), (13, .lst g 1 (c.map J)), (14, I c.length), (15, I i)], ⟨D ++ layT d n w tot O, T⟩)) :
    ∃ x_1 en s, lim (headed pure (run L) false [0, 1, 13, 14, 15] lp146_0 lo hi) env st = some (x_1, en, s) ∧ (x_1 = .exit 0 ∧ s = ⟨D ++ layT d n w tot ((List.range' i (c.length - i)).foldl (ovS c) O), T⟩) := by
  refine loop_wp (α := Nat × List Nat) (fun ⟨i, O⟩ => c.length - i) (fun ⟨i, O⟩ => i ≤ c.length ∧ O.length = 49) (fun ⟨i, O⟩ => ([(0, .ptr d 0), (1, .lst g 1 (c.map J)), (13, .lst g 1 (c.map J)), (14, I c.length), (15, I i)], ⟨D ++ layT d n w tot O, T⟩)) (fun ⟨i, O⟩ x_1 en s => x_1 = .exit 0 ∧ s = ⟨D ++ layT d n w tot ((List.range' i (c.length - i)).foldl (ovS c) O), T⟩) (fun ⟨i, O⟩ hok => ?_) ⟨i, O⟩ hok env st hg
  simp only at hok
  obtain ⟨h1, h2⟩ := hok
  dsimp only at h1 h2 ⊢
  by_cases h : i < c.length
  · have hs := succ64 i (by omega)
    have hlt : ((i : Int) < (c.length : Int)) = True := eq_true (by omega)
    have hr : List.range' i (c.length - i) = i :: List.range' (i + 1) (c.length - (i + 1)) := by
      rw [show c.length - i = (c.length - (i + 1)) + 1 by omega, List.range'_succ]
    have hmod : (i + 1) % c.length < c.length := Nat.mod_lt _ (by omega)
    have hx1 := index_lstJ g c i h
    have hx2 := index_lstJ g c ((i + 1) % c.length) hmod
    have hx7 := getD_lt hc i h
    have hy7 := getD_lt hc _ hmod
    have htm : (((i + 1 : Nat) : Int)).tmod (c.length : Int) = (((i + 1) % c.length : Nat) : Int) := tmod_nat _ _
    have hz : ((c.length : Int) = 0) = False := eq_false (by omega)
    have hos : ovS c O i = O.set (atP c i) (O.getD (atP c i) 0 + 1) := rfl
    have hat : atP c i = c.getD i 0 * 7 + c.getD ((i + 1) % c.length) 0 := rfl
    have hl2 : (ovS c O i).length = 49 := by rw [hos]; simp [h2]
    generalize c.getD ((i + 1) % c.length) 0 = y at *
    generalize c.getD i 0 = x at *
    have g0 := get_app hD (layT d n w tot O) 0
    rw [Nat.add_zero, show (layT d n w tot O)[0]? = some (tallyC tot O) from rfl] at g0
    have gt := tally_get tot O (atP c i) (by omega)
    have st := tally_set tot O (atP c i) (O.getD (atP c i) 0 + 1)
    rw [← hos] at st
    have hwr : IntKind.i64.wrap (wr (O.getD (atP c i) 0) + 1) = wr (O.getD (atP c i) 0 + 1) := rfl
    have s0 := set_app hD (layT d n w tot O) 0 (tallyC tot (ovS c O i))
    rw [Nat.add_zero, show (layT d n w tot O).set 0 (tallyC tot (ovS c O i)) = layT d n w tot (ovS c O i) from rfl] at s0
    have htl := tally_len tot O
    rw [h2] at htl
    have a1 : 1 + x * 7 + y = 1 + atP c i := by rw [hat]; omega
    have b1 : ((0 : Int) ≤ (x : Int)) = True := eq_true (by omega)
    have b2 : ((x : Int) < 7) = True := eq_true (by omega)
    have b3 : ((0 : Int) ≤ (y : Int)) = True := eq_true (by omega)
    have b4 : ((y : Int) < 7) = True := eq_true (by omega)
    have b5 : (1 + atP c i + 1 ≤ 50) = True := eq_true (by rw [hat]; omega)
    rw [hr, List.foldl_cons]
    generalize ovS c O i = O2 at *
    generalize atP c i = p at *
    generalize O.getD p 0 = q at *
    simp only [go_sem, reduceIte, Nat.reduceEqDiff, Nat.reduceAdd, Nat.reduceSub, Nat.reduceLeDiff, Nat.reduceLT, reduceCtorEq, Int.reduceLT, Int.reduceLE, Int.reduceEq, Int.reduceBEq, Int.reduceSub, Int.reduceAdd, Int.reduceMul, Int.reduceNeg, Int.reduceToNat, Nat.reduceMul, Nat.reduceBEq, index_rsl_if, setm, make_ints, condK_dec, wantK_dec, not_dec, and_dec, or_dec, seqK_ite, seqK_none, blockK_ite, blockK_none, opsK_ite, opsK_none, stepK_ite, stepK_none, bodyK_ite, bodyK_none, resK_ite, resK_none, leaveK_ite, leaveK_none, only_ite, only_none, bind_ite, gives_some, gives_none, gives_ite, then_normal, then_ret, then_exit, then_none, then_ite, Option.bind_none, Bool.not_eq_true', decide_eq_false_iff_not, Bool.and_eq_true, Bool.or_eq_true, Option.some.injEq, Int.not_lt, Int.not_le, lp146_0, hlt, hs, hx1, hx2, htm, hz, g0, gt, st, s0, hwr, htl, a1, b1, b2, b3, b4, b5, List.length_map]
    refine ⟨(i + 1, O2), by simp only [go_sem, reduceIte, Nat.reduceEqDiff, Nat.reduceAdd, Nat.reduceSub, Nat.reduceLeDiff, Nat.reduceLT, reduceCtorEq, Int.reduceLT, Int.reduceLE, Int.reduceEq, Int.reduceBEq, Int.reduceSub, Int.reduceAdd, Int.reduceMul, Int.reduceNeg, Int.reduceToNat, Nat.reduceMul, Nat.reduceBEq, ren1_locm, loc_tips, locT_eq] <;> rfl, ?_, ?_, fun x en s hq => ?_⟩
    · dsimp only; exact ⟨by omega, hl2⟩
    · dsimp only; omega
    · exact hq
  · have hr : c.length - i = 0 := by omega
    have hlt : ((i : Int) < (c.length : Int)) = False := eq_false (by omega)
    rw [hr]
    simp only [go_sem, reduceIte, Nat.reduceEqDiff, Nat.reduceAdd, Nat.reduceSub, Nat.reduceLeDiff, Nat.reduceLT, reduceCtorEq, Int.reduceLT, Int.reduceLE, Int.reduceEq, Int.reduceBEq, Int.reduceSub, Int.reduceAdd, Int.reduceMul, Int.reduceNeg, Int.reduceToNat, Nat.reduceMul, Nat.reduceBEq, index_rsl_if, setm, make_ints, condK_dec, wantK_dec, not_dec, and_dec, or_dec, seqK_ite, seqK_none, blockK_ite, blockK_none, opsK_ite, opsK_none, stepK_ite, stepK_none, bodyK_ite, bodyK_none, resK_ite, resK_none, leaveK_ite, leaveK_none, only_ite, only_none, bind_ite, gives_some, gives_none, gives_ite, then_normal, then_ret, then_exit, then_none, then_ite, Option.bind_none, Bool.not_eq_true', decide_eq_false_iff_not, Bool.and_eq_true, Bool.or_eq_true, Option.some.injEq, Int.not_lt, Int.not_le, lp146_0, hlt]
    rfl

theorem c146 (d : Nat) (n : Int) (w : List Nat) (cs : List (List Nat)) (c : List Nat) (g : Tag) (T : List Nat) (D : List (List AV)) (hD : D.length = d) (h7 : c.length ≤ 7) (hc : ∀ x ∈ c, x < 7) :
    run L 146 [.ptr d 0, .lst g 1 (c.map J)] ⟨D ++ layG goalT d n w cs, T⟩ = some (.tup [], ⟨D ++ layG goalT d n w (cs ++ [c]), T⟩) := by
  rw [run_shared (fn := ir146) rfl rfl, layT_eq, layT_eq, ovL_snoc, List.length_append, List.length_singleton]
  have hol := ovL_len cs
  generalize ovL cs = O at *
  generalize cs.length = k at *
  have g0 := get_app hD (layT d n w k O) 0
  rw [Nat.add_zero, show (layT d n w k O)[0]? = some (I (wr k) :: O.map fun k => I (wr k)) from rfl] at g0
  have s0 := set_app hD (layT d n w k O) 0 (I (wr (k + 1)) :: O.map fun k => I (wr k))
  rw [Nat.add_zero, show (layT d n w k O).set 0 (I (wr (k + 1)) :: O.map fun k => I (wr k)) = layT d n w (k + 1) O from rfl] at s0
  have hwr : IntKind.i64.wrap (wr k + 1) = wr (k + 1) := rfl
  have b1 : (1 ≤ O.length + 1) = True := eq_true (by omega)
  simp only [ir146, go_sem, reduceIte, Nat.reduceEqDiff, Nat.reduceAdd, Nat.reduceSub, Nat.reduceLeDiff, Nat.reduceLT, reduceCtorEq, Int.reduceLT, Int.reduceLE, Int.reduceEq, Int.reduceBEq, Int.reduceSub, Int.reduceAdd, Int.reduceMul, Int.reduceNeg, Int.reduceToNat, Nat.reduceMul, Nat.reduceBEq, g0, s0, hwr, b1, List.length_map]
  generalize hg : lim (headed pure (run L) false _ lp146_0 _ _) _ _ = o
  obtain ⟨x, en, s, rfl, h2⟩ : ∃ x en s, o = some (x, en, s) ∧ _ := by rw [← hg]; exact loop146_0 d n w (k + 1) c g T D hD h7 hc _ _ 0 O ⟨by omega, hol⟩ _ _ (by simp only [go_sem, reduceIte, Nat.reduceEqDiff, Nat.reduceAdd, Nat.reduceSub, Nat.reduceLeDiff, Nat.reduceLT, reduceCtorEq, Int.reduceLT, Int.reduceLE, Int.reduceEq, Int.reduceBEq, Int.reduceSub, Int.reduceAdd, Int.reduceMul, Int.reduceNeg, Int.reduceToNat, Nat.reduceMul, Nat.reduceBEq] <;> rfl)
  clear hg
  rw [Nat.sub_zero] at h2
  obtain ⟨rfl, rfl⟩ := h2
  simp only [go_sem, reduceIte, Nat.reduceEqDiff, Nat.reduceAdd, Nat.reduceSub, Nat.reduceLeDiff, Nat.reduceLT, reduceCtorEq, Int.reduceLT, Int.reduceLE, Int.reduceEq, Int.reduceBEq, Int.reduceSub, Int.reduceAdd, Int.reduceMul, Int.reduceNeg, Int.reduceToNat, Nat.reduceMul, Nat.reduceBEq]
  rfl

attribute [local go_sem] shaped_t cells_t isAgg_t storable_t okRef_t pub_t

theorem noLs_v : ∀ xs : List AV, (∀ v ∈ xs, ∃ y, v = .v y) → noLs xs = true
  | [], _ => rfl
  | x :: r, h => by
    obtain ⟨y, rfl⟩ := h x (by simp)
    simp only [noLs, noL, noLs_v r (fun v hv => h v (by simp [hv])), Bool.and_true]
theorem tally_v (tot : Nat) (O : List Nat) : ∀ v ∈ tallyC tot O, ∃ y, v = .v y := by
  intro v hv
  unfold tallyC at hv
  rcases List.mem_cons.1 hv with rfl | hv
  · exact ⟨_, rfl⟩
  · obtain ⟨k, _, rfl⟩ := List.mem_map.1 hv
    exact ⟨_, rfl⟩
theorem web_v (n : Int) (w : List Nat) : ∀ v ∈ webC n w, ∃ y, v = .v y := by
  intro v hv
  unfold webC at hv
  rcases List.mem_cons.1 hv with rfl | hv
  · exact ⟨_, rfl⟩
  · obtain ⟨k, _, rfl⟩ := List.mem_map.1 hv
    exact ⟨_, rfl⟩
theorem visB_v {xs : List AV} (hne : xs ≠ []) (h : ∀ v ∈ xs, ∃ y, v = .v y) : visB xs = true := by
  unfold visB
  rw [noLs_v xs h]
  cases xs with
  | nil => exact absurd rfl hne
  | cons x r => rfl
theorem visR_vs {xs : List AV} (h : ∀ v ∈ xs, ∃ y, v = .v y) (st : St) : ∀ v ∈ xs, visR st v = true := fun v hv => by
  obtain ⟨y, rfl⟩ := h v hv; exact visR_v _ _
theorem visT (d : Nat) (n : Int) (w : List Nat) (cs : List (List Nat)) (D : List (List AV)) (T : List Nat) (hD : D.length = d) : ∀ x ∈ layG goalT d n w cs, visB x = true ∧ ∀ v ∈ x, visR ⟨D ++ layG goalT d n w cs, T⟩ v = true := by
  have hA : ∀ x ∈ layG goalT d n w cs, visB x = true := by
    intro x hx
    unfold layG goalT at hx
    simp only [List.mem_cons, List.not_mem_nil, or_false] at hx
    rcases hx with rfl | rfl | rfl | rfl
    · exact visB_v (by unfold tallyC; simp) (tally_v _ _)
    · exact visB_web n w
    · rfl
    · rfl
  have hlen : (layG goalT d n w cs).length = 4 := rfl
  intro x hx
  refine ⟨hA x hx, ?_⟩
  have hx' := hx
  unfold layG at hx'
  simp only [List.mem_cons] at hx'
  intro v hv
  rcases hx' with rfl | rfl | rfl | rfl | hx'
  · exact visR_vs (tally_v _ _) _ v hv
  · exact visR_web _ _ _ v hv
  · simp at hv; subst hv
    simp only [visR]
    exact visN_at hD hA 0 (by omega) T
  · simp at hv; subst hv
    exact from_vis hD hA (by omega) T
  · exact absurd hx' (by simp [goalT])
theorem goalT_ok (d : Nat) (n : Int) (w : List Nat) : GoalOk goalT d n w where
  inv := rfl
  np := rfl
  vis := fun cs D T hD => visT d n w cs D T hD
  take := fun cs c g T D hD _ h2 h3 => c146 d n w cs c g T D hD h2 h3
  mono := fun cs cs' => Nat.le_refl _

/-! ### books ahead of the goal -/
theorem bk_vis (nl : Bool) (n : Int) (ps : List (Int × Int)) : visB (bkCells nl n ps) = true → ∀ v ∈ bkCells nl n ps, ∃ y, v = .v y := by
  intro h v hv
  unfold bkCells at h hv
  rcases List.mem_cons.1 hv with rfl | hv
  · exact ⟨_, rfl⟩
  · simp at hv; subst hv
    unfold sl at h ⊢
    split
    · exact ⟨_, rfl⟩
    · next hn => rw [if_neg hn] at h; simp [visB, noLs, noL] at h
theorem dk_cons {x : List AV} {D : List (List AV)} (h : visB x = true → ∀ v ∈ x, ∃ y, v = .v y) (hD : Dk D) : Dk (x :: D) := by
  intro y hy
  rcases List.mem_cons.1 hy with rfl | hy
  · exact h
  · exact hD y hy
theorem dk_nil : Dk [] := fun x hx => by simp at hx

/-! ### the first odd circle -/
def oddB (n : Nat) (w : List Nat) : Option (List Nat) := (clL (circL n w)).getLast?
theorem frz_odd {a0 a1 : List AV} {R : List (List AV)} {l : Nat} {b : List Nat} (hb : b ≠ []) (hl : 3 ≤ l) (hR : (a0 :: a1 :: [.rsl l 0 b.length b.length 1 false] :: R)[l]? = some (b.map J)) (T : List Nat) :
    ∃ S', S'[2]? = some [.lst .any 1 (b.map J)] ∧ ∀ env, frzL l env ⟨a0 :: a1 :: [.rsl l 0 b.length b.length 1 false] :: R, T⟩ = (frzEnv l (b.map J) env, ⟨S', T⟩) := by
  refine ⟨(frzStore l (b.map J) (a0 :: a1 :: [.rsl l 0 b.length b.length 1 false] :: R)).set l [], ?_, fun env => ?_⟩
  · rw [List.getElem?_set_ne (by omega)]
    simp only [frzStore, List.getElem?_cons_succ, List.getElem?_cons_zero, frzVs, frzV]
    rw [if_pos ⟨trivial, by simp, .inr trivial, Nat.le_refl _⟩, List.drop_zero, pubsJ, groupm_one J (fun _ => rfl)]
  · unfold frzL
    simp only
    rw [hR]
    cases b with
    | nil => exact absurd rfl hb
    | cons x r => rfl
theorem frzV_ifc (l : Nat) (cs : List AV) (t : TypeId) (x : AV) : frzV l cs (.ifc t x) = .ifc t x := by simp only [frzV]
theorem c75o (X : List (List Nat)) (S : List (List AV)) (T : List Nat) (h : S[2]? = some [obX 2 X]) : run L 75 [.ifc 101 (.ptr 2 0)] ⟨S, T⟩ = some (I (if X = [] then 0 else 1), ⟨S, T⟩) := by
  rw [run_shared (fn := ir75) rfl rfl]
  cases X with
  | nil =>
    have e : obX 2 [] = .v (.slice none 0 0) := rfl
    rw [e] at h
    simp only [ir75, go_sem, reduceIte, Nat.reduceEqDiff, Nat.reduceAdd, Nat.reduceSub, Nat.reduceLeDiff, Nat.reduceLT, reduceCtorEq, Int.reduceLT, Int.reduceLE, Int.reduceEq, Int.reduceBEq, Int.reduceSub, Int.reduceAdd, Int.reduceMul, Int.reduceNeg, Int.reduceToNat, Nat.reduceMul, Nat.reduceBEq, h]
  | cons a r =>
    have e : ∃ l m, obX 2 (a :: r) = .rsl l 0 m m 1 false := by
      unfold obX
      cases hl : (a :: r).getLast? with
      | none => simp at hl
      | some b => exact ⟨_, _, rfl⟩
    obtain ⟨l, m, e⟩ := e
    rw [e] at h
    rw [if_neg (by simp)]
    simp only [ir75, go_sem, reduceIte, Nat.reduceEqDiff, Nat.reduceAdd, Nat.reduceSub, Nat.reduceLeDiff, Nat.reduceLT, reduceCtorEq, Int.reduceLT, Int.reduceLE, Int.reduceEq, Int.reduceBEq, Int.reduceSub, Int.reduceAdd, Int.reduceMul, Int.reduceNeg, Int.reduceToNat, Nat.reduceMul, Nat.reduceBEq, h]

attribute [local go_sem] shaped_t cells_t isAgg_t storable_t okRef_t pub_t

/-- What Ring answers. -/
def ringV (n : Int) (ps : List (Int × Int)) : List Int := if chk n ps = 0 then (match oddB n.toNat (seeL 7 ps) with | some b => up b | none => []) else []
def ringE (n : Int) (ps : List (Int × Int)) : Int := if chk n ps = 0 then (match oddB n.toNat (seeL 7 ps) with | some _ => 0 | none => 13) else chk n ps

set_option maxHeartbeats 1000000 in
theorem c28 (nl : Bool) (n : Int) (ps : List (Int × Int)) (st : St) : run L 28 [bkAV nl n ps] st = some (.tup [tAV (ringV n ps), I (ringE n ps)], st) := by
  rw [run_pure (fn := ir28) rfl rfl]
  have h65 := fun st => c65 nl n ps st
  unfold ringV ringE
  by_cases h : chk n ps = 0
  · obtain ⟨h1, hl16, h3, h4, h5⟩ := chk_zero h
    obtain ⟨k, rfl⟩ := Int.eq_ofNat_of_zero_le (show 0 ≤ n by omega)
    have hw : wovL (k : Int) ps = seeL 7 ps := by unfold wovL; rw [if_pos h]
    rw [hw] at h65
    rw [if_pos h, if_pos h, Int.toNat_natCast]
    have hlw := lenW (k : Int) (seeL 7 ps)
    rw [seeL_len] at hlw
    have hpw := putW (k : Int) (seeL 7 ps) (seeL_len 7 ps)
    have htkw : (webC (k : Int) (seeL 7 ps)).take 8 = webC (k : Int) (seeL 7 ps) := List.take_of_length_le (by omega)
    have h74 := c74 goalO 2 k (by omega) (seeL 7 ps) (seeL_len 7 ps) (seeL_small 7 h4) (goalO_ok 2 k _) rfl [] [bkCells nl (k : Int) ps, webC (k : Int) (seeL 7 ps)] rfl (dk_cons (bk_vis nl _ ps) (dk_cons (fun _ => web_v _ _) dk_nil))
    have e0 : goalO.ob 2 [] = [.v (.slice none 0 0)] := rfl
    have e1 : goalO.tt = 101 := rfl
    have hodd := clL_odd (circL k (seeL 7 ps))
    rw [e0, e1, layO] at h74
    have h75 := c75o (clL (circL k (seeL 7 ps))) ([bkCells nl (k : Int) ps, webC (k : Int) (seeL 7 ps)] ++ ([obX 2 (clL (circL k (seeL 7 ps)))] :: webC (k : Int) (seeL 7 ps) :: [.ifc 101 (.ptr 2 0)] :: [fromV 2] :: (clL (circL k (seeL 7 ps))).map fun c => c.map J)) [] rfl
    have hO : oddB k (seeL 7 ps) = (clL (circL k (seeL 7 ps))).getLast? := rfl
    rw [hO]
    generalize clL (circL k (seeL 7 ps)) = X at *
    simp only [List.cons_append, List.nil_append] at h74 h75
    cases hl : X.getLast? with
    | none =>
      have hX : X = [] := by simpa using hl
      subst hX
      have eo : obX 2 [] = .v (.slice none 0 0) := rfl
      simp only [eo, List.map_nil, if_true] at h74 h75
      simp only [ir28, go_sem, reduceIte, Nat.reduceEqDiff, Nat.reduceAdd, Nat.reduceSub, Nat.reduceLeDiff, Nat.reduceLT, reduceCtorEq, Int.reduceLT, Int.reduceLE, Int.reduceEq, Int.reduceBEq, Int.reduceSub, Int.reduceAdd, Int.reduceMul, Int.reduceNeg, Int.reduceToNat, Nat.reduceMul, Nat.reduceBEq, h65, h, hlw, hpw, htkw, pubsW, storableW, h74, h75, show pure 74 = false from rfl, show pure 75 = false from rfl]
      rfl
    | some b =>
      have hX : X ≠ [] := by intro e; subst e; simp at hl
      have hpos : 0 < X.length := List.length_pos_iff.2 hX
      have hgl : X[X.length - 1]? = some b := by rw [← List.getLast?_eq_getElem?]; exact hl
      have hbne : b ≠ [] := by
        intro e
        have := hodd b (List.mem_of_getElem? hgl)
        rw [e] at this; simp at this
      have eo : obX 2 X = .rsl (2 + (3 + X.length)) 0 b.length b.length 1 false := by unfold obX; rw [hl]
      rw [eo] at h74 h75
      rw [if_neg hX] at h75
      have hgR : (bkCells nl (k : Int) ps :: webC (k : Int) (seeL 7 ps) :: [.rsl (2 + (3 + X.length)) 0 b.length b.length 1 false] :: (webC (k : Int) (seeL 7 ps) :: [.ifc 101 (.ptr 2 0)] :: [fromV 2] :: X.map fun c => c.map J))[2 + (3 + X.length)]? = some (b.map J) := by
        rw [show 2 + (3 + X.length) = X.length - 1 + 6 by omega]
        simp only [List.getElem?_cons_succ, List.getElem?_map, hgl, Option.map_some]
      obtain ⟨S', hS', hfz⟩ := frz_odd hbne (by omega) hgR []
      have et : tAV (up b) = .lst .any 1 (b.map J) := by
        unfold tAV; rw [up_J, sl_ne (by simpa using hbne)]
      simp only [et]
      simp only [ir28, go_sem, reduceIte, Nat.reduceEqDiff, Nat.reduceAdd, Nat.reduceSub, Nat.reduceLeDiff, Nat.reduceLT, reduceCtorEq, Int.reduceLT, Int.reduceLE, Int.reduceEq, Int.reduceBEq, Int.reduceSub, Int.reduceAdd, Int.reduceMul, Int.reduceNeg, Int.reduceToNat, Nat.reduceMul, Nat.reduceBEq, h65, h, hlw, hpw, htkw, pubsW, storableW, h74, h75, show pure 74 = false from rfl, show pure 75 = false from rfl, code_frz, frzAV, frzT, frzLs, rslsOf, hfz, frzEnv, frzV_v, frzV_ptr, frzV_sl, frzV_agg, frzV_tup, frzV_any, frzV_ifc, hS']
  · rw [if_neg h, if_neg h]
    have hl7 : (wovL n ps).length = 7 := by unfold wovL; rw [if_neg h]; simp
    have hlw := lenW n (wovL n ps)
    rw [hl7] at hlw
    have hpw := putW n (wovL n ps) hl7
    simp only [ir28, go_sem, reduceIte, Nat.reduceEqDiff, Nat.reduceAdd, Nat.reduceSub, Nat.reduceLeDiff, Nat.reduceLT, reduceCtorEq, Int.reduceLT, Int.reduceLE, Int.reduceEq, Int.reduceBEq, Int.reduceSub, Int.reduceAdd, Int.reduceMul, Int.reduceNeg, Int.reduceToNat, Nat.reduceMul, Nat.reduceBEq, h65, h, hlw, hpw, pubsW, storableW]
    rfl

attribute [local go_sem] shaped_t cells_t isAgg_t storable_t okRef_t pub_t

/-! ### the law's circles: a list of lists that grows, with a tip anywhere -/
def oA (c : List Nat) : AV := .lst .any 1 (c.map J)
theorem shaped_oA (c : List Nat) : (oA c).shaped = true := rfl
theorem cells_oA (c : List Nat) : (oA c).cells = [oA c] := rfl
theorem storable_oA (c : List Nat) : storable (oA c) = true := rfl

attribute [local go_sem] shaped_t cells_t isAgg_t storable_t okRef_t pub_t

theorem rg_len (w : List Nat) : ∀ (k : Nat) (c : List Nat) (free : Nat), (rg w k c free).length ≤ 8 ^ k
  | 0, c, _ => by unfold rg hdR; split <;> simp
  | k + 1, c, free => by
    have h1 : (hdR w c).length ≤ 1 := by unfold hdR; split <;> simp
    have hsum : ∀ l : List Nat, (l.flatMap fun x => rg w k (c ++ [x]) (dfN free (2 ^ x))).length ≤ l.length * 8 ^ k := by
      intro l
      induction l with
      | nil => simp
      | cons x r ih =>
        have := rg_len w k (c ++ [x]) (dfN free (2 ^ x))
        rw [List.flatMap_cons, List.length_append, List.length_cons, Nat.add_mul]
        omega
    have h2 := hsum (bitsL (w.getD (lastW c) 0 &&& free))
    have h3 := bits_len (w.getD (lastW c) 0 &&& free)
    have h4 : (bitsL (w.getD (lastW c) 0 &&& free)).length * 8 ^ k ≤ 7 * 8 ^ k := Nat.mul_le_mul_right _ h3
    have h5 : 1 ≤ 8 ^ k := Nat.one_le_pow _ _ (by omega)
    show (hdR w c ++ _).length ≤ _
    rw [List.length_append, Nat.pow_succ]
    omega
theorem filter_nil_of {α : Type} {p : α → Bool} {l : List α} (h : ∀ x ∈ l, p x = false) : l.filter p = [] := by
  rw [List.filter_eq_nil_iff]
  intro x hx
  rw [h x hx]; simp
/-- The bits of a set between two numbers. -/
theorem bits_range {m a n : Nat} (hn : n ≤ 7) (ha : a ≤ n) (h : ∀ y, m.testBit y = true → a ≤ y ∧ y < n) : bitsL m = (List.range' a (n - a)).filter m.testBit := by
  unfold bitsL
  have e : List.range 7 = List.range' 0 a ++ (List.range' a (n - a) ++ List.range' n (7 - n)) := by
    rw [List.range_eq_range']
    have e1 := List.range'_append (s := a) (m := n - a) (n := 7 - n) (step := 1)
    have e2 := List.range'_append (s := 0) (m := a) (n := n - a + (7 - n)) (step := 1)
    simp only [Nat.one_mul, Nat.zero_add] at e1 e2
    rw [show a + (n - a) = n by omega] at e1
    rw [e1, e2]
    congr 1
    omega
  rw [e, List.filter_append, List.filter_append, filter_nil_of (l := List.range' 0 a), filter_nil_of (l := List.range' n (7 - n)), List.append_nil, List.nil_append]
  · intro x hx
    rw [List.mem_range'_1] at hx
    cases hb : m.testBit x
    · rfl
    · have := h x hb; omega
  · intro x hx
    rw [List.mem_range'_1] at hx
    cases hb : m.testBit x
    · rfl
    · have := h x hb; omega
theorem circ_len (n : Nat) (hn : n ≤ 7) (w : List Nat) : (circL n w).length ≤ 14680064 := by
  have : ∀ l : List Nat, (l.flatMap fun x => rg w 7 [x] (frN n x)).length ≤ l.length * 2097152 := by
    intro l
    induction l with
    | nil => simp
    | cons x r ih =>
      have h1 := rg_len w 7 [x] (frN n x)
      have h2 : 8 ^ 7 = 2097152 := rfl
      rw [List.flatMap_cons, List.length_append, List.length_cons, Nat.add_mul]
      omega
  have h := this (List.range' 0 n)
  rw [List.length_range'] at h
  unfold circL
  have : n * 2097152 ≤ 7 * 2097152 := Nat.mul_le_mul_right _ hn
  omega

attribute [local go_sem] shaped_t cells_t isAgg_t storable_t okRef_t pub_t

def stO (o : Option (List Nat)) (c : List Nat) : Option (List Nat) := if better o c = true then some c else o
theorem odd_fold : ∀ (cs : List (List Nat)) (X : List (List Nat)), (cs.foldl clS X).getLast? = cs.foldl stO X.getLast?
  | [], _ => rfl
  | c :: r, X => by
    rw [List.foldl_cons, List.foldl_cons, odd_fold r]
    congr 1
    unfold clS stO
    split
    · rw [List.getLast?_concat]
    · rfl
theorem oddB_fold (n : Nat) (w : List Nat) : oddB n w = (circL n w).foldl stO none := odd_fold _ []
theorem len_tAV (l : List Int) : lenAV (tAV l) = some (I l.length) := by unfold tAV; rw [len_sl, List.length_map]
theorem ren1_t' (n : Nat) (T : List Nat) (acc : List (Nat × Nat)) (l : List Int) : ren1 n T acc (tAV l) = (tAV l, acc) := ren1_sl _ _ _ _ _ _


/-! ### ways and circles in a web -/
def Ch (J : Nat → Nat → Prop) : List Nat → Prop
  | [] => True
  | [_] => True
  | a :: b :: r => J a b ∧ Ch J (b :: r)
theorem ch_split {J : Nat → Nat → Prop} (x : Nat) (B : List Nat) : ∀ A : List Nat, Ch J (A ++ x :: B) ↔ Ch J (A ++ [x]) ∧ Ch J (x :: B)
  | [] => by simp [Ch]
  | [a] => by simp [Ch]
  | a :: b :: A => by
    have := ch_split (J := J) x B (b :: A)
    simp only [List.cons_append, Ch] at this ⊢
    rw [this, and_assoc]
/-- A circle, with words that may come again. -/
def Cyc (J : Nat → Nat → Prop) (c : List Nat) : Prop := ∃ x r, c = x :: r ∧ Ch J (c ++ [x])
theorem not_nodup : ∀ c : List Nat, ¬ c.Nodup → ∃ A x B C, c = A ++ x :: (B ++ x :: C)
  | [], h => absurd List.nodup_nil h
  | a :: r, h => by
    by_cases ha : a ∈ r
    · obtain ⟨B, C, rfl⟩ := List.append_of_mem ha
      exact ⟨[], a, B, C, rfl⟩
    · have : ¬ r.Nodup := fun hr => h (List.nodup_cons.2 ⟨ha, hr⟩)
      obtain ⟨A, x, B, C, rfl⟩ := not_nodup r this
      exact ⟨a :: A, x, B, C, rfl⟩
/-- An odd circle has an odd one in it, in which no word comes again. -/
theorem odd_in {J : Nat → Nat → Prop} {V : Nat → Prop} : ∀ (n : Nat) (c : List Nat), c.length = n → n % 2 = 1 → Cyc J c → (∀ x ∈ c, V x) → ∃ d, d.Nodup ∧ d.length % 2 = 1 ∧ Cyc J d ∧ ∀ x ∈ d, V x := by
  intro n
  induction n using Nat.strongRecOn with
  | ind n ih =>
    intro c hl ho hc hV
    by_cases hn : c.Nodup
    · exact ⟨c, hn, by omega, hc, hV⟩
    · obtain ⟨A, x, B, C, rfl⟩ := not_nodup c hn
      obtain ⟨y, r, e, hch⟩ := hc
      have hlen : (A ++ x :: (B ++ x :: C)).length = A.length + B.length + C.length + 2 := by simp; omega
      rw [hlen] at hl
      have e1 : A ++ x :: (B ++ x :: C) ++ [y] = A ++ x :: (B ++ x :: (C ++ [y])) := by simp
      rw [e1] at hch
      have h1 := (ch_split x (B ++ x :: (C ++ [y])) A).1 hch
      have e2 : x :: (B ++ x :: (C ++ [y])) = (x :: B) ++ x :: (C ++ [y]) := rfl
      have h2 := (ch_split x (C ++ [y]) (x :: B)).1 (by rw [← e2]; exact h1.2)
      have c1 : Cyc J (x :: B) := ⟨x, B, rfl, by simpa using h2.1⟩
      have c2 : Cyc J (A ++ x :: C) := by
        cases A with
        | nil =>
          have : x = y := by simp at e; exact e.1
          subst this
          exact ⟨x, C, rfl, by simpa using h2.2⟩
        | cons a A =>
          have : a = y := by simp at e; exact e.1
          subst this
          refine ⟨a, A ++ x :: C, rfl, ?_⟩
          have := (ch_split x (C ++ [a]) (a :: A)).2 ⟨h1.1, h2.2⟩
          simpa using this
      by_cases hp : (x :: B).length % 2 = 1
      · exact ih _ (by simp; omega) (x :: B) rfl hp c1 (fun z hz => hV z (by
          rcases List.mem_cons.1 hz with rfl | hz
          · simp
          · simp [hz]))
      · have hp2 : (A ++ x :: C).length % 2 = 1 := by simp at hp ⊢; omega
        exact ih _ (by simp; omega) (A ++ x :: C) rfl hp2 c2 (fun z hz => hV z (by
          rcases List.mem_append.1 hz with hz | hz
          · simp [hz]
          · rcases List.mem_cons.1 hz with rfl | hz
            · simp
            · simp [hz]))

/-- So many steps to a word. -/
inductive Wk (J : Nat → Nat → Prop) (V : Nat → Prop) (r : Nat) : Nat → Nat → Prop
  | zero : V r → Wk J V r 0 r
  | step {k s t : Nat} : V s → J s t → Wk J V r k t → Wk J V r (k + 1) s
theorem wk_list {J : Nat → Nat → Prop} {V : Nat → Prop} {r k s : Nat} (h : Wk J V r k s) : ∃ l : List Nat, l.length = k ∧ (∀ x ∈ l, V x) ∧ Ch J (l ++ [r]) ∧ ∃ q, l ++ [r] = s :: q := by
  induction h with
  | zero hv => exact ⟨[], rfl, by simp, by simp [Ch], [], rfl⟩
  | step hv hj _ ih =>
    rename_i k s t hk
    obtain ⟨l, h1, h2, h3, q, h4⟩ := ih
    refine ⟨s :: l, by simp [h1], fun x hx => ?_, ?_, l ++ [r], rfl⟩
    · rcases List.mem_cons.1 hx with rfl | hx
      · exact hv
      · exact h2 x hx
    · rw [List.cons_append, h4]
      rw [h4] at h3
      exact ⟨hj, h3⟩
theorem wk_in {J : Nat → Nat → Prop} {V : Nat → Prop} {r k s : Nat} (h : Wk J V r k s) : V s := by cases h <;> assumption
theorem wk_trans {J : Nat → Nat → Prop} {V : Nat → Prop} {r s k t m : Nat} (h : Wk J V s m t) (h2 : Wk J V r k s) : Wk J V r (m + k) t := by
  induction h with
  | zero _ => rw [Nat.zero_add]; exact h2
  | step hv hj _ ih => rw [Nat.add_right_comm]; exact .step hv hj ih
theorem exists_least {V : Nat → Prop} (f : Nat → Nat) (h : ∃ x, V x) : ∃ x, V x ∧ ∀ y, V y → f x ≤ f y := by
  obtain ⟨x, hx⟩ := h
  have key : ∀ n x, V x → f x = n → ∃ x, V x ∧ ∀ y, V y → f x ≤ f y := by
    intro n
    induction n using Nat.strongRecOn with
    | ind n ih =>
      intro x hx e
      by_cases hm : ∃ y, V y ∧ f y < f x
      · obtain ⟨y, hy, hlt⟩ := hm
        exact ih (f y) (by omega) y hy rfl
      · exact ⟨x, hx, fun y hy => by
          have : ¬ f y < f x := fun h => hm ⟨y, hy, h⟩
          omega⟩
  exact key _ x hx rfl
noncomputable def cntP (N : Nat) (p : Nat → Prop) : Nat := by
  classical
  exact ((List.range N).filter fun x => decide (p x)).length
theorem filter_len_le' {p q : Nat → Bool} : ∀ l : List Nat, (∀ x ∈ l, p x = true → q x = true) → (l.filter p).length ≤ (l.filter q).length
  | [], _ => by simp
  | a :: l, h => by
    have h1 := h a (by simp)
    have h2 := filter_len_le' l fun x hx => h x (by simp [hx])
    by_cases hp : p a = true
    · rw [List.filter_cons_of_pos hp, List.filter_cons_of_pos (h1 hp)]; simp; exact h2
    · rw [List.filter_cons_of_neg hp]
      by_cases hq : q a = true
      · rw [List.filter_cons_of_pos hq, List.length_cons]; omega
      · rw [List.filter_cons_of_neg hq]; exact h2
theorem filter_len_lt' {p q : Nat → Bool} : ∀ l : List Nat, (∀ x ∈ l, p x = true → q x = true) → (∃ x ∈ l, q x = true ∧ p x = false) → (l.filter p).length < (l.filter q).length
  | [], _, h => by obtain ⟨x, hx, _⟩ := h; simp at hx
  | a :: l, h, hex => by
    have h1 := h a (by simp)
    have h0 : ∀ x ∈ l, p x = true → q x = true := fun x hx => h x (by simp [hx])
    have h2 := filter_len_le' l h0
    by_cases hp : p a = true
    · obtain ⟨x, hx, hq, hpx⟩ := hex
      have hxl : x ∈ l := by
        rcases List.mem_cons.1 hx with rfl | hx
        · rw [hp] at hpx; simp at hpx
        · exact hx
      have := filter_len_lt' l h0 ⟨x, hxl, hq, hpx⟩
      rw [List.filter_cons_of_pos hp, List.filter_cons_of_pos (h1 hp)]; simp; exact this
    · rw [List.filter_cons_of_neg hp]
      by_cases hq : q a = true
      · rw [List.filter_cons_of_pos hq, List.length_cons]; omega
      · obtain ⟨x, hx, hqx, hpx⟩ := hex
        have hxl : x ∈ l := by
          rcases List.mem_cons.1 hx with rfl | hx
          · exact absurd hqx hq
          · exact hx
        rw [List.filter_cons_of_neg hq]
        exact filter_len_lt' l h0 ⟨x, hxl, hqx, hpx⟩
theorem cntP_lt {N : Nat} {p q : Nat → Prop} (h : ∀ x, p x → q x) (hex : ∃ x, x < N ∧ q x ∧ ¬ p x) : cntP N p < cntP N q := by
  classical
  unfold cntP
  obtain ⟨x, hx, hq, hp⟩ := hex
  apply filter_len_lt'
  · intro y _ hy
    exact decide_eq_true (h y (of_decide_eq_true hy))
  · exact ⟨x, List.mem_range.2 hx, decide_eq_true hq, decide_eq_false hp⟩

/-- A choice among the words of V. -/
def Kern (J : Nat → Nat → Prop) (V K : Nat → Prop) : Prop := (∀ x, K x → V x) ∧ ∀ x, V x → (K x ↔ ∀ y, K y → ¬ J x y)
/-- No odd circle: a choice. -/
theorem richardson {J : Nat → Nat → Prop} {N : Nat} : ∀ (n : Nat) (V : Nat → Prop), (∀ x, V x → x < N) → cntP N V = n → (∀ c : List Nat, c.Nodup → c.length % 2 = 1 → Cyc J c → (∀ x ∈ c, V x) → False) → ∃ K, Kern J V K := by
  intro n
  induction n using Nat.strongRecOn with
  | ind n ih =>
    intro V hV hn hodd
    by_cases hne : ∃ x, V x
    · -- the words from which the fewest can be come to
      obtain ⟨r, hr, hmin⟩ := exists_least (fun x => cntP N fun s => ∃ k, Wk J V s k x) hne
      let S : Nat → Prop := fun s => ∃ k, Wk J V s k r
      have hSV : ∀ s, S s → V s := by
        rintro s ⟨k, hk⟩
        cases k with
        | zero => cases hk; exact hr
        | succ k =>
          have : ∀ m t, Wk J V s m t → V s := by
            intro m t h
            induction h with
            | zero hv => exact hv
            | step _ _ _ ih => exact ih
          exact this _ _ hk
      have hback : ∀ s, S s → ∃ k, Wk J V r k s := by
        rintro s ⟨k, hk⟩
        apply Classical.byContradiction
        intro hno
        have hlt : cntP N (fun t => ∃ k, Wk J V t k s) < cntP N fun t => ∃ k, Wk J V t k r := by
          apply cntP_lt
          · rintro t ⟨m, hm⟩
            exact ⟨_, wk_trans hk hm⟩
          · exact ⟨r, hV r hr, ⟨0, .zero hr⟩, hno⟩
        have := hmin s (hSV s ⟨k, hk⟩)
        omega
      have hclosed : ∀ k, Wk J V r k r → k % 2 = 0 := by
        intro k hk
        apply Classical.byContradiction
        intro hko
        obtain ⟨l, h1, h2, h3, q, h4⟩ := wk_list hk
        have hl : l ≠ [] := by
          intro e; rw [e] at h1; simp at h1; omega
        obtain ⟨x, t, rfl⟩ := List.exists_cons_of_ne_nil hl
        have hx : x = r := by simp at h4; exact h4.1
        subst hx
        obtain ⟨d, d1, d2, d3, d4⟩ := odd_in _ (x :: t) rfl (by omega) ⟨x, t, rfl, h3⟩ h2
        exact hodd d d1 d2 d3 d4
      have hpar : ∀ s, S s → ∀ a b, Wk J V r a s → Wk J V r b s → a % 2 = b % 2 := by
        rintro s ⟨k, hk⟩ a b ha hb
        have h1 := hclosed _ (wk_trans hk ha)
        have h2 := hclosed _ (wk_trans hk hb)
        omega
      have hterm : ∀ s t, S s → V t → J s t → S t := by
        rintro s t ⟨k, hk⟩ ht hj
        exact ⟨_, wk_trans hk (.step (hSV s ⟨k, hk⟩) hj (.zero ht))⟩
      let K0 : Nat → Prop := fun s => S s ∧ ∃ k, k % 2 = 0 ∧ Wk J V r k s
      have hK0 : ∀ s, S s → (K0 s ↔ ∀ y, K0 y → ¬ J s y) := by
        intro s hs
        constructor
        · rintro ⟨_, k, hk0, hk⟩ y ⟨hy, m, hm0, hm⟩ hj
          have := hpar s hs k (m + 1) hk (.step (hSV s hs) hj hm)
          omega
        · intro h
          obtain ⟨k, hk⟩ := hback s hs
          by_cases hk0 : k % 2 = 0
          · exact ⟨hs, k, hk0, hk⟩
          · exfalso
            cases hk with
            | zero _ => omega
            | step hv hj hw =>
              rename_i k t
              exact h t ⟨hterm s t hs (wk_in hw) hj, k, by omega, hw⟩ hj
      have hrS : S r := ⟨0, .zero hr⟩
      let V' : Nat → Prop := fun x => V x ∧ ¬ S x ∧ ∀ s, K0 s → ¬ J x s
      obtain ⟨K', hK1, hK2⟩ := ih (cntP N V') (by
        rw [← hn]
        apply cntP_lt
        · exact fun x hx => hx.1
        · exact ⟨r, hV r hr, hr, fun h => h.2.1 hrS⟩) V' (fun x hx => hV x hx.1) rfl (fun c h1 h2 h3 h4 => hodd c h1 h2 h3 fun x hx => (h4 x hx).1)
      refine ⟨fun x => K0 x ∨ K' x, fun x hx => ?_, fun x hx => ?_⟩
      · rcases hx with h | h
        · exact hSV x h.1
        · exact (hK1 x h).1
      · constructor
        · rintro (h | h) y (hy | hy) hj
          · exact (hK0 x h.1).1 h y hy hj
          · exact (hK1 y hy).2.1 (hterm x y h.1 (hK1 y hy).1 hj)
          · exact (hK1 x h).2.2 y hy hj
          · exact (hK2 x (hK1 x h)).1 h y hy hj
        · intro h
          by_cases hs : S x
          · exact .inl ((hK0 x hs).2 fun y hy => h y (.inl hy))
          · exact .inr ((hK2 x ⟨hx, hs, fun s hs2 => h s (.inl hs2)⟩).2 fun y hy => h y (.inr hy))
    · exact ⟨fun _ => False, fun x h => h.elim, fun x hx => (hne ⟨x, hx⟩).elim⟩


/-! ### which lists are circles -/
/-- A word sees another one. -/
def Jw (w : List Nat) (a b : Nat) : Prop := (w.getD a 0).testBit b = true
theorem lastW_snoc (c : List Nat) (x : Nat) : lastW (c ++ [x]) = x := by
  unfold lastW
  rw [List.length_append, List.length_singleton, Nat.add_sub_cancel, List.getD_eq_getElem?_getD, List.getElem?_append_right (by omega)]
  simp
theorem ch_snoc {J : Nat → Nat → Prop} (x : Nat) : ∀ c : List Nat, c ≠ [] → (Ch J (c ++ [x]) ↔ Ch J c ∧ J (lastW c) x)
  | [], h => absurd rfl h
  | [a], _ => by simp [Ch, lastW]
  | a :: b :: r, _ => by
    have := ch_snoc (J := J) x (b :: r) (by simp)
    have e : lastW (a :: b :: r) = lastW (b :: r) := by simp [lastW]
    rw [e]
    simp only [List.cons_append, Ch] at this ⊢
    rw [this, and_assoc]
theorem mem_hdR {w : List Nat} {c x : List Nat} : x ∈ hdR w c ↔ x = c ∧ 1 < c.length ∧ Jw w (lastW c) (c.getD 0 0) := by
  unfold hdR Jw
  split
  · next h => simp only [List.mem_singleton]; exact ⟨fun e => ⟨e, h⟩, fun e => e.1⟩
  · next h => simp only [List.not_mem_nil, false_iff]; exact fun e => h e.2
/-- What is found from some words on. -/
theorem rg_iff (w : List Nat) : ∀ (k : Nat) (c : List Nat) (free : Nat), (bitsL free).length ≤ k → free < 128 → c ≠ [] → ∀ x, x ∈ rg w k c free ↔ ∃ s, x = c ++ s ∧ Ch (Jw w) (lastW c :: s) ∧ (∀ y ∈ s, free.testBit y = true) ∧ s.Nodup ∧ 1 < x.length ∧ Jw w (lastW x) (x.getD 0 0) := by
  have head : ∀ (c x : List Nat), (x ∈ hdR w c ↔ ∃ s, s = [] ∧ x = c ++ s ∧ 1 < x.length ∧ Jw w (lastW x) (x.getD 0 0)) := by
    intro c x
    rw [mem_hdR]
    constructor
    · rintro ⟨rfl, h1, h2⟩; exact ⟨[], rfl, by simp, h1, h2⟩
    · rintro ⟨s, rfl, e, h1, h2⟩
      rw [List.append_nil] at e; subst e
      exact ⟨rfl, h1, h2⟩
  intro k
  induction k with
  | zero =>
    intro c free hk hf hc x
    have h0 := bits_nil hf (by omega)
    subst h0
    show x ∈ hdR w c ↔ _
    rw [head]
    constructor
    · rintro ⟨s, rfl, e, h1, h2⟩; exact ⟨[], e, trivial, by simp, List.nodup_nil, h1, h2⟩
    · rintro ⟨s, e, _, h3, _, h1, h2⟩
      have : s = [] := by
        cases s with
        | nil => rfl
        | cons y r => have := h3 y (by simp); simp at this
      exact ⟨s, this, e, h1, h2⟩
  | succ k ih =>
    intro c free hk hf hc x
    show x ∈ hdR w c ++ _ ↔ _
    rw [List.mem_append, head, List.mem_flatMap]
    have hlt : w.getD (lastW c) 0 &&& free < 128 := Nat.lt_of_le_of_lt Nat.and_le_right hf
    constructor
    · rintro (⟨s, rfl, e, h1, h2⟩ | ⟨y, hy, hx⟩)
      · exact ⟨[], e, trivial, by simp, List.nodup_nil, h1, h2⟩
      · rw [bits_mem hlt, Nat.testBit_and, Bool.and_eq_true] at hy
        have hcard := df_card hf hy.2
        have hy7 := bit_lt7 hf hy.2
        obtain ⟨s, e, h1, h2, h3, h4, h5⟩ := (ih (c ++ [y]) (dfN free (2 ^ y)) (by omega) (dfN_lt hf) (by simp) x).1 hx
        rw [lastW_snoc] at h1
        have h2' : ∀ z ∈ s, free.testBit z = true ∧ z ≠ y := fun z hz => by
          have := h2 z hz
          rw [dfN_bit (sh1_lt y hy7).2, Bool.and_eq_true, Bool.and_eq_true, Bool.not_eq_true', Nat.testBit_two_pow, decide_eq_false_iff_not] at this
          exact ⟨this.1, fun e => this.2.2 e.symm⟩
        refine ⟨y :: s, by rw [e]; simp, ⟨hy.1, h1⟩, fun z hz => ?_, List.nodup_cons.2 ⟨fun hm => (h2' y hm).2 rfl, h3⟩, h4, h5⟩
        rcases List.mem_cons.1 hz with rfl | hz
        · exact hy.2
        · exact (h2' z hz).1
    · rintro ⟨s, e, h1, h2, h3, h4, h5⟩
      cases s with
      | nil => exact .inl ⟨[], rfl, e, h4, h5⟩
      | cons y s =>
        right
        have hy := h2 y (by simp)
        have hy7 := bit_lt7 hf hy
        have hcard := df_card hf hy
        rw [List.nodup_cons] at h3
        refine ⟨y, (bits_mem hlt y).2 (by rw [Nat.testBit_and, Bool.and_eq_true]; exact ⟨h1.1, hy⟩), (ih (c ++ [y]) (dfN free (2 ^ y)) (by omega) (dfN_lt hf) (by simp) x).2 ⟨s, by rw [e]; simp, by rw [lastW_snoc]; exact h1.2, fun z hz => ?_, h3.2, h4, h5⟩⟩
        rw [dfN_bit (sh1_lt y hy7).2, Bool.and_eq_true, Bool.and_eq_true, Bool.not_eq_true', Nat.testBit_two_pow, decide_eq_false_iff_not]
        have hz2 := h2 z (by simp [hz])
        exact ⟨hz2, decide_eq_true (bit_lt7 hf hz2), fun e => h3.1 (by rw [e]; exact hz)⟩
/-- A circle whose first word is its smallest one. -/
theorem circ_iff {n : Nat} (hn : n ≤ 7) (w : List Nat) (x : List Nat) : x ∈ circL n w ↔ ∃ a s, x = a :: s ∧ a < n ∧ (∀ y ∈ s, a < y ∧ y < n) ∧ x.Nodup ∧ 1 < x.length ∧ Ch (Jw w) x ∧ Jw w (lastW x) a := by
  unfold circL
  rw [List.mem_flatMap]
  constructor
  · rintro ⟨a, ha, hx⟩
    rw [List.mem_range'_1] at ha
    have hcard := frN_card hn (show a < n by omega)
    obtain ⟨s, e, h1, h2, h3, h4, h5⟩ := (rg_iff w 7 [a] (frN n a) (by omega) (frN_lt hn) (by simp) x).1 hx
    have h2' : ∀ y ∈ s, a < y ∧ y < n := fun y hy => by
      have := h2 y hy
      rw [frN_bit hn (by omega), Bool.and_eq_true, decide_eq_true_iff, decide_eq_true_iff] at this
      omega
    subst e
    refine ⟨a, s, rfl, by omega, h2', List.nodup_cons.2 ⟨fun hm => by have := h2' a hm; omega, h3⟩, h4, h1, h5⟩
  · rintro ⟨a, s, rfl, ha, h2, h3, h4, h5, h6⟩
    have hcard := frN_card hn ha
    refine ⟨a, by rw [List.mem_range'_1]; omega, (rg_iff w 7 [a] (frN n a) (by omega) (frN_lt hn) (by simp) _).2 ⟨s, rfl, h5, fun y hy => ?_, (List.nodup_cons.1 h3).2, h4, h6⟩⟩
    rw [frN_bit hn ha, Bool.and_eq_true, decide_eq_true_iff, decide_eq_true_iff]
    have := h2 y hy; omega
/-- A circle from another word on. -/
theorem cyc_rot {J : Nat → Nat → Prop} {A B : List Nat} {m : Nat} (h : Cyc J (A ++ m :: B)) : Cyc J (m :: (B ++ A)) := by
  obtain ⟨x, r, e, hc⟩ := h
  cases A with
  | nil =>
    simp only [List.nil_append, List.cons.injEq] at e
    obtain ⟨rfl, rfl⟩ := e
    exact ⟨m, B, by simp, by simpa using hc⟩
  | cons a A =>
    simp only [List.cons_append, List.cons.injEq] at e
    obtain ⟨rfl, rfl⟩ := e
    refine ⟨m, B ++ a :: A, rfl, ?_⟩
    have e1 : a :: A ++ m :: B ++ [a] = (a :: A) ++ m :: (B ++ [a]) := by simp
    rw [e1] at hc
    have h1 := (ch_split m (B ++ [a]) (a :: A)).1 hc
    have e2 : m :: (B ++ a :: A) ++ [m] = (m :: B) ++ a :: (A ++ [m]) := by simp
    rw [e2]
    exact (ch_split a (A ++ [m]) (m :: B)).2 ⟨by simpa using h1.2, by simpa using h1.1⟩
theorem min_split : ∀ c : List Nat, c ≠ [] → ∃ A m B, c = A ++ m :: B ∧ ∀ y ∈ c, m ≤ y
  | [], h => absurd rfl h
  | [a], _ => ⟨[], a, [], rfl, by simp⟩
  | a :: b :: r, _ => by
    obtain ⟨A, m, B, e, h⟩ := min_split (b :: r) (by simp)
    by_cases hm : a ≤ m
    · exact ⟨[], a, b :: r, rfl, fun y hy => by
        rcases List.mem_cons.1 hy with rfl | hy
        · omega
        · have := h y hy; omega⟩
    · refine ⟨a :: A, m, B, by rw [e]; rfl, fun y hy => ?_⟩
      rcases List.mem_cons.1 hy with rfl | hy
      · omega
      · exact h y hy
/-- Each circle is found, from its smallest word on. -/
theorem circ_of {n : Nat} (hn : n ≤ 7) {w : List Nat} {c : List Nat} (h1 : c.Nodup) (h2 : 1 < c.length) (h3 : Cyc (Jw w) c) (h4 : ∀ x ∈ c, x < n) : ∃ A m B, c = A ++ m :: B ∧ m :: (B ++ A) ∈ circL n w := by
  obtain ⟨A, m, B, e, hm⟩ := min_split c (by intro e; rw [e] at h2; simp at h2)
  refine ⟨A, m, B, e, (circ_iff hn w _).2 ⟨m, B ++ A, rfl, h4 m (by rw [e]; simp), fun y hy => ?_, ?_, ?_, ?_⟩⟩
  · have hy2 : y ∈ c := by rw [e]; simp only [List.mem_append, List.mem_cons] at hy ⊢; exact hy.elim (fun h => .inr (.inr h)) .inl
    have := hm y hy2
    have hne : y ≠ m := by
      rintro rfl
      rw [e, List.nodup_append, List.nodup_cons] at h1
      rcases List.mem_append.1 hy with hy | hy
      · exact h1.2.1.1 hy
      · exact h1.2.2 y hy y (by simp) rfl
    exact ⟨by omega, h4 y hy2⟩
  · have hp : (m :: (B ++ A)).Perm c := by
      rw [e]
      exact (List.perm_append_comm (l₁ := m :: B) (l₂ := A))
    exact hp.nodup_iff.2 h1
  · rw [e] at h2; simp at h2 ⊢; omega
  · rw [e] at h3
    obtain ⟨x, r, e2, hc⟩ := cyc_rot h3
    simp only [List.cons.injEq] at e2
    obtain ⟨rfl, rfl⟩ := e2
    exact (ch_snoc m _ (by simp)).1 hc


/-! ### the first shortest odd circle -/
theorem stO_spec : ∀ (cs : List (List Nat)) (o : Option (List Nat)), (∀ b, o = some b → b.length % 2 = 1) → (cs.foldl stO o = none → o = none ∧ ∀ c ∈ cs, c.length % 2 = 0) ∧ ∀ b, cs.foldl stO o = some b → (b ∈ cs ∨ o = some b) ∧ b.length % 2 = 1
  | [], o, h => ⟨fun e => ⟨e, by simp⟩, fun b e => ⟨.inr e, h b e⟩⟩
  | c :: r, o, h => by
    have h2 : ∀ b, stO o c = some b → b.length % 2 = 1 := by
      intro b e
      unfold stO at e
      split at e
      · next hb =>
        cases e
        unfold better at hb
        rw [Bool.and_eq_true, decide_eq_true_iff] at hb; exact hb.1
      · exact h b e
    obtain ⟨a1, a2⟩ := stO_spec r (stO o c) h2
    rw [List.foldl_cons]
    refine ⟨fun e => ?_, fun b e => ?_⟩
    · obtain ⟨e1, e2⟩ := a1 e
      unfold stO at e1
      split at e1
      · simp at e1
      · next hb =>
        refine ⟨e1, fun x hx => ?_⟩
        rcases List.mem_cons.1 hx with rfl | hx
        · rw [e1] at hb
          unfold better at hb
          simp at hb; omega
        · exact e2 x hx
    · obtain ⟨h3, h4⟩ := a2 b e
      refine ⟨?_, h4⟩
      rcases h3 with h3 | h3
      · exact .inl (by simp [h3])
      · unfold stO at h3
        split at h3
        · cases h3; exact .inl (by simp)
        · exact .inr h3
theorem oddB_none {n : Nat} {w : List Nat} (h : oddB n w = none) : ∀ c ∈ circL n w, c.length % 2 = 0 := by
  rw [oddB_fold] at h
  exact ((stO_spec _ none (by simp)).1 h).2
/-! ### it is accepted -/
/-! ### no odd circle: a choice -/
theorem mask_of (K : Nat → Prop) : ∀ n : Nat, ∃ m, m < 2 ^ n ∧ ∀ x, m.testBit x = true ↔ x < n ∧ K x
  | 0 => ⟨0, by simp, fun x => by simp⟩
  | n + 1 => by
    obtain ⟨m, h1, h2⟩ := mask_of K n
    by_cases hk : K n
    · refine ⟨m ||| 2 ^ n, ?_, fun x => ?_⟩
      · exact Nat.or_lt_two_pow (Nat.lt_of_lt_of_le h1 (Nat.pow_le_pow_right (by omega) (by omega))) (Nat.pow_lt_pow_right (by omega) (by omega))
      · rw [Nat.testBit_or, Nat.testBit_two_pow, Bool.or_eq_true, h2, decide_eq_true_iff]
        constructor
        · rintro (⟨h3, h4⟩ | h3)
          · exact ⟨by omega, h4⟩
          · subst h3; exact ⟨by omega, hk⟩
        · rintro ⟨h3, h4⟩
          by_cases e : n = x
          · exact .inr e
          · exact .inl ⟨by omega, h4⟩
    · refine ⟨m, Nat.lt_of_lt_of_le h1 (Nat.pow_le_pow_right (by omega) (by omega)), fun x => ?_⟩
      rw [h2]
      constructor
      · rintro ⟨h3, h4⟩; exact ⟨by omega, h4⟩
      · rintro ⟨h3, h4⟩
        refine ⟨?_, h4⟩
        rcases Nat.lt_or_ge x n with h5 | h5
        · exact h5
        · obtain rfl : x = n := by omega
          exact absurd h4 hk
theorem chos_some {n : Nat} {ps : List (Int × Int)} {m : Nat} (hm : m < 2 ^ n) (h : jdg n (seeL 7 ps) m = 0) : memb m ∈ chosL n ps := by
  unfold chosL
  refine (sortL_perm lexLt _).mem_iff.2 ?_
  unfold kerL
  refine List.mem_map.2 ⟨m, List.mem_filter.2 ⟨by rw [List.mem_range'_1]; omega, decide_eq_true h⟩, rfl⟩
theorem chos_rich {n : Nat} (hn : n ≤ 7) {ps : List (Int × Int)} (h3 : ∀ p ∈ ps, goodP (n : Int) p) (h7 : ∀ p ∈ ps, okP p) (ho : oddB n (seeL 7 ps) = none) : chosL n ps ≠ [] := by
  obtain ⟨K, hK1, hK2⟩ := richardson (J := Jw (seeL 7 ps)) (N := n) _ (fun x => x < n) (fun _ h => h) rfl (fun c h1 h2 h4 h5 => by
    by_cases hl : 1 < c.length
    · obtain ⟨A, m, B, e, hc⟩ := circ_of hn h1 hl h4 h5
      have := oddB_none ho _ hc
      rw [e] at h2; simp at h2 this; omega
    · obtain ⟨x, r, rfl, hch⟩ := h4
      have : r = [] := by
        cases r with
        | nil => rfl
        | cons y r => simp at hl
      subst this
      have hj : Jw (seeL 7 ps) x x := hch.1
      unfold Jw at hj
      rw [seeL_bit (Nat.le_refl 7) h7, decide_eq_true_iff] at hj
      exact (h3 _ hj).2.2.2.2 rfl)
  obtain ⟨m, hm, hb⟩ := mask_of K n
  intro e
  have : memb m ∈ chosL n ps := chos_some hm (by
    rw [jdg_zero]
    intro x hx
    rw [hb, and_zero]
    have := hK2 x hx
    constructor
    · rintro ⟨_, h⟩ y ⟨hy1, hy2⟩
      rw [hb] at hy2
      exact this.1 h y hy2.2 hy1
    · intro h
      exact ⟨hx, this.2 fun y hy hj => h y ⟨hj, (hb y).2 ⟨hK1 y hy, hy⟩⟩⟩)
  rw [e] at this; simp at this

attribute [local go_sem] shaped_t cells_t isAgg_t storable_t okRef_t pub_t

theorem same_self (l : List Int) (hl : l.length < 1000000) (st : St) : run L 22 [tAV l, tAV l] st = some (B true, st) := by
  have := c22 true true l l hl st
  rw [decide_eq_true rfl] at this
  exact this
theorem circ_lt {n : Nat} (hn : n ≤ 7) {w : List Nat} : ∀ c ∈ circL n w, 2 ≤ c.length ∧ c.length ≤ 7 ∧ (∀ x ∈ c, x < n) ∧ c.Nodup := by
  intro c hc
  obtain ⟨a, s, e, ha, h2, h3, h4, _, _⟩ := (circ_iff hn _ c).1 hc
  have hm : ∀ x ∈ c, x < n := fun x hx => by
    rw [e] at hx
    rcases List.mem_cons.1 hx with rfl | hx
    · exact ha
    · exact (h2 x hx).2
  have := nodup_len_le c (List.range n) h3 (fun x hx => List.mem_range.2 (hm x hx))
  rw [List.length_range] at this
  exact ⟨h4, by omega, hm, h3⟩

attribute [local go_sem] shaped_t cells_t isAgg_t storable_t okRef_t pub_t

/-! ### how many circles, and how many on each reference -/
theorem z50 : tallyC 0 (List.replicate 49 0) = [I 0, I 0, I 0, I 0, I 0, I 0, I 0, I 0, I 0, I 0, I 0, I 0, I 0, I 0, I 0, I 0, I 0, I 0, I 0, I 0, I 0, I 0, I 0, I 0, I 0, I 0, I 0, I 0, I 0, I 0, I 0, I 0, I 0, I 0, I 0, I 0, I 0, I 0, I 0, I 0, I 0, I 0, I 0, I 0, I 0, I 0, I 0, I 0, I 0, I 0] := rfl
def bk81 (nl : Bool) (n : Int) (ps : List (Int × Int)) : List (List AV) := [bkCells nl n ps, bkCells nl n ps, webC n (wovL n ps)]
set_option maxHeartbeats 1000000 in
theorem c81 (nl : Bool) (n : Int) (ps : List (Int × Int)) (T : List Nat) :
    run L 81 [bkAV nl n ps] ⟨[bkCells nl n ps], T⟩ = if chk n ps = 0 then some (.tup [.ptr 3 0, I 0], ⟨bk81 nl n ps ++ layT 3 n (seeL 7 ps) (circL n.toNat (seeL 7 ps)).length (ovL (circL n.toNat (seeL 7 ps))), T⟩) else some (.tup [.v (.pointer none), I (chk n ps)], ⟨bk81 nl n ps, T⟩) := by
  rw [run_shared (fn := ir81) rfl rfl]
  have h65 := fun st => c65 nl n ps st
  unfold bk81
  by_cases h : chk n ps = 0
  · obtain ⟨h1, hl16, h3, h4, h5⟩ := chk_zero h
    obtain ⟨k, rfl⟩ := Int.eq_ofNat_of_zero_le (show 0 ≤ n by omega)
    have hw : wovL (k : Int) ps = seeL 7 ps := by unfold wovL; rw [if_pos h]
    rw [hw] at h65 ⊢
    rw [if_pos h, Int.toNat_natCast]
    have hlw := lenW (k : Int) (seeL 7 ps)
    rw [seeL_len] at hlw
    have hpw := putW (k : Int) (seeL 7 ps) (seeL_len 7 ps)
    have htkw : (webC (k : Int) (seeL 7 ps)).take 8 = webC (k : Int) (seeL 7 ps) := List.take_of_length_le (by omega)
    have h74 := c74 goalT 3 k (by omega) (seeL 7 ps) (seeL_len 7 ps) (seeL_small 7 h4) (goalT_ok 3 k _) rfl T [bkCells nl (k : Int) ps, bkCells nl (k : Int) ps, webC (k : Int) (seeL 7 ps)] rfl (dk_cons (bk_vis nl _ ps) (dk_cons (bk_vis nl _ ps) (dk_cons (fun _ => web_v _ _) dk_nil)))
    have e0 : goalT.ob 3 [] = tallyC 0 (List.replicate 49 0) := rfl
    have e1 : goalT.tt = 111 := rfl
    rw [e0, e1, layT_eq, z50] at h74
    simp only [List.cons_append, List.nil_append] at h74
    simp only [ir81, go_sem, reduceIte, Nat.reduceEqDiff, Nat.reduceAdd, Nat.reduceSub, Nat.reduceLeDiff, Nat.reduceLT, reduceCtorEq, Int.reduceLT, Int.reduceLE, Int.reduceEq, Int.reduceBEq, Int.reduceSub, Int.reduceAdd, Int.reduceMul, Int.reduceNeg, Int.reduceToNat, Nat.reduceMul, Nat.reduceBEq, h65, h, hlw, hpw, htkw, pubsW, storableW, h74, show pure 74 = false from rfl]
  · rw [if_neg h]
    have hl7 : (wovL n ps).length = 7 := by unfold wovL; rw [if_neg h]; simp
    have hlw := lenW n (wovL n ps)
    rw [hl7] at hlw
    have hpw := putW n (wovL n ps) hl7
    simp only [ir81, go_sem, reduceIte, Nat.reduceEqDiff, Nat.reduceAdd, Nat.reduceSub, Nat.reduceLeDiff, Nat.reduceLT, reduceCtorEq, Int.reduceLT, Int.reduceLE, Int.reduceEq, Int.reduceBEq, Int.reduceSub, Int.reduceAdd, Int.reduceMul, Int.reduceNeg, Int.reduceToNat, Nat.reduceMul, Nat.reduceBEq, h65, h, hlw, hpw, pubsW, storableW]
theorem c75t (tot : Nat) (O : List Nat) (d : Nat) (n : Int) (w : List Nat) (nl : Bool) (ps : List (Int × Int)) (T : List Nat) : run L 75 [.ifc 111 (.ptr 3 0)] ⟨bk81 nl n ps ++ layT d n w tot O, T⟩ = some (I (wr tot), ⟨bk81 nl n ps ++ layT d n w tot O, T⟩) := by
  rw [run_shared (fn := ir75) rfl rfl]
  unfold bk81 layT tallyC
  simp only [ir75, go_sem, reduceIte, Nat.reduceEqDiff, Nat.reduceAdd, Nat.reduceSub, Nat.reduceLeDiff, Nat.reduceLT, reduceCtorEq, Int.reduceLT, Int.reduceLE, Int.reduceEq, Int.reduceBEq, Int.reduceSub, Int.reduceAdd, Int.reduceMul, Int.reduceNeg, Int.reduceToNat, Nat.reduceMul, Nat.reduceBEq, List.cons_append, List.nil_append]
def allN (n : Int) (ps : List (Int × Int)) : List (List Nat) := circL n.toNat (seeL 7 ps)
/-- How many circles there are. -/
def circV (n : Int) (ps : List (Int × Int)) : Int := if chk n ps = 0 then ((allN n ps).length : Int) else 0
theorem c36 (nl : Bool) (n : Int) (ps : List (Int × Int)) (st : St) : run L 36 [bkAV nl n ps] st = some (.tup [I (circV n ps), I (chk n ps)], st) := by
  rw [run_pure (fn := ir36) rfl rfl]
  have h81 := c81 nl n ps []
  unfold circV allN
  by_cases h : chk n ps = 0
  · obtain ⟨h1, hl16, h3, h4, h5⟩ := chk_zero h
    rw [if_pos h] at h81 ⊢
    have hb := circ_len n.toNat (by omega) (seeL 7 ps)
    have hwr := wr_eq (circL n.toNat (seeL 7 ps)).length (by omega)
    have h75 := c75t (circL n.toNat (seeL 7 ps)).length (ovL (circL n.toNat (seeL 7 ps))) 3 n (seeL 7 ps) nl ps []
    rw [hwr] at h75
    simp only [ir36, go_sem, reduceIte, Nat.reduceEqDiff, Nat.reduceAdd, Nat.reduceSub, Nat.reduceLeDiff, Nat.reduceLT, reduceCtorEq, Int.reduceLT, Int.reduceLE, Int.reduceEq, Int.reduceBEq, Int.reduceSub, Int.reduceAdd, Int.reduceMul, Int.reduceNeg, Int.reduceToNat, Nat.reduceMul, Nat.reduceBEq, h81, h, h75, show pure 81 = false from rfl, show pure 75 = false from rfl]
  · rw [if_neg h] at h81 ⊢
    simp only [ir36, go_sem, reduceIte, Nat.reduceEqDiff, Nat.reduceAdd, Nat.reduceSub, Nat.reduceLeDiff, Nat.reduceLT, reduceCtorEq, Int.reduceLT, Int.reduceLE, Int.reduceEq, Int.reduceBEq, Int.reduceSub, Int.reduceAdd, Int.reduceMul, Int.reduceNeg, Int.reduceToNat, Nat.reduceMul, Nat.reduceBEq, h81, h, show pure 81 = false from rfl]

attribute [local go_sem] shaped_t cells_t isAgg_t storable_t okRef_t pub_t

/-! ### on how many circles a reference lies -/
def cntC (c : List Nat) (p : Nat) : Nat := ((List.range' 0 c.length).filter fun i => atP c i == p).length
def thN (cs : List (List Nat)) (p : Nat) : Nat := (cs.map fun c => cntC c p).sum
theorem atP_lt {c : List Nat} (hc : ∀ x ∈ c, x < 7) {i : Nat} (hi : i < c.length) : atP c i < 49 := by
  have h1 := getD_lt hc i hi
  have h2 := getD_lt hc ((i + 1) % c.length) (Nat.mod_lt _ (by omega))
  unfold atP; omega
theorem ovS_get {c : List Nat} (p : Nat) : ∀ (l : List Nat) (O : List Nat), (∀ i ∈ l, atP c i < O.length) → (l.foldl (ovS c) O).getD p 0 = O.getD p 0 + (l.filter fun i => atP c i == p).length
  | [], O, _ => by simp
  | i :: r, O, h => by
    have hi := h i (by simp)
    rw [List.foldl_cons, ovS_get p r _ (fun j hj => by unfold ovS; rw [List.length_set]; exact h j (by simp [hj]))]
    unfold ovS
    rw [getD_set O _ _ p hi]
    by_cases e : atP c i = p
    · rw [if_pos e.symm, List.filter_cons_of_pos (by simpa using e), List.length_cons, e]; omega
    · rw [if_neg (Ne.symm e), List.filter_cons_of_neg (by simpa using e)]
theorem ovC_get (p : Nat) : ∀ (cs : List (List Nat)) (O : List Nat), O.length = 49 → (∀ c ∈ cs, ∀ x ∈ c, x < 7) → (cs.foldl ovC O).getD p 0 = O.getD p 0 + thN cs p
  | [], O, _, _ => by simp [thN]
  | c :: r, O, hO, h => by
    have hc := h c (by simp)
    rw [List.foldl_cons, ovC_get p r _ (by unfold ovC; rw [ovS_len]; exact hO) (fun d hd => h d (by simp [hd]))]
    have := ovS_get (c := c) p (List.range' 0 c.length) O (fun i hi => by rw [List.mem_range'_1] at hi; rw [hO]; exact atP_lt hc (by omega))
    unfold ovC thN cntC at *
    rw [this, List.map_cons, List.sum_cons]; omega
theorem ovL_get {cs : List (List Nat)} (h : ∀ c ∈ cs, ∀ x ∈ c, x < 7) (p : Nat) : (ovL cs).getD p 0 = thN cs p := by
  unfold ovL
  rw [ovC_get p cs _ (by simp) h]
  have : (List.replicate 49 0).getD p 0 = 0 := by
    rw [List.getD_eq_getElem?_getD, List.getElem?_replicate]; split <;> rfl
  omega
theorem thN_le : ∀ (cs : List (List Nat)) (p : Nat), (∀ c ∈ cs, c.length ≤ 7) → thN cs p ≤ 7 * cs.length
  | [], _, _ => by simp [thN]
  | c :: r, p, h => by
    have h1 := thN_le r p (fun d hd => h d (by simp [hd]))
    have h2 : cntC c p ≤ 7 := by
      have := List.length_filter_le (fun i => atP c i == p) (List.range' 0 c.length)
      rw [List.length_range'] at this
      have := h c (by simp)
      unfold cntC; omega
    unfold thN at *
    rw [List.map_cons, List.sum_cons, List.length_cons]; omega
/-- What is known of all circles of a book that is checked. -/
theorem allN_ok {n : Int} {ps : List (Int × Int)} (h : chk n ps = 0) : (allN n ps).length ≤ 14680064 ∧ ∀ c ∈ allN n ps, 2 ≤ c.length ∧ c.length ≤ 7 ∧ (∀ x ∈ c, x < 7) ∧ (∀ x ∈ c, (x : Int) < n) ∧ c.Nodup := by
  obtain ⟨h1, _, _, _, _⟩ := chk_zero h
  refine ⟨circ_len n.toNat (by omega) _, fun c hc => ?_⟩
  obtain ⟨a1, a2, a3, a4⟩ := circ_lt (n := n.toNat) (by omega) c hc
  exact ⟨a1, a2, fun x hx => by have := a3 x hx; omega, fun x hx => by have := a3 x hx; omega, a4⟩
theorem over_wr {n : Int} {ps : List (Int × Int)} (h : chk n ps = 0) (p : Nat) : wr ((ovL (allN n ps)).getD p 0) = (thN (allN n ps) p : Int) := by
  obtain ⟨h1, h2⟩ := allN_ok h
  rw [ovL_get (fun c hc => (h2 c hc).2.2.1) p]
  have := thN_le (allN n ps) p (fun c hc => (h2 c hc).2.1)
  exact wr_eq _ (by omega)
def refP (ps : List (Int × Int)) (r : Nat) : Nat := (ps.getD r (0, 0)).1.toNat * 7 + (ps.getD r (0, 0)).2.toNat

attribute [local go_sem] shaped_t cells_t isAgg_t storable_t okRef_t pub_t

/-! ### the worst reference -/
theorem okRefsTal (k tot : Nat) (O : List Nat) : okRefs k (tallyC tot O) = true := by
  unfold tallyC
  have : ∀ O : List Nat, okRefs k (O.map fun k => I (wr k)) = true := by
    intro O
    induction O with
    | nil => rfl
    | cons x r ih => simp only [List.map_cons, okRefs, ih]; rfl
  simp only [okRefs, this]; rfl
theorem renCellsTal (k : Nat) (T : List Nat) (acc : List (Nat × Nat)) (tot : Nat) (O : List Nat) : renCells k T acc (tallyC tot O) = (tallyC tot O, acc) := by
  unfold tallyC
  have : ∀ (O : List Nat) acc, renCells k T acc (O.map fun k => I (wr k)) = (O.map fun k => I (wr k), acc) := by
    intro O
    induction O with
    | nil => intro acc; rfl
    | cons x r ih => intro acc; simp only [List.map_cons, renCells, ren1, ih]
  simp only [renCells, ren1, this]
def wstep (f : Nat → Nat) (q : Int × Int) (i : Nat) : Int × Int := if q.2 < (f i : Int) then ((i : Int), (f i : Int)) else q

theorem loop40_0 (nl : Bool) (n : Int) (ps : List (Int × Int)) (hl : ps.length ≤ 16) (h4 : ∀ p ∈ ps, okP p) (w : List Nat) (tot : Nat) (O : List Nat) (hO : O.length = 49) (f : Nat → Nat) (hf : ∀ i, i < ps.length → wr (O.getD (refP ps i) 0) = (f i : Int)) (i : Nat) (wo : Int) (mo : Int) (hok : i ≤ ps.length) (env : Env) (st : St)
    (hg : gcAV true 7 0 (canon env [4, 6, 7, 20, 21, 22]) st = ([(4, .ptr 3 0), (6, I wo), (7, I mo), (20, sl 2 nl (ps.map prAV)), (21, I ps.length), (22, I i)], ⟨[bkCells nl n ps, bkCells nl n ps, webC n w, tallyC tot O, webC n w, [.ifc 111 (.ptr 3 0)], [fromV 3]], []⟩)) :
    ∃ x_1 en s, lim (headed pure (run L) true [4, 6, 7, 20, 21, 22] lp40_0 7 0) env st = some (x_1, en, s) ∧ (x_1 = .exit 0 ∧ en.get 6 = I ((List.range' i (ps.length - i)).foldl (wstep f) (wo, mo)).1) := by
  refine loop_wp (α := Nat × Int × Int) (fun ⟨i, wo, mo⟩ => ps.length - i) (fun ⟨i, wo, mo⟩ => i ≤ ps.length) (fun ⟨i, wo, mo⟩ => ([(4, .ptr 3 0), (6, I wo), (7, I mo), (20, sl 2 nl (ps.map prAV)), (21, I ps.length), (22, I i)], ⟨[bkCells nl n ps, bkCells nl n ps, webC n w, tallyC tot O, webC n w, [.ifc 111 (.ptr 3 0)], [fromV 3]], []⟩)) (fun ⟨i, wo, mo⟩ x_1 en s => x_1 = .exit 0 ∧ en.get 6 = I ((List.range' i (ps.length - i)).foldl (wstep f) (wo, mo)).1) (fun ⟨i, wo, mo⟩ hok => ?_) ⟨i, wo, mo⟩ hok env st hg
  simp only at hok
  dsimp only at hok ⊢
  by_cases h : i < ps.length
  · have hx := index_prs nl ps i h
    have hs := succ64 i (by omega)
    have hlt : ((i : Int) < (ps.length : Int)) = True := eq_true (by omega)
    have hr : List.range' i (ps.length - i) = i :: List.range' (i + 1) (ps.length - (i + 1)) := by
      rw [show ps.length - i = (ps.length - (i + 1)) + 1 by omega, List.range'_succ]
    have hp := h4 ps[i] (List.getElem_mem h)
    have hrf : refP ps i = ps[i].1.toNat * 7 + ps[i].2.toNat := by
      unfold refP
      rw [List.getD_eq_getElem?_getD, List.getElem?_eq_getElem h]; rfl
    have hfi := hf i h
    rw [hrf] at hfi
    have hw : wstep f (wo, mo) i = if mo < (f i : Int) then ((i : Int), (f i : Int)) else (wo, mo) := rfl
    rw [hr, List.foldl_cons, hw]
    generalize ps[i] = c at *
    obtain ⟨u, v⟩ := c
    obtain ⟨a1, a2, a3, a4⟩ := hp
    simp only at a1 a2 a3 a4 hx hfi
    obtain ⟨u, rfl⟩ := Int.eq_ofNat_of_zero_le a1
    obtain ⟨v, rfl⟩ := Int.eq_ofNat_of_zero_le a3
    simp only [Int.toNat_natCast] at hfi
    have hg := tally_get tot O (u * 7 + v) (by omega)
    rw [hfi] at hg
    have e1 : 1 + u * 7 + v = 1 + (u * 7 + v) := by omega
    have b1 : ((0 : Int) ≤ (u : Int)) = True := eq_true (by omega)
    have b2 : ((u : Int) < 7) = True := eq_true (by omega)
    have b3 : ((0 : Int) ≤ (v : Int)) = True := eq_true (by omega)
    have b4 : ((v : Int) < 7) = True := eq_true (by omega)
    have hfv : fromV 3 = .fn (.func 94) [] [.ptr 4 0, .ptr 5 0, .ptr 6 0] := rfl
    by_cases p : mo < (f i : Int)
    · rw [if_pos p]
      simp only [go_sem, reduceIte, Nat.reduceEqDiff, Nat.reduceAdd, Nat.reduceSub, Nat.reduceLeDiff, Nat.reduceLT, reduceCtorEq, Int.reduceLT, Int.reduceLE, Int.reduceEq, Int.reduceBEq, Int.reduceSub, Int.reduceAdd, Int.reduceMul, Int.reduceNeg, Int.reduceToNat, Nat.reduceMul, Nat.reduceBEq, index_rsl_if, setm, make_ints, condK_dec, wantK_dec, not_dec, and_dec, or_dec, seqK_ite, seqK_none, blockK_ite, blockK_none, opsK_ite, opsK_none, stepK_ite, stepK_none, bodyK_ite, bodyK_none, resK_ite, resK_none, leaveK_ite, leaveK_none, only_ite, only_none, bind_ite, gives_some, gives_none, gives_ite, then_normal, then_ret, then_exit, then_none, then_ite, Option.bind_none, Bool.not_eq_true', decide_eq_false_iff_not, Bool.and_eq_true, Bool.or_eq_true, Option.some.injEq, Int.not_lt, Int.not_le, lp40_0, hlt, hs, hx, e1, hg, b1, b2, b3, b4, p, hfv]
      refine ⟨(i + 1, (i : Int), (f i : Int)), by simp only [go_sem, reduceIte, Nat.reduceEqDiff, Nat.reduceAdd, Nat.reduceSub, Nat.reduceLeDiff, Nat.reduceLT, reduceCtorEq, Int.reduceLT, Int.reduceLE, Int.reduceEq, Int.reduceBEq, Int.reduceSub, Int.reduceAdd, Int.reduceMul, Int.reduceNeg, Int.reduceToNat, Nat.reduceMul, Nat.reduceBEq, ren1_locm, loc_tips, locT_eq, okRefsW, renCellsW, okRefsTal, renCellsTal, hfv] <;> rfl, ?_, ?_, fun x en s hq => ?_⟩
      · dsimp only; omega
      · dsimp only; omega
      · exact hq
    · rw [if_neg p]
      simp only [go_sem, reduceIte, Nat.reduceEqDiff, Nat.reduceAdd, Nat.reduceSub, Nat.reduceLeDiff, Nat.reduceLT, reduceCtorEq, Int.reduceLT, Int.reduceLE, Int.reduceEq, Int.reduceBEq, Int.reduceSub, Int.reduceAdd, Int.reduceMul, Int.reduceNeg, Int.reduceToNat, Nat.reduceMul, Nat.reduceBEq, index_rsl_if, setm, make_ints, condK_dec, wantK_dec, not_dec, and_dec, or_dec, seqK_ite, seqK_none, blockK_ite, blockK_none, opsK_ite, opsK_none, stepK_ite, stepK_none, bodyK_ite, bodyK_none, resK_ite, resK_none, leaveK_ite, leaveK_none, only_ite, only_none, bind_ite, gives_some, gives_none, gives_ite, then_normal, then_ret, then_exit, then_none, then_ite, Option.bind_none, Bool.not_eq_true', decide_eq_false_iff_not, Bool.and_eq_true, Bool.or_eq_true, Option.some.injEq, Int.not_lt, Int.not_le, lp40_0, hlt, hs, hx, e1, hg, b1, b2, b3, b4, p, hfv]
      refine ⟨(i + 1, wo, mo), by simp only [go_sem, reduceIte, Nat.reduceEqDiff, Nat.reduceAdd, Nat.reduceSub, Nat.reduceLeDiff, Nat.reduceLT, reduceCtorEq, Int.reduceLT, Int.reduceLE, Int.reduceEq, Int.reduceBEq, Int.reduceSub, Int.reduceAdd, Int.reduceMul, Int.reduceNeg, Int.reduceToNat, Nat.reduceMul, Nat.reduceBEq, ren1_locm, loc_tips, locT_eq, okRefsW, renCellsW, okRefsTal, renCellsTal, hfv] <;> rfl, ?_, ?_, fun x en s hq => ?_⟩
      · dsimp only; omega
      · dsimp only; omega
      · exact hq
  · have hr : ps.length - i = 0 := by omega
    have hlt : ((i : Int) < (ps.length : Int)) = False := eq_false (by omega)
    rw [hr]
    simp only [go_sem, reduceIte, Nat.reduceEqDiff, Nat.reduceAdd, Nat.reduceSub, Nat.reduceLeDiff, Nat.reduceLT, reduceCtorEq, Int.reduceLT, Int.reduceLE, Int.reduceEq, Int.reduceBEq, Int.reduceSub, Int.reduceAdd, Int.reduceMul, Int.reduceNeg, Int.reduceToNat, Nat.reduceMul, Nat.reduceBEq, index_rsl_if, setm, make_ints, condK_dec, wantK_dec, not_dec, and_dec, or_dec, seqK_ite, seqK_none, blockK_ite, blockK_none, opsK_ite, opsK_none, stepK_ite, stepK_none, bodyK_ite, bodyK_none, resK_ite, resK_none, leaveK_ite, leaveK_none, only_ite, only_none, bind_ite, gives_some, gives_none, gives_ite, then_normal, then_ret, then_exit, then_none, then_ite, Option.bind_none, Bool.not_eq_true', decide_eq_false_iff_not, Bool.and_eq_true, Bool.or_eq_true, Option.some.injEq, Int.not_lt, Int.not_le, lp40_0, hlt]
    rfl

/-- The first reference that lies on the most circles, or -1. -/
def worstI (n : Int) (ps : List (Int × Int)) : Int := ((List.range' 0 ps.length).foldl (wstep fun i => thN (allN n ps) (refP ps i)) (-1, 0)).1
def worstV (n : Int) (ps : List (Int × Int)) : Int := if chk n ps = 0 then if worstI n ps < 0 then 0 else worstI n ps else 0
def worstE (n : Int) (ps : List (Int × Int)) : Int := if chk n ps = 0 then if worstI n ps < 0 then 12 else 0 else chk n ps
theorem c40 (nl : Bool) (n : Int) (ps : List (Int × Int)) (st : St) : run L 40 [bkAV nl n ps] st = some (.tup [I (worstV n ps), I (worstE n ps)], st) := by
  rw [run_pure (fn := ir40) rfl rfl]
  have h81 := c81 nl n ps []
  unfold worstV worstE
  by_cases h : chk n ps = 0
  · obtain ⟨h1, hl16, h3, h4, h5⟩ := chk_zero h
    rw [if_pos h] at h81 ⊢
    rw [if_pos h]
    have hall : circL n.toNat (seeL 7 ps) = allN n ps := rfl
    have hw : wovL n ps = seeL 7 ps := by unfold wovL; rw [if_pos h]
    rw [hall] at h81
    unfold bk81 layT at h81
    rw [hw] at h81
    simp only [List.cons_append, List.nil_append] at h81
    have hfv : fromV 3 = .fn (.func 94) [] [.ptr 4 0, .ptr 5 0, .ptr 6 0] := rfl
    rw [hfv] at h81
    simp only [ir40, go_sem, reduceIte, Nat.reduceEqDiff, Nat.reduceAdd, Nat.reduceSub, Nat.reduceLeDiff, Nat.reduceLT, reduceCtorEq, Int.reduceLT, Int.reduceLE, Int.reduceEq, Int.reduceBEq, Int.reduceSub, Int.reduceAdd, Int.reduceMul, Int.reduceNeg, Int.reduceToNat, Nat.reduceMul, Nat.reduceBEq, h81, h, show pure 81 = false from rfl, List.length_map]
    generalize hg : lim (headed pure (run L) true _ lp40_0 _ _) _ _ = o
    obtain ⟨x, en, s, rfl, h2⟩ : ∃ x en s, o = some (x, en, s) ∧ _ := by rw [← hg]; exact loop40_0 nl n ps hl16 h4 (seeL 7 ps) (allN n ps).length (ovL (allN n ps)) (ovL_len _) (fun i => thN (allN n ps) (refP ps i)) (fun i _ => over_wr h _) 0 (-1) 0 (by omega) _ _ (by simp only [go_sem, reduceIte, Nat.reduceEqDiff, Nat.reduceAdd, Nat.reduceSub, Nat.reduceLeDiff, Nat.reduceLT, reduceCtorEq, Int.reduceLT, Int.reduceLE, Int.reduceEq, Int.reduceBEq, Int.reduceSub, Int.reduceAdd, Int.reduceMul, Int.reduceNeg, Int.reduceToNat, Nat.reduceMul, Nat.reduceBEq, okRefsW, renCellsW, okRefsTal, renCellsTal, hfv, Int.natCast_zero] <;> rfl)
    clear hg
    rw [Nat.sub_zero] at h2
    obtain ⟨rfl, e6⟩ := h2
    have hI : ((List.range' 0 ps.length).foldl (wstep fun i => thN (allN n ps) (refP ps i)) (-1, 0)).1 = worstI n ps := rfl
    rw [hI] at e6
    by_cases p : worstI n ps < 0
    · rw [if_pos p, if_pos p]
      simp only [go_sem, reduceIte, Nat.reduceEqDiff, Nat.reduceAdd, Nat.reduceSub, Nat.reduceLeDiff, Nat.reduceLT, reduceCtorEq, Int.reduceLT, Int.reduceLE, Int.reduceEq, Int.reduceBEq, Int.reduceSub, Int.reduceAdd, Int.reduceMul, Int.reduceNeg, Int.reduceToNat, Nat.reduceMul, Nat.reduceBEq, e6, p]
    · rw [if_neg p, if_neg p]
      simp only [go_sem, reduceIte, Nat.reduceEqDiff, Nat.reduceAdd, Nat.reduceSub, Nat.reduceLeDiff, Nat.reduceLT, reduceCtorEq, Int.reduceLT, Int.reduceLE, Int.reduceEq, Int.reduceBEq, Int.reduceSub, Int.reduceAdd, Int.reduceMul, Int.reduceNeg, Int.reduceToNat, Nat.reduceMul, Nat.reduceBEq, e6, p]
  · rw [if_neg h] at h81 ⊢
    rw [if_neg h]
    unfold bk81 at h81
    simp only [ir40, go_sem, reduceIte, Nat.reduceEqDiff, Nat.reduceAdd, Nat.reduceSub, Nat.reduceLeDiff, Nat.reduceLT, reduceCtorEq, Int.reduceLT, Int.reduceLE, Int.reduceEq, Int.reduceBEq, Int.reduceSub, Int.reduceAdd, Int.reduceMul, Int.reduceNeg, Int.reduceToNat, Nat.reduceMul, Nat.reduceBEq, h81, h, show pure 81 = false from rfl]

attribute [local go_sem] shaped_t cells_t isAgg_t storable_t okRef_t pub_t shaped_oA cells_oA storable_oA okRef_out storable_out shaped_out cells_out fin_out pub_out

/-! ### the reference's worst reference -/
def rwStep (f : Nat → Nat) (w i : Nat) : Nat := if f w < f i then i else w
def rwL (f : Nat → Nat) (k : Nat) : Nat := (List.range' 1 (k - 1)).foldl (rwStep f) 0
theorem worst_eq (f : Nat → Nat) : ∀ (k i w : Nat), (List.range' i k).foldl (wstep f) (if 0 < f w then ((w : Int), (f w : Int)) else (-1, 0)) = (if 0 < f ((List.range' i k).foldl (rwStep f) w) then ((((List.range' i k).foldl (rwStep f) w : Nat) : Int), (f ((List.range' i k).foldl (rwStep f) w) : Int)) else (-1, 0))
  | 0, _, _ => rfl
  | k + 1, i, w => by
    rw [List.range'_succ, List.foldl_cons, List.foldl_cons]
    have : wstep f (if 0 < f w then ((w : Int), (f w : Int)) else (-1, 0)) i = (if 0 < f (rwStep f w i) then ((rwStep f w i : Int), (f (rwStep f w i) : Int)) else (-1, 0)) := by
      unfold wstep rwStep
      by_cases h1 : 0 < f w
      · rw [if_pos h1]
        by_cases h2 : f w < f i
        · rw [if_pos (show (((w : Int), (f w : Int)) : Int × Int).2 < (f i : Int) by simp; omega), if_pos h2, if_pos (by omega)]
        · rw [if_neg (show ¬(((w : Int), (f w : Int)) : Int × Int).2 < (f i : Int) by simp; omega), if_neg h2, if_pos h1]
      · rw [if_neg h1]
        by_cases h2 : f w < f i
        · rw [if_pos (show (((-1 : Int), (0 : Int)) : Int × Int).2 < (f i : Int) by simp; omega), if_pos h2, if_pos (by omega)]
        · rw [if_neg (show ¬(((-1 : Int), (0 : Int)) : Int × Int).2 < (f i : Int) by simp; omega), if_neg h2, if_neg h1]
    rw [this]
    exact worst_eq f k (i + 1) (rwStep f w i)
/-- The first reference on the most circles, if there is one on some. -/
theorem worst_rw (n : Int) (ps : List (Int × Int)) (hps : 1 ≤ ps.length) : worstI n ps = if 0 < thN (allN n ps) (refP ps (rwL (fun i => thN (allN n ps) (refP ps i)) ps.length)) then ((rwL (fun i => thN (allN n ps) (refP ps i)) ps.length : Nat) : Int) else -1 := by
  unfold worstI rwL
  have e : List.range' 0 ps.length = 0 :: List.range' 1 (ps.length - 1) := by
    rw [show ps.length = (ps.length - 1) + 1 by omega, List.range'_succ, Nat.add_sub_cancel]
  rw [e, List.foldl_cons]
  generalize hf : (fun i => thN (allN n ps) (refP ps i)) = f
  have h0 : wstep f (-1, 0) 0 = if 0 < f 0 then (((0 : Nat) : Int), (f 0 : Int)) else (-1, 0) := by
    unfold wstep
    by_cases h : 0 < f 0
    · rw [if_pos (show (((-1 : Int), (0 : Int)) : Int × Int).2 < (f 0 : Int) by simp; omega), if_pos h]
    · rw [if_neg (show ¬(((-1 : Int), (0 : Int)) : Int × Int).2 < (f 0 : Int) by simp; omega), if_neg h]
  rw [h0, worst_eq]
  have hfx : ∀ x, f x = thN (allN n ps) (refP ps x) := fun x => by rw [← hf]
  rw [hfx]
  split <;> rfl

attribute [local go_sem high] and_one shr_u shl_one or_u and_u

/-! ### the first number that is not in a set -/
def mexM (m : Nat) : Nat := ((List.range 8).find? fun i => !m.testBit i).getD 0
abbrev cU (m : Nat) : AV := .v (.int .u64 (18446744073709551615 - (m : Int)))
theorem all52c : (List.range 128).map (fun m => callAV L 60 52 [cU m] ⟨[], []⟩) = (List.range 128).map (fun m => some (I (mexM m : Nat), (⟨[], []⟩ : St))) := by kernel_rfl
theorem c52c (m : Nat) (hm : m < 128) (st : St) : run L 52 [cU m] st = some (I (mexM m : Nat), st) :=
  run_any' (fn := ir52) rfl rfl (callAV_run L 60 _ _ _ _ (all_of all52c m hm)) st
def negL (n : Nat) : List Int := List.replicate n (-1)
theorem all79 : (List.range 7).map (fun n => callAV L 100 79 [.lst .any 1 [I (-1)], J (n + 1)] ⟨[], []⟩) = (List.range 7).map (fun n => some (.rsl 0 0 (n + 1) (n + 1) 1 false, (⟨[(negL (n + 1)).map I], []⟩ : St))) := by kernel_rfl
theorem c79 (n : Nat) (h1 : 1 ≤ n) (hn : n ≤ 7) : run L 79 [.lst .any 1 [I (-1)], J n] ⟨[], []⟩ = some (.rsl 0 0 n n 1 false, ⟨[(negL n).map I], []⟩) := by
  have := callAV_run L 100 _ _ _ _ (all_of all79 (n - 1) (by omega))
  rw [show n - 1 + 1 = n by omega] at this
  exact this


/-! ### numbers of words, without the program -/
def isMex (l : List Nat) (v : Nat) : Prop := v ∉ l ∧ ∀ j, j < v → j ∈ l
theorem mex_uniq {l : List Nat} {a b : Nat} (ha : isMex l a) (hb : isMex l b) : a = b := by
  rcases Nat.lt_trichotomy a b with h | h | h
  · exact absurd (hb.2 a h) ha.1
  · exact h
  · exact absurd (ha.2 b h) hb.1
/-- A word has a number if all that it sees have. -/
inductive Num (w : List Nat) : Nat → Nat → Prop
  | mk (x : Nat) (f : Nat → Nat) (v : Nat) (h : ∀ y, y ∈ bitsL (w.getD x 0) → Num w y (f y)) (hm : isMex ((bitsL (w.getD x 0)).map f) v) : Num w x v
theorem num_uniq {w : List Nat} {x v : Nat} (h : Num w x v) : ∀ v', Num w x v' → v = v' := by
  induction h with
  | mk x f v h hm ih =>
    intro v' h'
    cases h' with
    | mk _ g _ h2 hm2 =>
      have e : (bitsL (w.getD x 0)).map f = (bitsL (w.getD x 0)).map g := List.map_congr_left fun y hy => ih y hy _ (h2 y hy)
      rw [← e] at hm2
      exact mex_uniq hm hm2
/-- In words that see one another on and on none has a number. -/
theorem num_stop {w : List Nat} {S : Nat → Prop} (hS : ∀ x, S x → ∃ y, S y ∧ y ∈ bitsL (w.getD x 0)) {x v : Nat} (h : Num w x v) : ¬ S x := by
  induction h with
  | mk x f v h hm ih =>
    intro hx
    obtain ⟨y, hy, hb⟩ := hS x hx
    exact ih y hb hy
def mexS (O : List Int) (l : List Nat) (m : Nat) : Nat := l.foldl (fun m y => m ||| 2 ^ (O.getD y (-1)).toNat) m
def numStep (w : List Nat) (q : List Int × Nat) (x : Nat) : List Int × Nat :=
  if q.2.testBit x = true ∨ dfN (w.getD x 0) q.2 ≠ 0 then q else (q.1.set x ((mexM (mexS q.1 (bitsL (w.getD x 0)) 0) : Nat) : Int), q.2 ||| 2 ^ x)
def numRound (w : List Nat) (n : Nat) (q : List Int × Nat) : List Int × Nat := (List.range' 0 n).foldl (numStep w) q
def numR (w : List Nat) (n : Nat) : Nat → List Int × Nat → List Int × Nat
  | 0, q => q
  | k + 1, q => numR w n k (numRound w n q)
theorem mexS_bit (O : List Int) (b : Nat) : ∀ (l : List Nat) (m : Nat), (mexS O l m).testBit b = (m.testBit b || decide (b ∈ l.map fun y => (O.getD y (-1)).toNat))
  | [], m => by simp [mexS]
  | y :: r, m => by
    show (mexS O r (m ||| 2 ^ (O.getD y (-1)).toNat)).testBit b = _
    rw [mexS_bit O b r, Nat.testBit_or, Nat.testBit_two_pow, Bool.or_assoc]
    congr 1
    rw [Bool.eq_iff_iff]
    simp only [Bool.or_eq_true, decide_eq_true_eq, List.map_cons, List.mem_cons]
    exact or_congr ⟨fun h => h.symm, fun h => h.symm⟩ Iff.rfl
theorem mexS_lt (O : List Int) (c : Nat) : ∀ (l : List Nat) (m : Nat), m < 2 ^ c → (∀ y ∈ l, (O.getD y (-1)).toNat < c) → mexS O l m < 2 ^ c
  | [], m, h, _ => h
  | y :: r, m, h, hl => mexS_lt O c r _ (Nat.or_lt_two_pow h (Nat.pow_lt_pow_right (by omega) (hl y (by simp)))) (fun z hz => hl z (by simp [hz]))
theorem mexM_all : (List.range 128).all (fun m => (List.range 8).all fun c => (!decide (m < 2 ^ c)) || decide (mexM m ≤ c)) = true := by kernel_rfl
theorem mexM_le {m c : Nat} (hc : c ≤ 7) (h : m < 2 ^ c) : mexM m ≤ c := by
  have hm : m < 128 := Nat.lt_of_lt_of_le h (Nat.pow_le_pow_right (n := 2) (by omega) hc)
  have := List.all_eq_true.1 (List.all_eq_true.1 mexM_all m (List.mem_range.2 hm)) c (List.mem_range.2 (by omega))
  rw [Bool.or_eq_true, Bool.not_eq_true', decide_eq_false_iff_not, decide_eq_true_iff] at this
  exact this.resolve_left (fun h2 => h2 h)
theorem mexM_spec_all : (List.range 128).all (fun m => !m.testBit (mexM m) && (List.range (mexM m)).all m.testBit) = true := by kernel_rfl
theorem mexM_spec {m : Nat} (hm : m < 128) : m.testBit (mexM m) = false ∧ ∀ j, j < mexM m → m.testBit j = true := by
  have := List.all_eq_true.1 mexM_spec_all m (List.mem_range.2 hm)
  rw [Bool.and_eq_true, Bool.not_eq_true', List.all_eq_true] at this
  exact ⟨this.1, fun j hj => this.2 j (List.mem_range.2 hj)⟩
structure Know (w : List Nat) (n : Nat) (q : List Int × Nat) : Prop where
  len : q.1.length = n
  lt : q.2 < 2 ^ n
  yes : ∀ y, q.2.testBit y = true → ∃ v : Nat, q.1.getD y (-1) = v ∧ v < cardN n q.2 ∧ Num w y v
  no : ∀ y, y < n → q.2.testBit y = false → q.1.getD y (-1) = -1
theorem getDi_set (F : List Int) (x : Nat) (v : Int) (z : Nat) (hx : x < F.length) : (F.set x v).getD z (-1) = if z = x then v else F.getD z (-1) := by
  split
  · next h => subst h; rw [List.getD_eq_getElem?_getD, List.getElem?_set_self hx]; rfl
  · next h => rw [List.getD_eq_getElem?_getD, List.getElem?_set_ne (Ne.symm h), ← List.getD_eq_getElem?_getD]
theorem df_zero {a b : Nat} (ha : a < 128) (hb : b < 128) : dfN a b = 0 ↔ ∀ y, a.testBit y = true → b.testBit y = true := by
  constructor
  · intro h y hy
    cases e : b.testBit y
    · have : (dfN a b).testBit y = true := by rw [dfN_bit hb, hy, e, decide_eq_true (bit_lt7 ha hy)]; rfl
      rw [h] at this; simp at this
    · rfl
  · intro h
    apply Nat.eq_of_testBit_eq
    intro y
    rw [Nat.zero_testBit, dfN_bit hb]
    cases e : a.testBit y
    · rfl
    · rw [h y e]; simp
theorem card_add {n k x : Nat} (hx : x < n) (h : k.testBit x = false) : cardN n k < cardN n (k ||| 2 ^ x) := by
  unfold cardN
  refine filter_len_lt _ (fun y _ hy => by rw [Nat.testBit_or, hy]; rfl) ⟨x, List.mem_range.2 hx, ?_, h⟩
  rw [Nat.testBit_or, Nat.testBit_two_pow_self]; simp
/-- One step: what is known stays right. -/
theorem num_step {w : List Nat} {n : Nat} (hn : n ≤ 7) (hsm : ∀ x ∈ w, x < 128) (hwn : ∀ a b, (w.getD a 0).testBit b = true → b < n) {q : List Int × Nat} (h : Know w n q) {x : Nat} (hx : x < n) :
    Know w n (numStep w q x) ∧ (numStep w q x = q ∧ (q.2.testBit x = true ∨ dfN (w.getD x 0) q.2 ≠ 0) ∨ q.2.testBit x = false ∧ (numStep w q x).2 = q.2 ||| 2 ^ x) := by
  unfold numStep
  have hq128 : q.2 < 128 := Nat.lt_of_lt_of_le h.lt (Nat.pow_le_pow_right (n := 2) (by omega) hn)
  by_cases hc : q.2.testBit x = true ∨ dfN (w.getD x 0) q.2 ≠ 0
  · rw [if_pos hc]
    exact ⟨h, .inl ⟨rfl, hc⟩⟩
  · rw [if_neg hc]
    have hxf : q.2.testBit x = false := by
      cases e : q.2.testBit x
      · rfl
      · exact absurd (.inl e) hc
    have hdf : dfN (w.getD x 0) q.2 = 0 := Classical.byContradiction fun e => hc (.inr e)
    have hsub := (df_zero (small_getD hsm x) hq128).1 hdf
    have hcard := card_add hx hxf
    have hcn := cardN_le n (q.2 ||| 2 ^ x)
    have hval : ∀ y ∈ bitsL (w.getD x 0), ∃ v : Nat, q.1.getD y (-1) = v ∧ v < cardN n q.2 ∧ Num w y v := fun y hy => h.yes y (hsub y (List.mem_filter.1 hy).2)
    have hmlt : mexS q.1 (bitsL (w.getD x 0)) 0 < 2 ^ cardN n q.2 := mexS_lt _ _ _ _ Nat.one_le_two_pow (fun y hy => by
      obtain ⟨v, e, hv, _⟩ := hval y hy
      rw [e]; simpa using hv)
    have hp7 : 2 ^ cardN n q.2 ≤ 2 ^ 7 := Nat.pow_le_pow_right (by omega) (by omega)
    have hm128 : mexS q.1 (bitsL (w.getD x 0)) 0 < 128 := by omega
    have hml := mexM_le (by omega) hmlt
    obtain ⟨hs1, hs2⟩ := mexM_spec hm128
    have hnum : Num w x (mexM (mexS q.1 (bitsL (w.getD x 0)) 0)) := by
      refine .mk x (fun y => (q.1.getD y (-1)).toNat) _ (fun y hy => ?_) ⟨fun hm => ?_, fun j hj => ?_⟩
      · obtain ⟨v, e, _, hv⟩ := hval y hy
        rw [e, Int.toNat_natCast]; exact hv
      · rw [mexS_bit, Nat.zero_testBit, Bool.false_or, decide_eq_false_iff_not] at hs1
        exact hs1 hm
      · have := hs2 j hj
        rw [mexS_bit, Nat.zero_testBit, Bool.false_or, decide_eq_true_iff] at this
        exact this
    refine ⟨⟨?_, ?_, fun y hy => ?_, fun y hy hb => ?_⟩, .inr ⟨hxf, rfl⟩⟩
    · show (q.1.set x _).length = n
      rw [List.length_set]; exact h.len
    · exact Nat.or_lt_two_pow h.lt (Nat.pow_lt_pow_right (by omega) hx)
    · show ∃ v : Nat, (q.1.set x _).getD y (-1) = v ∧ v < cardN n (q.2 ||| 2 ^ x) ∧ Num w y v
      rw [getDi_set _ _ _ _ (by rw [h.len]; exact hx)]
      by_cases e : y = x
      · subst e
        exact ⟨_, if_pos rfl, by omega, hnum⟩
      · rw [if_neg e]
        have hy' : q.2.testBit y = true := by
          have hy2 : (q.2 ||| 2 ^ x).testBit y = true := hy
          rw [Nat.testBit_or, Nat.testBit_two_pow, Bool.or_eq_true, decide_eq_true_iff] at hy2
          exact hy2.resolve_right (fun h2 => e h2.symm)
        obtain ⟨v, e1, e2, e3⟩ := h.yes y hy'
        exact ⟨v, e1, by omega, e3⟩
    · show (q.1.set x _).getD y (-1) = -1
      have hb2 : (q.2 ||| 2 ^ x).testBit y = false := hb
      rw [Nat.testBit_or, Nat.testBit_two_pow, Bool.or_eq_false_iff, decide_eq_false_iff_not] at hb2
      rw [getDi_set _ _ _ _ (by rw [h.len]; exact hx), if_neg (fun e => hb2.2 e.symm)]
      exact h.no y hy hb2.1
def Closed (w : List Nat) (n : Nat) (K : Nat) : Prop := ∀ x, x < n → K.testBit x = true ∨ dfN (w.getD x 0) K ≠ 0
/-- A round: all that could be known is, or one more is. -/
theorem num_round {w : List Nat} {n : Nat} (hn : n ≤ 7) (hsm : ∀ x ∈ w, x < 128) (hwn : ∀ a b, (w.getD a 0).testBit b = true → b < n) : ∀ (l : List Nat) (q : List Int × Nat), Know w n q → (∀ x ∈ l, x < n) →
    Know w n (l.foldl (numStep w) q) ∧ ((l.foldl (numStep w) q = q ∧ ∀ x ∈ l, q.2.testBit x = true ∨ dfN (w.getD x 0) q.2 ≠ 0) ∨ cardN n q.2 < cardN n (l.foldl (numStep w) q).2)
  | [], q, h, _ => ⟨h, .inl ⟨rfl, by simp⟩⟩
  | x :: r, q, h, hl => by
    obtain ⟨h1, h2⟩ := num_step hn hsm hwn h (hl x (by simp))
    obtain ⟨h3, h4⟩ := num_round hn hsm hwn r _ h1 (fun y hy => hl y (by simp [hy]))
    rw [List.foldl_cons]
    refine ⟨h3, ?_⟩
    rcases h2 with ⟨e, hc⟩ | ⟨hf, e⟩
    · rw [e] at h4 ⊢
      rcases h4 with ⟨e2, h5⟩ | h5
      · left
        refine ⟨e2, fun y hy => ?_⟩
        rcases List.mem_cons.1 hy with rfl | hy
        · exact hc
        · exact h5 y hy
      · exact .inr h5
    · right
      have hca := card_add (hl x (by simp)) hf
      rw [← e] at hca
      rcases h4 with ⟨e2, _⟩ | h5
      · rw [e2]; exact hca
      · omega
theorem num_rounds {w : List Nat} {n : Nat} (hn : n ≤ 7) (hsm : ∀ x ∈ w, x < 128) (hwn : ∀ a b, (w.getD a 0).testBit b = true → b < n) : ∀ (k : Nat) (q : List Int × Nat), Know w n q → Know w n (numR w n k q) ∧ (Closed w n (numR w n k q).2 ∨ cardN n q.2 + k ≤ cardN n (numR w n k q).2)
  | 0, q, h => ⟨h, .inr (Nat.le_refl _)⟩
  | k + 1, q, h => by
    obtain ⟨h1, h2⟩ := num_round hn hsm hwn (List.range' 0 n) q h (fun x hx => by rw [List.mem_range'_1] at hx; omega)
    have e : (List.range' 0 n).foldl (numStep w) q = numRound w n q := rfl
    rw [e] at h1 h2
    obtain ⟨h3, h4⟩ := num_rounds hn hsm hwn k (numRound w n q) h1
    refine ⟨h3, ?_⟩
    show Closed w n (numR w n k (numRound w n q)).2 ∨ cardN n q.2 + (k + 1) ≤ cardN n (numR w n k (numRound w n q)).2
    rcases h2 with ⟨e2, hc⟩ | h2
    · left
      have hfix : ∀ k, numR w n k q = q := by
        intro k
        induction k with
        | zero => rfl
        | succ k ih => show numR w n k (numRound w n q) = q; rw [e2]; exact ih
      rw [e2, hfix]
      exact fun x hx => hc x (by rw [List.mem_range'_1]; omega)
    · rcases h4 with h4 | h4
      · exact .inl h4
      · right; omega
theorem know_start (w : List Nat) (n : Nat) : Know w n (negL n, 0) := by
  refine ⟨by simp [negL], Nat.one_le_two_pow, fun y hy => by simp at hy, fun y hy _ => ?_⟩
  unfold negL
  rw [List.getD_eq_getElem?_getD, List.getElem?_replicate]; split <;> rfl
theorem card_full {n k : Nat} (h : n ≤ cardN n k) {x : Nat} (hx : x < n) : k.testBit x = true := by
  cases e : k.testBit x
  · have := filter_len_lt (p := k.testBit) (q := fun _ => true) (List.range n) (fun _ _ _ => rfl) ⟨x, List.mem_range.2 hx, rfl, e⟩
    have h2 : ((List.range n).filter fun _ => true).length = n := by rw [List.filter_eq_self.2 (fun _ _ => rfl), List.length_range]
    unfold cardN at h; omega
  · rfl

attribute [local go_sem high] and_one shr_u shl_one or_u and_u
attribute [local go_sem] shaped_t cells_t isAgg_t storable_t okRef_t pub_t

/-! ### numbers, or a circle -/
theorem walk_cyc {J : Nat → Nat → Prop} : ∀ (k : Nat) (c : List Nat), c.length = k → Ch J c → ¬ c.Nodup → ∃ d, d.Nodup ∧ Cyc J d ∧ ∀ y ∈ d, y ∈ c := by
  intro k
  induction k using Nat.strongRecOn with
  | ind k ih =>
    intro c hl hc hn
    obtain ⟨A, x, B, C, rfl⟩ := not_nodup c hn
    have h1 := (ch_split x (B ++ x :: C) A).1 hc
    have e2 : x :: (B ++ x :: C) = (x :: B) ++ x :: C := rfl
    have h2 := (ch_split x C (x :: B)).1 (by rw [← e2]; exact h1.2)
    by_cases hb : (x :: B).Nodup
    · exact ⟨x :: B, hb, ⟨x, B, rfl, h2.1⟩, fun y hy => by
        simp only [List.mem_append, List.mem_cons] at hy ⊢
        rcases hy with rfl | hy
        · exact .inr (.inl rfl)
        · exact .inr (.inr (.inl hy))⟩
    · have hch : Ch J (x :: B) := by
        have := h2.1
        rw [ch_snoc x (x :: B) (by simp)] at this
        exact this.1
      obtain ⟨d, d1, d2, d3⟩ := ih (x :: B).length (by rw [← hl]; simp; omega) (x :: B) rfl hch hb
      exact ⟨d, d1, d2, fun y hy => by
        have := d3 y hy
        simp only [List.mem_append, List.mem_cons] at this ⊢
        rcases this with rfl | h
        · exact .inr (.inl rfl)
        · exact .inr (.inr (.inl h))⟩
theorem walk_on {J : Nat → Nat → Prop} {S : Nat → Prop} (hS : ∀ x, S x → ∃ y, S y ∧ J x y) : ∀ (k : Nat) (x : Nat), S x → ∃ c, c.length = k + 1 ∧ Ch J c ∧ (∀ y ∈ c, S y) ∧ ∃ r, c = x :: r
  | 0, x, h => ⟨[x], rfl, trivial, by simpa using h, [], rfl⟩
  | k + 1, x, h => by
    obtain ⟨y, hy, hj⟩ := hS x h
    obtain ⟨c, h1, h2, h3, r, rfl⟩ := walk_on hS k y hy
    exact ⟨x :: y :: r, by rw [← h1]; rfl, ⟨hj, h2⟩, fun z hz => by
      rcases List.mem_cons.1 hz with rfl | hz
      · exact h
      · exact h3 z hz, y :: r, rfl⟩
theorem cyc_next {J : Nat → Nat → Prop} {c : List Nat} (h : Cyc J c) : ∀ x ∈ c, ∃ y ∈ c, J x y := by
  obtain ⟨a, r, rfl, hc⟩ := h
  have key : ∀ (l : List Nat) (z : Nat), Ch J (l ++ [z]) → ∀ x ∈ l, ∃ y, (y ∈ l ∨ y = z) ∧ J x y := by
    intro l
    induction l with
    | nil => intro z _ x hx; simp at hx
    | cons b l ih =>
      intro z hch x hx
      cases l with
      | nil =>
        simp at hx; subst hx
        exact ⟨z, .inr rfl, hch.1⟩
      | cons b2 l =>
        rcases List.mem_cons.1 hx with rfl | hx
        · exact ⟨b2, .inl (by simp), hch.1⟩
        · obtain ⟨y, hy, hj⟩ := ih z hch.2 x hx
          exact ⟨y, hy.imp (fun h => by simp only [List.mem_cons] at h ⊢; exact .inr h) id, hj⟩
  intro x hx
  obtain ⟨y, hy, hj⟩ := key (a :: r) a hc x hx
  exact ⟨y, hy.elim id (fun h => by rw [h]; simp), hj⟩
/-- If all have numbers there is no circle; if some word sees on and on there is one. -/
theorem no_circ {n : Nat} (hn : n ≤ 7) {w : List Nat} (h : ∀ x, x < n → ∃ v, Num w x v) : circL n w = [] := by
  cases hc : circL n w with
  | nil => rfl
  | cons c r =>
    exfalso
    have hm : c ∈ circL n w := by rw [hc]; simp
    obtain ⟨a, s, e, ha, h2, h3, h4, h5, h6⟩ := (circ_iff hn w c).1 hm
    have hcyc : Cyc (Jw w) c := ⟨a, s, e, (ch_snoc a c (by rw [e]; simp)).2 ⟨h5, h6⟩⟩
    have hcl := (circ_lt hn c hm).2.2.1
    have hS : ∀ x, x ∈ c → ∃ y, y ∈ c ∧ y ∈ bitsL (w.getD x 0) := fun x hx => by
      obtain ⟨y, hy, hj⟩ := cyc_next hcyc x hx
      exact ⟨y, hy, List.mem_filter.2 ⟨List.mem_range.2 (by have := hcl y hy; omega), hj⟩⟩
    obtain ⟨v, hv⟩ := h a ha
    exact num_stop hS hv (by rw [e]; simp)
theorem some_circ {n : Nat} (hn : n ≤ 7) {w : List Nat} (hsm : ∀ x ∈ w, x < 128) (hwn : ∀ a b, (w.getD a 0).testBit b = true → b < n) (hself : ∀ x, (w.getD x 0).testBit x = false) {K : Nat} (hK : K < 128) (hc : Closed w n K) {x : Nat} (hx : x < n) (hb : K.testBit x = false) : circL n w ≠ [] := by
  have hS : ∀ x, (x < n ∧ K.testBit x = false) → ∃ y, (y < n ∧ K.testBit y = false) ∧ Jw w x y := by
    rintro x ⟨hx, hb⟩
    have h1 := (hc x hx).resolve_left (by rw [hb]; simp)
    apply Classical.byContradiction
    intro hno
    apply h1
    rw [df_zero (small_getD hsm x) hK]
    intro y hy
    cases e : K.testBit y
    · exact absurd ⟨y, ⟨hwn x y hy, e⟩, hy⟩ hno
    · rfl
  obtain ⟨c, h1, h2, h3, _⟩ := walk_on hS n x ⟨hx, hb⟩
  have hnn : ¬ c.Nodup := fun hnd => by
    have := nodup_len_le c (List.range n) hnd (fun y hy => List.mem_range.2 (h3 y hy).1)
    rw [List.length_range] at this; omega
  obtain ⟨d, d1, d2, d3⟩ := walk_cyc _ c rfl h2 hnn
  have hl : 1 < d.length := by
    obtain ⟨a, r, rfl, hch⟩ := d2
    cases r with
    | nil =>
      have hj : Jw w a a := hch.1
      unfold Jw at hj
      rw [hself] at hj; simp at hj
    | cons b r => simp
  obtain ⟨A, m, B, _, hm⟩ := circ_of hn d1 hl d2 (fun y hy => (h3 y (d3 y hy)).1)
  intro e
  rw [e] at hm; simp at hm

/-! ### the program's loops -/
theorem getI (O : List Int) (a : Nat) (h : a < O.length) : (O.map I)[a]? = some (I (O.getD a (-1))) := by
  rw [getm I O (-1) a, if_pos h]
theorem loop34_0 (nl : Bool) (n : Nat) (hn : n ≤ 7) (ps : List (Int × Int)) (w : List Nat) (O : List Int) (hO : O.length = n) (K x : Nat) (r : Int) (G : List Nat) (hG : ∀ y ∈ G, y < n ∧ ∃ v : Nat, O.getD y (-1) = v ∧ v < 7) (hGl : G.length ≤ 7) (i : Nat) (m : Nat) (hok : i ≤ G.length ∧ m < 128) (env : Env) (st : St)
    (hg : gcAV true 3 0 (canon env [4, 6, 7, 8, 10, 26, 27, 32, 33, 34, 51, 52, 53]) st = ([(4, .ptr 1 0), (6, .rsl 2 0 n n 1 false), (7, U K), (8, J x), (10, U m), (26, J n), (27, I r), (32, .rsl 1 1 n 7 1 false), (33, J n), (34, J x), (51, sl 1 true (G.map J)), (52, J G.length), (53, J i)], ⟨[bkCells nl (n : Int) ps, webC (n : Int) w, O.map I], []⟩)) :
    ∃ x_1 en s, lim (headed pure (run L) true [4, 6, 7, 8, 10, 26, 27, 32, 33, 34, 51, 52, 53] lp34_0 3 0) env st = some (x_1, en, s) ∧ (x_1 = .exit 4 ∧ en.get 4 = .ptr 1 0 ∧ en.get 6 = .rsl 2 0 n n 1 false ∧ en.get 7 = U K ∧ en.get 8 = J x ∧ en.get 10 = U (mexS O (G.drop i) m) ∧ en.get 26 = J n ∧ en.get 27 = I r ∧ en.get 32 = .rsl 1 1 n 7 1 false ∧ en.get 33 = J n ∧ en.get 34 = J x ∧ s = ⟨[bkCells nl (n : Int) ps, webC (n : Int) w, O.map I], []⟩) := by
  refine loop_wp (α := Nat × Nat) (fun ⟨i, m⟩ => G.length - i) (fun ⟨i, m⟩ => i ≤ G.length ∧ m < 128) (fun ⟨i, m⟩ => ([(4, .ptr 1 0), (6, .rsl 2 0 n n 1 false), (7, U K), (8, J x), (10, U m), (26, J n), (27, I r), (32, .rsl 1 1 n 7 1 false), (33, J n), (34, J x), (51, sl 1 true (G.map J)), (52, J G.length), (53, J i)], ⟨[bkCells nl (n : Int) ps, webC (n : Int) w, O.map I], []⟩)) (fun ⟨i, m⟩ x_1 en s => x_1 = .exit 4 ∧ en.get 4 = .ptr 1 0 ∧ en.get 6 = .rsl 2 0 n n 1 false ∧ en.get 7 = U K ∧ en.get 8 = J x ∧ en.get 10 = U (mexS O (G.drop i) m) ∧ en.get 26 = J n ∧ en.get 27 = I r ∧ en.get 32 = .rsl 1 1 n 7 1 false ∧ en.get 33 = J n ∧ en.get 34 = J x ∧ s = ⟨[bkCells nl (n : Int) ps, webC (n : Int) w, O.map I], []⟩) (fun ⟨i, m⟩ hok => ?_) ⟨i, m⟩ hok env st hg
  simp only at hok
  obtain ⟨h1, h2⟩ := hok
  dsimp only at h1 h2 ⊢
  by_cases h : i < G.length
  · have hx := index_J true G i h
    have hs := succ64 i (by omega)
    have hlt : ((i : Int) < (G.length : Int)) = True := eq_true (by omega)
    have hd : G.drop i = G[i] :: G.drop (i + 1) := List.drop_eq_getElem_cons h
    obtain ⟨hy, v, hv, hv7⟩ := hG _ (List.getElem_mem h)
    rw [hd]
    generalize G[i] = y at *
    have hms : mexS O (y :: G.drop (i + 1)) m = mexS O (G.drop (i + 1)) (m ||| 2 ^ v) := by
      show mexS O (G.drop (i + 1)) (m ||| 2 ^ (O.getD y (-1)).toNat) = _
      rw [hv, Int.toNat_natCast]
    have g1 := getI O y (by omega)
    rw [hv] at g1
    have b1 : ((0 : Int) ≤ (y : Int)) = True := eq_true (by omega)
    have b2 : ((y : Int) < (n : Int)) = True := eq_true (by omega)
    have e1 : orU m (sh1 v) = m ||| 2 ^ v := by rw [(sh1_lt v hv7).1, orU_eq _ _ h2 (sh1_lt v hv7).2]
    have hlt2 : m ||| 2 ^ v < 128 := Nat.or_lt_two_pow (n := 7) h2 (sh1_lt v hv7).2
    rw [hms]
    generalize m ||| 2 ^ v = m2 at *
    simp only [go_sem, reduceIte, Nat.reduceEqDiff, Nat.reduceAdd, Nat.reduceSub, Nat.reduceLeDiff, Nat.reduceLT, reduceCtorEq, Int.reduceLT, Int.reduceLE, Int.reduceEq, Int.reduceBEq, Int.reduceSub, Int.reduceAdd, Int.reduceMul, Int.reduceNeg, Int.reduceToNat, Nat.reduceMul, Nat.reduceBEq, index_rsl_if, setm, make_ints, condK_dec, wantK_dec, not_dec, and_dec, or_dec, seqK_ite, seqK_none, blockK_ite, blockK_none, opsK_ite, opsK_none, stepK_ite, stepK_none, bodyK_ite, bodyK_none, resK_ite, resK_none, leaveK_ite, leaveK_none, only_ite, only_none, bind_ite, gives_some, gives_none, gives_ite, then_normal, then_ret, then_exit, then_none, then_ite, Option.bind_none, Bool.not_eq_true', decide_eq_false_iff_not, Bool.and_eq_true, Bool.or_eq_true, Option.some.injEq, Int.not_lt, Int.not_le, lp34_0, hx, hlt, hs, b1, b2, g1, e1]
    refine ⟨(i + 1, m2), by simp only [go_sem, reduceIte, Nat.reduceEqDiff, Nat.reduceAdd, Nat.reduceSub, Nat.reduceLeDiff, Nat.reduceLT, reduceCtorEq, Int.reduceLT, Int.reduceLE, Int.reduceEq, Int.reduceBEq, Int.reduceSub, Int.reduceAdd, Int.reduceMul, Int.reduceNeg, Int.reduceToNat, Nat.reduceMul, Nat.reduceBEq, ren1_locm, loc_tips, locT_eq, okRefsW, renCellsW] <;> rfl, ?_, ?_, fun x en s hq => ?_⟩
    · dsimp only; exact ⟨by omega, hlt2⟩
    · dsimp only; omega
    · exact hq
  · have hd : G.drop i = [] := List.drop_eq_nil_of_le (by omega)
    have hlt : ((i : Int) < (G.length : Int)) = False := eq_false (by omega)
    rw [hd]
    simp only [go_sem, reduceIte, Nat.reduceEqDiff, Nat.reduceAdd, Nat.reduceSub, Nat.reduceLeDiff, Nat.reduceLT, reduceCtorEq, Int.reduceLT, Int.reduceLE, Int.reduceEq, Int.reduceBEq, Int.reduceSub, Int.reduceAdd, Int.reduceMul, Int.reduceNeg, Int.reduceToNat, Nat.reduceMul, Nat.reduceBEq, index_rsl_if, setm, make_ints, condK_dec, wantK_dec, not_dec, and_dec, or_dec, seqK_ite, seqK_none, blockK_ite, blockK_none, opsK_ite, opsK_none, stepK_ite, stepK_none, bodyK_ite, bodyK_none, resK_ite, resK_none, leaveK_ite, leaveK_none, only_ite, only_none, bind_ite, gives_some, gives_none, gives_ite, then_normal, then_ret, then_exit, then_none, then_ite, Option.bind_none, Bool.not_eq_true', decide_eq_false_iff_not, Bool.and_eq_true, Bool.or_eq_true, Option.some.injEq, Int.not_lt, Int.not_le, lp34_0, hlt]
    rfl

attribute [local go_sem high] and_one shr_u shl_one or_u and_u
attribute [local go_sem] shaped_t cells_t isAgg_t storable_t okRef_t pub_t

theorem compl_all : (List.range 128).all (fun m => match binAV .xor none (.v (.int .u64 (if IntKind.u64.signed = true then -1 else IntKind.u64.max))) (U m) with | some (.v (.int .u64 z)) => decide (z = 18446744073709551615 - (m : Int)) | _ => false) = true := by kernel_rfl
theorem compl_u (m : Nat) (hm : m < 128) : binAV .xor none (.v (.int .u64 (if IntKind.u64.signed = true then -1 else IntKind.u64.max))) (U m) = some (cU m) := by
  have h := List.all_eq_true.1 compl_all m (List.mem_range.2 hm)
  revert h
  generalize binAV .xor none (.v (.int .u64 (if IntKind.u64.signed = true then -1 else IntKind.u64.max))) (U m) = o
  intro h
  match o with
  | some (.v (.int .u64 z)) =>
    simp only [decide_eq_true_eq] at h
    rw [h]

set_option maxHeartbeats 1000000 in
theorem loop34_1 (nl : Bool) (n : Nat) (hn : 1 ≤ n ∧ n ≤ 7) (ps : List (Int × Int)) (w : List Nat) (ho : w.length = 7) (hsm : ∀ x ∈ w, x < 128) (hwn : ∀ a b, (w.getD a 0).testBit b = true → b < n) (r : Int) (x : Nat) (q : List Int × Nat) (hok : x ≤ n ∧ Know w n q) (env : Env) (st : St)
    (hg : gcAV true 3 0 (canon env [4, 6, 7, 26, 27, 32, 33, 34]) st = ([(4, .ptr 1 0), (6, .rsl 2 0 n n 1 false), (7, U q.2), (26, J n), (27, I r), (32, .rsl 1 1 n 7 1 false), (33, J n), (34, J x)], ⟨[bkCells nl (n : Int) ps, webC (n : Int) w, q.1.map I], []⟩)) :
    ∃ x_1 en s, lim (headed pure (run L) true [4, 6, 7, 26, 27, 32, 33, 34] lp34_1 3 0) env st = some (x_1, en, s) ∧ (x_1 = .exit 2 ∧ en.get 4 = .ptr 1 0 ∧ en.get 6 = .rsl 2 0 n n 1 false ∧ en.get 7 = U ((List.range' x (n - x)).foldl (numStep w) q).2 ∧ en.get 26 = J n ∧ en.get 27 = I r ∧ s = ⟨[bkCells nl (n : Int) ps, webC (n : Int) w, ((List.range' x (n - x)).foldl (numStep w) q).1.map I], []⟩ ∧ Know w n ((List.range' x (n - x)).foldl (numStep w) q)) := by
  refine loop_wp (α := Nat × List Int × Nat) (fun ⟨x, q⟩ => n - x) (fun ⟨x, q⟩ => x ≤ n ∧ Know w n q) (fun ⟨x, q⟩ => ([(4, .ptr 1 0), (6, .rsl 2 0 n n 1 false), (7, U q.2), (26, J n), (27, I r), (32, .rsl 1 1 n 7 1 false), (33, J n), (34, J x)], ⟨[bkCells nl (n : Int) ps, webC (n : Int) w, q.1.map I], []⟩)) (fun ⟨x, q⟩ x_1 en s => x_1 = .exit 2 ∧ en.get 4 = .ptr 1 0 ∧ en.get 6 = .rsl 2 0 n n 1 false ∧ en.get 7 = U ((List.range' x (n - x)).foldl (numStep w) q).2 ∧ en.get 26 = J n ∧ en.get 27 = I r ∧ s = ⟨[bkCells nl (n : Int) ps, webC (n : Int) w, ((List.range' x (n - x)).foldl (numStep w) q).1.map I], []⟩ ∧ Know w n ((List.range' x (n - x)).foldl (numStep w) q)) (fun ⟨x, q⟩ hok => ?_) ⟨x, q⟩ hok env st hg
  simp only at hok
  obtain ⟨h1, h2⟩ := hok
  dsimp only at h1 h2 ⊢
  by_cases h : x < n
  · have hs := succ64 x (by omega)
    have hlt : ((x : Int) < (n : Int)) = True := eq_true (by omega)
    have hr : List.range' x (n - x) = x :: List.range' (x + 1) (n - (x + 1)) := by
      rw [show n - x = (n - (x + 1)) + 1 by omega, List.range'_succ]
    have hk2 := (num_step hn.2 hsm hwn h2 h).1
    have hns : numStep w q x = if q.2.testBit x = true ∨ dfN (w.getD x 0) q.2 ≠ 0 then q else (q.1.set x ((mexM (mexS q.1 (bitsL (w.getD x 0)) 0) : Nat) : Int), q.2 ||| 2 ^ x) := rfl
    have hq128 : q.2 < 128 := Nat.lt_of_lt_of_le h2.lt (Nat.pow_le_pow_right (n := 2) (by omega) hn.2)
    have g1 := getW (n : Int) w x (by omega)
    have hlw := lenW (n : Int) w
    rw [ho] at hlw
    have b0 : ((0 : Int) ≤ (x : Int)) = True := eq_true (by omega)
    have b1 : (1 + x + 1 ≤ 8) = True := eq_true (by omega)
    have b7 : (x + 1 ≤ n) = True := eq_true (by omega)
    have hb := bit_one q.2 x
    have hmk := min64 x (by omega)
    have hsx := small_getD hsm x
    have hdf := dfU_eq (w.getD x 0) q.2 hsx hq128
    have hdf0 : (((dfN (w.getD x 0) q.2 : Nat) : Int) = 0) = (dfN (w.getD x 0) q.2 = 0) := propext (by omega)
    rw [hr, List.foldl_cons]
    by_cases p1 : q.2.testBit x = true
    · rw [if_pos (.inl p1)] at hns
      rw [hns]
      generalize w.getD x 0 = v at *
      simp only [go_sem, reduceIte, Nat.reduceEqDiff, Nat.reduceAdd, Nat.reduceSub, Nat.reduceLeDiff, Nat.reduceLT, reduceCtorEq, Int.reduceLT, Int.reduceLE, Int.reduceEq, Int.reduceBEq, Int.reduceSub, Int.reduceAdd, Int.reduceMul, Int.reduceNeg, Int.reduceToNat, Nat.reduceMul, Nat.reduceBEq, index_rsl_if, setm, make_ints, condK_dec, wantK_dec, not_dec, and_dec, or_dec, seqK_ite, seqK_none, blockK_ite, blockK_none, opsK_ite, opsK_none, stepK_ite, stepK_none, bodyK_ite, bodyK_none, resK_ite, resK_none, leaveK_ite, leaveK_none, only_ite, only_none, bind_ite, gives_some, gives_none, gives_ite, then_normal, then_ret, then_exit, then_none, then_ite, Option.bind_none, Bool.not_eq_true', decide_eq_false_iff_not, Bool.and_eq_true, Bool.or_eq_true, Option.some.injEq, Int.not_lt, Int.not_le, lp34_1, hlt, hs, g1, hlw, b0, b1, hmk, hb, p1]
      refine ⟨(x + 1, q), by simp only [go_sem, reduceIte, Nat.reduceEqDiff, Nat.reduceAdd, Nat.reduceSub, Nat.reduceLeDiff, Nat.reduceLT, reduceCtorEq, Int.reduceLT, Int.reduceLE, Int.reduceEq, Int.reduceBEq, Int.reduceSub, Int.reduceAdd, Int.reduceMul, Int.reduceNeg, Int.reduceToNat, Nat.reduceMul, Nat.reduceBEq, ren1_locm, loc_tips, locT_eq, okRefsW, renCellsW] <;> rfl, ?_, ?_, fun x en s hq => ?_⟩
      · dsimp only; exact ⟨by omega, h2⟩
      · dsimp only; omega
      · exact hq
    · have p1' : (q.2.testBit x = true) = False := eq_false p1
      by_cases p2 : dfN (w.getD x 0) q.2 = 0
      · rw [if_neg (fun hh => hh.elim p1 (fun h => h p2))] at hns
        have hxf : q.2.testBit x = false := by simpa using p1
        have hsub := (df_zero hsx hq128).1 p2
        have hcn := cardN_le n q.2
        have hcx := card_add h hxf
        have hcn2 := cardN_le n (q.2 ||| 2 ^ x)
        have hG : ∀ y ∈ bitsL (w.getD x 0), y < n ∧ ∃ v : Nat, q.1.getD y (-1) = v ∧ v < 7 := fun y hy => by
          have hyb := (List.mem_filter.1 hy).2
          obtain ⟨v, e, hv, _⟩ := h2.yes y (hsub y hyb)
          exact ⟨hwn x y hyb, v, e, by omega⟩
        have hp7 : 2 ^ cardN n q.2 ≤ 2 ^ 6 := Nat.pow_le_pow_right (by omega) (by omega)
        have hmlt : mexS q.1 (bitsL (w.getD x 0)) 0 < 2 ^ cardN n q.2 := mexS_lt _ _ _ _ Nat.one_le_two_pow (fun y hy => by
          obtain ⟨v, e, hv, _⟩ := h2.yes y (hsub y (List.mem_filter.1 hy).2)
          rw [e]; simpa using hv)
        have hm128 : mexS q.1 (bitsL (w.getD x 0)) 0 < 128 := by omega
        have hcm := compl_u _ hm128
        have h52 := fun st => c52c _ hm128 st
        have h67 := fun st => c67 (w.getD x 0) hsx st
        rw [memb_J] at h67
        have hbl := bits_len (w.getD x 0)
        have hset : (q.1.map I).set x (I (((mexM (mexS q.1 (bitsL (w.getD x 0)) 0)) : Nat) : Int)) = (numStep w q x).1.map I := by rw [hns, List.map_set]
        have hor : orU q.2 (sh1 x) = (numStep w q x).2 := by rw [hns, (sh1_lt x (by omega)).1, orU_eq _ _ hq128 (sh1_lt x (by omega)).2]
        have hql : q.1.length = n := h2.len
        have hlG : lenAV (sl 1 true ((bitsL (w.getD x 0)).map J)) = some (I (bitsL (w.getD x 0)).length) := by rw [len_sl, List.length_map]
        simp only [go_sem, reduceIte, Nat.reduceEqDiff, Nat.reduceAdd, Nat.reduceSub, Nat.reduceLeDiff, Nat.reduceLT, reduceCtorEq, Int.reduceLT, Int.reduceLE, Int.reduceEq, Int.reduceBEq, Int.reduceSub, Int.reduceAdd, Int.reduceMul, Int.reduceNeg, Int.reduceToNat, Nat.reduceMul, Nat.reduceBEq, index_rsl_if, setm, make_ints, condK_dec, wantK_dec, not_dec, and_dec, or_dec, seqK_ite, seqK_none, blockK_ite, blockK_none, opsK_ite, opsK_none, stepK_ite, stepK_none, bodyK_ite, bodyK_none, resK_ite, resK_none, leaveK_ite, leaveK_none, only_ite, only_none, bind_ite, gives_some, gives_none, gives_ite, then_normal, then_ret, then_exit, then_none, then_ite, Option.bind_none, Bool.not_eq_true', decide_eq_false_iff_not, Bool.and_eq_true, Bool.or_eq_true, Option.some.injEq, Int.not_lt, Int.not_le, lp34_1, hlt, hs, g1, hlw, b0, b1, hmk, hb, p1', hdf, hdf0, p2, h67, List.length_map]
        generalize hg : lim (headed pure (run L) true _ lp34_0 _ _) _ _ = o
        obtain ⟨x, en, s, rfl, h2⟩ : ∃ x en s, o = some (x, en, s) ∧ _ := by rw [← hg]; exact loop34_0 nl n hn.2 ps w q.1 hql q.2 x r (bitsL (w.getD x 0)) hG hbl 0 0 ⟨by omega, by omega⟩ _ _ (by simp only [go_sem, reduceIte, Nat.reduceEqDiff, Nat.reduceAdd, Nat.reduceSub, Nat.reduceLeDiff, Nat.reduceLT, reduceCtorEq, Int.reduceLT, Int.reduceLE, Int.reduceEq, Int.reduceBEq, Int.reduceSub, Int.reduceAdd, Int.reduceMul, Int.reduceNeg, Int.reduceToNat, Nat.reduceMul, Nat.reduceBEq, okRefsW, renCellsW, Int.natCast_zero] <;> rfl)
        clear hg
        rw [List.drop_zero] at h2
        obtain ⟨rfl, e4, e6, e7, e8, e10, e26, e27, e32, e33, e34, rfl⟩ := h2
        generalize numStep w q x = q2 at *
        generalize mexS q.1 (bitsL (w.getD x 0)) 0 = m at *
        simp only [go_sem, reduceIte, Nat.reduceEqDiff, Nat.reduceAdd, Nat.reduceSub, Nat.reduceLeDiff, Nat.reduceLT, reduceCtorEq, Int.reduceLT, Int.reduceLE, Int.reduceEq, Int.reduceBEq, Int.reduceSub, Int.reduceAdd, Int.reduceMul, Int.reduceNeg, Int.reduceToNat, Nat.reduceMul, Nat.reduceBEq, index_rsl_if, setm, make_ints, condK_dec, wantK_dec, not_dec, and_dec, or_dec, seqK_ite, seqK_none, blockK_ite, blockK_none, opsK_ite, opsK_none, stepK_ite, stepK_none, bodyK_ite, bodyK_none, resK_ite, resK_none, leaveK_ite, leaveK_none, only_ite, only_none, bind_ite, gives_some, gives_none, gives_ite, then_normal, then_ret, then_exit, then_none, then_ite, Option.bind_none, Bool.not_eq_true', decide_eq_false_iff_not, Bool.and_eq_true, Bool.or_eq_true, Option.some.injEq, Int.not_lt, Int.not_le, lp34_1, hs, e4, e6, e7, e8, e10, e26, e27, e32, e33, e34, hcm, h52, b0, hlt, hset, hor, hql, b7, List.length_map]
        refine ⟨(x + 1, q2), by simp only [go_sem, reduceIte, Nat.reduceEqDiff, Nat.reduceAdd, Nat.reduceSub, Nat.reduceLeDiff, Nat.reduceLT, reduceCtorEq, Int.reduceLT, Int.reduceLE, Int.reduceEq, Int.reduceBEq, Int.reduceSub, Int.reduceAdd, Int.reduceMul, Int.reduceNeg, Int.reduceToNat, Nat.reduceMul, Nat.reduceBEq, ren1_locm, loc_tips, locT_eq, okRefsW, renCellsW, e4, e6, e7, e8, e10, e26, e27, e32, e33, e34] <;> rfl, ?_, ?_, fun x en s hq => ?_⟩
        · dsimp only; exact ⟨by omega, hk2⟩
        · dsimp only; omega
        · exact hq
      · rw [if_pos (.inr p2)] at hns
        rw [hns]
        generalize w.getD x 0 = v at *
        simp only [go_sem, reduceIte, Nat.reduceEqDiff, Nat.reduceAdd, Nat.reduceSub, Nat.reduceLeDiff, Nat.reduceLT, reduceCtorEq, Int.reduceLT, Int.reduceLE, Int.reduceEq, Int.reduceBEq, Int.reduceSub, Int.reduceAdd, Int.reduceMul, Int.reduceNeg, Int.reduceToNat, Nat.reduceMul, Nat.reduceBEq, index_rsl_if, setm, make_ints, condK_dec, wantK_dec, not_dec, and_dec, or_dec, seqK_ite, seqK_none, blockK_ite, blockK_none, opsK_ite, opsK_none, stepK_ite, stepK_none, bodyK_ite, bodyK_none, resK_ite, resK_none, leaveK_ite, leaveK_none, only_ite, only_none, bind_ite, gives_some, gives_none, gives_ite, then_normal, then_ret, then_exit, then_none, then_ite, Option.bind_none, Bool.not_eq_true', decide_eq_false_iff_not, Bool.and_eq_true, Bool.or_eq_true, Option.some.injEq, Int.not_lt, Int.not_le, lp34_1, hlt, hs, g1, hlw, b0, b1, hmk, hb, p1', hdf, hdf0, p2]
        refine ⟨(x + 1, q), by simp only [go_sem, reduceIte, Nat.reduceEqDiff, Nat.reduceAdd, Nat.reduceSub, Nat.reduceLeDiff, Nat.reduceLT, reduceCtorEq, Int.reduceLT, Int.reduceLE, Int.reduceEq, Int.reduceBEq, Int.reduceSub, Int.reduceAdd, Int.reduceMul, Int.reduceNeg, Int.reduceToNat, Nat.reduceMul, Nat.reduceBEq, ren1_locm, loc_tips, locT_eq, okRefsW, renCellsW] <;> rfl, ?_, ?_, fun x en s hq => ?_⟩
        · dsimp only; exact ⟨by omega, h2⟩
        · dsimp only; omega
        · exact hq
  · have hr : n - x = 0 := by omega
    have hlt : ((x : Int) < (n : Int)) = False := eq_false (by omega)
    rw [hr]
    simp only [go_sem, reduceIte, Nat.reduceEqDiff, Nat.reduceAdd, Nat.reduceSub, Nat.reduceLeDiff, Nat.reduceLT, reduceCtorEq, Int.reduceLT, Int.reduceLE, Int.reduceEq, Int.reduceBEq, Int.reduceSub, Int.reduceAdd, Int.reduceMul, Int.reduceNeg, Int.reduceToNat, Nat.reduceMul, Nat.reduceBEq, index_rsl_if, setm, make_ints, condK_dec, wantK_dec, not_dec, and_dec, or_dec, seqK_ite, seqK_none, blockK_ite, blockK_none, opsK_ite, opsK_none, stepK_ite, stepK_none, bodyK_ite, bodyK_none, resK_ite, resK_none, leaveK_ite, leaveK_none, only_ite, only_none, bind_ite, gives_some, gives_none, gives_ite, then_normal, then_ret, then_exit, then_none, then_ite, Option.bind_none, Bool.not_eq_true', decide_eq_false_iff_not, Bool.and_eq_true, Bool.or_eq_true, Option.some.injEq, Int.not_lt, Int.not_le, lp34_1, hlt]
    exact ⟨rfl, rfl, h2⟩

attribute [local go_sem high] and_one shr_u shl_one or_u and_u
attribute [local go_sem] shaped_t cells_t isAgg_t storable_t okRef_t pub_t

theorem loop34_2 (nl : Bool) (n : Nat) (hn : 1 ≤ n ∧ n ≤ 7) (ps : List (Int × Int)) (w : List Nat) (ho : w.length = 7) (hsm : ∀ x ∈ w, x < 128) (hwn : ∀ a b, (w.getD a 0).testBit b = true → b < n) (r : Nat) (q : List Int × Nat) (hok : r ≤ n ∧ Know w n q) (env : Env) (st : St)
    (hg : gcAV true 3 0 (canon env [4, 6, 7, 26, 27]) st = ([(4, .ptr 1 0), (6, .rsl 2 0 n n 1 false), (7, U q.2), (26, J n), (27, J r)], ⟨[bkCells nl (n : Int) ps, webC (n : Int) w, q.1.map I], []⟩)) :
    ∃ x_1 en s, lim (headed pure (run L) true [4, 6, 7, 26, 27] lp34_2 3 0) env st = some (x_1, en, s) ∧ (x_1 = .exit 0 ∧ en.get 6 = .rsl 2 0 n n 1 false ∧ s = ⟨[bkCells nl (n : Int) ps, webC (n : Int) w, (numR w n (n - r) q).1.map I], []⟩) := by
  refine loop_wp (α := Nat × List Int × Nat) (fun ⟨r, q⟩ => n - r) (fun ⟨r, q⟩ => r ≤ n ∧ Know w n q) (fun ⟨r, q⟩ => ([(4, .ptr 1 0), (6, .rsl 2 0 n n 1 false), (7, U q.2), (26, J n), (27, J r)], ⟨[bkCells nl (n : Int) ps, webC (n : Int) w, q.1.map I], []⟩)) (fun ⟨r, q⟩ x_1 en s => x_1 = .exit 0 ∧ en.get 6 = .rsl 2 0 n n 1 false ∧ s = ⟨[bkCells nl (n : Int) ps, webC (n : Int) w, (numR w n (n - r) q).1.map I], []⟩) (fun ⟨r, q⟩ hok => ?_) ⟨r, q⟩ hok env st hg
  simp only at hok
  obtain ⟨h1, h2⟩ := hok
  dsimp only at h1 h2 ⊢
  by_cases h : r < n
  · have hs := succ64 r (by omega)
    have hlt : ((r : Int) < (n : Int)) = True := eq_true (by omega)
    have hr : numR w n (n - r) q = numR w n (n - (r + 1)) (numRound w n q) := by
      rw [show n - r = (n - (r + 1)) + 1 by omega]; rfl
    have g0 := getW0 (n : Int) w
    have hlw := lenW (n : Int) w
    rw [ho] at hlw
    have hsl : sliceaAV 7 1 false (.ptr 1 1) none (some (.v (.int .i64 (n : Int)))) none = some (.rsl 1 1 n 7 1 false) := by
      simp only [sliceaAV, natOr, natOf]
      simp; omega
    rw [hr]
    simp only [go_sem, reduceIte, Nat.reduceEqDiff, Nat.reduceAdd, Nat.reduceSub, Nat.reduceLeDiff, Nat.reduceLT, reduceCtorEq, Int.reduceLT, Int.reduceLE, Int.reduceEq, Int.reduceBEq, Int.reduceSub, Int.reduceAdd, Int.reduceMul, Int.reduceNeg, Int.reduceToNat, Nat.reduceMul, Nat.reduceBEq, index_rsl_if, setm, make_ints, condK_dec, wantK_dec, not_dec, and_dec, or_dec, seqK_ite, seqK_none, blockK_ite, blockK_none, opsK_ite, opsK_none, stepK_ite, stepK_none, bodyK_ite, bodyK_none, resK_ite, resK_none, leaveK_ite, leaveK_none, only_ite, only_none, bind_ite, gives_some, gives_none, gives_ite, then_normal, then_ret, then_exit, then_none, then_ite, Option.bind_none, Bool.not_eq_true', decide_eq_false_iff_not, Bool.and_eq_true, Bool.or_eq_true, Option.some.injEq, Int.not_lt, Int.not_le, lp34_2, hlt, hs, g0, hlw, hsl]
    generalize hg : lim (headed pure (run L) true _ lp34_1 _ _) _ _ = o
    obtain ⟨x, en, s, rfl, h2⟩ : ∃ x en s, o = some (x, en, s) ∧ _ := by rw [← hg]; exact loop34_1 nl n hn ps w ho hsm hwn (r : Int) 0 q ⟨by omega, h2⟩ _ _ (by simp only [go_sem, reduceIte, Nat.reduceEqDiff, Nat.reduceAdd, Nat.reduceSub, Nat.reduceLeDiff, Nat.reduceLT, reduceCtorEq, Int.reduceLT, Int.reduceLE, Int.reduceEq, Int.reduceBEq, Int.reduceSub, Int.reduceAdd, Int.reduceMul, Int.reduceNeg, Int.reduceToNat, Nat.reduceMul, Nat.reduceBEq, okRefsW, renCellsW, Int.natCast_zero] <;> rfl)
    clear hg
    rw [Nat.sub_zero] at h2
    obtain ⟨rfl, e4, e6, e7, e26, e27, rfl, hk⟩ := h2
    have hR : (List.range' 0 n).foldl (numStep w) q = numRound w n q := rfl
    rw [hR] at e7 hk
    rw [hR]
    generalize numRound w n q = q2 at *
    simp only [go_sem, reduceIte, Nat.reduceEqDiff, Nat.reduceAdd, Nat.reduceSub, Nat.reduceLeDiff, Nat.reduceLT, reduceCtorEq, Int.reduceLT, Int.reduceLE, Int.reduceEq, Int.reduceBEq, Int.reduceSub, Int.reduceAdd, Int.reduceMul, Int.reduceNeg, Int.reduceToNat, Nat.reduceMul, Nat.reduceBEq, index_rsl_if, setm, make_ints, condK_dec, wantK_dec, not_dec, and_dec, or_dec, seqK_ite, seqK_none, blockK_ite, blockK_none, opsK_ite, opsK_none, stepK_ite, stepK_none, bodyK_ite, bodyK_none, resK_ite, resK_none, leaveK_ite, leaveK_none, only_ite, only_none, bind_ite, gives_some, gives_none, gives_ite, then_normal, then_ret, then_exit, then_none, then_ite, Option.bind_none, Bool.not_eq_true', decide_eq_false_iff_not, Bool.and_eq_true, Bool.or_eq_true, Option.some.injEq, Int.not_lt, Int.not_le, lp34_2, hs, e4, e6, e7, e26, e27]
    refine ⟨(r + 1, q2), by simp only [go_sem, reduceIte, Nat.reduceEqDiff, Nat.reduceAdd, Nat.reduceSub, Nat.reduceLeDiff, Nat.reduceLT, reduceCtorEq, Int.reduceLT, Int.reduceLE, Int.reduceEq, Int.reduceBEq, Int.reduceSub, Int.reduceAdd, Int.reduceMul, Int.reduceNeg, Int.reduceToNat, Nat.reduceMul, Nat.reduceBEq, ren1_locm, loc_tips, locT_eq, okRefsW, renCellsW, e4, e6, e7, e26, e27] <;> rfl, ?_, ?_, fun x en s hq => ?_⟩
    · dsimp only; exact ⟨by omega, hk⟩
    · dsimp only; omega
    · exact hq
  · have hr : n - r = 0 := by omega
    have hlt : ((r : Int) < (n : Int)) = False := eq_false (by omega)
    rw [hr]
    simp only [go_sem, reduceIte, Nat.reduceEqDiff, Nat.reduceAdd, Nat.reduceSub, Nat.reduceLeDiff, Nat.reduceLT, reduceCtorEq, Int.reduceLT, Int.reduceLE, Int.reduceEq, Int.reduceBEq, Int.reduceSub, Int.reduceAdd, Int.reduceMul, Int.reduceNeg, Int.reduceToNat, Nat.reduceMul, Nat.reduceBEq, index_rsl_if, setm, make_ints, condK_dec, wantK_dec, not_dec, and_dec, or_dec, seqK_ite, seqK_none, blockK_ite, blockK_none, opsK_ite, opsK_none, stepK_ite, stepK_none, bodyK_ite, bodyK_none, resK_ite, resK_none, leaveK_ite, leaveK_none, only_ite, only_none, bind_ite, gives_some, gives_none, gives_ite, then_normal, then_ret, then_exit, then_none, then_ite, Option.bind_none, Bool.not_eq_true', decide_eq_false_iff_not, Bool.and_eq_true, Bool.or_eq_true, Option.some.injEq, Int.not_lt, Int.not_le, lp34_2, hlt]
    rfl

def numO (n : Nat) (w : List Nat) : List Int := (numR w n n (negL n, 0)).1
theorem num_all {n : Nat} (hn : n ≤ 7) {w : List Nat} (hsm : ∀ x ∈ w, x < 128) (hwn : ∀ a b, (w.getD a 0).testBit b = true → b < n) (hself : ∀ x, (w.getD x 0).testBit x = false) :
    (numO n w).length = n ∧ (circL n w = [] → ∀ x, x < n → ∃ v : Nat, (numO n w).getD x (-1) = v ∧ Num w x v) ∧ (circL n w ≠ [] → (-1 : Int) ∈ numO n w) := by
  obtain ⟨h1, h2⟩ := num_rounds hn hsm hwn n (negL n, 0) (know_start w n)
  have hK : (numR w n n (negL n, 0)).2 < 128 := Nat.lt_of_lt_of_le h1.lt (Nat.pow_le_pow_right (n := 2) (by omega) hn)
  refine ⟨h1.len, fun he x hx => ?_, fun he => ?_⟩
  · have hb : (numR w n n (negL n, 0)).2.testBit x = true := by
      rcases h2 with h2 | h2
      · cases e : (numR w n n (negL n, 0)).2.testBit x
        · exact absurd he (some_circ hn hsm hwn hself hK h2 hx e)
        · rfl
      · exact card_full (by omega) hx
    obtain ⟨v, e, _, hv⟩ := h1.yes x hb
    exact ⟨v, e, hv⟩
  · apply Classical.byContradiction
    intro hno
    apply he
    refine no_circ hn fun x hx => ?_
    cases e : (numR w n n (negL n, 0)).2.testBit x
    · have := h1.no x hx e
      exfalso
      apply hno
      have hl : x < (numO n w).length := by
        have := h1.len
        unfold numO; omega
      have e2 : (numO n w)[x] = -1 := by
        have : (numO n w).getD x (-1) = -1 := this
        rw [List.getD_eq_getElem?_getD, List.getElem?_eq_getElem hl] at this
        exact this
      rw [← e2]
      exact List.getElem_mem hl
    · obtain ⟨v, _, _, hv⟩ := h1.yes x e
      exact ⟨v, hv⟩
/-- What Numbers answers. -/
def numV (n : Int) (ps : List (Int × Int)) : List Int := if chk n ps = 0 then if allN n ps = [] then numO n.toNat (seeL 7 ps) else [] else []
def numE (n : Int) (ps : List (Int × Int)) : Int := if chk n ps = 0 then if allN n ps = [] then 0 else 13 else chk n ps
theorem self_no {ps : List (Int × Int)} {n : Int} (h3 : ∀ p ∈ ps, goodP n p) (h4 : ∀ p ∈ ps, okP p) (x : Nat) : ((seeL 7 ps).getD x 0).testBit x = false := by
  rw [seeL_bit (Nat.le_refl 7) h4, decide_eq_false_iff_not]
  intro h
  exact (h3 _ h).2.2.2.2 rfl
theorem frzV_made (l : Nat) (O : List Int) (h : O ≠ []) : frzV l (O.map I) (.rsl l 0 O.length O.length 1 false) = sl 1 true (O.map I) := by
  simp only [frzV, List.length_map, List.drop_zero]
  rw [if_pos ⟨trivial, by omega, .inr trivial, Nat.le_refl _⟩, pubs_map I (fun _ => rfl), groupm_one I (fun _ => rfl), sl_ne (by simpa using h)]
theorem frzVs_web (l : Nat) (cs : List AV) (n : Int) (w : List Nat) : frzVs l cs (webC n w) = webC n w := by
  unfold webC
  simp only [frzVs, frzV_v, frzVs_U]
set_option maxHeartbeats 1000000 in
theorem c34 (nl : Bool) (n : Int) (ps : List (Int × Int)) (st : St) : run L 34 [bkAV nl n ps] st = some (.tup [tAV (numV n ps), I (numE n ps)], st) := by
  rw [run_pure (fn := ir34) rfl rfl]
  have h65 := fun st => c65 nl n ps st
  unfold numV numE
  by_cases h : chk n ps = 0
  · obtain ⟨h1, hl16, h3, h4, h5⟩ := chk_zero h
    obtain ⟨k, rfl⟩ := Int.eq_ofNat_of_zero_le (show 0 ≤ n by omega)
    have hw : wovL (k : Int) ps = seeL 7 ps := by unfold wovL; rw [if_pos h]
    rw [hw] at h65
    rw [if_pos h, if_pos h, Int.toNat_natCast]
    have hwn := seeL_in (Nat.le_refl 7) (fun p hp => h3 p hp) h4
    obtain ⟨hol, ho1, ho2⟩ := num_all (by omega) (seeL_small 7 h4) hwn (self_no (fun p hp => h3 p hp) h4)
    have hall : circL k (seeL 7 ps) = allN (k : Int) ps := by unfold allN; rw [Int.toNat_natCast]
    rw [hall] at ho1 ho2
    have hlw := lenW (k : Int) (seeL 7 ps)
    rw [seeL_len] at hlw
    have hpw := putW (k : Int) (seeL 7 ps) (seeL_len 7 ps)
    have g0 := getW0 (k : Int) (seeL 7 ps)
    have h79 := c79 k (by omega) (by omega)
    have hshI : ∀ (m : Nat) (O : List Int), shVs m (O.map I) = O.map I := by
      intro m O
      induction O with
      | nil => rfl
      | cons x r ih => simp only [List.map_cons, shVs, shV, ih]
    have hone : numO k (seeL 7 ps) ≠ [] := by intro e; rw [e] at hol; simp at hol; omega
    have hfz := fun T env => frzL2c (a := bkCells nl (k : Int) ps) (b := webC (k : Int) (seeL 7 ps)) (cs := (numO k (seeL 7 ps)).map I) (by simpa using hone) T env
    have hfv := frzV_made 2 (numO k (seeL 7 ps)) hone
    rw [hol] at hfv
    have h57 := fun st => c57 true (numO k (seeL 7 ps)) (by omega) (-1) st
    have hnO : (numR (seeL 7 ps) k k (negL k, 0)).1 = numO k (seeL 7 ps) := rfl
    have et : tAV (numO k (seeL 7 ps)) = sl 1 true ((numO k (seeL 7 ps)).map I) := rfl
    simp only [ir34, go_sem, reduceIte, Nat.reduceEqDiff, Nat.reduceAdd, Nat.reduceSub, Nat.reduceLeDiff, Nat.reduceLT, reduceCtorEq, Int.reduceLT, Int.reduceLE, Int.reduceEq, Int.reduceBEq, Int.reduceSub, Int.reduceAdd, Int.reduceMul, Int.reduceNeg, Int.reduceToNat, Nat.reduceMul, Nat.reduceBEq, h65, h, hlw, hpw, g0, pubsW, storableW, h79, shV, shStore, hshI, show pure 79 = false from rfl]
    generalize hg : lim (headed pure (run L) true _ lp34_2 _ _) _ _ = o
    obtain ⟨x, en, s, rfl, h2⟩ : ∃ x en s, o = some (x, en, s) ∧ _ := by rw [← hg]; exact loop34_2 nl k (by omega) ps (seeL 7 ps) (seeL_len 7 ps) (seeL_small 7 h4) hwn 0 (negL k, 0) ⟨by omega, know_start _ _⟩ _ _ (by simp only [go_sem, reduceIte, Nat.reduceEqDiff, Nat.reduceAdd, Nat.reduceSub, Nat.reduceLeDiff, Nat.reduceLT, reduceCtorEq, Int.reduceLT, Int.reduceLE, Int.reduceEq, Int.reduceBEq, Int.reduceSub, Int.reduceAdd, Int.reduceMul, Int.reduceNeg, Int.reduceToNat, Nat.reduceMul, Nat.reduceBEq, okRefsW, renCellsW, Int.natCast_zero] <;> rfl)
    clear hg
    rw [Nat.sub_zero, hnO] at h2
    obtain ⟨rfl, e6, rfl⟩ := h2
    by_cases he : allN (k : Int) ps = []
    · have hno : ((-1 : Int) ∈ numO k (seeL 7 ps)) = False := eq_false (fun hm => by
        obtain ⟨x, hx, e⟩ := List.getElem_of_mem hm
        obtain ⟨v, e2, _⟩ := ho1 he x (by omega)
        rw [List.getD_eq_getElem?_getD, List.getElem?_eq_getElem hx, Option.getD_some, e] at e2
        omega)
      rw [if_pos he, if_pos he, et]
      simp only [go_sem, reduceIte, Nat.reduceEqDiff, Nat.reduceAdd, Nat.reduceSub, Nat.reduceLeDiff, Nat.reduceLT, reduceCtorEq, Int.reduceLT, Int.reduceLE, Int.reduceEq, Int.reduceBEq, Int.reduceSub, Int.reduceAdd, Int.reduceMul, Int.reduceNeg, Int.reduceToNat, Nat.reduceMul, Nat.reduceBEq, e6, code_frz, frzAV, frzT, frzLs, rslsOf, hfz, frzEnv, frzEnv_get, frzV_v, frzV_ptr, frzV_sl, frzV_agg, frzV_tup, frzVs, frzVs_web, hfv, h57, hno]
    · have hye : ((-1 : Int) ∈ numO k (seeL 7 ps)) = True := eq_true (ho2 he)
      rw [if_neg he, if_neg he]
      simp only [go_sem, reduceIte, Nat.reduceEqDiff, Nat.reduceAdd, Nat.reduceSub, Nat.reduceLeDiff, Nat.reduceLT, reduceCtorEq, Int.reduceLT, Int.reduceLE, Int.reduceEq, Int.reduceBEq, Int.reduceSub, Int.reduceAdd, Int.reduceMul, Int.reduceNeg, Int.reduceToNat, Nat.reduceMul, Nat.reduceBEq, e6, code_frz, frzAV, frzT, frzLs, rslsOf, hfz, frzEnv, frzEnv_get, frzV_v, frzV_ptr, frzV_sl, frzV_agg, frzV_tup, frzVs, frzVs_web, hfv, h57, hye]
      rfl
  · rw [if_neg h, if_neg h]
    have hl7 : (wovL n ps).length = 7 := by unfold wovL; rw [if_neg h]; simp
    have hlw := lenW n (wovL n ps)
    rw [hl7] at hlw
    have hpw := putW n (wovL n ps) hl7
    simp only [ir34, go_sem, reduceIte, Nat.reduceEqDiff, Nat.reduceAdd, Nat.reduceSub, Nat.reduceLeDiff, Nat.reduceLT, reduceCtorEq, Int.reduceLT, Int.reduceLE, Int.reduceEq, Int.reduceBEq, Int.reduceSub, Int.reduceAdd, Int.reduceMul, Int.reduceNeg, Int.reduceToNat, Nat.reduceMul, Nat.reduceBEq, h65, h, hlw, hpw, pubsW, storableW]
    rfl

attribute [local go_sem] shaped_t cells_t isAgg_t storable_t okRef_t pub_t okRef_out storable_out shaped_out cells_out fin_out pub_out

/-! ### other numbers for words -/
def swI (i k a : Nat) : Nat := if a = k then i else if a = i then k else a
theorem sw_sw (i k a : Nat) : swI i k (swI i k a) = a := by
  unfold swI
  repeat' split
  all_goals omega
theorem sw_lt {i k a : Nat} (hk : k ≤ i) (ha : a < i + 1) : swI i k a < i + 1 := by
  unfold swI
  repeat' split
  all_goals omega
def swapN (N : List Nat) (i k : Nat) : List Nat := (N.set i (N.getD k 0)).set k (N.getD i 0)
def nmStep (ys : List Int) (N : List Nat) (i : Nat) : List Nat := swapN (N.set i i) i (ys.getD i 0 % ((i : Int) + 1)).toNat
def nameL (n : Nat) (ys : List Int) : List Nat := (List.range' 0 n).foldl (nmStep ys) (List.replicate n 0)
/-- The first ones are different, and less. -/
structure PermTo (N : List Nat) (i : Nat) : Prop where
  lt : ∀ a, a < i → N.getD a 0 < i
  inj : ∀ a b, a < i → b < i → N.getD a 0 = N.getD b 0 → a = b
theorem swap_get {N : List Nat} {i k : Nat} (hi : i < N.length) (hk : k < N.length) (a : Nat) : (swapN N i k).getD a 0 = N.getD (swI i k a) 0 := by
  unfold swapN swI
  rw [getD_set _ k _ a (by rw [List.length_set]; exact hk)]
  by_cases h : a = k
  · rw [if_pos h, if_pos h]
  · rw [if_neg h, if_neg h, getD_set _ i _ a hi]
    by_cases h2 : a = i
    · rw [if_pos h2, if_pos h2]
    · rw [if_neg h2, if_neg h2]
theorem nm_k (ys : List Int) (i : Nat) : ((ys.getD i 0 % ((i : Int) + 1)).toNat) ≤ i ∧ ys.getD i 0 % ((i : Int) + 1) = (((ys.getD i 0 % ((i : Int) + 1)).toNat : Nat) : Int) := by
  have := mod_range (ys.getD i 0) ((i : Int) + 1) (by omega)
  omega
theorem nm_len (ys : List Int) : ∀ (l : List Nat) (N : List Nat), (l.foldl (nmStep ys) N).length = N.length
  | [], _ => rfl
  | i :: r, N => by rw [List.foldl_cons, nm_len ys r]; simp [nmStep, swapN]
theorem nm_step {ys : List Int} {N : List Nat} {i : Nat} (hi : i < N.length) (h : PermTo N i) : PermTo (nmStep ys N i) (i + 1) := by
  have hk := (nm_k ys i).1
  unfold nmStep
  generalize (ys.getD i 0 % ((i : Int) + 1)).toNat = k at *
  have hl : (N.set i i).length = N.length := List.length_set
  have hg := fun a => swap_get (N := N.set i i) (i := i) (k := k) (by omega) (by omega) a
  have hs := fun a => getD_set N i i a hi
  have hP : PermTo (N.set i i) (i + 1) := by
    refine ⟨fun a ha => ?_, fun a b ha hb e => ?_⟩
    · rw [hs]
      split
      · omega
      · have := h.lt a (by omega); omega
    · rw [hs, hs] at e
      by_cases h1 : a = i <;> by_cases h2 : b = i
      · omega
      · rw [if_pos h1, if_neg h2] at e
        have := h.lt b (by omega); omega
      · rw [if_neg h1, if_pos h2] at e
        have := h.lt a (by omega); omega
      · rw [if_neg h1, if_neg h2] at e
        exact h.inj a b (by omega) (by omega) e
  refine ⟨fun a ha => ?_, fun a b ha hb e => ?_⟩
  · rw [hg]; exact hP.lt _ (sw_lt hk ha)
  · rw [hg, hg] at e
    have := hP.inj _ _ (sw_lt hk ha) (sw_lt hk hb) e
    rw [← sw_sw i k a, this, sw_sw]
theorem nm_all {ys : List Int} : ∀ (k i : Nat) (N : List Nat), i + k ≤ N.length → PermTo N i → PermTo ((List.range' i k).foldl (nmStep ys) N) (i + k)
  | 0, _, _, _, h => h
  | k + 1, i, N, hl, h => by
    rw [List.range'_succ, List.foldl_cons, show i + (k + 1) = i + 1 + k by omega]
    exact nm_all k (i + 1) _ (by simp [nmStep, swapN]; omega) (nm_step (by omega) h)
theorem name_ok (n : Nat) (ys : List Int) : (nameL n ys).length = n ∧ PermTo (nameL n ys) n := by
  refine ⟨by unfold nameL; rw [nm_len]; simp, ?_⟩
  have := nm_all (ys := ys) n 0 (List.replicate n 0) (by simp) ⟨fun a h => by omega, fun a b h => by omega⟩
  rw [Nat.zero_add] at this
  exact this

set_option maxHeartbeats 1000000 in
theorem loop8_0 (zs ys : List Int) (hyl : ys.length = 7) (hy : ∀ a ∈ ys, Byte a) (n : Nat) (hn : n ≤ 7) (ps : List (Int × Int)) (i : Nat) (N : List Nat) (hok : i ≤ n ∧ N.length = n) (env : Env) (st : St)
    (hg : gcAV true 4 0 (canon env [3, 5, 6, 7, 38, 39]) st = ([(3, .ptr 1 0), (5, .ptr 2 0), (6, J n), (7, .rsl 3 0 n n 1 false), (38, J n), (39, J i)], ⟨[zs.map B8, ys.map B8, bkCells true (n : Int) ps, N.map J], []⟩)) :
    ∃ x_1 en s, lim (headed pure (run L) true [3, 5, 6, 7, 38, 39] lp8_0 4 0) env st = some (x_1, en, s) ∧ (x_1 = .exit 0 ∧ en.get 5 = .ptr 2 0 ∧ en.get 6 = J n ∧ en.get 7 = .rsl 3 0 n n 1 false ∧ s = ⟨[zs.map B8, ys.map B8, bkCells true (n : Int) ps, ((List.range' i (n - i)).foldl (nmStep ys) N).map J], []⟩) := by
  refine loop_wp (α := Nat × List Nat) (fun ⟨i, N⟩ => n - i) (fun ⟨i, N⟩ => i ≤ n ∧ N.length = n) (fun ⟨i, N⟩ => ([(3, .ptr 1 0), (5, .ptr 2 0), (6, J n), (7, .rsl 3 0 n n 1 false), (38, J n), (39, J i)], ⟨[zs.map B8, ys.map B8, bkCells true (n : Int) ps, N.map J], []⟩)) (fun ⟨i, N⟩ x_1 en s => x_1 = .exit 0 ∧ en.get 5 = .ptr 2 0 ∧ en.get 6 = J n ∧ en.get 7 = .rsl 3 0 n n 1 false ∧ s = ⟨[zs.map B8, ys.map B8, bkCells true (n : Int) ps, ((List.range' i (n - i)).foldl (nmStep ys) N).map J], []⟩) (fun ⟨i, N⟩ hok => ?_) ⟨i, N⟩ hok env st hg
  simp only at hok
  obtain ⟨h1, h2⟩ := hok
  dsimp only at h1 h2 ⊢
  by_cases h : i < n
  · have hs := succ64 i (by omega)
    have hlt : ((i : Int) < (n : Int)) = True := eq_true (by omega)
    have hr : List.range' i (n - i) = i :: List.range' (i + 1) (n - (i + 1)) := by
      rw [show n - i = (n - (i + 1)) + 1 by omega, List.range'_succ]
    have g := getB ys i (by omega)
    have by1 := byte_getD hy i
    have hk := nm_k ys i
    have hst : nmStep ys N i = swapN (N.set i i) i (ys.getD i 0 % ((i : Int) + 1)).toNat := rfl
    generalize (ys.getD i 0 % ((i : Int) + 1)).toNat = k at *
    generalize ys.getD i 0 = a at *
    unfold Byte at by1
    have wa := wrap64 a (by omega) (by omega)
    have zn : (((i + 1 : Nat) : Int) = 0) = False := eq_false (by omega)
    have ta : a.tmod ((i + 1 : Nat) : Int) = (k : Int) := by rw [← hk.2]; exact tmod8 (by omega)
    have b1 : (i + 1 ≤ 7) = True := eq_true (by omega)
    have b2 : ((i : Int) < 7) = True := eq_true (by omega)
    have b3 : ((0 : Int) ≤ (i : Int)) = True := eq_true (by omega)
    have b4 : ((0 : Int) ≤ (k : Int)) = True := eq_true (by omega)
    have b5 : ((k : Int) < (n : Int)) = True := eq_true (by omega)
    have b6 : (i + 1 ≤ n) = True := eq_true (by omega)
    have b7 : (k + 1 ≤ n) = True := eq_true (by omega)
    have s1 : (N.map J).set i (J i) = (N.set i i).map J := by rw [List.map_set]
    have hl2 : (N.set i i).length = n := by rw [List.length_set]; exact h2
    have g2 := getJ (N.set i i) k (by omega)
    have g3 := getJ (N.set i i) i (by omega)
    have s2 : ((N.set i i).set i ((N.set i i).getD k 0)).set k ((N.set i i).getD i 0) = nmStep ys N i := by rw [hst]; rfl
    have hl3 : (nmStep ys N i).length = n := by rw [hst]; unfold swapN; rw [List.length_set, List.length_set]; exact hl2
    rw [hr, List.foldl_cons]
    generalize nmStep ys N i = N3 at *
    generalize N.set i i = N2 at *
    simp only [go_sem, reduceIte, Nat.reduceEqDiff, Nat.reduceAdd, Nat.reduceSub, Nat.reduceLeDiff, Nat.reduceLT, reduceCtorEq, Int.reduceLT, Int.reduceLE, Int.reduceEq, Int.reduceBEq, Int.reduceSub, Int.reduceAdd, Int.reduceMul, Int.reduceNeg, Int.reduceToNat, Nat.reduceMul, Nat.reduceBEq, index_rsl_if, setm, make_ints, condK_dec, wantK_dec, not_dec, and_dec, or_dec, seqK_ite, seqK_none, blockK_ite, blockK_none, opsK_ite, opsK_none, stepK_ite, stepK_none, bodyK_ite, bodyK_none, resK_ite, resK_none, leaveK_ite, leaveK_none, only_ite, only_none, bind_ite, gives_some, gives_none, gives_ite, then_normal, then_ret, then_exit, then_none, then_ite, Option.bind_none, Bool.not_eq_true', decide_eq_false_iff_not, Bool.and_eq_true, Bool.or_eq_true, Option.some.injEq, Int.not_lt, Int.not_le, lp8_0, hlt, hs, g, wa, zn, ta, b1, b2, b3, b4, b5, b6, b7, s1, g2, g3, s2, h2, hl2, hyl, List.length_map, List.length_set]
    refine ⟨(i + 1, N3), by simp only [go_sem, reduceIte, Nat.reduceEqDiff, Nat.reduceAdd, Nat.reduceSub, Nat.reduceLeDiff, Nat.reduceLT, reduceCtorEq, Int.reduceLT, Int.reduceLE, Int.reduceEq, Int.reduceBEq, Int.reduceSub, Int.reduceAdd, Int.reduceMul, Int.reduceNeg, Int.reduceToNat, Nat.reduceMul, Nat.reduceBEq, ren1_locm, loc_tips, locT_eq, okRefsB, renCellsB, okRefsJ, renCellsJ, s2] <;> rfl, ?_, ?_, fun x en s hq => ?_⟩
    · dsimp only; exact ⟨by omega, hl3⟩
    · dsimp only; omega
    · exact hq
  · have hr : n - i = 0 := by omega
    have hlt : ((i : Int) < (n : Int)) = False := eq_false (by omega)
    rw [hr]
    simp only [go_sem, reduceIte, Nat.reduceEqDiff, Nat.reduceAdd, Nat.reduceSub, Nat.reduceLeDiff, Nat.reduceLT, reduceCtorEq, Int.reduceLT, Int.reduceLE, Int.reduceEq, Int.reduceBEq, Int.reduceSub, Int.reduceAdd, Int.reduceMul, Int.reduceNeg, Int.reduceToNat, Nat.reduceMul, Nat.reduceBEq, index_rsl_if, setm, make_ints, condK_dec, wantK_dec, not_dec, and_dec, or_dec, seqK_ite, seqK_none, blockK_ite, blockK_none, opsK_ite, opsK_none, stepK_ite, stepK_none, bodyK_ite, bodyK_none, resK_ite, resK_none, leaveK_ite, leaveK_none, only_ite, only_none, bind_ite, gives_some, gives_none, gives_ite, then_normal, then_ret, then_exit, then_none, then_ite, Option.bind_none, Bool.not_eq_true', decide_eq_false_iff_not, Bool.and_eq_true, Bool.or_eq_true, Option.some.injEq, Int.not_lt, Int.not_le, lp8_0, hlt]
    rfl

attribute [local go_sem] shaped_t cells_t isAgg_t storable_t okRef_t pub_t okRef_out storable_out shaped_out cells_out fin_out pub_out

/-! ### a book whose words see greater ones alone, with other numbers -/
def ordP (N : List Nat) (p : Int × Int) : Int × Int := (((N.getD (min p.1.toNat p.2.toNat) 0 : Nat) : Int), ((N.getD (max p.1.toNat p.2.toNat) 0 : Nat) : Int))
def ordStep (N : List Nat) (o : List (Int × Int)) (p : Int × Int) : List (Int × Int) := if ordP N p ∈ o then o else o ++ [ordP N p]
def ordL (N : List Nat) (ps : List (Int × Int)) : List (Int × Int) := ps.foldl (ordStep N) []
theorem ord_inv (N : List Nat) (Q : Int × Int → Prop) : ∀ (ps o : List (Int × Int)), (∀ p ∈ ps, Q (ordP N p)) → (∀ p ∈ o, Q p) → o.Nodup → (∀ p ∈ ps.foldl (ordStep N) o, Q p) ∧ (ps.foldl (ordStep N) o).Nodup ∧ (ps.foldl (ordStep N) o).length ≤ o.length + ps.length
  | [], o, _, h, hn => ⟨h, hn, by simp⟩
  | p :: r, o, hp, h, hn => by
    rw [List.foldl_cons]
    have h1 : (∀ q ∈ ordStep N o p, Q q) ∧ (ordStep N o p).Nodup ∧ (ordStep N o p).length ≤ o.length + 1 := by
      unfold ordStep
      split
      · exact ⟨h, hn, by omega⟩
      · next hno =>
        refine ⟨fun q hq => ?_, ?_, by simp⟩
        · rcases List.mem_append.1 hq with hq | hq
          · exact h q hq
          · simp at hq; subst hq; exact hp p (by simp)
        · rw [List.nodup_append]
          refine ⟨hn, by simp, fun x hx y hy => ?_⟩
          simp at hy; subst hy
          intro e; subst e; exact hno hx
    obtain ⟨a1, a2, a3⟩ := ord_inv N Q r (ordStep N o p) (fun q hq => hp q (by simp [hq])) h1.1 h1.2.1
    exact ⟨a1, a2, by rw [List.length_cons]; omega⟩

set_option maxHeartbeats 1000000 in
theorem loop8_1 (zs ys : List Int) (n : Nat) (hn : n ≤ 7) (ps : List (Int × Int)) (hpl : ps.length ≤ 16) (hps : ∀ p ∈ ps, goodP (n : Int) p) (N : List Nat) (hN : N.length = n) (i : Nat) (o : List (Int × Int)) (hok : i ≤ ps.length ∧ o.length ≤ i) (env : Env) (st : St)
    (hg : gcAV true 5 0 (canon env [6, 7, 10, 71, 72, 73]) st = ([(6, J n), (7, .rsl 3 0 n n 1 false), (10, .ptr 4 0), (71, sl 2 true (ps.map prAV)), (72, I ps.length), (73, J i)], ⟨[zs.map B8, ys.map B8, bkCells true (n : Int) ps, N.map J, [I n, outAV o]], outT o⟩)) :
    ∃ x_1 en s, lim (headed pure (run L) true [6, 7, 10, 71, 72, 73] lp8_1 5 0) env st = some (x_1, en, s) ∧ (x_1 = .exit 2 ∧ en.get 6 = J n ∧ en.get 10 = .ptr 4 0 ∧ s = ⟨[zs.map B8, ys.map B8, bkCells true (n : Int) ps, N.map J, [I n, outAV ((ps.drop i).foldl (ordStep N) o)]], outT ((ps.drop i).foldl (ordStep N) o)⟩) := by
  refine loop_wp (α := Nat × List (Int × Int)) (fun ⟨i, o⟩ => ps.length - i) (fun ⟨i, o⟩ => i ≤ ps.length ∧ o.length ≤ i) (fun ⟨i, o⟩ => ([(6, J n), (7, .rsl 3 0 n n 1 false), (10, .ptr 4 0), (71, sl 2 true (ps.map prAV)), (72, I ps.length), (73, J i)], ⟨[zs.map B8, ys.map B8, bkCells true (n : Int) ps, N.map J, [I n, outAV o]], outT o⟩)) (fun ⟨i, o⟩ x_1 en s => x_1 = .exit 2 ∧ en.get 6 = J n ∧ en.get 10 = .ptr 4 0 ∧ s = ⟨[zs.map B8, ys.map B8, bkCells true (n : Int) ps, N.map J, [I n, outAV ((ps.drop i).foldl (ordStep N) o)]], outT ((ps.drop i).foldl (ordStep N) o)⟩) (fun ⟨i, o⟩ hok => ?_) ⟨i, o⟩ hok env st hg
  simp only at hok
  obtain ⟨h1, h2⟩ := hok
  dsimp only at h1 h2 ⊢
  by_cases h : i < ps.length
  · have hx := index_prs true ps i h
    have hs := succ64 i (by omega)
    have hlt : ((i : Int) < (ps.length : Int)) = True := eq_true (by omega)
    have hd : ps.drop i = ps[i] :: ps.drop (i + 1) := List.drop_eq_getElem_cons h
    have hp := hps ps[i] (List.getElem_mem h)
    rw [hd, List.foldl_cons]
    generalize ps[i] = c at *
    obtain ⟨u, v⟩ := c
    obtain ⟨a1, a2, a3, a4, a5⟩ := hp
    simp only at a1 a2 a3 a4 a5 hx
    obtain ⟨u, rfl⟩ := Int.eq_ofNat_of_zero_le a1
    obtain ⟨v, rfl⟩ := Int.eq_ofNat_of_zero_le a3
    have hmn : min ((u : Nat) : Int) ((v : Nat) : Int) = ((min u v : Nat) : Int) := by omega
    have hmx : max ((u : Nat) : Int) ((v : Nat) : Int) = ((max u v : Nat) : Int) := by omega
    have hop : ordP N ((u : Int), (v : Int)) = (((N.getD (min u v) 0 : Nat) : Int), ((N.getD (max u v) 0 : Nat) : Int)) := by unfold ordP; simp only [Int.toNat_natCast]
    have hos : ordStep N o ((u : Int), (v : Int)) = if ordP N ((u : Int), (v : Int)) ∈ o then o else o ++ [ordP N ((u : Int), (v : Int))] := rfl
    rw [hop] at hos
    have hm1 : min u v < n := by omega
    have hm2 : max u v < n := by omega
    have g1 := getJ N (min u v) (by omega)
    have g2 := getJ N (max u v) (by omega)
    have b1 : ((0 : Int) ≤ ((min u v : Nat) : Int)) = True := eq_true (by omega)
    have b2 : (((min u v : Nat) : Int) < (n : Int)) = True := eq_true (by omega)
    have b3 : ((0 : Int) ≤ ((max u v : Nat) : Int)) = True := eq_true (by omega)
    have b4 : (((max u v : Nat) : Int) < (n : Int)) = True := eq_true (by omega)
    have h49 : ∀ st, run L 49 [outAV o, .agg [I ((N.getD (min u v) 0 : Nat) : Int), I ((N.getD (max u v) 0 : Nat) : Int)]] st = some (B (decide ((((N.getD (min u v) 0 : Nat) : Int), ((N.getD (max u v) 0 : Nat) : Int)) ∈ o)), st) := fun st => by
      have := c49 true o (by omega) ((N.getD (min u v) 0 : Nat) : Int) ((N.getD (max u v) 0 : Nat) : Int) st
      rw [← this]
      exact run_args (fn := ir49) rfl rfl st (by simp only [pubs, pub_out, pub_sl])
    have happ := fun S => append_out o ((N.getD (min u v) 0 : Nat) : Int) ((N.getD (max u v) 0 : Nat) : Int) S (by omega)
    rw [hos]
    generalize min u v = mn at *
    generalize max u v = mx at *
    generalize N.getD mn 0 = p at *
    generalize N.getD mx 0 = q at *
    by_cases hin : (((p : Nat) : Int), ((q : Nat) : Int)) ∈ o
    · rw [if_pos hin]
      simp only [go_sem, reduceIte, Nat.reduceEqDiff, Nat.reduceAdd, Nat.reduceSub, Nat.reduceLeDiff, Nat.reduceLT, reduceCtorEq, Int.reduceLT, Int.reduceLE, Int.reduceEq, Int.reduceBEq, Int.reduceSub, Int.reduceAdd, Int.reduceMul, Int.reduceNeg, Int.reduceToNat, Nat.reduceMul, Nat.reduceBEq, index_rsl_if, setm, make_ints, condK_dec, wantK_dec, not_dec, and_dec, or_dec, seqK_ite, seqK_none, blockK_ite, blockK_none, opsK_ite, opsK_none, stepK_ite, stepK_none, bodyK_ite, bodyK_none, resK_ite, resK_none, leaveK_ite, leaveK_none, only_ite, only_none, bind_ite, gives_some, gives_none, gives_ite, then_normal, then_ret, then_exit, then_none, then_ite, Option.bind_none, Bool.not_eq_true', decide_eq_false_iff_not, Bool.and_eq_true, Bool.or_eq_true, Option.some.injEq, Int.not_lt, Int.not_le, lp8_1, hx, hlt, hs, hmn, hmx, g1, g2, b1, b2, b3, b4, h49, hin, List.length_map]
      refine ⟨(i + 1, o), by simp only [go_sem, reduceIte, Nat.reduceEqDiff, Nat.reduceAdd, Nat.reduceSub, Nat.reduceLeDiff, Nat.reduceLT, reduceCtorEq, Int.reduceLT, Int.reduceLE, Int.reduceEq, Int.reduceBEq, Int.reduceSub, Int.reduceAdd, Int.reduceMul, Int.reduceNeg, Int.reduceToNat, Nat.reduceMul, Nat.reduceBEq, ren1_locm, loc_tips, locT_eq, okRefsB, renCellsB, okRefsJ, renCellsJ, ren1_out, outAcc_snd] <;> rfl, ?_, ?_, fun x en s hq => ?_⟩
      · dsimp only; omega
      · dsimp only; omega
      · exact hq
    · rw [if_neg hin]
      simp only [go_sem, reduceIte, Nat.reduceEqDiff, Nat.reduceAdd, Nat.reduceSub, Nat.reduceLeDiff, Nat.reduceLT, reduceCtorEq, Int.reduceLT, Int.reduceLE, Int.reduceEq, Int.reduceBEq, Int.reduceSub, Int.reduceAdd, Int.reduceMul, Int.reduceNeg, Int.reduceToNat, Nat.reduceMul, Nat.reduceBEq, index_rsl_if, setm, make_ints, condK_dec, wantK_dec, not_dec, and_dec, or_dec, seqK_ite, seqK_none, blockK_ite, blockK_none, opsK_ite, opsK_none, stepK_ite, stepK_none, bodyK_ite, bodyK_none, resK_ite, resK_none, leaveK_ite, leaveK_none, only_ite, only_none, bind_ite, gives_some, gives_none, gives_ite, then_normal, then_ret, then_exit, then_none, then_ite, Option.bind_none, Bool.not_eq_true', decide_eq_false_iff_not, Bool.and_eq_true, Bool.or_eq_true, Option.some.injEq, Int.not_lt, Int.not_le, lp8_1, hx, hlt, hs, hmn, hmx, g1, g2, b1, b2, b3, b4, h49, hin, happ, List.length_map]
      refine ⟨(i + 1, o ++ [(((p : Nat) : Int), ((q : Nat) : Int))]), by simp only [go_sem, reduceIte, Nat.reduceEqDiff, Nat.reduceAdd, Nat.reduceSub, Nat.reduceLeDiff, Nat.reduceLT, reduceCtorEq, Int.reduceLT, Int.reduceLE, Int.reduceEq, Int.reduceBEq, Int.reduceSub, Int.reduceAdd, Int.reduceMul, Int.reduceNeg, Int.reduceToNat, Nat.reduceMul, Nat.reduceBEq, ren1_locm, loc_tips, locT_eq, okRefsB, renCellsB, okRefsJ, renCellsJ, ren1_out, outAcc_snd] <;> rfl, ?_, ?_, fun x en s hq => ?_⟩
      · dsimp only; exact ⟨by omega, by rw [List.length_append, List.length_singleton]; omega⟩
      · dsimp only; omega
      · exact hq
  · have hd : ps.drop i = [] := List.drop_eq_nil_of_le (by omega)
    have hlt : ((i : Int) < (ps.length : Int)) = False := eq_false (by omega)
    rw [hd]
    simp only [go_sem, reduceIte, Nat.reduceEqDiff, Nat.reduceAdd, Nat.reduceSub, Nat.reduceLeDiff, Nat.reduceLT, reduceCtorEq, Int.reduceLT, Int.reduceLE, Int.reduceEq, Int.reduceBEq, Int.reduceSub, Int.reduceAdd, Int.reduceMul, Int.reduceNeg, Int.reduceToNat, Nat.reduceMul, Nat.reduceBEq, index_rsl_if, setm, make_ints, condK_dec, wantK_dec, not_dec, and_dec, or_dec, seqK_ite, seqK_none, blockK_ite, blockK_none, opsK_ite, opsK_none, stepK_ite, stepK_none, bodyK_ite, bodyK_none, resK_ite, resK_none, leaveK_ite, leaveK_none, only_ite, only_none, bind_ite, gives_some, gives_none, gives_ite, then_normal, then_ret, then_exit, then_none, then_ite, Option.bind_none, Bool.not_eq_true', decide_eq_false_iff_not, Bool.and_eq_true, Bool.or_eq_true, Option.some.injEq, Int.not_lt, Int.not_le, lp8_1, hlt]
    rfl


/-! ### without circles: one choice, the words whose number is 0 -/
theorem no_rise {n : Nat} (hn : n ≤ 7) {w : List Nat} (ρ : Nat → Nat) (B : Nat) (hB : ∀ x, ρ x ≤ B) (h : ∀ a b, Jw w a b → ρ a < ρ b) : circL n w = [] := by
  cases hc : circL n w with
  | nil => rfl
  | cons c r =>
    exfalso
    have hm : c ∈ circL n w := by rw [hc]; simp
    obtain ⟨a, s, e, ha, h2, h3, h4, h5, h6⟩ := (circ_iff hn w c).1 hm
    have hcyc : Cyc (Jw w) c := ⟨a, s, e, (ch_snoc a c (by rw [e]; simp)).2 ⟨h5, h6⟩⟩
    have key : ∀ (k : Nat) (x : Nat), x ∈ c → B - ρ x = k → False := by
      intro k
      induction k using Nat.strongRecOn with
      | ind k ih =>
        intro x hx hk
        obtain ⟨y, hy, hj⟩ := cyc_next hcyc x hx
        have h1 := h x y hj
        have h2 := hB y
        exact ih (B - ρ y) (by omega) y hy rfl
    exact key _ a (by rw [e]; simp) rfl
def ordQ (N : List Nat) (n : Nat) (p : Int × Int) : Prop := ∃ i j, i < j ∧ j < n ∧ p = (((N.getD i 0 : Nat) : Int), ((N.getD j 0 : Nat) : Int))
/-- The book is a good one, and has no circle. -/
theorem ord_ok {n : Nat} (h1 : 1 ≤ n) (hn : n ≤ 7) {N : List Nat} (hN : PermTo N n) {ps : List (Int × Int)} (hl : ps.length ≤ 16) (hps : ∀ p ∈ ps, goodP (n : Int) p) :
    chk (n : Int) (ordL N ps) = 0 ∧ (ordL N ps).length ≤ 16 ∧ (∀ p ∈ ordL N ps, goodP (n : Int) p) ∧ (∀ p ∈ ordL N ps, okP p) ∧ circL n (seeL 7 (ordL N ps)) = [] := by
  obtain ⟨a1, a2, a3⟩ := ord_inv N (ordQ N n) ps [] (fun p hp => by
    obtain ⟨b1, b2, b3, b4, b5⟩ := hps p hp
    exact ⟨min p.1.toNat p.2.toNat, max p.1.toNat p.2.toNat, by omega, by omega, rfl⟩) (by simp) List.nodup_nil
  have e : ps.foldl (ordStep N) [] = ordL N ps := rfl
  rw [e] at a1 a2 a3
  have hg : ∀ p ∈ ordL N ps, goodP (n : Int) p := fun p hp => by
    obtain ⟨i, j, hij, hj, rfl⟩ := a1 p hp
    have l1 := hN.lt i (by omega)
    have l2 := hN.lt j hj
    refine ⟨Int.natCast_nonneg _, by show ((N.getD i 0 : Nat) : Int) < (n : Int); omega, Int.natCast_nonneg _, by show ((N.getD j 0 : Nat) : Int) < (n : Int); omega, fun e => ?_⟩
    have : N.getD i 0 = N.getD j 0 := by simp only at e; omega
    have := hN.inj i j (by omega) hj this
    omega
  have hok : ∀ p ∈ ordL N ps, okP p := fun p hp => by have := hg p hp; unfold goodP at this; unfold okP; omega
  have hlen : (ordL N ps).length ≤ 16 := by simp at a3; omega
  refine ⟨?_, hlen, hg, hok, ?_⟩
  · unfold chk
    rw [if_neg (by omega), if_neg (by omega)]
    exact prsErr_ok _ [] hg (by simpa using a2)
  · refine no_rise hn (fun u => ((List.range n).find? fun i => N.getD i 0 == u).getD 0) n (fun u => ?_) (fun a b hj => ?_)
    · cases hf : (List.range n).find? fun i => N.getD i 0 == u with
      | none => simp
      | some i =>
        have := List.mem_range.1 (List.mem_of_find?_eq_some hf)
        simp only [Option.getD_some]; omega
    · have hrk : ∀ i, i < n → ((List.range n).find? fun k => N.getD k 0 == N.getD i 0).getD 0 = i := fun i hi => by
        cases hf : (List.range n).find? fun k => N.getD k 0 == N.getD i 0 with
        | none =>
          rw [List.find?_eq_none] at hf
          exact absurd (beq_self_eq_true _) (hf i (List.mem_range.2 hi))
        | some k =>
          have h1 := List.mem_range.1 (List.mem_of_find?_eq_some hf)
          have h2 := List.find?_some hf
          rw [beq_iff_eq] at h2
          exact hN.inj k i h1 hi h2
      unfold Jw at hj
      rw [seeL_bit (Nat.le_refl 7) hok, decide_eq_true_iff] at hj
      obtain ⟨i, j, hij, hj2, e⟩ := a1 _ hj
      simp only [Prod.mk.injEq] at e
      have ea : a = N.getD i 0 := by omega
      have eb : b = N.getD j 0 := by omega
      show ((List.range n).find? fun k => N.getD k 0 == a).getD 0 < ((List.range n).find? fun k => N.getD k 0 == b).getD 0
      rw [ea, eb, hrk i (by omega), hrk j hj2]; exact hij
/-- In a choice are the words whose number is 0. -/
theorem num_choice {n : Nat} {w : List Nat} (hsm : ∀ x ∈ w, x < 128) (hwn : ∀ a b, (w.getD a 0).testBit b = true → b < n) {m : Nat} (hj : jdg n w m = 0) {x v : Nat} (h : Num w x v) : x < n → (m.testBit x = true ↔ v = 0) := by
  rw [jdg_zero] at hj
  induction h with
  | mk x f v h hm ih =>
    intro hx
    rw [hj x hx, and_zero]
    have hb : ∀ y, y ∈ bitsL (w.getD x 0) ↔ (w.getD x 0).testBit y = true := bits_mem (small_getD hsm x)
    constructor
    · intro hno
      rcases Nat.eq_zero_or_pos v with h0 | h0
      · exact h0
      · obtain ⟨y, hy, he⟩ := List.mem_map.1 (hm.2 0 h0)
        have hy2 := (hb y).1 hy
        exact absurd ⟨hy2, (ih y hy (hwn x y hy2)).2 he⟩ (hno y)
    · rintro rfl y ⟨hy1, hy2⟩
      have hy := (hb y).2 hy1
      exact hm.1 (List.mem_map.2 ⟨y, hy, (ih y hy (hwn x y hy1)).1 hy2⟩)
theorem single {α : Type} {l : List α} (hn : l.Nodup) {a : α} (ha : a ∈ l) (h : ∀ x ∈ l, x = a) : l = [a] := by
  cases l with
  | nil => simp at ha
  | cons x r =>
    have hx := h x (by simp)
    subst hx
    cases r with
    | nil => rfl
    | cons y r =>
      have hy := h y (by simp)
      subst hy
      rw [List.nodup_cons] at hn
      exact absurd (by simp) hn.1
def zeroL (O : List Int) (n : Nat) : List Int := ((List.range' 0 n).filter fun j => decide (O.getD j (-1) = 0)).map fun (j : Nat) => (j : Int)
theorem one_choice {n : Nat} (hn : n ≤ 7) {ps : List (Int × Int)} (h3 : ∀ p ∈ ps, goodP (n : Int) p) (h4 : ∀ p ∈ ps, okP p) (hc : circL n (seeL 7 ps) = []) :
    chosL n ps = [zeroL (numO n (seeL 7 ps)) n] := by
  have hwn := seeL_in (Nat.le_refl 7) h3 h4
  have hsm := seeL_small 7 h4
  obtain ⟨hol, ho1, _⟩ := num_all hn hsm hwn (self_no h3 h4)
  have hodd : oddB n (seeL 7 ps) = none := by rw [oddB_fold, hc]; rfl
  have hne := chos_rich hn h3 h4 hodd
  obtain ⟨c, r, hcr⟩ := List.exists_cons_of_ne_nil hne
  obtain ⟨m0, hm0, _, hj0⟩ := chos_set (n := n) (ps := ps) (c := c) (by rw [hcr]; simp)
  have hbit : ∀ m, jdg n (seeL 7 ps) m = 0 → ∀ x, x < n → (m.testBit x = true ↔ (numO n (seeL 7 ps)).getD x (-1) = 0) := fun m hj x hx => by
    obtain ⟨v, e, hv⟩ := ho1 hc x hx
    rw [e, num_choice hsm hwn hj hv hx]; omega
  have huniq : ∀ m, m < 2 ^ n → jdg n (seeL 7 ps) m = 0 → m = m0 := fun m hm hj => by
    apply Nat.eq_of_testBit_eq
    intro i
    by_cases hi : i < n
    · rw [Bool.eq_iff_iff, hbit m hj i hi, hbit m0 hj0 i hi]
    · have h1 : ∀ k, k < 2 ^ n → k.testBit i = false := fun k hk => Nat.testBit_lt_two_pow (Nat.lt_of_lt_of_le hk (Nat.pow_le_pow_right (by omega) (by omega)))
      rw [h1 m hm, h1 m0 hm0]
  have hf : (List.range' 0 (2 ^ n)).filter (fun m => decide (jdg n (seeL 7 ps) m = 0)) = [m0] := by
    refine single (List.Pairwise.imp (fun {a b} hab => Nat.ne_of_lt hab) (List.Pairwise.filter _ (List.pairwise_lt_range' (s := 0) (n := 2 ^ n)))) (List.mem_filter.2 ⟨by rw [List.mem_range'_1]; omega, decide_eq_true hj0⟩) fun x hx => ?_
    obtain ⟨h1, h2⟩ := List.mem_filter.1 hx
    rw [List.mem_range'_1] at h1
    exact huniq x (by omega) (of_decide_eq_true h2)
  have hk : kerL (jdg n (seeL 7 ps)) (List.range' 0 (2 ^ n)) = [memb m0] := by unfold kerL; rw [hf]; rfl
  have hmb : memb m0 = zeroL (numO n (seeL 7 ps)) n := by
    have hm7 : ∀ y, m0.testBit y = true → 0 ≤ y ∧ y < n := fun y hy => ⟨Nat.zero_le _, bit_lt hm0 hy⟩
    have := bits_range hn (a := 0) (by omega) hm7
    rw [Nat.sub_zero] at this
    unfold memb zeroL
    have e : (List.range 7).filter m0.testBit = bitsL m0 := rfl
    rw [e, this]
    congr 1
    apply List.filter_congr
    intro x hx
    rw [List.mem_range'_1] at hx
    rw [Bool.eq_iff_iff, decide_eq_true_iff]
    exact hbit m0 hj0 x (by omega)
  unfold chosL
  rw [hk, ← hmb]
  have hp := sortL_perm lexLt [memb m0]
  exact List.perm_singleton.1 hp

attribute [local go_sem high] and_one shr_u shl_one or_u and_u
attribute [local go_sem] shaped_t cells_t isAgg_t storable_t okRef_t pub_t okRef_out storable_out shaped_out cells_out fin_out pub_out

/-! ### a list above the book's -/
def zA (o : List (Int × Int)) (Z : List Int) : AV := if Z = [] then .v (.slice none 0 0) else .lst (.own (outT o).length Z.length) 1 (Z.map I)
def zT (Z : List Int) : List Nat := if Z = [] then [] else [Z.length]
def zAcc (o : List (Int × Int)) (Z : List Int) : List (Nat × Nat) := if Z = [] then [] else [((outT o).length, Z.length)]
theorem okRef_z (k : Nat) (o : List (Int × Int)) (Z : List Int) : okRef k (zA o Z) = true := by unfold zA; split <;> rfl
theorem pub_z (o : List (Int × Int)) (Z : List Int) : pub (zA o Z) = tAV Z := by
  unfold zA tAV
  split
  · next h => rw [h]; rfl
  · next h => rw [sl_ne (by simpa using h)]; rfl
theorem append_z (o : List (Int × Int)) (Z : List Int) (x : Int) (S : List (List AV)) (h : Z.length < 1000) : appendAV 1 (zA o Z) [I x] ⟨S, outT o ++ zT Z⟩ = some (zA o (Z ++ [x]), ⟨S, outT o ++ zT (Z ++ [x])⟩) := by
  have h2 : Z.length + 1 ≤ maxGrow := by unfold maxGrow; omega
  unfold zA zT
  by_cases h0 : Z = []
  · subst h0
    simp [appendAV, maxGrow]
  · simp [h0, appendAV, h2]
theorem zT_pos {Z : List Int} (h : Z ≠ []) : zT Z = [Z.length] := by unfold zT; rw [if_neg h]
theorem ren1_z (o : List (Int × Int)) (Z : List Int) : ren1 (outT o).length (outT o ++ zT Z) [] (zA o Z) = (zA o Z, zAcc o Z) := by
  unfold zA zAcc
  by_cases h : Z = []
  · rw [if_pos h, if_pos h]; rfl
  · rw [if_neg h, if_neg h, ren1_lown, if_neg (by omega), zT_pos h]
    rw [if_pos ⟨by simp, rfl⟩]
    simp
theorem zAcc_snd (o : List (Int × Int)) (Z : List Int) : (outT o ++ zT Z).take (outT o).length ++ (zAcc o Z).map (fun x => x.2) = outT o ++ zT Z := by
  rw [List.take_left]
  unfold zAcc zT; split <;> rfl
theorem ren1_zH (o : List (Int × Int)) (Z : List Int) (acc : List (Nat × Nat)) : ren1 (outT o ++ zT Z).length (outT o ++ zT Z) acc (zA o Z) = (zA o Z, acc) := by
  unfold zA
  by_cases h : Z = []
  · rw [if_pos h]; rfl
  · rw [if_neg h, ren1_lown, if_pos (by rw [List.length_append, zT_pos h]; simp)]
theorem ren1_outG {o : List (Int × Int)} {k : Nat} (h : (outT o).length ≤ k) (T : List Nat) (acc : List (Nat × Nat)) : ren1 k T acc (outAV o) = (outAV o, acc) := by
  unfold outAV outT loc locT at *
  by_cases h0 : (o.map prAV).length = 0
  · rw [if_pos h0, if_pos rfl]; rfl
  · rw [if_neg h0] at h ⊢
    simp only [List.length_singleton] at h
    rw [ren1_lown, if_pos (by omega)]

theorem loop8_2 (zs ys : List Int) (n : Nat) (hn : n ≤ 7) (bk : List AV) (hbk1 : ∀ k, okRefs k bk = true) (hbk2 : ∀ k T acc, renCells k T acc bk = (bk, acc)) (N w : List Nat) (o : List (Int × Int)) (C : List (List Int)) (Z : List Int) (O : List Int) (hO : O.length = n) (num : Int) (x : Nat) (G : List Nat) (hG : ∀ y ∈ G, y < n ∧ ∃ v : Nat, O.getD y (-1) = v ∧ v < 8) (hGl : G.length ≤ 7) (th : Nat) (hth : th = (outT o ++ zT Z).length) (i : Nat) (m : Nat) (hok : i ≤ G.length ∧ m < 256) (env : Env) (st : St)
    (hg : gcAV true 6 th (canon env [14, 16, 24, 25, 27, 28, 166, 167, 168, 188, 189, 190]) st = ([(14, sl 1 true (C.map tAV)), (16, tAV O), (24, .ptr 5 0), (25, zA o Z), (27, I num), (28, J m), (166, tAV O), (167, I n), (168, J x), (188, sl 1 true (G.map J)), (189, J G.length), (190, J i)], ⟨[zs.map B8, ys.map B8, bk, N.map J, [I n, outAV o], w.map J], outT o ++ zT Z⟩)) :
    ∃ x_1 en s, lim (headed pure (run L) true [14, 16, 24, 25, 27, 28, 166, 167, 168, 188, 189, 190] lp8_2 6 th) env st = some (x_1, en, s) ∧ (x_1 = .exit 6 ∧ en.get 14 = sl 1 true (C.map tAV) ∧ en.get 16 = tAV O ∧ en.get 24 = .ptr 5 0 ∧ en.get 25 = zA o Z ∧ en.get 27 = I num ∧ en.get 28 = J (mexS O (G.drop i) m) ∧ en.get 166 = tAV O ∧ en.get 167 = I n ∧ en.get 168 = J x ∧ s = ⟨[zs.map B8, ys.map B8, bk, N.map J, [I n, outAV o], w.map J], outT o ++ zT Z⟩) := by
  refine loop_wp (α := Nat × Nat) (fun ⟨i, m⟩ => G.length - i) (fun ⟨i, m⟩ => i ≤ G.length ∧ m < 256) (fun ⟨i, m⟩ => ([(14, sl 1 true (C.map tAV)), (16, tAV O), (24, .ptr 5 0), (25, zA o Z), (27, I num), (28, J m), (166, tAV O), (167, I n), (168, J x), (188, sl 1 true (G.map J)), (189, J G.length), (190, J i)], ⟨[zs.map B8, ys.map B8, bk, N.map J, [I n, outAV o], w.map J], outT o ++ zT Z⟩)) (fun ⟨i, m⟩ x_1 en s => x_1 = .exit 6 ∧ en.get 14 = sl 1 true (C.map tAV) ∧ en.get 16 = tAV O ∧ en.get 24 = .ptr 5 0 ∧ en.get 25 = zA o Z ∧ en.get 27 = I num ∧ en.get 28 = J (mexS O (G.drop i) m) ∧ en.get 166 = tAV O ∧ en.get 167 = I n ∧ en.get 168 = J x ∧ s = ⟨[zs.map B8, ys.map B8, bk, N.map J, [I n, outAV o], w.map J], outT o ++ zT Z⟩) (fun ⟨i, m⟩ hok => ?_) ⟨i, m⟩ hok env st hg
  simp only at hok
  subst hth
  obtain ⟨h1, h2⟩ := hok
  dsimp only at h1 h2 ⊢
  by_cases h : i < G.length
  · have hx := index_J true G i h
    have hs := succ64 i (by omega)
    have hlt : ((i : Int) < (G.length : Int)) = True := eq_true (by omega)
    have hd : G.drop i = G[i] :: G.drop (i + 1) := List.drop_eq_getElem_cons h
    obtain ⟨hy, v, hv, hv7⟩ := hG _ (List.getElem_mem h)
    rw [hd]
    generalize G[i] = y at *
    have hms : mexS O (y :: G.drop (i + 1)) m = mexS O (G.drop (i + 1)) (m ||| 2 ^ v) := by
      show mexS O (G.drop (i + 1)) (m ||| 2 ^ (O.getD y (-1)).toNat) = _
      rw [hv, Int.toNat_natCast]
    have g1 := index_ints true O y (by omega)
    have gO : O[y]'(by omega) = (v : Int) := by
      rw [List.getD_eq_getElem?_getD, List.getElem?_eq_getElem (by omega)] at hv
      exact hv
    rw [gO] at g1
    have et : tAV O = sl 1 true (O.map I) := rfl
    rw [← et] at g1
    have hmn : min (v : Int) 20 = (v : Int) := by omega
    have hmx : max (0 : Int) (v : Int) = (v : Int) := by omega
    have q1 := shl_i v (by omega)
    have hp : 2 ^ v < 256 := Nat.lt_of_lt_of_le (Nat.pow_lt_pow_right (by omega) hv7) (by omega)
    have q2 := or_i m (2 ^ v) (by omega) (by omega)
    have hlt2 : m ||| 2 ^ v < 256 := Nat.or_lt_two_pow (n := 8) h2 hp
    have hro := fun T acc => ren1_outG (o := o) (k := (outT o ++ zT Z).length) (by rw [List.length_append]; omega) T acc
    rw [hms]
    generalize m ||| 2 ^ v = m2 at *
    generalize 2 ^ v = p at *
    simp only [go_sem, reduceIte, Nat.reduceEqDiff, Nat.reduceAdd, Nat.reduceSub, Nat.reduceLeDiff, Nat.reduceLT, reduceCtorEq, Int.reduceLT, Int.reduceLE, Int.reduceEq, Int.reduceBEq, Int.reduceSub, Int.reduceAdd, Int.reduceMul, Int.reduceNeg, Int.reduceToNat, Nat.reduceMul, Nat.reduceBEq, index_rsl_if, setm, make_ints, condK_dec, wantK_dec, not_dec, and_dec, or_dec, seqK_ite, seqK_none, blockK_ite, blockK_none, opsK_ite, opsK_none, stepK_ite, stepK_none, bodyK_ite, bodyK_none, resK_ite, resK_none, leaveK_ite, leaveK_none, only_ite, only_none, bind_ite, gives_some, gives_none, gives_ite, then_normal, then_ret, then_exit, then_none, then_ite, Option.bind_none, Bool.not_eq_true', decide_eq_false_iff_not, Bool.and_eq_true, Bool.or_eq_true, Option.some.injEq, Int.not_lt, Int.not_le, lp8_2, hx, hlt, hs, g1, hmn, hmx, q1, q2]
    refine ⟨(i + 1, m2), by simp only [go_sem, reduceIte, Nat.reduceEqDiff, Nat.reduceAdd, Nat.reduceSub, Nat.reduceLeDiff, Nat.reduceLT, reduceCtorEq, Int.reduceLT, Int.reduceLE, Int.reduceEq, Int.reduceBEq, Int.reduceSub, Int.reduceAdd, Int.reduceMul, Int.reduceNeg, Int.reduceToNat, Nat.reduceMul, Nat.reduceBEq, ren1_locm, loc_tips, locT_eq, okRefsB, renCellsB, okRefsJ, renCellsJ, hbk1, hbk2, ren1_t', okRef_z, ren1_zH, hro, List.take_length] <;> rfl, ?_, ?_, fun x en s hq => ?_⟩
    · dsimp only; exact ⟨by omega, hlt2⟩
    · dsimp only; omega
    · exact hq
  · have hd : G.drop i = [] := List.drop_eq_nil_of_le (by omega)
    have hlt : ((i : Int) < (G.length : Int)) = False := eq_false (by omega)
    rw [hd]
    simp only [go_sem, reduceIte, Nat.reduceEqDiff, Nat.reduceAdd, Nat.reduceSub, Nat.reduceLeDiff, Nat.reduceLT, reduceCtorEq, Int.reduceLT, Int.reduceLE, Int.reduceEq, Int.reduceBEq, Int.reduceSub, Int.reduceAdd, Int.reduceMul, Int.reduceNeg, Int.reduceToNat, Nat.reduceMul, Nat.reduceBEq, index_rsl_if, setm, make_ints, condK_dec, wantK_dec, not_dec, and_dec, or_dec, seqK_ite, seqK_none, blockK_ite, blockK_none, opsK_ite, opsK_none, stepK_ite, stepK_none, bodyK_ite, bodyK_none, resK_ite, resK_none, leaveK_ite, leaveK_none, only_ite, only_none, bind_ite, gives_some, gives_none, gives_ite, then_normal, then_ret, then_exit, then_none, then_ite, Option.bind_none, Bool.not_eq_true', decide_eq_false_iff_not, Bool.and_eq_true, Bool.or_eq_true, Option.some.injEq, Int.not_lt, Int.not_le, lp8_2, hlt]
    rfl

attribute [local go_sem high] and_one shr_u shl_one or_u and_u
attribute [local go_sem] shaped_t cells_t isAgg_t storable_t okRef_t pub_t okRef_out storable_out shaped_out cells_out fin_out pub_out

theorem zeroL_succ (O : List Int) (x : Nat) : zeroL O (x + 1) = if O.getD x (-1) = 0 then zeroL O x ++ [(x : Int)] else zeroL O x := by
  unfold zeroL
  rw [List.range'_1_concat, Nat.zero_add, List.filter_append, List.map_append]
  by_cases h : O.getD x (-1) = 0
  · rw [if_pos h, List.filter_cons_of_pos (by simpa using h)]; rfl
  · rw [if_neg h, List.filter_cons_of_neg (by simpa using h)]; simp
theorem zeroL_len (O : List Int) (x : Nat) : (zeroL O x).length ≤ x := by
  unfold zeroL
  rw [List.length_map]
  exact Nat.le_trans (List.length_filter_le _ _) (by simp)
theorem bits_len6 {m x : Nat} (hx : x < 7) (h : m.testBit x = false) : (bitsL m).length ≤ 6 := by
  have h1 := filter_len_lt (p := m.testBit) (q := fun _ => true) (List.range 7) (fun _ _ _ => rfl) ⟨x, List.mem_range.2 hx, rfl, h⟩
  have h2 : ((List.range 7).filter fun _ => true).length = 7 := rfl
  unfold bitsL; omega

theorem num_check {n : Nat} (hn : n ≤ 7) {w : List Nat} (hsm : ∀ x ∈ w, x < 128) (hwn : ∀ a b, (w.getD a 0).testBit b = true → b < n) (hself : ∀ x, (w.getD x 0).testBit x = false) {O : List Int} (hO : ∀ x, x < n → ∃ v : Nat, O.getD x (-1) = v ∧ Num w x v) {x : Nat} (hx : x < n) :
    ∃ v : Nat, O.getD x (-1) = v ∧ v < 7 ∧ mexS O (bitsL (w.getD x 0)) 0 < 128 ∧ mexM (mexS O (bitsL (w.getD x 0)) 0) = v ∧ ∀ y ∈ bitsL (w.getD x 0), y < n ∧ ∃ u : Nat, O.getD y (-1) = u ∧ u < 8 := by
  have h7 : ∀ y, y < n → ∃ v : Nat, O.getD y (-1) = v ∧ v < 7 ∧ Num w y v := fun y hy => by
    obtain ⟨v, e, hv⟩ := hO y hy
    refine ⟨v, e, ?_, hv⟩
    cases hv with
    | mk _ f _ _ hm =>
      have h1 : (List.range v).length ≤ ((bitsL (w.getD y 0)).map f).length := nodup_len_le _ _ List.nodup_range (fun j hj => hm.2 j (List.mem_range.1 hj))
      rw [List.length_range, List.length_map] at h1
      have := bits_len6 (show y < 7 by omega) (hself y); omega
  have hb : ∀ y ∈ bitsL (w.getD x 0), y < n := fun y hy => hwn x y (List.mem_filter.1 hy).2
  obtain ⟨v, e, hv7, hv⟩ := h7 x hx
  have hlt : mexS O (bitsL (w.getD x 0)) 0 < 2 ^ 7 := mexS_lt _ _ _ _ (by omega) (fun y hy => by
    obtain ⟨u, e2, hu, _⟩ := h7 y (hb y hy)
    rw [e2]; simpa using hu)
  obtain ⟨hs1, hs2⟩ := mexM_spec hlt
  refine ⟨v, e, hv7, hlt, ?_, fun y hy => ?_⟩
  · cases hv with
    | mk _ f _ h hm =>
      refine mex_uniq (l := (bitsL (w.getD x 0)).map f) ?_ hm
      have em : (bitsL (w.getD x 0)).map f = (bitsL (w.getD x 0)).map fun y => (O.getD y (-1)).toNat := List.map_congr_left fun y hy => by
        obtain ⟨u, e2, _, hu⟩ := h7 y (hb y hy)
        rw [e2, Int.toNat_natCast]
        exact num_uniq (h y hy) u hu
      rw [em]
      refine ⟨fun hmem => ?_, fun j hj => ?_⟩
      · rw [mexS_bit, Nat.zero_testBit, Bool.false_or, decide_eq_false_iff_not] at hs1
        exact hs1 hmem
      · have := hs2 j hj
        rw [mexS_bit, Nat.zero_testBit, Bool.false_or, decide_eq_true_iff] at this
        exact this
  · obtain ⟨u, e2, hu, _⟩ := h7 y (hb y hy)
    exact ⟨hb y hy, u, e2, by omega⟩

set_option maxHeartbeats 1000000 in
theorem loop8_3 (zs ys : List Int) (n : Nat) (hn : n ≤ 7) (bk : List AV) (hbk1 : ∀ k, okRefs k bk = true) (hbk2 : ∀ k T acc, renCells k T acc bk = (bk, acc)) (N w : List Nat) (hw8 : w.length = 8) (hsm : ∀ x ∈ w, x < 128) (o : List (Int × Int)) (C : List (List Int)) (O : List Int) (hO : O.length = n) (hnum : ∀ x, x < n → ∃ v : Nat, O.getD x (-1) = v ∧ v < 7 ∧ mexS O (bitsL (w.getD x 0)) 0 < 128 ∧ mexM (mexS O (bitsL (w.getD x 0)) 0) = v ∧ ∀ y ∈ bitsL (w.getD x 0), y < n ∧ ∃ u : Nat, O.getD y (-1) = u ∧ u < 8) (th : Nat) (hth : th = (outT o).length) (x : Nat) (hok : x ≤ n) (env : Env) (st : St)
    (hg : gcAV true 6 th (canon env [14, 16, 24, 25, 166, 167, 168]) st = ([(14, sl 1 true (C.map tAV)), (16, tAV O), (24, .ptr 5 0), (25, zA o (zeroL O x)), (166, tAV O), (167, I n), (168, J x)], ⟨[zs.map B8, ys.map B8, bk, N.map J, [I n, outAV o], w.map J], outT o ++ zT (zeroL O x)⟩)) :
    ∃ x_1 en s, lim (headed pure (run L) true [14, 16, 24, 25, 166, 167, 168] lp8_3 6 th) env st = some (x_1, en, s) ∧ (x_1 = .exit 4 ∧ en.get 14 = sl 1 true (C.map tAV) ∧ en.get 25 = zA o (zeroL O n)) := by
  refine loop_wp (α := Nat) (fun x => n - x) (fun x => x ≤ n) (fun x => ([(14, sl 1 true (C.map tAV)), (16, tAV O), (24, .ptr 5 0), (25, zA o (zeroL O x)), (166, tAV O), (167, I n), (168, J x)], ⟨[zs.map B8, ys.map B8, bk, N.map J, [I n, outAV o], w.map J], outT o ++ zT (zeroL O x)⟩)) (fun x x_1 en s => x_1 = .exit 4 ∧ en.get 14 = sl 1 true (C.map tAV) ∧ en.get 25 = zA o (zeroL O n)) (fun x hok => ?_) x hok env st hg
  subst hth
  by_cases h : x < n
  · have hs := succ64 x (by omega)
    have hlt : ((x : Int) < (n : Int)) = True := eq_true (by omega)
    obtain ⟨v, hv, hv7, hm128, hmex, hG⟩ := hnum x h
    have hzs := zeroL_succ O x
    have hzl := zeroL_len O x
    have g1 := index_ints true O x (by omega)
    have gO : O[x]'(by omega) = (v : Int) := by
      rw [List.getD_eq_getElem?_getD, List.getElem?_eq_getElem (by omega)] at hv
      exact hv
    rw [gO] at g1
    have et : tAV O = sl 1 true (O.map I) := rfl
    rw [← et] at g1
    rw [hv] at hzs
    have c1 : ((v : Int) < 0) = False := eq_false (by omega)
    have c2 : ((7 : Int) < (v : Int)) = False := eq_false (by omega)
    have b1 : ((0 : Int) ≤ (x : Int)) = True := eq_true (by omega)
    have b2 : ((x : Int) < 8) = True := eq_true (by omega)
    have b5 : (x + 1 ≤ 8) = True := eq_true (by omega)
    have g2 := getJ w x (by omega)
    have h51 := fun st => c51 (w.getD x 0) (small_getD hsm x) st
    rw [memb_J] at h51
    have hbl := bits_len (w.getD x 0)
    have hlG : lenAV (sl 1 true ((bitsL (w.getD x 0)).map J)) = some (I (bitsL (w.getD x 0)).length) := by rw [len_sl, List.length_map]
    have hro := fun k T acc => ren1_outG (o := o) (k := (outT o ++ zT (zeroL O k)).length) (by rw [List.length_append]; omega) T acc
    have hro0 := fun T acc => ren1_outG (o := o) (k := (outT o).length) (Nat.le_refl _) T acc
    have hwU := wrapU (mexS O (bitsL (w.getD x 0)) 0) (by omega)
    have hcm := compl_u _ hm128
    have h52 := fun st => c52c _ hm128 st
    rw [hmex] at h52
    have happ := fun S => append_z o (zeroL O x) (x : Int) S (by omega)
    by_cases p : v = 0
    · have q : ((v : Int) = 0) = True := eq_true (by omega)
      rw [if_pos (by omega)] at hzs
      rw [← hzs] at happ
      simp only [go_sem, reduceIte, Nat.reduceEqDiff, Nat.reduceAdd, Nat.reduceSub, Nat.reduceLeDiff, Nat.reduceLT, reduceCtorEq, Int.reduceLT, Int.reduceLE, Int.reduceEq, Int.reduceBEq, Int.reduceSub, Int.reduceAdd, Int.reduceMul, Int.reduceNeg, Int.reduceToNat, Nat.reduceMul, Nat.reduceBEq, index_rsl_if, setm, make_ints, condK_dec, wantK_dec, not_dec, and_dec, or_dec, seqK_ite, seqK_none, blockK_ite, blockK_none, opsK_ite, opsK_none, stepK_ite, stepK_none, bodyK_ite, bodyK_none, resK_ite, resK_none, leaveK_ite, leaveK_none, only_ite, only_none, bind_ite, gives_some, gives_none, gives_ite, then_normal, then_ret, then_exit, then_none, then_ite, Option.bind_none, Bool.not_eq_true', decide_eq_false_iff_not, Bool.and_eq_true, Bool.or_eq_true, Option.some.injEq, Int.not_lt, Int.not_le, lp8_3, hlt, hs, g1, c1, c2, q, b1, b2, b5, g2, hw8, h51, happ, hlG, List.length_map]
      generalize hg : lim (headed pure (run L) true _ lp8_2 _ _) _ _ = o
      obtain ⟨x, en, s, rfl, h2⟩ : ∃ x en s, o = some (x, en, s) ∧ _ := by rw [← hg]; exact loop8_2 zs ys n hn bk hbk1 hbk2 N w _ C (zeroL O (x + 1)) O hO (v : Int) x (bitsL (w.getD x 0)) hG hbl (outT _ ++ zT (zeroL O (x + 1))).length rfl 0 0 ⟨by omega, by omega⟩ _ _ (by simp only [go_sem, reduceIte, Nat.reduceEqDiff, Nat.reduceAdd, Nat.reduceSub, Nat.reduceLeDiff, Nat.reduceLT, reduceCtorEq, Int.reduceLT, Int.reduceLE, Int.reduceEq, Int.reduceBEq, Int.reduceSub, Int.reduceAdd, Int.reduceMul, Int.reduceNeg, Int.reduceToNat, Nat.reduceMul, Nat.reduceBEq, okRefsB, renCellsB, okRefsJ, renCellsJ, hbk1, hbk2, ren1_t', okRef_z, ren1_zH, hro, List.take_length, Int.natCast_zero] <;> rfl)
      clear hg
      rw [List.drop_zero] at h2
      obtain ⟨rfl, e14, e16, e24, e25, e27, e28, e166, e167, e168, rfl⟩ := h2
      generalize mexS O (bitsL (w.getD x 0)) 0 = m at *
      simp only [go_sem, reduceIte, Nat.reduceEqDiff, Nat.reduceAdd, Nat.reduceSub, Nat.reduceLeDiff, Nat.reduceLT, reduceCtorEq, Int.reduceLT, Int.reduceLE, Int.reduceEq, Int.reduceBEq, Int.reduceSub, Int.reduceAdd, Int.reduceMul, Int.reduceNeg, Int.reduceToNat, Nat.reduceMul, Nat.reduceBEq, index_rsl_if, setm, make_ints, condK_dec, wantK_dec, not_dec, and_dec, or_dec, seqK_ite, seqK_none, blockK_ite, blockK_none, opsK_ite, opsK_none, stepK_ite, stepK_none, bodyK_ite, bodyK_none, resK_ite, resK_none, leaveK_ite, leaveK_none, only_ite, only_none, bind_ite, gives_some, gives_none, gives_ite, then_normal, then_ret, then_exit, then_none, then_ite, Option.bind_none, Bool.not_eq_true', decide_eq_false_iff_not, Bool.and_eq_true, Bool.or_eq_true, Option.some.injEq, Int.not_lt, Int.not_le, lp8_3, hs, e14, e16, e24, e25, e27, e28, e166, e167, e168, hwU, hcm, h52]
      refine ⟨x + 1, by simp only [go_sem, reduceIte, Nat.reduceEqDiff, Nat.reduceAdd, Nat.reduceSub, Nat.reduceLeDiff, Nat.reduceLT, reduceCtorEq, Int.reduceLT, Int.reduceLE, Int.reduceEq, Int.reduceBEq, Int.reduceSub, Int.reduceAdd, Int.reduceMul, Int.reduceNeg, Int.reduceToNat, Nat.reduceMul, Nat.reduceBEq, ren1_locm, loc_tips, locT_eq, okRefsB, renCellsB, okRefsJ, renCellsJ, hbk1, hbk2, ren1_t', okRef_z, ren1_z, zAcc_snd, hro0, e14, e16, e24, e25, e27, e28, e166, e167, e168] <;> rfl, ?_, ?_, fun x en s hq => ?_⟩
      · omega
      · omega
      · exact hq
    · have q : ((v : Int) = 0) = False := eq_false (by omega)
      rw [if_neg (by omega)] at hzs
      clear happ
      simp only [go_sem, reduceIte, Nat.reduceEqDiff, Nat.reduceAdd, Nat.reduceSub, Nat.reduceLeDiff, Nat.reduceLT, reduceCtorEq, Int.reduceLT, Int.reduceLE, Int.reduceEq, Int.reduceBEq, Int.reduceSub, Int.reduceAdd, Int.reduceMul, Int.reduceNeg, Int.reduceToNat, Nat.reduceMul, Nat.reduceBEq, index_rsl_if, setm, make_ints, condK_dec, wantK_dec, not_dec, and_dec, or_dec, seqK_ite, seqK_none, blockK_ite, blockK_none, opsK_ite, opsK_none, stepK_ite, stepK_none, bodyK_ite, bodyK_none, resK_ite, resK_none, leaveK_ite, leaveK_none, only_ite, only_none, bind_ite, gives_some, gives_none, gives_ite, then_normal, then_ret, then_exit, then_none, then_ite, Option.bind_none, Bool.not_eq_true', decide_eq_false_iff_not, Bool.and_eq_true, Bool.or_eq_true, Option.some.injEq, Int.not_lt, Int.not_le, lp8_3, hlt, hs, g1, c1, c2, q, b1, b2, b5, g2, hw8, h51, hlG, List.length_map]
      generalize hg : lim (headed pure (run L) true _ lp8_2 _ _) _ _ = o
      obtain ⟨x, en, s, rfl, h2⟩ : ∃ x en s, o = some (x, en, s) ∧ _ := by rw [← hg]; exact loop8_2 zs ys n hn bk hbk1 hbk2 N w _ C (zeroL O x) O hO (v : Int) x (bitsL (w.getD x 0)) hG hbl (outT _ ++ zT (zeroL O x)).length rfl 0 0 ⟨by omega, by omega⟩ _ _ (by simp only [go_sem, reduceIte, Nat.reduceEqDiff, Nat.reduceAdd, Nat.reduceSub, Nat.reduceLeDiff, Nat.reduceLT, reduceCtorEq, Int.reduceLT, Int.reduceLE, Int.reduceEq, Int.reduceBEq, Int.reduceSub, Int.reduceAdd, Int.reduceMul, Int.reduceNeg, Int.reduceToNat, Nat.reduceMul, Nat.reduceBEq, okRefsB, renCellsB, okRefsJ, renCellsJ, hbk1, hbk2, ren1_t', okRef_z, ren1_zH, hro, List.take_length, Int.natCast_zero] <;> rfl)
      clear hg
      rw [List.drop_zero] at h2
      obtain ⟨rfl, e14, e16, e24, e25, e27, e28, e166, e167, e168, rfl⟩ := h2
      generalize mexS O (bitsL (w.getD x 0)) 0 = m at *
      simp only [go_sem, reduceIte, Nat.reduceEqDiff, Nat.reduceAdd, Nat.reduceSub, Nat.reduceLeDiff, Nat.reduceLT, reduceCtorEq, Int.reduceLT, Int.reduceLE, Int.reduceEq, Int.reduceBEq, Int.reduceSub, Int.reduceAdd, Int.reduceMul, Int.reduceNeg, Int.reduceToNat, Nat.reduceMul, Nat.reduceBEq, index_rsl_if, setm, make_ints, condK_dec, wantK_dec, not_dec, and_dec, or_dec, seqK_ite, seqK_none, blockK_ite, blockK_none, opsK_ite, opsK_none, stepK_ite, stepK_none, bodyK_ite, bodyK_none, resK_ite, resK_none, leaveK_ite, leaveK_none, only_ite, only_none, bind_ite, gives_some, gives_none, gives_ite, then_normal, then_ret, then_exit, then_none, then_ite, Option.bind_none, Bool.not_eq_true', decide_eq_false_iff_not, Bool.and_eq_true, Bool.or_eq_true, Option.some.injEq, Int.not_lt, Int.not_le, lp8_3, hs, e14, e16, e24, e25, e27, e28, e166, e167, e168, hwU, hcm, h52]
      refine ⟨x + 1, by simp only [go_sem, reduceIte, Nat.reduceEqDiff, Nat.reduceAdd, Nat.reduceSub, Nat.reduceLeDiff, Nat.reduceLT, reduceCtorEq, Int.reduceLT, Int.reduceLE, Int.reduceEq, Int.reduceBEq, Int.reduceSub, Int.reduceAdd, Int.reduceMul, Int.reduceNeg, Int.reduceToNat, Nat.reduceMul, Nat.reduceBEq, ren1_locm, loc_tips, locT_eq, okRefsB, renCellsB, okRefsJ, renCellsJ, hbk1, hbk2, ren1_t', okRef_z, ren1_z, zAcc_snd, hro0, e14, e16, e24, e25, e27, e28, e166, e167, e168, hzs] <;> rfl, ?_, ?_, fun x en s hq => ?_⟩
      · omega
      · omega
      · exact hq
  · obtain rfl : x = n := by omega
    have hlt : ((x : Int) < (x : Int)) = False := eq_false (by omega)
    simp only [go_sem, reduceIte, Nat.reduceEqDiff, Nat.reduceAdd, Nat.reduceSub, Nat.reduceLeDiff, Nat.reduceLT, reduceCtorEq, Int.reduceLT, Int.reduceLE, Int.reduceEq, Int.reduceBEq, Int.reduceSub, Int.reduceAdd, Int.reduceMul, Int.reduceNeg, Int.reduceToNat, Nat.reduceMul, Nat.reduceBEq, index_rsl_if, setm, make_ints, condK_dec, wantK_dec, not_dec, and_dec, or_dec, seqK_ite, seqK_none, blockK_ite, blockK_none, opsK_ite, opsK_none, stepK_ite, stepK_none, bodyK_ite, bodyK_none, resK_ite, resK_none, leaveK_ite, leaveK_none, only_ite, only_none, bind_ite, gives_some, gives_none, gives_ite, then_normal, then_ret, then_exit, then_none, then_ite, Option.bind_none, Bool.not_eq_true', decide_eq_false_iff_not, Bool.and_eq_true, Bool.or_eq_true, Option.some.injEq, Int.not_lt, Int.not_le, lp8_3, hlt]

attribute [local go_sem high] and_one shr_u shl_one or_u and_u
attribute [local go_sem] shaped_t cells_t isAgg_t storable_t okRef_t pub_t okRef_out storable_out shaped_out cells_out fin_out pub_out

theorem make_J (st : St) (n : Nat) (hn : n ≤ 100) : makeAV 1 false [.v (.int .i64 0)] st (J n) (J n) = some (.rsl st.store.length 0 n n 1 false, ⟨st.store ++ [(List.replicate n 0).map J], st.tips⟩) := by
  have h := make_ints st false (n : Int)
  rw [if_pos ⟨by omega, by unfold maxGrow; omega⟩, Int.toNat_natCast] at h
  rw [h]
  simp
set_option maxHeartbeats 2000000 in
theorem c8 (zs ys : List Int) (hzl : zs.length = 34) (hz : ∀ a ∈ zs, Byte a) (hyl : ys.length = 7) (hy : ∀ a ∈ ys, Byte a) (st : St) :
    run L 8 [qAV zs, .agg (ys.map B8)] st = some (B true, st) := by
  rw [run_pure (fn := ir8) rfl rfl]
  obtain ⟨n, hN, h1, h2, h3, h4, h5, h6, h7, h8⟩ := made_ok (.inr rfl) zs
  have h45 := fun st => c45 zs hzl hz 7 (.inr rfl) st
  rw [hN] at h45
  generalize madeP 7 zs = ps at *
  have htk : (zs.map B8).take 34 = zs.map B8 := List.take_of_length_le (by rw [List.length_map]; omega)
  have hmk := fun st => make_J st n (by omega)
  obtain ⟨hnl, hnp⟩ := name_ok n ys
  obtain ⟨k1, k2, k3, k4, k5⟩ := ord_ok h1 h3 hnp h4 (fun p hp => h5 p hp)
  have hnm : (List.range' 0 n).foldl (nmStep ys) (List.replicate n 0) = nameL n ys := rfl
  have hol0 : ps.foldl (ordStep (nameL n ys)) [] = ordL (nameL n ys) ps := rfl
  simp only [ir8, go_sem, reduceIte, Nat.reduceEqDiff, Nat.reduceAdd, Nat.reduceSub, Nat.reduceLeDiff, Nat.reduceLT, reduceCtorEq, Int.reduceLT, Int.reduceLE, Int.reduceEq, Int.reduceBEq, Int.reduceSub, Int.reduceAdd, Int.reduceMul, Int.reduceNeg, Int.reduceToNat, Nat.reduceMul, Nat.reduceBEq, okRefsB, renCellsB, pubsB, storableB, h45, hzl, hyl, htk, hmk, List.length_map]
  generalize hg : lim (headed pure (run L) true _ lp8_0 _ _) _ _ = o
  obtain ⟨x, en, s, rfl, h2⟩ : ∃ x en s, o = some (x, en, s) ∧ _ := by rw [← hg]; exact loop8_0 zs ys hyl hy n h3 ps 0 (List.replicate n 0) ⟨by omega, by simp⟩ _ _ (by simp only [go_sem, reduceIte, Nat.reduceEqDiff, Nat.reduceAdd, Nat.reduceSub, Nat.reduceLeDiff, Nat.reduceLT, reduceCtorEq, Int.reduceLT, Int.reduceLE, Int.reduceEq, Int.reduceBEq, Int.reduceSub, Int.reduceAdd, Int.reduceMul, Int.reduceNeg, Int.reduceToNat, Nat.reduceMul, Nat.reduceBEq, okRefsB, renCellsB, okRefsJ, renCellsJ, Int.natCast_zero] <;> rfl)
  clear hg
  rw [Nat.sub_zero, hnm] at h2
  obtain ⟨rfl, e5, e6, e7, rfl⟩ := h2
  generalize nameL n ys = N at *
  simp only [go_sem, reduceIte, Nat.reduceEqDiff, Nat.reduceAdd, Nat.reduceSub, Nat.reduceLeDiff, Nat.reduceLT, reduceCtorEq, Int.reduceLT, Int.reduceLE, Int.reduceEq, Int.reduceBEq, Int.reduceSub, Int.reduceAdd, Int.reduceMul, Int.reduceNeg, Int.reduceToNat, Nat.reduceMul, Nat.reduceBEq, e5, e6, e7, List.length_map]
  generalize hg : lim (headed pure (run L) true _ lp8_1 _ _) _ _ = o
  obtain ⟨x, en, s, rfl, h2⟩ : ∃ x en s, o = some (x, en, s) ∧ _ := by rw [← hg]; exact loop8_1 zs ys n h3 ps h4 (fun p hp => h5 p hp) N hnl 0 [] ⟨by omega, by simp⟩ _ _ (by simp only [go_sem, reduceIte, Nat.reduceEqDiff, Nat.reduceAdd, Nat.reduceSub, Nat.reduceLeDiff, Nat.reduceLT, reduceCtorEq, Int.reduceLT, Int.reduceLE, Int.reduceEq, Int.reduceBEq, Int.reduceSub, Int.reduceAdd, Int.reduceMul, Int.reduceNeg, Int.reduceToNat, Nat.reduceMul, Nat.reduceBEq, okRefsB, renCellsB, okRefsJ, renCellsJ, e5, e6, e7, show outAV [] = .v (.slice none 0 0) from rfl, show outT [] = [] from rfl, Int.natCast_zero] <;> rfl)
  clear hg
  rw [List.drop_zero, hol0] at h2
  obtain ⟨rfl, e6, e10, rfl⟩ := h2
  generalize ordL N ps = oo at *
  have hout : ∀ f fn, L.fns f = some fn → L.pure f = true → ∀ st, run L f [.agg [I (n : Int), outAV oo]] st = run L f [bkAV true (n : Int) oo] st := fun f fn hf hp st => run_args hf hp st (by simp only [pubs, pub, pub_out, pub_sl])
  have hwn := seeL_in (Nat.le_refl 7) (fun p hp => k3 p hp) k4
  have hself := self_no (fun p hp => k3 p hp) k4
  obtain ⟨hol, ho1, _⟩ := num_all h3 (seeL_small 7 k4) hwn hself
  have hallN : allN (n : Int) oo = [] := by unfold allN; rw [Int.toNat_natCast]; exact k5
  have hone := one_choice h3 (fun p hp => k3 p hp) k4 k5
  have h20 : ∀ st, run L 20 [.agg [I (n : Int), outAV oo]] st = some (.tup [sl 1 true ([zeroL (numO n (seeL 7 oo)) n].map tAV), I 0], st) := fun st => by
    rw [hout 20 ir20 rfl rfl, c20 true (n : Int) oo st, k1, allV_ok k1, hone]
  have h34 : ∀ st, run L 34 [.agg [I (n : Int), outAV oo]] st = some (.tup [tAV (numO n (seeL 7 oo)), I 0], st) := fun st => by
    rw [hout 34 ir34 rfl rfl, c34 true (n : Int) oo st]
    unfold numV numE
    rw [if_pos k1, if_pos k1, if_pos hallN, if_pos hallN, Int.toNat_natCast]
  have h36 : ∀ st, run L 36 [.agg [I (n : Int), outAV oo]] st = some (.tup [I 0, I 0], st) := fun st => by
    rw [hout 36 ir36 rfl rfl, c36 true (n : Int) oo st, k1]
    unfold circV
    rw [if_pos k1, hallN]; rfl
  have h28 : ∀ st, run L 28 [.agg [I (n : Int), outAV oo]] st = some (.tup [tAV [], I 13], st) := fun st => by
    rw [hout 28 ir28 rfl rfl, c28 true (n : Int) oo st]
    have : oddB n (seeL 7 oo) = none := by rw [oddB_fold, k5]; rfl
    unfold ringV ringE
    rw [if_pos k1, if_pos k1, Int.toNat_natCast, this]
  have h40 : ∀ st, run L 40 [.agg [I (n : Int), outAV oo]] st = some (.tup [I 0, I 12], st) := fun st => by
    rw [hout 40 ir40 rfl rfl, c40 true (n : Int) oo st]
    have : worstI (n : Int) oo < 0 := by
      by_cases hp : 1 ≤ oo.length
      · rw [worst_rw _ _ hp, hallN, if_neg (by simp [thN])]; omega
      · have : oo = [] := List.eq_nil_of_length_eq_zero (by omega)
        subst this; simp [worstI]
    unfold worstV worstE
    rw [if_pos k1, if_pos k1, if_pos this, if_pos this]
  have h50 : ∀ st, run L 50 [.agg [I (n : Int), outAV oo]] st = some (.agg ((seeL 8 oo).map J), st) := fun st => by
    rw [hout 50 ir50 rfl rfl, c50 true (n : Int) oo (by omega) k4 st]
  have hpj := putJ (seeL 8 oo) (seeL_len 8 oo)
  have hlj := seeL_len 8 oo
  have h87 := seeL_87 k4
  have hnum : ∀ x, x < n → ∃ v : Nat, (numO n (seeL 7 oo)).getD x (-1) = v ∧ v < 7 ∧ mexS (numO n (seeL 7 oo)) (bitsL ((seeL 8 oo).getD x 0)) 0 < 128 ∧ mexM (mexS (numO n (seeL 7 oo)) (bitsL ((seeL 8 oo).getD x 0)) 0) = v ∧ ∀ y ∈ bitsL ((seeL 8 oo).getD x 0), y < n ∧ ∃ u : Nat, (numO n (seeL 7 oo)).getD y (-1) = u ∧ u < 8 := fun x hx => by
    rw [h87]
    exact num_check h3 (seeL_small 7 k4) hwn hself (ho1 k5) hx
  have hzl2 := zeroL_len (numO n (seeL 7 oo)) n
  have hz0 : zeroL (numO n (seeL 7 oo)) 0 = [] := rfl
  generalize numO n (seeL 7 oo) = O at *
  have hl1 : lenAV (sl 1 true ([zeroL O n].map tAV)) = some (I 1) := by rw [len_sl]; rfl
  have hlO : lenAV (tAV O) = some (I n) := by rw [len_tAV, hol]
  have hro0 := fun T acc => ren1_outG (o := oo) (k := (outT oo).length) (Nat.le_refl _) T acc
  have hA0 : zA oo [] = .v (.slice none 0 0) := rfl
  have hT0 : zT [] = [] := rfl
  have hx0 : indexSAV 1 (sl 1 true ([zeroL O n].map tAV)) (.v (.int .i64 0)) = some (.eptr (tAV (zeroL O n)) 0) := by
    have := index_t true [zeroL O n] 0 (by simp)
    simpa using this
  have h22 : ∀ st, run L 22 [tAV (zeroL O n), zA oo (zeroL O n)] st = some (B true, st) := fun st => by
    rw [← same_self (zeroL O n) (by omega) st]
    exact run_args (fn := ir22) rfl rfl st (by simp only [pubs, pub_z, pub_t])
  have hbk1 : ∀ k, okRefs k (bkCells true (n : Int) ps) = true := fun k => by simp only [okRefs, okRef, okRef_sl]; rfl
  have hbk2 : ∀ k T acc, renCells k T acc (bkCells true (n : Int) ps) = (bkCells true (n : Int) ps, acc) := fun k T acc => by simp only [renCells, ren1_int, ren1_sl]
  have hro1 := fun k (T : List Nat) acc => (show ∀ h : (outT oo).length ≤ k, ren1 k T acc (outAV oo) = (outAV oo, acc) from fun h => ren1_outG h T acc)
  simp only [go_sem, reduceIte, Nat.reduceEqDiff, Nat.reduceAdd, Nat.reduceSub, Nat.reduceLeDiff, Nat.reduceLT, reduceCtorEq, Int.reduceLT, Int.reduceLE, Int.reduceEq, Int.reduceBEq, Int.reduceSub, Int.reduceAdd, Int.reduceMul, Int.reduceNeg, Int.reduceToNat, Nat.reduceMul, Nat.reduceBEq, e6, e10, h20, h34, h36, h28, h40, h50, hl1, hlO, hpj, hlj, pubsJ, storableJ, List.length_map]
  generalize hg : lim (headed pure (run L) true _ lp8_3 _ _) _ _ = o
  obtain ⟨x, en, s, rfl, h2⟩ : ∃ x en s, o = some (x, en, s) ∧ _ := by rw [← hg]; exact loop8_3 zs ys n h3 (bkCells true (n : Int) ps) hbk1 hbk2 N (seeL 8 oo) hlj (seeL_small 8 k4) _ [zeroL O n] O hol hnum _ rfl 0 (by omega) _ _ (by simp only [go_sem, reduceIte, Nat.reduceEqDiff, Nat.reduceAdd, Nat.reduceSub, Nat.reduceLeDiff, Nat.reduceLT, reduceCtorEq, Int.reduceLT, Int.reduceLE, Int.reduceEq, Int.reduceBEq, Int.reduceSub, Int.reduceAdd, Int.reduceMul, Int.reduceNeg, Int.reduceToNat, Nat.reduceMul, Nat.reduceBEq, okRefsB, renCellsB, okRefsJ, renCellsJ, hbk1, hbk2, ren1_t', hz0, hA0, hT0, hro0, List.take_length, e6, e10, Int.natCast_zero] <;> rfl)
  clear hg
  obtain ⟨rfl, e14, e25⟩ := h2
  have hx0' : indexSAV 1 (sl 1 true [tAV (zeroL O n)]) (.v (.int .i64 0)) = some (.eptr (tAV (zeroL O n)) 0) := hx0
  simp only [go_sem, reduceIte, Nat.reduceEqDiff, Nat.reduceAdd, Nat.reduceSub, Nat.reduceLeDiff, Nat.reduceLT, reduceCtorEq, Int.reduceLT, Int.reduceLE, Int.reduceEq, Int.reduceBEq, Int.reduceSub, Int.reduceAdd, Int.reduceMul, Int.reduceNeg, Int.reduceToNat, Nat.reduceMul, Nat.reduceBEq, e14, e25, hx0', h22, c17]
end Go.Proofs.YtgohohiaaiogcaaDoor.Vm
