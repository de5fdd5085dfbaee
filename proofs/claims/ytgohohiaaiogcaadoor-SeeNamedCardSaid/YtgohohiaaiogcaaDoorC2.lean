/- What is proved: what each function of this program computes, as equations on the evaluator. No condition. -/
import Derived.Test.YtgohohiaaiogcaaDoorC1
import Derived.KernelRfl
import Derived.Test.YtgohohiaaiogcaaDoorS0
set_option linter.all false
namespace Go.Proofs.YtgohohiaaiogcaaDoor.Vm
open Go Go.Ev
set_option maxRecDepth 100000
attribute [local go_sem] cells_any storable_any ren1_any shaped_ptr cells_ptr storable_ptr ren1_ptr shaped_eptr cells_eptr storable_eptr ren1_eptr shaped_rsl cells_rsl storable_rsl ren1_rsl shaped_int cells_int storable_int ren1_int shaped_bool cells_bool storable_bool ren1_bool shaped_nils cells_nils storable_nils ren1_nils shaped_lst cells_lst storable_lst shaped_fn cells_fn storable_fn ren1_fn shaped_ifc cells_ifc storable_ifc ren1_ifc shaped_agg cells_agg storable_agg ren1_agg shaped_tup cells_tup storable_tup ren1_tup shaped_nif cells_nif storable_nif ren1_nif ren1_lany ren1_lfull ren1_lown len_lst len_rsl len_nil load_ptr load_eptr isRsl_lst isRsl_nil isRsl_rsl elems_nil elems_lst elems_sl isRsl_sl body_eq bodyK_normal bodyK_ret resK_some leaveK_some only_some code_skip code_exit code_ret code_ops code_seq code_cond code_block seqK_normal seqK_ret seqK_exit condK_true condK_false blockK_normal blockK_ret blockK_exit opsK_some ops_nil ops_cons wantK_true wantK_false stepK_some pubs pub pub_sl params okRef_loc storable_loc shaped_loc cells_loc isRsl_loc elems_loc len_loc untips untip untip_sl wantedAV setElems withO isAgg_v isAgg_agg isAgg_lst isAgg_ptr isAgg_fn isAgg_ifc isAgg_rsl isAgg_sl isAgg_loc List.replicate_succ List.replicate_zero opAV valAV aval avals ofVal Env.get setD canon gcAV renAll renEnv renStore renCells ren1_sl cutSt okEnv okStore okRefs okRef okRef_sl bin_int bin_bool bin_lst bin_rsl bin_nil bin_agg cellsEq cellEq isShift intOp boolOp min_int max_int beq_int bne resAV tupAV leave_eq fin_sl fin_loc fins fin_v fin_lst fin_agg fin_tup fin_fn storeAV readCells putCells cells_sl shaped_sl storable_sl fieldAddrAV len_sl goI List.getElem?_cons_zero List.getElem?_cons_succ List.getElem?_nil Option.bind_some Option.map_some List.length_cons List.length_nil List.all_cons List.all_nil Bool.and_true Bool.true_and Bool.and_false Bool.false_and and_true true_and and_false false_and Bool.false_eq_true List.set_cons_zero List.set_cons_succ List.append_nil List.nil_append List.cons_append List.take_zero List.take_succ_cons List.take_nil List.drop_zero List.drop_succ_cons List.map_cons List.map_nil decide_true decide_false beq_self_eq_true Bool.not_true Bool.not_false or_true true_or or_false false_or Nat.zero_add Nat.add_zero Nat.le_refl Nat.lt_irrefl decide_eq_true_eq eq_self_iff_true not_true_eq_false not_false_eq_true List.getD_cons_zero code_loop Nat.zero_le Nat.not_lt_zero Bool.true_beq Bool.false_beq beq_true beq_false ge_iff_le gt_iff_lt keepR keepT ownTop Lpure pus Option.map_none assert_ifc assert_nil idxA_ptr idxA_eptr idxV_agg Int.cast_ofNat_Int Nat.mul_one Nat.zero_mul Int.toNat_natCast Int.toNat_zero setParts withO2 hasKey eqnil_sl nenil_sl eqnil_loc nenil_loc map_nil_iff okRefs_ints renCells_ints

/-! ### lists of whatever form, compared -/
def IsL (st : St) (A : AV) (xs : List Int) : Prop := lenAV A = some (I xs.length) ∧ ∃ p : Nat → AV, ∀ i : Nat, i < xs.length → indexSAV 1 A (.v (.int .i64 (i : Int))) = some (p i) ∧ loadAV 1 false st (p i) = some (I (xs.getD i 0))
theorem isL_lst (st : St) (g : Tag) (xs : List Int) : IsL st (.lst g 1 (xs.map I)) xs := by
  refine ⟨by rw [len_lst, List.length_map], fun i => .eptr (I (xs.getD i 0)) 0, fun i hi => ⟨?_, rfl⟩⟩
  simp [indexSAV, hi]
theorem isL_lstJ (st : St) (g : Tag) (c : List Nat) : IsL st (.lst g 1 (c.map J)) (c.map fun (x : Nat) => (x : Int)) := by
  have := isL_lst st g (c.map fun (x : Nat) => (x : Int))
  rw [List.map_map] at this
  exact this
theorem isL_rsl {st : St} {l : Nat} {c : List Nat} (h : st.store[l]? = some (c.map J)) (m : Nat) : IsL st (.rsl l 0 c.length m 1 false) (c.map fun (x : Nat) => (x : Int)) := by
  refine ⟨by rw [len_rsl, List.length_map], fun i => .ptr l i, fun i hi => ?_⟩
  rw [List.length_map] at hi
  refine ⟨?_, ?_⟩
  · rw [index_rsl_if, if_pos ⟨by omega, by omega⟩]
    simp
  · rw [load_ptr, h]
    show (c.map J)[i]? = _
    rw [getJ c i hi]
    congr 2
    rw [List.getD_eq_getElem?_getD, List.getD_eq_getElem?_getD, List.getElem?_map, List.getElem?_eq_getElem hi]
    rfl

theorem loop48v (st0 : St) (A Bv : AV) (xs ys : List Int) (hlen : xs.length < 1000000) (pA pB : Nat → AV) (hlB : lenAV Bv = some (I ys.length)) (hA : ∀ i : Nat, i < xs.length → indexSAV 1 A (.v (.int .i64 (i : Int))) = some (pA i) ∧ loadAV 1 false st0 (pA i) = some (I (xs.getD i 0))) (hB : ∀ i : Nat, i < ys.length → indexSAV 1 Bv (.v (.int .i64 (i : Int))) = some (pB i) ∧ loadAV 1 false st0 (pB i) = some (I (ys.getD i 0))) (lo hi : Nat) (i : Nat) (hok : i ≤ xs.length ∧ i ≤ ys.length) (env : Env) (st : St)
    (hg : gcAV false lo hi (canon env [0, 1, 9, 10, 11]) st = ([(0, A), (1, Bv), (9, A), (10, I xs.length), (11, I i)], st0)) :
    ∃ x_1 en s, lim (headed pure (run L) false [0, 1, 9, 10, 11] lp48_0 lo hi) env st = some (x_1, en, s) ∧ (s = st0 ∧ ((x_1 = .exit 0 ∧ en.get 0 = A ∧ en.get 1 = Bv ∧ cmpN (xs.drop i) (ys.drop i) = if xs.length < ys.length then -1 else 0) ∨ (x_1 = .ret ∧ en.get 4 = I (cmpN (xs.drop i) (ys.drop i))))) := by
  refine loop_wp (α := Nat) (fun i => xs.length - i) (fun i => i ≤ xs.length ∧ i ≤ ys.length) (fun i => ([(0, A), (1, Bv), (9, A), (10, I xs.length), (11, I i)], st0)) (fun i x_1 en s => s = st0 ∧ ((x_1 = .exit 0 ∧ en.get 0 = A ∧ en.get 1 = Bv ∧ cmpN (xs.drop i) (ys.drop i) = if xs.length < ys.length then -1 else 0) ∨ (x_1 = .ret ∧ en.get 4 = I (cmpN (xs.drop i) (ys.drop i))))) (fun i hok => ?_) i hok env st hg
  obtain ⟨hok1, hok2⟩ := hok
  by_cases h : i < xs.length
  · obtain ⟨hx, hx2⟩ := hA i h
    have hs := succ64 i (by omega)
    have hd : xs.drop i = xs.getD i 0 :: xs.drop (i + 1) := by
      rw [List.getD_eq_getElem?_getD, List.getElem?_eq_getElem h]; exact List.drop_eq_getElem_cons h
    have hlt : ((i : Int) < (xs.length : Int)) = True := eq_true (by omega)
    rw [hd]
    by_cases h2 : i < ys.length
    · obtain ⟨hy, hy2⟩ := hB i h2
      have hd2 : ys.drop i = ys.getD i 0 :: ys.drop (i + 1) := by
        rw [List.getD_eq_getElem?_getD, List.getElem?_eq_getElem h2]; exact List.drop_eq_getElem_cons h2
      have hge : ((ys.length : Int) ≤ (i : Int)) = False := eq_false (by omega)
      rw [hd2]
      generalize xs.getD i 0 = a at *
      generalize ys.getD i 0 = b at *
      have hcn : cmpN (a :: xs.drop (i + 1)) (b :: ys.drop (i + 1)) = if a < b then -1 else if b < a then 1 else cmpN (xs.drop (i + 1)) (ys.drop (i + 1)) := rfl
      rw [hcn]
      by_cases p1 : a < b
      · simp only [go_sem, reduceIte, Nat.reduceEqDiff, Nat.reduceAdd, Nat.reduceSub, Nat.reduceLeDiff, Nat.reduceLT, reduceCtorEq, Int.reduceLT, Int.reduceLE, Int.reduceEq, Int.reduceBEq, Int.reduceSub, Int.reduceAdd, Int.reduceMul, Int.reduceNeg, Int.reduceToNat, Nat.reduceMul, Nat.reduceBEq, index_rsl_if, setm, make_ints, condK_dec, wantK_dec, not_dec, and_dec, or_dec, seqK_ite, seqK_none, blockK_ite, blockK_none, opsK_ite, opsK_none, stepK_ite, stepK_none, bodyK_ite, bodyK_none, resK_ite, resK_none, leaveK_ite, leaveK_none, only_ite, only_none, bind_ite, gives_some, gives_none, gives_ite, then_normal, then_ret, then_exit, then_none, then_ite, Option.bind_none, Bool.not_eq_true', decide_eq_false_iff_not, Bool.and_eq_true, Bool.or_eq_true, Option.some.injEq, Int.not_lt, Int.not_le, lp48_0, hx, hy, hx2, hy2, hlB, hlt, hge, c86, p1, List.length_map]
      · by_cases p2 : b < a
        · simp only [go_sem, reduceIte, Nat.reduceEqDiff, Nat.reduceAdd, Nat.reduceSub, Nat.reduceLeDiff, Nat.reduceLT, reduceCtorEq, Int.reduceLT, Int.reduceLE, Int.reduceEq, Int.reduceBEq, Int.reduceSub, Int.reduceAdd, Int.reduceMul, Int.reduceNeg, Int.reduceToNat, Nat.reduceMul, Nat.reduceBEq, index_rsl_if, setm, make_ints, condK_dec, wantK_dec, not_dec, and_dec, or_dec, seqK_ite, seqK_none, blockK_ite, blockK_none, opsK_ite, opsK_none, stepK_ite, stepK_none, bodyK_ite, bodyK_none, resK_ite, resK_none, leaveK_ite, leaveK_none, only_ite, only_none, bind_ite, gives_some, gives_none, gives_ite, then_normal, then_ret, then_exit, then_none, then_ite, Option.bind_none, Bool.not_eq_true', decide_eq_false_iff_not, Bool.and_eq_true, Bool.or_eq_true, Option.some.injEq, Int.not_lt, Int.not_le, lp48_0, hx, hy, hx2, hy2, hlB, hlt, hge, c86, p1, p2, List.length_map]
        · simp only [go_sem, reduceIte, Nat.reduceEqDiff, Nat.reduceAdd, Nat.reduceSub, Nat.reduceLeDiff, Nat.reduceLT, reduceCtorEq, Int.reduceLT, Int.reduceLE, Int.reduceEq, Int.reduceBEq, Int.reduceSub, Int.reduceAdd, Int.reduceMul, Int.reduceNeg, Int.reduceToNat, Nat.reduceMul, Nat.reduceBEq, index_rsl_if, setm, make_ints, condK_dec, wantK_dec, not_dec, and_dec, or_dec, seqK_ite, seqK_none, blockK_ite, blockK_none, opsK_ite, opsK_none, stepK_ite, stepK_none, bodyK_ite, bodyK_none, resK_ite, resK_none, leaveK_ite, leaveK_none, only_ite, only_none, bind_ite, gives_some, gives_none, gives_ite, then_normal, then_ret, then_exit, then_none, then_ite, Option.bind_none, Bool.not_eq_true', decide_eq_false_iff_not, Bool.and_eq_true, Bool.or_eq_true, Option.some.injEq, Int.not_lt, Int.not_le, lp48_0, hx, hy, hx2, hy2, hlB, hlt, hge, c86, p1, p2, hs, List.length_map]
          refine ⟨i + 1, by simp only [go_sem, reduceIte, Nat.reduceEqDiff, Nat.reduceAdd, Nat.reduceSub, Nat.reduceLeDiff, Nat.reduceLT, reduceCtorEq, Int.reduceLT, Int.reduceLE, Int.reduceEq, Int.reduceBEq, Int.reduceSub, Int.reduceAdd, Int.reduceMul, Int.reduceNeg, Int.reduceToNat, Nat.reduceMul, Nat.reduceBEq, ren1_locm, loc_tips, locT_eq] <;> rfl, ?_, ?_, fun x en s hq => ?_⟩
          · omega
          · omega
          · exact hq
    · have hd2 : ys.drop i = [] := List.drop_eq_nil_of_le (by omega)
      have hge : ((ys.length : Int) ≤ (i : Int)) = True := eq_true (by omega)
      rw [hd2]
      generalize xs.getD i 0 = a at *
      simp only [go_sem, reduceIte, Nat.reduceEqDiff, Nat.reduceAdd, Nat.reduceSub, Nat.reduceLeDiff, Nat.reduceLT, reduceCtorEq, Int.reduceLT, Int.reduceLE, Int.reduceEq, Int.reduceBEq, Int.reduceSub, Int.reduceAdd, Int.reduceMul, Int.reduceNeg, Int.reduceToNat, Nat.reduceMul, Nat.reduceBEq, index_rsl_if, setm, make_ints, condK_dec, wantK_dec, not_dec, and_dec, or_dec, seqK_ite, seqK_none, blockK_ite, blockK_none, opsK_ite, opsK_none, stepK_ite, stepK_none, bodyK_ite, bodyK_none, resK_ite, resK_none, leaveK_ite, leaveK_none, only_ite, only_none, bind_ite, gives_some, gives_none, gives_ite, then_normal, then_ret, then_exit, then_none, then_ite, Option.bind_none, Bool.not_eq_true', decide_eq_false_iff_not, Bool.and_eq_true, Bool.or_eq_true, Option.some.injEq, Int.not_lt, Int.not_le, lp48_0, hx, hx2, hlB, hlt, hge, cmpN, List.length_map]
  · have hd : xs.drop i = [] := List.drop_eq_nil_of_le (by omega)
    have hlt : ((i : Int) < (xs.length : Int)) = False := eq_false (by omega)
    have hl2 : (ys.drop i).length = ys.length - i := List.length_drop
    rw [hd, cmpN_nil, hl2]
    simp only [go_sem, reduceIte, Nat.reduceEqDiff, Nat.reduceAdd, Nat.reduceSub, Nat.reduceLeDiff, Nat.reduceLT, reduceCtorEq, Int.reduceLT, Int.reduceLE, Int.reduceEq, Int.reduceBEq, Int.reduceSub, Int.reduceAdd, Int.reduceMul, Int.reduceNeg, Int.reduceToNat, Nat.reduceMul, Nat.reduceBEq, index_rsl_if, setm, make_ints, condK_dec, wantK_dec, not_dec, and_dec, or_dec, seqK_ite, seqK_none, blockK_ite, blockK_none, opsK_ite, opsK_none, stepK_ite, stepK_none, bodyK_ite, bodyK_none, resK_ite, resK_none, leaveK_ite, leaveK_none, only_ite, only_none, bind_ite, gives_some, gives_none, gives_ite, then_normal, then_ret, then_exit, then_none, then_ite, Option.bind_none, Bool.not_eq_true', decide_eq_false_iff_not, Bool.and_eq_true, Bool.or_eq_true, Option.some.injEq, Int.not_lt, Int.not_le, lp48_0, hlt, List.length_map]
    have e : (0 < ys.length - i) = (xs.length < ys.length) := propext (by omega)
    simp only [e]

theorem c48v (A Bv : AV) (xs ys : List Int) (hlen : xs.length < 1000000) (st : St) (hA : IsL st A xs) (hB : IsL st Bv ys) : run L 48 [A, Bv] st = some (I (cmpN xs ys), st) := by
  rw [run_shared (fn := ir48) rfl rfl]
  obtain ⟨hlA, pA, hA⟩ := hA
  obtain ⟨hlB, pB, hB⟩ := hB
  simp only [ir48, go_sem, reduceIte, Nat.reduceEqDiff, Nat.reduceAdd, Nat.reduceSub, Nat.reduceLeDiff, Nat.reduceLT, reduceCtorEq, Int.reduceLT, Int.reduceLE, Int.reduceEq, Int.reduceBEq, Int.reduceSub, Int.reduceAdd, Int.reduceMul, Int.reduceNeg, Int.reduceToNat, Nat.reduceMul, Nat.reduceBEq, hlA]
  generalize hg : lim (headed pure (run L) false _ lp48_0 _ _) _ _ = o
  obtain ⟨x, en, s, rfl, h2⟩ : ∃ x en s, o = some (x, en, s) ∧ _ := by rw [← hg]; exact loop48v st A Bv xs ys hlen pA pB hlB hA hB _ _ 0 ⟨by omega, by omega⟩ _ _ (by simp only [go_sem, reduceIte, Nat.reduceEqDiff, Nat.reduceAdd, Nat.reduceSub, Nat.reduceLeDiff, Nat.reduceLT, reduceCtorEq, Int.reduceLT, Int.reduceLE, Int.reduceEq, Int.reduceBEq, Int.reduceSub, Int.reduceAdd, Int.reduceMul, Int.reduceNeg, Int.reduceToNat, Nat.reduceMul, Nat.reduceBEq] <;> rfl)
  clear hg
  simp only [List.drop_zero] at h2
  obtain ⟨rfl, h2⟩ := h2
  rcases h2 with ⟨rfl, h3, h4, h5⟩ | ⟨rfl, h3⟩
  · rw [h5]
    by_cases p : xs.length < ys.length
    · have q : ((xs.length : Int) < (ys.length : Int)) = True := eq_true (by omega)
      rw [if_pos p]
      simp only [go_sem, reduceIte, Nat.reduceEqDiff, Nat.reduceAdd, Nat.reduceSub, Nat.reduceLeDiff, Nat.reduceLT, reduceCtorEq, Int.reduceLT, Int.reduceLE, Int.reduceEq, Int.reduceBEq, Int.reduceSub, Int.reduceAdd, Int.reduceMul, Int.reduceNeg, Int.reduceToNat, Nat.reduceMul, Nat.reduceBEq, h3, h4, hlA, hlB, q]
    · have q : ((xs.length : Int) < (ys.length : Int)) = False := eq_false (by omega)
      rw [if_neg p]
      simp only [go_sem, reduceIte, Nat.reduceEqDiff, Nat.reduceAdd, Nat.reduceSub, Nat.reduceLeDiff, Nat.reduceLT, reduceCtorEq, Int.reduceLT, Int.reduceLE, Int.reduceEq, Int.reduceBEq, Int.reduceSub, Int.reduceAdd, Int.reduceMul, Int.reduceNeg, Int.reduceToNat, Nat.reduceMul, Nat.reduceBEq, h3, h4, hlA, hlB, q]
  · simp only [go_sem, reduceIte, Nat.reduceEqDiff, Nat.reduceAdd, Nat.reduceSub, Nat.reduceLeDiff, Nat.reduceLT, reduceCtorEq, Int.reduceLT, Int.reduceLE, Int.reduceEq, Int.reduceBEq, Int.reduceSub, Int.reduceAdd, Int.reduceMul, Int.reduceNeg, Int.reduceToNat, Nat.reduceMul, Nat.reduceBEq, h3]
theorem flat_J (c : List Nat) : flatAV (c.map J) = c.map J := by
  unfold flatAV
  induction c with
  | nil => rfl
  | cons x r ih => rw [List.map_cons, List.flatMap_cons, ih]; rfl
/-- A copy that may be written. -/
theorem c58 (g : Tag) (c : List Nat) (h : c ≠ []) (hl : c.length ≤ 1000) : run L 58 [.lst g 1 (c.map J)] ⟨[], []⟩ = some (.rsl 0 0 c.length c.length 1 false, ⟨[c.map J], []⟩) := by
  rw [run_shared (fn := ir58) rfl rfl]
  have hm : c.length ≤ maxGrow := by unfold maxGrow; omega
  have hf : flatAV (c.map J) = c.map J := flat_J c
  have hap : appendmAV 1 false (.lst .full 1 []) (c.map J) ⟨[], []⟩ = some (.rsl 0 0 c.length c.length 1 false, ⟨[c.map J], []⟩) := by
    cases c with
    | nil => exact absurd rfl h
    | cons x r =>
      rw [List.map_cons] at hf ⊢
      simp only [appendmAV, newM, List.nil_append, if_true, List.length_cons, List.length_map] at hm ⊢
      rw [if_pos hm, hf]
      simp
  simp only [ir58, go_sem, reduceIte, Nat.reduceEqDiff, Nat.reduceAdd, Nat.reduceSub, Nat.reduceLeDiff, Nat.reduceLT, reduceCtorEq, Int.reduceLT, Int.reduceLE, Int.reduceEq, Int.reduceBEq, Int.reduceSub, Int.reduceAdd, Int.reduceMul, Int.reduceNeg, Int.reduceToNat, Nat.reduceMul, Nat.reduceBEq, hap]


/-! ### the first goal: the first shortest odd circle -/
def up (c : List Nat) : List Int := c.map fun (x : Nat) => (x : Int)
theorem up_len (c : List Nat) : (up c).length = c.length := by simp [up]
theorem up_J (c : List Nat) : (up c).map I = c.map J := by simp [up, List.map_map, Function.comp]
def better (o : Option (List Nat)) (c : List Nat) : Bool :=
  decide (c.length % 2 = 1) && match o with | none => true | some b => decide (c.length < b.length) || (decide (c.length = b.length) && lexLt (up c) (up b))
def clS (X : List (List Nat)) (c : List Nat) : List (List Nat) := if better X.getLast? c = true then X ++ [c] else X
/-- The circles that were the best ones when they came. -/
def clL (cs : List (List Nat)) : List (List Nat) := cs.foldl clS []
theorem clL_snoc (cs : List (List Nat)) (c : List Nat) : clL (cs ++ [c]) = clS (clL cs) c := by simp [clL]
theorem clS_odd {X : List (List Nat)} (h : ∀ c ∈ X, c.length % 2 = 1) (c : List Nat) : ∀ x ∈ clS X c, x.length % 2 = 1 := by
  unfold clS
  split
  · next hb =>
    intro x hx
    rcases List.mem_append.1 hx with hx | hx
    · exact h x hx
    · simp at hx; subst hx
      unfold better at hb
      rw [Bool.and_eq_true, decide_eq_true_iff] at hb; exact hb.1
  · exact h
theorem foldl_odd : ∀ (cs X : List (List Nat)), (∀ c ∈ X, c.length % 2 = 1) → ∀ x ∈ cs.foldl clS X, x.length % 2 = 1
  | [], _, h => h
  | c :: r, X, h => foldl_odd r _ (clS_odd h c)
theorem clL_odd (cs : List (List Nat)) : ∀ x ∈ clL cs, x.length % 2 = 1 := foldl_odd cs [] (by simp)
theorem clS_len (X : List (List Nat)) (c : List Nat) : X.length ≤ (clS X c).length := by
  unfold clS; split <;> simp
theorem foldl_len : ∀ (cs X : List (List Nat)), X.length ≤ (cs.foldl clS X).length
  | [], _ => Nat.le_refl _
  | c :: r, X => Nat.le_trans (clS_len X c) (foldl_len r _)
theorem clL_mono (cs cs' : List (List Nat)) : (clL cs).length ≤ (clL (cs ++ cs')).length := by
  unfold clL; rw [List.foldl_append]; exact foldl_len cs' _
def obX (d : Nat) (X : List (List Nat)) : AV :=
  match X.getLast? with
  | none => .v (.slice none 0 0)
  | some b => .rsl (d + (3 + X.length)) 0 b.length b.length 1 false
def goalO : Goal := ⟨101, 145, fun d cs => [obX d (clL cs)], fun _ cs => (clL cs).map fun c => c.map J⟩
theorem noLs_J : ∀ c : List Nat, noLs (c.map J) = true
  | [] => rfl
  | x :: r => by simp only [List.map_cons, noLs, noL, noLs_J r, Bool.and_true]
theorem noLs_U : ∀ c : List Nat, noLs (c.map U) = true
  | [] => rfl
  | x :: r => by simp only [List.map_cons, noLs, noL, noLs_U r, Bool.and_true]
theorem visB_J {c : List Nat} (h : c ≠ []) : visB (c.map J) = true := by
  unfold visB
  rw [noLs_J]
  cases c with
  | nil => exact absurd rfl h
  | cons x r => rfl
theorem visB_web (n : Int) (w : List Nat) : visB (webC n w) = true := by
  unfold visB webC
  simp only [noLs, noL, noLs_U]
  rfl
theorem visR_J (st : St) (c : List Nat) : ∀ v ∈ c.map J, visR st v = true := by
  intro v hv
  obtain ⟨x, _, rfl⟩ := List.mem_map.1 hv
  exact visR_v _ _
theorem visR_web (st : St) (n : Int) (w : List Nat) : ∀ v ∈ webC n w, visR st v = true := by
  intro v hv
  unfold webC at hv
  rcases List.mem_cons.1 hv with rfl | hv
  · exact visR_v _ _
  · obtain ⟨x, _, rfl⟩ := List.mem_map.1 hv
    exact visR_v _ _
theorem visN_at {A D : List (List AV)} {d : Nat} (hD : D.length = d) (hA : ∀ x ∈ A, visB x = true) (k : Nat) (hk : k < A.length) (T : List Nat) : visN ⟨D ++ A, T⟩ (d + k) = true := by
  unfold visN
  simp only
  rw [get_app hD, List.getElem?_eq_getElem hk]
  exact hA _ (List.getElem_mem hk)
theorem from_vis {A D : List (List AV)} {d : Nat} (hD : D.length = d) (hA : ∀ x ∈ A, visB x = true) (hk : 4 ≤ A.length) (T : List Nat) : visR ⟨D ++ A, T⟩ (fromV d) = true := by
  unfold fromV
  simp only [visR, visRs, visN_at hD hA 1 (by omega), visN_at hD hA 2 (by omega), visN_at hD hA 3 (by omega), Bool.and_true]
theorem visO (d : Nat) (n : Int) (w : List Nat) (cs : List (List Nat)) (D : List (List AV)) (T : List Nat) (hD : D.length = d) : ∀ x ∈ layG goalO d n w cs, visB x = true ∧ ∀ v ∈ x, visR ⟨D ++ layG goalO d n w cs, T⟩ v = true := by
  have hodd := clL_odd cs
  have hA : ∀ x ∈ layG goalO d n w cs, visB x = true := by
    intro x hx
    unfold layG goalO at hx
    simp only [List.mem_cons] at hx
    rcases hx with rfl | rfl | rfl | rfl | hx
    · unfold obX; split <;> rfl
    · exact visB_web n w
    · rfl
    · rfl
    · obtain ⟨c, hc, rfl⟩ := List.mem_map.1 hx
      refine visB_J fun e => ?_
      have := hodd c hc
      rw [e] at this; simp at this
  have hlen : (layG goalO d n w cs).length = 4 + (clL cs).length := by simp [layG, goalO]; omega
  intro x hx
  refine ⟨hA x hx, ?_⟩
  have hx' := hx
  unfold layG at hx'
  simp only [List.mem_cons] at hx'
  intro v hv
  rcases hx' with rfl | rfl | rfl | rfl | hx'
  · have hv' : v = obX d (clL cs) := by simpa [goalO] using hv
    subst hv'
    unfold obX
    cases hl : (clL cs).getLast? with
    | none => exact visR_v _ _
    | some b =>
      have hpos : 0 < (clL cs).length := by
        cases h : clL cs with
        | nil => rw [h] at hl; simp at hl
        | cons a r => simp
      simp only [visR]
      exact visN_at hD hA _ (by omega) T
  · exact visR_web _ _ _ v hv
  · simp at hv; subst hv
    simp only [visR]
    exact visN_at hD hA 0 (by omega) T
  · simp at hv; subst hv
    exact from_vis hD hA (by omega) T
  · have hx2 : x ∈ (clL cs).map fun c => c.map J := hx'
    obtain ⟨c, _, rfl⟩ := List.mem_map.1 hx2
    exact visR_J _ _ v hv
theorem shVs_J (n : Nat) : ∀ c : List Nat, shVs n (c.map J) = c.map J
  | [] => rfl
  | x :: r => by simp only [List.map_cons, shVs, shV, shVs_J n r]


theorem obX_snoc (d : Nat) (X : List (List Nat)) (c : List Nat) : obX d (X ++ [c]) = .rsl (d + (4 + X.length)) 0 c.length c.length 1 false := by
  unfold obX
  rw [List.getLast?_concat]
  simp only [List.length_append, List.length_singleton]
  rw [show 3 + (X.length + 1) = 4 + X.length by omega]
theorem layO (d : Nat) (n : Int) (w : List Nat) (cs : List (List Nat)) : layG goalO d n w cs = [obX d (clL cs)] :: webC n w :: [.ifc 101 (.ptr d 0)] :: [fromV d] :: (clL cs).map fun c => c.map J := rfl

set_option maxHeartbeats 2000000 in
theorem c145 (d : Nat) (n : Int) (w : List Nat) (cs : List (List Nat)) (c : List Nat) (g : Tag) (T : List Nat) (D : List (List AV)) (hD : D.length = d) (h2 : 2 ≤ c.length) (h7 : c.length ≤ 7) :
    run L 145 [.ptr d 0, .lst g 1 (c.map J)] ⟨D ++ layG goalO d n w cs, T⟩ = some (.tup [], ⟨D ++ layG goalO d n w (cs ++ [c]), T⟩) := by
  rw [run_shared (fn := ir145) rfl rfl, layO, layO, clL_snoc]
  have hodd := clL_odd cs
  have hcne : c ≠ [] := by intro e; subst e; simp at h2
  generalize clL cs = X at *
  have ht2 : (c.length : Int).tmod 2 = ((c.length % 2 : Nat) : Int) := tmod_nat c.length 2
  have g0 := get_app hD ([obX d X] :: webC n w :: [.ifc 101 (.ptr d 0)] :: [fromV d] :: X.map fun c => c.map J) 0
  rw [Nat.add_zero, List.getElem?_cons_zero] at g0
  have h58 := c58 .any c hcne (by omega)
  have hlen : (D ++ ([obX d X] :: webC n w :: [.ifc 101 (.ptr d 0)] :: [fromV d] :: X.map fun c => c.map J)).length = d + (4 + X.length) := by rw [List.length_append, hD]; simp; omega
  have gX : (D ++ ([obX d X] :: webC n w :: [.ifc 101 (.ptr d 0)] :: [fromV d] :: X.map fun c => c.map J) ++ [c.map J])[d]? = some [obX d X] := by
    rw [List.getElem?_append_left (by rw [hlen]; omega)]; exact g0
  have sX : (D ++ ([obX d X] :: webC n w :: [.ifc 101 (.ptr d 0)] :: [fromV d] :: X.map fun c => c.map J) ++ [c.map J]).set d [.rsl (d + (4 + X.length)) 0 c.length c.length 1 false] = D ++ ([obX d (X ++ [c])] :: webC n w :: [.ifc 101 (.ptr d 0)] :: [fromV d] :: (X ++ [c]).map fun c => c.map J) := by
    rw [List.append_assoc]
    have := set_app hD (([obX d X] :: webC n w :: [.ifc 101 (.ptr d 0)] :: [fromV d] :: X.map fun c => c.map J) ++ [c.map J]) 0 [.rsl (d + (4 + X.length)) 0 c.length c.length 1 false]
    rw [Nat.add_zero] at this
    rw [this, obX_snoc]
    simp
  have hbt : better X.getLast? c = (decide (c.length % 2 = 1) && match X.getLast? with | none => true | some b => decide (c.length < b.length) || (decide (c.length = b.length) && lexLt (up c) (up b))) := rfl
  by_cases p : c.length % 2 = 1
  · have q : (((c.length % 2 : Nat) : Int) = 1) = True := eq_true (by omega)
    cases hl : X.getLast? with
    | none =>
      have e : clS X c = X ++ [c] := by unfold clS; rw [if_pos (by rw [hbt, hl]; simp [p])]
      have eo : obX d X = .v (.slice none 0 0) := by unfold obX; rw [hl]
      rw [e]
      rw [eo] at g0 gX hlen sX ⊢
      simp only [ir145, go_sem, reduceIte, Nat.reduceEqDiff, Nat.reduceAdd, Nat.reduceSub, Nat.reduceLeDiff, Nat.reduceLT, reduceCtorEq, Int.reduceLT, Int.reduceLE, Int.reduceEq, Int.reduceBEq, Int.reduceSub, Int.reduceAdd, Int.reduceMul, Int.reduceNeg, Int.reduceToNat, Nat.reduceMul, Nat.reduceBEq, ht2, q, g0, h58, shV, shVs_J, shStore, hlen, gX, sX, show pure 58 = false from rfl, List.length_map]
    | some b =>
      have hpos : 0 < X.length := by
        cases h : X with
        | nil => rw [h] at hl; simp at hl
        | cons a r => simp
      have eo : obX d X = .rsl (d + (3 + X.length)) 0 b.length b.length 1 false := by unfold obX; rw [hl]
      have hgl : X[X.length - 1]? = some b := by rw [← List.getLast?_eq_getElem?]; exact hl
      have gb : (D ++ ([obX d X] :: webC n w :: [.ifc 101 (.ptr d 0)] :: [fromV d] :: X.map fun c => c.map J))[d + (3 + X.length)]? = some (b.map J) := by
        rw [get_app hD, show 3 + X.length = X.length - 1 + 4 by omega]
        simp only [List.getElem?_cons_succ, List.getElem?_map, hgl, Option.map_some]
      have hcmp := fun st (hst : st.store = D ++ ([obX d X] :: webC n w :: [.ifc 101 (.ptr d 0)] :: [fromV d] :: X.map fun c => c.map J)) => c48v (.lst g 1 (c.map J)) (.rsl (d + (3 + X.length)) 0 b.length b.length 1 false) (up c) (up b) (by rw [up_len]; omega) st (isL_lstJ st g c) (isL_rsl (by rw [hst]; exact gb) b.length)
      have hcmp1 := hcmp ⟨D ++ ([obX d X] :: webC n w :: [.ifc 101 (.ptr d 0)] :: [fromV d] :: X.map fun c => c.map J), T⟩ rfl
      have hlx := cmpN_lt (up c) (up b)
      rw [eo] at g0 gX hlen sX hcmp1
      by_cases p1 : c.length < b.length
      · have e : clS X c = X ++ [c] := by unfold clS; rw [if_pos (by rw [hbt, hl]; simp [p, p1])]
        have q1 : ((c.length : Int) < (b.length : Int)) = True := eq_true (by omega)
        rw [e, eo]
        simp only [ir145, go_sem, reduceIte, Nat.reduceEqDiff, Nat.reduceAdd, Nat.reduceSub, Nat.reduceLeDiff, Nat.reduceLT, reduceCtorEq, Int.reduceLT, Int.reduceLE, Int.reduceEq, Int.reduceBEq, Int.reduceSub, Int.reduceAdd, Int.reduceMul, Int.reduceNeg, Int.reduceToNat, Nat.reduceMul, Nat.reduceBEq, ht2, q, q1, g0, h58, shV, shVs_J, shStore, hlen, gX, sX, show pure 58 = false from rfl, List.length_map]
      · have q1 : ((c.length : Int) < (b.length : Int)) = False := eq_false (by omega)
        by_cases p2 : c.length = b.length
        · have q2 : ((c.length : Int) = (b.length : Int)) = True := eq_true (by omega)
          by_cases p3 : cmpN (up c) (up b) < 0
          · have hx3 : lexLt (up c) (up b) = true := by rw [← hlx]; exact decide_eq_true p3
            have e : clS X c = X ++ [c] := by unfold clS; rw [if_pos (by rw [hbt, hl]; simp [p2, hx3, show b.length % 2 = 1 by omega])]
            rw [e, eo]
            simp only [ir145, go_sem, reduceIte, Nat.reduceEqDiff, Nat.reduceAdd, Nat.reduceSub, Nat.reduceLeDiff, Nat.reduceLT, reduceCtorEq, Int.reduceLT, Int.reduceLE, Int.reduceEq, Int.reduceBEq, Int.reduceSub, Int.reduceAdd, Int.reduceMul, Int.reduceNeg, Int.reduceToNat, Nat.reduceMul, Nat.reduceBEq, ht2, q, q1, q2, p3, g0, hcmp1, h58, shV, shVs_J, shStore, hlen, gX, sX, show pure 58 = false from rfl, show pure 48 = false from rfl, List.length_map]
          · have hx3 : lexLt (up c) (up b) = false := by rw [← hlx]; exact decide_eq_false p3
            have e : clS X c = X := by unfold clS; rw [if_neg (by rw [hbt, hl]; simp [p2, hx3, show b.length % 2 = 1 by omega])]
            rw [e, eo]
            simp only [ir145, go_sem, reduceIte, Nat.reduceEqDiff, Nat.reduceAdd, Nat.reduceSub, Nat.reduceLeDiff, Nat.reduceLT, reduceCtorEq, Int.reduceLT, Int.reduceLE, Int.reduceEq, Int.reduceBEq, Int.reduceSub, Int.reduceAdd, Int.reduceMul, Int.reduceNeg, Int.reduceToNat, Nat.reduceMul, Nat.reduceBEq, ht2, q, q1, q2, p3, g0, hcmp1, show pure 48 = false from rfl, List.length_map]
        · have q2 : ((c.length : Int) = (b.length : Int)) = False := eq_false (by omega)
          have e : clS X c = X := by unfold clS; rw [if_neg (by rw [hbt, hl]; simp [p, p1, p2])]
          rw [e, eo]
          simp only [ir145, go_sem, reduceIte, Nat.reduceEqDiff, Nat.reduceAdd, Nat.reduceSub, Nat.reduceLeDiff, Nat.reduceLT, reduceCtorEq, Int.reduceLT, Int.reduceLE, Int.reduceEq, Int.reduceBEq, Int.reduceSub, Int.reduceAdd, Int.reduceMul, Int.reduceNeg, Int.reduceToNat, Nat.reduceMul, Nat.reduceBEq, ht2, q, q1, q2, g0, List.length_map]
  · have q : (((c.length % 2 : Nat) : Int) = 1) = False := eq_false (by omega)
    have e : clS X c = X := by unfold clS; rw [if_neg (by rw [hbt]; simp [p])]
    rw [e]
    simp only [ir145, go_sem, reduceIte, Nat.reduceEqDiff, Nat.reduceAdd, Nat.reduceSub, Nat.reduceLeDiff, Nat.reduceLT, reduceCtorEq, Int.reduceLT, Int.reduceLE, Int.reduceEq, Int.reduceBEq, Int.reduceSub, Int.reduceAdd, Int.reduceMul, Int.reduceNeg, Int.reduceToNat, Nat.reduceMul, Nat.reduceBEq, ht2, q, List.length_map]
theorem goalO_ok (d : Nat) (n : Int) (w : List Nat) : GoalOk goalO d n w where
  inv := rfl
  np := rfl
  vis := fun cs D T hD => visO d n w cs D T hD
  take := fun cs c g T D hD h1 h2 _ => c145 d n w cs c g T D hD h1 h2
  mono := fun cs cs' => by
    have := clL_mono cs cs'
    simp [layG, goalO]; omega


/-! ### the second goal: how many circles, and how many on each reference -/
def wr : Nat → Int
  | 0 => 0
  | k + 1 => IntKind.i64.wrap (wr k + 1)
theorem wr_eq : ∀ k : Nat, k < 2 ^ 62 → wr k = k
  | 0, _ => rfl
  | k + 1, h => by
    show IntKind.i64.wrap (wr k + 1) = _
    rw [wr_eq k (by omega), wrap64] <;> omega
def tallyC (tot : Nat) (O : List Nat) : List AV := I (wr tot) :: O.map fun k => I (wr k)
theorem tally_get (tot : Nat) (O : List Nat) (p : Nat) (h : p < O.length) : (tallyC tot O)[1 + p]? = some (I (wr (O.getD p 0))) := by
  unfold tallyC
  rw [Nat.add_comm, List.getElem?_cons_succ, List.getElem?_map, List.getElem?_eq_getElem h, List.getD_eq_getElem?_getD, List.getElem?_eq_getElem h]
  rfl
theorem tally_set (tot : Nat) (O : List Nat) (p k : Nat) : (tallyC tot O).set (1 + p) (I (wr k)) = tallyC tot (O.set p k) := by
  unfold tallyC
  rw [Nat.add_comm, List.set_cons_succ, List.map_set]
theorem tally_len (tot : Nat) (O : List Nat) : (tallyC tot O).length = 1 + O.length := by simp [tallyC]; omega
def atP (c : List Nat) (i : Nat) : Nat := c.getD i 0 * 7 + c.getD ((i + 1) % c.length) 0
def ovS (c : List Nat) (O : List Nat) (i : Nat) : List Nat := O.set (atP c i) (O.getD (atP c i) 0 + 1)
def ovC (O : List Nat) (c : List Nat) : List Nat := (List.range' 0 c.length).foldl (ovS c) O
def ovL (cs : List (List Nat)) : List Nat := cs.foldl ovC (List.replicate 49 0)
theorem ovS_len (c : List Nat) : ∀ (l : List Nat) (O : List Nat), (l.foldl (ovS c) O).length = O.length
  | [], _ => rfl
  | i :: r, O => by rw [List.foldl_cons, ovS_len c r]; simp [ovS]
theorem ovC_len : ∀ (cs : List (List Nat)) (O : List Nat), (cs.foldl ovC O).length = O.length
  | [], _ => rfl
  | c :: r, O => by rw [List.foldl_cons, ovC_len r]; exact ovS_len c _ _
theorem ovL_len (cs : List (List Nat)) : (ovL cs).length = 49 := by unfold ovL; rw [ovC_len]; simp
theorem ovL_snoc (cs : List (List Nat)) (c : List Nat) : ovL (cs ++ [c]) = ovC (ovL cs) c := by simp [ovL]
def goalT : Goal := ⟨111, 146, fun _ cs => tallyC cs.length (ovL cs), fun _ _ => []⟩
def layT (d : Nat) (n : Int) (w : List Nat) (tot : Nat) (O : List Nat) : List (List AV) := tallyC tot O :: webC n w :: [.ifc 111 (.ptr d 0)] :: [fromV d] :: []
theorem layT_eq (d : Nat) (n : Int) (w : List Nat) (cs : List (List Nat)) : layG goalT d n w cs = layT d n w cs.length (ovL cs) := rfl

theorem loop146_0 (d : Nat) (n : Int) (w : List Nat) (tot : Nat) (c : List Nat) (g : Tag) (T : List Nat) (D : List (List AV)) (hD : D.length = d) (h7 : c.length ≤ 7) (hc : ∀ x ∈ c, x < 7) (lo hi : Nat) (i : Nat) (O : List Nat) (hok : i ≤ c.length ∧ O.length = 49) (env : Env) (st : St)
    (hg : gcAV false lo hi (canon env [0, 1, 13, 14, 15]) st = ([(0, .ptr d 0), (1, .lst g 1 (c.map J)), (13, .lst g 1 (c.map J)), (14, I c.length), (15, I i)], ⟨D ++ layT d n w tot O, T⟩)) :
    ∃ x_1 en s, lim (headed pure (run L) false [0, 1, 13, 14, 15] lp146_0 lo hi) env st = some (x_1, en, s) ∧ (x_1 = .exit 0 ∧ s = ⟨D ++ layT d n w tot ((List.range' i (c.length - i)).foldl (ovS c) O), T⟩) := by
  refine loop_wp (α := Nat × List Nat) (fun ⟨i, O⟩ => c.length - i) (fun ⟨i, O⟩ => i ≤ c.length ∧ O.length = 49) (fun ⟨i, O⟩ => ([(0, .ptr d 0), (1, .lst g 1 (c.map J)), (13, .lst g 1 (c.map J)), (14, I c.length), (15, I i)], ⟨D ++ layT d n w tot O, T⟩)) (fun ⟨i, O⟩ x_1 en s => x_1 = .exit 0 ∧ s = ⟨D ++ layT d n w tot ((List.range' i (c.length - i)).foldl (ovS c) O), T⟩) (fun ⟨i, O⟩ hok => ?_) ⟨i, O⟩ hok env st hg
  simp only at hok
  obtain ⟨h1, h2⟩ := hok
  dsimp only at h1 h2 ⊢
  by_cases h : i < c.length
  · have hs := succ64 i (by omega)
    have hlt : ((i : Int) < (c.length : Int)) = True := eq_true (by omega)
    have hr : List.range' i (c.length - i) = i :: List.range' (i + 1) (c.length - (i + 1)) := by
      rw [show c.length - i = (c.length - (i + 1)) + 1 by omega, List.range'_succ]
    have hmod : (i + 1) % c.length < c.length := Nat.mod_lt _ (by omega)
    have hx1 := index_lstJ g c i h
    have hx2 := index_lstJ g c ((i + 1) % c.length) hmod
    have hx7 := getD_lt hc i h
    have hy7 := getD_lt hc _ hmod
    have htm : (((i + 1 : Nat) : Int)).tmod (c.length : Int) = (((i + 1) % c.length : Nat) : Int) := tmod_nat _ _
    have hz : ((c.length : Int) = 0) = False := eq_false (by omega)
    have hos : ovS c O i = O.set (atP c i) (O.getD (atP c i) 0 + 1) := rfl
    have hat : atP c i = c.getD i 0 * 7 + c.getD ((i + 1) % c.length) 0 := rfl
    have hl2 : (ovS c O i).length = 49 := by rw [hos]; simp [h2]
    generalize c.getD ((i + 1) % c.length) 0 = y at *
    generalize c.getD i 0 = x at *
    have g0 := get_app hD (layT d n w tot O) 0
    rw [Nat.add_zero, show (layT d n w tot O)[0]? = some (tallyC tot O) from rfl] at g0
    have gt := tally_get tot O (atP c i) (by omega)
    have st := tally_set tot O (atP c i) (O.getD (atP c i) 0 + 1)
    rw [← hos] at st
    have hwr : IntKind.i64.wrap (wr (O.getD (atP c i) 0) + 1) = wr (O.getD (atP c i) 0 + 1) := rfl
    have s0 := set_app hD (layT d n w tot O) 0 (tallyC tot (ovS c O i))
    rw [Nat.add_zero, show (layT d n w tot O).set 0 (tallyC tot (ovS c O i)) = layT d n w tot (ovS c O i) from rfl] at s0
    have htl := tally_len tot O
    rw [h2] at htl
    have a1 : 1 + x * 7 + y = 1 + atP c i := by rw [hat]; omega
    have b1 : ((0 : Int) ≤ (x : Int)) = True := eq_true (by omega)
    have b2 : ((x : Int) < 7) = True := eq_true (by omega)
    have b3 : ((0 : Int) ≤ (y : Int)) = True := eq_true (by omega)
    have b4 : ((y : Int) < 7) = True := eq_true (by omega)
    have b5 : (1 + atP c i + 1 ≤ 50) = True := eq_true (by rw [hat]; omega)
    rw [hr, List.foldl_cons]
    generalize ovS c O i = O2 at *
    generalize atP c i = p at *
    generalize O.getD p 0 = q at *
    simp only [go_sem, reduceIte, Nat.reduceEqDiff, Nat.reduceAdd, Nat.reduceSub, Nat.reduceLeDiff, Nat.reduceLT, reduceCtorEq, Int.reduceLT, Int.reduceLE, Int.reduceEq, Int.reduceBEq, Int.reduceSub, Int.reduceAdd, Int.reduceMul, Int.reduceNeg, Int.reduceToNat, Nat.reduceMul, Nat.reduceBEq, index_rsl_if, setm, make_ints, condK_dec, wantK_dec, not_dec, and_dec, or_dec, seqK_ite, seqK_none, blockK_ite, blockK_none, opsK_ite, opsK_none, stepK_ite, stepK_none, bodyK_ite, bodyK_none, resK_ite, resK_none, leaveK_ite, leaveK_none, only_ite, only_none, bind_ite, gives_some, gives_none, gives_ite, then_normal, then_ret, then_exit, then_none, then_ite, Option.bind_none, Bool.not_eq_true', decide_eq_false_iff_not, Bool.and_eq_true, Bool.or_eq_true, Option.some.injEq, Int.not_lt, Int.not_le, lp146_0, hlt, hs, hx1, hx2, htm, hz, g0, gt, st, s0, hwr, htl, a1, b1, b2, b3, b4, b5, List.length_map]
    refine ⟨(i + 1, O2), by simp only [go_sem, reduceIte, Nat.reduceEqDiff, Nat.reduceAdd, Nat.reduceSub, Nat.reduceLeDiff, Nat.reduceLT, reduceCtorEq, Int.reduceLT, Int.reduceLE, Int.reduceEq, Int.reduceBEq, Int.reduceSub, Int.reduceAdd, Int.reduceMul, Int.reduceNeg, Int.reduceToNat, Nat.reduceMul, Nat.reduceBEq, ren1_locm, loc_tips, locT_eq] <;> rfl, ?_, ?_, fun x en s hq => ?_⟩
    · dsimp only; exact ⟨by omega, hl2⟩
    · dsimp only; omega
    · exact hq
  · have hr : c.length - i = 0 := by omega
    have hlt : ((i : Int) < (c.length : Int)) = False := eq_false (by omega)
    rw [hr]
    simp only [go_sem, reduceIte, Nat.reduceEqDiff, Nat.reduceAdd, Nat.reduceSub, Nat.reduceLeDiff, Nat.reduceLT, reduceCtorEq, Int.reduceLT, Int.reduceLE, Int.reduceEq, Int.reduceBEq, Int.reduceSub, Int.reduceAdd, Int.reduceMul, Int.reduceNeg, Int.reduceToNat, Nat.reduceMul, Nat.reduceBEq, index_rsl_if, setm, make_ints, condK_dec, wantK_dec, not_dec, and_dec, or_dec, seqK_ite, seqK_none, blockK_ite, blockK_none, opsK_ite, opsK_none, stepK_ite, stepK_none, bodyK_ite, bodyK_none, resK_ite, resK_none, leaveK_ite, leaveK_none, only_ite, only_none, bind_ite, gives_some, gives_none, gives_ite, then_normal, then_ret, then_exit, then_none, then_ite, Option.bind_none, Bool.not_eq_true', decide_eq_false_iff_not, Bool.and_eq_true, Bool.or_eq_true, Option.some.injEq, Int.not_lt, Int.not_le, lp146_0, hlt]
    rfl

theorem c146 (d : Nat) (n : Int) (w : List Nat) (cs : List (List Nat)) (c : List Nat) (g : Tag) (T : List Nat) (D : List (List AV)) (hD : D.length = d) (h7 : c.length ≤ 7) (hc : ∀ x ∈ c, x < 7) :
    run L 146 [.ptr d 0, .lst g 1 (c.map J)] ⟨D ++ layG goalT d n w cs, T⟩ = some (.tup [], ⟨D ++ layG goalT d n w (cs ++ [c]), T⟩) := by
  rw [run_shared (fn := ir146) rfl rfl, layT_eq, layT_eq, ovL_snoc, List.length_append, List.length_singleton]
  have hol := ovL_len cs
  generalize ovL cs = O at *
  generalize cs.length = k at *
  have g0 := get_app hD (layT d n w k O) 0
  rw [Nat.add_zero, show (layT d n w k O)[0]? = some (I (wr k) :: O.map fun k => I (wr k)) from rfl] at g0
  have s0 := set_app hD (layT d n w k O) 0 (I (wr (k + 1)) :: O.map fun k => I (wr k))
  rw [Nat.add_zero, show (layT d n w k O).set 0 (I (wr (k + 1)) :: O.map fun k => I (wr k)) = layT d n w (k + 1) O from rfl] at s0
  have hwr : IntKind.i64.wrap (wr k + 1) = wr (k + 1) := rfl
  have b1 : (1 ≤ O.length + 1) = True := eq_true (by omega)
  simp only [ir146, go_sem, reduceIte, Nat.reduceEqDiff, Nat.reduceAdd, Nat.reduceSub, Nat.reduceLeDiff, Nat.reduceLT, reduceCtorEq, Int.reduceLT, Int.reduceLE, Int.reduceEq, Int.reduceBEq, Int.reduceSub, Int.reduceAdd, Int.reduceMul, Int.reduceNeg, Int.reduceToNat, Nat.reduceMul, Nat.reduceBEq, g0, s0, hwr, b1, List.length_map]
  generalize hg : lim (headed pure (run L) false _ lp146_0 _ _) _ _ = o
  obtain ⟨x, en, s, rfl, h2⟩ : ∃ x en s, o = some (x, en, s) ∧ _ := by rw [← hg]; exact loop146_0 d n w (k + 1) c g T D hD h7 hc _ _ 0 O ⟨by omega, hol⟩ _ _ (by simp only [go_sem, reduceIte, Nat.reduceEqDiff, Nat.reduceAdd, Nat.reduceSub, Nat.reduceLeDiff, Nat.reduceLT, reduceCtorEq, Int.reduceLT, Int.reduceLE, Int.reduceEq, Int.reduceBEq, Int.reduceSub, Int.reduceAdd, Int.reduceMul, Int.reduceNeg, Int.reduceToNat, Nat.reduceMul, Nat.reduceBEq] <;> rfl)
  clear hg
  rw [Nat.sub_zero] at h2
  obtain ⟨rfl, rfl⟩ := h2
  simp only [go_sem, reduceIte, Nat.reduceEqDiff, Nat.reduceAdd, Nat.reduceSub, Nat.reduceLeDiff, Nat.reduceLT, reduceCtorEq, Int.reduceLT, Int.reduceLE, Int.reduceEq, Int.reduceBEq, Int.reduceSub, Int.reduceAdd, Int.reduceMul, Int.reduceNeg, Int.reduceToNat, Nat.reduceMul, Nat.reduceBEq]
  rfl

attribute [local go_sem] shaped_t cells_t isAgg_t storable_t okRef_t pub_t

theorem noLs_v : ∀ xs : List AV, (∀ v ∈ xs, ∃ y, v = .v y) → noLs xs = true
  | [], _ => rfl
  | x :: r, h => by
    obtain ⟨y, rfl⟩ := h x (by simp)
    simp only [noLs, noL, noLs_v r (fun v hv => h v (by simp [hv])), Bool.and_true]
theorem tally_v (tot : Nat) (O : List Nat) : ∀ v ∈ tallyC tot O, ∃ y, v = .v y := by
  intro v hv
  unfold tallyC at hv
  rcases List.mem_cons.1 hv with rfl | hv
  · exact ⟨_, rfl⟩
  · obtain ⟨k, _, rfl⟩ := List.mem_map.1 hv
    exact ⟨_, rfl⟩
theorem web_v (n : Int) (w : List Nat) : ∀ v ∈ webC n w, ∃ y, v = .v y := by
  intro v hv
  unfold webC at hv
  rcases List.mem_cons.1 hv with rfl | hv
  · exact ⟨_, rfl⟩
  · obtain ⟨k, _, rfl⟩ := List.mem_map.1 hv
    exact ⟨_, rfl⟩
theorem visB_v {xs : List AV} (hne : xs ≠ []) (h : ∀ v ∈ xs, ∃ y, v = .v y) : visB xs = true := by
  unfold visB
  rw [noLs_v xs h]
  cases xs with
  | nil => exact absurd rfl hne
  | cons x r => rfl
theorem visR_vs {xs : List AV} (h : ∀ v ∈ xs, ∃ y, v = .v y) (st : St) : ∀ v ∈ xs, visR st v = true := fun v hv => by
  obtain ⟨y, rfl⟩ := h v hv; exact visR_v _ _
theorem visT (d : Nat) (n : Int) (w : List Nat) (cs : List (List Nat)) (D : List (List AV)) (T : List Nat) (hD : D.length = d) : ∀ x ∈ layG goalT d n w cs, visB x = true ∧ ∀ v ∈ x, visR ⟨D ++ layG goalT d n w cs, T⟩ v = true := by
  have hA : ∀ x ∈ layG goalT d n w cs, visB x = true := by
    intro x hx
    unfold layG goalT at hx
    simp only [List.mem_cons, List.not_mem_nil, or_false] at hx
    rcases hx with rfl | rfl | rfl | rfl
    · exact visB_v (by unfold tallyC; simp) (tally_v _ _)
    · exact visB_web n w
    · rfl
    · rfl
  have hlen : (layG goalT d n w cs).length = 4 := rfl
  intro x hx
  refine ⟨hA x hx, ?_⟩
  have hx' := hx
  unfold layG at hx'
  simp only [List.mem_cons] at hx'
  intro v hv
  rcases hx' with rfl | rfl | rfl | rfl | hx'
  · exact visR_vs (tally_v _ _) _ v hv
  · exact visR_web _ _ _ v hv
  · simp at hv; subst hv
    simp only [visR]
    exact visN_at hD hA 0 (by omega) T
  · simp at hv; subst hv
    exact from_vis hD hA (by omega) T
  · exact absurd hx' (by simp [goalT])
theorem goalT_ok (d : Nat) (n : Int) (w : List Nat) : GoalOk goalT d n w where
  inv := rfl
  np := rfl
  vis := fun cs D T hD => visT d n w cs D T hD
  take := fun cs c g T D hD _ h2 h3 => c146 d n w cs c g T D hD h2 h3
  mono := fun cs cs' => Nat.le_refl _

/-! ### books ahead of the goal -/
theorem bk_vis (nl : Bool) (n : Int) (ps : List (Int × Int)) : visB (bkCells nl n ps) = true → ∀ v ∈ bkCells nl n ps, ∃ y, v = .v y := by
  intro h v hv
  unfold bkCells at h hv
  rcases List.mem_cons.1 hv with rfl | hv
  · exact ⟨_, rfl⟩
  · simp at hv; subst hv
    unfold sl at h ⊢
    split
    · exact ⟨_, rfl⟩
    · next hn => rw [if_neg hn] at h; simp [visB, noLs, noL] at h
theorem dk_cons {x : List AV} {D : List (List AV)} (h : visB x = true → ∀ v ∈ x, ∃ y, v = .v y) (hD : Dk D) : Dk (x :: D) := by
  intro y hy
  rcases List.mem_cons.1 hy with rfl | hy
  · exact h
  · exact hD y hy
theorem dk_nil : Dk [] := fun x hx => by simp at hx

/-! ### the first odd circle -/
def oddB (n : Nat) (w : List Nat) : Option (List Nat) := (clL (circL n w)).getLast?
theorem frz_odd {a0 a1 : List AV} {R : List (List AV)} {l : Nat} {b : List Nat} (hb : b ≠ []) (hl : 3 ≤ l) (hR : (a0 :: a1 :: [.rsl l 0 b.length b.length 1 false] :: R)[l]? = some (b.map J)) (T : List Nat) :
    ∃ S', S'[2]? = some [.lst .any 1 (b.map J)] ∧ ∀ env, frzL l env ⟨a0 :: a1 :: [.rsl l 0 b.length b.length 1 false] :: R, T⟩ = (frzEnv l (b.map J) env, ⟨S', T⟩) := by
  refine ⟨(frzStore l (b.map J) (a0 :: a1 :: [.rsl l 0 b.length b.length 1 false] :: R)).set l [], ?_, fun env => ?_⟩
  · rw [List.getElem?_set_ne (by omega)]
    simp only [frzStore, List.getElem?_cons_succ, List.getElem?_cons_zero, frzVs, frzV]
    rw [if_pos ⟨trivial, by simp, .inr trivial, Nat.le_refl _⟩, List.drop_zero, pubsJ, groupm_one J (fun _ => rfl)]
  · unfold frzL
    simp only
    rw [hR]
    cases b with
    | nil => exact absurd rfl hb
    | cons x r => rfl
theorem frzV_ifc (l : Nat) (cs : List AV) (t : TypeId) (x : AV) : frzV l cs (.ifc t x) = .ifc t x := by simp only [frzV]
theorem c75o (X : List (List Nat)) (S : List (List AV)) (T : List Nat) (h : S[2]? = some [obX 2 X]) : run L 75 [.ifc 101 (.ptr 2 0)] ⟨S, T⟩ = some (I (if X = [] then 0 else 1), ⟨S, T⟩) := by
  rw [run_shared (fn := ir75) rfl rfl]
  cases X with
  | nil =>
    have e : obX 2 [] = .v (.slice none 0 0) := rfl
    rw [e] at h
    simp only [ir75, go_sem, reduceIte, Nat.reduceEqDiff, Nat.reduceAdd, Nat.reduceSub, Nat.reduceLeDiff, Nat.reduceLT, reduceCtorEq, Int.reduceLT, Int.reduceLE, Int.reduceEq, Int.reduceBEq, Int.reduceSub, Int.reduceAdd, Int.reduceMul, Int.reduceNeg, Int.reduceToNat, Nat.reduceMul, Nat.reduceBEq, h]
  | cons a r =>
    have e : ∃ l m, obX 2 (a :: r) = .rsl l 0 m m 1 false := by
      unfold obX
      cases hl : (a :: r).getLast? with
      | none => simp at hl
      | some b => exact ⟨_, _, rfl⟩
    obtain ⟨l, m, e⟩ := e
    rw [e] at h
    rw [if_neg (by simp)]
    simp only [ir75, go_sem, reduceIte, Nat.reduceEqDiff, Nat.reduceAdd, Nat.reduceSub, Nat.reduceLeDiff, Nat.reduceLT, reduceCtorEq, Int.reduceLT, Int.reduceLE, Int.reduceEq, Int.reduceBEq, Int.reduceSub, Int.reduceAdd, Int.reduceMul, Int.reduceNeg, Int.reduceToNat, Nat.reduceMul, Nat.reduceBEq, h]

attribute [local go_sem] shaped_t cells_t isAgg_t storable_t okRef_t pub_t

/-- What Ring answers. -/
def ringV (n : Int) (ps : List (Int × Int)) : List Int := if chk n ps = 0 then (match oddB n.toNat (seeL 7 ps) with | some b => up b | none => []) else []
def ringE (n : Int) (ps : List (Int × Int)) : Int := if chk n ps = 0 then (match oddB n.toNat (seeL 7 ps) with | some _ => 0 | none => 13) else chk n ps

set_option maxHeartbeats 1000000 in
theorem c28 (nl : Bool) (n : Int) (ps : List (Int × Int)) (st : St) : run L 28 [bkAV nl n ps] st = some (.tup [tAV (ringV n ps), I (ringE n ps)], st) := by
  rw [run_pure (fn := ir28) rfl rfl]
  have h65 := fun st => c65 nl n ps st
  unfold ringV ringE
  by_cases h : chk n ps = 0
  · obtain ⟨h1, hl16, h3, h4, h5⟩ := chk_zero h
    obtain ⟨k, rfl⟩ := Int.eq_ofNat_of_zero_le (show 0 ≤ n by omega)
    have hw : wovL (k : Int) ps = seeL 7 ps := by unfold wovL; rw [if_pos h]
    rw [hw] at h65
    rw [if_pos h, if_pos h, Int.toNat_natCast]
    have hlw := lenW (k : Int) (seeL 7 ps)
    rw [seeL_len] at hlw
    have hpw := putW (k : Int) (seeL 7 ps) (seeL_len 7 ps)
    have htkw : (webC (k : Int) (seeL 7 ps)).take 8 = webC (k : Int) (seeL 7 ps) := List.take_of_length_le (by omega)
    have h74 := c74 goalO 2 k (by omega) (seeL 7 ps) (seeL_len 7 ps) (seeL_small 7 h4) (goalO_ok 2 k _) rfl [] [bkCells nl (k : Int) ps, webC (k : Int) (seeL 7 ps)] rfl (dk_cons (bk_vis nl _ ps) (dk_cons (fun _ => web_v _ _) dk_nil))
    have e0 : goalO.ob 2 [] = [.v (.slice none 0 0)] := rfl
    have e1 : goalO.tt = 101 := rfl
    have hodd := clL_odd (circL k (seeL 7 ps))
    rw [e0, e1, layO] at h74
    have h75 := c75o (clL (circL k (seeL 7 ps))) ([bkCells nl (k : Int) ps, webC (k : Int) (seeL 7 ps)] ++ ([obX 2 (clL (circL k (seeL 7 ps)))] :: webC (k : Int) (seeL 7 ps) :: [.ifc 101 (.ptr 2 0)] :: [fromV 2] :: (clL (circL k (seeL 7 ps))).map fun c => c.map J)) [] rfl
    have hO : oddB k (seeL 7 ps) = (clL (circL k (seeL 7 ps))).getLast? := rfl
    rw [hO]
    generalize clL (circL k (seeL 7 ps)) = X at *
    simp only [List.cons_append, List.nil_append] at h74 h75
    cases hl : X.getLast? with
    | none =>
      have hX : X = [] := by simpa using hl
      subst hX
      have eo : obX 2 [] = .v (.slice none 0 0) := rfl
      simp only [eo, List.map_nil, if_true] at h74 h75
      simp only [ir28, go_sem, reduceIte, Nat.reduceEqDiff, Nat.reduceAdd, Nat.reduceSub, Nat.reduceLeDiff, Nat.reduceLT, reduceCtorEq, Int.reduceLT, Int.reduceLE, Int.reduceEq, Int.reduceBEq, Int.reduceSub, Int.reduceAdd, Int.reduceMul, Int.reduceNeg, Int.reduceToNat, Nat.reduceMul, Nat.reduceBEq, h65, h, hlw, hpw, htkw, pubsW, storableW, h74, h75, show pure 74 = false from rfl, show pure 75 = false from rfl]
      rfl
    | some b =>
      have hX : X ≠ [] := by intro e; subst e; simp at hl
      have hpos : 0 < X.length := List.length_pos_iff.2 hX
      have hgl : X[X.length - 1]? = some b := by rw [← List.getLast?_eq_getElem?]; exact hl
      have hbne : b ≠ [] := by
        intro e
        have := hodd b (List.mem_of_getElem? hgl)
        rw [e] at this; simp at this
      have eo : obX 2 X = .rsl (2 + (3 + X.length)) 0 b.length b.length 1 false := by unfold obX; rw [hl]
      rw [eo] at h74 h75
      rw [if_neg hX] at h75
      have hgR : (bkCells nl (k : Int) ps :: webC (k : Int) (seeL 7 ps) :: [.rsl (2 + (3 + X.length)) 0 b.length b.length 1 false] :: (webC (k : Int) (seeL 7 ps) :: [.ifc 101 (.ptr 2 0)] :: [fromV 2] :: X.map fun c => c.map J))[2 + (3 + X.length)]? = some (b.map J) := by
        rw [show 2 + (3 + X.length) = X.length - 1 + 6 by omega]
        simp only [List.getElem?_cons_succ, List.getElem?_map, hgl, Option.map_some]
      obtain ⟨S', hS', hfz⟩ := frz_odd hbne (by omega) hgR []
      have et : tAV (up b) = .lst .any 1 (b.map J) := by
        unfold tAV; rw [up_J, sl_ne (by simpa using hbne)]
      simp only [et]
      simp only [ir28, go_sem, reduceIte, Nat.reduceEqDiff, Nat.reduceAdd, Nat.reduceSub, Nat.reduceLeDiff, Nat.reduceLT, reduceCtorEq, Int.reduceLT, Int.reduceLE, Int.reduceEq, Int.reduceBEq, Int.reduceSub, Int.reduceAdd, Int.reduceMul, Int.reduceNeg, Int.reduceToNat, Nat.reduceMul, Nat.reduceBEq, h65, h, hlw, hpw, htkw, pubsW, storableW, h74, h75, show pure 74 = false from rfl, show pure 75 = false from rfl, code_frz, frzAV, frzT, frzLs, rslsOf, hfz, frzEnv, frzV_v, frzV_ptr, frzV_sl, frzV_agg, frzV_tup, frzV_any, frzV_ifc, hS']
  · rw [if_neg h, if_neg h]
    have hl7 : (wovL n ps).length = 7 := by unfold wovL; rw [if_neg h]; simp
    have hlw := lenW n (wovL n ps)
    rw [hl7] at hlw
    have hpw := putW n (wovL n ps) hl7
    simp only [ir28, go_sem, reduceIte, Nat.reduceEqDiff, Nat.reduceAdd, Nat.reduceSub, Nat.reduceLeDiff, Nat.reduceLT, reduceCtorEq, Int.reduceLT, Int.reduceLE, Int.reduceEq, Int.reduceBEq, Int.reduceSub, Int.reduceAdd, Int.reduceMul, Int.reduceNeg, Int.reduceToNat, Nat.reduceMul, Nat.reduceBEq, h65, h, hlw, hpw, pubsW, storableW]
    rfl

attribute [local go_sem] shaped_t cells_t isAgg_t storable_t okRef_t pub_t

/-! ### the law's circles: a list of lists that grows, with a tip anywhere -/
def oA (c : List Nat) : AV := .lst .any 1 (c.map J)
theorem shaped_oA (c : List Nat) : (oA c).shaped = true := rfl
theorem cells_oA (c : List Nat) : (oA c).cells = [oA c] := rfl
theorem storable_oA (c : List Nat) : storable (oA c) = true := rfl

attribute [local go_sem] shaped_t cells_t isAgg_t storable_t okRef_t pub_t

theorem rg_len (w : List Nat) : ∀ (k : Nat) (c : List Nat) (free : Nat), (rg w k c free).length ≤ 8 ^ k
  | 0, c, _ => by unfold rg hdR; split <;> simp
  | k + 1, c, free => by
    have h1 : (hdR w c).length ≤ 1 := by unfold hdR; split <;> simp
    have hsum : ∀ l : List Nat, (l.flatMap fun x => rg w k (c ++ [x]) (dfN free (2 ^ x))).length ≤ l.length * 8 ^ k := by
      intro l
      induction l with
      | nil => simp
      | cons x r ih =>
        have := rg_len w k (c ++ [x]) (dfN free (2 ^ x))
        rw [List.flatMap_cons, List.length_append, List.length_cons, Nat.add_mul]
        omega
    have h2 := hsum (bitsL (w.getD (lastW c) 0 &&& free))
    have h3 := bits_len (w.getD (lastW c) 0 &&& free)
    have h4 : (bitsL (w.getD (lastW c) 0 &&& free)).length * 8 ^ k ≤ 7 * 8 ^ k := Nat.mul_le_mul_right _ h3
    have h5 : 1 ≤ 8 ^ k := Nat.one_le_pow _ _ (by omega)
    show (hdR w c ++ _).length ≤ _
    rw [List.length_append, Nat.pow_succ]
    omega
theorem filter_nil_of {α : Type} {p : α → Bool} {l : List α} (h : ∀ x ∈ l, p x = false) : l.filter p = [] := by
  rw [List.filter_eq_nil_iff]
  intro x hx
  rw [h x hx]; simp
theorem circ_len (n : Nat) (hn : n ≤ 7) (w : List Nat) : (circL n w).length ≤ 14680064 := by
  have : ∀ l : List Nat, (l.flatMap fun x => rg w 7 [x] (frN n x)).length ≤ l.length * 2097152 := by
    intro l
    induction l with
    | nil => simp
    | cons x r ih =>
      have h1 := rg_len w 7 [x] (frN n x)
      have h2 : 8 ^ 7 = 2097152 := rfl
      rw [List.flatMap_cons, List.length_append, List.length_cons, Nat.add_mul]
      omega
  have h := this (List.range' 0 n)
  rw [List.length_range'] at h
  unfold circL
  have : n * 2097152 ≤ 7 * 2097152 := Nat.mul_le_mul_right _ hn
  omega

attribute [local go_sem] shaped_t cells_t isAgg_t storable_t okRef_t pub_t

def stO (o : Option (List Nat)) (c : List Nat) : Option (List Nat) := if better o c = true then some c else o
theorem odd_fold : ∀ (cs : List (List Nat)) (X : List (List Nat)), (cs.foldl clS X).getLast? = cs.foldl stO X.getLast?
  | [], _ => rfl
  | c :: r, X => by
    rw [List.foldl_cons, List.foldl_cons, odd_fold r]
    congr 1
    unfold clS stO
    split
    · rw [List.getLast?_concat]
    · rfl
theorem oddB_fold (n : Nat) (w : List Nat) : oddB n w = (circL n w).foldl stO none := odd_fold _ []
theorem len_tAV (l : List Int) : lenAV (tAV l) = some (I l.length) := by unfold tAV; rw [len_sl, List.length_map]
theorem ren1_t' (n : Nat) (T : List Nat) (acc : List (Nat × Nat)) (l : List Int) : ren1 n T acc (tAV l) = (tAV l, acc) := ren1_sl _ _ _ _ _ _


/-! ### ways and circles in a web -/
def Ch (J : Nat → Nat → Prop) : List Nat → Prop
  | [] => True
  | [_] => True
  | a :: b :: r => J a b ∧ Ch J (b :: r)
theorem ch_split {J : Nat → Nat → Prop} (x : Nat) (B : List Nat) : ∀ A : List Nat, Ch J (A ++ x :: B) ↔ Ch J (A ++ [x]) ∧ Ch J (x :: B)
  | [] => by simp [Ch]
  | [a] => by simp [Ch]
  | a :: b :: A => by
    have := ch_split (J := J) x B (b :: A)
    simp only [List.cons_append, Ch] at this ⊢
    rw [this, and_assoc]
/-- A circle, with words that may come again. -/
def Cyc (J : Nat → Nat → Prop) (c : List Nat) : Prop := ∃ x r, c = x :: r ∧ Ch J (c ++ [x])
theorem not_nodup : ∀ c : List Nat, ¬ c.Nodup → ∃ A x B C, c = A ++ x :: (B ++ x :: C)
  | [], h => absurd List.nodup_nil h
  | a :: r, h => by
    by_cases ha : a ∈ r
    · obtain ⟨B, C, rfl⟩ := List.append_of_mem ha
      exact ⟨[], a, B, C, rfl⟩
    · have : ¬ r.Nodup := fun hr => h (List.nodup_cons.2 ⟨ha, hr⟩)
      obtain ⟨A, x, B, C, rfl⟩ := not_nodup r this
      exact ⟨a :: A, x, B, C, rfl⟩


/-! ### which lists are circles -/
/-- A word sees another one. -/
def Jw (w : List Nat) (a b : Nat) : Prop := (w.getD a 0).testBit b = true
theorem lastW_snoc (c : List Nat) (x : Nat) : lastW (c ++ [x]) = x := by
  unfold lastW
  rw [List.length_append, List.length_singleton, Nat.add_sub_cancel, List.getD_eq_getElem?_getD, List.getElem?_append_right (by omega)]
  simp
theorem ch_snoc {J : Nat → Nat → Prop} (x : Nat) : ∀ c : List Nat, c ≠ [] → (Ch J (c ++ [x]) ↔ Ch J c ∧ J (lastW c) x)
  | [], h => absurd rfl h
  | [a], _ => by simp [Ch, lastW]
  | a :: b :: r, _ => by
    have := ch_snoc (J := J) x (b :: r) (by simp)
    have e : lastW (a :: b :: r) = lastW (b :: r) := by simp [lastW]
    rw [e]
    simp only [List.cons_append, Ch] at this ⊢
    rw [this, and_assoc]
theorem mem_hdR {w : List Nat} {c x : List Nat} : x ∈ hdR w c ↔ x = c ∧ 1 < c.length ∧ Jw w (lastW c) (c.getD 0 0) := by
  unfold hdR Jw
  split
  · next h => simp only [List.mem_singleton]; exact ⟨fun e => ⟨e, h⟩, fun e => e.1⟩
  · next h => simp only [List.not_mem_nil, false_iff]; exact fun e => h e.2
/-- What is found from some words on. -/
theorem rg_iff (w : List Nat) : ∀ (k : Nat) (c : List Nat) (free : Nat), (bitsL free).length ≤ k → free < 128 → c ≠ [] → ∀ x, x ∈ rg w k c free ↔ ∃ s, x = c ++ s ∧ Ch (Jw w) (lastW c :: s) ∧ (∀ y ∈ s, free.testBit y = true) ∧ s.Nodup ∧ 1 < x.length ∧ Jw w (lastW x) (x.getD 0 0) := by
  have head : ∀ (c x : List Nat), (x ∈ hdR w c ↔ ∃ s, s = [] ∧ x = c ++ s ∧ 1 < x.length ∧ Jw w (lastW x) (x.getD 0 0)) := by
    intro c x
    rw [mem_hdR]
    constructor
    · rintro ⟨rfl, h1, h2⟩; exact ⟨[], rfl, by simp, h1, h2⟩
    · rintro ⟨s, rfl, e, h1, h2⟩
      rw [List.append_nil] at e; subst e
      exact ⟨rfl, h1, h2⟩
  intro k
  induction k with
  | zero =>
    intro c free hk hf hc x
    have h0 := bits_nil hf (by omega)
    subst h0
    show x ∈ hdR w c ↔ _
    rw [head]
    constructor
    · rintro ⟨s, rfl, e, h1, h2⟩; exact ⟨[], e, trivial, by simp, List.nodup_nil, h1, h2⟩
    · rintro ⟨s, e, _, h3, _, h1, h2⟩
      have : s = [] := by
        cases s with
        | nil => rfl
        | cons y r => have := h3 y (by simp); simp at this
      exact ⟨s, this, e, h1, h2⟩
  | succ k ih =>
    intro c free hk hf hc x
    show x ∈ hdR w c ++ _ ↔ _
    rw [List.mem_append, head, List.mem_flatMap]
    have hlt : w.getD (lastW c) 0 &&& free < 128 := Nat.lt_of_le_of_lt Nat.and_le_right hf
    constructor
    · rintro (⟨s, rfl, e, h1, h2⟩ | ⟨y, hy, hx⟩)
      · exact ⟨[], e, trivial, by simp, List.nodup_nil, h1, h2⟩
      · rw [bits_mem hlt, Nat.testBit_and, Bool.and_eq_true] at hy
        have hcard := df_card hf hy.2
        have hy7 := bit_lt7 hf hy.2
        obtain ⟨s, e, h1, h2, h3, h4, h5⟩ := (ih (c ++ [y]) (dfN free (2 ^ y)) (by omega) (dfN_lt hf) (by simp) x).1 hx
        rw [lastW_snoc] at h1
        have h2' : ∀ z ∈ s, free.testBit z = true ∧ z ≠ y := fun z hz => by
          have := h2 z hz
          rw [dfN_bit (sh1_lt y hy7).2, Bool.and_eq_true, Bool.and_eq_true, Bool.not_eq_true', Nat.testBit_two_pow, decide_eq_false_iff_not] at this
          exact ⟨this.1, fun e => this.2.2 e.symm⟩
        refine ⟨y :: s, by rw [e]; simp, ⟨hy.1, h1⟩, fun z hz => ?_, List.nodup_cons.2 ⟨fun hm => (h2' y hm).2 rfl, h3⟩, h4, h5⟩
        rcases List.mem_cons.1 hz with rfl | hz
        · exact hy.2
        · exact (h2' z hz).1
    · rintro ⟨s, e, h1, h2, h3, h4, h5⟩
      cases s with
      | nil => exact .inl ⟨[], rfl, e, h4, h5⟩
      | cons y s =>
        right
        have hy := h2 y (by simp)
        have hy7 := bit_lt7 hf hy
        have hcard := df_card hf hy
        rw [List.nodup_cons] at h3
        refine ⟨y, (bits_mem hlt y).2 (by rw [Nat.testBit_and, Bool.and_eq_true]; exact ⟨h1.1, hy⟩), (ih (c ++ [y]) (dfN free (2 ^ y)) (by omega) (dfN_lt hf) (by simp) x).2 ⟨s, by rw [e]; simp, by rw [lastW_snoc]; exact h1.2, fun z hz => ?_, h3.2, h4, h5⟩⟩
        rw [dfN_bit (sh1_lt y hy7).2, Bool.and_eq_true, Bool.and_eq_true, Bool.not_eq_true', Nat.testBit_two_pow, decide_eq_false_iff_not]
        have hz2 := h2 z (by simp [hz])
        exact ⟨hz2, decide_eq_true (bit_lt7 hf hz2), fun e => h3.1 (by rw [e]; exact hz)⟩
/-- A circle whose first word is its smallest one. -/
theorem circ_iff {n : Nat} (hn : n ≤ 7) (w : List Nat) (x : List Nat) : x ∈ circL n w ↔ ∃ a s, x = a :: s ∧ a < n ∧ (∀ y ∈ s, a < y ∧ y < n) ∧ x.Nodup ∧ 1 < x.length ∧ Ch (Jw w) x ∧ Jw w (lastW x) a := by
  unfold circL
  rw [List.mem_flatMap]
  constructor
  · rintro ⟨a, ha, hx⟩
    rw [List.mem_range'_1] at ha
    have hcard := frN_card hn (show a < n by omega)
    obtain ⟨s, e, h1, h2, h3, h4, h5⟩ := (rg_iff w 7 [a] (frN n a) (by omega) (frN_lt hn) (by simp) x).1 hx
    have h2' : ∀ y ∈ s, a < y ∧ y < n := fun y hy => by
      have := h2 y hy
      rw [frN_bit hn (by omega), Bool.and_eq_true, decide_eq_true_iff, decide_eq_true_iff] at this
      omega
    subst e
    refine ⟨a, s, rfl, by omega, h2', List.nodup_cons.2 ⟨fun hm => by have := h2' a hm; omega, h3⟩, h4, h1, h5⟩
  · rintro ⟨a, s, rfl, ha, h2, h3, h4, h5, h6⟩
    have hcard := frN_card hn ha
    refine ⟨a, by rw [List.mem_range'_1]; omega, (rg_iff w 7 [a] (frN n a) (by omega) (frN_lt hn) (by simp) _).2 ⟨s, rfl, h5, fun y hy => ?_, (List.nodup_cons.1 h3).2, h4, h6⟩⟩
    rw [frN_bit hn ha, Bool.and_eq_true, decide_eq_true_iff, decide_eq_true_iff]
    have := h2 y hy; omega
/-- A circle from another word on. -/
theorem cyc_rot {J : Nat → Nat → Prop} {A B : List Nat} {m : Nat} (h : Cyc J (A ++ m :: B)) : Cyc J (m :: (B ++ A)) := by
  obtain ⟨x, r, e, hc⟩ := h
  cases A with
  | nil =>
    simp only [List.nil_append, List.cons.injEq] at e
    obtain ⟨rfl, rfl⟩ := e
    exact ⟨m, B, by simp, by simpa using hc⟩
  | cons a A =>
    simp only [List.cons_append, List.cons.injEq] at e
    obtain ⟨rfl, rfl⟩ := e
    refine ⟨m, B ++ a :: A, rfl, ?_⟩
    have e1 : a :: A ++ m :: B ++ [a] = (a :: A) ++ m :: (B ++ [a]) := by simp
    rw [e1] at hc
    have h1 := (ch_split m (B ++ [a]) (a :: A)).1 hc
    have e2 : m :: (B ++ a :: A) ++ [m] = (m :: B) ++ a :: (A ++ [m]) := by simp
    rw [e2]
    exact (ch_split a (A ++ [m]) (m :: B)).2 ⟨by simpa using h1.2, by simpa using h1.1⟩
theorem min_split : ∀ c : List Nat, c ≠ [] → ∃ A m B, c = A ++ m :: B ∧ ∀ y ∈ c, m ≤ y
  | [], h => absurd rfl h
  | [a], _ => ⟨[], a, [], rfl, by simp⟩
  | a :: b :: r, _ => by
    obtain ⟨A, m, B, e, h⟩ := min_split (b :: r) (by simp)
    by_cases hm : a ≤ m
    · exact ⟨[], a, b :: r, rfl, fun y hy => by
        rcases List.mem_cons.1 hy with rfl | hy
        · omega
        · have := h y hy; omega⟩
    · refine ⟨a :: A, m, B, by rw [e]; rfl, fun y hy => ?_⟩
      rcases List.mem_cons.1 hy with rfl | hy
      · omega
      · exact h y hy
/-- Each circle is found, from its smallest word on. -/
theorem circ_of {n : Nat} (hn : n ≤ 7) {w : List Nat} {c : List Nat} (h1 : c.Nodup) (h2 : 1 < c.length) (h3 : Cyc (Jw w) c) (h4 : ∀ x ∈ c, x < n) : ∃ A m B, c = A ++ m :: B ∧ m :: (B ++ A) ∈ circL n w := by
  obtain ⟨A, m, B, e, hm⟩ := min_split c (by intro e; rw [e] at h2; simp at h2)
  refine ⟨A, m, B, e, (circ_iff hn w _).2 ⟨m, B ++ A, rfl, h4 m (by rw [e]; simp), fun y hy => ?_, ?_, ?_, ?_⟩⟩
  · have hy2 : y ∈ c := by rw [e]; simp only [List.mem_append, List.mem_cons] at hy ⊢; exact hy.elim (fun h => .inr (.inr h)) .inl
    have := hm y hy2
    have hne : y ≠ m := by
      rintro rfl
      rw [e, List.nodup_append, List.nodup_cons] at h1
      rcases List.mem_append.1 hy with hy | hy
      · exact h1.2.1.1 hy
      · exact h1.2.2 y hy y (by simp) rfl
    exact ⟨by omega, h4 y hy2⟩
  · have hp : (m :: (B ++ A)).Perm c := by
      rw [e]
      exact (List.perm_append_comm (l₁ := m :: B) (l₂ := A))
    exact hp.nodup_iff.2 h1
  · rw [e] at h2; simp at h2 ⊢; omega
  · rw [e] at h3
    obtain ⟨x, r, e2, hc⟩ := cyc_rot h3
    simp only [List.cons.injEq] at e2
    obtain ⟨rfl, rfl⟩ := e2
    exact (ch_snoc m _ (by simp)).1 hc


/-! ### the first shortest odd circle -/
theorem stO_spec : ∀ (cs : List (List Nat)) (o : Option (List Nat)), (∀ b, o = some b → b.length % 2 = 1) → (cs.foldl stO o = none → o = none ∧ ∀ c ∈ cs, c.length % 2 = 0) ∧ ∀ b, cs.foldl stO o = some b → (b ∈ cs ∨ o = some b) ∧ b.length % 2 = 1
  | [], o, h => ⟨fun e => ⟨e, by simp⟩, fun b e => ⟨.inr e, h b e⟩⟩
  | c :: r, o, h => by
    have h2 : ∀ b, stO o c = some b → b.length % 2 = 1 := by
      intro b e
      unfold stO at e
      split at e
      · next hb =>
        cases e
        unfold better at hb
        rw [Bool.and_eq_true, decide_eq_true_iff] at hb; exact hb.1
      · exact h b e
    obtain ⟨a1, a2⟩ := stO_spec r (stO o c) h2
    rw [List.foldl_cons]
    refine ⟨fun e => ?_, fun b e => ?_⟩
    · obtain ⟨e1, e2⟩ := a1 e
      unfold stO at e1
      split at e1
      · simp at e1
      · next hb =>
        refine ⟨e1, fun x hx => ?_⟩
        rcases List.mem_cons.1 hx with rfl | hx
        · rw [e1] at hb
          unfold better at hb
          simp at hb; omega
        · exact e2 x hx
    · obtain ⟨h3, h4⟩ := a2 b e
      refine ⟨?_, h4⟩
      rcases h3 with h3 | h3
      · exact .inl (by simp [h3])
      · unfold stO at h3
        split at h3
        · cases h3; exact .inl (by simp)
        · exact .inr h3
theorem oddB_some {n : Nat} {w : List Nat} {b : List Nat} (h : oddB n w = some b) : b ∈ circL n w ∧ b.length % 2 = 1 := by
  rw [oddB_fold] at h
  have := (stO_spec _ none (by simp)).2 b h
  exact ⟨this.1.resolve_right (by simp), this.2⟩

/-! ### it is accepted -/
/-! ### no odd circle: a choice -/
theorem mask_of (K : Nat → Prop) : ∀ n : Nat, ∃ m, m < 2 ^ n ∧ ∀ x, m.testBit x = true ↔ x < n ∧ K x
  | 0 => ⟨0, by simp, fun x => by simp⟩
  | n + 1 => by
    obtain ⟨m, h1, h2⟩ := mask_of K n
    by_cases hk : K n
    · refine ⟨m ||| 2 ^ n, ?_, fun x => ?_⟩
      · exact Nat.or_lt_two_pow (Nat.lt_of_lt_of_le h1 (Nat.pow_le_pow_right (by omega) (by omega))) (Nat.pow_lt_pow_right (by omega) (by omega))
      · rw [Nat.testBit_or, Nat.testBit_two_pow, Bool.or_eq_true, h2, decide_eq_true_iff]
        constructor
        · rintro (⟨h3, h4⟩ | h3)
          · exact ⟨by omega, h4⟩
          · subst h3; exact ⟨by omega, hk⟩
        · rintro ⟨h3, h4⟩
          by_cases e : n = x
          · exact .inr e
          · exact .inl ⟨by omega, h4⟩
    · refine ⟨m, Nat.lt_of_lt_of_le h1 (Nat.pow_le_pow_right (by omega) (by omega)), fun x => ?_⟩
      rw [h2]
      constructor
      · rintro ⟨h3, h4⟩; exact ⟨by omega, h4⟩
      · rintro ⟨h3, h4⟩
        refine ⟨?_, h4⟩
        rcases Nat.lt_or_ge x n with h5 | h5
        · exact h5
        · obtain rfl : x = n := by omega
          exact absurd h4 hk

attribute [local go_sem] shaped_t cells_t isAgg_t storable_t okRef_t pub_t

theorem circ_lt {n : Nat} (hn : n ≤ 7) {w : List Nat} : ∀ c ∈ circL n w, 2 ≤ c.length ∧ c.length ≤ 7 ∧ (∀ x ∈ c, x < n) ∧ c.Nodup := by
  intro c hc
  obtain ⟨a, s, e, ha, h2, h3, h4, _, _⟩ := (circ_iff hn _ c).1 hc
  have hm : ∀ x ∈ c, x < n := fun x hx => by
    rw [e] at hx
    rcases List.mem_cons.1 hx with rfl | hx
    · exact ha
    · exact (h2 x hx).2
  have := nodup_len_le c (List.range n) h3 (fun x hx => List.mem_range.2 (hm x hx))
  rw [List.length_range] at this
  exact ⟨h4, by omega, hm, h3⟩

attribute [local go_sem] shaped_t cells_t isAgg_t storable_t okRef_t pub_t

/-! ### how many circles, and how many on each reference -/
theorem z50 : tallyC 0 (List.replicate 49 0) = [I 0, I 0, I 0, I 0, I 0, I 0, I 0, I 0, I 0, I 0, I 0, I 0, I 0, I 0, I 0, I 0, I 0, I 0, I 0, I 0, I 0, I 0, I 0, I 0, I 0, I 0, I 0, I 0, I 0, I 0, I 0, I 0, I 0, I 0, I 0, I 0, I 0, I 0, I 0, I 0, I 0, I 0, I 0, I 0, I 0, I 0, I 0, I 0, I 0, I 0] := rfl
def bk81 (nl : Bool) (n : Int) (ps : List (Int × Int)) : List (List AV) := [bkCells nl n ps, bkCells nl n ps, webC n (wovL n ps)]
set_option maxHeartbeats 1000000 in
theorem c81 (nl : Bool) (n : Int) (ps : List (Int × Int)) (T : List Nat) :
    run L 81 [bkAV nl n ps] ⟨[bkCells nl n ps], T⟩ = if chk n ps = 0 then some (.tup [.ptr 3 0, I 0], ⟨bk81 nl n ps ++ layT 3 n (seeL 7 ps) (circL n.toNat (seeL 7 ps)).length (ovL (circL n.toNat (seeL 7 ps))), T⟩) else some (.tup [.v (.pointer none), I (chk n ps)], ⟨bk81 nl n ps, T⟩) := by
  rw [run_shared (fn := ir81) rfl rfl]
  have h65 := fun st => c65 nl n ps st
  unfold bk81
  by_cases h : chk n ps = 0
  · obtain ⟨h1, hl16, h3, h4, h5⟩ := chk_zero h
    obtain ⟨k, rfl⟩ := Int.eq_ofNat_of_zero_le (show 0 ≤ n by omega)
    have hw : wovL (k : Int) ps = seeL 7 ps := by unfold wovL; rw [if_pos h]
    rw [hw] at h65 ⊢
    rw [if_pos h, Int.toNat_natCast]
    have hlw := lenW (k : Int) (seeL 7 ps)
    rw [seeL_len] at hlw
    have hpw := putW (k : Int) (seeL 7 ps) (seeL_len 7 ps)
    have htkw : (webC (k : Int) (seeL 7 ps)).take 8 = webC (k : Int) (seeL 7 ps) := List.take_of_length_le (by omega)
    have h74 := c74 goalT 3 k (by omega) (seeL 7 ps) (seeL_len 7 ps) (seeL_small 7 h4) (goalT_ok 3 k _) rfl T [bkCells nl (k : Int) ps, bkCells nl (k : Int) ps, webC (k : Int) (seeL 7 ps)] rfl (dk_cons (bk_vis nl _ ps) (dk_cons (bk_vis nl _ ps) (dk_cons (fun _ => web_v _ _) dk_nil)))
    have e0 : goalT.ob 3 [] = tallyC 0 (List.replicate 49 0) := rfl
    have e1 : goalT.tt = 111 := rfl
    rw [e0, e1, layT_eq, z50] at h74
    simp only [List.cons_append, List.nil_append] at h74
    simp only [ir81, go_sem, reduceIte, Nat.reduceEqDiff, Nat.reduceAdd, Nat.reduceSub, Nat.reduceLeDiff, Nat.reduceLT, reduceCtorEq, Int.reduceLT, Int.reduceLE, Int.reduceEq, Int.reduceBEq, Int.reduceSub, Int.reduceAdd, Int.reduceMul, Int.reduceNeg, Int.reduceToNat, Nat.reduceMul, Nat.reduceBEq, h65, h, hlw, hpw, htkw, pubsW, storableW, h74, show pure 74 = false from rfl]
  · rw [if_neg h]
    have hl7 : (wovL n ps).length = 7 := by unfold wovL; rw [if_neg h]; simp
    have hlw := lenW n (wovL n ps)
    rw [hl7] at hlw
    have hpw := putW n (wovL n ps) hl7
    simp only [ir81, go_sem, reduceIte, Nat.reduceEqDiff, Nat.reduceAdd, Nat.reduceSub, Nat.reduceLeDiff, Nat.reduceLT, reduceCtorEq, Int.reduceLT, Int.reduceLE, Int.reduceEq, Int.reduceBEq, Int.reduceSub, Int.reduceAdd, Int.reduceMul, Int.reduceNeg, Int.reduceToNat, Nat.reduceMul, Nat.reduceBEq, h65, h, hlw, hpw, pubsW, storableW]
theorem c75t (tot : Nat) (O : List Nat) (d : Nat) (n : Int) (w : List Nat) (nl : Bool) (ps : List (Int × Int)) (T : List Nat) : run L 75 [.ifc 111 (.ptr 3 0)] ⟨bk81 nl n ps ++ layT d n w tot O, T⟩ = some (I (wr tot), ⟨bk81 nl n ps ++ layT d n w tot O, T⟩) := by
  rw [run_shared (fn := ir75) rfl rfl]
  unfold bk81 layT tallyC
  simp only [ir75, go_sem, reduceIte, Nat.reduceEqDiff, Nat.reduceAdd, Nat.reduceSub, Nat.reduceLeDiff, Nat.reduceLT, reduceCtorEq, Int.reduceLT, Int.reduceLE, Int.reduceEq, Int.reduceBEq, Int.reduceSub, Int.reduceAdd, Int.reduceMul, Int.reduceNeg, Int.reduceToNat, Nat.reduceMul, Nat.reduceBEq, List.cons_append, List.nil_append]
def allN (n : Int) (ps : List (Int × Int)) : List (List Nat) := circL n.toNat (seeL 7 ps)
/-- How many circles there are. -/
def circV (n : Int) (ps : List (Int × Int)) : Int := if chk n ps = 0 then ((allN n ps).length : Int) else 0
theorem c36 (nl : Bool) (n : Int) (ps : List (Int × Int)) (st : St) : run L 36 [bkAV nl n ps] st = some (.tup [I (circV n ps), I (chk n ps)], st) := by
  rw [run_pure (fn := ir36) rfl rfl]
  have h81 := c81 nl n ps []
  unfold circV allN
  by_cases h : chk n ps = 0
  · obtain ⟨h1, hl16, h3, h4, h5⟩ := chk_zero h
    rw [if_pos h] at h81 ⊢
    have hb := circ_len n.toNat (by omega) (seeL 7 ps)
    have hwr := wr_eq (circL n.toNat (seeL 7 ps)).length (by omega)
    have h75 := c75t (circL n.toNat (seeL 7 ps)).length (ovL (circL n.toNat (seeL 7 ps))) 3 n (seeL 7 ps) nl ps []
    rw [hwr] at h75
    simp only [ir36, go_sem, reduceIte, Nat.reduceEqDiff, Nat.reduceAdd, Nat.reduceSub, Nat.reduceLeDiff, Nat.reduceLT, reduceCtorEq, Int.reduceLT, Int.reduceLE, Int.reduceEq, Int.reduceBEq, Int.reduceSub, Int.reduceAdd, Int.reduceMul, Int.reduceNeg, Int.reduceToNat, Nat.reduceMul, Nat.reduceBEq, h81, h, h75, show pure 81 = false from rfl, show pure 75 = false from rfl]
  · rw [if_neg h] at h81 ⊢
    simp only [ir36, go_sem, reduceIte, Nat.reduceEqDiff, Nat.reduceAdd, Nat.reduceSub, Nat.reduceLeDiff, Nat.reduceLT, reduceCtorEq, Int.reduceLT, Int.reduceLE, Int.reduceEq, Int.reduceBEq, Int.reduceSub, Int.reduceAdd, Int.reduceMul, Int.reduceNeg, Int.reduceToNat, Nat.reduceMul, Nat.reduceBEq, h81, h, show pure 81 = false from rfl]

attribute [local go_sem] shaped_t cells_t isAgg_t storable_t okRef_t pub_t

/-! ### two lists of references, one after the other -/
def fP (p : Int × Int) : List AV := [I p.1, I p.2]

attribute [local go_sem] shaped_t cells_t isAgg_t storable_t okRef_t pub_t

/-! ### circles come in ascending order -/
theorem lex_app (s t : List Nat) : ∀ c : List Nat, lexLt (up (c ++ s)) (up (c ++ t)) = lexLt (up s) (up t)
  | [] => rfl
  | x :: r => by
    have := lex_app s t r
    have e0 : lexLt (up (x :: r ++ s)) (up (x :: r ++ t)) = lexLt ((x : Int) :: up (r ++ s)) ((x : Int) :: up (r ++ t)) := rfl
    rw [e0]
    have e : lexLt ((x : Int) :: up (r ++ s)) ((x : Int) :: up (r ++ t)) = (decide ((x : Int) < x) || (decide ((x : Int) = x) && lexLt (up (r ++ s)) (up (r ++ t)))) := rfl
    rw [e, this]; simp
theorem rg_pre (w : List Nat) : ∀ (k : Nat) (c : List Nat) (free : Nat), ∀ x ∈ rg w k c free, ∃ s, x = c ++ s
  | 0, c, _, x, hx => by
    have := (mem_hdR.1 (show x ∈ hdR w c from hx)).1
    exact ⟨[], by simp [this]⟩
  | k + 1, c, free, x, hx => by
    have hx' : x ∈ hdR w c ++ (bitsL (w.getD (lastW c) 0 &&& free)).flatMap fun x => rg w k (c ++ [x]) (dfN free (2 ^ x)) := hx
    rcases List.mem_append.1 hx' with h | h
    · exact ⟨[], by simp [(mem_hdR.1 h).1]⟩
    · obtain ⟨y, _, h⟩ := List.mem_flatMap.1 h
      obtain ⟨s, e⟩ := rg_pre w k _ _ x h
      exact ⟨y :: s, by rw [e]; simp⟩
def Asc (l : List (List Nat)) : Prop := l.Pairwise fun a b => lexLt (up a) (up b) = true
theorem asc_flat {f : Nat → List (List Nat)} {c : List Nat} {l : List Nat} (h1 : ∀ x, Asc (f x)) (h2 : ∀ x, ∀ y ∈ f x, ∃ s, y = c ++ x :: s) (hl : l.Pairwise (· < ·)) : Asc (l.flatMap f) := by
  unfold Asc
  rw [List.pairwise_flatMap]
  refine ⟨fun x _ => h1 x, hl.imp fun {a b} hab x hx y hy => ?_⟩
  obtain ⟨s, rfl⟩ := h2 a x hx
  obtain ⟨t, rfl⟩ := h2 b y hy
  rw [lex_app]
  show lexLt ((a : Int) :: up s) ((b : Int) :: up t) = true
  unfold lexLt
  rw [decide_eq_true (show (a : Int) < (b : Int) by omega)]; rfl
theorem bits_asc (m : Nat) : (bitsL m).Pairwise (· < ·) := List.pairwise_lt_range.filter _
theorem rg_asc (w : List Nat) : ∀ (k : Nat) (c : List Nat) (free : Nat), Asc (rg w k c free)
  | 0, c, _ => by
    show Asc (hdR w c)
    unfold hdR Asc; split <;> simp
  | k + 1, c, free => by
    show Asc (hdR w c ++ (bitsL (w.getD (lastW c) 0 &&& free)).flatMap fun x => rg w k (c ++ [x]) (dfN free (2 ^ x)))
    have hp : ∀ x, ∀ y ∈ rg w k (c ++ [x]) (dfN free (2 ^ x)), ∃ s, y = c ++ x :: s := fun x y hy => by
      obtain ⟨s, e⟩ := rg_pre w k _ _ y hy
      exact ⟨s, by rw [e]; simp⟩
    unfold Asc
    rw [List.pairwise_append]
    refine ⟨by unfold hdR; split <;> simp, asc_flat (c := c) (fun x => rg_asc w k _ _) hp (bits_asc _), fun a ha b hb => ?_⟩
    have ea := (mem_hdR.1 ha).1
    obtain ⟨x, _, hb⟩ := List.mem_flatMap.1 hb
    obtain ⟨s, rfl⟩ := hp x b hb
    subst ea
    have := lex_app [] (x :: s) a
    rw [List.append_nil] at this
    rw [this]; rfl
theorem circ_asc (n : Nat) (w : List Nat) : Asc (circL n w) := by
  unfold circL
  refine asc_flat (c := []) (fun x => rg_asc w 7 _ _) (fun x y hy => ?_) List.pairwise_lt_range'
  obtain ⟨s, e⟩ := rg_pre w 7 _ _ y hy
  exact ⟨s, by rw [e]; simp⟩

/-! ### the first shortest odd one -/
def OInv (P : List (List Nat)) (o : Option (List Nat)) : Prop :=
  (o = none ∧ ∀ c ∈ P, c.length % 2 = 0) ∨ ∃ b, o = some b ∧ b.length % 2 = 1 ∧ (∀ c ∈ P, c.length % 2 = 1 → b.length ≤ c.length) ∧ (P.filter fun x => decide (x.length = b.length)).head? = some b
theorem head_mem {α : Type} {l : List α} {b : α} (h : l.head? = some b) : b ∈ l := by
  cases l with
  | nil => simp at h
  | cons x r => simp at h; subst h; simp
theorem oinv_step {P : List (List Nat)} {o : Option (List Nat)} {c : List Nat} (h : OInv P o) (ha : ∀ b ∈ P, lexLt (up b) (up c) = true) : OInv (P ++ [c]) (stO o c) := by
  unfold stO
  rcases h with ⟨rfl, h⟩ | ⟨b, rfl, h1, h2, h3⟩
  · by_cases ho : c.length % 2 = 1
    · rw [if_pos (by unfold better; simp [ho])]
      refine .inr ⟨c, rfl, ho, fun d hd ho2 => ?_, ?_⟩
      · rcases List.mem_append.1 hd with hd | hd
        · have := h d hd; omega
        · simp at hd; subst hd; omega
      · rw [List.filter_append, filter_nil_of (l := P)]
        · simp
        · intro d hd
          have := h d hd
          rw [decide_eq_false_iff_not]; omega
    · rw [if_neg (by unfold better; simp [ho])]
      refine .inl ⟨rfl, fun d hd => ?_⟩
      rcases List.mem_append.1 hd with hd | hd
      · exact h d hd
      · simp at hd; subst hd; omega
  · have hbP : b ∈ P := (List.mem_filter.1 (head_mem h3)).1
    have hbc := lex_asymm (ha b hbP)
    by_cases ho : c.length % 2 = 1
    · by_cases hl : c.length < b.length
      · rw [if_pos (by unfold better; simp [ho, hl])]
        refine .inr ⟨c, rfl, ho, fun d hd ho2 => ?_, ?_⟩
        · rcases List.mem_append.1 hd with hd | hd
          · have := h2 d hd ho2; omega
          · simp at hd; subst hd; omega
        · rw [List.filter_append, filter_nil_of (l := P)]
          · simp
          · intro d hd
            rw [decide_eq_false_iff_not]
            intro e
            have := h2 d hd (by omega); omega
      · rw [if_neg (by unfold better; simp [ho, hl, hbc])]
        refine .inr ⟨b, rfl, h1, fun d hd ho2 => ?_, ?_⟩
        · rcases List.mem_append.1 hd with hd | hd
          · exact h2 d hd ho2
          · simp at hd; subst hd; omega
        · rw [List.filter_append, List.head?_append, h3]; rfl
    · rw [if_neg (by unfold better; simp [ho])]
      refine .inr ⟨b, rfl, h1, fun d hd ho2 => ?_, ?_⟩
      · rcases List.mem_append.1 hd with hd | hd
        · exact h2 d hd ho2
        · simp at hd; subst hd; omega
      · rw [List.filter_append, List.head?_append, h3]; rfl
theorem oinv_all : ∀ (R P : List (List Nat)) (o : Option (List Nat)), OInv P o → Asc (P ++ R) → OInv (P ++ R) (R.foldl stO o)
  | [], P, o, h, _ => by rw [List.append_nil]; exact h
  | c :: r, P, o, h, ha => by
    have h1 : ∀ b ∈ P, lexLt (up b) (up c) = true := fun b hb => by
      unfold Asc at ha
      rw [List.pairwise_append] at ha
      exact ha.2.2 b hb c (by simp)
    have e : P ++ c :: r = (P ++ [c]) ++ r := by simp
    rw [e] at ha ⊢
    rw [List.foldl_cons]
    exact oinv_all r (P ++ [c]) _ (oinv_step h h1) ha

attribute [local go_sem high] and_one shr_u shl_one or_u and_u

/-! ### the first number that is not in a set -/
def mexM (m : Nat) : Nat := ((List.range 8).find? fun i => !m.testBit i).getD 0
abbrev cU (m : Nat) : AV := .v (.int .u64 (18446744073709551615 - (m : Int)))
theorem all52c : (List.range 128).map (fun m => callAV L 60 52 [cU m] ⟨[], []⟩) = (List.range 128).map (fun m => some (I (mexM m : Nat), (⟨[], []⟩ : St))) := by kernel_rfl
theorem c52c (m : Nat) (hm : m < 128) (st : St) : run L 52 [cU m] st = some (I (mexM m : Nat), st) :=
  run_any' (fn := ir52) rfl rfl (callAV_run L 60 _ _ _ _ (all_of all52c m hm)) st
def negL (n : Nat) : List Int := List.replicate n (-1)
theorem all79 : (List.range 7).map (fun n => callAV L 100 79 [.lst .any 1 [I (-1)], J (n + 1)] ⟨[], []⟩) = (List.range 7).map (fun n => some (.rsl 0 0 (n + 1) (n + 1) 1 false, (⟨[(negL (n + 1)).map I], []⟩ : St))) := by kernel_rfl
theorem c79 (n : Nat) (h1 : 1 ≤ n) (hn : n ≤ 7) : run L 79 [.lst .any 1 [I (-1)], J n] ⟨[], []⟩ = some (.rsl 0 0 n n 1 false, ⟨[(negL n).map I], []⟩) := by
  have := callAV_run L 100 _ _ _ _ (all_of all79 (n - 1) (by omega))
  rw [show n - 1 + 1 = n by omega] at this
  exact this


/-! ### numbers of words, without the program -/
def isMex (l : List Nat) (v : Nat) : Prop := v ∉ l ∧ ∀ j, j < v → j ∈ l
theorem mex_uniq {l : List Nat} {a b : Nat} (ha : isMex l a) (hb : isMex l b) : a = b := by
  rcases Nat.lt_trichotomy a b with h | h | h
  · exact absurd (hb.2 a h) ha.1
  · exact h
  · exact absurd (ha.2 b h) hb.1
/-- A word has a number if all that it sees have. -/
inductive Num (w : List Nat) : Nat → Nat → Prop
  | mk (x : Nat) (f : Nat → Nat) (v : Nat) (h : ∀ y, y ∈ bitsL (w.getD x 0) → Num w y (f y)) (hm : isMex ((bitsL (w.getD x 0)).map f) v) : Num w x v
theorem num_uniq {w : List Nat} {x v : Nat} (h : Num w x v) : ∀ v', Num w x v' → v = v' := by
  induction h with
  | mk x f v h hm ih =>
    intro v' h'
    cases h' with
    | mk _ g _ h2 hm2 =>
      have e : (bitsL (w.getD x 0)).map f = (bitsL (w.getD x 0)).map g := List.map_congr_left fun y hy => ih y hy _ (h2 y hy)
      rw [← e] at hm2
      exact mex_uniq hm hm2
/-- In words that see one another on and on none has a number. -/
theorem num_stop {w : List Nat} {S : Nat → Prop} (hS : ∀ x, S x → ∃ y, S y ∧ y ∈ bitsL (w.getD x 0)) {x v : Nat} (h : Num w x v) : ¬ S x := by
  induction h with
  | mk x f v h hm ih =>
    intro hx
    obtain ⟨y, hy, hb⟩ := hS x hx
    exact ih y hb hy
def mexS (O : List Int) (l : List Nat) (m : Nat) : Nat := l.foldl (fun m y => m ||| 2 ^ (O.getD y (-1)).toNat) m
def numStep (w : List Nat) (q : List Int × Nat) (x : Nat) : List Int × Nat :=
  if q.2.testBit x = true ∨ dfN (w.getD x 0) q.2 ≠ 0 then q else (q.1.set x ((mexM (mexS q.1 (bitsL (w.getD x 0)) 0) : Nat) : Int), q.2 ||| 2 ^ x)
def numRound (w : List Nat) (n : Nat) (q : List Int × Nat) : List Int × Nat := (List.range' 0 n).foldl (numStep w) q
def numR (w : List Nat) (n : Nat) : Nat → List Int × Nat → List Int × Nat
  | 0, q => q
  | k + 1, q => numR w n k (numRound w n q)
theorem mexS_bit (O : List Int) (b : Nat) : ∀ (l : List Nat) (m : Nat), (mexS O l m).testBit b = (m.testBit b || decide (b ∈ l.map fun y => (O.getD y (-1)).toNat))
  | [], m => by simp [mexS]
  | y :: r, m => by
    show (mexS O r (m ||| 2 ^ (O.getD y (-1)).toNat)).testBit b = _
    rw [mexS_bit O b r, Nat.testBit_or, Nat.testBit_two_pow, Bool.or_assoc]
    congr 1
    rw [Bool.eq_iff_iff]
    simp only [Bool.or_eq_true, decide_eq_true_eq, List.map_cons, List.mem_cons]
    exact or_congr ⟨fun h => h.symm, fun h => h.symm⟩ Iff.rfl
theorem mexS_lt (O : List Int) (c : Nat) : ∀ (l : List Nat) (m : Nat), m < 2 ^ c → (∀ y ∈ l, (O.getD y (-1)).toNat < c) → mexS O l m < 2 ^ c
  | [], m, h, _ => h
  | y :: r, m, h, hl => mexS_lt O c r _ (Nat.or_lt_two_pow h (Nat.pow_lt_pow_right (by omega) (hl y (by simp)))) (fun z hz => hl z (by simp [hz]))
theorem mexM_all : (List.range 128).all (fun m => (List.range 8).all fun c => (!decide (m < 2 ^ c)) || decide (mexM m ≤ c)) = true := by kernel_rfl
theorem mexM_le {m c : Nat} (hc : c ≤ 7) (h : m < 2 ^ c) : mexM m ≤ c := by
  have hm : m < 128 := Nat.lt_of_lt_of_le h (Nat.pow_le_pow_right (n := 2) (by omega) hc)
  have := List.all_eq_true.1 (List.all_eq_true.1 mexM_all m (List.mem_range.2 hm)) c (List.mem_range.2 (by omega))
  rw [Bool.or_eq_true, Bool.not_eq_true', decide_eq_false_iff_not, decide_eq_true_iff] at this
  exact this.resolve_left (fun h2 => h2 h)
theorem mexM_spec_all : (List.range 128).all (fun m => !m.testBit (mexM m) && (List.range (mexM m)).all m.testBit) = true := by kernel_rfl
theorem mexM_spec {m : Nat} (hm : m < 128) : m.testBit (mexM m) = false ∧ ∀ j, j < mexM m → m.testBit j = true := by
  have := List.all_eq_true.1 mexM_spec_all m (List.mem_range.2 hm)
  rw [Bool.and_eq_true, Bool.not_eq_true', List.all_eq_true] at this
  exact ⟨this.1, fun j hj => this.2 j (List.mem_range.2 hj)⟩
structure Know (w : List Nat) (n : Nat) (q : List Int × Nat) : Prop where
  len : q.1.length = n
  lt : q.2 < 2 ^ n
  yes : ∀ y, q.2.testBit y = true → ∃ v : Nat, q.1.getD y (-1) = v ∧ v < cardN n q.2 ∧ Num w y v
  no : ∀ y, y < n → q.2.testBit y = false → q.1.getD y (-1) = -1
theorem getDi_set (F : List Int) (x : Nat) (v : Int) (z : Nat) (hx : x < F.length) : (F.set x v).getD z (-1) = if z = x then v else F.getD z (-1) := by
  split
  · next h => subst h; rw [List.getD_eq_getElem?_getD, List.getElem?_set_self hx]; rfl
  · next h => rw [List.getD_eq_getElem?_getD, List.getElem?_set_ne (Ne.symm h), ← List.getD_eq_getElem?_getD]
theorem df_zero {a b : Nat} (ha : a < 128) (hb : b < 128) : dfN a b = 0 ↔ ∀ y, a.testBit y = true → b.testBit y = true := by
  constructor
  · intro h y hy
    cases e : b.testBit y
    · have : (dfN a b).testBit y = true := by rw [dfN_bit hb, hy, e, decide_eq_true (bit_lt7 ha hy)]; rfl
      rw [h] at this; simp at this
    · rfl
  · intro h
    apply Nat.eq_of_testBit_eq
    intro y
    rw [Nat.zero_testBit, dfN_bit hb]
    cases e : a.testBit y
    · rfl
    · rw [h y e]; simp
theorem card_add {n k x : Nat} (hx : x < n) (h : k.testBit x = false) : cardN n k < cardN n (k ||| 2 ^ x) := by
  unfold cardN
  refine filter_len_lt _ (fun y _ hy => by rw [Nat.testBit_or, hy]; rfl) ⟨x, List.mem_range.2 hx, ?_, h⟩
  rw [Nat.testBit_or, Nat.testBit_two_pow_self]; simp
/-- One step: what is known stays right. -/
theorem num_step {w : List Nat} {n : Nat} (hn : n ≤ 7) (hsm : ∀ x ∈ w, x < 128) (hwn : ∀ a b, (w.getD a 0).testBit b = true → b < n) {q : List Int × Nat} (h : Know w n q) {x : Nat} (hx : x < n) :
    Know w n (numStep w q x) ∧ (numStep w q x = q ∧ (q.2.testBit x = true ∨ dfN (w.getD x 0) q.2 ≠ 0) ∨ q.2.testBit x = false ∧ (numStep w q x).2 = q.2 ||| 2 ^ x) := by
  unfold numStep
  have hq128 : q.2 < 128 := Nat.lt_of_lt_of_le h.lt (Nat.pow_le_pow_right (n := 2) (by omega) hn)
  by_cases hc : q.2.testBit x = true ∨ dfN (w.getD x 0) q.2 ≠ 0
  · rw [if_pos hc]
    exact ⟨h, .inl ⟨rfl, hc⟩⟩
  · rw [if_neg hc]
    have hxf : q.2.testBit x = false := by
      cases e : q.2.testBit x
      · rfl
      · exact absurd (.inl e) hc
    have hdf : dfN (w.getD x 0) q.2 = 0 := Classical.byContradiction fun e => hc (.inr e)
    have hsub := (df_zero (small_getD hsm x) hq128).1 hdf
    have hcard := card_add hx hxf
    have hcn := cardN_le n (q.2 ||| 2 ^ x)
    have hval : ∀ y ∈ bitsL (w.getD x 0), ∃ v : Nat, q.1.getD y (-1) = v ∧ v < cardN n q.2 ∧ Num w y v := fun y hy => h.yes y (hsub y (List.mem_filter.1 hy).2)
    have hmlt : mexS q.1 (bitsL (w.getD x 0)) 0 < 2 ^ cardN n q.2 := mexS_lt _ _ _ _ Nat.one_le_two_pow (fun y hy => by
      obtain ⟨v, e, hv, _⟩ := hval y hy
      rw [e]; simpa using hv)
    have hp7 : 2 ^ cardN n q.2 ≤ 2 ^ 7 := Nat.pow_le_pow_right (by omega) (by omega)
    have hm128 : mexS q.1 (bitsL (w.getD x 0)) 0 < 128 := by omega
    have hml := mexM_le (by omega) hmlt
    obtain ⟨hs1, hs2⟩ := mexM_spec hm128
    have hnum : Num w x (mexM (mexS q.1 (bitsL (w.getD x 0)) 0)) := by
      refine .mk x (fun y => (q.1.getD y (-1)).toNat) _ (fun y hy => ?_) ⟨fun hm => ?_, fun j hj => ?_⟩
      · obtain ⟨v, e, _, hv⟩ := hval y hy
        rw [e, Int.toNat_natCast]; exact hv
      · rw [mexS_bit, Nat.zero_testBit, Bool.false_or, decide_eq_false_iff_not] at hs1
        exact hs1 hm
      · have := hs2 j hj
        rw [mexS_bit, Nat.zero_testBit, Bool.false_or, decide_eq_true_iff] at this
        exact this
    refine ⟨⟨?_, ?_, fun y hy => ?_, fun y hy hb => ?_⟩, .inr ⟨hxf, rfl⟩⟩
    · show (q.1.set x _).length = n
      rw [List.length_set]; exact h.len
    · exact Nat.or_lt_two_pow h.lt (Nat.pow_lt_pow_right (by omega) hx)
    · show ∃ v : Nat, (q.1.set x _).getD y (-1) = v ∧ v < cardN n (q.2 ||| 2 ^ x) ∧ Num w y v
      rw [getDi_set _ _ _ _ (by rw [h.len]; exact hx)]
      by_cases e : y = x
      · subst e
        exact ⟨_, if_pos rfl, by omega, hnum⟩
      · rw [if_neg e]
        have hy' : q.2.testBit y = true := by
          have hy2 : (q.2 ||| 2 ^ x).testBit y = true := hy
          rw [Nat.testBit_or, Nat.testBit_two_pow, Bool.or_eq_true, decide_eq_true_iff] at hy2
          exact hy2.resolve_right (fun h2 => e h2.symm)
        obtain ⟨v, e1, e2, e3⟩ := h.yes y hy'
        exact ⟨v, e1, by omega, e3⟩
    · show (q.1.set x _).getD y (-1) = -1
      have hb2 : (q.2 ||| 2 ^ x).testBit y = false := hb
      rw [Nat.testBit_or, Nat.testBit_two_pow, Bool.or_eq_false_iff, decide_eq_false_iff_not] at hb2
      rw [getDi_set _ _ _ _ (by rw [h.len]; exact hx), if_neg (fun e => hb2.2 e.symm)]
      exact h.no y hy hb2.1
def Closed (w : List Nat) (n : Nat) (K : Nat) : Prop := ∀ x, x < n → K.testBit x = true ∨ dfN (w.getD x 0) K ≠ 0
/-- A round: all that could be known is, or one more is. -/
theorem num_round {w : List Nat} {n : Nat} (hn : n ≤ 7) (hsm : ∀ x ∈ w, x < 128) (hwn : ∀ a b, (w.getD a 0).testBit b = true → b < n) : ∀ (l : List Nat) (q : List Int × Nat), Know w n q → (∀ x ∈ l, x < n) →
    Know w n (l.foldl (numStep w) q) ∧ ((l.foldl (numStep w) q = q ∧ ∀ x ∈ l, q.2.testBit x = true ∨ dfN (w.getD x 0) q.2 ≠ 0) ∨ cardN n q.2 < cardN n (l.foldl (numStep w) q).2)
  | [], q, h, _ => ⟨h, .inl ⟨rfl, by simp⟩⟩
  | x :: r, q, h, hl => by
    obtain ⟨h1, h2⟩ := num_step hn hsm hwn h (hl x (by simp))
    obtain ⟨h3, h4⟩ := num_round hn hsm hwn r _ h1 (fun y hy => hl y (by simp [hy]))
    rw [List.foldl_cons]
    refine ⟨h3, ?_⟩
    rcases h2 with ⟨e, hc⟩ | ⟨hf, e⟩
    · rw [e] at h4 ⊢
      rcases h4 with ⟨e2, h5⟩ | h5
      · left
        refine ⟨e2, fun y hy => ?_⟩
        rcases List.mem_cons.1 hy with rfl | hy
        · exact hc
        · exact h5 y hy
      · exact .inr h5
    · right
      have hca := card_add (hl x (by simp)) hf
      rw [← e] at hca
      rcases h4 with ⟨e2, _⟩ | h5
      · rw [e2]; exact hca
      · omega
theorem num_rounds {w : List Nat} {n : Nat} (hn : n ≤ 7) (hsm : ∀ x ∈ w, x < 128) (hwn : ∀ a b, (w.getD a 0).testBit b = true → b < n) : ∀ (k : Nat) (q : List Int × Nat), Know w n q → Know w n (numR w n k q) ∧ (Closed w n (numR w n k q).2 ∨ cardN n q.2 + k ≤ cardN n (numR w n k q).2)
  | 0, q, h => ⟨h, .inr (Nat.le_refl _)⟩
  | k + 1, q, h => by
    obtain ⟨h1, h2⟩ := num_round hn hsm hwn (List.range' 0 n) q h (fun x hx => by rw [List.mem_range'_1] at hx; omega)
    have e : (List.range' 0 n).foldl (numStep w) q = numRound w n q := rfl
    rw [e] at h1 h2
    obtain ⟨h3, h4⟩ := num_rounds hn hsm hwn k (numRound w n q) h1
    refine ⟨h3, ?_⟩
    show Closed w n (numR w n k (numRound w n q)).2 ∨ cardN n q.2 + (k + 1) ≤ cardN n (numR w n k (numRound w n q)).2
    rcases h2 with ⟨e2, hc⟩ | h2
    · left
      have hfix : ∀ k, numR w n k q = q := by
        intro k
        induction k with
        | zero => rfl
        | succ k ih => show numR w n k (numRound w n q) = q; rw [e2]; exact ih
      rw [e2, hfix]
      exact fun x hx => hc x (by rw [List.mem_range'_1]; omega)
    · rcases h4 with h4 | h4
      · exact .inl h4
      · right; omega
theorem know_start (w : List Nat) (n : Nat) : Know w n (negL n, 0) := by
  refine ⟨by simp [negL], Nat.one_le_two_pow, fun y hy => by simp at hy, fun y hy _ => ?_⟩
  unfold negL
  rw [List.getD_eq_getElem?_getD, List.getElem?_replicate]; split <;> rfl
theorem card_full {n k : Nat} (h : n ≤ cardN n k) {x : Nat} (hx : x < n) : k.testBit x = true := by
  cases e : k.testBit x
  · have := filter_len_lt (p := k.testBit) (q := fun _ => true) (List.range n) (fun _ _ _ => rfl) ⟨x, List.mem_range.2 hx, rfl, e⟩
    have h2 : ((List.range n).filter fun _ => true).length = n := by rw [List.filter_eq_self.2 (fun _ _ => rfl), List.length_range]
    unfold cardN at h; omega
  · rfl

attribute [local go_sem high] and_one shr_u shl_one or_u and_u
attribute [local go_sem] shaped_t cells_t isAgg_t storable_t okRef_t pub_t

/-! ### numbers, or a circle -/
theorem walk_cyc {J : Nat → Nat → Prop} : ∀ (k : Nat) (c : List Nat), c.length = k → Ch J c → ¬ c.Nodup → ∃ d, d.Nodup ∧ Cyc J d ∧ ∀ y ∈ d, y ∈ c := by
  intro k
  induction k using Nat.strongRecOn with
  | ind k ih =>
    intro c hl hc hn
    obtain ⟨A, x, B, C, rfl⟩ := not_nodup c hn
    have h1 := (ch_split x (B ++ x :: C) A).1 hc
    have e2 : x :: (B ++ x :: C) = (x :: B) ++ x :: C := rfl
    have h2 := (ch_split x C (x :: B)).1 (by rw [← e2]; exact h1.2)
    by_cases hb : (x :: B).Nodup
    · exact ⟨x :: B, hb, ⟨x, B, rfl, h2.1⟩, fun y hy => by
        simp only [List.mem_append, List.mem_cons] at hy ⊢
        rcases hy with rfl | hy
        · exact .inr (.inl rfl)
        · exact .inr (.inr (.inl hy))⟩
    · have hch : Ch J (x :: B) := by
        have := h2.1
        rw [ch_snoc x (x :: B) (by simp)] at this
        exact this.1
      obtain ⟨d, d1, d2, d3⟩ := ih (x :: B).length (by rw [← hl]; simp; omega) (x :: B) rfl hch hb
      exact ⟨d, d1, d2, fun y hy => by
        have := d3 y hy
        simp only [List.mem_append, List.mem_cons] at this ⊢
        rcases this with rfl | h
        · exact .inr (.inl rfl)
        · exact .inr (.inr (.inl h))⟩
theorem walk_on {J : Nat → Nat → Prop} {S : Nat → Prop} (hS : ∀ x, S x → ∃ y, S y ∧ J x y) : ∀ (k : Nat) (x : Nat), S x → ∃ c, c.length = k + 1 ∧ Ch J c ∧ (∀ y ∈ c, S y) ∧ ∃ r, c = x :: r
  | 0, x, h => ⟨[x], rfl, trivial, by simpa using h, [], rfl⟩
  | k + 1, x, h => by
    obtain ⟨y, hy, hj⟩ := hS x h
    obtain ⟨c, h1, h2, h3, r, rfl⟩ := walk_on hS k y hy
    exact ⟨x :: y :: r, by rw [← h1]; rfl, ⟨hj, h2⟩, fun z hz => by
      rcases List.mem_cons.1 hz with rfl | hz
      · exact h
      · exact h3 z hz, y :: r, rfl⟩
theorem cyc_next {J : Nat → Nat → Prop} {c : List Nat} (h : Cyc J c) : ∀ x ∈ c, ∃ y ∈ c, J x y := by
  obtain ⟨a, r, rfl, hc⟩ := h
  have key : ∀ (l : List Nat) (z : Nat), Ch J (l ++ [z]) → ∀ x ∈ l, ∃ y, (y ∈ l ∨ y = z) ∧ J x y := by
    intro l
    induction l with
    | nil => intro z _ x hx; simp at hx
    | cons b l ih =>
      intro z hch x hx
      cases l with
      | nil =>
        simp at hx; subst hx
        exact ⟨z, .inr rfl, hch.1⟩
      | cons b2 l =>
        rcases List.mem_cons.1 hx with rfl | hx
        · exact ⟨b2, .inl (by simp), hch.1⟩
        · obtain ⟨y, hy, hj⟩ := ih z hch.2 x hx
          exact ⟨y, hy.imp (fun h => by simp only [List.mem_cons] at h ⊢; exact .inr h) id, hj⟩
  intro x hx
  obtain ⟨y, hy, hj⟩ := key (a :: r) a hc x hx
  exact ⟨y, hy.elim id (fun h => by rw [h]; simp), hj⟩
/-- If all have numbers there is no circle; if some word sees on and on there is one. -/
theorem no_circ {n : Nat} (hn : n ≤ 7) {w : List Nat} (h : ∀ x, x < n → ∃ v, Num w x v) : circL n w = [] := by
  cases hc : circL n w with
  | nil => rfl
  | cons c r =>
    exfalso
    have hm : c ∈ circL n w := by rw [hc]; simp
    obtain ⟨a, s, e, ha, h2, h3, h4, h5, h6⟩ := (circ_iff hn w c).1 hm
    have hcyc : Cyc (Jw w) c := ⟨a, s, e, (ch_snoc a c (by rw [e]; simp)).2 ⟨h5, h6⟩⟩
    have hcl := (circ_lt hn c hm).2.2.1
    have hS : ∀ x, x ∈ c → ∃ y, y ∈ c ∧ y ∈ bitsL (w.getD x 0) := fun x hx => by
      obtain ⟨y, hy, hj⟩ := cyc_next hcyc x hx
      exact ⟨y, hy, List.mem_filter.2 ⟨List.mem_range.2 (by have := hcl y hy; omega), hj⟩⟩
    obtain ⟨v, hv⟩ := h a ha
    exact num_stop hS hv (by rw [e]; simp)
theorem some_circ {n : Nat} (hn : n ≤ 7) {w : List Nat} (hsm : ∀ x ∈ w, x < 128) (hwn : ∀ a b, (w.getD a 0).testBit b = true → b < n) (hself : ∀ x, (w.getD x 0).testBit x = false) {K : Nat} (hK : K < 128) (hc : Closed w n K) {x : Nat} (hx : x < n) (hb : K.testBit x = false) : circL n w ≠ [] := by
  have hS : ∀ x, (x < n ∧ K.testBit x = false) → ∃ y, (y < n ∧ K.testBit y = false) ∧ Jw w x y := by
    rintro x ⟨hx, hb⟩
    have h1 := (hc x hx).resolve_left (by rw [hb]; simp)
    apply Classical.byContradiction
    intro hno
    apply h1
    rw [df_zero (small_getD hsm x) hK]
    intro y hy
    cases e : K.testBit y
    · exact absurd ⟨y, ⟨hwn x y hy, e⟩, hy⟩ hno
    · rfl
  obtain ⟨c, h1, h2, h3, _⟩ := walk_on hS n x ⟨hx, hb⟩
  have hnn : ¬ c.Nodup := fun hnd => by
    have := nodup_len_le c (List.range n) hnd (fun y hy => List.mem_range.2 (h3 y hy).1)
    rw [List.length_range] at this; omega
  obtain ⟨d, d1, d2, d3⟩ := walk_cyc _ c rfl h2 hnn
  have hl : 1 < d.length := by
    obtain ⟨a, r, rfl, hch⟩ := d2
    cases r with
    | nil =>
      have hj : Jw w a a := hch.1
      unfold Jw at hj
      rw [hself] at hj; simp at hj
    | cons b r => simp
  obtain ⟨A, m, B, _, hm⟩ := circ_of hn d1 hl d2 (fun y hy => (h3 y (d3 y hy)).1)
  intro e
  rw [e] at hm; simp at hm

/-! ### the program's loops -/
theorem getI (O : List Int) (a : Nat) (h : a < O.length) : (O.map I)[a]? = some (I (O.getD a (-1))) := by
  rw [getm I O (-1) a, if_pos h]
theorem loop34_0 (nl : Bool) (n : Nat) (hn : n ≤ 7) (ps : List (Int × Int)) (w : List Nat) (O : List Int) (hO : O.length = n) (K x : Nat) (r : Int) (G : List Nat) (hG : ∀ y ∈ G, y < n ∧ ∃ v : Nat, O.getD y (-1) = v ∧ v < 7) (hGl : G.length ≤ 7) (i : Nat) (m : Nat) (hok : i ≤ G.length ∧ m < 128) (env : Env) (st : St)
    (hg : gcAV true 3 0 (canon env [4, 6, 7, 8, 10, 26, 27, 32, 33, 34, 51, 52, 53]) st = ([(4, .ptr 1 0), (6, .rsl 2 0 n n 1 false), (7, U K), (8, J x), (10, U m), (26, J n), (27, I r), (32, .rsl 1 1 n 7 1 false), (33, J n), (34, J x), (51, sl 1 true (G.map J)), (52, J G.length), (53, J i)], ⟨[bkCells nl (n : Int) ps, webC (n : Int) w, O.map I], []⟩)) :
    ∃ x_1 en s, lim (headed pure (run L) true [4, 6, 7, 8, 10, 26, 27, 32, 33, 34, 51, 52, 53] lp34_0 3 0) env st = some (x_1, en, s) ∧ (x_1 = .exit 4 ∧ en.get 4 = .ptr 1 0 ∧ en.get 6 = .rsl 2 0 n n 1 false ∧ en.get 7 = U K ∧ en.get 8 = J x ∧ en.get 10 = U (mexS O (G.drop i) m) ∧ en.get 26 = J n ∧ en.get 27 = I r ∧ en.get 32 = .rsl 1 1 n 7 1 false ∧ en.get 33 = J n ∧ en.get 34 = J x ∧ s = ⟨[bkCells nl (n : Int) ps, webC (n : Int) w, O.map I], []⟩) := by
  refine loop_wp (α := Nat × Nat) (fun ⟨i, m⟩ => G.length - i) (fun ⟨i, m⟩ => i ≤ G.length ∧ m < 128) (fun ⟨i, m⟩ => ([(4, .ptr 1 0), (6, .rsl 2 0 n n 1 false), (7, U K), (8, J x), (10, U m), (26, J n), (27, I r), (32, .rsl 1 1 n 7 1 false), (33, J n), (34, J x), (51, sl 1 true (G.map J)), (52, J G.length), (53, J i)], ⟨[bkCells nl (n : Int) ps, webC (n : Int) w, O.map I], []⟩)) (fun ⟨i, m⟩ x_1 en s => x_1 = .exit 4 ∧ en.get 4 = .ptr 1 0 ∧ en.get 6 = .rsl 2 0 n n 1 false ∧ en.get 7 = U K ∧ en.get 8 = J x ∧ en.get 10 = U (mexS O (G.drop i) m) ∧ en.get 26 = J n ∧ en.get 27 = I r ∧ en.get 32 = .rsl 1 1 n 7 1 false ∧ en.get 33 = J n ∧ en.get 34 = J x ∧ s = ⟨[bkCells nl (n : Int) ps, webC (n : Int) w, O.map I], []⟩) (fun ⟨i, m⟩ hok => ?_) ⟨i, m⟩ hok env st hg
  simp only at hok
  obtain ⟨h1, h2⟩ := hok
  dsimp only at h1 h2 ⊢
  by_cases h : i < G.length
  · have hx := index_J true G i h
    have hs := succ64 i (by omega)
    have hlt : ((i : Int) < (G.length : Int)) = True := eq_true (by omega)
    have hd : G.drop i = G[i] :: G.drop (i + 1) := List.drop_eq_getElem_cons h
    obtain ⟨hy, v, hv, hv7⟩ := hG _ (List.getElem_mem h)
    rw [hd]
    generalize G[i] = y at *
    have hms : mexS O (y :: G.drop (i + 1)) m = mexS O (G.drop (i + 1)) (m ||| 2 ^ v) := by
      show mexS O (G.drop (i + 1)) (m ||| 2 ^ (O.getD y (-1)).toNat) = _
      rw [hv, Int.toNat_natCast]
    have g1 := getI O y (by omega)
    rw [hv] at g1
    have b1 : ((0 : Int) ≤ (y : Int)) = True := eq_true (by omega)
    have b2 : ((y : Int) < (n : Int)) = True := eq_true (by omega)
    have e1 : orU m (sh1 v) = m ||| 2 ^ v := by rw [(sh1_lt v hv7).1, orU_eq _ _ h2 (sh1_lt v hv7).2]
    have hlt2 : m ||| 2 ^ v < 128 := Nat.or_lt_two_pow (n := 7) h2 (sh1_lt v hv7).2
    rw [hms]
    generalize m ||| 2 ^ v = m2 at *
    simp only [go_sem, reduceIte, Nat.reduceEqDiff, Nat.reduceAdd, Nat.reduceSub, Nat.reduceLeDiff, Nat.reduceLT, reduceCtorEq, Int.reduceLT, Int.reduceLE, Int.reduceEq, Int.reduceBEq, Int.reduceSub, Int.reduceAdd, Int.reduceMul, Int.reduceNeg, Int.reduceToNat, Nat.reduceMul, Nat.reduceBEq, index_rsl_if, setm, make_ints, condK_dec, wantK_dec, not_dec, and_dec, or_dec, seqK_ite, seqK_none, blockK_ite, blockK_none, opsK_ite, opsK_none, stepK_ite, stepK_none, bodyK_ite, bodyK_none, resK_ite, resK_none, leaveK_ite, leaveK_none, only_ite, only_none, bind_ite, gives_some, gives_none, gives_ite, then_normal, then_ret, then_exit, then_none, then_ite, Option.bind_none, Bool.not_eq_true', decide_eq_false_iff_not, Bool.and_eq_true, Bool.or_eq_true, Option.some.injEq, Int.not_lt, Int.not_le, lp34_0, hx, hlt, hs, b1, b2, g1, e1]
    refine ⟨(i + 1, m2), by simp only [go_sem, reduceIte, Nat.reduceEqDiff, Nat.reduceAdd, Nat.reduceSub, Nat.reduceLeDiff, Nat.reduceLT, reduceCtorEq, Int.reduceLT, Int.reduceLE, Int.reduceEq, Int.reduceBEq, Int.reduceSub, Int.reduceAdd, Int.reduceMul, Int.reduceNeg, Int.reduceToNat, Nat.reduceMul, Nat.reduceBEq, ren1_locm, loc_tips, locT_eq, okRefsW, renCellsW] <;> rfl, ?_, ?_, fun x en s hq => ?_⟩
    · dsimp only; exact ⟨by omega, hlt2⟩
    · dsimp only; omega
    · exact hq
  · have hd : G.drop i = [] := List.drop_eq_nil_of_le (by omega)
    have hlt : ((i : Int) < (G.length : Int)) = False := eq_false (by omega)
    rw [hd]
    simp only [go_sem, reduceIte, Nat.reduceEqDiff, Nat.reduceAdd, Nat.reduceSub, Nat.reduceLeDiff, Nat.reduceLT, reduceCtorEq, Int.reduceLT, Int.reduceLE, Int.reduceEq, Int.reduceBEq, Int.reduceSub, Int.reduceAdd, Int.reduceMul, Int.reduceNeg, Int.reduceToNat, Nat.reduceMul, Nat.reduceBEq, index_rsl_if, setm, make_ints, condK_dec, wantK_dec, not_dec, and_dec, or_dec, seqK_ite, seqK_none, blockK_ite, blockK_none, opsK_ite, opsK_none, stepK_ite, stepK_none, bodyK_ite, bodyK_none, resK_ite, resK_none, leaveK_ite, leaveK_none, only_ite, only_none, bind_ite, gives_some, gives_none, gives_ite, then_normal, then_ret, then_exit, then_none, then_ite, Option.bind_none, Bool.not_eq_true', decide_eq_false_iff_not, Bool.and_eq_true, Bool.or_eq_true, Option.some.injEq, Int.not_lt, Int.not_le, lp34_0, hlt]
    rfl

attribute [local go_sem high] and_one shr_u shl_one or_u and_u
attribute [local go_sem] shaped_t cells_t isAgg_t storable_t okRef_t pub_t

theorem compl_all : (List.range 128).all (fun m => match binAV .xor none (.v (.int .u64 (if IntKind.u64.signed = true then -1 else IntKind.u64.max))) (U m) with | some (.v (.int .u64 z)) => decide (z = 18446744073709551615 - (m : Int)) | _ => false) = true := by kernel_rfl
theorem compl_u (m : Nat) (hm : m < 128) : binAV .xor none (.v (.int .u64 (if IntKind.u64.signed = true then -1 else IntKind.u64.max))) (U m) = some (cU m) := by
  have h := List.all_eq_true.1 compl_all m (List.mem_range.2 hm)
  revert h
  generalize binAV .xor none (.v (.int .u64 (if IntKind.u64.signed = true then -1 else IntKind.u64.max))) (U m) = o
  intro h
  match o with
  | some (.v (.int .u64 z)) =>
    simp only [decide_eq_true_eq] at h
    rw [h]

set_option maxHeartbeats 1000000 in
theorem loop34_1 (nl : Bool) (n : Nat) (hn : 1 ≤ n ∧ n ≤ 7) (ps : List (Int × Int)) (w : List Nat) (ho : w.length = 7) (hsm : ∀ x ∈ w, x < 128) (hwn : ∀ a b, (w.getD a 0).testBit b = true → b < n) (r : Int) (x : Nat) (q : List Int × Nat) (hok : x ≤ n ∧ Know w n q) (env : Env) (st : St)
    (hg : gcAV true 3 0 (canon env [4, 6, 7, 26, 27, 32, 33, 34]) st = ([(4, .ptr 1 0), (6, .rsl 2 0 n n 1 false), (7, U q.2), (26, J n), (27, I r), (32, .rsl 1 1 n 7 1 false), (33, J n), (34, J x)], ⟨[bkCells nl (n : Int) ps, webC (n : Int) w, q.1.map I], []⟩)) :
    ∃ x_1 en s, lim (headed pure (run L) true [4, 6, 7, 26, 27, 32, 33, 34] lp34_1 3 0) env st = some (x_1, en, s) ∧ (x_1 = .exit 2 ∧ en.get 4 = .ptr 1 0 ∧ en.get 6 = .rsl 2 0 n n 1 false ∧ en.get 7 = U ((List.range' x (n - x)).foldl (numStep w) q).2 ∧ en.get 26 = J n ∧ en.get 27 = I r ∧ s = ⟨[bkCells nl (n : Int) ps, webC (n : Int) w, ((List.range' x (n - x)).foldl (numStep w) q).1.map I], []⟩ ∧ Know w n ((List.range' x (n - x)).foldl (numStep w) q)) := by
  refine loop_wp (α := Nat × List Int × Nat) (fun ⟨x, q⟩ => n - x) (fun ⟨x, q⟩ => x ≤ n ∧ Know w n q) (fun ⟨x, q⟩ => ([(4, .ptr 1 0), (6, .rsl 2 0 n n 1 false), (7, U q.2), (26, J n), (27, I r), (32, .rsl 1 1 n 7 1 false), (33, J n), (34, J x)], ⟨[bkCells nl (n : Int) ps, webC (n : Int) w, q.1.map I], []⟩)) (fun ⟨x, q⟩ x_1 en s => x_1 = .exit 2 ∧ en.get 4 = .ptr 1 0 ∧ en.get 6 = .rsl 2 0 n n 1 false ∧ en.get 7 = U ((List.range' x (n - x)).foldl (numStep w) q).2 ∧ en.get 26 = J n ∧ en.get 27 = I r ∧ s = ⟨[bkCells nl (n : Int) ps, webC (n : Int) w, ((List.range' x (n - x)).foldl (numStep w) q).1.map I], []⟩ ∧ Know w n ((List.range' x (n - x)).foldl (numStep w) q)) (fun ⟨x, q⟩ hok => ?_) ⟨x, q⟩ hok env st hg
  simp only at hok
  obtain ⟨h1, h2⟩ := hok
  dsimp only at h1 h2 ⊢
  by_cases h : x < n
  · have hs := succ64 x (by omega)
    have hlt : ((x : Int) < (n : Int)) = True := eq_true (by omega)
    have hr : List.range' x (n - x) = x :: List.range' (x + 1) (n - (x + 1)) := by
      rw [show n - x = (n - (x + 1)) + 1 by omega, List.range'_succ]
    have hk2 := (num_step hn.2 hsm hwn h2 h).1
    have hns : numStep w q x = if q.2.testBit x = true ∨ dfN (w.getD x 0) q.2 ≠ 0 then q else (q.1.set x ((mexM (mexS q.1 (bitsL (w.getD x 0)) 0) : Nat) : Int), q.2 ||| 2 ^ x) := rfl
    have hq128 : q.2 < 128 := Nat.lt_of_lt_of_le h2.lt (Nat.pow_le_pow_right (n := 2) (by omega) hn.2)
    have g1 := getW (n : Int) w x (by omega)
    have hlw := lenW (n : Int) w
    rw [ho] at hlw
    have b0 : ((0 : Int) ≤ (x : Int)) = True := eq_true (by omega)
    have b1 : (1 + x + 1 ≤ 8) = True := eq_true (by omega)
    have b7 : (x + 1 ≤ n) = True := eq_true (by omega)
    have hb := bit_one q.2 x
    have hmk := min64 x (by omega)
    have hsx := small_getD hsm x
    have hdf := dfU_eq (w.getD x 0) q.2 hsx hq128
    have hdf0 : (((dfN (w.getD x 0) q.2 : Nat) : Int) = 0) = (dfN (w.getD x 0) q.2 = 0) := propext (by omega)
    rw [hr, List.foldl_cons]
    by_cases p1 : q.2.testBit x = true
    · rw [if_pos (.inl p1)] at hns
      rw [hns]
      generalize w.getD x 0 = v at *
      simp only [go_sem, reduceIte, Nat.reduceEqDiff, Nat.reduceAdd, Nat.reduceSub, Nat.reduceLeDiff, Nat.reduceLT, reduceCtorEq, Int.reduceLT, Int.reduceLE, Int.reduceEq, Int.reduceBEq, Int.reduceSub, Int.reduceAdd, Int.reduceMul, Int.reduceNeg, Int.reduceToNat, Nat.reduceMul, Nat.reduceBEq, index_rsl_if, setm, make_ints, condK_dec, wantK_dec, not_dec, and_dec, or_dec, seqK_ite, seqK_none, blockK_ite, blockK_none, opsK_ite, opsK_none, stepK_ite, stepK_none, bodyK_ite, bodyK_none, resK_ite, resK_none, leaveK_ite, leaveK_none, only_ite, only_none, bind_ite, gives_some, gives_none, gives_ite, then_normal, then_ret, then_exit, then_none, then_ite, Option.bind_none, Bool.not_eq_true', decide_eq_false_iff_not, Bool.and_eq_true, Bool.or_eq_true, Option.some.injEq, Int.not_lt, Int.not_le, lp34_1, hlt, hs, g1, hlw, b0, b1, hmk, hb, p1]
      refine ⟨(x + 1, q), by simp only [go_sem, reduceIte, Nat.reduceEqDiff, Nat.reduceAdd, Nat.reduceSub, Nat.reduceLeDiff, Nat.reduceLT, reduceCtorEq, Int.reduceLT, Int.reduceLE, Int.reduceEq, Int.reduceBEq, Int.reduceSub, Int.reduceAdd, Int.reduceMul, Int.reduceNeg, Int.reduceToNat, Nat.reduceMul, Nat.reduceBEq, ren1_locm, loc_tips, locT_eq, okRefsW, renCellsW] <;> rfl, ?_, ?_, fun x en s hq => ?_⟩
      · dsimp only; exact ⟨by omega, h2⟩
      · dsimp only; omega
      · exact hq
    · have p1' : (q.2.testBit x = true) = False := eq_false p1
      by_cases p2 : dfN (w.getD x 0) q.2 = 0
      · rw [if_neg (fun hh => hh.elim p1 (fun h => h p2))] at hns
        have hxf : q.2.testBit x = false := by simpa using p1
        have hsub := (df_zero hsx hq128).1 p2
        have hcn := cardN_le n q.2
        have hcx := card_add h hxf
        have hcn2 := cardN_le n (q.2 ||| 2 ^ x)
        have hG : ∀ y ∈ bitsL (w.getD x 0), y < n ∧ ∃ v : Nat, q.1.getD y (-1) = v ∧ v < 7 := fun y hy => by
          have hyb := (List.mem_filter.1 hy).2
          obtain ⟨v, e, hv, _⟩ := h2.yes y (hsub y hyb)
          exact ⟨hwn x y hyb, v, e, by omega⟩
        have hp7 : 2 ^ cardN n q.2 ≤ 2 ^ 6 := Nat.pow_le_pow_right (by omega) (by omega)
        have hmlt : mexS q.1 (bitsL (w.getD x 0)) 0 < 2 ^ cardN n q.2 := mexS_lt _ _ _ _ Nat.one_le_two_pow (fun y hy => by
          obtain ⟨v, e, hv, _⟩ := h2.yes y (hsub y (List.mem_filter.1 hy).2)
          rw [e]; simpa using hv)
        have hm128 : mexS q.1 (bitsL (w.getD x 0)) 0 < 128 := by omega
        have hcm := compl_u _ hm128
        have h52 := fun st => c52c _ hm128 st
        have h67 := fun st => c67 (w.getD x 0) hsx st
        rw [memb_J] at h67
        have hbl := bits_len (w.getD x 0)
        have hset : (q.1.map I).set x (I (((mexM (mexS q.1 (bitsL (w.getD x 0)) 0)) : Nat) : Int)) = (numStep w q x).1.map I := by rw [hns, List.map_set]
        have hor : orU q.2 (sh1 x) = (numStep w q x).2 := by rw [hns, (sh1_lt x (by omega)).1, orU_eq _ _ hq128 (sh1_lt x (by omega)).2]
        have hql : q.1.length = n := h2.len
        have hlG : lenAV (sl 1 true ((bitsL (w.getD x 0)).map J)) = some (I (bitsL (w.getD x 0)).length) := by rw [len_sl, List.length_map]
        simp only [go_sem, reduceIte, Nat.reduceEqDiff, Nat.reduceAdd, Nat.reduceSub, Nat.reduceLeDiff, Nat.reduceLT, reduceCtorEq, Int.reduceLT, Int.reduceLE, Int.reduceEq, Int.reduceBEq, Int.reduceSub, Int.reduceAdd, Int.reduceMul, Int.reduceNeg, Int.reduceToNat, Nat.reduceMul, Nat.reduceBEq, index_rsl_if, setm, make_ints, condK_dec, wantK_dec, not_dec, and_dec, or_dec, seqK_ite, seqK_none, blockK_ite, blockK_none, opsK_ite, opsK_none, stepK_ite, stepK_none, bodyK_ite, bodyK_none, resK_ite, resK_none, leaveK_ite, leaveK_none, only_ite, only_none, bind_ite, gives_some, gives_none, gives_ite, then_normal, then_ret, then_exit, then_none, then_ite, Option.bind_none, Bool.not_eq_true', decide_eq_false_iff_not, Bool.and_eq_true, Bool.or_eq_true, Option.some.injEq, Int.not_lt, Int.not_le, lp34_1, hlt, hs, g1, hlw, b0, b1, hmk, hb, p1', hdf, hdf0, p2, h67, List.length_map]
        generalize hg : lim (headed pure (run L) true _ lp34_0 _ _) _ _ = o
        obtain ⟨x, en, s, rfl, h2⟩ : ∃ x en s, o = some (x, en, s) ∧ _ := by rw [← hg]; exact loop34_0 nl n hn.2 ps w q.1 hql q.2 x r (bitsL (w.getD x 0)) hG hbl 0 0 ⟨by omega, by omega⟩ _ _ (by simp only [go_sem, reduceIte, Nat.reduceEqDiff, Nat.reduceAdd, Nat.reduceSub, Nat.reduceLeDiff, Nat.reduceLT, reduceCtorEq, Int.reduceLT, Int.reduceLE, Int.reduceEq, Int.reduceBEq, Int.reduceSub, Int.reduceAdd, Int.reduceMul, Int.reduceNeg, Int.reduceToNat, Nat.reduceMul, Nat.reduceBEq, okRefsW, renCellsW, Int.natCast_zero] <;> rfl)
        clear hg
        rw [List.drop_zero] at h2
        obtain ⟨rfl, e4, e6, e7, e8, e10, e26, e27, e32, e33, e34, rfl⟩ := h2
        generalize numStep w q x = q2 at *
        generalize mexS q.1 (bitsL (w.getD x 0)) 0 = m at *
        simp only [go_sem, reduceIte, Nat.reduceEqDiff, Nat.reduceAdd, Nat.reduceSub, Nat.reduceLeDiff, Nat.reduceLT, reduceCtorEq, Int.reduceLT, Int.reduceLE, Int.reduceEq, Int.reduceBEq, Int.reduceSub, Int.reduceAdd, Int.reduceMul, Int.reduceNeg, Int.reduceToNat, Nat.reduceMul, Nat.reduceBEq, index_rsl_if, setm, make_ints, condK_dec, wantK_dec, not_dec, and_dec, or_dec, seqK_ite, seqK_none, blockK_ite, blockK_none, opsK_ite, opsK_none, stepK_ite, stepK_none, bodyK_ite, bodyK_none, resK_ite, resK_none, leaveK_ite, leaveK_none, only_ite, only_none, bind_ite, gives_some, gives_none, gives_ite, then_normal, then_ret, then_exit, then_none, then_ite, Option.bind_none, Bool.not_eq_true', decide_eq_false_iff_not, Bool.and_eq_true, Bool.or_eq_true, Option.some.injEq, Int.not_lt, Int.not_le, lp34_1, hs, e4, e6, e7, e8, e10, e26, e27, e32, e33, e34, hcm, h52, b0, hlt, hset, hor, hql, b7, List.length_map]
        refine ⟨(x + 1, q2), by simp only [go_sem, reduceIte, Nat.reduceEqDiff, Nat.reduceAdd, Nat.reduceSub, Nat.reduceLeDiff, Nat.reduceLT, reduceCtorEq, Int.reduceLT, Int.reduceLE, Int.reduceEq, Int.reduceBEq, Int.reduceSub, Int.reduceAdd, Int.reduceMul, Int.reduceNeg, Int.reduceToNat, Nat.reduceMul, Nat.reduceBEq, ren1_locm, loc_tips, locT_eq, okRefsW, renCellsW, e4, e6, e7, e8, e10, e26, e27, e32, e33, e34] <;> rfl, ?_, ?_, fun x en s hq => ?_⟩
        · dsimp only; exact ⟨by omega, hk2⟩
        · dsimp only; omega
        · exact hq
      · rw [if_pos (.inr p2)] at hns
        rw [hns]
        generalize w.getD x 0 = v at *
        simp only [go_sem, reduceIte, Nat.reduceEqDiff, Nat.reduceAdd, Nat.reduceSub, Nat.reduceLeDiff, Nat.reduceLT, reduceCtorEq, Int.reduceLT, Int.reduceLE, Int.reduceEq, Int.reduceBEq, Int.reduceSub, Int.reduceAdd, Int.reduceMul, Int.reduceNeg, Int.reduceToNat, Nat.reduceMul, Nat.reduceBEq, index_rsl_if, setm, make_ints, condK_dec, wantK_dec, not_dec, and_dec, or_dec, seqK_ite, seqK_none, blockK_ite, blockK_none, opsK_ite, opsK_none, stepK_ite, stepK_none, bodyK_ite, bodyK_none, resK_ite, resK_none, leaveK_ite, leaveK_none, only_ite, only_none, bind_ite, gives_some, gives_none, gives_ite, then_normal, then_ret, then_exit, then_none, then_ite, Option.bind_none, Bool.not_eq_true', decide_eq_false_iff_not, Bool.and_eq_true, Bool.or_eq_true, Option.some.injEq, Int.not_lt, Int.not_le, lp34_1, hlt, hs, g1, hlw, b0, b1, hmk, hb, p1', hdf, hdf0, p2]
        refine ⟨(x + 1, q), by simp only [go_sem, reduceIte, Nat.reduceEqDiff, Nat.reduceAdd, Nat.reduceSub, Nat.reduceLeDiff, Nat.reduceLT, reduceCtorEq, Int.reduceLT, Int.reduceLE, Int.reduceEq, Int.reduceBEq, Int.reduceSub, Int.reduceAdd, Int.reduceMul, Int.reduceNeg, Int.reduceToNat, Nat.reduceMul, Nat.reduceBEq, ren1_locm, loc_tips, locT_eq, okRefsW, renCellsW] <;> rfl, ?_, ?_, fun x en s hq => ?_⟩
        · dsimp only; exact ⟨by omega, h2⟩
        · dsimp only; omega
        · exact hq
  · have hr : n - x = 0 := by omega
    have hlt : ((x : Int) < (n : Int)) = False := eq_false (by omega)
    rw [hr]
    simp only [go_sem, reduceIte, Nat.reduceEqDiff, Nat.reduceAdd, Nat.reduceSub, Nat.reduceLeDiff, Nat.reduceLT, reduceCtorEq, Int.reduceLT, Int.reduceLE, Int.reduceEq, Int.reduceBEq, Int.reduceSub, Int.reduceAdd, Int.reduceMul, Int.reduceNeg, Int.reduceToNat, Nat.reduceMul, Nat.reduceBEq, index_rsl_if, setm, make_ints, condK_dec, wantK_dec, not_dec, and_dec, or_dec, seqK_ite, seqK_none, blockK_ite, blockK_none, opsK_ite, opsK_none, stepK_ite, stepK_none, bodyK_ite, bodyK_none, resK_ite, resK_none, leaveK_ite, leaveK_none, only_ite, only_none, bind_ite, gives_some, gives_none, gives_ite, then_normal, then_ret, then_exit, then_none, then_ite, Option.bind_none, Bool.not_eq_true', decide_eq_false_iff_not, Bool.and_eq_true, Bool.or_eq_true, Option.some.injEq, Int.not_lt, Int.not_le, lp34_1, hlt]
    exact ⟨rfl, rfl, h2⟩

attribute [local go_sem high] and_one shr_u shl_one or_u and_u
attribute [local go_sem] shaped_t cells_t isAgg_t storable_t okRef_t pub_t

theorem loop34_2 (nl : Bool) (n : Nat) (hn : 1 ≤ n ∧ n ≤ 7) (ps : List (Int × Int)) (w : List Nat) (ho : w.length = 7) (hsm : ∀ x ∈ w, x < 128) (hwn : ∀ a b, (w.getD a 0).testBit b = true → b < n) (r : Nat) (q : List Int × Nat) (hok : r ≤ n ∧ Know w n q) (env : Env) (st : St)
    (hg : gcAV true 3 0 (canon env [4, 6, 7, 26, 27]) st = ([(4, .ptr 1 0), (6, .rsl 2 0 n n 1 false), (7, U q.2), (26, J n), (27, J r)], ⟨[bkCells nl (n : Int) ps, webC (n : Int) w, q.1.map I], []⟩)) :
    ∃ x_1 en s, lim (headed pure (run L) true [4, 6, 7, 26, 27] lp34_2 3 0) env st = some (x_1, en, s) ∧ (x_1 = .exit 0 ∧ en.get 6 = .rsl 2 0 n n 1 false ∧ s = ⟨[bkCells nl (n : Int) ps, webC (n : Int) w, (numR w n (n - r) q).1.map I], []⟩) := by
  refine loop_wp (α := Nat × List Int × Nat) (fun ⟨r, q⟩ => n - r) (fun ⟨r, q⟩ => r ≤ n ∧ Know w n q) (fun ⟨r, q⟩ => ([(4, .ptr 1 0), (6, .rsl 2 0 n n 1 false), (7, U q.2), (26, J n), (27, J r)], ⟨[bkCells nl (n : Int) ps, webC (n : Int) w, q.1.map I], []⟩)) (fun ⟨r, q⟩ x_1 en s => x_1 = .exit 0 ∧ en.get 6 = .rsl 2 0 n n 1 false ∧ s = ⟨[bkCells nl (n : Int) ps, webC (n : Int) w, (numR w n (n - r) q).1.map I], []⟩) (fun ⟨r, q⟩ hok => ?_) ⟨r, q⟩ hok env st hg
  simp only at hok
  obtain ⟨h1, h2⟩ := hok
  dsimp only at h1 h2 ⊢
  by_cases h : r < n
  · have hs := succ64 r (by omega)
    have hlt : ((r : Int) < (n : Int)) = True := eq_true (by omega)
    have hr : numR w n (n - r) q = numR w n (n - (r + 1)) (numRound w n q) := by
      rw [show n - r = (n - (r + 1)) + 1 by omega]; rfl
    have g0 := getW0 (n : Int) w
    have hlw := lenW (n : Int) w
    rw [ho] at hlw
    have hsl : sliceaAV 7 1 false (.ptr 1 1) none (some (.v (.int .i64 (n : Int)))) none = some (.rsl 1 1 n 7 1 false) := by
      simp only [sliceaAV, natOr, natOf]
      simp; omega
    rw [hr]
    simp only [go_sem, reduceIte, Nat.reduceEqDiff, Nat.reduceAdd, Nat.reduceSub, Nat.reduceLeDiff, Nat.reduceLT, reduceCtorEq, Int.reduceLT, Int.reduceLE, Int.reduceEq, Int.reduceBEq, Int.reduceSub, Int.reduceAdd, Int.reduceMul, Int.reduceNeg, Int.reduceToNat, Nat.reduceMul, Nat.reduceBEq, index_rsl_if, setm, make_ints, condK_dec, wantK_dec, not_dec, and_dec, or_dec, seqK_ite, seqK_none, blockK_ite, blockK_none, opsK_ite, opsK_none, stepK_ite, stepK_none, bodyK_ite, bodyK_none, resK_ite, resK_none, leaveK_ite, leaveK_none, only_ite, only_none, bind_ite, gives_some, gives_none, gives_ite, then_normal, then_ret, then_exit, then_none, then_ite, Option.bind_none, Bool.not_eq_true', decide_eq_false_iff_not, Bool.and_eq_true, Bool.or_eq_true, Option.some.injEq, Int.not_lt, Int.not_le, lp34_2, hlt, hs, g0, hlw, hsl]
    generalize hg : lim (headed pure (run L) true _ lp34_1 _ _) _ _ = o
    obtain ⟨x, en, s, rfl, h2⟩ : ∃ x en s, o = some (x, en, s) ∧ _ := by rw [← hg]; exact loop34_1 nl n hn ps w ho hsm hwn (r : Int) 0 q ⟨by omega, h2⟩ _ _ (by simp only [go_sem, reduceIte, Nat.reduceEqDiff, Nat.reduceAdd, Nat.reduceSub, Nat.reduceLeDiff, Nat.reduceLT, reduceCtorEq, Int.reduceLT, Int.reduceLE, Int.reduceEq, Int.reduceBEq, Int.reduceSub, Int.reduceAdd, Int.reduceMul, Int.reduceNeg, Int.reduceToNat, Nat.reduceMul, Nat.reduceBEq, okRefsW, renCellsW, Int.natCast_zero] <;> rfl)
    clear hg
    rw [Nat.sub_zero] at h2
    obtain ⟨rfl, e4, e6, e7, e26, e27, rfl, hk⟩ := h2
    have hR : (List.range' 0 n).foldl (numStep w) q = numRound w n q := rfl
    rw [hR] at e7 hk
    rw [hR]
    generalize numRound w n q = q2 at *
    simp only [go_sem, reduceIte, Nat.reduceEqDiff, Nat.reduceAdd, Nat.reduceSub, Nat.reduceLeDiff, Nat.reduceLT, reduceCtorEq, Int.reduceLT, Int.reduceLE, Int.reduceEq, Int.reduceBEq, Int.reduceSub, Int.reduceAdd, Int.reduceMul, Int.reduceNeg, Int.reduceToNat, Nat.reduceMul, Nat.reduceBEq, index_rsl_if, setm, make_ints, condK_dec, wantK_dec, not_dec, and_dec, or_dec, seqK_ite, seqK_none, blockK_ite, blockK_none, opsK_ite, opsK_none, stepK_ite, stepK_none, bodyK_ite, bodyK_none, resK_ite, resK_none, leaveK_ite, leaveK_none, only_ite, only_none, bind_ite, gives_some, gives_none, gives_ite, then_normal, then_ret, then_exit, then_none, then_ite, Option.bind_none, Bool.not_eq_true', decide_eq_false_iff_not, Bool.and_eq_true, Bool.or_eq_true, Option.some.injEq, Int.not_lt, Int.not_le, lp34_2, hs, e4, e6, e7, e26, e27]
    refine ⟨(r + 1, q2), by simp only [go_sem, reduceIte, Nat.reduceEqDiff, Nat.reduceAdd, Nat.reduceSub, Nat.reduceLeDiff, Nat.reduceLT, reduceCtorEq, Int.reduceLT, Int.reduceLE, Int.reduceEq, Int.reduceBEq, Int.reduceSub, Int.reduceAdd, Int.reduceMul, Int.reduceNeg, Int.reduceToNat, Nat.reduceMul, Nat.reduceBEq, ren1_locm, loc_tips, locT_eq, okRefsW, renCellsW, e4, e6, e7, e26, e27] <;> rfl, ?_, ?_, fun x en s hq => ?_⟩
    · dsimp only; exact ⟨by omega, hk⟩
    · dsimp only; omega
    · exact hq
  · have hr : n - r = 0 := by omega
    have hlt : ((r : Int) < (n : Int)) = False := eq_false (by omega)
    rw [hr]
    simp only [go_sem, reduceIte, Nat.reduceEqDiff, Nat.reduceAdd, Nat.reduceSub, Nat.reduceLeDiff, Nat.reduceLT, reduceCtorEq, Int.reduceLT, Int.reduceLE, Int.reduceEq, Int.reduceBEq, Int.reduceSub, Int.reduceAdd, Int.reduceMul, Int.reduceNeg, Int.reduceToNat, Nat.reduceMul, Nat.reduceBEq, index_rsl_if, setm, make_ints, condK_dec, wantK_dec, not_dec, and_dec, or_dec, seqK_ite, seqK_none, blockK_ite, blockK_none, opsK_ite, opsK_none, stepK_ite, stepK_none, bodyK_ite, bodyK_none, resK_ite, resK_none, leaveK_ite, leaveK_none, only_ite, only_none, bind_ite, gives_some, gives_none, gives_ite, then_normal, then_ret, then_exit, then_none, then_ite, Option.bind_none, Bool.not_eq_true', decide_eq_false_iff_not, Bool.and_eq_true, Bool.or_eq_true, Option.some.injEq, Int.not_lt, Int.not_le, lp34_2, hlt]
    rfl

def numO (n : Nat) (w : List Nat) : List Int := (numR w n n (negL n, 0)).1
theorem num_all {n : Nat} (hn : n ≤ 7) {w : List Nat} (hsm : ∀ x ∈ w, x < 128) (hwn : ∀ a b, (w.getD a 0).testBit b = true → b < n) (hself : ∀ x, (w.getD x 0).testBit x = false) :
    (numO n w).length = n ∧ (circL n w = [] → ∀ x, x < n → ∃ v : Nat, (numO n w).getD x (-1) = v ∧ Num w x v) ∧ (circL n w ≠ [] → (-1 : Int) ∈ numO n w) := by
  obtain ⟨h1, h2⟩ := num_rounds hn hsm hwn n (negL n, 0) (know_start w n)
  have hK : (numR w n n (negL n, 0)).2 < 128 := Nat.lt_of_lt_of_le h1.lt (Nat.pow_le_pow_right (n := 2) (by omega) hn)
  refine ⟨h1.len, fun he x hx => ?_, fun he => ?_⟩
  · have hb : (numR w n n (negL n, 0)).2.testBit x = true := by
      rcases h2 with h2 | h2
      · cases e : (numR w n n (negL n, 0)).2.testBit x
        · exact absurd he (some_circ hn hsm hwn hself hK h2 hx e)
        · rfl
      · exact card_full (by omega) hx
    obtain ⟨v, e, _, hv⟩ := h1.yes x hb
    exact ⟨v, e, hv⟩
  · apply Classical.byContradiction
    intro hno
    apply he
    refine no_circ hn fun x hx => ?_
    cases e : (numR w n n (negL n, 0)).2.testBit x
    · have := h1.no x hx e
      exfalso
      apply hno
      have hl : x < (numO n w).length := by
        have := h1.len
        unfold numO; omega
      have e2 : (numO n w)[x] = -1 := by
        have : (numO n w).getD x (-1) = -1 := this
        rw [List.getD_eq_getElem?_getD, List.getElem?_eq_getElem hl] at this
        exact this
      rw [← e2]
      exact List.getElem_mem hl
    · obtain ⟨v, _, _, hv⟩ := h1.yes x e
      exact ⟨v, hv⟩
/-- What Numbers answers. -/
def numV (n : Int) (ps : List (Int × Int)) : List Int := if chk n ps = 0 then if allN n ps = [] then numO n.toNat (seeL 7 ps) else [] else []
def numE (n : Int) (ps : List (Int × Int)) : Int := if chk n ps = 0 then if allN n ps = [] then 0 else 13 else chk n ps
theorem self_no {ps : List (Int × Int)} {n : Int} (h3 : ∀ p ∈ ps, goodP n p) (h4 : ∀ p ∈ ps, okP p) (x : Nat) : ((seeL 7 ps).getD x 0).testBit x = false := by
  rw [seeL_bit (Nat.le_refl 7) h4, decide_eq_false_iff_not]
  intro h
  exact (h3 _ h).2.2.2.2 rfl
theorem frzV_made (l : Nat) (O : List Int) (h : O ≠ []) : frzV l (O.map I) (.rsl l 0 O.length O.length 1 false) = sl 1 true (O.map I) := by
  simp only [frzV, List.length_map, List.drop_zero]
  rw [if_pos ⟨trivial, by omega, .inr trivial, Nat.le_refl _⟩, pubs_map I (fun _ => rfl), groupm_one I (fun _ => rfl), sl_ne (by simpa using h)]
theorem frzVs_web (l : Nat) (cs : List AV) (n : Int) (w : List Nat) : frzVs l cs (webC n w) = webC n w := by
  unfold webC
  simp only [frzVs, frzV_v, frzVs_U]
set_option maxHeartbeats 1000000 in
theorem c34 (nl : Bool) (n : Int) (ps : List (Int × Int)) (st : St) : run L 34 [bkAV nl n ps] st = some (.tup [tAV (numV n ps), I (numE n ps)], st) := by
  rw [run_pure (fn := ir34) rfl rfl]
  have h65 := fun st => c65 nl n ps st
  unfold numV numE
  by_cases h : chk n ps = 0
  · obtain ⟨h1, hl16, h3, h4, h5⟩ := chk_zero h
    obtain ⟨k, rfl⟩ := Int.eq_ofNat_of_zero_le (show 0 ≤ n by omega)
    have hw : wovL (k : Int) ps = seeL 7 ps := by unfold wovL; rw [if_pos h]
    rw [hw] at h65
    rw [if_pos h, if_pos h, Int.toNat_natCast]
    have hwn := seeL_in (Nat.le_refl 7) (fun p hp => h3 p hp) h4
    obtain ⟨hol, ho1, ho2⟩ := num_all (by omega) (seeL_small 7 h4) hwn (self_no (fun p hp => h3 p hp) h4)
    have hall : circL k (seeL 7 ps) = allN (k : Int) ps := by unfold allN; rw [Int.toNat_natCast]
    rw [hall] at ho1 ho2
    have hlw := lenW (k : Int) (seeL 7 ps)
    rw [seeL_len] at hlw
    have hpw := putW (k : Int) (seeL 7 ps) (seeL_len 7 ps)
    have g0 := getW0 (k : Int) (seeL 7 ps)
    have h79 := c79 k (by omega) (by omega)
    have hshI : ∀ (m : Nat) (O : List Int), shVs m (O.map I) = O.map I := by
      intro m O
      induction O with
      | nil => rfl
      | cons x r ih => simp only [List.map_cons, shVs, shV, ih]
    have hone : numO k (seeL 7 ps) ≠ [] := by intro e; rw [e] at hol; simp at hol; omega
    have hfz := fun T env => frzL2c (a := bkCells nl (k : Int) ps) (b := webC (k : Int) (seeL 7 ps)) (cs := (numO k (seeL 7 ps)).map I) (by simpa using hone) T env
    have hfv := frzV_made 2 (numO k (seeL 7 ps)) hone
    rw [hol] at hfv
    have h57 := fun st => c57 true (numO k (seeL 7 ps)) (by omega) (-1) st
    have hnO : (numR (seeL 7 ps) k k (negL k, 0)).1 = numO k (seeL 7 ps) := rfl
    have et : tAV (numO k (seeL 7 ps)) = sl 1 true ((numO k (seeL 7 ps)).map I) := rfl
    simp only [ir34, go_sem, reduceIte, Nat.reduceEqDiff, Nat.reduceAdd, Nat.reduceSub, Nat.reduceLeDiff, Nat.reduceLT, reduceCtorEq, Int.reduceLT, Int.reduceLE, Int.reduceEq, Int.reduceBEq, Int.reduceSub, Int.reduceAdd, Int.reduceMul, Int.reduceNeg, Int.reduceToNat, Nat.reduceMul, Nat.reduceBEq, h65, h, hlw, hpw, g0, pubsW, storableW, h79, shV, shStore, hshI, show pure 79 = false from rfl]
    generalize hg : lim (headed pure (run L) true _ lp34_2 _ _) _ _ = o
    obtain ⟨x, en, s, rfl, h2⟩ : ∃ x en s, o = some (x, en, s) ∧ _ := by rw [← hg]; exact loop34_2 nl k (by omega) ps (seeL 7 ps) (seeL_len 7 ps) (seeL_small 7 h4) hwn 0 (negL k, 0) ⟨by omega, know_start _ _⟩ _ _ (by simp only [go_sem, reduceIte, Nat.reduceEqDiff, Nat.reduceAdd, Nat.reduceSub, Nat.reduceLeDiff, Nat.reduceLT, reduceCtorEq, Int.reduceLT, Int.reduceLE, Int.reduceEq, Int.reduceBEq, Int.reduceSub, Int.reduceAdd, Int.reduceMul, Int.reduceNeg, Int.reduceToNat, Nat.reduceMul, Nat.reduceBEq, okRefsW, renCellsW, Int.natCast_zero] <;> rfl)
    clear hg
    rw [Nat.sub_zero, hnO] at h2
    obtain ⟨rfl, e6, rfl⟩ := h2
    by_cases he : allN (k : Int) ps = []
    · have hno : ((-1 : Int) ∈ numO k (seeL 7 ps)) = False := eq_false (fun hm => by
        obtain ⟨x, hx, e⟩ := List.getElem_of_mem hm
        obtain ⟨v, e2, _⟩ := ho1 he x (by omega)
        rw [List.getD_eq_getElem?_getD, List.getElem?_eq_getElem hx, Option.getD_some, e] at e2
        omega)
      rw [if_pos he, if_pos he, et]
      simp only [go_sem, reduceIte, Nat.reduceEqDiff, Nat.reduceAdd, Nat.reduceSub, Nat.reduceLeDiff, Nat.reduceLT, reduceCtorEq, Int.reduceLT, Int.reduceLE, Int.reduceEq, Int.reduceBEq, Int.reduceSub, Int.reduceAdd, Int.reduceMul, Int.reduceNeg, Int.reduceToNat, Nat.reduceMul, Nat.reduceBEq, e6, code_frz, frzAV, frzT, frzLs, rslsOf, hfz, frzEnv, frzEnv_get, frzV_v, frzV_ptr, frzV_sl, frzV_agg, frzV_tup, frzVs, frzVs_web, hfv, h57, hno]
    · have hye : ((-1 : Int) ∈ numO k (seeL 7 ps)) = True := eq_true (ho2 he)
      rw [if_neg he, if_neg he]
      simp only [go_sem, reduceIte, Nat.reduceEqDiff, Nat.reduceAdd, Nat.reduceSub, Nat.reduceLeDiff, Nat.reduceLT, reduceCtorEq, Int.reduceLT, Int.reduceLE, Int.reduceEq, Int.reduceBEq, Int.reduceSub, Int.reduceAdd, Int.reduceMul, Int.reduceNeg, Int.reduceToNat, Nat.reduceMul, Nat.reduceBEq, e6, code_frz, frzAV, frzT, frzLs, rslsOf, hfz, frzEnv, frzEnv_get, frzV_v, frzV_ptr, frzV_sl, frzV_agg, frzV_tup, frzVs, frzVs_web, hfv, h57, hye]
      rfl
  · rw [if_neg h, if_neg h]
    have hl7 : (wovL n ps).length = 7 := by unfold wovL; rw [if_neg h]; simp
    have hlw := lenW n (wovL n ps)
    rw [hl7] at hlw
    have hpw := putW n (wovL n ps) hl7
    simp only [ir34, go_sem, reduceIte, Nat.reduceEqDiff, Nat.reduceAdd, Nat.reduceSub, Nat.reduceLeDiff, Nat.reduceLT, reduceCtorEq, Int.reduceLT, Int.reduceLE, Int.reduceEq, Int.reduceBEq, Int.reduceSub, Int.reduceAdd, Int.reduceMul, Int.reduceNeg, Int.reduceToNat, Nat.reduceMul, Nat.reduceBEq, h65, h, hlw, hpw, pubsW, storableW]
    rfl

attribute [local go_sem] shaped_t cells_t isAgg_t storable_t okRef_t pub_t okRef_out storable_out shaped_out cells_out fin_out pub_out

/-! ### other numbers for words -/
def swI (i k a : Nat) : Nat := if a = k then i else if a = i then k else a
theorem sw_sw (i k a : Nat) : swI i k (swI i k a) = a := by
  unfold swI
  repeat' split
  all_goals omega
theorem sw_lt {i k a : Nat} (hk : k ≤ i) (ha : a < i + 1) : swI i k a < i + 1 := by
  unfold swI
  repeat' split
  all_goals omega
def swapN (N : List Nat) (i k : Nat) : List Nat := (N.set i (N.getD k 0)).set k (N.getD i 0)
def nmStep (ys : List Int) (N : List Nat) (i : Nat) : List Nat := swapN (N.set i i) i (ys.getD i 0 % ((i : Int) + 1)).toNat
def nameL (n : Nat) (ys : List Int) : List Nat := (List.range' 0 n).foldl (nmStep ys) (List.replicate n 0)
/-- The first ones are different, and less. -/
structure PermTo (N : List Nat) (i : Nat) : Prop where
  lt : ∀ a, a < i → N.getD a 0 < i
  inj : ∀ a b, a < i → b < i → N.getD a 0 = N.getD b 0 → a = b
theorem swap_get {N : List Nat} {i k : Nat} (hi : i < N.length) (hk : k < N.length) (a : Nat) : (swapN N i k).getD a 0 = N.getD (swI i k a) 0 := by
  unfold swapN swI
  rw [getD_set _ k _ a (by rw [List.length_set]; exact hk)]
  by_cases h : a = k
  · rw [if_pos h, if_pos h]
  · rw [if_neg h, if_neg h, getD_set _ i _ a hi]
    by_cases h2 : a = i
    · rw [if_pos h2, if_pos h2]
    · rw [if_neg h2, if_neg h2]
theorem nm_k (ys : List Int) (i : Nat) : ((ys.getD i 0 % ((i : Int) + 1)).toNat) ≤ i ∧ ys.getD i 0 % ((i : Int) + 1) = (((ys.getD i 0 % ((i : Int) + 1)).toNat : Nat) : Int) := by
  have := mod_range (ys.getD i 0) ((i : Int) + 1) (by omega)
  omega
theorem nm_len (ys : List Int) : ∀ (l : List Nat) (N : List Nat), (l.foldl (nmStep ys) N).length = N.length
  | [], _ => rfl
  | i :: r, N => by rw [List.foldl_cons, nm_len ys r]; simp [nmStep, swapN]
theorem nm_step {ys : List Int} {N : List Nat} {i : Nat} (hi : i < N.length) (h : PermTo N i) : PermTo (nmStep ys N i) (i + 1) := by
  have hk := (nm_k ys i).1
  unfold nmStep
  generalize (ys.getD i 0 % ((i : Int) + 1)).toNat = k at *
  have hl : (N.set i i).length = N.length := List.length_set
  have hg := fun a => swap_get (N := N.set i i) (i := i) (k := k) (by omega) (by omega) a
  have hs := fun a => getD_set N i i a hi
  have hP : PermTo (N.set i i) (i + 1) := by
    refine ⟨fun a ha => ?_, fun a b ha hb e => ?_⟩
    · rw [hs]
      split
      · omega
      · have := h.lt a (by omega); omega
    · rw [hs, hs] at e
      by_cases h1 : a = i <;> by_cases h2 : b = i
      · omega
      · rw [if_pos h1, if_neg h2] at e
        have := h.lt b (by omega); omega
      · rw [if_neg h1, if_pos h2] at e
        have := h.lt a (by omega); omega
      · rw [if_neg h1, if_neg h2] at e
        exact h.inj a b (by omega) (by omega) e
  refine ⟨fun a ha => ?_, fun a b ha hb e => ?_⟩
  · rw [hg]; exact hP.lt _ (sw_lt hk ha)
  · rw [hg, hg] at e
    have := hP.inj _ _ (sw_lt hk ha) (sw_lt hk hb) e
    rw [← sw_sw i k a, this, sw_sw]
theorem nm_all {ys : List Int} : ∀ (k i : Nat) (N : List Nat), i + k ≤ N.length → PermTo N i → PermTo ((List.range' i k).foldl (nmStep ys) N) (i + k)
  | 0, _, _, _, h => h
  | k + 1, i, N, hl, h => by
    rw [List.range'_succ, List.foldl_cons, show i + (k + 1) = i + 1 + k by omega]
    exact nm_all k (i + 1) _ (by simp [nmStep, swapN]; omega) (nm_step (by omega) h)
theorem name_ok (n : Nat) (ys : List Int) : (nameL n ys).length = n ∧ PermTo (nameL n ys) n := by
  refine ⟨by unfold nameL; rw [nm_len]; simp, ?_⟩
  have := nm_all (ys := ys) n 0 (List.replicate n 0) (by simp) ⟨fun a h => by omega, fun a b h => by omega⟩
  rw [Nat.zero_add] at this
  exact this

attribute [local go_sem high] and_one shr_u shl_one or_u and_u
attribute [local go_sem] shaped_t cells_t isAgg_t storable_t okRef_t pub_t okRef_out storable_out shaped_out cells_out fin_out pub_out

theorem make_J (st : St) (n : Nat) (hn : n ≤ 100) : makeAV 1 false [.v (.int .i64 0)] st (J n) (J n) = some (.rsl st.store.length 0 n n 1 false, ⟨st.store ++ [(List.replicate n 0).map J], st.tips⟩) := by
  have h := make_ints st false (n : Int)
  rw [if_pos ⟨by omega, by unfold maxGrow; omega⟩, Int.toNat_natCast] at h
  rw [h]
  simp


/-! ### circles and references, counted two ways -/
theorem nodup_get {α : Type} {l : List α} (h : l.Nodup) {i j : Nat} (hi : i < l.length) (hj : j < l.length) (e : l[i] = l[j]) : i = j := by
  rcases Nat.lt_trichotomy i j with h1 | h1 | h1
  · exact absurd e (List.pairwise_iff_getElem.1 h i j hi hj h1)
  · exact h1
  · exact absurd e.symm (List.pairwise_iff_getElem.1 h j i hj hi h1)


/-! ### without a reference: as many circles fewer as it lies on -/
theorem asc_nodup {l : List (List Nat)} (h : Asc l) : l.Nodup := by
  unfold Asc at h
  exact List.Pairwise.imp (fun {a b} hab e => by subst e; rw [lex_irrefl] at hab; simp at hab) h


/-! ### a single circle -/
theorem perm_nodup {n : Nat} {N : List Nat} (hN : PermTo N n) (hl : N.length = n) : N.Nodup ∧ ∀ x ∈ N, x < n := by
  have hg : ∀ i (h : i < N.length), N.getD i 0 = N[i] := fun i h => by rw [List.getD_eq_getElem?_getD, List.getElem?_eq_getElem h]; rfl
  refine ⟨List.pairwise_iff_getElem.2 fun i j hi hj hij e => ?_, fun x hx => ?_⟩
  · have := hN.inj i j (by omega) (by omega) (by rw [hg i hi, hg j hj]; exact e)
    omega
  · obtain ⟨i, hi, rfl⟩ := List.getElem_of_mem hx
    rw [← hg i hi]; exact hN.lt i (by omega)
/-- Each word has its place. -/
theorem perm_on {n : Nat} {N : List Nat} (hN : PermTo N n) (hl : N.length = n) {x : Nat} (hx : x < n) : ∃ i, i < n ∧ N.getD i 0 = x := by
  obtain ⟨h1, h2⟩ := perm_nodup hN hl
  by_cases hm : x ∈ N
  · obtain ⟨i, hi, e⟩ := List.getElem_of_mem hm
    exact ⟨i, by omega, by rw [List.getD_eq_getElem?_getD, List.getElem?_eq_getElem hi]; exact e⟩
  · have := nodup_len_le (x :: N) (List.range n) (List.nodup_cons.2 ⟨hm, h1⟩) (fun y hy => by
      rcases List.mem_cons.1 hy with rfl | hy
      · exact List.mem_range.2 hx
      · exact List.mem_range.2 (h2 y hy))
    rw [List.length_range, List.length_cons] at this; omega

attribute [local go_sem] shaped_t cells_t isAgg_t storable_t okRef_t pub_t okRef_out storable_out shaped_out cells_out fin_out pub_out

theorem frzV_tA (l : Nat) (cs : List AV) (x : List Int) : frzV l cs (tAV x) = tAV x := frzV_sl l cs 1 true _
theorem frzVs_B8 (l : Nat) (cs : List AV) (xs : List Int) : frzVs l cs (xs.map B8) = xs.map B8 := frzVs_kind l cs (fun n => Value.int .u8 n) xs

attribute [local go_sem] shaped_t cells_t isAgg_t storable_t okRef_t pub_t okRef_out storable_out shaped_out cells_out fin_out pub_out

/-! ### all sets to which nothing can be added -/
theorem refsL_B (k : Nat) (acc : List Nat) (zs : List Int) : refsL k acc (zs.map B8) = acc := refsL_kind k (fun n => Value.int .u8 n) zs acc
theorem mapLs_B (k : Nat) (M : List Nat) (zs : List Int) : mapLs k M (zs.map B8) = zs.map B8 := mapLs_kind k M (fun n => Value.int .u8 n) zs


/-! ### references both ways: choices are the sets to which nothing can be added -/
theorem lt128 {n m : Nat} (hn : n ≤ 7) (hm : m < 2 ^ n) : m < 128 := Nat.lt_of_lt_of_le hm (Nat.le_trans (Nat.pow_le_pow_right (by omega) hn) (by decide))

attribute [local go_sem] shaped_t cells_t isAgg_t storable_t okRef_t pub_t okRef_out storable_out shaped_out cells_out fin_out pub_out

/-! ### other numbers for words, and the references the other way round -/
def renP (N : List Nat) (p : Int × Int) : Int × Int := (((N.getD p.1.toNat 0 : Nat) : Int), ((N.getD p.2.toNat 0 : Nat) : Int))
/-- References one behind another in the store. -/
def flP (o : List (Int × Int)) : List AV := o.flatMap fP
theorem flP_len (o : List (Int × Int)) : (flP o).length = 2 * o.length := by
  unfold flP
  induction o with
  | nil => rfl
  | cons p r ih => rw [List.flatMap_cons, List.length_append, ih, List.length_cons]; show 2 + 2 * r.length = 2 * (r.length + 1); omega
theorem flP_snoc (o : List (Int × Int)) (p : Int × Int) : flP (o ++ [p]) = flP o ++ fP p := by
  unfold flP; rw [List.flatMap_append]; simp
set_option maxHeartbeats 1000000 in
theorem loop16_0 (zs : List Int) (bn : Int) (ps : List (Int × Int)) (ys : List Int) (hyl : ys.length = 7) (hy : ∀ a ∈ ys, Byte a) (n : Nat) (hn : n ≤ 7) (i : Nat) (N : List Nat) (hok : i ≤ n ∧ N.length = n) (env : Env) (st : St)
    (hg : gcAV true 4 0 (canon env [3, 5, 6, 37, 38]) st = ([(3, .ptr 1 0), (5, .ptr 2 0), (6, .rsl 3 0 n n 1 false), (37, J n), (38, J i)], ⟨[zs.map B8, ys.map B8, bkCells true bn ps, N.map J], []⟩)) :
    ∃ x_1 en s, lim (headed pure (run L) true [3, 5, 6, 37, 38] lp16_0 4 0) env st = some (x_1, en, s) ∧ (x_1 = .exit 0 ∧ en.get 5 = .ptr 2 0 ∧ en.get 6 = .rsl 3 0 n n 1 false ∧ en.get 3000000 = .any ∧ s = ⟨[zs.map B8, ys.map B8, bkCells true bn ps, ((List.range' i (n - i)).foldl (nmStep ys) N).map J], []⟩) := by
  refine loop_wp (α := Nat × List Nat) (fun ⟨i, N⟩ => n - i) (fun ⟨i, N⟩ => i ≤ n ∧ N.length = n) (fun ⟨i, N⟩ => ([(3, .ptr 1 0), (5, .ptr 2 0), (6, .rsl 3 0 n n 1 false), (37, J n), (38, J i)], ⟨[zs.map B8, ys.map B8, bkCells true bn ps, N.map J], []⟩)) (fun ⟨i, N⟩ x_1 en s => x_1 = .exit 0 ∧ en.get 5 = .ptr 2 0 ∧ en.get 6 = .rsl 3 0 n n 1 false ∧ en.get 3000000 = .any ∧ s = ⟨[zs.map B8, ys.map B8, bkCells true bn ps, ((List.range' i (n - i)).foldl (nmStep ys) N).map J], []⟩) (fun ⟨i, N⟩ hok => ?_) ⟨i, N⟩ hok env st hg
  simp only at hok
  obtain ⟨h1, h2⟩ := hok
  dsimp only at h1 h2 ⊢
  by_cases h : i < n
  · have hs := succ64 i (by omega)
    have hlt : ((i : Int) < (n : Int)) = True := eq_true (by omega)
    have hr : List.range' i (n - i) = i :: List.range' (i + 1) (n - (i + 1)) := by
      rw [show n - i = (n - (i + 1)) + 1 by omega, List.range'_succ]
    have g := getB ys i (by omega)
    have by1 := byte_getD hy i
    have hk := nm_k ys i
    have hst : nmStep ys N i = swapN (N.set i i) i (ys.getD i 0 % ((i : Int) + 1)).toNat := rfl
    generalize (ys.getD i 0 % ((i : Int) + 1)).toNat = k at *
    generalize ys.getD i 0 = a at *
    unfold Byte at by1
    have wa := wrap64 a (by omega) (by omega)
    have zn : (((i + 1 : Nat) : Int) = 0) = False := eq_false (by omega)
    have ta : a.tmod ((i + 1 : Nat) : Int) = (k : Int) := by rw [← hk.2]; exact tmod8 (by omega)
    have b1 : (i + 1 ≤ 7) = True := eq_true (by omega)
    have b2 : ((i : Int) < 7) = True := eq_true (by omega)
    have b3 : ((0 : Int) ≤ (i : Int)) = True := eq_true (by omega)
    have b4 : ((0 : Int) ≤ (k : Int)) = True := eq_true (by omega)
    have b5 : ((k : Int) < (n : Int)) = True := eq_true (by omega)
    have b6 : (i + 1 ≤ n) = True := eq_true (by omega)
    have b7 : (k + 1 ≤ n) = True := eq_true (by omega)
    have s1 : (N.map J).set i (J i) = (N.set i i).map J := by rw [List.map_set]
    have hl2 : (N.set i i).length = n := by rw [List.length_set]; exact h2
    have g2 := getJ (N.set i i) k (by omega)
    have g3 := getJ (N.set i i) i (by omega)
    have s2 : ((N.set i i).set i ((N.set i i).getD k 0)).set k ((N.set i i).getD i 0) = nmStep ys N i := by rw [hst]; rfl
    have hl3 : (nmStep ys N i).length = n := by rw [hst]; unfold swapN; rw [List.length_set, List.length_set]; exact hl2
    rw [hr, List.foldl_cons]
    generalize nmStep ys N i = N3 at *
    generalize N.set i i = N2 at *
    simp only [go_sem, reduceIte, Nat.reduceEqDiff, Nat.reduceAdd, Nat.reduceSub, Nat.reduceLeDiff, Nat.reduceLT, reduceCtorEq, Int.reduceLT, Int.reduceLE, Int.reduceEq, Int.reduceBEq, Int.reduceSub, Int.reduceAdd, Int.reduceMul, Int.reduceNeg, Int.reduceToNat, Nat.reduceMul, Nat.reduceBEq, index_rsl_if, setm, make_ints, condK_dec, wantK_dec, not_dec, and_dec, or_dec, seqK_ite, seqK_none, blockK_ite, blockK_none, opsK_ite, opsK_none, stepK_ite, stepK_none, bodyK_ite, bodyK_none, resK_ite, resK_none, leaveK_ite, leaveK_none, only_ite, only_none, bind_ite, gives_some, gives_none, gives_ite, then_normal, then_ret, then_exit, then_none, then_ite, Option.bind_none, Bool.not_eq_true', decide_eq_false_iff_not, Bool.and_eq_true, Bool.or_eq_true, Option.some.injEq, Int.not_lt, Int.not_le, lp16_0, hlt, hs, g, wa, zn, ta, b1, b2, b3, b4, b5, b6, b7, s1, g2, g3, s2, h2, hl2, hyl, List.length_map, List.length_set]
    refine ⟨(i + 1, N3), by simp only [go_sem, reduceIte, Nat.reduceEqDiff, Nat.reduceAdd, Nat.reduceSub, Nat.reduceLeDiff, Nat.reduceLT, reduceCtorEq, Int.reduceLT, Int.reduceLE, Int.reduceEq, Int.reduceBEq, Int.reduceSub, Int.reduceAdd, Int.reduceMul, Int.reduceNeg, Int.reduceToNat, Nat.reduceMul, Nat.reduceBEq, ren1_locm, loc_tips, locT_eq, okRefsB, renCellsB, okRefsJ, renCellsJ, s2] <;> rfl, ?_, ?_, fun x en s hq => ?_⟩
    · dsimp only; exact ⟨by omega, hl3⟩
    · dsimp only; omega
    · exact hq
  · have hr : n - i = 0 := by omega
    have hlt : ((i : Int) < (n : Int)) = False := eq_false (by omega)
    rw [hr]
    simp only [go_sem, reduceIte, Nat.reduceEqDiff, Nat.reduceAdd, Nat.reduceSub, Nat.reduceLeDiff, Nat.reduceLT, reduceCtorEq, Int.reduceLT, Int.reduceLE, Int.reduceEq, Int.reduceBEq, Int.reduceSub, Int.reduceAdd, Int.reduceMul, Int.reduceNeg, Int.reduceToNat, Nat.reduceMul, Nat.reduceBEq, index_rsl_if, setm, make_ints, condK_dec, wantK_dec, not_dec, and_dec, or_dec, seqK_ite, seqK_none, blockK_ite, blockK_none, opsK_ite, opsK_none, stepK_ite, stepK_none, bodyK_ite, bodyK_none, resK_ite, resK_none, leaveK_ite, leaveK_none, only_ite, only_none, bind_ite, gives_some, gives_none, gives_ite, then_normal, then_ret, then_exit, then_none, then_ite, Option.bind_none, Bool.not_eq_true', decide_eq_false_iff_not, Bool.and_eq_true, Bool.or_eq_true, Option.some.injEq, Int.not_lt, Int.not_le, lp16_0, hlt]
    rfl

attribute [local go_sem] shaped_t cells_t isAgg_t storable_t okRef_t pub_t okRef_out storable_out shaped_out cells_out fin_out pub_out

def q5A (o : List (Int × Int)) : AV := if o = [] then .v (.slice none 0 0) else .rsl 5 0 o.length o.length 2 true
def q5S (o : List (Int × Int)) : List (List AV) := if o = [] then [] else [flP o]
theorem q5A_ne {o : List (Int × Int)} (h : o ≠ []) : q5A o = .rsl 5 0 o.length o.length 2 true := by unfold q5A; rw [if_neg h]
theorem q5S_ne {o : List (Int × Int)} (h : o ≠ []) : q5S o = [flP o] := by unfold q5S; rw [if_neg h]
theorem q5A_one (p : Int × Int) : q5A [p] = .rsl 5 0 1 1 2 true := rfl
theorem q5S_one (p : Int × Int) : q5S [p] = [fP p] := rfl
theorem q5A_snoc (o : List (Int × Int)) (p : Int × Int) : q5A (o ++ [p]) = .rsl 5 0 (o.length + 1) (o.length + 1) 2 true := by rw [q5A_ne (by simp)]; simp
theorem q5S_snoc (o : List (Int × Int)) (p : Int × Int) : q5S (o ++ [p]) = [flP (o ++ [p])] := q5S_ne (by simp)
theorem happ_nil6 (p : Int × Int) (S : List (List AV)) : appendmAV 2 true (.v (.slice none 0 0)) [prAV p] ⟨S, []⟩ = some (.rsl S.length 0 1 1 2 true, ⟨S ++ [fP p], []⟩) := by
  simp [appendmAV, newM, maxGrow, flatAV, fP, AV.cells]
theorem happ_at6 (a b c d e g : List AV) (o : List (Int × Int)) (p : Int × Int) (h : 1 ≤ o.length) (h2 : o.length ≤ 1000) : appendmAV 2 true (.rsl 5 0 o.length o.length 2 true) [prAV p] ⟨[a, b, c, d, e, flP o, g], []⟩ = some (.rsl 7 0 (o.length + 1) (o.length + 1) 2 true, ⟨[a, b, c, d, e, [], g, flP (o ++ [p])], []⟩) := by
  have hl := flP_len o
  have htk : (flP o).take (o.length * 2) = flP o := List.take_of_length_le (by omega)
  simp only [appendmAV, List.getElem?_cons_succ, List.getElem?_cons_zero, List.length_cons, List.length_nil, htk]
  rw [if_pos ⟨trivial, trivial, Nat.le_refl _, by omega, by omega⟩, if_neg (by omega), if_pos ⟨trivial, by unfold maxGrow; omega, by omega⟩]
  simp [flatAV, fP, flP_snoc, AV.cells]

attribute [local go_sem] shaped_t cells_t isAgg_t storable_t okRef_t pub_t okRef_out storable_out shaped_out cells_out fin_out pub_out

theorem refsL_flP (k : Nat) (acc : List Nat) (o : List (Int × Int)) : refsL k acc (flP o) = acc := by
  unfold flP
  induction o with
  | nil => simp only [List.flatMap_nil, refsL]
  | cons p r ih => rw [List.flatMap_cons]; simp only [fP, List.cons_append, List.nil_append, refsL, refsV, ih]
theorem mapLs_flP (k : Nat) (M : List Nat) (o : List (Int × Int)) : mapLs k M (flP o) = flP o := by
  unfold flP
  induction o with
  | nil => simp only [List.flatMap_nil, mapLs]
  | cons p r ih => rw [List.flatMap_cons]; simp only [fP, List.cons_append, List.nil_append, mapLs, mapL, ih]
theorem okRefs_flP (k : Nat) (o : List (Int × Int)) : okRefs k (flP o) = true := by
  unfold flP
  induction o with
  | nil => rfl
  | cons p r ih => rw [List.flatMap_cons]; simp only [fP, List.cons_append, List.nil_append, okRefs, okRef, ih]; rfl
theorem renCells_flP (k : Nat) (T : List Nat) (acc : List (Nat × Nat)) (o : List (Int × Int)) : renCells k T acc (flP o) = (flP o, acc) := by
  unfold flP
  induction o with
  | nil => rfl
  | cons p r ih => rw [List.flatMap_cons]; simp only [fP, List.cons_append, List.nil_append, renCells, ren1, ih]

set_option maxHeartbeats 2000000 in
theorem loop16_1 (zs ys : List Int) (n : Nat) (hn : n ≤ 7) (ps : List (Int × Int)) (hpl : ps.length ≤ 16) (hps : ∀ p ∈ ps, goodP (n : Int) p) (N : List Nat) (hN : N.length = n) (i : Nat) (o : List (Int × Int)) (hok : i ≤ ps.length ∧ o.length ≤ i) (env : Env) (st : St)
    (hg : gcAV true 5 0 (canon env [5, 6, 9, 71, 72, 73, 3000000]) st = ([(5, .ptr 2 0), (6, .rsl 3 0 n n 1 false), (9, .ptr 4 0), (71, sl 2 true (ps.map prAV)), (72, I ps.length), (73, J i), (3000000, .any)], ⟨zs.map B8 :: ys.map B8 :: bkCells true (n : Int) ps :: N.map J :: [I n, q5A o] :: q5S o, []⟩)) :
    ∃ x_1 en s, lim (headed pure (run L) true [5, 6, 9, 71, 72, 73, 3000000] lp16_1 5 0) env st = some (x_1, en, s) ∧ (x_1 = .exit 2 ∧ en.get 5 = .ptr 2 0 ∧ en.get 6 = .rsl 3 0 n n 1 false ∧ en.get 9 = .ptr 4 0 ∧ s = ⟨zs.map B8 :: ys.map B8 :: bkCells true (n : Int) ps :: N.map J :: [I n, q5A (o ++ (ps.drop i).map (renP N))] :: q5S (o ++ (ps.drop i).map (renP N)), []⟩) := by
  refine loop_wp (α := Nat × List (Int × Int)) (fun ⟨i, o⟩ => ps.length - i) (fun ⟨i, o⟩ => i ≤ ps.length ∧ o.length ≤ i) (fun ⟨i, o⟩ => ([(5, .ptr 2 0), (6, .rsl 3 0 n n 1 false), (9, .ptr 4 0), (71, sl 2 true (ps.map prAV)), (72, I ps.length), (73, J i), (3000000, .any)], ⟨zs.map B8 :: ys.map B8 :: bkCells true (n : Int) ps :: N.map J :: [I n, q5A o] :: q5S o, []⟩)) (fun ⟨i, o⟩ x_1 en s => x_1 = .exit 2 ∧ en.get 5 = .ptr 2 0 ∧ en.get 6 = .rsl 3 0 n n 1 false ∧ en.get 9 = .ptr 4 0 ∧ s = ⟨zs.map B8 :: ys.map B8 :: bkCells true (n : Int) ps :: N.map J :: [I n, q5A (o ++ (ps.drop i).map (renP N))] :: q5S (o ++ (ps.drop i).map (renP N)), []⟩) (fun ⟨i, o⟩ hok => ?_) ⟨i, o⟩ hok env st hg
  simp only at hok
  obtain ⟨h1, h2⟩ := hok
  dsimp only at h1 h2 ⊢
  by_cases h : i < ps.length
  · have hx := index_prs true ps i h
    have hs := succ64 i (by omega)
    have hlt : ((i : Int) < (ps.length : Int)) = True := eq_true (by omega)
    have hd : ps.drop i = ps[i] :: ps.drop (i + 1) := List.drop_eq_getElem_cons h
    have hp := hps ps[i] (List.getElem_mem h)
    rw [hd, List.map_cons, show ∀ (a : Int × Int) r, o ++ a :: r = (o ++ [a]) ++ r from fun a r => by simp]
    generalize ps[i] = c at *
    obtain ⟨u, v⟩ := c
    obtain ⟨a1, a2, a3, a4, a5⟩ := hp
    simp only at a1 a2 a3 a4 a5 hx
    obtain ⟨u, rfl⟩ := Int.eq_ofNat_of_zero_le a1
    obtain ⟨v, rfl⟩ := Int.eq_ofNat_of_zero_le a3
    have hop : renP N ((u : Int), (v : Int)) = (((N.getD u 0 : Nat) : Int), ((N.getD v 0 : Nat) : Int)) := by unfold renP; simp only [Int.toNat_natCast]
    have g1 := getJ N u (by omega)
    have g2 := getJ N v (by omega)
    have b1 : ((0 : Int) ≤ (u : Int)) = True := eq_true (by omega)
    have b2 : ((u : Int) < (n : Int)) = True := eq_true (by omega)
    have b3 : ((0 : Int) ≤ (v : Int)) = True := eq_true (by omega)
    have b4 : ((v : Int) < (n : Int)) = True := eq_true (by omega)
    rw [hop]
    generalize N.getD u 0 = p at *
    generalize N.getD v 0 = q at *
    by_cases ho : o = []
    · subst ho
      have eA : q5A [] = .v (.slice none 0 0) := rfl
      have eS : q5S [] = [] := rfl
      have happ := happ_nil6 ((p : Int), (q : Int)) (zs.map B8 :: ys.map B8 :: bkCells true (n : Int) ps :: N.map J :: [I (n : Int), .v (.slice none 0 0)] :: [J u, J v] :: [])
      rw [List.nil_append]
      simp only [go_sem, reduceIte, Nat.reduceEqDiff, Nat.reduceAdd, Nat.reduceSub, Nat.reduceLeDiff, Nat.reduceLT, reduceCtorEq, Int.reduceLT, Int.reduceLE, Int.reduceEq, Int.reduceBEq, Int.reduceSub, Int.reduceAdd, Int.reduceMul, Int.reduceNeg, Int.reduceToNat, Nat.reduceMul, Nat.reduceBEq, index_rsl_if, setm, make_ints, condK_dec, wantK_dec, not_dec, and_dec, or_dec, seqK_ite, seqK_none, blockK_ite, blockK_none, opsK_ite, opsK_none, stepK_ite, stepK_none, bodyK_ite, bodyK_none, resK_ite, resK_none, leaveK_ite, leaveK_none, only_ite, only_none, bind_ite, gives_some, gives_none, gives_ite, then_normal, then_ret, then_exit, then_none, then_ite, Option.bind_none, Bool.not_eq_true', decide_eq_false_iff_not, Bool.and_eq_true, Bool.or_eq_true, Option.some.injEq, Int.not_lt, Int.not_le, lp16_1, hx, hlt, hs, g1, g2, b1, b2, b3, b4, eA, eS, happ]
      refine ⟨(i + 1, [((p : Int), (q : Int))]), by simp only [go_sem, reduceIte, Nat.reduceEqDiff, Nat.reduceAdd, Nat.reduceSub, Nat.reduceLeDiff, Nat.reduceLT, reduceCtorEq, Int.reduceLT, Int.reduceLE, Int.reduceEq, Int.reduceBEq, Int.reduceSub, Int.reduceAdd, Int.reduceMul, Int.reduceNeg, Int.reduceToNat, Nat.reduceMul, Nat.reduceBEq, ren1_locm, loc_tips, locT_eq, q5A_one, q5S_one, fP, okRefsB, renCellsB, okRefsJ, renCellsJ, refsL_B, mapLs_B, refsL_J, mapLs_J, compact, compactW, refsEnv, refsV, refsL, refsStore, refsAt, mapEnv, mapL, mapLs, newName, posOf, mapStore, pickStore, namesOk, refsV_sl, mapL_sl, List.contains_nil, List.contains_cons, Option.getD_some, hasKey] <;> rfl, ?_, ?_, fun x en s hq => ?_⟩
      · dsimp only; exact ⟨by omega, by simp⟩
      · dsimp only; omega
      · exact hq
    · have eA := q5A_ne ho
      have eS := q5S_ne ho
      have hpos : 1 ≤ o.length := List.length_pos_iff.2 ho
      have happ := happ_at6 (zs.map B8) (ys.map B8) (bkCells true (n : Int) ps) (N.map J) [I (n : Int), .rsl 5 0 o.length o.length 2 true] [J u, J v] o ((p : Int), (q : Int)) hpos (by omega)
      simp only [go_sem, reduceIte, Nat.reduceEqDiff, Nat.reduceAdd, Nat.reduceSub, Nat.reduceLeDiff, Nat.reduceLT, reduceCtorEq, Int.reduceLT, Int.reduceLE, Int.reduceEq, Int.reduceBEq, Int.reduceSub, Int.reduceAdd, Int.reduceMul, Int.reduceNeg, Int.reduceToNat, Nat.reduceMul, Nat.reduceBEq, index_rsl_if, setm, make_ints, condK_dec, wantK_dec, not_dec, and_dec, or_dec, seqK_ite, seqK_none, blockK_ite, blockK_none, opsK_ite, opsK_none, stepK_ite, stepK_none, bodyK_ite, bodyK_none, resK_ite, resK_none, leaveK_ite, leaveK_none, only_ite, only_none, bind_ite, gives_some, gives_none, gives_ite, then_normal, then_ret, then_exit, then_none, then_ite, Option.bind_none, Bool.not_eq_true', decide_eq_false_iff_not, Bool.and_eq_true, Bool.or_eq_true, Option.some.injEq, Int.not_lt, Int.not_le, lp16_1, hx, hlt, hs, g1, g2, b1, b2, b3, b4, eA, eS, happ]
      refine ⟨(i + 1, o ++ [((p : Int), (q : Int))]), by simp only [go_sem, reduceIte, Nat.reduceEqDiff, Nat.reduceAdd, Nat.reduceSub, Nat.reduceLeDiff, Nat.reduceLT, reduceCtorEq, Int.reduceLT, Int.reduceLE, Int.reduceEq, Int.reduceBEq, Int.reduceSub, Int.reduceAdd, Int.reduceMul, Int.reduceNeg, Int.reduceToNat, Nat.reduceMul, Nat.reduceBEq, ren1_locm, loc_tips, locT_eq, q5A_snoc, q5S_snoc, okRefs_flP, renCells_flP, refsL_flP, mapLs_flP, okRefsB, renCellsB, okRefsJ, renCellsJ, refsL_B, mapLs_B, refsL_J, mapLs_J, compact, compactW, refsEnv, refsV, refsL, refsStore, refsAt, mapEnv, mapL, mapLs, newName, posOf, mapStore, pickStore, namesOk, refsV_sl, mapL_sl, List.contains_nil, List.contains_cons, Option.getD_some, hasKey] <;> rfl, ?_, ?_, fun x en s hq => ?_⟩
      · dsimp only; exact ⟨by omega, by rw [List.length_append, List.length_singleton]; omega⟩
      · dsimp only; omega
      · exact hq
  · have hd : ps.drop i = [] := List.drop_eq_nil_of_le (by omega)
    have hlt : ((i : Int) < (ps.length : Int)) = False := eq_false (by omega)
    rw [hd, List.map_nil, List.append_nil]
    simp only [go_sem, reduceIte, Nat.reduceEqDiff, Nat.reduceAdd, Nat.reduceSub, Nat.reduceLeDiff, Nat.reduceLT, reduceCtorEq, Int.reduceLT, Int.reduceLE, Int.reduceEq, Int.reduceBEq, Int.reduceSub, Int.reduceAdd, Int.reduceMul, Int.reduceNeg, Int.reduceToNat, Nat.reduceMul, Nat.reduceBEq, index_rsl_if, setm, make_ints, condK_dec, wantK_dec, not_dec, and_dec, or_dec, seqK_ite, seqK_none, blockK_ite, blockK_none, opsK_ite, opsK_none, stepK_ite, stepK_none, bodyK_ite, bodyK_none, resK_ite, resK_none, leaveK_ite, leaveK_none, only_ite, only_none, bind_ite, gives_some, gives_none, gives_ite, then_normal, then_ret, then_exit, then_none, then_ite, Option.bind_none, Bool.not_eq_true', decide_eq_false_iff_not, Bool.and_eq_true, Bool.or_eq_true, Option.some.injEq, Int.not_lt, Int.not_le, lp16_1, hlt]


/-! ### references one behind another: read and written -/
theorem flP_drop : ∀ (o : List (Int × Int)) (a : Nat), (flP o).drop (2 * a) = flP (o.drop a)
  | o, 0 => rfl
  | [], a + 1 => by simp [flP]
  | p :: r, a + 1 => by
    rw [List.drop_succ_cons, ← flP_drop r a]
    have e : flP (p :: r) = I p.1 :: I p.2 :: flP r := rfl
    rw [e, show 2 * (a + 1) = 2 * a + 1 + 1 by omega, List.drop_succ_cons, List.drop_succ_cons]
theorem put_pr : ∀ (o : List (Int × Int)) (a : Nat) (p : Int × Int), a < o.length → putCells (flP o) (2 * a) [I p.1, I p.2] = flP (o.set a p)
  | [], _, _, h => by simp at h
  | q :: r, 0, p, _ => rfl
  | q :: r, a + 1, p, h => by
    have ih := put_pr r a p (by simpa using h)
    have e : flP (q :: r) = I q.1 :: I q.2 :: flP r := rfl
    have e2 : flP ((q :: r).set (a + 1) p) = I q.1 :: I q.2 :: flP (r.set a p) := rfl
    rw [e, e2, ← ih]
    show putCells (I q.1 :: I q.2 :: flP r) (2 * (a + 1)) [I p.1, I p.2] = _
    simp only [putCells, show 2 * (a + 1) = 2 * a + 1 + 1 by omega, List.set_cons_succ]
theorem take_pr (o : List (Int × Int)) (a : Nat) (h : a < o.length) : List.take 2 (List.drop (a * 2) (flP o)) = [I (o.getD a (0, 0)).1, I (o.getD a (0, 0)).2] := by
  have hd : o.drop a = o[a] :: o.drop (a + 1) := List.drop_eq_getElem_cons h
  have hg : o.getD a (0, 0) = o[a] := by rw [List.getD_eq_getElem?_getD, List.getElem?_eq_getElem h]; rfl
  rw [Nat.mul_comm, flP_drop, hd, hg]
  rfl
def revTo (o : List (Int × Int)) (i : Nat) : List (Int × Int) := (List.range o.length).map fun a => if a < i ∨ o.length - i ≤ a then o.getD (o.length - 1 - a) (0, 0) else o.getD a (0, 0)
theorem revTo_len (o : List (Int × Int)) (i : Nat) : (revTo o i).length = o.length := by simp [revTo]
theorem revTo_get (o : List (Int × Int)) (i a : Nat) (h : a < o.length) : (revTo o i)[a]'(by rw [revTo_len]; exact h) = if a < i ∨ o.length - i ≤ a then o.getD (o.length - 1 - a) (0, 0) else o.getD a (0, 0) := by
  simp [revTo]
theorem getD_eq (o : List (Int × Int)) (a : Nat) (h : a < o.length) : o.getD a (0, 0) = o[a] := by
  rw [List.getD_eq_getElem?_getD, List.getElem?_eq_getElem h]; rfl
theorem revTo_zero (o : List (Int × Int)) : revTo o 0 = o := by
  refine List.ext_getElem (revTo_len o 0) fun a h1 h2 => ?_
  rw [revTo_get o 0 a h2, if_neg (by omega), getD_eq o a h2]
theorem revTo_end (o : List (Int × Int)) (i : Nat) (h : o.length ≤ 2 * i + 1) (hi : 2 * i ≤ o.length) : revTo o i = o.reverse := by
  refine List.ext_getElem (by rw [revTo_len, List.length_reverse]) fun a h1 h2 => ?_
  rw [List.length_reverse] at h2
  rw [revTo_get o i a h2, List.getElem_reverse]
  by_cases p : a < i ∨ o.length - i ≤ a
  · rw [if_pos p, getD_eq o _ (by omega)]
  · rw [if_neg p, getD_eq o _ h2]
    congr 1; omega
theorem revTo_step (o : List (Int × Int)) (i : Nat) (h : 2 * i + 1 < o.length) : ((revTo o i).set i ((revTo o i).getD (o.length - 1 - i) (0, 0))).set (o.length - 1 - i) ((revTo o i).getD i (0, 0)) = revTo o (i + 1) := by
  have hl := revTo_len o i
  have g1 : (revTo o i).getD i (0, 0) = o.getD i (0, 0) := by
    rw [getD_eq _ _ (by omega), revTo_get o i i (by omega), if_neg (by omega)]
  have g2 : (revTo o i).getD (o.length - 1 - i) (0, 0) = o.getD (o.length - 1 - i) (0, 0) := by
    rw [getD_eq _ _ (by omega), revTo_get o i _ (by omega), if_neg (by omega)]
  rw [g1, g2]
  refine List.ext_getElem (by rw [List.length_set, List.length_set, hl, revTo_len]) fun a h1 h2 => ?_
  rw [revTo_len] at h2
  rw [revTo_get o (i + 1) a h2, List.getElem_set]
  by_cases p1 : o.length - 1 - i = a
  · rw [if_pos p1, if_pos (by omega)]
    congr 1; omega
  · rw [if_neg p1, List.getElem_set]
    by_cases p2 : i = a
    · rw [if_pos p2, if_pos (by omega), p2]
    · rw [if_neg p2, revTo_get o i a h2]
      by_cases p3 : a < i ∨ o.length - i ≤ a
      · rw [if_pos p3, if_pos (by omega)]
      · rw [if_neg p3, if_neg (by omega)]

attribute [local go_sem] shaped_t cells_t isAgg_t storable_t okRef_t pub_t okRef_out storable_out shaped_out cells_out fin_out pub_out

set_option maxHeartbeats 1000000 in
theorem loop63_0 (zs ys : List Int) (n : Int) (ps : List (Int × Int)) (N : List Nat) (o : List (Int × Int)) (hol : o.length ≤ 16) (ho1 : 1 ≤ o.length) (i : Nat) (hok : 2 * i ≤ o.length) (env : Env) (st : St)
    (hg : gcAV false 6 0 (canon env [0, 2, 3]) st = ([(0, .rsl 5 0 o.length o.length 2 true), (2, J i), (3, J (o.length - 1 - i))], ⟨[zs.map B8, ys.map B8, bkCells true n ps, N.map J, [I n, .rsl 5 0 o.length o.length 2 true], flP (revTo o i)], []⟩)) :
    ∃ x_1 en s, lim (headed pure (run L) false [0, 2, 3] lp63_0 6 0) env st = some (x_1, en, s) ∧ (x_1 = .exit 0 ∧ s = ⟨[zs.map B8, ys.map B8, bkCells true n ps, N.map J, [I n, .rsl 5 0 o.length o.length 2 true], flP o.reverse], []⟩) := by
  refine loop_wp (α := Nat) (fun i => o.length - i) (fun i => 2 * i ≤ o.length) (fun i => ([(0, .rsl 5 0 o.length o.length 2 true), (2, J i), (3, J (o.length - 1 - i))], ⟨[zs.map B8, ys.map B8, bkCells true n ps, N.map J, [I n, .rsl 5 0 o.length o.length 2 true], flP (revTo o i)], []⟩)) (fun i x_1 en s => x_1 = .exit 0 ∧ s = ⟨[zs.map B8, ys.map B8, bkCells true n ps, N.map J, [I n, .rsl 5 0 o.length o.length 2 true], flP o.reverse], []⟩) (fun i hok => ?_) i hok env st hg
  by_cases h : 2 * i + 1 < o.length
  · have hs := succ64 i (by omega)
    have hlt : ((i : Int) < ((o.length - 1 - i : Nat) : Int)) = True := eq_true (by omega)
    have hw : IntKind.i64.wrap (((o.length - 1 - i : Nat) : Int) - 1) = ((o.length - 1 - (i + 1) : Nat) : Int) := by rw [wrap64] <;> omega
    have hst := revTo_step o i h
    have hl := revTo_len o i
    have hl2 := revTo_len o (i + 1)
    have r1 := take_pr (revTo o i) i (by omega)
    have r2 := take_pr (revTo o i) (o.length - 1 - i) (by omega)
    have w1 := put_pr (revTo o i) i ((revTo o i).getD (o.length - 1 - i) (0, 0)) (by omega)
    have w2 := put_pr ((revTo o i).set i ((revTo o i).getD (o.length - 1 - i) (0, 0))) (o.length - 1 - i) ((revTo o i).getD i (0, 0)) (by rw [List.length_set]; omega)
    rw [hst] at w2
    rw [← r2, Nat.mul_comm] at w1
    rw [← r1, Nat.mul_comm] at w2
    have la : (List.take 2 (List.drop (i * 2) (flP (revTo o i)))).length = 2 ∧ (List.take 2 (List.drop (i * 2) (flP (revTo o i)))).all storable = true := by rw [r1]; exact ⟨rfl, rfl⟩
    have lb : (List.take 2 (List.drop ((o.length - 1 - i) * 2) (flP (revTo o i)))).length = 2 ∧ (List.take 2 (List.drop ((o.length - 1 - i) * 2) (flP (revTo o i)))).all storable = true := by rw [r2]; exact ⟨rfl, rfl⟩
    have fl1 := flP_len (revTo o i)
    have fl2 := flP_len ((revTo o i).set i ((revTo o i).getD (o.length - 1 - i) (0, 0)))
    rw [List.length_set] at fl2
    rw [hl] at fl1 fl2
    have b5 : (i * 2 + 2 ≤ 2 * o.length) = True := eq_true (by omega)
    have b6 : ((o.length - 1 - i) * 2 + 2 ≤ 2 * o.length) = True := eq_true (by omega)
    have b1 : ((0 : Int) ≤ ((o.length - 1 - i : Nat) : Int)) = True := eq_true (by omega)
    have b2 : (((o.length - 1 - i : Nat) : Int) < (o.length : Int)) = True := eq_true (by omega)
    have b3 : ((0 : Int) ≤ (i : Int)) = True := eq_true (by omega)
    have b4 : ((i : Int) < (o.length : Int)) = True := eq_true (by omega)
    simp only [go_sem, reduceIte, Nat.reduceEqDiff, Nat.reduceAdd, Nat.reduceSub, Nat.reduceLeDiff, Nat.reduceLT, reduceCtorEq, Int.reduceLT, Int.reduceLE, Int.reduceEq, Int.reduceBEq, Int.reduceSub, Int.reduceAdd, Int.reduceMul, Int.reduceNeg, Int.reduceToNat, Nat.reduceMul, Nat.reduceBEq, index_rsl_if, setm, make_ints, condK_dec, wantK_dec, not_dec, and_dec, or_dec, seqK_ite, seqK_none, blockK_ite, blockK_none, opsK_ite, opsK_none, stepK_ite, stepK_none, bodyK_ite, bodyK_none, resK_ite, resK_none, leaveK_ite, leaveK_none, only_ite, only_none, bind_ite, gives_some, gives_none, gives_ite, then_normal, then_ret, then_exit, then_none, then_ite, Option.bind_none, Bool.not_eq_true', decide_eq_false_iff_not, Bool.and_eq_true, Bool.or_eq_true, Option.some.injEq, Int.not_lt, Int.not_le, lp63_0, hlt, hs, hw, w1, w2, b1, b2, b3, b4, b5, b6, fl1, fl2, la.1, la.2, lb.1, lb.2]
    refine ⟨i + 1, by simp only [go_sem, reduceIte, Nat.reduceEqDiff, Nat.reduceAdd, Nat.reduceSub, Nat.reduceLeDiff, Nat.reduceLT, reduceCtorEq, Int.reduceLT, Int.reduceLE, Int.reduceEq, Int.reduceBEq, Int.reduceSub, Int.reduceAdd, Int.reduceMul, Int.reduceNeg, Int.reduceToNat, Nat.reduceMul, Nat.reduceBEq, ren1_locm, loc_tips, locT_eq] <;> rfl, ?_, ?_, fun x en s hq => ?_⟩
    · omega
    · omega
    · exact hq
  · have e := revTo_end o i (by omega) (by assumption)
    have hlt : ((i : Int) < ((o.length - 1 - i : Nat) : Int)) = False := eq_false (by omega)
    rw [e]
    simp only [go_sem, reduceIte, Nat.reduceEqDiff, Nat.reduceAdd, Nat.reduceSub, Nat.reduceLeDiff, Nat.reduceLT, reduceCtorEq, Int.reduceLT, Int.reduceLE, Int.reduceEq, Int.reduceBEq, Int.reduceSub, Int.reduceAdd, Int.reduceMul, Int.reduceNeg, Int.reduceToNat, Nat.reduceMul, Nat.reduceBEq, index_rsl_if, setm, make_ints, condK_dec, wantK_dec, not_dec, and_dec, or_dec, seqK_ite, seqK_none, blockK_ite, blockK_none, opsK_ite, opsK_none, stepK_ite, stepK_none, bodyK_ite, bodyK_none, resK_ite, resK_none, leaveK_ite, leaveK_none, only_ite, only_none, bind_ite, gives_some, gives_none, gives_ite, then_normal, then_ret, then_exit, then_none, then_ite, Option.bind_none, Bool.not_eq_true', decide_eq_false_iff_not, Bool.and_eq_true, Bool.or_eq_true, Option.some.injEq, Int.not_lt, Int.not_le, lp63_0, hlt]

attribute [local go_sem] shaped_t cells_t isAgg_t storable_t okRef_t pub_t okRef_out storable_out shaped_out cells_out fin_out pub_out

theorem c63 (zs ys : List Int) (n : Int) (ps : List (Int × Int)) (N : List Nat) (o2 : List (Int × Int)) (hol : o2.length ≤ 16) (ho1 : 1 ≤ o2.length) : run L 63 [.rsl 5 0 o2.length o2.length 2 true] ⟨[zs.map B8, ys.map B8, bkCells true n ps, N.map J, [I n, .rsl 5 0 o2.length o2.length 2 true], flP o2], []⟩ = some (.tup [], ⟨[zs.map B8, ys.map B8, bkCells true n ps, N.map J, [I n, .rsl 5 0 o2.length o2.length 2 true], flP o2.reverse], []⟩) := by
  rw [run_shared (fn := ir63) rfl rfl]
  have hw : IntKind.i64.wrap ((o2.length : Int) - 1) = ((o2.length - 1 : Nat) : Int) := by rw [wrap64] <;> omega
  have h0 := revTo_zero o2
  simp only [ir63, go_sem, reduceIte, Nat.reduceEqDiff, Nat.reduceAdd, Nat.reduceSub, Nat.reduceLeDiff, Nat.reduceLT, reduceCtorEq, Int.reduceLT, Int.reduceLE, Int.reduceEq, Int.reduceBEq, Int.reduceSub, Int.reduceAdd, Int.reduceMul, Int.reduceNeg, Int.reduceToNat, Nat.reduceMul, Nat.reduceBEq, hw]
  generalize hg : lim (headed pure (run L) false _ lp63_0 _ _) _ _ = o
  obtain ⟨x, en, s, rfl, h2⟩ : ∃ x en s, o = some (x, en, s) ∧ _ := by rw [← hg]; exact loop63_0 zs ys n ps N o2 hol ho1 0 (by omega) _ _ (by simp only [go_sem, reduceIte, Nat.reduceEqDiff, Nat.reduceAdd, Nat.reduceSub, Nat.reduceLeDiff, Nat.reduceLT, reduceCtorEq, Int.reduceLT, Int.reduceLE, Int.reduceEq, Int.reduceBEq, Int.reduceSub, Int.reduceAdd, Int.reduceMul, Int.reduceNeg, Int.reduceToNat, Nat.reduceMul, Nat.reduceBEq, h0, Nat.sub_zero, Int.natCast_zero] <;> rfl)
  clear hg
  obtain ⟨rfl, rfl⟩ := h2
  simp only [go_sem, reduceIte, Nat.reduceEqDiff, Nat.reduceAdd, Nat.reduceSub, Nat.reduceLeDiff, Nat.reduceLT, reduceCtorEq, Int.reduceLT, Int.reduceLE, Int.reduceEq, Int.reduceBEq, Int.reduceSub, Int.reduceAdd, Int.reduceMul, Int.reduceNeg, Int.reduceToNat, Nat.reduceMul, Nat.reduceBEq]


/-! ### words with other numbers: what stays -/
/-- `g` gives new numbers, `h` the old ones. -/
structure Iso (n : Nat) (g h : Nat → Nat) (w w' : List Nat) : Prop where
  glt : ∀ x, x < n → g x < n
  hlt : ∀ x, x < n → h x < n
  hg : ∀ x, x < n → h (g x) = x
  gh : ∀ x, x < n → g (h x) = x
  wlt : ∀ a b, Jw w a b → b < n
  wlt' : ∀ a b, Jw w' a b → b < n
  sm : ∀ x ∈ w, x < 128
  sm' : ∀ x ∈ w', x < 128
  jw : ∀ a b, a < n → b < n → (Jw w' (g a) (g b) ↔ Jw w a b)
theorem Iso.back {n : Nat} {g h : Nat → Nat} {w w' : List Nat} (q : Iso n g h w w') : Iso n h g w' w :=
  ⟨q.hlt, q.glt, q.gh, q.hg, q.wlt', q.wlt, q.sm', q.sm, fun a b ha hb => by
    have := q.jw (h a) (h b) (q.hlt a ha) (q.hlt b hb)
    rw [q.gh a ha, q.gh b hb] at this
    exact this.symm⟩
theorem len_rel {α β : Type} [DecidableEq β] (R : α → β → Prop) : ∀ (A : List α) (B : List β), A.Nodup → (∀ a ∈ A, ∃ b ∈ B, R a b) → (∀ a ∈ A, ∀ a' ∈ A, ∀ b, R a b → R a' b → a = a') → A.length ≤ B.length
  | [], _, _, _, _ => by simp
  | a :: r, B, hn, h1, h2 => by
    rw [List.nodup_cons] at hn
    obtain ⟨b, hb, hr⟩ := h1 a (by simp)
    have ih := len_rel R r (B.erase b) hn.2 (fun a' ha => by
      obtain ⟨b', hb', hr'⟩ := h1 a' (by simp [ha])
      refine ⟨b', (List.mem_erase_of_ne fun e => ?_).2 hb', hr'⟩
      subst e
      have := h2 a (by simp) a' (by simp [ha]) b' hr hr'
      subst this
      exact hn.1 ha) (fun x hx y hy => h2 x (by simp [hx]) y (by simp [hy]))
    rw [List.length_erase_of_mem hb] at ih
    have : 0 < B.length := List.length_pos_of_mem hb
    rw [List.length_cons]; omega

/-! #### choices -/
theorem iso_jdg {n : Nat} {g h : Nat → Nat} {w w' : List Nat} (q : Iso n g h w w') {m m' : Nat} (hm : m < 2 ^ n) (hm' : ∀ z, m'.testBit z = true → z < n) (hr : ∀ x, x < n → (m'.testBit (g x) = true ↔ m.testBit x = true)) (hj : jdg n w m = 0) : jdg n w' m' = 0 := by
  rw [jdg_zero] at hj ⊢
  intro y hy
  have h1 := hj (h y) (q.hlt y hy)
  have h2 := hr (h y) (q.hlt y hy)
  rw [q.gh y hy] at h2
  rw [h2, h1, and_zero, and_zero]
  constructor
  · rintro hh z ⟨hz1, hz2⟩
    have hz := hm' z hz2
    have h3 := hr (h z) (q.hlt z hz)
    rw [q.gh z hz] at h3
    have h4 := q.jw (h y) (h z) (q.hlt y hy) (q.hlt z hz)
    rw [q.gh y hy, q.gh z hz] at h4
    exact hh (h z) ⟨h4.1 hz1, h3.1 hz2⟩
  · rintro hh z ⟨hz1, hz2⟩
    have hz := bit_lt hm hz2
    have h4 := q.jw (h y) z (q.hlt y hy) hz
    rw [q.gh y hy] at h4
    exact hh (g z) ⟨h4.2 hz1, (hr z hz).2 hz2⟩
theorem iso_mask {n : Nat} {g h : Nat → Nat} {w w' : List Nat} (q : Iso n g h w w') (m : Nat) : ∃ m', m' < 2 ^ n ∧ ∀ x, x < n → (m'.testBit (g x) = true ↔ m.testBit x = true) := by
  obtain ⟨m', h1, h2⟩ := mask_of (fun y => m.testBit (h y) = true) n
  exact ⟨m', h1, fun x hx => by rw [h2, q.hg x hx]; exact ⟨fun h => h.2, fun h => ⟨q.glt x hx, h⟩⟩⟩
theorem iso_ker_le {n : Nat} {g h : Nat → Nat} {w w' : List Nat} (q : Iso n g h w w') : ((List.range' 0 (2 ^ n)).filter fun m => decide (jdg n w m = 0)).length ≤ ((List.range' 0 (2 ^ n)).filter fun m => decide (jdg n w' m = 0)).length := by
  refine len_rel (fun m m' => ∀ x, x < n → (m'.testBit (g x) = true ↔ m.testBit x = true)) _ _ (List.Pairwise.imp (fun {a b} hab => Nat.ne_of_lt hab) (List.Pairwise.filter _ (List.pairwise_lt_range' (s := 0) (n := 2 ^ n)))) (fun m hm => ?_) (fun m hm k hk m' h1 h2 => ?_)
  · obtain ⟨a, b⟩ := List.mem_filter.1 hm
    rw [List.mem_range'_1] at a
    rw [decide_eq_true_iff] at b
    obtain ⟨m', c, d⟩ := iso_mask q m
    exact ⟨m', List.mem_filter.2 ⟨by rw [List.mem_range'_1]; omega, decide_eq_true (iso_jdg q (by omega) (fun z hz => bit_lt c hz) d b)⟩, d⟩
  · have a1 := (List.mem_filter.1 hm).1
    have a2 := (List.mem_filter.1 hk).1
    rw [List.mem_range'_1] at a1 a2
    apply Nat.eq_of_testBit_eq
    intro x
    by_cases hx : x < n
    · rw [Bool.eq_iff_iff, ← h1 x hx, h2 x hx]
    · have hb : ∀ k, k < 2 ^ n → k.testBit x = false := fun k hk => Nat.testBit_lt_two_pow (Nat.lt_of_lt_of_le hk (Nat.pow_le_pow_right (by omega) (by omega)))
      rw [hb m (by omega), hb k (by omega)]
theorem chos_flen (n : Nat) (ps : List (Int × Int)) : (chosL n ps).length = ((List.range' 0 (2 ^ n)).filter fun m => decide (jdg n (seeL 7 ps) m = 0)).length := by
  unfold chosL
  rw [(sortL_perm lexLt _).length_eq]
  unfold kerL
  rw [List.length_map]
theorem iso_chos {n : Nat} {g h : Nat → Nat} {ps oo : List (Int × Int)} (q : Iso n g h (seeL 7 ps) (seeL 7 oo)) : (chosL n ps).length = (chosL n oo).length := by
  rw [chos_flen, chos_flen]
  exact Nat.le_antisymm (iso_ker_le q) (iso_ker_le q.back)

/-! #### circles -/
/-- The same circle in new numbers, from another word on. -/
def rotR (g : Nat → Nat) (c c' : List Nat) : Prop := c'.length = c.length ∧ ∃ r, ∀ k, k < c.length → c'.getD k 0 = g (c.getD ((k + r) % c.length) 0)
theorem getD_mapN (g : Nat → Nat) (c : List Nat) (k : Nat) (hk : k < c.length) : (c.map g).getD k 0 = g (c.getD k 0) := by
  rw [List.getD_eq_getElem?_getD, List.getElem?_map, List.getD_eq_getElem?_getD, List.getElem?_eq_getElem hk]; rfl
theorem getD_in {c : List Nat} {n : Nat} (h : ∀ x ∈ c, x < n) (i : Nat) (hi : i < c.length) : c.getD i 0 < n := by
  rw [List.getD_eq_getElem?_getD, List.getElem?_eq_getElem hi]
  exact h _ (List.getElem_mem hi)
theorem rot_get (A B : List Nat) (m k : Nat) (hk : k < (A ++ m :: B).length) : (m :: (B ++ A)).getD k 0 = (A ++ m :: B).getD ((k + A.length) % (A ++ m :: B).length) 0 := by
  have e : m :: (B ++ A) = (m :: B) ++ A := rfl
  rw [e]
  generalize m :: B = C at *
  rw [List.length_append] at hk ⊢
  rw [List.getD_eq_getElem?_getD, List.getD_eq_getElem?_getD]
  by_cases h : k < C.length
  · rw [List.getElem?_append_left h, Nat.mod_eq_of_lt (by omega), List.getElem?_append_right (by omega), Nat.add_sub_cancel]
  · have e2 : (k + A.length) % (A.length + C.length) = k - C.length := by
      rw [show k + A.length = (k - C.length) + (A.length + C.length) by omega, Nat.add_mod_right, Nat.mod_eq_of_lt (by omega)]
    rw [e2, List.getElem?_append_right (by omega), List.getElem?_append_left (by omega)]
theorem ch_map {n : Nat} {g h : Nat → Nat} {w w' : List Nat} (q : Iso n g h w w') : ∀ c : List Nat, (∀ x ∈ c, x < n) → Ch (Jw w) c → Ch (Jw w') (c.map g)
  | [], _, _ => trivial
  | [_], _, _ => trivial
  | a :: b :: r, hc, h => ⟨(q.jw a b (hc a (by simp)) (hc b (by simp))).2 h.1, ch_map q (b :: r) (fun x hx => hc x (by simp only [List.mem_cons] at hx ⊢; exact .inr hx)) h.2⟩
theorem iso_circ {n : Nat} (hn : n ≤ 7) {g h : Nat → Nat} {w w' : List Nat} (q : Iso n g h w w') {c : List Nat} (hc : c ∈ circL n w) : ∃ c' ∈ circL n w', rotR g c c' := by
  obtain ⟨a, s, e, ha, h2, h3, h4, h5, h6⟩ := (circ_iff hn w c).1 hc
  have hlt := (circ_lt hn c hc).2.2.1
  have hcyc : Ch (Jw w) (c ++ [a]) := (ch_snoc a c (by rw [e]; simp)).2 ⟨h5, h6⟩
  have hmap : Cyc (Jw w') (c.map g) := ⟨g a, s.map g, by rw [e]; rfl, by
    have := ch_map q (c ++ [a]) (fun x hx => by
      rcases List.mem_append.1 hx with hx | hx
      · exact hlt x hx
      · simp at hx; subst hx; exact ha) hcyc
    rwa [List.map_append, List.map_singleton] at this⟩
  have hnd : (c.map g).Nodup := nodup_map_inj h3 (fun x hx y hy e => by
    have := congrArg h e
    rwa [q.hg x (hlt x hx), q.hg y (hlt y hy)] at this)
  obtain ⟨A, m, B, e1, hm⟩ := circ_of hn hnd (by rw [List.length_map]; exact h4) hmap (fun y hy => by
    obtain ⟨x, hx, rfl⟩ := List.mem_map.1 hy
    exact q.glt x (hlt x hx))
  have hl : (A ++ m :: B).length = c.length := by rw [← e1, List.length_map]
  refine ⟨_, hm, ?_, A.length, fun k hk => ?_⟩
  · simp only [List.length_append, List.length_cons] at hl ⊢; omega
  · rw [rot_get A B m k (by omega), ← e1, List.length_map, getD_mapN]
    exact Nat.mod_lt _ (by omega)
theorem circ_min {n : Nat} (hn : n ≤ 7) {w : List Nat} {c : List Nat} (hc : c ∈ circL n w) (i : Nat) (hi : i < c.length) : c.getD 0 0 ≤ c.getD i 0 := by
  obtain ⟨a, s, e, ha, h2, _⟩ := (circ_iff hn w c).1 hc
  have : c.getD i 0 ∈ c := by rw [List.getD_eq_getElem?_getD, List.getElem?_eq_getElem hi]; exact List.getElem_mem hi
  have e0 : c.getD 0 0 = a := by rw [e]; rfl
  rw [e0]
  rw [e] at this
  rcases List.mem_cons.1 this with h | h
  · rw [e, h]; exact Nat.le_refl _
  · have := (h2 _ h).1; rw [e]; omega
theorem rot_zero (L r : Nat) (hL : 0 < L) : ∃ k, k < L ∧ (k + r) % L = 0 := by
  have h1 := Nat.mod_lt r hL
  refine ⟨(L - r % L) % L, Nat.mod_lt _ hL, ?_⟩
  rw [Nat.mod_add_mod]
  have h2 := Nat.mod_add_div r L
  rw [show L - r % L + r = L * (1 + r / L) by rw [Nat.mul_add, Nat.mul_one]; omega, Nat.mul_mod_right]
theorem rot_inj {n : Nat} (hn : n ≤ 7) {g h : Nat → Nat} {w w' : List Nat} (q : Iso n g h w w') {c d c' : List Nat} (hc : c ∈ circL n w) (hd : d ∈ circL n w) (k1 : rotR g c c') (k2 : rotR g d c') : c = d := by
  obtain ⟨c1, c2, c3, c4⟩ := circ_lt hn c hc
  obtain ⟨d1, d2, d3, d4⟩ := circ_lt hn d hd
  obtain ⟨l1, r, k1⟩ := k1
  obtain ⟨l2, s, k2⟩ := k2
  have hl : d.length = c.length := by omega
  have hge : ∀ k, k < c.length → c.getD ((k + r) % c.length) 0 = d.getD ((k + s) % c.length) 0 := fun k hk => by
    have e := k1 k hk
    rw [k2 k (by omega), hl] at e
    have m1 : (k + r) % c.length < c.length := Nat.mod_lt _ (by omega)
    have m2 : (k + s) % c.length < c.length := Nat.mod_lt _ (by omega)
    have e2 := congrArg h e
    rw [q.hg _ (getD_in d3 _ (by omega)), q.hg _ (getD_in c3 _ m1)] at e2
    exact e2.symm
  obtain ⟨k0, hk0, z0⟩ := rot_zero c.length r (by omega)
  obtain ⟨j0, hj0, z1⟩ := rot_zero c.length s (by omega)
  have m1 : (k0 + s) % c.length < c.length := Nat.mod_lt _ (by omega)
  have m2 : (j0 + r) % c.length < c.length := Nat.mod_lt _ (by omega)
  have e1 := hge k0 hk0
  have e2 := hge j0 hj0
  rw [z0] at e1
  rw [z1] at e2
  have i1 := circ_min hn hd ((k0 + s) % c.length) (by omega)
  have i2 := circ_min hn hc ((j0 + r) % c.length) m2
  have hz : (k0 + s) % c.length = 0 := by
    have e3 : d.getD ((k0 + s) % c.length) 0 = d.getD 0 0 := by omega
    rw [List.getD_eq_getElem?_getD, List.getElem?_eq_getElem (by omega), List.getD_eq_getElem?_getD, List.getElem?_eq_getElem (by omega)] at e3
    exact nodup_get d4 (by omega) (by omega) (by simpa using e3)
  have hgo : ∀ i, i < c.length → ∀ t, (k0 + t) % c.length = 0 → ((k0 + i) % c.length + t) % c.length = i := fun i hi t ht => by
    rw [Nat.mod_add_mod, show k0 + i + t = (k0 + t) + i by omega, ← Nat.mod_add_mod, ht, Nat.zero_add, Nat.mod_eq_of_lt hi]
  refine List.ext_getElem (by omega) fun i h3 h4 => ?_
  have := hge ((k0 + i) % c.length) (Nat.mod_lt _ (by omega))
  rw [hgo i h3 r z0, hgo i h3 s hz, List.getD_eq_getElem?_getD, List.getElem?_eq_getElem h3, List.getD_eq_getElem?_getD, List.getElem?_eq_getElem h4] at this
  exact this
theorem iso_circ_le {n : Nat} (hn : n ≤ 7) {g h : Nat → Nat} {w w' : List Nat} (q : Iso n g h w w') : (circL n w).length ≤ (circL n w').length :=
  len_rel (rotR g) _ _ (asc_nodup (circ_asc n w)) (fun _ hc => iso_circ hn q hc) (fun _ hc _ hd _ h1 h2 => rot_inj hn q hc hd h1 h2)
theorem iso_circs {n : Nat} (hn : n ≤ 7) {g h : Nat → Nat} {w w' : List Nat} (q : Iso n g h w w') : (circL n w).length = (circL n w').length :=
  Nat.le_antisymm (iso_circ_le hn q) (iso_circ_le hn q.back)

/-! #### the odd circle -/
theorem oinv_circ (n : Nat) (w : List Nat) : OInv (circL n w) (oddB n w) := by
  rw [oddB_fold]
  have := oinv_all (circL n w) [] none (.inl ⟨rfl, by simp⟩) (by simpa using circ_asc n w)
  rwa [List.nil_append] at this
theorem iso_odd1 {n : Nat} (hn : n ≤ 7) {g h : Nat → Nat} {w w' : List Nat} (q : Iso n g h w w') {b : List Nat} (hb : oddB n w = some b) : ∃ b', oddB n w' = some b' ∧ b'.length ≤ b.length := by
  obtain ⟨h1, h2⟩ := oddB_some hb
  obtain ⟨c', hc', hr, _⟩ := iso_circ hn q h1
  rcases oinv_circ n w' with ⟨_, h3⟩ | ⟨b', e, h3, h4, _⟩
  · have := h3 c' hc'; omega
  · exact ⟨b', e, by have := h4 c' hc' (by omega); omega⟩
theorem iso_ring {n : Nat} (hn : n ≤ 7) {g h : Nat → Nat} {ps oo : List (Int × Int)} (q : Iso n g h (seeL 7 ps) (seeL 7 oo)) (e1 : chk (n : Int) ps = 0) (e2 : chk (n : Int) oo = 0) : (ringV (n : Int) ps).length = (ringV (n : Int) oo).length ∧ ringE (n : Int) ps = ringE (n : Int) oo := by
  unfold ringV ringE
  rw [if_pos e1, if_pos e1, if_pos e2, if_pos e2, Int.toNat_natCast]
  cases h1 : oddB n (seeL 7 ps) with
  | none =>
    cases h2 : oddB n (seeL 7 oo) with
    | none => exact ⟨rfl, rfl⟩
    | some b =>
      obtain ⟨b', e, _⟩ := iso_odd1 hn q.back h2
      rw [h1] at e; simp at e
  | some b =>
    obtain ⟨b', e, hl⟩ := iso_odd1 hn q h1
    obtain ⟨b'', e', hl'⟩ := iso_odd1 hn q.back e
    rw [h1] at e'
    rw [e]
    simp only [Option.some.injEq] at e'
    subst e'
    refine ⟨?_, rfl⟩
    show (up b).length = (up b').length
    rw [up_len, up_len]; omega

/-! #### numbers of words -/
theorem iso_num {n : Nat} {g h : Nat → Nat} {w w' : List Nat} (q : Iso n g h w w') {x v : Nat} (hx : Num w x v) : x < n → Num w' (g x) v := by
  induction hx with
  | mk x f v hb hm ih =>
    intro hxn
    have hmem : ∀ y, y ∈ bitsL (w.getD x 0) ↔ Jw w x y := fun y => bits_mem (small_getD q.sm x) y
    have hmem' : ∀ y, y ∈ bitsL (w'.getD (g x) 0) ↔ Jw w' (g x) y := fun y => bits_mem (small_getD q.sm' (g x)) y
    have hback : ∀ y, y ∈ bitsL (w'.getD (g x) 0) → y < n ∧ h y ∈ bitsL (w.getD x 0) := fun y hy => by
      rw [hmem'] at hy
      have hy2 := q.wlt' _ _ hy
      refine ⟨hy2, (hmem _).2 ?_⟩
      have := q.jw x (h y) hxn (q.hlt y hy2)
      rw [q.gh y hy2] at this
      exact this.1 hy
    refine .mk (g x) (fun y => f (h y)) v (fun y hy => ?_) ⟨fun hv => hm.1 ?_, fun j hj => ?_⟩
    · obtain ⟨a, b⟩ := hback y hy
      have := ih (h y) b (q.hlt y a)
      rwa [q.gh y a] at this
    · obtain ⟨y, hy, e⟩ := List.mem_map.1 hv
      exact List.mem_map.2 ⟨h y, (hback y hy).2, e⟩
    · obtain ⟨y, hy, e⟩ := List.mem_map.1 (hm.2 j hj)
      have hy2 := q.wlt _ _ ((hmem y).1 hy)
      exact List.mem_map.2 ⟨g y, (hmem' _).2 ((q.jw x y hxn hy2).2 ((hmem y).1 hy)), by show f (h (g y)) = j; rw [q.hg y hy2]; exact e⟩


/-! ### the other book -/
/-- Other numbers, and the references the other way round. -/
def othL (N : List Nat) (ps : List (Int × Int)) : List (Int × Int) := (ps.map (renP N)).reverse
theorem oth_len (N : List Nat) (ps : List (Int × Int)) : (othL N ps).length = ps.length := by simp [othL]
theorem oth_mem {n : Nat} {N : List Nat} (hN : PermTo N n) {ps : List (Int × Int)} (hps : ∀ p ∈ ps, goodP (n : Int) p) {a b : Nat} (ha : a < n) (hb : b < n) :
    (((N.getD a 0 : Nat) : Int), ((N.getD b 0 : Nat) : Int)) ∈ othL N ps ↔ ((a : Int), (b : Int)) ∈ ps := by
  unfold othL
  rw [List.mem_reverse, List.mem_map]
  constructor
  · rintro ⟨p, hp, e⟩
    obtain ⟨a1, a2, a3, a4, a5⟩ := hps p hp
    unfold renP at e
    have e1 : ((N.getD p.1.toNat 0 : Nat) : Int) = ((N.getD a 0 : Nat) : Int) := congrArg Prod.fst e
    have e2 : ((N.getD p.2.toNat 0 : Nat) : Int) = ((N.getD b 0 : Nat) : Int) := congrArg Prod.snd e
    have h1 := hN.inj p.1.toNat a (by omega) ha (by omega)
    have h2 := hN.inj p.2.toNat b (by omega) hb (by omega)
    have : p = ((a : Int), (b : Int)) := Prod.ext (by simp only; omega) (by simp only; omega)
    rw [← this]; exact hp
  · intro h
    exact ⟨_, h, by unfold renP; simp only [Int.toNat_natCast]⟩
theorem named_ok {n : Nat} (h1 : 1 ≤ n) (hn : n ≤ 7) {N : List Nat} (hN : PermTo N n) (hl : N.length = n) {ps : List (Int × Int)} (hps : ∀ p ∈ ps, goodP (n : Int) p) (h7 : ∀ p ∈ ps, okP p) (hnd : ps.Nodup) (hlen : ps.length ≤ 16) :
    chk (n : Int) (othL N ps) = 0 ∧ (∀ p ∈ othL N ps, goodP (n : Int) p) ∧ (∀ p ∈ othL N ps, okP p) ∧ ∃ h, Iso n (fun x => N.getD x 0) h (seeL 7 ps) (seeL 7 (othL N ps)) := by
  have hg : ∀ p ∈ othL N ps, goodP (n : Int) p := fun p hp => by
    unfold othL at hp
    rw [List.mem_reverse, List.mem_map] at hp
    obtain ⟨r, hr, rfl⟩ := hp
    obtain ⟨a1, a2, a3, a4, a5⟩ := hps r hr
    have l1 := hN.lt r.1.toNat (by omega)
    have l2 := hN.lt r.2.toNat (by omega)
    unfold renP goodP
    refine ⟨Int.natCast_nonneg _, by simp only; omega, Int.natCast_nonneg _, by simp only; omega, fun e => ?_⟩
    have e2 : ((N.getD r.1.toNat 0 : Nat) : Int) = ((N.getD r.2.toNat 0 : Nat) : Int) := e
    have := hN.inj r.1.toNat r.2.toNat (by omega) (by omega) (by omega)
    omega
  have hk : ∀ p ∈ othL N ps, okP p := fun p hp => by have := hg p hp; unfold goodP at this; unfold okP; omega
  have hnd2 : (othL N ps).Nodup := by
    unfold othL
    refine (List.reverse_perm _).nodup_iff.2 ?_
    refine nodup_map_inj hnd fun a ha b hb e => ?_
    obtain ⟨a1, a2, a3, a4, a5⟩ := hps a ha
    obtain ⟨b1, b2, b3, b4, b5⟩ := hps b hb
    unfold renP at e
    have e1 : ((N.getD a.1.toNat 0 : Nat) : Int) = ((N.getD b.1.toNat 0 : Nat) : Int) := congrArg Prod.fst e
    have e2 : ((N.getD a.2.toNat 0 : Nat) : Int) = ((N.getD b.2.toNat 0 : Nat) : Int) := congrArg Prod.snd e
    have i1 := hN.inj a.1.toNat b.1.toNat (by omega) (by omega) (by omega)
    have i2 := hN.inj a.2.toNat b.2.toNat (by omega) (by omega) (by omega)
    exact Prod.ext (by omega) (by omega)
  refine ⟨?_, hg, hk, ?_⟩
  · unfold chk
    rw [if_neg (by omega), if_neg (by rw [oth_len]; omega)]
    exact prsErr_ok _ [] hg (by simpa using hnd2)
  · have hex : ∀ x, ∃ i, x < n → (i < n ∧ N.getD i 0 = x) := fun x => by
      by_cases hx : x < n
      · obtain ⟨i, a, b⟩ := perm_on hN hl hx
        exact ⟨i, fun _ => ⟨a, b⟩⟩
      · exact ⟨0, fun h => absurd h hx⟩
    obtain ⟨h, hh⟩ := Classical.axiomOfChoice hex
    refine ⟨h, fun x hx => hN.lt x hx, fun x hx => (hh x hx).1, fun x hx => ?_, fun x hx => (hh x hx).2, fun a b hab => ?_, fun a b hab => ?_, seeL_small 7 h7, seeL_small 7 hk, fun a b ha hb => ?_⟩
    · have := hh (N.getD x 0) (hN.lt x hx)
      exact hN.inj _ _ this.1 hx this.2
    · exact seeL_in (Nat.le_refl 7) (fun p hp => hps p hp) h7 a b hab
    · exact seeL_in (Nat.le_refl 7) (fun p hp => hg p hp) hk a b hab
    · unfold Jw
      rw [seeL_bit (Nat.le_refl 7) hk, seeL_bit (Nat.le_refl 7) h7, decide_eq_true_iff, decide_eq_true_iff]
      exact oth_mem hN hps ha hb
theorem named_circs {n : Nat} (hn : n ≤ 7) {g h : Nat → Nat} {ps oo : List (Int × Int)} (q : Iso n g h (seeL 7 ps) (seeL 7 oo)) (e1 : chk (n : Int) ps = 0) (e2 : chk (n : Int) oo = 0) : circV (n : Int) ps = circV (n : Int) oo := by
  unfold circV allN
  rw [if_pos e1, if_pos e2, Int.toNat_natCast, iso_circs hn q]
theorem named_nums {n : Nat} (hn : n ≤ 7) {N : List Nat} {h : Nat → Nat} {ps oo : List (Int × Int)} (q : Iso n (fun x => N.getD x 0) h (seeL 7 ps) (seeL 7 oo)) (e1 : chk (n : Int) ps = 0) (e2 : chk (n : Int) oo = 0) :
    numE (n : Int) ps = numE (n : Int) oo ∧ (numV (n : Int) ps).length = (numV (n : Int) oo).length ∧ (0 < (numV (n : Int) ps).length → (numV (n : Int) ps).length = n) ∧ ∀ x, x < (numV (n : Int) ps).length → (numV (n : Int) oo).getD (N.getD x 0) (-1) = (numV (n : Int) ps).getD x (-1) := by
  obtain ⟨_, _, a3, a4, _⟩ := chk_zero e1
  obtain ⟨_, _, b3, b4, _⟩ := chk_zero e2
  have hc := iso_circs hn q
  obtain ⟨x1, x2, _⟩ := num_all hn q.sm q.wlt (self_no (fun p hp => a3 p hp) a4)
  obtain ⟨y1, y2, _⟩ := num_all hn q.sm' q.wlt' (self_no (fun p hp => b3 p hp) b4)
  unfold numV numE allN
  rw [if_pos e1, if_pos e1, if_pos e2, if_pos e2, Int.toNat_natCast]
  by_cases he : circL n (seeL 7 ps) = []
  · have he2 : circL n (seeL 7 oo) = [] := List.eq_nil_of_length_eq_zero (by rw [← hc, he]; rfl)
    rw [if_pos he, if_pos he, if_pos he2, if_pos he2]
    refine ⟨rfl, by omega, fun _ => x1, fun x hx => ?_⟩
    rw [x1] at hx
    obtain ⟨v, v1, v2⟩ := x2 he x hx
    obtain ⟨u, u1, u2⟩ := y2 he2 (N.getD x 0) (q.glt x hx)
    have := num_uniq (iso_num q v2 hx) u u2
    rw [v1, u1, this]
  · have he2 : ¬ circL n (seeL 7 oo) = [] := fun e => he (List.eq_nil_of_length_eq_zero (by rw [hc, e]; rfl))
    rw [if_neg he, if_neg he, if_neg he2, if_neg he2]
    exact ⟨rfl, rfl, fun h => by simp at h, fun x hx => by simp at hx⟩

/-! #### a choice in new numbers, in order -/
def ltI (a b : Int) : Bool := decide (a < b)
theorem ltI_h1 (a b : Int) (h : ltI a b = true) : ltI b a = false := by
  unfold ltI at *; rw [decide_eq_true_iff] at h; rw [decide_eq_false_iff_not]; omega
theorem ltI_h2 (a b c : Int) (h1 : ltI b a = false) (h2 : ltI c b = false) : ltI c a = false := by
  unfold ltI at *; rw [decide_eq_false_iff_not] at *; omega
/-- The new numbers of some words. -/
def toL (N : List Nat) (l : List Int) : List Int := l.map fun x => ((N.getD x.toNat 0 : Nat) : Int)
theorem toL_len (N : List Nat) (l : List Int) : (toL N l).length = l.length := by simp [toL]
theorem named_valid {n : Nat} (hn : n ≤ 7) {N : List Nat} (hN : PermTo N n) {h : Nat → Nat} {ps oo : List (Int × Int)} (q : Iso n (fun x => N.getD x 0) h (seeL 7 ps) (seeL 7 oo)) (e2 : chk (n : Int) oo = 0) {c : List Int} (hc : c ∈ chosL n ps) :
    validE (n : Int) oo (sortL ltI (toL N c)) = 0 ∧ (∀ x ∈ c, 0 ≤ x ∧ x < (n : Int)) ∧ c.length ≤ 7 := by
  obtain ⟨m, hm, rfl, hj⟩ := chos_set hc
  have hm7 : m < 128 := lt128 hn hm
  have hcm : ∀ x ∈ memb m, ∃ i : Nat, i < n ∧ x = (i : Int) ∧ m.testBit i = true := fun x hx => by
    unfold memb at hx
    obtain ⟨i, hi, rfl⟩ := List.mem_map.1 hx
    have hb := (List.mem_filter.1 hi).2
    exact ⟨i, bit_lt hm hb, rfl, hb⟩
  refine ⟨?_, fun x hx => by obtain ⟨i, a, rfl, _⟩ := hcm x hx; omega, memb_len m⟩
  have hp := sortL_perm ltI (toL N (memb m))
  have hs := sortL_sorted ltI ltI_h1 ltI_h2 (toL N (memb m))
  have hmn : (memb m).Nodup := by
    unfold memb
    refine nodup_map_inj (List.Pairwise.filter _ List.nodup_range) fun a _ b _ e => by omega
  have hnd : (toL N (memb m)).Nodup := by
    unfold toL
    refine nodup_map_inj hmn fun a ha b hb e => ?_
    obtain ⟨i, i1, rfl, _⟩ := hcm a ha
    obtain ⟨j, j1, rfl, _⟩ := hcm b hb
    simp only [Int.toNat_natCast] at e
    have := hN.inj i j i1 j1 (by omega)
    omega
  have hnd2 := hp.nodup_iff.2 hnd
  have hmem : ∀ x, x ∈ sortL ltI (toL N (memb m)) ↔ ∃ i : Nat, i < n ∧ m.testBit i = true ∧ x = ((N.getD i 0 : Nat) : Int) := fun x => by
    rw [hp.mem_iff]
    unfold toL
    rw [List.mem_map]
    constructor
    · rintro ⟨y, hy, rfl⟩
      obtain ⟨i, a, rfl, b⟩ := hcm y hy
      exact ⟨i, a, b, by simp only [Int.toNat_natCast]⟩
    · rintro ⟨i, a, b, rfl⟩
      exact ⟨(i : Int), (memb_mem hm7 i).2 b, by simp only [Int.toNat_natCast]⟩
  generalize sortL ltI (toL N (memb m)) = z at *
  have hz7 : ∀ x ∈ z, 0 ≤ x ∧ x < 7 := fun x hx => by
    obtain ⟨i, a, _, rfl⟩ := (hmem x).1 hx
    have := hN.lt i a
    omega
  have hzn : ∀ x ∈ z, x < (n : Int) := fun x hx => by
    obtain ⟨i, a, _, rfl⟩ := (hmem x).1 hx
    have := hN.lt i a
    omega
  unfold validE
  have hse : setErr (n : Int) (-1) z = 0 := by
    refine setErr_ok z (-1) (fun x hx => ⟨by have := hz7 x hx; omega, (hz7 x hx).1, hzn x hx⟩) ?_
    refine List.Pairwise.imp₂ (fun a b (h1 : ltI b a = false) (h2 : a ≠ b) => ?_) hs hnd2
    unfold ltI at h1
    rw [decide_eq_false_iff_not] at h1
    omega
  rw [if_pos e2, if_pos hse, Int.toNat_natCast]
  refine iso_jdg q hm (fun y hy => ?_) (fun x hx => ?_) hj
  · rw [setL_bit hz7, decide_eq_true_iff] at hy
    have := hzn _ hy; omega
  · rw [setL_bit hz7, decide_eq_true_iff, hmem]
    constructor
    · rintro ⟨i, a, b, e⟩
      have := hN.inj x i hx a (by omega)
      subst this; exact b
    · intro hb
      exact ⟨x, hx, hb, rfl⟩

attribute [local go_sem] shaped_t cells_t isAgg_t storable_t okRef_t

/-! ### sorting numbers -/
theorem c115 (a b : Int) (st : St) : run L 115 [I a, I b] st = some (B (ltI a b), st) := by
  rw [run_pure (fn := ir115) rfl rfl]
  unfold ltI
  by_cases h : a < b
  · simp only [ir115, go_sem, reduceIte, Nat.reduceEqDiff, Nat.reduceAdd, Nat.reduceSub, Nat.reduceLeDiff, Nat.reduceLT, reduceCtorEq, Int.reduceLT, Int.reduceLE, Int.reduceEq, Int.reduceBEq, Int.reduceSub, Int.reduceAdd, Int.reduceMul, Int.reduceNeg, Int.reduceToNat, Nat.reduceMul, Nat.reduceBEq, c98, h]
  · simp only [ir115, go_sem, reduceIte, Nat.reduceEqDiff, Nat.reduceAdd, Nat.reduceSub, Nat.reduceLeDiff, Nat.reduceLT, reduceCtorEq, Int.reduceLT, Int.reduceLE, Int.reduceEq, Int.reduceBEq, Int.reduceSub, Int.reduceAdd, Int.reduceMul, Int.reduceNeg, Int.reduceToNat, Nat.reduceMul, Nat.reduceBEq, c98, h]
theorem getII (X : List Int) (i : Nat) (x : Int) (h : X[i]? = some x) : (X.map I)[i]? = some (I x) := by
  rw [List.getElem?_map, h]; rfl
theorem at_oneI (A : List Int) (x : Int) (B : List Int) : (A ++ x :: B)[A.length]? = some x := by simp

theorem loop109_0 (S0 : List (List AV)) (T : List Nat) (l : Nat) (hl : l < S0.length) (n : Nat) (hn : n ≤ 1000) (x : Int) (i : Nat) (lo hi : Nat) (j : Nat) (A : List Int) (C : List Int) (hok : A.length = j ∧ j + 1 + C.length = n) (env : Env) (st : St)
    (hg : gcAV false lo hi (canon env [0, 1, 2, 6, 7]) st = ([(0, .rsl l 0 n n 1 false), (1, I 0), (2, I n), (6, I i), (7, I j)], ⟨S0.set l ((A ++ x :: C).map I), T⟩)) :
    ∃ x_1 en s, lim (headed pure (run L) false [0, 1, 2, 6, 7] lp109_0 lo hi) env st = some (x_1, en, s) ∧ (x_1 = .exit 2 ∧ en.get 0 = .rsl l 0 n n 1 false ∧ en.get 1 = I 0 ∧ en.get 2 = I n ∧ en.get 6 = I i ∧ s = ⟨S0.set l ((insL ltI A x ++ C).map I), T⟩) := by
  refine loop_wp (α := Nat × List Int × List Int) (fun ⟨j, A, C⟩ => j) (fun ⟨j, A, C⟩ => A.length = j ∧ j + 1 + C.length = n) (fun ⟨j, A, C⟩ => ([(0, .rsl l 0 n n 1 false), (1, I 0), (2, I n), (6, I i), (7, I j)], ⟨S0.set l ((A ++ x :: C).map I), T⟩)) (fun ⟨j, A, C⟩ x_1 en s => x_1 = .exit 2 ∧ en.get 0 = .rsl l 0 n n 1 false ∧ en.get 1 = I 0 ∧ en.get 2 = I n ∧ en.get 6 = I i ∧ s = ⟨S0.set l ((insL ltI A x ++ C).map I), T⟩) (fun ⟨j, A, C⟩ hok => ?_) ⟨j, A, C⟩ hok env st hg
  simp only at hok
  obtain ⟨h1, h2⟩ := hok
  dsimp only at h1 h2 ⊢
  have hget : ∀ D : List AV, (S0.set l D)[l]? = some D := fun D => List.getElem?_set_self hl
  rcases List.eq_nil_or_concat A with rfl | ⟨A', a, rfl⟩
  · have hj : j = 0 := by simpa using h1.symm
    subst hj
    rw [insL_nil]
    simp only [go_sem, reduceIte, Nat.reduceEqDiff, Nat.reduceAdd, Nat.reduceSub, Nat.reduceLeDiff, Nat.reduceLT, reduceCtorEq, Int.reduceLT, Int.reduceLE, Int.reduceEq, Int.reduceBEq, Int.reduceSub, Int.reduceAdd, Int.reduceMul, Int.reduceNeg, Int.reduceToNat, Nat.reduceMul, Nat.reduceBEq, index_rsl_if, setm, make_ints, condK_dec, wantK_dec, not_dec, and_dec, or_dec, seqK_ite, seqK_none, blockK_ite, blockK_none, opsK_ite, opsK_none, stepK_ite, stepK_none, bodyK_ite, bodyK_none, resK_ite, resK_none, leaveK_ite, leaveK_none, only_ite, only_none, bind_ite, gives_some, gives_none, gives_ite, then_normal, then_ret, then_exit, then_none, then_ite, Option.bind_none, Bool.not_eq_true', decide_eq_false_iff_not, Bool.and_eq_true, Bool.or_eq_true, Option.some.injEq, Int.not_lt, Int.not_le, lp109_0, Int.natCast_zero]
  · rw [List.concat_eq_append] at h1 ⊢
    obtain ⟨m, rfl⟩ : ∃ m, j = m + 1 := ⟨A'.length, by rw [← h1]; simp⟩
    have hm : A'.length = m := by simpa using h1
    have hk := fun st => c115 x a st
    have hg1 := getII ((A' ++ [a]) ++ x :: C) (m + 1) x (by
      have := at_oneI (A' ++ [a]) x C
      rwa [h1] at this)
    have hg2 := getII ((A' ++ [a]) ++ x :: C) m a (by
      have := at_oneI A' a (x :: C)
      rw [hm] at this
      simpa using this)
    have hset : (((A' ++ [a]) ++ x :: C).set (m + 1) a).set m x = A' ++ x :: a :: C := by
      subst hm
      simp
    have hset2 : ((((A' ++ [a]) ++ x :: C).map I).set (m + 1) (I a)).set m (I x) = (A' ++ x :: a :: C).map I := by
      rw [← hset, List.map_set, List.map_set]
    have hlen : ((A' ++ [a]) ++ x :: C).length = n := by simp; omega
    have hpos : ((0 : Int) < ((m + 1 : Nat) : Int)) = True := eq_true (by omega)
    have hw : IntKind.i64.wrap (((m + 1 : Nat) : Int) - 1) = ((m : Nat) : Int) := by rw [wrap64] <;> omega
    have b0 : ((0 : Int) ≤ ((m + 1 : Nat) : Int)) = True := eq_true (by omega)
    have b1 : (((m + 1 : Nat) : Int) < (n : Int)) = True := eq_true (by omega)
    have b2 : ((0 : Int) ≤ ((m : Nat) : Int)) = True := eq_true (by omega)
    have b3 : (((m : Nat) : Int) < (n : Int)) = True := eq_true (by omega)
    have b4 : (m + 1 < n) = True := eq_true (by omega)
    have b5 : (m < n) = True := eq_true (by omega)
    have b6 : (m + 1 + 1 ≤ n) = True := eq_true (by omega)
    have b7 : (m + 1 ≤ n) = True := eq_true (by omega)
    rw [insL_snoc]
    generalize hX : (A' ++ [a]) ++ x :: C = X at *
    by_cases p : ltI x a = true
    · rw [if_pos p]
      simp only [go_sem, reduceIte, Nat.reduceEqDiff, Nat.reduceAdd, Nat.reduceSub, Nat.reduceLeDiff, Nat.reduceLT, reduceCtorEq, Int.reduceLT, Int.reduceLE, Int.reduceEq, Int.reduceBEq, Int.reduceSub, Int.reduceAdd, Int.reduceMul, Int.reduceNeg, Int.reduceToNat, Nat.reduceMul, Nat.reduceBEq, index_rsl_if, setm, make_ints, condK_dec, wantK_dec, not_dec, and_dec, or_dec, seqK_ite, seqK_none, blockK_ite, blockK_none, opsK_ite, opsK_none, stepK_ite, stepK_none, bodyK_ite, bodyK_none, resK_ite, resK_none, leaveK_ite, leaveK_none, only_ite, only_none, bind_ite, gives_some, gives_none, gives_ite, then_normal, then_ret, then_exit, then_none, then_ite, Option.bind_none, Bool.not_eq_true', decide_eq_false_iff_not, Bool.and_eq_true, Bool.or_eq_true, Option.some.injEq, Int.not_lt, Int.not_le, lp109_0, hpos, hw, b0, b1, b2, b3, b4, b5, b6, b7, hg1, hg2, hk, p, hget, hlen, List.set_set, hset2, List.length_map, List.length_set]
      refine ⟨(m, A', a :: C), by simp only [go_sem, reduceIte, Nat.reduceEqDiff, Nat.reduceAdd, Nat.reduceSub, Nat.reduceLeDiff, Nat.reduceLT, reduceCtorEq, Int.reduceLT, Int.reduceLE, Int.reduceEq, Int.reduceBEq, Int.reduceSub, Int.reduceAdd, Int.reduceMul, Int.reduceNeg, Int.reduceToNat, Nat.reduceMul, Nat.reduceBEq, ren1_locm, loc_tips, locT_eq, hset, hset2] <;> rfl, ?_, ?_, fun x en s hq => ?_⟩
      · dsimp only; exact ⟨hm, by rw [List.length_cons]; omega⟩
      · dsimp only; omega
      · dsimp only at hq; rw [List.append_assoc, List.singleton_append]; exact hq
    · have hlt' : ltI x a = false := by simpa using p
      rw [if_neg p]
      have e : A' ++ [a, x] ++ C = X := by rw [← hX]; simp
      rw [e]
      simp only [go_sem, reduceIte, Nat.reduceEqDiff, Nat.reduceAdd, Nat.reduceSub, Nat.reduceLeDiff, Nat.reduceLT, reduceCtorEq, Int.reduceLT, Int.reduceLE, Int.reduceEq, Int.reduceBEq, Int.reduceSub, Int.reduceAdd, Int.reduceMul, Int.reduceNeg, Int.reduceToNat, Nat.reduceMul, Nat.reduceBEq, index_rsl_if, setm, make_ints, condK_dec, wantK_dec, not_dec, and_dec, or_dec, seqK_ite, seqK_none, blockK_ite, blockK_none, opsK_ite, opsK_none, stepK_ite, stepK_none, bodyK_ite, bodyK_none, resK_ite, resK_none, leaveK_ite, leaveK_none, only_ite, only_none, bind_ite, gives_some, gives_none, gives_ite, then_normal, then_ret, then_exit, then_none, then_ite, Option.bind_none, Bool.not_eq_true', decide_eq_false_iff_not, Bool.and_eq_true, Bool.or_eq_true, Option.some.injEq, Int.not_lt, Int.not_le, lp109_0, hpos, hw, b0, b1, b2, b3, b4, b5, b6, b7, hg1, hg2, hk, hlt', hget, hlen, List.length_map]

theorem loop109_1 (S0 : List (List AV)) (T : List Nat) (l : Nat) (hl : l < S0.length) (n : Nat) (hn : n ≤ 1000) (lo hi : Nat) (i : Nat) (A : List Int) (C : List Int) (hok : A.length = i ∧ i + C.length = n) (env : Env) (st : St)
    (hg : gcAV false lo hi (canon env [0, 1, 2, 6]) st = ([(0, .rsl l 0 n n 1 false), (1, I 0), (2, I n), (6, I i)], ⟨S0.set l ((A ++ C).map I), T⟩)) :
    ∃ x_1 en s, lim (headed pure (run L) false [0, 1, 2, 6] lp109_1 lo hi) env st = some (x_1, en, s) ∧ (x_1 = .exit 0 ∧ s = ⟨S0.set l ((C.foldl (insL ltI) A).map I), T⟩) := by
  refine loop_wp (α := Nat × List Int × List Int) (fun ⟨i, A, C⟩ => C.length) (fun ⟨i, A, C⟩ => A.length = i ∧ i + C.length = n) (fun ⟨i, A, C⟩ => ([(0, .rsl l 0 n n 1 false), (1, I 0), (2, I n), (6, I i)], ⟨S0.set l ((A ++ C).map I), T⟩)) (fun ⟨i, A, C⟩ x_1 en s => x_1 = .exit 0 ∧ s = ⟨S0.set l ((C.foldl (insL ltI) A).map I), T⟩) (fun ⟨i, A, C⟩ hok => ?_) ⟨i, A, C⟩ hok env st hg
  simp only at hok
  obtain ⟨h1, h2⟩ := hok
  dsimp only at h1 h2 ⊢
  cases C with
  | nil =>
    obtain rfl : i = n := by simpa using h2
    rw [List.append_nil]
    simp only [go_sem, reduceIte, Nat.reduceEqDiff, Nat.reduceAdd, Nat.reduceSub, Nat.reduceLeDiff, Nat.reduceLT, reduceCtorEq, Int.reduceLT, Int.reduceLE, Int.reduceEq, Int.reduceBEq, Int.reduceSub, Int.reduceAdd, Int.reduceMul, Int.reduceNeg, Int.reduceToNat, Nat.reduceMul, Nat.reduceBEq, index_rsl_if, setm, make_ints, condK_dec, wantK_dec, not_dec, and_dec, or_dec, seqK_ite, seqK_none, blockK_ite, blockK_none, opsK_ite, opsK_none, stepK_ite, stepK_none, bodyK_ite, bodyK_none, resK_ite, resK_none, leaveK_ite, leaveK_none, only_ite, only_none, bind_ite, gives_some, gives_none, gives_ite, then_normal, then_ret, then_exit, then_none, then_ite, Option.bind_none, Bool.not_eq_true', decide_eq_false_iff_not, Bool.and_eq_true, Bool.or_eq_true, Option.some.injEq, Int.not_lt, Int.not_le, lp109_1, show ((i : Int) < (i : Int)) = False from eq_false (by omega)]
    rfl
  | cons x C =>
    rw [List.length_cons] at h2
    have hs := succ64 i (by omega)
    have hlt : ((i : Int) < (n : Int)) = True := eq_true (by omega)
    rw [List.foldl_cons]
    simp only [go_sem, reduceIte, Nat.reduceEqDiff, Nat.reduceAdd, Nat.reduceSub, Nat.reduceLeDiff, Nat.reduceLT, reduceCtorEq, Int.reduceLT, Int.reduceLE, Int.reduceEq, Int.reduceBEq, Int.reduceSub, Int.reduceAdd, Int.reduceMul, Int.reduceNeg, Int.reduceToNat, Nat.reduceMul, Nat.reduceBEq, index_rsl_if, setm, make_ints, condK_dec, wantK_dec, not_dec, and_dec, or_dec, seqK_ite, seqK_none, blockK_ite, blockK_none, opsK_ite, opsK_none, stepK_ite, stepK_none, bodyK_ite, bodyK_none, resK_ite, resK_none, leaveK_ite, leaveK_none, only_ite, only_none, bind_ite, gives_some, gives_none, gives_ite, then_normal, then_ret, then_exit, then_none, then_ite, Option.bind_none, Bool.not_eq_true', decide_eq_false_iff_not, Bool.and_eq_true, Bool.or_eq_true, Option.some.injEq, Int.not_lt, Int.not_le, lp109_1, hlt, hs]
    generalize hg : lim (headed pure (run L) false _ lp109_0 _ _) _ _ = o
    obtain ⟨x, en, s, rfl, h2⟩ : ∃ x en s, o = some (x, en, s) ∧ _ := by rw [← hg]; exact loop109_0 S0 T l hl n hn x i _ _ i A C ⟨h1, by omega⟩ _ _ (by simp only [go_sem, reduceIte, Nat.reduceEqDiff, Nat.reduceAdd, Nat.reduceSub, Nat.reduceLeDiff, Nat.reduceLT, reduceCtorEq, Int.reduceLT, Int.reduceLE, Int.reduceEq, Int.reduceBEq, Int.reduceSub, Int.reduceAdd, Int.reduceMul, Int.reduceNeg, Int.reduceToNat, Nat.reduceMul, Nat.reduceBEq] <;> rfl)
    clear hg
    obtain ⟨rfl, e0, e1, e2, e6, rfl⟩ := h2
    have hA := insL_len ltI A x
    simp only [go_sem, reduceIte, Nat.reduceEqDiff, Nat.reduceAdd, Nat.reduceSub, Nat.reduceLeDiff, Nat.reduceLT, reduceCtorEq, Int.reduceLT, Int.reduceLE, Int.reduceEq, Int.reduceBEq, Int.reduceSub, Int.reduceAdd, Int.reduceMul, Int.reduceNeg, Int.reduceToNat, Nat.reduceMul, Nat.reduceBEq, index_rsl_if, setm, make_ints, condK_dec, wantK_dec, not_dec, and_dec, or_dec, seqK_ite, seqK_none, blockK_ite, blockK_none, opsK_ite, opsK_none, stepK_ite, stepK_none, bodyK_ite, bodyK_none, resK_ite, resK_none, leaveK_ite, leaveK_none, only_ite, only_none, bind_ite, gives_some, gives_none, gives_ite, then_normal, then_ret, then_exit, then_none, then_ite, Option.bind_none, Bool.not_eq_true', decide_eq_false_iff_not, Bool.and_eq_true, Bool.or_eq_true, Option.some.injEq, Int.not_lt, Int.not_le, lp109_1, e0, e1, e2, e6, hs]
    refine ⟨(i + 1, insL ltI A x, C), by simp only [go_sem, reduceIte, Nat.reduceEqDiff, Nat.reduceAdd, Nat.reduceSub, Nat.reduceLeDiff, Nat.reduceLT, reduceCtorEq, Int.reduceLT, Int.reduceLE, Int.reduceEq, Int.reduceBEq, Int.reduceSub, Int.reduceAdd, Int.reduceMul, Int.reduceNeg, Int.reduceToNat, Nat.reduceMul, Nat.reduceBEq, ren1_locm, loc_tips, locT_eq, e0, e1, e2, e6] <;> rfl, ?_, ?_, fun x en s hq => ?_⟩
    · dsimp only; exact ⟨by omega, by omega⟩
    · dsimp only; omega
    · exact hq

theorem c109 (S : List (List AV)) (T : List Nat) (l : Nat) (X : List Int) (h : S[l]? = some (X.map I)) (h1 : 1 ≤ X.length) (hn : X.length ≤ 1000) :
    run L 109 [.rsl l 0 X.length X.length 1 false, I 0, I X.length] ⟨S, T⟩ = some (.tup [], ⟨S.set l ((sortL ltI X).map I), T⟩) := by
  rw [run_shared (fn := ir109) rfl rfl]
  have hl := (List.getElem?_eq_some_iff.1 h).1
  have hS := set_same S l _ h
  cases X with
  | nil => simp at h1
  | cons x C =>
    have hw : IntKind.i64.wrap (0 + 1) = 1 := by decide
    rw [sortL_cons]
    generalize hk : (x :: C).length = k at *
    rw [List.length_cons] at hk
    rw [← hS]
    simp only [ir109, go_sem, reduceIte, Nat.reduceEqDiff, Nat.reduceAdd, Nat.reduceSub, Nat.reduceLeDiff, Nat.reduceLT, reduceCtorEq, Int.reduceLT, Int.reduceLE, Int.reduceEq, Int.reduceBEq, Int.reduceSub, Int.reduceAdd, Int.reduceMul, Int.reduceNeg, Int.reduceToNat, Nat.reduceMul, Nat.reduceBEq, hw, List.set_set]
    generalize hg : lim (headed pure (run L) false _ lp109_1 _ _) _ _ = o
    obtain ⟨x, en, s, rfl, h2⟩ : ∃ x en s, o = some (x, en, s) ∧ _ := by rw [← hg]; exact loop109_1 S T l hl k hn _ _ 1 [x] C ⟨rfl, by omega⟩ _ _ (by simp only [go_sem, reduceIte, Nat.reduceEqDiff, Nat.reduceAdd, Nat.reduceSub, Nat.reduceLeDiff, Nat.reduceLT, reduceCtorEq, Int.reduceLT, Int.reduceLE, Int.reduceEq, Int.reduceBEq, Int.reduceSub, Int.reduceAdd, Int.reduceMul, Int.reduceNeg, Int.reduceToNat, Nat.reduceMul, Nat.reduceBEq, show ((1 : Nat) : Int) = 1 from rfl, show [x] ++ C = x :: C from rfl] <;> rfl)
    clear hg
    obtain ⟨rfl, rfl⟩ := h2
    simp only [go_sem, reduceIte, Nat.reduceEqDiff, Nat.reduceAdd, Nat.reduceSub, Nat.reduceLeDiff, Nat.reduceLT, reduceCtorEq, Int.reduceLT, Int.reduceLE, Int.reduceEq, Int.reduceBEq, Int.reduceSub, Int.reduceAdd, Int.reduceMul, Int.reduceNeg, Int.reduceToNat, Nat.reduceMul, Nat.reduceBEq]
theorem loop93 (S : List (List AV)) (T : List Nat) (l : Nat) (X : List Int) (h : S[l]? = some (X.map I)) (h1 : 1 ≤ X.length) (hn : X.length ≤ 12) (lim0 : Int) (lo hi : Nat) (u : Nat) (hok : True) (env : Env) (st : St)
    (hg : gcAV false lo hi (canon env [0, 1, 2, 3, 8, 9]) st = ([(0, .rsl l 0 X.length X.length 1 false), (1, I 0), (2, I X.length), (3, I lim0), (8, B true), (9, B true)], ⟨S, T⟩)) :
    ∃ x_1 en s, lim (headed pure (run L) false [0, 1, 2, 3, 8, 9] lp93_0 lo hi) env st = some (x_1, en, s) ∧ (x_1 = .ret ∧ s = ⟨S.set l ((sortL ltI X).map I), T⟩) := by
  refine loop_wp (α := Nat) (fun u => u) (fun u => True) (fun u => ([(0, .rsl l 0 X.length X.length 1 false), (1, I 0), (2, I X.length), (3, I lim0), (8, B true), (9, B true)], ⟨S, T⟩)) (fun u x_1 en s => x_1 = .ret ∧ s = ⟨S.set l ((sortL ltI X).map I), T⟩) (fun u hok => ?_) u hok env st hg
  have h109 := c109 S T l X h h1 (by omega)
  have hw : IntKind.i64.wrap ((X.length : Int) - 0) = (X.length : Int) := by rw [wrap64] <;> omega
  have q : ((X.length : Int) ≤ 12) = True := eq_true (by omega)
  simp only [go_sem, reduceIte, Nat.reduceEqDiff, Nat.reduceAdd, Nat.reduceSub, Nat.reduceLeDiff, Nat.reduceLT, reduceCtorEq, Int.reduceLT, Int.reduceLE, Int.reduceEq, Int.reduceBEq, Int.reduceSub, Int.reduceAdd, Int.reduceMul, Int.reduceNeg, Int.reduceToNat, Nat.reduceMul, Nat.reduceBEq, index_rsl_if, setm, make_ints, condK_dec, wantK_dec, not_dec, and_dec, or_dec, seqK_ite, seqK_none, blockK_ite, blockK_none, opsK_ite, opsK_none, stepK_ite, stepK_none, bodyK_ite, bodyK_none, resK_ite, resK_none, leaveK_ite, leaveK_none, only_ite, only_none, bind_ite, gives_some, gives_none, gives_ite, then_normal, then_ret, then_exit, then_none, then_ite, Option.bind_none, Bool.not_eq_true', decide_eq_false_iff_not, Bool.and_eq_true, Bool.or_eq_true, Option.some.injEq, Int.not_lt, Int.not_le, lp93_0, hw, q, h109, show pure 109 = false from rfl]

theorem c93 (S : List (List AV)) (T : List Nat) (l : Nat) (X : List Int) (h : S[l]? = some (X.map I)) (h1 : 1 ≤ X.length) (hn : X.length ≤ 12) (lim0 : Int) :
    run L 93 [.rsl l 0 X.length X.length 1 false, I 0, I X.length, I lim0] ⟨S, T⟩ = some (.tup [], ⟨S.set l ((sortL ltI X).map I), T⟩) := by
  rw [run_shared (fn := ir93) rfl rfl]
  simp only [ir93, go_sem, reduceIte, Nat.reduceEqDiff, Nat.reduceAdd, Nat.reduceSub, Nat.reduceLeDiff, Nat.reduceLT, reduceCtorEq, Int.reduceLT, Int.reduceLE, Int.reduceEq, Int.reduceBEq, Int.reduceSub, Int.reduceAdd, Int.reduceMul, Int.reduceNeg, Int.reduceToNat, Nat.reduceMul, Nat.reduceBEq]
  generalize hg : lim (headed pure (run L) false _ lp93_0 _ _) _ _ = o
  obtain ⟨x, en, s, rfl, h2⟩ : ∃ x en s, o = some (x, en, s) ∧ _ := by rw [← hg]; exact loop93 S T l X h h1 hn lim0 _ _ 0 trivial _ _ (by simp only [go_sem, reduceIte, Nat.reduceEqDiff, Nat.reduceAdd, Nat.reduceSub, Nat.reduceLeDiff, Nat.reduceLT, reduceCtorEq, Int.reduceLT, Int.reduceLE, Int.reduceEq, Int.reduceBEq, Int.reduceSub, Int.reduceAdd, Int.reduceMul, Int.reduceNeg, Int.reduceToNat, Nat.reduceMul, Nat.reduceBEq] <;> rfl)
  clear hg
  obtain ⟨rfl, rfl⟩ := h2
  simp only [go_sem, reduceIte, Nat.reduceEqDiff, Nat.reduceAdd, Nat.reduceSub, Nat.reduceLeDiff, Nat.reduceLT, reduceCtorEq, Int.reduceLT, Int.reduceLE, Int.reduceEq, Int.reduceBEq, Int.reduceSub, Int.reduceAdd, Int.reduceMul, Int.reduceNeg, Int.reduceToNat, Nat.reduceMul, Nat.reduceBEq]
theorem c64 (S : List (List AV)) (T : List Nat) (l : Nat) (X : List Int) (h : S[l]? = some (X.map I)) (h1 : 1 ≤ X.length) (hn : X.length ≤ 12) :
    run L 64 [.rsl l 0 X.length X.length 1 false] ⟨S, T⟩ = some (.tup [], ⟨S.set l ((sortL ltI X).map I), T⟩) := by
  rw [run_shared (fn := ir64) rfl rfl]
  have hw : IntKind.u64.wrap (X.length : Int) = (X.length : Int) := by simp [IntKind.wrap, IntKind.bits, IntKind.signed]; omega
  have h91 := fun st => c91 X.length hn st
  have h93 := c93 S T l X h h1 hn (blN X.length : Nat)
  simp only [ir64, go_sem, reduceIte, Nat.reduceEqDiff, Nat.reduceAdd, Nat.reduceSub, Nat.reduceLeDiff, Nat.reduceLT, reduceCtorEq, Int.reduceLT, Int.reduceLE, Int.reduceEq, Int.reduceBEq, Int.reduceSub, Int.reduceAdd, Int.reduceMul, Int.reduceNeg, Int.reduceToNat, Nat.reduceMul, Nat.reduceBEq, hw, h91, h93, show pure 93 = false from rfl]


def tS (X : List Int) : List (List AV) := if X = [] then [] else [X.map I]
theorem tS_ne {X : List Int} (h : X ≠ []) : tS X = [X.map I] := by unfold tS; rw [if_neg h]
theorem tS_one (x : Int) : tS [x] = [[I x]] := rfl
theorem tS_snoc (X : List Int) (x : Int) : tS (X ++ [x]) = [(X ++ [x]).map I] := tS_ne (by simp)
theorem toL_cons (N : List Nat) (x : Int) (r : List Int) : toL N (x :: r) = ((N.getD x.toNat 0 : Nat) : Int) :: toL N r := rfl
theorem okRefsI' (n : Nat) (xs : List Int) : okRefs n (xs.map I) = true := okRefs_map I n (fun _ => rfl) xs
theorem renCellsI' (n : Nat) (tips : List Nat) (acc : List (Nat × Nat)) (xs : List Int) : renCells n tips acc (xs.map I) = (xs.map I, acc) := renCells_map I n tips (fun _ _ => rfl) xs acc
theorem refsL_I (k : Nat) (acc : List Nat) (zs : List Int) : refsL k acc (zs.map I) = acc := refsL_kind k (fun n => Value.int .i64 n) zs acc
theorem mapLs_I (k : Nat) (M : List Nat) (zs : List Int) : mapLs k M (zs.map I) = zs.map I := mapLs_kind k M (fun n => Value.int .i64 n) zs
theorem frzV_J2 (l : Nat) (X : List Int) (h : X ≠ []) : frzV l (X.map I) (.rsl l 0 X.length X.length 1 false) = tAV X := frzV_made l X h
theorem frzVs_sl2 (l : Nat) (cs : List AV) (n : Int) (ps : List (Int × Int)) : frzVs l cs (bkCells true n ps) = bkCells true n ps := by
  unfold bkCells
  simp only [frzVs, frzV_v, frzV_sl]
/-- The other references are a list from here on. -/
theorem group_pr : ∀ (o : List (Int × Int)) (k : Nat), k = o.length → group true 2 k (pubs (flP o)) = o.map prAV
  | [], k, h => by subst h; rfl
  | p :: r, k, h => by
    subst h
    have e : flP (p :: r) = I p.1 :: I p.2 :: flP r := rfl
    rw [List.length_cons, e]
    show group true 2 (r.length + 1) (I p.1 :: I p.2 :: pubs (flP r)) = _
    simp only [group, if_true, List.take, List.drop, List.map_cons]
    rw [group_pr r r.length rfl]
theorem frzV_pr (l : Nat) (o : List (Int × Int)) (h : o ≠ []) : frzV l (flP o) (.rsl l 0 o.length o.length 2 true) = sl 2 true (o.map prAV) := by
  simp only [frzV, List.drop_zero]
  rw [if_pos ⟨trivial, by rw [flP_len]; omega, .inl trivial, Nat.le_refl _⟩, group_pr o _ rfl, sl_ne (by simpa using h)]
theorem frzL5b {a b c d e cs : List AV} (hne : cs ≠ []) (T : List Nat) (env : Env) :
    frzL 5 env ⟨[a, b, c, d, e, cs], T⟩ = (frzEnv 5 cs env, ⟨[frzVs 5 cs a, frzVs 5 cs b, frzVs 5 cs c, frzVs 5 cs d, frzVs 5 cs e, []], T⟩) := by
  cases cs with
  | nil => exact absurd rfl hne
  | cons x r => rfl
theorem frzL6b {a b c d e g cs : List AV} (hne : cs ≠ []) (T : List Nat) (env : Env) :
    frzL 6 env ⟨[a, b, c, d, e, g, cs], T⟩ = (frzEnv 6 cs env, ⟨[frzVs 6 cs a, frzVs 6 cs b, frzVs 6 cs c, frzVs 6 cs d, frzVs 6 cs e, frzVs 6 cs g, []], T⟩) := by
  cases cs with
  | nil => exact absurd rfl hne
  | cons x r => rfl

attribute [local go_sem] shaped_t cells_t isAgg_t storable_t okRef_t pub_t okRef_out storable_out shaped_out cells_out fin_out pub_out

def taA (X : List Int) : AV := if X = [] then .v (.slice none 0 0) else .rsl 5 0 X.length X.length 1 false
theorem taA_ne {X : List Int} (h : X ≠ []) : taA X = .rsl 5 0 X.length X.length 1 false := by unfold taA; rw [if_neg h]
theorem taA_one (x : Int) : taA [x] = .rsl 5 0 1 1 1 false := rfl
theorem taA_snoc (X : List Int) (x : Int) : taA (X ++ [x]) = .rsl 5 0 (X.length + 1) (X.length + 1) 1 false := by rw [taA_ne (by simp)]; simp
theorem happa_nil (x : Int) (S : List (List AV)) : appendmAV 1 false (.v (.slice none 0 0)) [I x] ⟨S, []⟩ = some (.rsl S.length 0 1 1 1 false, ⟨S ++ [[I x]], []⟩) := by
  simp [appendmAV, newM, maxGrow, flatAV, AV.cells]
theorem happa_at (a b c d e : List AV) (X : List Int) (x : Int) (h : 1 ≤ X.length) (h2 : X.length ≤ 1000) : appendmAV 1 false (.rsl 5 0 X.length X.length 1 false) [I x] ⟨[a, b, c, d, e, X.map I], []⟩ = some (.rsl 6 0 (X.length + 1) (X.length + 1) 1 false, ⟨[a, b, c, d, e, [], (X ++ [x]).map I], []⟩) := by
  have htk : (X.map I).take X.length = X.map I := List.take_of_length_le (by simp)
  simp only [appendmAV, List.getElem?_cons_succ, List.getElem?_cons_zero, List.length_cons, List.length_nil, List.length_map, Nat.mul_one, htk]
  rw [if_pos ⟨trivial, trivial, Nat.le_refl _, by omega, by omega⟩, if_neg (by omega), if_pos ⟨trivial, by unfold maxGrow; omega, by omega⟩]
  simp [flatAV, AV.cells]

set_option maxHeartbeats 2000000 in
theorem loop16_2a (zs ys : List Int) (n : Nat) (hn : n ≤ 7) (ps oo : List (Int × Int)) (N : List Nat) (hN : N.length = n) (C : List (List Int)) (k : Nat) (c : List Int) (hcl : c.length ≤ 7) (hc : ∀ x ∈ c, 0 ≤ x ∧ x < (n : Int)) (i : Nat) (X : List Int) (hok : i ≤ c.length ∧ X.length ≤ i) (env : Env) (st : St)
    (hg : gcAV true 5 0 (canon env [5, 6, 9, 22, 143, 144, 145, 149, 150, 151, 3000000]) st = ([(5, .ptr 2 0), (6, .rsl 3 0 n n 1 false), (9, .ptr 4 0), (22, taA X), (143, sl 1 true (C.map tAV)), (144, I C.length), (145, J k), (149, tAV c), (150, I c.length), (151, J i), (3000000, .any)], ⟨zs.map B8 :: ys.map B8 :: bkCells true (n : Int) ps :: N.map J :: bkCells true (n : Int) oo :: tS X, []⟩)) :
    ∃ x_1 en s, lim (headed pure (run L) true [5, 6, 9, 22, 143, 144, 145, 149, 150, 151, 3000000] lp16_2 5 0) env st = some (x_1, en, s) ∧ (x_1 = .exit 6 ∧ en.get 5 = .ptr 2 0 ∧ en.get 6 = .rsl 3 0 n n 1 false ∧ en.get 9 = .ptr 4 0 ∧ en.get 22 = taA (X ++ toL N (c.drop i)) ∧ en.get 143 = sl 1 true (C.map tAV) ∧ en.get 144 = I C.length ∧ en.get 145 = J k ∧ s = ⟨zs.map B8 :: ys.map B8 :: bkCells true (n : Int) ps :: N.map J :: bkCells true (n : Int) oo :: tS (X ++ toL N (c.drop i)), []⟩) := by
  refine loop_wp (α := Nat × List Int) (fun ⟨i, X⟩ => c.length - i) (fun ⟨i, X⟩ => i ≤ c.length ∧ X.length ≤ i) (fun ⟨i, X⟩ => ([(5, .ptr 2 0), (6, .rsl 3 0 n n 1 false), (9, .ptr 4 0), (22, taA X), (143, sl 1 true (C.map tAV)), (144, I C.length), (145, J k), (149, tAV c), (150, I c.length), (151, J i), (3000000, .any)], ⟨zs.map B8 :: ys.map B8 :: bkCells true (n : Int) ps :: N.map J :: bkCells true (n : Int) oo :: tS X, []⟩)) (fun ⟨i, X⟩ x_1 en s => x_1 = .exit 6 ∧ en.get 5 = .ptr 2 0 ∧ en.get 6 = .rsl 3 0 n n 1 false ∧ en.get 9 = .ptr 4 0 ∧ en.get 22 = taA (X ++ toL N (c.drop i)) ∧ en.get 143 = sl 1 true (C.map tAV) ∧ en.get 144 = I C.length ∧ en.get 145 = J k ∧ s = ⟨zs.map B8 :: ys.map B8 :: bkCells true (n : Int) ps :: N.map J :: bkCells true (n : Int) oo :: tS (X ++ toL N (c.drop i)), []⟩) (fun ⟨i, X⟩ hok => ?_) ⟨i, X⟩ hok env st hg
  simp only at hok
  obtain ⟨h1, h2⟩ := hok
  dsimp only at h1 h2 ⊢
  by_cases h : i < c.length
  · have hx : indexSAV 1 (tAV c) (.v (.int .i64 (i : Int))) = some (.eptr (I c[i]) 0) := index_ints true c i h
    have hs := succ64 i (by omega)
    have hlt : ((i : Int) < (c.length : Int)) = True := eq_true (by omega)
    have hd : c.drop i = c[i] :: c.drop (i + 1) := List.drop_eq_getElem_cons h
    have hp := hc c[i] (List.getElem_mem h)
    rw [hd, toL_cons, show ∀ (a : Int) r, X ++ a :: r = (X ++ [a]) ++ r from fun a r => by simp]
    generalize c[i] = u at *
    obtain ⟨u, rfl⟩ := Int.eq_ofNat_of_zero_le hp.1
    have g1 := getJ N u (by omega)
    have b1 : ((u : Int) < 0) = False := eq_false (by omega)
    have b2 : ((n : Int) ≤ (u : Int)) = False := eq_false (by omega)
    have b3 : ((0 : Int) ≤ (u : Int)) = True := eq_true (by omega)
    have b4 : ((u : Int) < (n : Int)) = True := eq_true (by omega)
    rw [Int.toNat_natCast]
    generalize N.getD u 0 = p at *
    by_cases hX : X = []
    · subst hX
      have eA : taA [] = .v (.slice none 0 0) := rfl
      have eS : tS [] = [] := rfl
      have happ := happa_nil (p : Int) (zs.map B8 :: ys.map B8 :: bkCells true (n : Int) ps :: N.map J :: bkCells true (n : Int) oo :: [])
      rw [List.nil_append]
      simp only [go_sem, reduceIte, Nat.reduceEqDiff, Nat.reduceAdd, Nat.reduceSub, Nat.reduceLeDiff, Nat.reduceLT, reduceCtorEq, Int.reduceLT, Int.reduceLE, Int.reduceEq, Int.reduceBEq, Int.reduceSub, Int.reduceAdd, Int.reduceMul, Int.reduceNeg, Int.reduceToNat, Nat.reduceMul, Nat.reduceBEq, index_rsl_if, setm, make_ints, condK_dec, wantK_dec, not_dec, and_dec, or_dec, seqK_ite, seqK_none, blockK_ite, blockK_none, opsK_ite, opsK_none, stepK_ite, stepK_none, bodyK_ite, bodyK_none, resK_ite, resK_none, leaveK_ite, leaveK_none, only_ite, only_none, bind_ite, gives_some, gives_none, gives_ite, then_normal, then_ret, then_exit, then_none, then_ite, Option.bind_none, Bool.not_eq_true', decide_eq_false_iff_not, Bool.and_eq_true, Bool.or_eq_true, Option.some.injEq, Int.not_lt, Int.not_le, lp16_2, hx, hlt, hs, g1, b1, b2, b3, b4, eA, eS, happ]
      refine ⟨(i + 1, [(p : Int)]), by simp only [go_sem, reduceIte, Nat.reduceEqDiff, Nat.reduceAdd, Nat.reduceSub, Nat.reduceLeDiff, Nat.reduceLT, reduceCtorEq, Int.reduceLT, Int.reduceLE, Int.reduceEq, Int.reduceBEq, Int.reduceSub, Int.reduceAdd, Int.reduceMul, Int.reduceNeg, Int.reduceToNat, Nat.reduceMul, Nat.reduceBEq, ren1_locm, loc_tips, locT_eq, taA_one, tS_one, ren1_t', okRefsT, renCellsT, okRefsB, renCellsB, okRefsJ, renCellsJ, refsL_B, mapLs_B, refsL_J, mapLs_J, refsV_t, mapL_t, compact, compactW, refsEnv, refsV, refsL, refsStore, refsAt, mapEnv, mapL, mapLs, newName, posOf, mapStore, pickStore, namesOk, refsV_sl, mapL_sl, List.contains_nil, List.contains_cons, Option.getD_some, hasKey] <;> rfl, ?_, ?_, fun x en s hq => ?_⟩
      · dsimp only; exact ⟨by omega, by simp⟩
      · dsimp only; omega
      · exact hq
    · have eA := taA_ne hX
      have eS := tS_ne hX
      have hpos : 1 ≤ X.length := List.length_pos_iff.2 hX
      have happ := happa_at (zs.map B8) (ys.map B8) (bkCells true (n : Int) ps) (N.map J) (bkCells true (n : Int) oo) X (p : Int) hpos (by omega)
      simp only [go_sem, reduceIte, Nat.reduceEqDiff, Nat.reduceAdd, Nat.reduceSub, Nat.reduceLeDiff, Nat.reduceLT, reduceCtorEq, Int.reduceLT, Int.reduceLE, Int.reduceEq, Int.reduceBEq, Int.reduceSub, Int.reduceAdd, Int.reduceMul, Int.reduceNeg, Int.reduceToNat, Nat.reduceMul, Nat.reduceBEq, index_rsl_if, setm, make_ints, condK_dec, wantK_dec, not_dec, and_dec, or_dec, seqK_ite, seqK_none, blockK_ite, blockK_none, opsK_ite, opsK_none, stepK_ite, stepK_none, bodyK_ite, bodyK_none, resK_ite, resK_none, leaveK_ite, leaveK_none, only_ite, only_none, bind_ite, gives_some, gives_none, gives_ite, then_normal, then_ret, then_exit, then_none, then_ite, Option.bind_none, Bool.not_eq_true', decide_eq_false_iff_not, Bool.and_eq_true, Bool.or_eq_true, Option.some.injEq, Int.not_lt, Int.not_le, lp16_2, hx, hlt, hs, g1, b1, b2, b3, b4, eA, eS, happ]
      refine ⟨(i + 1, X ++ [(p : Int)]), by simp only [go_sem, reduceIte, Nat.reduceEqDiff, Nat.reduceAdd, Nat.reduceSub, Nat.reduceLeDiff, Nat.reduceLT, reduceCtorEq, Int.reduceLT, Int.reduceLE, Int.reduceEq, Int.reduceBEq, Int.reduceSub, Int.reduceAdd, Int.reduceMul, Int.reduceNeg, Int.reduceToNat, Nat.reduceMul, Nat.reduceBEq, ren1_locm, loc_tips, locT_eq, taA_snoc, tS_snoc, ren1_t', okRefsT, renCellsT, okRefsI', renCellsI', refsL_I, mapLs_I, okRefsB, renCellsB, okRefsJ, renCellsJ, refsL_B, mapLs_B, refsL_J, mapLs_J, refsV_t, mapL_t, compact, compactW, refsEnv, refsV, refsL, refsStore, refsAt, mapEnv, mapL, mapLs, newName, posOf, mapStore, pickStore, namesOk, refsV_sl, mapL_sl, List.contains_nil, List.contains_cons, Option.getD_some, hasKey] <;> rfl, ?_, ?_, fun x en s hq => ?_⟩
      · dsimp only; exact ⟨by omega, by rw [List.length_append, List.length_singleton]; omega⟩
      · dsimp only; omega
      · exact hq
  · have hd : c.drop i = [] := List.drop_eq_nil_of_le (by omega)
    have hlt : ((i : Int) < (c.length : Int)) = False := eq_false (by omega)
    rw [hd, show toL N [] = [] from rfl, List.append_nil]
    simp only [go_sem, reduceIte, Nat.reduceEqDiff, Nat.reduceAdd, Nat.reduceSub, Nat.reduceLeDiff, Nat.reduceLT, reduceCtorEq, Int.reduceLT, Int.reduceLE, Int.reduceEq, Int.reduceBEq, Int.reduceSub, Int.reduceAdd, Int.reduceMul, Int.reduceNeg, Int.reduceToNat, Nat.reduceMul, Nat.reduceBEq, index_rsl_if, setm, make_ints, condK_dec, wantK_dec, not_dec, and_dec, or_dec, seqK_ite, seqK_none, blockK_ite, blockK_none, opsK_ite, opsK_none, stepK_ite, stepK_none, bodyK_ite, bodyK_none, resK_ite, resK_none, leaveK_ite, leaveK_none, only_ite, only_none, bind_ite, gives_some, gives_none, gives_ite, then_normal, then_ret, then_exit, then_none, then_ite, Option.bind_none, Bool.not_eq_true', decide_eq_false_iff_not, Bool.and_eq_true, Bool.or_eq_true, Option.some.injEq, Int.not_lt, Int.not_le, lp16_2, hlt]

attribute [local go_sem] shaped_t cells_t isAgg_t storable_t okRef_t pub_t okRef_out storable_out shaped_out cells_out fin_out pub_out

def tbA (X : List Int) : AV := if X = [] then .v (.slice none 0 0) else .rsl 6 0 X.length X.length 1 false
theorem tbA_ne {X : List Int} (h : X ≠ []) : tbA X = .rsl 6 0 X.length X.length 1 false := by unfold tbA; rw [if_neg h]
theorem tbA_one (x : Int) : tbA [x] = .rsl 6 0 1 1 1 false := rfl
theorem tbA_snoc (X : List Int) (x : Int) : tbA (X ++ [x]) = .rsl 6 0 (X.length + 1) (X.length + 1) 1 false := by rw [tbA_ne (by simp)]; simp
theorem happb_nil (x : Int) (S : List (List AV)) : appendmAV 1 false (.v (.slice none 0 0)) [I x] ⟨S, []⟩ = some (.rsl S.length 0 1 1 1 false, ⟨S ++ [[I x]], []⟩) := by
  simp [appendmAV, newM, maxGrow, flatAV, AV.cells]
theorem happb_at (a b c d e : List AV) (X : List Int) (x : Int) (h : 1 ≤ X.length) (h2 : X.length ≤ 1000) : appendmAV 1 false (.rsl 6 0 X.length X.length 1 false) [I x] ⟨[a, b, c, d, e, [], X.map I], []⟩ = some (.rsl 7 0 (X.length + 1) (X.length + 1) 1 false, ⟨[a, b, c, d, e, [], [], (X ++ [x]).map I], []⟩) := by
  have htk : (X.map I).take X.length = X.map I := List.take_of_length_le (by simp)
  simp only [appendmAV, List.getElem?_cons_succ, List.getElem?_cons_zero, List.length_cons, List.length_nil, List.length_map, Nat.mul_one, htk]
  rw [if_pos ⟨trivial, trivial, Nat.le_refl _, by omega, by omega⟩, if_neg (by omega), if_pos ⟨trivial, by unfold maxGrow; omega, by omega⟩]
  simp [flatAV, AV.cells]

set_option maxHeartbeats 2000000 in
theorem loop16_2b (zs ys : List Int) (n : Nat) (hn : n ≤ 7) (ps oo : List (Int × Int)) (N : List Nat) (hN : N.length = n) (C : List (List Int)) (k : Nat) (c : List Int) (hcl : c.length ≤ 7) (hc : ∀ x ∈ c, 0 ≤ x ∧ x < (n : Int)) (i : Nat) (X : List Int) (hok : i ≤ c.length ∧ X.length ≤ i) (env : Env) (st : St)
    (hg : gcAV true 6 0 (canon env [5, 6, 9, 22, 143, 144, 145, 149, 150, 151, 3000000]) st = ([(5, .ptr 2 0), (6, .rsl 3 0 n n 1 false), (9, .ptr 4 0), (22, tbA X), (143, sl 1 true (C.map tAV)), (144, I C.length), (145, J k), (149, tAV c), (150, I c.length), (151, J i), (3000000, .any)], ⟨zs.map B8 :: ys.map B8 :: bkCells true (n : Int) ps :: N.map J :: bkCells true (n : Int) oo :: [] :: tS X, []⟩)) :
    ∃ x_1 en s, lim (headed pure (run L) true [5, 6, 9, 22, 143, 144, 145, 149, 150, 151, 3000000] lp16_2 6 0) env st = some (x_1, en, s) ∧ (x_1 = .exit 6 ∧ en.get 5 = .ptr 2 0 ∧ en.get 6 = .rsl 3 0 n n 1 false ∧ en.get 9 = .ptr 4 0 ∧ en.get 22 = tbA (X ++ toL N (c.drop i)) ∧ en.get 143 = sl 1 true (C.map tAV) ∧ en.get 144 = I C.length ∧ en.get 145 = J k ∧ s = ⟨zs.map B8 :: ys.map B8 :: bkCells true (n : Int) ps :: N.map J :: bkCells true (n : Int) oo :: [] :: tS (X ++ toL N (c.drop i)), []⟩) := by
  refine loop_wp (α := Nat × List Int) (fun ⟨i, X⟩ => c.length - i) (fun ⟨i, X⟩ => i ≤ c.length ∧ X.length ≤ i) (fun ⟨i, X⟩ => ([(5, .ptr 2 0), (6, .rsl 3 0 n n 1 false), (9, .ptr 4 0), (22, tbA X), (143, sl 1 true (C.map tAV)), (144, I C.length), (145, J k), (149, tAV c), (150, I c.length), (151, J i), (3000000, .any)], ⟨zs.map B8 :: ys.map B8 :: bkCells true (n : Int) ps :: N.map J :: bkCells true (n : Int) oo :: [] :: tS X, []⟩)) (fun ⟨i, X⟩ x_1 en s => x_1 = .exit 6 ∧ en.get 5 = .ptr 2 0 ∧ en.get 6 = .rsl 3 0 n n 1 false ∧ en.get 9 = .ptr 4 0 ∧ en.get 22 = tbA (X ++ toL N (c.drop i)) ∧ en.get 143 = sl 1 true (C.map tAV) ∧ en.get 144 = I C.length ∧ en.get 145 = J k ∧ s = ⟨zs.map B8 :: ys.map B8 :: bkCells true (n : Int) ps :: N.map J :: bkCells true (n : Int) oo :: [] :: tS (X ++ toL N (c.drop i)), []⟩) (fun ⟨i, X⟩ hok => ?_) ⟨i, X⟩ hok env st hg
  simp only at hok
  obtain ⟨h1, h2⟩ := hok
  dsimp only at h1 h2 ⊢
  by_cases h : i < c.length
  · have hx : indexSAV 1 (tAV c) (.v (.int .i64 (i : Int))) = some (.eptr (I c[i]) 0) := index_ints true c i h
    have hs := succ64 i (by omega)
    have hlt : ((i : Int) < (c.length : Int)) = True := eq_true (by omega)
    have hd : c.drop i = c[i] :: c.drop (i + 1) := List.drop_eq_getElem_cons h
    have hp := hc c[i] (List.getElem_mem h)
    rw [hd, toL_cons, show ∀ (a : Int) r, X ++ a :: r = (X ++ [a]) ++ r from fun a r => by simp]
    generalize c[i] = u at *
    obtain ⟨u, rfl⟩ := Int.eq_ofNat_of_zero_le hp.1
    have g1 := getJ N u (by omega)
    have b1 : ((u : Int) < 0) = False := eq_false (by omega)
    have b2 : ((n : Int) ≤ (u : Int)) = False := eq_false (by omega)
    have b3 : ((0 : Int) ≤ (u : Int)) = True := eq_true (by omega)
    have b4 : ((u : Int) < (n : Int)) = True := eq_true (by omega)
    rw [Int.toNat_natCast]
    generalize N.getD u 0 = p at *
    by_cases hX : X = []
    · subst hX
      have eA : tbA [] = .v (.slice none 0 0) := rfl
      have eS : tS [] = [] := rfl
      have happ := happb_nil (p : Int) (zs.map B8 :: ys.map B8 :: bkCells true (n : Int) ps :: N.map J :: bkCells true (n : Int) oo :: [] :: [])
      rw [List.nil_append]
      simp only [go_sem, reduceIte, Nat.reduceEqDiff, Nat.reduceAdd, Nat.reduceSub, Nat.reduceLeDiff, Nat.reduceLT, reduceCtorEq, Int.reduceLT, Int.reduceLE, Int.reduceEq, Int.reduceBEq, Int.reduceSub, Int.reduceAdd, Int.reduceMul, Int.reduceNeg, Int.reduceToNat, Nat.reduceMul, Nat.reduceBEq, index_rsl_if, setm, make_ints, condK_dec, wantK_dec, not_dec, and_dec, or_dec, seqK_ite, seqK_none, blockK_ite, blockK_none, opsK_ite, opsK_none, stepK_ite, stepK_none, bodyK_ite, bodyK_none, resK_ite, resK_none, leaveK_ite, leaveK_none, only_ite, only_none, bind_ite, gives_some, gives_none, gives_ite, then_normal, then_ret, then_exit, then_none, then_ite, Option.bind_none, Bool.not_eq_true', decide_eq_false_iff_not, Bool.and_eq_true, Bool.or_eq_true, Option.some.injEq, Int.not_lt, Int.not_le, lp16_2, hx, hlt, hs, g1, b1, b2, b3, b4, eA, eS, happ]
      refine ⟨(i + 1, [(p : Int)]), by simp only [go_sem, reduceIte, Nat.reduceEqDiff, Nat.reduceAdd, Nat.reduceSub, Nat.reduceLeDiff, Nat.reduceLT, reduceCtorEq, Int.reduceLT, Int.reduceLE, Int.reduceEq, Int.reduceBEq, Int.reduceSub, Int.reduceAdd, Int.reduceMul, Int.reduceNeg, Int.reduceToNat, Nat.reduceMul, Nat.reduceBEq, ren1_locm, loc_tips, locT_eq, tbA_one, tS_one, ren1_t', okRefsT, renCellsT, okRefsB, renCellsB, okRefsJ, renCellsJ, refsL_B, mapLs_B, refsL_J, mapLs_J, refsV_t, mapL_t, compact, compactW, refsEnv, refsV, refsL, refsStore, refsAt, mapEnv, mapL, mapLs, newName, posOf, mapStore, pickStore, namesOk, refsV_sl, mapL_sl, List.contains_nil, List.contains_cons, Option.getD_some, hasKey] <;> rfl, ?_, ?_, fun x en s hq => ?_⟩
      · dsimp only; exact ⟨by omega, by simp⟩
      · dsimp only; omega
      · exact hq
    · have eA := tbA_ne hX
      have eS := tS_ne hX
      have hpos : 1 ≤ X.length := List.length_pos_iff.2 hX
      have happ := happb_at (zs.map B8) (ys.map B8) (bkCells true (n : Int) ps) (N.map J) (bkCells true (n : Int) oo) X (p : Int) hpos (by omega)
      simp only [go_sem, reduceIte, Nat.reduceEqDiff, Nat.reduceAdd, Nat.reduceSub, Nat.reduceLeDiff, Nat.reduceLT, reduceCtorEq, Int.reduceLT, Int.reduceLE, Int.reduceEq, Int.reduceBEq, Int.reduceSub, Int.reduceAdd, Int.reduceMul, Int.reduceNeg, Int.reduceToNat, Nat.reduceMul, Nat.reduceBEq, index_rsl_if, setm, make_ints, condK_dec, wantK_dec, not_dec, and_dec, or_dec, seqK_ite, seqK_none, blockK_ite, blockK_none, opsK_ite, opsK_none, stepK_ite, stepK_none, bodyK_ite, bodyK_none, resK_ite, resK_none, leaveK_ite, leaveK_none, only_ite, only_none, bind_ite, gives_some, gives_none, gives_ite, then_normal, then_ret, then_exit, then_none, then_ite, Option.bind_none, Bool.not_eq_true', decide_eq_false_iff_not, Bool.and_eq_true, Bool.or_eq_true, Option.some.injEq, Int.not_lt, Int.not_le, lp16_2, hx, hlt, hs, g1, b1, b2, b3, b4, eA, eS, happ]
      refine ⟨(i + 1, X ++ [(p : Int)]), by simp only [go_sem, reduceIte, Nat.reduceEqDiff, Nat.reduceAdd, Nat.reduceSub, Nat.reduceLeDiff, Nat.reduceLT, reduceCtorEq, Int.reduceLT, Int.reduceLE, Int.reduceEq, Int.reduceBEq, Int.reduceSub, Int.reduceAdd, Int.reduceMul, Int.reduceNeg, Int.reduceToNat, Nat.reduceMul, Nat.reduceBEq, ren1_locm, loc_tips, locT_eq, tbA_snoc, tS_snoc, ren1_t', okRefsT, renCellsT, okRefsI', renCellsI', refsL_I, mapLs_I, okRefsB, renCellsB, okRefsJ, renCellsJ, refsL_B, mapLs_B, refsL_J, mapLs_J, refsV_t, mapL_t, compact, compactW, refsEnv, refsV, refsL, refsStore, refsAt, mapEnv, mapL, mapLs, newName, posOf, mapStore, pickStore, namesOk, refsV_sl, mapL_sl, List.contains_nil, List.contains_cons, Option.getD_some, hasKey] <;> rfl, ?_, ?_, fun x en s hq => ?_⟩
      · dsimp only; exact ⟨by omega, by rw [List.length_append, List.length_singleton]; omega⟩
      · dsimp only; omega
      · exact hq
  · have hd : c.drop i = [] := List.drop_eq_nil_of_le (by omega)
    have hlt : ((i : Int) < (c.length : Int)) = False := eq_false (by omega)
    rw [hd, show toL N [] = [] from rfl, List.append_nil]
    simp only [go_sem, reduceIte, Nat.reduceEqDiff, Nat.reduceAdd, Nat.reduceSub, Nat.reduceLeDiff, Nat.reduceLT, reduceCtorEq, Int.reduceLT, Int.reduceLE, Int.reduceEq, Int.reduceBEq, Int.reduceSub, Int.reduceAdd, Int.reduceMul, Int.reduceNeg, Int.reduceToNat, Nat.reduceMul, Nat.reduceBEq, index_rsl_if, setm, make_ints, condK_dec, wantK_dec, not_dec, and_dec, or_dec, seqK_ite, seqK_none, blockK_ite, blockK_none, opsK_ite, opsK_none, stepK_ite, stepK_none, bodyK_ite, bodyK_none, resK_ite, resK_none, leaveK_ite, leaveK_none, only_ite, only_none, bind_ite, gives_some, gives_none, gives_ite, then_normal, then_ret, then_exit, then_none, then_ite, Option.bind_none, Bool.not_eq_true', decide_eq_false_iff_not, Bool.and_eq_true, Bool.or_eq_true, Option.some.injEq, Int.not_lt, Int.not_le, lp16_2, hlt]

end Go.Proofs.YtgohohiaaiogcaaDoor.Vm
