/- What is proved: what each function of this program computes, as equations on the evaluator. No condition. -/
import Derived.Test.YtpmbfgogpcjdlaaDoorC2
import Derived.Test.YtpmbfgogpcjdlaaDoorFkf
set_option linter.all false
namespace Go.Proofs.YtpmbfgogpcjdlaaDoor.Vm
open Go Go.Ev
set_option maxRecDepth 100000
attribute [local go_sem] cells_any storable_any ren1_any shaped_ptr cells_ptr storable_ptr ren1_ptr shaped_eptr cells_eptr storable_eptr ren1_eptr shaped_rsl cells_rsl storable_rsl ren1_rsl shaped_int cells_int storable_int ren1_int shaped_bool cells_bool storable_bool ren1_bool shaped_nils cells_nils storable_nils ren1_nils shaped_lst cells_lst storable_lst shaped_fn cells_fn storable_fn ren1_fn shaped_ifc cells_ifc storable_ifc ren1_ifc shaped_agg cells_agg storable_agg ren1_agg shaped_tup cells_tup storable_tup ren1_tup shaped_nif cells_nif storable_nif ren1_nif ren1_lany ren1_lfull ren1_lown len_lst len_rsl len_nil load_ptr load_eptr isRsl_lst isRsl_nil isRsl_rsl elems_nil elems_lst elems_sl isRsl_sl body_eq bodyK_normal bodyK_ret resK_some leaveK_some only_some code_skip code_exit code_ret code_ops code_seq code_cond code_block seqK_normal seqK_ret seqK_exit condK_true condK_false blockK_normal blockK_ret blockK_exit opsK_some ops_nil ops_cons wantK_true wantK_false stepK_some pubs pub pub_sl params okRef_loc storable_loc shaped_loc cells_loc isRsl_loc elems_loc len_loc untips untip untip_sl wantedAV setElems withO isAgg_v isAgg_agg isAgg_lst isAgg_ptr isAgg_fn isAgg_ifc isAgg_rsl isAgg_sl isAgg_loc List.replicate_succ List.replicate_zero opAV valAV aval avals ofVal Env.get setD canon gcAV renAll renEnv renStore renCells ren1_sl cutSt okEnv okStore okRefs okRef okRef_sl bin_int bin_bool bin_lst bin_rsl bin_nil bin_agg cellsEq cellEq isShift intOp boolOp min_int max_int beq_int bne resAV tupAV leave_eq fin_sl fin_loc fins fin_v fin_lst fin_agg fin_tup fin_fn storeAV readCells putCells cells_sl shaped_sl storable_sl fieldAddrAV len_sl goI List.getElem?_cons_zero List.getElem?_cons_succ List.getElem?_nil Option.bind_some Option.map_some List.length_cons List.length_nil List.all_cons List.all_nil Bool.and_true Bool.true_and Bool.and_false Bool.false_and and_true true_and and_false false_and Bool.false_eq_true List.set_cons_zero List.set_cons_succ List.append_nil List.nil_append List.cons_append List.take_zero List.take_succ_cons List.take_nil List.drop_zero List.drop_succ_cons List.map_cons List.map_nil decide_true decide_false beq_self_eq_true Bool.not_true Bool.not_false or_true true_or or_false false_or Nat.zero_add Nat.add_zero Nat.le_refl Nat.lt_irrefl decide_eq_true_eq eq_self_iff_true not_true_eq_false not_false_eq_true List.getD_cons_zero code_loop Nat.zero_le Nat.not_lt_zero Bool.true_beq Bool.false_beq beq_true beq_false ge_iff_le gt_iff_lt Lpure pus Option.map_none assert_ifc assert_nil idxA_ptr idxA_eptr idxV_agg Int.cast_ofNat_Int Nat.mul_one Nat.zero_mul Int.toNat_natCast Int.toNat_zero setParts withO2 hasKey eqnil_sl nenil_sl eqnil_loc nenil_loc map_nil_iff okRefs_ints renCells_ints

/-! ### sorting by insertion -/
section
variable {α : Type} (lt : α → α → Bool)
/-- Into a list in the opposite order. -/
def insR : List α → α → List α
  | [], x => [x]
  | a :: C, x => if lt x a = true then a :: insR C x else x :: a :: C
def insL (A : List α) (x : α) : List α := (insR lt A.reverse x).reverse
def sortL (l : List α) : List α := l.foldl (insL lt) []
theorem insL_nil (x : α) : insL lt [] x = [x] := rfl
theorem insL_snoc (A : List α) (a x : α) : insL lt (A ++ [a]) x = if lt x a = true then insL lt A x ++ [a] else A ++ [a, x] := by
  unfold insL
  rw [List.reverse_append, List.reverse_singleton, List.singleton_append]
  simp only [insR]
  split
  · rw [List.reverse_cons]
  · simp
theorem insR_perm : ∀ (C : List α) (x : α), (insR lt C x).Perm (x :: C)
  | [], _ => List.Perm.refl _
  | a :: C, x => by
    simp only [insR]
    split
    · exact ((insR_perm C x).cons a).trans (List.Perm.swap x a C)
    · exact List.Perm.refl _
theorem insL_perm (A : List α) (x : α) : (insL lt A x).Perm (A ++ [x]) := by
  unfold insL
  refine (List.reverse_perm _).trans ((insR_perm lt _ x).trans ?_)
  refine ((List.reverse_perm A).cons x).trans ?_
  exact (List.perm_append_singleton x A).symm
theorem insL_len (A : List α) (x : α) : (insL lt A x).length = A.length + 1 := by
  rw [(insL_perm lt A x).length_eq]; simp
theorem fold_perm : ∀ (l A : List α), (l.foldl (insL lt) A).Perm (A ++ l)
  | [], A => by simp
  | x :: l, A => by
    rw [List.foldl_cons]
    refine (fold_perm l _).trans ?_
    have := (insL_perm lt A x).append_right l
    rwa [List.append_assoc] at this
theorem sortL_perm (l : List α) : (sortL lt l).Perm l := fold_perm lt l []
theorem sortL_cons (x : α) (l : List α) : sortL lt (x :: l) = l.foldl (insL lt) [x] := rfl
variable (h1 : ∀ a b, lt a b = true → lt b a = false) (h2 : ∀ a b c, lt b a = false → lt c b = false → lt c a = false)
include h1 h2
theorem insR_sorted : ∀ (C : List α) (x : α), C.Pairwise (fun a b => lt a b = false) → (insR lt C x).Pairwise fun a b => lt a b = false
  | [], x, _ => by simp [insR]
  | a :: C, x, h => by
    rw [List.pairwise_cons] at h
    simp only [insR]
    split
    · next hx =>
      rw [List.pairwise_cons]
      refine ⟨fun y hy => ?_, insR_sorted C x h.2⟩
      rcases List.mem_cons.1 ((insR_perm lt C x).mem_iff.1 hy) with rfl | hy
      · exact h1 _ _ hx
      · exact h.1 y hy
    · next hx =>
      have hx : lt x a = false := by simpa using hx
      rw [List.pairwise_cons]
      refine ⟨fun y hy => ?_, List.pairwise_cons.2 h⟩
      rcases List.mem_cons.1 hy with rfl | hy
      · exact hx
      · exact h2 y a x (h.1 y hy) hx
theorem insL_sorted (A : List α) (x : α) (h : A.Pairwise fun a b => lt b a = false) : (insL lt A x).Pairwise fun a b => lt b a = false := by
  unfold insL
  rw [List.pairwise_reverse]
  exact insR_sorted lt h1 h2 _ x (List.pairwise_reverse.2 h)
theorem sortL_sorted (l : List α) : (sortL lt l).Pairwise fun a b => lt b a = false := by
  have key : ∀ (l A : List α), A.Pairwise (fun a b => lt b a = false) → (l.foldl (insL lt) A).Pairwise fun a b => lt b a = false := by
    intro l
    induction l with
    | nil => intro A h; exact h
    | cons x l ih => intro A h; rw [List.foldl_cons]; exact ih _ (insL_sorted lt h1 h2 A x h)
  exact key l [] List.Pairwise.nil
omit h1 h2 in
end
theorem lex_h2 (a b c : List Int) (h1 : lexLt b a = false) (h2 : lexLt c b = false) : lexLt c a = false := lex_le h1 h2
/-- The first of the sorted shortest lists is the first of the shortest ones. -/
theorem few_first {n : Nat} (hn : n ≤ 7) {ps : List (Int × Int)} (hps : ∀ p ∈ ps, 0 ≤ p.1 ∧ p.1 < p.2 ∧ p.2 < (n : Int)) (h7 : ∀ p ∈ ps, okP p) :
    ∃ r, sortL lexLt (fewV n ps) = bestL ((cheap n 2 ps).map twos) :: r := by
  have hp := (sortL_perm lexLt (fewV n ps)).trans (few_perm hn h7)
  have hs := sortL_sorted lexLt (fun a b h => lex_asymm h) lex_h2 (fewV n ps)
  have hne : (cheap n 2 ps).map twos ≠ [] := by
    intro e; rw [List.map_eq_nil_iff] at e; exact cheap_ne 2 hps e
  obtain ⟨b1, b2⟩ := bestL_in hne
  cases e : sortL lexLt (fewV n ps) with
  | nil => rw [e] at hp; exact absurd (List.nil_perm.1 hp) hne
  | cons x r =>
    rw [e] at hp hs
    rw [List.pairwise_cons] at hs
    refine ⟨r, ?_⟩
    have hx : x = bestL ((cheap n 2 ps).map twos) := by
      refine pick_unique (X := (cheap n 2 ps).map twos) (hp.mem_iff.1 (by simp)) b1 (fun c hc => ?_) b2
      rcases List.mem_cons.1 (hp.mem_iff.2 hc) with rfl | h
      · exact lex_irrefl _
      · exact hs.1 c h
    rw [hx]


/-! ### lists of lists are equal -/
/-! ### a list of lists that grows, above other tips -/
def nAV (k : Nat) (o : List (List Int)) : AV := if o = [] then .v (.slice none 0 0) else .lst (.own k o.length) 1 (o.map listAV)
theorem okRef_n (n k : Nat) (o : List (List Int)) : okRef n (nAV k o) = true := by unfold nAV; split <;> rfl
theorem fin_n (st : St) (k : Nat) (o : List (List Int)) : fin st (nAV k o) = sl 1 true (o.map listAV) := by
  unfold nAV
  by_cases h : o = []
  · subst h; rfl
  · rw [if_neg h, sl_ne (by simpa using h)]; rfl
attribute [local go_sem] okRef_out storable_out shaped_out cells_out fin_out pub_out okRef_n fin_n


/-! ### sorting lists -/
def tAV (l : List Int) : AV := sl 1 true (l.map I)
theorem shaped_t (l : List Int) : (tAV l).shaped = true := by unfold tAV sl; split <;> rfl
theorem cells_t (l : List Int) : (tAV l).cells = [tAV l] := by unfold tAV sl; split <;> rfl
theorem isAgg_t (l : List Int) : Ev.isAgg (tAV l) = false := by unfold tAV sl; split <;> rfl
theorem storable_t (l : List Int) : storable (tAV l) = true := by unfold tAV sl; split <;> rfl
theorem okRef_t (n : Nat) (l : List Int) : okRef n (tAV l) = true := by unfold tAV sl; split <;> rfl
theorem pub_t (l : List Int) : pub (tAV l) = tAV l := pub_sl _ _ _
theorem getT (X : List (List Int)) (i : Nat) (x : List Int) (h : X[i]? = some x) : (X.map tAV)[i]? = some (tAV x) := by
  rw [List.getElem?_map, h]; rfl
theorem c69t (x a : List Int) (hx : x.length < 1000000) : ∃ k : Int, (∀ st, run L 69 [tAV x, tAV a] st = some (I k, st)) ∧ decide (k < 0) = lexLt x a := by
  obtain ⟨k, h1, h2⟩ := c69 true true x a hx ⟨[], []⟩
  exact ⟨k, fun st => run_any' (fn := ir69) rfl rfl h1 st, h2⟩
attribute [local go_sem] shaped_t cells_t isAgg_t storable_t okRef_t
theorem at_one (A : List (List Int)) (x : List Int) (B : List (List Int)) : (A ++ x :: B)[A.length]? = some x := by simp
abbrev cmpF : AV := .fn (.func 69) [] []

theorem loop138_0 (b : List AV) (n : Nat) (hn : n ≤ 1000) (x : List Int) (hx : x.length < 1000000) (i : Nat) (lo hi : Nat) (j : Nat) (A : List (List Int)) (B : List (List Int)) (hok : A.length = j ∧ j + 1 + B.length = n) (env : Env) (st : St)
    (hg : gcAV false lo hi (canon env [0, 1, 2, 3, 8, 9]) st = ([(0, .rsl 1 0 n n 1 false), (1, I 0), (2, I n), (3, cmpF), (8, I i), (9, I j)], ⟨[b, (A ++ x :: B).map tAV], []⟩)) :
    ∃ x_1 en s, lim (headed pure (run L) false [0, 1, 2, 3, 8, 9] lp138_0 lo hi) env st = some (x_1, en, s) ∧ (x_1 = .exit 2 ∧ en.get 0 = .rsl 1 0 n n 1 false ∧ en.get 1 = I 0 ∧ en.get 2 = I n ∧ en.get 3 = cmpF ∧ en.get 8 = I i ∧ s = ⟨[b, (insL lexLt A x ++ B).map tAV], []⟩) := by
  refine loop_wp (α := Nat × List (List Int) × List (List Int)) (fun ⟨j, A, B⟩ => j) (fun ⟨j, A, B⟩ => A.length = j ∧ j + 1 + B.length = n) (fun ⟨j, A, B⟩ => ([(0, .rsl 1 0 n n 1 false), (1, I 0), (2, I n), (3, cmpF), (8, I i), (9, I j)], ⟨[b, (A ++ x :: B).map tAV], []⟩)) (fun ⟨j, A, B⟩ x_1 en s => x_1 = .exit 2 ∧ en.get 0 = .rsl 1 0 n n 1 false ∧ en.get 1 = I 0 ∧ en.get 2 = I n ∧ en.get 3 = cmpF ∧ en.get 8 = I i ∧ s = ⟨[b, (insL lexLt A x ++ B).map tAV], []⟩) (fun ⟨j, A, B⟩ hok => ?_) ⟨j, A, B⟩ hok env st hg
  simp only at hok
  obtain ⟨h1, h2⟩ := hok
  dsimp only at h1 h2 ⊢
  rcases List.eq_nil_or_concat A with rfl | ⟨A', a, rfl⟩
  · have hj : j = 0 := by simpa using h1.symm
    subst hj
    rw [insL_nil]
    simp only [go_sem, reduceIte, Nat.reduceEqDiff, Nat.reduceAdd, Nat.reduceSub, Nat.reduceLeDiff, Nat.reduceLT, reduceCtorEq, Int.reduceLT, Int.reduceLE, Int.reduceEq, Int.reduceBEq, Int.reduceSub, Int.reduceAdd, Int.reduceMul, Int.reduceNeg, Int.reduceToNat, Nat.reduceMul, Nat.reduceBEq, index_rsl_if, setm, make_ints, condK_dec, wantK_dec, not_dec, and_dec, or_dec, seqK_ite, seqK_none, blockK_ite, blockK_none, opsK_ite, opsK_none, stepK_ite, stepK_none, bodyK_ite, bodyK_none, resK_ite, resK_none, leaveK_ite, leaveK_none, only_ite, only_none, bind_ite, gives_some, gives_none, gives_ite, then_normal, then_ret, then_exit, then_none, then_ite, Option.bind_none, Bool.not_eq_true', decide_eq_false_iff_not, Bool.and_eq_true, Bool.or_eq_true, Option.some.injEq, Int.not_lt, Int.not_le, lp138_0, Int.natCast_zero]
  · rw [List.concat_eq_append] at h1 ⊢
    obtain ⟨m, rfl⟩ : ∃ m, j = m + 1 := ⟨A'.length, by rw [← h1]; simp⟩
    have hm : A'.length = m := by simpa using h1
    obtain ⟨k, hk, hlt⟩ := c69t x a hx
    have hg1 := getT ((A' ++ [a]) ++ x :: B) (m + 1) x (by
      have := at_one (A' ++ [a]) x B
      rwa [h1] at this)
    have hg2 := getT ((A' ++ [a]) ++ x :: B) m a (by
      have := at_one A' a (x :: B)
      rw [hm] at this
      simpa using this)
    have hset : (((A' ++ [a]) ++ x :: B).set (m + 1) a).set m x = A' ++ x :: a :: B := by
      subst hm
      simp
    have hlen : ((A' ++ [a]) ++ x :: B).length = n := by simp; omega
    have hpos : ((0 : Int) < ((m + 1 : Nat) : Int)) = True := eq_true (by omega)
    have hw : IntKind.i64.wrap (((m + 1 : Nat) : Int) - 1) = ((m : Nat) : Int) := by rw [wrap64] <;> omega
    have b0 : ((0 : Int) ≤ ((m + 1 : Nat) : Int)) = True := eq_true (by omega)
    have b1 : (((m + 1 : Nat) : Int) < (n : Int)) = True := eq_true (by omega)
    have b2 : ((0 : Int) ≤ ((m : Nat) : Int)) = True := eq_true (by omega)
    have b3 : (((m : Nat) : Int) < (n : Int)) = True := eq_true (by omega)
    have b4 : (m + 1 < n) = True := eq_true (by omega)
    have b5 : (m < n) = True := eq_true (by omega)
    have b6 : (m + 1 + 1 ≤ n) = True := eq_true (by omega)
    have b7 : (m + 1 ≤ n) = True := eq_true (by omega)
    rw [insL_snoc]
    generalize hX : (A' ++ [a]) ++ x :: B = X at *
    by_cases p : lexLt x a = true
    · rw [p, decide_eq_true_iff] at hlt
      have hk0 : (k < 0) = True := eq_true hlt
      rw [if_pos p]
      simp only [go_sem, reduceIte, Nat.reduceEqDiff, Nat.reduceAdd, Nat.reduceSub, Nat.reduceLeDiff, Nat.reduceLT, reduceCtorEq, Int.reduceLT, Int.reduceLE, Int.reduceEq, Int.reduceBEq, Int.reduceSub, Int.reduceAdd, Int.reduceMul, Int.reduceNeg, Int.reduceToNat, Nat.reduceMul, Nat.reduceBEq, index_rsl_if, setm, make_ints, condK_dec, wantK_dec, not_dec, and_dec, or_dec, seqK_ite, seqK_none, blockK_ite, blockK_none, opsK_ite, opsK_none, stepK_ite, stepK_none, bodyK_ite, bodyK_none, resK_ite, resK_none, leaveK_ite, leaveK_none, only_ite, only_none, bind_ite, gives_some, gives_none, gives_ite, then_normal, then_ret, then_exit, then_none, then_ite, Option.bind_none, Bool.not_eq_true', decide_eq_false_iff_not, Bool.and_eq_true, Bool.or_eq_true, Option.some.injEq, Int.not_lt, Int.not_le, lp138_0, hpos, hw, b0, b1, b2, b3, b4, b5, b6, b7, hg1, hg2, hk, hk0, hset, hlen, show pure 69 = true from rfl, List.length_map, List.length_set]
      refine ⟨(m, A', a :: B), by simp only [go_sem, reduceIte, Nat.reduceEqDiff, Nat.reduceAdd, Nat.reduceSub, Nat.reduceLeDiff, Nat.reduceLT, reduceCtorEq, Int.reduceLT, Int.reduceLE, Int.reduceEq, Int.reduceBEq, Int.reduceSub, Int.reduceAdd, Int.reduceMul, Int.reduceNeg, Int.reduceToNat, Nat.reduceMul, Nat.reduceBEq, ren1_locm, loc_tips, locT_eq] <;> rfl, ?_, ?_, fun x en s hq => ?_⟩
      · dsimp only; exact ⟨hm, by rw [List.length_cons]; omega⟩
      · dsimp only; omega
      · dsimp only at hq; rw [List.append_assoc, List.singleton_append]; exact hq
    · have hlt' : lexLt x a = false := by simpa using p
      rw [hlt', decide_eq_false_iff_not] at hlt
      have hk0 : (k < 0) = False := eq_false hlt
      rw [if_neg p]
      have e : A' ++ [a, x] ++ B = X := by rw [← hX]; simp
      rw [e]
      simp only [go_sem, reduceIte, Nat.reduceEqDiff, Nat.reduceAdd, Nat.reduceSub, Nat.reduceLeDiff, Nat.reduceLT, reduceCtorEq, Int.reduceLT, Int.reduceLE, Int.reduceEq, Int.reduceBEq, Int.reduceSub, Int.reduceAdd, Int.reduceMul, Int.reduceNeg, Int.reduceToNat, Nat.reduceMul, Nat.reduceBEq, index_rsl_if, setm, make_ints, condK_dec, wantK_dec, not_dec, and_dec, or_dec, seqK_ite, seqK_none, blockK_ite, blockK_none, opsK_ite, opsK_none, stepK_ite, stepK_none, bodyK_ite, bodyK_none, resK_ite, resK_none, leaveK_ite, leaveK_none, only_ite, only_none, bind_ite, gives_some, gives_none, gives_ite, then_normal, then_ret, then_exit, then_none, then_ite, Option.bind_none, Bool.not_eq_true', decide_eq_false_iff_not, Bool.and_eq_true, Bool.or_eq_true, Option.some.injEq, Int.not_lt, Int.not_le, lp138_0, hpos, hw, b0, b1, b2, b3, b4, b5, b6, b7, hg1, hg2, hk, hk0, hlen, show pure 69 = true from rfl, List.length_map]

attribute [local go_sem] shaped_t cells_t isAgg_t storable_t okRef_t

theorem loop138_1 (b : List AV) (n : Nat) (hn : n ≤ 1000) (lo hi : Nat) (i : Nat) (A : List (List Int)) (B : List (List Int)) (hok : A.length = i ∧ i + B.length = n ∧ ∀ l ∈ B, l.length < 1000000) (env : Env) (st : St)
    (hg : gcAV false lo hi (canon env [0, 1, 2, 3, 8]) st = ([(0, .rsl 1 0 n n 1 false), (1, I 0), (2, I n), (3, cmpF), (8, I i)], ⟨[b, (A ++ B).map tAV], []⟩)) :
    ∃ x_1 en s, lim (headed pure (run L) false [0, 1, 2, 3, 8] lp138_1 lo hi) env st = some (x_1, en, s) ∧ (x_1 = .exit 0 ∧ s = ⟨[b, (B.foldl (insL lexLt) A).map tAV], []⟩) := by
  refine loop_wp (α := Nat × List (List Int) × List (List Int)) (fun ⟨i, A, B⟩ => B.length) (fun ⟨i, A, B⟩ => A.length = i ∧ i + B.length = n ∧ ∀ l ∈ B, l.length < 1000000) (fun ⟨i, A, B⟩ => ([(0, .rsl 1 0 n n 1 false), (1, I 0), (2, I n), (3, cmpF), (8, I i)], ⟨[b, (A ++ B).map tAV], []⟩)) (fun ⟨i, A, B⟩ x_1 en s => x_1 = .exit 0 ∧ s = ⟨[b, (B.foldl (insL lexLt) A).map tAV], []⟩) (fun ⟨i, A, B⟩ hok => ?_) ⟨i, A, B⟩ hok env st hg
  simp only at hok
  obtain ⟨h1, h2, h3⟩ := hok
  dsimp only at h1 h2 h3 ⊢
  cases B with
  | nil =>
    obtain rfl : i = n := by simpa using h2
    rw [List.append_nil]
    simp only [go_sem, reduceIte, Nat.reduceEqDiff, Nat.reduceAdd, Nat.reduceSub, Nat.reduceLeDiff, Nat.reduceLT, reduceCtorEq, Int.reduceLT, Int.reduceLE, Int.reduceEq, Int.reduceBEq, Int.reduceSub, Int.reduceAdd, Int.reduceMul, Int.reduceNeg, Int.reduceToNat, Nat.reduceMul, Nat.reduceBEq, index_rsl_if, setm, make_ints, condK_dec, wantK_dec, not_dec, and_dec, or_dec, seqK_ite, seqK_none, blockK_ite, blockK_none, opsK_ite, opsK_none, stepK_ite, stepK_none, bodyK_ite, bodyK_none, resK_ite, resK_none, leaveK_ite, leaveK_none, only_ite, only_none, bind_ite, gives_some, gives_none, gives_ite, then_normal, then_ret, then_exit, then_none, then_ite, Option.bind_none, Bool.not_eq_true', decide_eq_false_iff_not, Bool.and_eq_true, Bool.or_eq_true, Option.some.injEq, Int.not_lt, Int.not_le, lp138_1, show ((i : Int) < (i : Int)) = False from eq_false (by omega)]
    rfl
  | cons x B =>
    rw [List.length_cons] at h2
    have hs := succ64 i (by omega)
    have hlt : ((i : Int) < (n : Int)) = True := eq_true (by omega)
    rw [List.foldl_cons]
    simp only [go_sem, reduceIte, Nat.reduceEqDiff, Nat.reduceAdd, Nat.reduceSub, Nat.reduceLeDiff, Nat.reduceLT, reduceCtorEq, Int.reduceLT, Int.reduceLE, Int.reduceEq, Int.reduceBEq, Int.reduceSub, Int.reduceAdd, Int.reduceMul, Int.reduceNeg, Int.reduceToNat, Nat.reduceMul, Nat.reduceBEq, index_rsl_if, setm, make_ints, condK_dec, wantK_dec, not_dec, and_dec, or_dec, seqK_ite, seqK_none, blockK_ite, blockK_none, opsK_ite, opsK_none, stepK_ite, stepK_none, bodyK_ite, bodyK_none, resK_ite, resK_none, leaveK_ite, leaveK_none, only_ite, only_none, bind_ite, gives_some, gives_none, gives_ite, then_normal, then_ret, then_exit, then_none, then_ite, Option.bind_none, Bool.not_eq_true', decide_eq_false_iff_not, Bool.and_eq_true, Bool.or_eq_true, Option.some.injEq, Int.not_lt, Int.not_le, lp138_1, hlt, hs]
    generalize hg : lim (headed pure (run L) false _ lp138_0 _ _) _ _ = o
    obtain ⟨x, en, s, rfl, h2⟩ : ∃ x en s, o = some (x, en, s) ∧ _ := by rw [← hg]; exact loop138_0 b n hn x (h3 x (by simp)) i _ _ i A B ⟨h1, by omega⟩ _ _ (by simp only [go_sem, reduceIte, Nat.reduceEqDiff, Nat.reduceAdd, Nat.reduceSub, Nat.reduceLeDiff, Nat.reduceLT, reduceCtorEq, Int.reduceLT, Int.reduceLE, Int.reduceEq, Int.reduceBEq, Int.reduceSub, Int.reduceAdd, Int.reduceMul, Int.reduceNeg, Int.reduceToNat, Nat.reduceMul, Nat.reduceBEq] <;> rfl)
    clear hg
    obtain ⟨rfl, e0, e1, e2, e3, e8, rfl⟩ := h2
    have hA := insL_len lexLt A x
    simp only [go_sem, reduceIte, Nat.reduceEqDiff, Nat.reduceAdd, Nat.reduceSub, Nat.reduceLeDiff, Nat.reduceLT, reduceCtorEq, Int.reduceLT, Int.reduceLE, Int.reduceEq, Int.reduceBEq, Int.reduceSub, Int.reduceAdd, Int.reduceMul, Int.reduceNeg, Int.reduceToNat, Nat.reduceMul, Nat.reduceBEq, index_rsl_if, setm, make_ints, condK_dec, wantK_dec, not_dec, and_dec, or_dec, seqK_ite, seqK_none, blockK_ite, blockK_none, opsK_ite, opsK_none, stepK_ite, stepK_none, bodyK_ite, bodyK_none, resK_ite, resK_none, leaveK_ite, leaveK_none, only_ite, only_none, bind_ite, gives_some, gives_none, gives_ite, then_normal, then_ret, then_exit, then_none, then_ite, Option.bind_none, Bool.not_eq_true', decide_eq_false_iff_not, Bool.and_eq_true, Bool.or_eq_true, Option.some.injEq, Int.not_lt, Int.not_le, lp138_1, e0, e1, e2, e3, e8, hs]
    refine ⟨(i + 1, insL lexLt A x, B), by simp only [go_sem, reduceIte, Nat.reduceEqDiff, Nat.reduceAdd, Nat.reduceSub, Nat.reduceLeDiff, Nat.reduceLT, reduceCtorEq, Int.reduceLT, Int.reduceLE, Int.reduceEq, Int.reduceBEq, Int.reduceSub, Int.reduceAdd, Int.reduceMul, Int.reduceNeg, Int.reduceToNat, Nat.reduceMul, Nat.reduceBEq, ren1_locm, loc_tips, locT_eq, e0, e1, e2, e3, e8] <;> rfl, ?_, ?_, fun x en s hq => ?_⟩
    · dsimp only; exact ⟨by omega, by omega, fun l hl => h3 l (by simp [hl])⟩
    · dsimp only; omega
    · exact hq

theorem c138 (b : List AV) (X : List (List Int)) (h1 : 1 ≤ X.length) (hn : X.length ≤ 1000) (hx : ∀ l ∈ X, l.length < 1000000) :
    run L 138 [.rsl 1 0 X.length X.length 1 false, I 0, I X.length, cmpF] ⟨[b, X.map tAV], []⟩ = some (.tup [], ⟨[b, (sortL lexLt X).map tAV], []⟩) := by
  rw [run_shared (fn := ir138) rfl rfl]
  cases X with
  | nil => simp at h1
  | cons x B =>
    have hw : IntKind.i64.wrap (0 + 1) = 1 := by decide
    rw [sortL_cons]
    generalize hk : (x :: B).length = k at *
    rw [List.length_cons] at hk
    simp only [ir138, go_sem, reduceIte, Nat.reduceEqDiff, Nat.reduceAdd, Nat.reduceSub, Nat.reduceLeDiff, Nat.reduceLT, reduceCtorEq, Int.reduceLT, Int.reduceLE, Int.reduceEq, Int.reduceBEq, Int.reduceSub, Int.reduceAdd, Int.reduceMul, Int.reduceNeg, Int.reduceToNat, Nat.reduceMul, Nat.reduceBEq, hw]
    generalize hg : lim (headed pure (run L) false _ lp138_1 _ _) _ _ = o
    obtain ⟨x, en, s, rfl, h2⟩ : ∃ x en s, o = some (x, en, s) ∧ _ := by rw [← hg]; exact loop138_1 b k hn _ _ 1 [x] B ⟨rfl, by omega, fun l hl => hx l (by simp [hl])⟩ _ _ (by simp only [go_sem, reduceIte, Nat.reduceEqDiff, Nat.reduceAdd, Nat.reduceSub, Nat.reduceLeDiff, Nat.reduceLT, reduceCtorEq, Int.reduceLT, Int.reduceLE, Int.reduceEq, Int.reduceBEq, Int.reduceSub, Int.reduceAdd, Int.reduceMul, Int.reduceNeg, Int.reduceToNat, Nat.reduceMul, Nat.reduceBEq, show ((1 : Nat) : Int) = 1 from rfl, show [x] ++ B = x :: B from rfl] <;> rfl)
    clear hg
    obtain ⟨rfl, rfl⟩ := h2
    simp only [go_sem, reduceIte, Nat.reduceEqDiff, Nat.reduceAdd, Nat.reduceSub, Nat.reduceLeDiff, Nat.reduceLT, reduceCtorEq, Int.reduceLT, Int.reduceLE, Int.reduceEq, Int.reduceBEq, Int.reduceSub, Int.reduceAdd, Int.reduceMul, Int.reduceNeg, Int.reduceToNat, Nat.reduceMul, Nat.reduceBEq]
theorem loop116 (b : List AV) (X : List (List Int)) (h1 : 1 ≤ X.length) (hn : X.length ≤ 12) (hx : ∀ l ∈ X, l.length < 1000000) (lim0 : Int) (lo hi : Nat) (u : Nat) (hok : True) (env : Env) (st : St)
    (hg : gcAV false lo hi (canon env [0, 1, 2, 3, 4, 10, 11]) st = ([(0, .rsl 1 0 X.length X.length 1 false), (1, I 0), (2, I X.length), (3, I lim0), (4, cmpF), (10, B true), (11, B true)], ⟨[b, X.map tAV], []⟩)) :
    ∃ x_1 en s, lim (headed pure (run L) false [0, 1, 2, 3, 4, 10, 11] lp116_0 lo hi) env st = some (x_1, en, s) ∧ (x_1 = .ret ∧ s = ⟨[b, (sortL lexLt X).map tAV], []⟩) := by
  refine loop_wp (α := Nat) (fun u => u) (fun u => True) (fun u => ([(0, .rsl 1 0 X.length X.length 1 false), (1, I 0), (2, I X.length), (3, I lim0), (4, cmpF), (10, B true), (11, B true)], ⟨[b, X.map tAV], []⟩)) (fun u x_1 en s => x_1 = .ret ∧ s = ⟨[b, (sortL lexLt X).map tAV], []⟩) (fun u hok => ?_) u hok env st hg
  have h138 := c138 b X h1 (by omega) hx
  have hw : IntKind.i64.wrap ((X.length : Int) - 0) = (X.length : Int) := by rw [wrap64] <;> omega
  have q : ((X.length : Int) ≤ 12) = True := eq_true (by omega)
  simp only [go_sem, reduceIte, Nat.reduceEqDiff, Nat.reduceAdd, Nat.reduceSub, Nat.reduceLeDiff, Nat.reduceLT, reduceCtorEq, Int.reduceLT, Int.reduceLE, Int.reduceEq, Int.reduceBEq, Int.reduceSub, Int.reduceAdd, Int.reduceMul, Int.reduceNeg, Int.reduceToNat, Nat.reduceMul, Nat.reduceBEq, index_rsl_if, setm, make_ints, condK_dec, wantK_dec, not_dec, and_dec, or_dec, seqK_ite, seqK_none, blockK_ite, blockK_none, opsK_ite, opsK_none, stepK_ite, stepK_none, bodyK_ite, bodyK_none, resK_ite, resK_none, leaveK_ite, leaveK_none, only_ite, only_none, bind_ite, gives_some, gives_none, gives_ite, then_normal, then_ret, then_exit, then_none, then_ite, Option.bind_none, Bool.not_eq_true', decide_eq_false_iff_not, Bool.and_eq_true, Bool.or_eq_true, Option.some.injEq, Int.not_lt, Int.not_le, lp116_0, hw, q, h138, show pure 138 = false from rfl]

def blN (n : Nat) : Nat := if n = 0 then 0 else Nat.log2 n + 1
theorem all101 : (List.range 13).map (fun (n : Nat) => callAV L 60 101 [.v (.int .u64 (n : Int))] ⟨[], []⟩) = (List.range 13).map (fun n => some (I (blN n : Nat), (⟨[], []⟩ : St))) := by kernel_rfl
theorem c101 (n : Nat) (hn : n ≤ 12) (st : St) : run L 101 [.v (.int .u64 (n : Int))] st = some (I (blN n), st) :=
  run_any' (fn := ir101) rfl rfl (callAV_run L 60 _ _ _ _ (all_of all101 n (by omega))) st
theorem c116 (b : List AV) (X : List (List Int)) (h1 : 1 ≤ X.length) (hn : X.length ≤ 12) (hx : ∀ l ∈ X, l.length < 1000000) (lim0 : Int) :
    run L 116 [.rsl 1 0 X.length X.length 1 false, I 0, I X.length, I lim0, cmpF] ⟨[b, X.map tAV], []⟩ = some (.tup [], ⟨[b, (sortL lexLt X).map tAV], []⟩) := by
  rw [run_shared (fn := ir116) rfl rfl]
  simp only [ir116, go_sem, reduceIte, Nat.reduceEqDiff, Nat.reduceAdd, Nat.reduceSub, Nat.reduceLeDiff, Nat.reduceLT, reduceCtorEq, Int.reduceLT, Int.reduceLE, Int.reduceEq, Int.reduceBEq, Int.reduceSub, Int.reduceAdd, Int.reduceMul, Int.reduceNeg, Int.reduceToNat, Nat.reduceMul, Nat.reduceBEq]
  generalize hg : lim (headed pure (run L) false _ lp116_0 _ _) _ _ = o
  obtain ⟨x, en, s, rfl, h2⟩ : ∃ x en s, o = some (x, en, s) ∧ _ := by rw [← hg]; exact loop116 b X h1 hn hx lim0 _ _ 0 trivial _ _ (by simp only [go_sem, reduceIte, Nat.reduceEqDiff, Nat.reduceAdd, Nat.reduceSub, Nat.reduceLeDiff, Nat.reduceLT, reduceCtorEq, Int.reduceLT, Int.reduceLE, Int.reduceEq, Int.reduceBEq, Int.reduceSub, Int.reduceAdd, Int.reduceMul, Int.reduceNeg, Int.reduceToNat, Nat.reduceMul, Nat.reduceBEq] <;> rfl)
  clear hg
  obtain ⟨rfl, rfl⟩ := h2
  simp only [go_sem, reduceIte, Nat.reduceEqDiff, Nat.reduceAdd, Nat.reduceSub, Nat.reduceLeDiff, Nat.reduceLT, reduceCtorEq, Int.reduceLT, Int.reduceLE, Int.reduceEq, Int.reduceBEq, Int.reduceSub, Int.reduceAdd, Int.reduceMul, Int.reduceNeg, Int.reduceToNat, Nat.reduceMul, Nat.reduceBEq]
theorem c96 (b : List AV) (X : List (List Int)) (h1 : 1 ≤ X.length) (hn : X.length ≤ 12) (hx : ∀ l ∈ X, l.length < 1000000) :
    run L 96 [.rsl 1 0 X.length X.length 1 false, cmpF] ⟨[b, X.map tAV], []⟩ = some (.tup [], ⟨[b, (sortL lexLt X).map tAV], []⟩) := by
  rw [run_shared (fn := ir96) rfl rfl]
  have hw : IntKind.u64.wrap (X.length : Int) = (X.length : Int) := by simp [IntKind.wrap, IntKind.bits, IntKind.signed]; omega
  have h101 := fun st => c101 X.length hn st
  have h116 := c116 b X h1 hn hx (blN X.length : Nat)
  simp only [ir96, go_sem, reduceIte, Nat.reduceEqDiff, Nat.reduceAdd, Nat.reduceSub, Nat.reduceLeDiff, Nat.reduceLT, reduceCtorEq, Int.reduceLT, Int.reduceLE, Int.reduceEq, Int.reduceBEq, Int.reduceSub, Int.reduceAdd, Int.reduceMul, Int.reduceNeg, Int.reduceToNat, Nat.reduceMul, Nat.reduceBEq, hw, h101, h116, show pure 116 = false from rfl]

/-! ### the shortest lists, by the law -/
def fewA (X : List (List Int)) : AV := if X = [] then .v (.slice none 0 0) else .rsl 1 0 X.length X.length 1 false
def fewS (X : List (List Int)) : List (List AV) := if X = [] then [] else [X.map tAV]
theorem refsL_T (n : Nat) : ∀ (X : List (List Int)) (acc : List Nat), refsL n acc (X.map tAV) = acc
  | [], acc => by simp only [List.map_nil, refsL]
  | x :: r, acc => by
    have e : refsV n acc (tAV x) = acc := refsV_sl n acc 1 true (x.map I)
    simp only [List.map_cons, refsL, e, refsL_T n r]
theorem mapLs_T (n : Nat) (M : List Nat) : ∀ (X : List (List Int)), mapLs n M (X.map tAV) = X.map tAV
  | [] => by simp only [List.map_nil, mapLs]
  | x :: r => by
    have e : mapL n M (tAV x) = tAV x := mapL_sl n M 1 true (x.map I)
    simp only [List.map_cons, mapLs, e, mapLs_T n M r]
theorem ren1_t (n : Nat) (tips : List Nat) (l : List Int) (acc : List (Nat × Nat)) : ren1 n tips acc (tAV l) = (tAV l, acc) := by
  unfold tAV
  cases l with
  | nil => rfl
  | cons a r => rw [sl_ne (by simp)]; simp [ren1]
theorem okRefsT (n : Nat) (X : List (List Int)) : okRefs n (X.map tAV) = true := okRefs_map tAV n (okRef_t n) X
theorem renCellsT (n : Nat) (tips : List Nat) (acc : List (Nat × Nat)) (X : List (List Int)) : renCells n tips acc (X.map tAV) = (X.map tAV, acc) := renCells_map tAV n tips (ren1_t n tips) X acc
theorem keepF_at {X : List (List Int)} {x : List Int} (h : X[0]? = some x) (a : List Int) : keepF lenI X a = if a.length < x.length then [a] else if a.length = x.length then X ++ [a] else X := by
  cases X with
  | nil => simp at h
  | cons y r =>
    have : y = x := by simpa using h
    subst this
    show (if lenI a < lenI y then [a] else if lenI a = lenI y then (y :: r) ++ [a] else y :: r) = _
    by_cases p : a.length < y.length
    · rw [if_pos p, if_pos (show lenI a < lenI y by unfold lenI; omega)]
    · rw [if_neg p, if_neg (show ¬ lenI a < lenI y by unfold lenI; omega)]
      by_cases q : a.length = y.length
      · rw [if_pos q, if_pos (show lenI a = lenI y by unfold lenI; omega)]
      · rw [if_neg q, if_neg (show ¬ lenI a = lenI y by unfold lenI; omega)]
theorem memb_len7 (m : Nat) : (memb m).length ≤ 7 := by
  unfold memb; rw [List.length_map]
  exact Nat.le_trans (List.length_filter_le _ _) (by simp)

attribute [local go_sem] shaped_t cells_t isAgg_t storable_t okRef_t pub_t

theorem happ_nil (l : List Int) (S : List (List AV)) : appendmAV 1 false (.v (.slice none 0 0)) [tAV l] ⟨S, []⟩ = some (.rsl S.length 0 1 1 1 false, ⟨S ++ [[tAV l]], []⟩) := by
  simp [appendmAV, newM, maxGrow, flatAV, cells_t]
theorem happ_at (b : List AV) (X : List (List Int)) (l : List Int) (h : 1 ≤ X.length) (h2 : X.length ≤ 1000) : appendmAV 1 false (.rsl 1 0 X.length X.length 1 false) [tAV l] ⟨[b, X.map tAV], []⟩ = some (.rsl 2 0 (X.length + 1) (X.length + 1) 1 false, ⟨[b, [], (X ++ [l]).map tAV], []⟩) := by
  have htk : (X.map tAV).take X.length = X.map tAV := List.take_of_length_le (by simp)
  simp only [appendmAV, List.getElem?_cons_succ, List.getElem?_cons_zero, List.length_cons, List.length_nil, List.length_map, Nat.mul_one, htk]
  rw [if_pos ⟨trivial, trivial, Nat.le_refl _, by omega, by omega⟩, if_neg (by omega), if_pos ⟨trivial, by unfold maxGrow; omega, by omega⟩]
  simp [flatAV, cells_t]

theorem refsV_t (n : Nat) (acc : List Nat) (l : List Int) : refsV n acc (tAV l) = acc := refsV_sl n acc 1 true (l.map I)
theorem mapL_t (n : Nat) (M : List Nat) (l : List Int) : mapL n M (tAV l) = tAV l := mapL_sl n M 1 true (l.map I)
theorem frzL1b {b cs : List AV} (hne : cs ≠ []) (T : List Nat) (env : Env) : frzL 1 env ⟨[b, cs], T⟩ = (frzEnv 1 cs env, ⟨[frzVs 1 cs b, []], T⟩) := by
  cases cs with
  | nil => exact absurd rfl hne
  | cons c cs => rfl
theorem cell1_t (l : List Int) : cell1 (tAV l) = tAV l := by unfold tAV sl; split <;> rfl
theorem frzV_madeT (l : Nat) (X : List (List Int)) (h : X ≠ []) : frzV l (X.map tAV) (.rsl l 0 X.length X.length 1 false) = sl 1 true (X.map tAV) := by
  simp only [frzV, List.length_map, List.drop_zero]
  rw [if_pos ⟨trivial, by omega, .inr trivial, Nat.le_refl _⟩, pubs_map tAV pub_t, groupm_one tAV cell1_t, sl_ne (by simpa using h)]
/-- The shortest lists among some sets. -/
def fewR (ps : List (Int × Int)) (X : List (List Int)) (l : List Nat) : List (List Int) := ((l.filter (expl ps)).map memb).foldl (keepF lenI) X
theorem fewR_nil (ps : List (Int × Int)) (X : List (List Int)) : fewR ps X [] = X := rfl
theorem fewR_cons (ps : List (Int × Int)) (X : List (List Int)) (m : Nat) (l : List Nat) : fewR ps X (m :: l) = fewR ps (if expl ps m = true then keepF lenI X (memb m) else X) l := by
  unfold fewR
  by_cases h : expl ps m = true
  · rw [if_pos h, List.filter_cons_of_pos h, List.map_cons, List.foldl_cons]
  · rw [if_neg h, List.filter_cons_of_neg h]
theorem fewA_ne {X : List (List Int)} (h : X ≠ []) : fewA X = .rsl 1 0 X.length X.length 1 false := by unfold fewA; rw [if_neg h]
theorem fewS_ne {X : List (List Int)} (h : X ≠ []) : fewS X = [X.map tAV] := by unfold fewS; rw [if_neg h]
theorem fewA_one (l : List Int) : fewA [l] = .rsl 1 0 1 1 1 false := rfl
theorem fewS_one (l : List Int) : fewS [l] = [[tAV l]] := rfl

set_option maxHeartbeats 1000000 in
theorem loop61 (nl : Bool) (n : Nat) (hn : n ≤ 7) (ps : List (Int × Int)) (hlen : ps.length < 1000000) (h7 : ∀ p ∈ ps, okP p) (m : Nat) (X : List (List Int)) (hok : m ≤ 2 ^ n ∧ X.length ≤ m ∧ ∀ l ∈ X, l.length ≤ 7) (env : Env) (st : St)
    (hg : gcAV true 1 0 (canon env [1, 3, 8, 9, 3000000]) st = ([(1, .ptr 0 0), (3, fewA X), (8, .v (.int .i64 ((2 ^ n : Nat) : Int))), (9, I m), (3000000, .any)], ⟨bkCells nl n ps :: fewS X, []⟩)) :
    ∃ x_1 en s, lim (headed pure (run L) true [1, 3, 8, 9, 3000000] lp61_0 1 0) env st = some (x_1, en, s) ∧ (x_1 = .exit 0 ∧ en.get 3 = fewA (fewR ps X (List.range' m (2 ^ n - m))) ∧ s = ⟨bkCells nl n ps :: fewS (fewR ps X (List.range' m (2 ^ n - m))), []⟩) := by
  refine loop_wp (α := Nat × List (List Int)) (fun ⟨m, X⟩ => 2 ^ n - m) (fun ⟨m, X⟩ => m ≤ 2 ^ n ∧ X.length ≤ m ∧ ∀ l ∈ X, l.length ≤ 7) (fun ⟨m, X⟩ => ([(1, .ptr 0 0), (3, fewA X), (8, .v (.int .i64 ((2 ^ n : Nat) : Int))), (9, I m), (3000000, .any)], ⟨bkCells nl n ps :: fewS X, []⟩)) (fun ⟨m, X⟩ x_1 en s => x_1 = .exit 0 ∧ en.get 3 = fewA (fewR ps X (List.range' m (2 ^ n - m))) ∧ s = ⟨bkCells nl n ps :: fewS (fewR ps X (List.range' m (2 ^ n - m))), []⟩) (fun ⟨m, X⟩ hok => ?_) ⟨m, X⟩ hok env st hg
  simp only at hok
  obtain ⟨h1, h2, h3⟩ := hok
  dsimp only at h1 h2 h3 ⊢
  have h128 : 2 ^ n ≤ 128 := Nat.le_trans (Nat.pow_le_pow_right (by omega) hn) (by decide)
  generalize 2 ^ n = N at *
  by_cases h : m < N
  · have hs := succ64 m (by omega)
    have hlt : ((m : Int) < (N : Int)) = True := eq_true (by omega)
    have hr : List.range' m (N - m) = m :: List.range' (m + 1) (N - (m + 1)) := by
      rw [show N - m = (N - (m + 1)) + 1 by omega, List.range'_succ]
    have h55 := fun st => c55 nl n ps hlen h7 m st
    have h56 : ∀ st, run L 56 [I (m : Int)] st = some (tAV (memb m), st) := fun st => c56 m st
    have hl7 := memb_len7 m
    have hla : ∀ l : List Int, lenAV (tAV l) = some (I l.length) := fun l => by unfold tAV; rw [len_sl]; simp
    have hN := fun S => happ_nil (memb m) S
    rw [hr, fewR_cons]
    cases he : expl ps m
    · rw [he] at h55
      simp only [Bool.false_eq_true, if_false]
      by_cases hX : X = []
      · subst hX
        have eA : fewA [] = .v (.slice none 0 0) := rfl
        have eS : fewS [] = [] := rfl
        simp only [go_sem, reduceIte, Nat.reduceEqDiff, Nat.reduceAdd, Nat.reduceSub, Nat.reduceLeDiff, Nat.reduceLT, reduceCtorEq, Int.reduceLT, Int.reduceLE, Int.reduceEq, Int.reduceBEq, Int.reduceSub, Int.reduceAdd, Int.reduceMul, Int.reduceNeg, Int.reduceToNat, Nat.reduceMul, Nat.reduceBEq, index_rsl_if, setm, make_ints, condK_dec, wantK_dec, not_dec, and_dec, or_dec, seqK_ite, seqK_none, blockK_ite, blockK_none, opsK_ite, opsK_none, stepK_ite, stepK_none, bodyK_ite, bodyK_none, resK_ite, resK_none, leaveK_ite, leaveK_none, only_ite, only_none, bind_ite, gives_some, gives_none, gives_ite, then_normal, then_ret, then_exit, then_none, then_ite, Option.bind_none, Bool.not_eq_true', decide_eq_false_iff_not, Bool.and_eq_true, Bool.or_eq_true, Option.some.injEq, Int.not_lt, Int.not_le, lp61_0, hlt, hs, h55, eA, eS]
        refine ⟨(m + 1, ([] : List (List Int))), by simp only [go_sem, reduceIte, Nat.reduceEqDiff, Nat.reduceAdd, Nat.reduceSub, Nat.reduceLeDiff, Nat.reduceLT, reduceCtorEq, Int.reduceLT, Int.reduceLE, Int.reduceEq, Int.reduceBEq, Int.reduceSub, Int.reduceAdd, Int.reduceMul, Int.reduceNeg, Int.reduceToNat, Nat.reduceMul, Nat.reduceBEq, ren1_locm, loc_tips, locT_eq, eA, eS, okRefsT, renCellsT, compact, compactW, refsEnv, refsV, refsL, refsStore, refsAt, mapEnv, mapL, mapLs, newName, posOf, mapStore, pickStore, namesOk, refsV_sl, mapL_sl, refsL_T, mapLs_T, refsV_t, mapL_t, ren1_t, List.contains_nil, List.contains_cons, Option.getD_some, hasKey] <;> rfl, ?_, ?_, fun x en s hq => ?_⟩
        · dsimp only; exact ⟨by omega, by simp, by simp⟩
        · dsimp only; omega
        · exact hq
      · have eA := fewA_ne hX
        have eS := fewS_ne hX
        simp only [go_sem, reduceIte, Nat.reduceEqDiff, Nat.reduceAdd, Nat.reduceSub, Nat.reduceLeDiff, Nat.reduceLT, reduceCtorEq, Int.reduceLT, Int.reduceLE, Int.reduceEq, Int.reduceBEq, Int.reduceSub, Int.reduceAdd, Int.reduceMul, Int.reduceNeg, Int.reduceToNat, Nat.reduceMul, Nat.reduceBEq, index_rsl_if, setm, make_ints, condK_dec, wantK_dec, not_dec, and_dec, or_dec, seqK_ite, seqK_none, blockK_ite, blockK_none, opsK_ite, opsK_none, stepK_ite, stepK_none, bodyK_ite, bodyK_none, resK_ite, resK_none, leaveK_ite, leaveK_none, only_ite, only_none, bind_ite, gives_some, gives_none, gives_ite, then_normal, then_ret, then_exit, then_none, then_ite, Option.bind_none, Bool.not_eq_true', decide_eq_false_iff_not, Bool.and_eq_true, Bool.or_eq_true, Option.some.injEq, Int.not_lt, Int.not_le, lp61_0, hlt, hs, h55, eA, eS]
        refine ⟨(m + 1, X), by simp only [go_sem, reduceIte, Nat.reduceEqDiff, Nat.reduceAdd, Nat.reduceSub, Nat.reduceLeDiff, Nat.reduceLT, reduceCtorEq, Int.reduceLT, Int.reduceLE, Int.reduceEq, Int.reduceBEq, Int.reduceSub, Int.reduceAdd, Int.reduceMul, Int.reduceNeg, Int.reduceToNat, Nat.reduceMul, Nat.reduceBEq, ren1_locm, loc_tips, locT_eq, eA, eS, okRefsT, renCellsT, compact, compactW, refsEnv, refsV, refsL, refsStore, refsAt, mapEnv, mapL, mapLs, newName, posOf, mapStore, pickStore, namesOk, refsV_sl, mapL_sl, refsL_T, mapLs_T, refsV_t, mapL_t, ren1_t, List.contains_nil, List.contains_cons, Option.getD_some, hasKey] <;> rfl, ?_, ?_, fun x en s hq => ?_⟩
        · dsimp only; exact ⟨by omega, by omega, h3⟩
        · dsimp only; omega
        · exact hq
    · rw [he] at h55
      simp only [if_true]
      by_cases hX : X = []
      · subst hX
        have eA : fewA [] = .v (.slice none 0 0) := rfl
        have eS : fewS [] = [] := rfl
        have ek : keepF lenI [] (memb m) = [memb m] := rfl
        rw [ek]
        generalize memb m = l at *
        simp only [go_sem, reduceIte, Nat.reduceEqDiff, Nat.reduceAdd, Nat.reduceSub, Nat.reduceLeDiff, Nat.reduceLT, reduceCtorEq, Int.reduceLT, Int.reduceLE, Int.reduceEq, Int.reduceBEq, Int.reduceSub, Int.reduceAdd, Int.reduceMul, Int.reduceNeg, Int.reduceToNat, Nat.reduceMul, Nat.reduceBEq, index_rsl_if, setm, make_ints, condK_dec, wantK_dec, not_dec, and_dec, or_dec, seqK_ite, seqK_none, blockK_ite, blockK_none, opsK_ite, opsK_none, stepK_ite, stepK_none, bodyK_ite, bodyK_none, resK_ite, resK_none, leaveK_ite, leaveK_none, only_ite, only_none, bind_ite, gives_some, gives_none, gives_ite, then_normal, then_ret, then_exit, then_none, then_ite, Option.bind_none, Bool.not_eq_true', decide_eq_false_iff_not, Bool.and_eq_true, Bool.or_eq_true, Option.some.injEq, Int.not_lt, Int.not_le, lp61_0, hlt, hs, h55, h56, eA, eS, hla, hN]
        refine ⟨(m + 1, [l]), by simp only [go_sem, reduceIte, Nat.reduceEqDiff, Nat.reduceAdd, Nat.reduceSub, Nat.reduceLeDiff, Nat.reduceLT, reduceCtorEq, Int.reduceLT, Int.reduceLE, Int.reduceEq, Int.reduceBEq, Int.reduceSub, Int.reduceAdd, Int.reduceMul, Int.reduceNeg, Int.reduceToNat, Nat.reduceMul, Nat.reduceBEq, ren1_locm, loc_tips, locT_eq, fewA_one, fewS_one, okRefsT, renCellsT, compact, compactW, refsEnv, refsV, refsL, refsStore, refsAt, mapEnv, mapL, mapLs, newName, posOf, mapStore, pickStore, namesOk, refsV_sl, mapL_sl, refsL_T, mapLs_T, refsV_t, mapL_t, ren1_t, List.contains_nil, List.contains_cons, Option.getD_some, hasKey] <;> rfl, ?_, ?_, fun x en s hq => ?_⟩
        · dsimp only; exact ⟨by omega, by simp, by simpa using hl7⟩
        · dsimp only; omega
        · exact hq
      · have eA := fewA_ne hX
        have eS := fewS_ne hX
        obtain ⟨x, hx⟩ : ∃ x, X[0]? = some x := by
          cases X with
          | nil => exact absurd rfl hX
          | cons x r => exact ⟨x, rfl⟩
        have hxt := getT X 0 x hx
        have hk := keepF_at hx (memb m)
        have hpos : 1 ≤ X.length := by
          cases X with
          | nil => exact absurd rfl hX
          | cons x r => simp
        have hpos' : ((0 : Int) < (X.length : Int)) = True := eq_true (by omega)
        have hp2 : (0 < X.length) = True := eq_true (by omega)
        have hp3 : (1 ≤ X.length) = True := eq_true (by omega)
        have hp4 : ((X.length : Int) = 0) = False := eq_false (by omega)
        have hA := happ_at (bkCells nl n ps) X (memb m) hpos (by omega)
        rw [hk]
        generalize memb m = l at *
        by_cases p : l.length < x.length
        · have p' : ((l.length : Int) < (x.length : Int)) = True := eq_true (by omega)
          rw [if_pos p]
          simp only [go_sem, reduceIte, Nat.reduceEqDiff, Nat.reduceAdd, Nat.reduceSub, Nat.reduceLeDiff, Nat.reduceLT, reduceCtorEq, Int.reduceLT, Int.reduceLE, Int.reduceEq, Int.reduceBEq, Int.reduceSub, Int.reduceAdd, Int.reduceMul, Int.reduceNeg, Int.reduceToNat, Nat.reduceMul, Nat.reduceBEq, index_rsl_if, setm, make_ints, condK_dec, wantK_dec, not_dec, and_dec, or_dec, seqK_ite, seqK_none, blockK_ite, blockK_none, opsK_ite, opsK_none, stepK_ite, stepK_none, bodyK_ite, bodyK_none, resK_ite, resK_none, leaveK_ite, leaveK_none, only_ite, only_none, bind_ite, gives_some, gives_none, gives_ite, then_normal, then_ret, then_exit, then_none, then_ite, Option.bind_none, Bool.not_eq_true', decide_eq_false_iff_not, Bool.and_eq_true, Bool.or_eq_true, Option.some.injEq, Int.not_lt, Int.not_le, lp61_0, hlt, hs, h55, h56, eA, eS, hla, hN, hxt, hpos', hp2, hp3, hp4, p']
          refine ⟨(m + 1, [l]), by simp only [go_sem, reduceIte, Nat.reduceEqDiff, Nat.reduceAdd, Nat.reduceSub, Nat.reduceLeDiff, Nat.reduceLT, reduceCtorEq, Int.reduceLT, Int.reduceLE, Int.reduceEq, Int.reduceBEq, Int.reduceSub, Int.reduceAdd, Int.reduceMul, Int.reduceNeg, Int.reduceToNat, Nat.reduceMul, Nat.reduceBEq, ren1_locm, loc_tips, locT_eq, fewA_one, fewS_one, okRefsT, renCellsT, compact, compactW, refsEnv, refsV, refsL, refsStore, refsAt, mapEnv, mapL, mapLs, newName, posOf, mapStore, pickStore, namesOk, refsV_sl, mapL_sl, refsL_T, mapLs_T, refsV_t, mapL_t, ren1_t, List.contains_nil, List.contains_cons, Option.getD_some, hasKey] <;> rfl, ?_, ?_, fun x en s hq => ?_⟩
          · dsimp only; exact ⟨by omega, by simp, by simpa using hl7⟩
          · dsimp only; omega
          · exact hq
        · have p' : ((l.length : Int) < (x.length : Int)) = False := eq_false (by omega)
          rw [if_neg p]
          by_cases q : l.length = x.length
          · have q' : ((l.length : Int) = (x.length : Int)) = True := eq_true (by omega)
            have eA2 : fewA (X ++ [l]) = .rsl 1 0 (X.length + 1) (X.length + 1) 1 false := by rw [fewA_ne (by simp)]; simp
            have eS2 : fewS (X ++ [l]) = [(X ++ [l]).map tAV] := fewS_ne (by simp)
            rw [if_pos q]
            generalize hY : X ++ [l] = Y at *
            have hYl : Y.length = X.length + 1 := by rw [← hY]; simp
            simp only [go_sem, reduceIte, Nat.reduceEqDiff, Nat.reduceAdd, Nat.reduceSub, Nat.reduceLeDiff, Nat.reduceLT, reduceCtorEq, Int.reduceLT, Int.reduceLE, Int.reduceEq, Int.reduceBEq, Int.reduceSub, Int.reduceAdd, Int.reduceMul, Int.reduceNeg, Int.reduceToNat, Nat.reduceMul, Nat.reduceBEq, index_rsl_if, setm, make_ints, condK_dec, wantK_dec, not_dec, and_dec, or_dec, seqK_ite, seqK_none, blockK_ite, blockK_none, opsK_ite, opsK_none, stepK_ite, stepK_none, bodyK_ite, bodyK_none, resK_ite, resK_none, leaveK_ite, leaveK_none, only_ite, only_none, bind_ite, gives_some, gives_none, gives_ite, then_normal, then_ret, then_exit, then_none, then_ite, Option.bind_none, Bool.not_eq_true', decide_eq_false_iff_not, Bool.and_eq_true, Bool.or_eq_true, Option.some.injEq, Int.not_lt, Int.not_le, lp61_0, hlt, hs, h55, h56, eA, eS, hla, hA, hxt, hpos', hp2, hp3, hp4, p', q']
            refine ⟨(m + 1, Y), by simp only [go_sem, reduceIte, Nat.reduceEqDiff, Nat.reduceAdd, Nat.reduceSub, Nat.reduceLeDiff, Nat.reduceLT, reduceCtorEq, Int.reduceLT, Int.reduceLE, Int.reduceEq, Int.reduceBEq, Int.reduceSub, Int.reduceAdd, Int.reduceMul, Int.reduceNeg, Int.reduceToNat, Nat.reduceMul, Nat.reduceBEq, ren1_locm, loc_tips, locT_eq, eA2, eS2, okRefsT, renCellsT, compact, compactW, refsEnv, refsV, refsL, refsStore, refsAt, mapEnv, mapL, mapLs, newName, posOf, mapStore, pickStore, namesOk, refsV_sl, mapL_sl, refsL_T, mapLs_T, refsV_t, mapL_t, ren1_t, List.contains_nil, List.contains_cons, Option.getD_some, hasKey] <;> rfl, ?_, ?_, fun x en s hq => ?_⟩
            · dsimp only
              refine ⟨by omega, by omega, fun z hz => ?_⟩
              rw [← hY] at hz
              rcases List.mem_append.1 hz with hz | hz
              · exact h3 z hz
              · rw [List.mem_singleton.1 hz]; exact hl7
            · dsimp only; omega
            · exact hq
          · have q' : ((l.length : Int) = (x.length : Int)) = False := eq_false (by omega)
            rw [if_neg q]
            simp only [go_sem, reduceIte, Nat.reduceEqDiff, Nat.reduceAdd, Nat.reduceSub, Nat.reduceLeDiff, Nat.reduceLT, reduceCtorEq, Int.reduceLT, Int.reduceLE, Int.reduceEq, Int.reduceBEq, Int.reduceSub, Int.reduceAdd, Int.reduceMul, Int.reduceNeg, Int.reduceToNat, Nat.reduceMul, Nat.reduceBEq, index_rsl_if, setm, make_ints, condK_dec, wantK_dec, not_dec, and_dec, or_dec, seqK_ite, seqK_none, blockK_ite, blockK_none, opsK_ite, opsK_none, stepK_ite, stepK_none, bodyK_ite, bodyK_none, resK_ite, resK_none, leaveK_ite, leaveK_none, only_ite, only_none, bind_ite, gives_some, gives_none, gives_ite, then_normal, then_ret, then_exit, then_none, then_ite, Option.bind_none, Bool.not_eq_true', decide_eq_false_iff_not, Bool.and_eq_true, Bool.or_eq_true, Option.some.injEq, Int.not_lt, Int.not_le, lp61_0, hlt, hs, h55, h56, eA, eS, hla, hxt, hpos', hp2, hp3, hp4, p', q']
            refine ⟨(m + 1, X), by simp only [go_sem, reduceIte, Nat.reduceEqDiff, Nat.reduceAdd, Nat.reduceSub, Nat.reduceLeDiff, Nat.reduceLT, reduceCtorEq, Int.reduceLT, Int.reduceLE, Int.reduceEq, Int.reduceBEq, Int.reduceSub, Int.reduceAdd, Int.reduceMul, Int.reduceNeg, Int.reduceToNat, Nat.reduceMul, Nat.reduceBEq, ren1_locm, loc_tips, locT_eq, eA, eS, okRefsT, renCellsT, compact, compactW, refsEnv, refsV, refsL, refsStore, refsAt, mapEnv, mapL, mapLs, newName, posOf, mapStore, pickStore, namesOk, refsV_sl, mapL_sl, refsL_T, mapLs_T, refsV_t, mapL_t, ren1_t, List.contains_nil, List.contains_cons, Option.getD_some, hasKey] <;> rfl, ?_, ?_, fun x en s hq => ?_⟩
            · dsimp only; exact ⟨by omega, by omega, h3⟩
            · dsimp only; omega
            · exact hq
  · obtain rfl : m = N := by omega
    have hr : List.range' m (m - m) = [] := by simp
    rw [hr, fewR_nil]
    simp only [go_sem, reduceIte, Nat.reduceEqDiff, Nat.reduceAdd, Nat.reduceSub, Nat.reduceLeDiff, Nat.reduceLT, reduceCtorEq, Int.reduceLT, Int.reduceLE, Int.reduceEq, Int.reduceBEq, Int.reduceSub, Int.reduceAdd, Int.reduceMul, Int.reduceNeg, Int.reduceToNat, Nat.reduceMul, Nat.reduceBEq, index_rsl_if, setm, make_ints, condK_dec, wantK_dec, not_dec, and_dec, or_dec, seqK_ite, seqK_none, blockK_ite, blockK_none, opsK_ite, opsK_none, stepK_ite, stepK_none, bodyK_ite, bodyK_none, resK_ite, resK_none, leaveK_ite, leaveK_none, only_ite, only_none, bind_ite, gives_some, gives_none, gives_ite, then_normal, then_ret, then_exit, then_none, then_ite, Option.bind_none, Bool.not_eq_true', decide_eq_false_iff_not, Bool.and_eq_true, Bool.or_eq_true, Option.some.injEq, Int.not_lt, Int.not_le, lp61_0, show ((m : Int) < (m : Int)) = False from eq_false (by omega)]

theorem few_ne {n : Nat} (hn : n ≤ 7) {ps : List (Int × Int)} (hps : ∀ p ∈ ps, 0 ≤ p.1 ∧ p.1 < p.2 ∧ p.2 < (n : Int)) (h7 : ∀ p ∈ ps, okP p) : fewV n ps ≠ [] := by
  intro e
  have h := few_perm hn h7
  rw [e] at h
  have h2 := List.nil_perm.1 h
  rw [List.map_eq_nil_iff] at h2
  exact cheap_ne 2 hps h2
theorem few_in {n : Nat} {ps : List (Int × Int)} : ∀ l ∈ fewV n ps, l.length ≤ 7 := by
  intro l hl
  unfold fewV at hl
  obtain ⟨m, _, rfl⟩ := List.mem_map.1 (mem_least.1 hl).1
  exact memb_len7 m
theorem fewR_all (n : Nat) (ps : List (Int × Int)) : fewR ps [] (List.range' 0 (2 ^ n - 0)) = fewV n ps := by
  unfold fewR fewV
  rw [keepF_spec, Nat.sub_zero, ← List.range_eq_range']
/-- The shortest lists, in order. -/
def allV (n : Nat) (ps : List (Int × Int)) : List (List Int) := sortL lexLt (fewV n ps)
attribute [local go_sem high] shl_i
theorem c61 (nl : Bool) (n : Nat) (hn : n ≤ 7) (ps : List (Int × Int)) (hlen : ps.length < 1000000) (hps : ∀ p ∈ ps, 0 ≤ p.1 ∧ p.1 < p.2 ∧ p.2 < (n : Int)) (h7 : ∀ p ∈ ps, okP p) (st : St) :
    run L 61 [bkAV nl n ps] st = some (sl 1 true ((allV n ps).map tAV), st) := by
  rw [run_pure (fn := ir61) rfl rfl]
  have hsh := shI_eq n hn
  simp only [ir61, go_sem, reduceIte, Nat.reduceEqDiff, Nat.reduceAdd, Nat.reduceSub, Nat.reduceLeDiff, Nat.reduceLT, reduceCtorEq, Int.reduceLT, Int.reduceLE, Int.reduceEq, Int.reduceBEq, Int.reduceSub, Int.reduceAdd, Int.reduceMul, Int.reduceNeg, Int.reduceToNat, Nat.reduceMul, Nat.reduceBEq, hsh]
  generalize hg : lim (headed pure (run L) true _ lp61_0 _ _) _ _ = o
  obtain ⟨x, en, s, rfl, h2⟩ : ∃ x en s, o = some (x, en, s) ∧ _ := by rw [← hg]; exact loop61 nl n hn ps hlen h7 0 [] ⟨Nat.zero_le _, by simp, by simp⟩ _ _ (by simp only [go_sem, reduceIte, Nat.reduceEqDiff, Nat.reduceAdd, Nat.reduceSub, Nat.reduceLeDiff, Nat.reduceLT, reduceCtorEq, Int.reduceLT, Int.reduceLE, Int.reduceEq, Int.reduceBEq, Int.reduceSub, Int.reduceAdd, Int.reduceMul, Int.reduceNeg, Int.reduceToNat, Nat.reduceMul, Nat.reduceBEq, show fewA [] = .v (.slice none 0 0) from rfl, show fewS [] = [] from rfl, okRefsT, renCellsT, compact, compactW, refsEnv, refsV, refsL, refsStore, refsAt, mapEnv, mapL, mapLs, newName, posOf, mapStore, pickStore, namesOk, refsV_sl, mapL_sl, refsL_T, mapLs_T, List.contains_nil, List.contains_cons, Option.getD_some, hasKey, Int.natCast_zero] <;> rfl)
  clear hg
  rw [fewR_all] at h2
  obtain ⟨rfl, e3, rfl⟩ := h2
  have hne := few_ne hn hps h7
  have h12 := few_len hn hps
  have hin := few_in (n := n) (ps := ps)
  have eA := fewA_ne hne
  have eS := fewS_ne hne
  have h96 := c96 (bkCells nl n ps) (fewV n ps) (List.length_pos_iff.2 hne) h12 (fun l hl => by have := hin l hl; omega)
  have hlS : (sortL lexLt (fewV n ps)).length = (fewV n ps).length := (sortL_perm lexLt (fewV n ps)).length_eq
  have hneS : sortL lexLt (fewV n ps) ≠ [] := by
    intro e; rw [e] at hlS; exact hne (List.length_eq_zero_iff.1 hlS.symm)
  have hfz := fun T env => frzL1b (b := bkCells nl n ps) (cs := (sortL lexLt (fewV n ps)).map tAV) (by simpa using hneS) T env
  have hfv := frzV_madeT 1 (sortL lexLt (fewV n ps)) hneS
  rw [hlS] at hfv
  unfold allV
  generalize sortL lexLt (fewV n ps) = Y at *
  generalize fewV n ps = X at *
  simp only [go_sem, reduceIte, Nat.reduceEqDiff, Nat.reduceAdd, Nat.reduceSub, Nat.reduceLeDiff, Nat.reduceLT, reduceCtorEq, Int.reduceLT, Int.reduceLE, Int.reduceEq, Int.reduceBEq, Int.reduceSub, Int.reduceAdd, Int.reduceMul, Int.reduceNeg, Int.reduceToNat, Nat.reduceMul, Nat.reduceBEq, e3, eA, eS, h96, show pure 96 = false from rfl, code_frz, frzAV, frzT, frzLs, rslsOf, hfz, frzEnv, frzEnv_get, frzStore, frzVs, frzV_v, frzV_ptr, frzV_sl, hfv]

attribute [local go_sem] shaped_t cells_t isAgg_t storable_t okRef_t pub_t

/-! ### good values and shares -/
set_option maxHeartbeats 1000000 in
theorem loop62 (nl n1 n2 : Bool) (n : Nat) (hn : n ≤ 7) (ps : List (Int × Int)) (hlen : ps.length ≤ 10) (hps : ∀ p ∈ ps, 0 ≤ p.1 ∧ p.1 < p.2 ∧ p.2 < (n : Int)) (v : List Int) (hvl : v.length = n) (hvb : ∀ x ∈ v, 0 ≤ x ∧ x ≤ 2) (hh : halfOk ps v = true) (s0 : List Int) (hsl : s0.length = ps.length) (hb : ∀ x ∈ s0, 0 ≤ x ∧ x ≤ 2) (i : Nat) (o : List Int) (hok : i ≤ ps.length ∧ o.length = 7 ∧ ∀ x ∈ o, 0 ≤ x ∧ x ≤ 4 * i) (env : Env) (st : St)
    (hg : gcAV true 2 0 (canon env [1, 2, 7, 24, 25, 26]) st = ([(1, sl 1 n1 (v.map I)), (2, sl 1 n2 (s0.map I)), (7, .ptr 1 0), (24, sl 2 nl (ps.map prAV)), (25, I ps.length), (26, I i)], ⟨[bkCells nl n ps, o.map I], []⟩)) :
    ∃ x_1 en s, lim (headed pure (run L) true [1, 2, 7, 24, 25, 26] lp62_0 2 0) env st = some (x_1, en, s) ∧ (x_1 = .exit 0 ∧ en.get 7 = .ptr 1 0 ∧ s = ⟨[bkCells nl n ps, (((ps.zip s0).drop i).foldl has1 o).map I], []⟩ ∧ (((ps.zip s0).drop i).foldl has1 o).length = 7) := by
  refine loop_wp (α := Nat × List Int) (fun ⟨i, o⟩ => ps.length - i) (fun ⟨i, o⟩ => i ≤ ps.length ∧ o.length = 7 ∧ ∀ x ∈ o, 0 ≤ x ∧ x ≤ 4 * i) (fun ⟨i, o⟩ => ([(1, sl 1 n1 (v.map I)), (2, sl 1 n2 (s0.map I)), (7, .ptr 1 0), (24, sl 2 nl (ps.map prAV)), (25, I ps.length), (26, I i)], ⟨[bkCells nl n ps, o.map I], []⟩)) (fun ⟨i, o⟩ x_1 en s => x_1 = .exit 0 ∧ en.get 7 = .ptr 1 0 ∧ s = ⟨[bkCells nl n ps, (((ps.zip s0).drop i).foldl has1 o).map I], []⟩ ∧ (((ps.zip s0).drop i).foldl has1 o).length = 7) (fun ⟨i, o⟩ hok => ?_) ⟨i, o⟩ hok env st hg
  simp only at hok
  obtain ⟨h1, h2, h3⟩ := hok
  dsimp only
  by_cases h : i < ps.length
  · have hx := index_prs nl ps i h
    have hy := index_ints n2 s0 i (by omega)
    have hs := succ64 i (by omega)
    have hzl : i < (ps.zip s0).length := by rw [List.length_zip]; omega
    have hd : (ps.zip s0).drop i = (ps.zip s0)[i] :: (ps.zip s0).drop (i + 1) := List.drop_eq_getElem_cons hzl
    have hze : (ps.zip s0)[i] = (ps[i], s0[i]) := by simp
    have hp := hps ps[i] (List.getElem_mem h)
    have hbx := hb s0[i] (List.getElem_mem (by omega))
    have hen := List.all_eq_true.1 hh ps[i] (List.getElem_mem h)
    rw [hd, hze, List.foldl_cons]
    generalize ps[i] = c at *
    generalize s0[i] = x at *
    obtain ⟨u, w⟩ := c
    simp only at hp hx
    obtain ⟨u, rfl⟩ := Int.eq_ofNat_of_zero_le hp.1
    obtain ⟨w, rfl⟩ := Int.eq_ofNat_of_zero_le (show 0 ≤ w by omega)
    simp only [enough, Int.toNat_natCast, decide_eq_true_iff] at hen
    have hlt : ((i : Int) < (ps.length : Int)) = True := eq_true (by omega)
    have iu := index_ints n1 v u (by omega)
    have iw := index_ints n1 v w (by omega)
    have eu : v.getD u 0 = v[u]'(by omega) := by rw [List.getD_eq_getElem?_getD, List.getElem?_eq_getElem (show u < v.length by omega)]; rfl
    have ew : v.getD w 0 = v[w]'(by omega) := by rw [List.getD_eq_getElem?_getD, List.getElem?_eq_getElem (show w < v.length by omega)]; rfl
    have bu := hvb v[u] (List.getElem_mem (by omega))
    have bw := hvb v[w] (List.getElem_mem (by omega))
    rw [eu, ew] at hen
    generalize v[u]'(by omega) = vu at *
    generalize v[w]'(by omega) = vw at *
    have wv : IntKind.i64.wrap (vu + vw) = vu + vw := by rw [wrap64] <;> omega
    have qv : (vu + vw < 2) = False := eq_false (by omega)
    have hs1 := addAt_bd h3 u hbx
    have hl1 := addAt_len o u x
    have hs2 := addAt_bd hs1 w hbx
    have hl2 := addAt_len (addAt o u x) w x
    have k1 := getD_bd (by omega) h3 u
    have k2 := getD_bd (by omega) hs1 w
    have w1 : IntKind.i64.wrap (o.getD u 0 + x) = o.getD u 0 + x := by rw [wrap64] <;> omega
    have w2 : IntKind.i64.wrap ((addAt o u x).getD w 0 + x) = (addAt o u x).getD w 0 + x := by rw [wrap64] <;> omega
    have g1 := getI o u (by omega)
    have g2 := getI (addAt o u x) w (by omega)
    have hset1 : o.set u (o.getD u 0 + x) = addAt o u x := rfl
    have hset2 : (addAt o u x).set w ((addAt o u x).getD w 0 + x) = has1 o (((u : Int), (w : Int)), x) := rfl
    have hadv : has1 o (((u : Int), (w : Int)), x) = addAt (addAt o u x) w x := rfl
    have b1 : ((0 : Int) ≤ (u : Int)) = True := eq_true (by omega)
    have b2 : ((u : Int) < 7) = True := eq_true (by omega)
    have b3 : ((0 : Int) ≤ (w : Int)) = True := eq_true (by omega)
    have b4 : ((w : Int) < 7) = True := eq_true (by omega)
    have b5 : (u + 1 ≤ 7) = True := eq_true (by omega)
    have b6 : (w + 1 ≤ 7) = True := eq_true (by omega)
    rw [h2] at hl1
    rw [hl1] at hl2
    rw [← hadv] at hs2 hl2
    generalize has1 o (((u : Int), (w : Int)), x) = o2 at *
    simp only [go_sem, reduceIte, Nat.reduceEqDiff, Nat.reduceAdd, Nat.reduceSub, Nat.reduceLeDiff, Nat.reduceLT, reduceCtorEq, Int.reduceLT, Int.reduceLE, Int.reduceEq, Int.reduceBEq, Int.reduceSub, Int.reduceAdd, Int.reduceMul, Int.reduceNeg, Int.reduceToNat, Nat.reduceMul, Nat.reduceBEq, index_rsl_if, setm, make_ints, condK_dec, wantK_dec, not_dec, and_dec, or_dec, seqK_ite, seqK_none, blockK_ite, blockK_none, opsK_ite, opsK_none, stepK_ite, stepK_none, bodyK_ite, bodyK_none, resK_ite, resK_none, leaveK_ite, leaveK_none, only_ite, only_none, bind_ite, gives_some, gives_none, gives_ite, then_normal, then_ret, then_exit, then_none, then_ite, Option.bind_none, Bool.not_eq_true', decide_eq_false_iff_not, Bool.and_eq_true, Bool.or_eq_true, Option.some.injEq, Int.not_lt, Int.not_le, lp62_0, hx, hy, hlt, hs, iu, iw, wv, qv, b1, b2, b3, b4, b5, b6, g1, g2, w1, w2, hset1, hset2, h2, hl1, hl2, List.length_map]
    refine ⟨(i + 1, o2), by simp only [go_sem, reduceIte, Nat.reduceEqDiff, Nat.reduceAdd, Nat.reduceSub, Nat.reduceLeDiff, Nat.reduceLT, reduceCtorEq, Int.reduceLT, Int.reduceLE, Int.reduceEq, Int.reduceBEq, Int.reduceSub, Int.reduceAdd, Int.reduceMul, Int.reduceNeg, Int.reduceToNat, Nat.reduceMul, Nat.reduceBEq, ren1_locm, loc_tips, locT_eq] <;> rfl, ?_, ?_, fun x en s hq => ?_⟩
    · dsimp only; exact ⟨by omega, hl2, fun y hy => by have := hs2 y hy; omega⟩
    · simp only; omega
    · exact hq
  · have hd : (ps.zip s0).drop i = [] := List.drop_eq_nil_of_le (by rw [List.length_zip]; omega)
    have hlt : ((i : Int) < (ps.length : Int)) = False := eq_false (by omega)
    simp only [go_sem, reduceIte, Nat.reduceEqDiff, Nat.reduceAdd, Nat.reduceSub, Nat.reduceLeDiff, Nat.reduceLT, reduceCtorEq, Int.reduceLT, Int.reduceLE, Int.reduceEq, Int.reduceBEq, Int.reduceSub, Int.reduceAdd, Int.reduceMul, Int.reduceNeg, Int.reduceToNat, Nat.reduceMul, Nat.reduceBEq, index_rsl_if, setm, make_ints, condK_dec, wantK_dec, not_dec, and_dec, or_dec, seqK_ite, seqK_none, blockK_ite, blockK_none, opsK_ite, opsK_none, stepK_ite, stepK_none, bodyK_ite, bodyK_none, resK_ite, resK_none, leaveK_ite, leaveK_none, only_ite, only_none, bind_ite, gives_some, gives_none, gives_ite, then_normal, then_ret, then_exit, then_none, then_ite, Option.bind_none, Bool.not_eq_true', decide_eq_false_iff_not, Bool.and_eq_true, Bool.or_eq_true, Option.some.injEq, Int.not_lt, Int.not_le, lp62_0, hlt]
    rw [hd]; exact ⟨rfl, h2⟩

theorem totalV_ok {l : List Int} {n : Nat} (h : l.length = n) (hb : ∀ x ∈ l, 0 ≤ x ∧ x ≤ 2) : totalV l n = sumL l := by
  unfold totalV
  have ha : l.all in02 = true := List.all_eq_true.2 fun x hx => decide_eq_true (hb x hx)
  rw [if_pos (by omega), if_pos ha]
theorem sum_nn : ∀ l : List Int, (∀ x ∈ l, 0 ≤ x) → 0 ≤ sumL l
  | [], _ => by simp [sumL]
  | a :: r, h => by
    have h1 := h a (by simp)
    have h2 := sum_nn r (fun x hx => h x (by simp [hx]))
    simp only [sumL]; omega
theorem c62 (nl n1 n2 : Bool) (n : Nat) (hn : n ≤ 7) (ps : List (Int × Int)) (hlen : ps.length ≤ 10) (hps : ∀ p ∈ ps, 0 ≤ p.1 ∧ p.1 < p.2 ∧ p.2 < (n : Int)) (v : List Int) (hvl : v.length = n) (hvb : ∀ x ∈ v, 0 ≤ x ∧ x ≤ 2) (hh : halfOk ps v = true) (s0 : List Int) (hsl : s0.length = ps.length) (hb : ∀ x ∈ s0, 0 ≤ x ∧ x ≤ 2) (hov : overB ps s0 = false) (st : St) :
    run L 62 [bkAV nl n ps, sl 1 n1 (v.map I), sl 1 n2 (s0.map I)] st = some (B true, st) := by
  rw [run_pure (fn := ir62) rfl rfl]
  have h45v := fun st => c45 n1 v (by omega) n st
  have h45s := fun st => c45 n2 s0 (by omega) ps.length st
  rw [totalV_ok hvl hvb] at h45v
  rw [totalV_ok hsl hb] at h45s
  have qv : (sumL v < 0) = False := eq_false (by have := sum_nn v (fun x hx => (hvb x hx).1); omega)
  have qs : (sumL s0 < 0) = False := eq_false (by have := sum_nn s0 (fun x hx => (hb x hx).1); omega)
  simp only [ir62, go_sem, reduceIte, Nat.reduceEqDiff, Nat.reduceAdd, Nat.reduceSub, Nat.reduceLeDiff, Nat.reduceLT, reduceCtorEq, Int.reduceLT, Int.reduceLE, Int.reduceEq, Int.reduceBEq, Int.reduceSub, Int.reduceAdd, Int.reduceMul, Int.reduceNeg, Int.reduceToNat, Nat.reduceMul, Nat.reduceBEq, h45v, h45s, qv, qs, List.length_map]
  generalize hg : lim (headed pure (run L) true _ lp62_0 _ _) _ _ = o
  obtain ⟨x, en, s, rfl, h2⟩ : ∃ x en s, o = some (x, en, s) ∧ _ := by rw [← hg]; exact loop62 nl n1 n2 n hn ps hlen hps v hvl hvb hh s0 hsl hb 0 (List.replicate 7 0) ⟨by omega, by simp, by simp⟩ _ _ (by simp only [go_sem, reduceIte, Nat.reduceEqDiff, Nat.reduceAdd, Nat.reduceSub, Nat.reduceLeDiff, Nat.reduceLT, reduceCtorEq, Int.reduceLT, Int.reduceLE, Int.reduceEq, Int.reduceBEq, Int.reduceSub, Int.reduceAdd, Int.reduceMul, Int.reduceNeg, Int.reduceToNat, Nat.reduceMul, Nat.reduceBEq, List.map_replicate, Int.natCast_zero] <;> rfl)
  clear hg
  obtain ⟨rfl, g7, rfl, g5⟩ := h2
  rw [List.drop_zero] at g5 ⊢
  have e : (ps.zip s0).foldl has1 (List.replicate 7 0) = hasL ps s0 := rfl
  rw [e] at g5 ⊢
  unfold overB at hov
  generalize hasL ps s0 = hs at *
  obtain ⟨k, k1, k2⟩ := c48 (.rsl 1 0 7 7 1 false) ⟨[bkCells nl n ps, hs.map I], []⟩ hs (by omega) (by omega) (by rw [g5]; rfl) (fun i hi => ⟨.ptr 1 i, by
      rw [index_rsl_if, if_pos (by omega)]; simp, by
      simp only [load_ptr, List.getElem?_cons_succ, List.getElem?_cons_zero, Option.bind_some, readCells]
      simp [List.getElem?_eq_getElem hi]⟩)
  have k3 := k2 2
  have hsl : sliceaAV 7 1 false (.ptr 1 0) none none none = some (.rsl 1 0 7 7 1 false) := rfl
  have q : (k ≤ 2) = True := eq_true (by
    apply Classical.byContradiction
    intro h
    obtain ⟨x, hx, hx2⟩ := k3.1 (by omega)
    rw [List.any_eq_false] at hov
    exact hov x hx (decide_eq_true hx2))
  simp only [go_sem, reduceIte, Nat.reduceEqDiff, Nat.reduceAdd, Nat.reduceSub, Nat.reduceLeDiff, Nat.reduceLT, reduceCtorEq, Int.reduceLT, Int.reduceLE, Int.reduceEq, Int.reduceBEq, Int.reduceSub, Int.reduceAdd, Int.reduceMul, Int.reduceNeg, Int.reduceToNat, Nat.reduceMul, Nat.reduceBEq, g7, hsl, k1, q]

/-! ### a shortest list that does as halves say -/
def keeps (w r l : List Int) : Bool := w.all (fun a => decide (a ∈ l)) && r.all fun a => !decide (a ∈ l)
theorem loop64_0 (l : List Int) (hl : l.length < 1000000) (w : List Int) (hw : w.length < 1000000) (S0 : List (List AV)) (lo hi : Nat) (i : Nat) (hok : i ≤ w.length) (env : Env) (st : St)
    (hg : gcAV false lo hi (canon env [0, 2, 9, 10, 11]) st = ([(0, tAV l), (2, .ptr 3 0), (9, sl 1 true (w.map I)), (10, I w.length), (11, I i)], ⟨S0, []⟩)) :
    ∃ x_1 en s, lim (headed pure (run L) false [0, 2, 9, 10, 11] lp64_0 lo hi) env st = some (x_1, en, s) ∧ (if (w.drop i).all (fun a => decide (a ∈ l)) = true then x_1 = .exit 0 ∧ en.get 0 = tAV l ∧ en.get 2 = .ptr 3 0 ∧ s = ⟨S0, []⟩ else x_1 = .ret ∧ en.get 4 = B false ∧ s = ⟨S0, []⟩) := by
  refine loop_wp (α := Nat) (fun i => w.length - i) (fun i => i ≤ w.length) (fun i => ([(0, tAV l), (2, .ptr 3 0), (9, sl 1 true (w.map I)), (10, I w.length), (11, I i)], ⟨S0, []⟩)) (fun i x_1 en s => if (w.drop i).all (fun a => decide (a ∈ l)) = true then x_1 = .exit 0 ∧ en.get 0 = tAV l ∧ en.get 2 = .ptr 3 0 ∧ s = ⟨S0, []⟩ else x_1 = .ret ∧ en.get 4 = B false ∧ s = ⟨S0, []⟩) (fun i hok => ?_) i hok env st hg
  by_cases h : i < w.length
  · have hx := index_ints true w i h
    have hs := succ64 i (by omega)
    have hd : w.drop i = w[i] :: w.drop (i + 1) := List.drop_eq_getElem_cons h
    have hlt : ((i : Int) < (w.length : Int)) = True := eq_true (by omega)
    rw [hd, List.all_cons]
    generalize w[i] = a at *
    have h49 : ∀ st, run L 49 [tAV l, I a] st = some (B (decide (a ∈ l)), st) := fun st => c49 true l hl a st
    by_cases p : a ∈ l
    · have e : decide (a ∈ l) = true := decide_eq_true p
      rw [e] at h49
      rw [e, Bool.true_and]
      simp only [go_sem, reduceIte, Nat.reduceEqDiff, Nat.reduceAdd, Nat.reduceSub, Nat.reduceLeDiff, Nat.reduceLT, reduceCtorEq, Int.reduceLT, Int.reduceLE, Int.reduceEq, Int.reduceBEq, Int.reduceSub, Int.reduceAdd, Int.reduceMul, Int.reduceNeg, Int.reduceToNat, Nat.reduceMul, Nat.reduceBEq, index_rsl_if, setm, make_ints, condK_dec, wantK_dec, not_dec, and_dec, or_dec, seqK_ite, seqK_none, blockK_ite, blockK_none, opsK_ite, opsK_none, stepK_ite, stepK_none, bodyK_ite, bodyK_none, resK_ite, resK_none, leaveK_ite, leaveK_none, only_ite, only_none, bind_ite, gives_some, gives_none, gives_ite, then_normal, then_ret, then_exit, then_none, then_ite, Option.bind_none, Bool.not_eq_true', decide_eq_false_iff_not, Bool.and_eq_true, Bool.or_eq_true, Option.some.injEq, Int.not_lt, Int.not_le, lp64_0, hx, hlt, hs, h49]
      refine ⟨i + 1, by simp only [go_sem, reduceIte, Nat.reduceEqDiff, Nat.reduceAdd, Nat.reduceSub, Nat.reduceLeDiff, Nat.reduceLT, reduceCtorEq, Int.reduceLT, Int.reduceLE, Int.reduceEq, Int.reduceBEq, Int.reduceSub, Int.reduceAdd, Int.reduceMul, Int.reduceNeg, Int.reduceToNat, Nat.reduceMul, Nat.reduceBEq, ren1_locm, loc_tips, locT_eq] <;> rfl, ?_, ?_, fun x en s hq => ?_⟩
      · omega
      · omega
      · exact hq
    · have e : decide (a ∈ l) = false := decide_eq_false p
      rw [e] at h49
      rw [e, Bool.false_and]
      simp only [Bool.false_eq_true, if_false]
      simp only [go_sem, reduceIte, Nat.reduceEqDiff, Nat.reduceAdd, Nat.reduceSub, Nat.reduceLeDiff, Nat.reduceLT, reduceCtorEq, Int.reduceLT, Int.reduceLE, Int.reduceEq, Int.reduceBEq, Int.reduceSub, Int.reduceAdd, Int.reduceMul, Int.reduceNeg, Int.reduceToNat, Nat.reduceMul, Nat.reduceBEq, index_rsl_if, setm, make_ints, condK_dec, wantK_dec, not_dec, and_dec, or_dec, seqK_ite, seqK_none, blockK_ite, blockK_none, opsK_ite, opsK_none, stepK_ite, stepK_none, bodyK_ite, bodyK_none, resK_ite, resK_none, leaveK_ite, leaveK_none, only_ite, only_none, bind_ite, gives_some, gives_none, gives_ite, then_normal, then_ret, then_exit, then_none, then_ite, Option.bind_none, Bool.not_eq_true', decide_eq_false_iff_not, Bool.and_eq_true, Bool.or_eq_true, Option.some.injEq, Int.not_lt, Int.not_le, lp64_0, hx, hlt, h49]
  · obtain rfl : i = w.length := by omega
    have hd : w.drop w.length = [] := List.drop_eq_nil_of_le (by omega)
    have hlt : ((w.length : Int) < (w.length : Int)) = False := eq_false (by omega)
    rw [hd]
    simp only [List.all_nil, if_true]
    simp only [go_sem, reduceIte, Nat.reduceEqDiff, Nat.reduceAdd, Nat.reduceSub, Nat.reduceLeDiff, Nat.reduceLT, reduceCtorEq, Int.reduceLT, Int.reduceLE, Int.reduceEq, Int.reduceBEq, Int.reduceSub, Int.reduceAdd, Int.reduceMul, Int.reduceNeg, Int.reduceToNat, Nat.reduceMul, Nat.reduceBEq, index_rsl_if, setm, make_ints, condK_dec, wantK_dec, not_dec, and_dec, or_dec, seqK_ite, seqK_none, blockK_ite, blockK_none, opsK_ite, opsK_none, stepK_ite, stepK_none, bodyK_ite, bodyK_none, resK_ite, resK_none, leaveK_ite, leaveK_none, only_ite, only_none, bind_ite, gives_some, gives_none, gives_ite, then_normal, then_ret, then_exit, then_none, then_ite, Option.bind_none, Bool.not_eq_true', decide_eq_false_iff_not, Bool.and_eq_true, Bool.or_eq_true, Option.some.injEq, Int.not_lt, Int.not_le, lp64_0, hlt]

theorem loop64_1 (l : List Int) (hl : l.length < 1000000) (w : List Int) (hw : w.length < 1000000) (S0 : List (List AV)) (lo hi : Nat) (i : Nat) (hok : i ≤ w.length) (env : Env) (st : St)
    (hg : gcAV false lo hi (canon env [0, 20, 21, 22]) st = ([(0, tAV l), (20, sl 1 true (w.map I)), (21, I w.length), (22, I i)], ⟨S0, []⟩)) :
    ∃ x_1 en s, lim (headed pure (run L) false [0, 20, 21, 22] lp64_1 lo hi) env st = some (x_1, en, s) ∧ (if (w.drop i).all (fun a => !decide (a ∈ l)) = true then x_1 = .exit 2 ∧ s = ⟨S0, []⟩ else x_1 = .ret ∧ en.get 4 = B false ∧ s = ⟨S0, []⟩) := by
  refine loop_wp (α := Nat) (fun i => w.length - i) (fun i => i ≤ w.length) (fun i => ([(0, tAV l), (20, sl 1 true (w.map I)), (21, I w.length), (22, I i)], ⟨S0, []⟩)) (fun i x_1 en s => if (w.drop i).all (fun a => !decide (a ∈ l)) = true then x_1 = .exit 2 ∧ s = ⟨S0, []⟩ else x_1 = .ret ∧ en.get 4 = B false ∧ s = ⟨S0, []⟩) (fun i hok => ?_) i hok env st hg
  by_cases h : i < w.length
  · have hx := index_ints true w i h
    have hs := succ64 i (by omega)
    have hd : w.drop i = w[i] :: w.drop (i + 1) := List.drop_eq_getElem_cons h
    have hlt : ((i : Int) < (w.length : Int)) = True := eq_true (by omega)
    rw [hd, List.all_cons]
    generalize w[i] = a at *
    have h49 : ∀ st, run L 49 [tAV l, I a] st = some (B (decide (a ∈ l)), st) := fun st => c49 true l hl a st
    by_cases p : a ∈ l
    · have e : decide (a ∈ l) = true := decide_eq_true p
      rw [e] at h49
      rw [e, Bool.not_true, Bool.false_and]
      simp only [Bool.false_eq_true, if_false]
      simp only [go_sem, reduceIte, Nat.reduceEqDiff, Nat.reduceAdd, Nat.reduceSub, Nat.reduceLeDiff, Nat.reduceLT, reduceCtorEq, Int.reduceLT, Int.reduceLE, Int.reduceEq, Int.reduceBEq, Int.reduceSub, Int.reduceAdd, Int.reduceMul, Int.reduceNeg, Int.reduceToNat, Nat.reduceMul, Nat.reduceBEq, index_rsl_if, setm, make_ints, condK_dec, wantK_dec, not_dec, and_dec, or_dec, seqK_ite, seqK_none, blockK_ite, blockK_none, opsK_ite, opsK_none, stepK_ite, stepK_none, bodyK_ite, bodyK_none, resK_ite, resK_none, leaveK_ite, leaveK_none, only_ite, only_none, bind_ite, gives_some, gives_none, gives_ite, then_normal, then_ret, then_exit, then_none, then_ite, Option.bind_none, Bool.not_eq_true', decide_eq_false_iff_not, Bool.and_eq_true, Bool.or_eq_true, Option.some.injEq, Int.not_lt, Int.not_le, lp64_1, hx, hlt, h49]
    · have e : decide (a ∈ l) = false := decide_eq_false p
      rw [e] at h49
      rw [e, Bool.not_false, Bool.true_and]
      simp only [go_sem, reduceIte, Nat.reduceEqDiff, Nat.reduceAdd, Nat.reduceSub, Nat.reduceLeDiff, Nat.reduceLT, reduceCtorEq, Int.reduceLT, Int.reduceLE, Int.reduceEq, Int.reduceBEq, Int.reduceSub, Int.reduceAdd, Int.reduceMul, Int.reduceNeg, Int.reduceToNat, Nat.reduceMul, Nat.reduceBEq, index_rsl_if, setm, make_ints, condK_dec, wantK_dec, not_dec, and_dec, or_dec, seqK_ite, seqK_none, blockK_ite, blockK_none, opsK_ite, opsK_none, stepK_ite, stepK_none, bodyK_ite, bodyK_none, resK_ite, resK_none, leaveK_ite, leaveK_none, only_ite, only_none, bind_ite, gives_some, gives_none, gives_ite, then_normal, then_ret, then_exit, then_none, then_ite, Option.bind_none, Bool.not_eq_true', decide_eq_false_iff_not, Bool.and_eq_true, Bool.or_eq_true, Option.some.injEq, Int.not_lt, Int.not_le, lp64_1, hx, hlt, hs, h49]
      refine ⟨i + 1, by simp only [go_sem, reduceIte, Nat.reduceEqDiff, Nat.reduceAdd, Nat.reduceSub, Nat.reduceLeDiff, Nat.reduceLT, reduceCtorEq, Int.reduceLT, Int.reduceLE, Int.reduceEq, Int.reduceBEq, Int.reduceSub, Int.reduceAdd, Int.reduceMul, Int.reduceNeg, Int.reduceToNat, Nat.reduceMul, Nat.reduceBEq, ren1_locm, loc_tips, locT_eq] <;> rfl, ?_, ?_, fun x en s hq => ?_⟩
      · omega
      · omega
      · exact hq
  · obtain rfl : i = w.length := by omega
    have hd : w.drop w.length = [] := List.drop_eq_nil_of_le (by omega)
    have hlt : ((w.length : Int) < (w.length : Int)) = False := eq_false (by omega)
    rw [hd]
    simp only [List.all_nil, if_true]
    simp only [go_sem, reduceIte, Nat.reduceEqDiff, Nat.reduceAdd, Nat.reduceSub, Nat.reduceLeDiff, Nat.reduceLT, reduceCtorEq, Int.reduceLT, Int.reduceLE, Int.reduceEq, Int.reduceBEq, Int.reduceSub, Int.reduceAdd, Int.reduceMul, Int.reduceNeg, Int.reduceToNat, Nat.reduceMul, Nat.reduceBEq, index_rsl_if, setm, make_ints, condK_dec, wantK_dec, not_dec, and_dec, or_dec, seqK_ite, seqK_none, blockK_ite, blockK_none, opsK_ite, opsK_none, stepK_ite, stepK_none, bodyK_ite, bodyK_none, resK_ite, resK_none, leaveK_ite, leaveK_none, only_ite, only_none, bind_ite, gives_some, gives_none, gives_ite, then_normal, then_ret, then_exit, then_none, then_ite, Option.bind_none, Bool.not_eq_true', decide_eq_false_iff_not, Bool.and_eq_true, Bool.or_eq_true, Option.some.injEq, Int.not_lt, Int.not_le, lp64_1, hlt]

theorem c64 (l : List Int) (hl : l.length < 1000000) (w r : List Int) (hw : w.length < 1000000) (hr : r.length < 1000000) (a b : List AV) :
    run L 64 [tAV l, .ptr 2 0, .ptr 3 0] ⟨[a, b, [sl 1 true (w.map I)], [sl 1 true (r.map I)]], []⟩ = some (B (keeps w r l), ⟨[a, b, [sl 1 true (w.map I)], [sl 1 true (r.map I)]], []⟩) := by
  rw [run_shared (fn := ir64) rfl rfl]
  unfold keeps
  simp only [ir64, go_sem, reduceIte, Nat.reduceEqDiff, Nat.reduceAdd, Nat.reduceSub, Nat.reduceLeDiff, Nat.reduceLT, reduceCtorEq, Int.reduceLT, Int.reduceLE, Int.reduceEq, Int.reduceBEq, Int.reduceSub, Int.reduceAdd, Int.reduceMul, Int.reduceNeg, Int.reduceToNat, Nat.reduceMul, Nat.reduceBEq, List.length_map]
  generalize hg : lim (headed pure (run L) false _ lp64_0 _ _) _ _ = o
  obtain ⟨x, en, s, rfl, h2⟩ : ∃ x en s, o = some (x, en, s) ∧ _ := by rw [← hg]; exact loop64_0 l hl w hw [a, b, [sl 1 true (w.map I)], [sl 1 true (r.map I)]] _ _ 0 (Nat.zero_le _) _ _ (by simp only [go_sem, reduceIte, Nat.reduceEqDiff, Nat.reduceAdd, Nat.reduceSub, Nat.reduceLeDiff, Nat.reduceLT, reduceCtorEq, Int.reduceLT, Int.reduceLE, Int.reduceEq, Int.reduceBEq, Int.reduceSub, Int.reduceAdd, Int.reduceMul, Int.reduceNeg, Int.reduceToNat, Nat.reduceMul, Nat.reduceBEq, Int.natCast_zero] <;> rfl)
  clear hg
  rw [List.drop_zero] at h2
  cases p : w.all fun a => decide (a ∈ l)
  · rw [p] at h2
    simp only [Bool.false_eq_true, if_false] at h2
    obtain ⟨rfl, e4, rfl⟩ := h2
    simp only [go_sem, reduceIte, Nat.reduceEqDiff, Nat.reduceAdd, Nat.reduceSub, Nat.reduceLeDiff, Nat.reduceLT, reduceCtorEq, Int.reduceLT, Int.reduceLE, Int.reduceEq, Int.reduceBEq, Int.reduceSub, Int.reduceAdd, Int.reduceMul, Int.reduceNeg, Int.reduceToNat, Nat.reduceMul, Nat.reduceBEq, e4, Bool.false_and]
  · rw [p] at h2
    simp only [if_true] at h2
    obtain ⟨rfl, e0, e2, rfl⟩ := h2
    simp only [go_sem, reduceIte, Nat.reduceEqDiff, Nat.reduceAdd, Nat.reduceSub, Nat.reduceLeDiff, Nat.reduceLT, reduceCtorEq, Int.reduceLT, Int.reduceLE, Int.reduceEq, Int.reduceBEq, Int.reduceSub, Int.reduceAdd, Int.reduceMul, Int.reduceNeg, Int.reduceToNat, Nat.reduceMul, Nat.reduceBEq, e0, e2, List.length_map]
    generalize hg : lim (headed pure (run L) false _ lp64_1 _ _) _ _ = o
    obtain ⟨x, en, s, rfl, h2⟩ : ∃ x en s, o = some (x, en, s) ∧ _ := by rw [← hg]; exact loop64_1 l hl r hr [a, b, [sl 1 true (w.map I)], [sl 1 true (r.map I)]] _ _ 0 (Nat.zero_le _) _ _ (by simp only [go_sem, reduceIte, Nat.reduceEqDiff, Nat.reduceAdd, Nat.reduceSub, Nat.reduceLeDiff, Nat.reduceLT, reduceCtorEq, Int.reduceLT, Int.reduceLE, Int.reduceEq, Int.reduceBEq, Int.reduceSub, Int.reduceAdd, Int.reduceMul, Int.reduceNeg, Int.reduceToNat, Nat.reduceMul, Nat.reduceBEq, e0, e2, Int.natCast_zero] <;> rfl)
    clear hg
    rw [List.drop_zero] at h2
    cases q : r.all fun a => !decide (a ∈ l)
    · rw [q] at h2
      simp only [Bool.false_eq_true, if_false] at h2
      obtain ⟨rfl, e4, rfl⟩ := h2
      simp only [go_sem, reduceIte, Nat.reduceEqDiff, Nat.reduceAdd, Nat.reduceSub, Nat.reduceLeDiff, Nat.reduceLT, reduceCtorEq, Int.reduceLT, Int.reduceLE, Int.reduceEq, Int.reduceBEq, Int.reduceSub, Int.reduceAdd, Int.reduceMul, Int.reduceNeg, Int.reduceToNat, Nat.reduceMul, Nat.reduceBEq, e4, Bool.and_false]
    · rw [q] at h2
      simp only [if_true] at h2
      obtain ⟨rfl, rfl⟩ := h2
      simp only [go_sem, reduceIte, Nat.reduceEqDiff, Nat.reduceAdd, Nat.reduceSub, Nat.reduceLeDiff, Nat.reduceLT, reduceCtorEq, Int.reduceLT, Int.reduceLE, Int.reduceEq, Int.reduceBEq, Int.reduceSub, Int.reduceAdd, Int.reduceMul, Int.reduceNeg, Int.reduceToNat, Nat.reduceMul, Nat.reduceBEq, Bool.and_self]
abbrev keepF64 : AV := .fn (.func 64) [] [.ptr 2 0, .ptr 3 0]
theorem loop97 (X : List (List Int)) (hXl : X.length < 1000000) (hX : ∀ l ∈ X, l.length < 1000000) (w r : List Int) (hw : w.length < 1000000) (hr : r.length < 1000000) (a b : List AV) (lo hi : Nat) (i : Nat) (hok : i ≤ X.length) (env : Env) (st : St)
    (hg : gcAV false lo hi (canon env [0, 1, 7, 8]) st = ([(0, sl 1 true (X.map tAV)), (1, keepF64), (7, I X.length), (8, I i)], ⟨[a, b, [sl 1 true (w.map I)], [sl 1 true (r.map I)]], []⟩)) :
    ∃ x_1 en s, lim (headed pure (run L) false [0, 1, 7, 8] lp97_0 lo hi) env st = some (x_1, en, s) ∧ (s = ⟨[a, b, [sl 1 true (w.map I)], [sl 1 true (r.map I)]], []⟩ ∧ if (X.drop i).any (keeps w r) = true then x_1 = .ret ∧ ∃ k : Int, 0 ≤ k ∧ en.get 4 = I k else x_1 = .exit 0) := by
  refine loop_wp (α := Nat) (fun i => X.length - i) (fun i => i ≤ X.length) (fun i => ([(0, sl 1 true (X.map tAV)), (1, keepF64), (7, I X.length), (8, I i)], ⟨[a, b, [sl 1 true (w.map I)], [sl 1 true (r.map I)]], []⟩)) (fun i x_1 en s => s = ⟨[a, b, [sl 1 true (w.map I)], [sl 1 true (r.map I)]], []⟩ ∧ if (X.drop i).any (keeps w r) = true then x_1 = .ret ∧ ∃ k : Int, 0 ≤ k ∧ en.get 4 = I k else x_1 = .exit 0) (fun i hok => ?_) i hok env st hg
  by_cases h : i < X.length
  · have hx : indexSAV 1 (sl 1 true (X.map tAV)) (.v (.int .i64 (i : Int))) = some (.eptr (tAV X[i]) 0) := by
      rw [index_sl _ _ _ _ _ (by omega) (by simpa using h)]; simp
    have hs := succ64 i (by omega)
    have hd : X.drop i = X[i] :: X.drop (i + 1) := List.drop_eq_getElem_cons h
    have hlt : ((i : Int) < (X.length : Int)) = True := eq_true (by omega)
    have hxl := hX X[i] (List.getElem_mem h)
    rw [hd, List.any_cons]
    generalize X[i] = l at *
    have h64 := c64 l hxl w r hw hr a b
    cases p : keeps w r l
    · rw [p] at h64
      rw [Bool.false_or]
      simp only [go_sem, reduceIte, Nat.reduceEqDiff, Nat.reduceAdd, Nat.reduceSub, Nat.reduceLeDiff, Nat.reduceLT, reduceCtorEq, Int.reduceLT, Int.reduceLE, Int.reduceEq, Int.reduceBEq, Int.reduceSub, Int.reduceAdd, Int.reduceMul, Int.reduceNeg, Int.reduceToNat, Nat.reduceMul, Nat.reduceBEq, index_rsl_if, setm, make_ints, condK_dec, wantK_dec, not_dec, and_dec, or_dec, seqK_ite, seqK_none, blockK_ite, blockK_none, opsK_ite, opsK_none, stepK_ite, stepK_none, bodyK_ite, bodyK_none, resK_ite, resK_none, leaveK_ite, leaveK_none, only_ite, only_none, bind_ite, gives_some, gives_none, gives_ite, then_normal, then_ret, then_exit, then_none, then_ite, Option.bind_none, Bool.not_eq_true', decide_eq_false_iff_not, Bool.and_eq_true, Bool.or_eq_true, Option.some.injEq, Int.not_lt, Int.not_le, lp97_0, hx, hlt, hs, h64, show pure 64 = false from rfl]
      refine ⟨i + 1, by simp only [go_sem, reduceIte, Nat.reduceEqDiff, Nat.reduceAdd, Nat.reduceSub, Nat.reduceLeDiff, Nat.reduceLT, reduceCtorEq, Int.reduceLT, Int.reduceLE, Int.reduceEq, Int.reduceBEq, Int.reduceSub, Int.reduceAdd, Int.reduceMul, Int.reduceNeg, Int.reduceToNat, Nat.reduceMul, Nat.reduceBEq, ren1_locm, loc_tips, locT_eq] <;> rfl, ?_, ?_, fun x en s hq => ?_⟩
      · omega
      · omega
      · exact hq
    · rw [p] at h64
      rw [Bool.true_or]
      simp only [if_true]
      simp only [go_sem, reduceIte, Nat.reduceEqDiff, Nat.reduceAdd, Nat.reduceSub, Nat.reduceLeDiff, Nat.reduceLT, reduceCtorEq, Int.reduceLT, Int.reduceLE, Int.reduceEq, Int.reduceBEq, Int.reduceSub, Int.reduceAdd, Int.reduceMul, Int.reduceNeg, Int.reduceToNat, Nat.reduceMul, Nat.reduceBEq, index_rsl_if, setm, make_ints, condK_dec, wantK_dec, not_dec, and_dec, or_dec, seqK_ite, seqK_none, blockK_ite, blockK_none, opsK_ite, opsK_none, stepK_ite, stepK_none, bodyK_ite, bodyK_none, resK_ite, resK_none, leaveK_ite, leaveK_none, only_ite, only_none, bind_ite, gives_some, gives_none, gives_ite, then_normal, then_ret, then_exit, then_none, then_ite, Option.bind_none, Bool.not_eq_true', decide_eq_false_iff_not, Bool.and_eq_true, Bool.or_eq_true, Option.some.injEq, Int.not_lt, Int.not_le, lp97_0, hx, hlt, h64, show pure 64 = false from rfl]
      exact ⟨(i : Int), by omega, rfl⟩
  · obtain rfl : i = X.length := by omega
    have hd : X.drop X.length = [] := List.drop_eq_nil_of_le (by omega)
    have hlt : ((X.length : Int) < (X.length : Int)) = False := eq_false (by omega)
    rw [hd]
    simp only [go_sem, reduceIte, Nat.reduceEqDiff, Nat.reduceAdd, Nat.reduceSub, Nat.reduceLeDiff, Nat.reduceLT, reduceCtorEq, Int.reduceLT, Int.reduceLE, Int.reduceEq, Int.reduceBEq, Int.reduceSub, Int.reduceAdd, Int.reduceMul, Int.reduceNeg, Int.reduceToNat, Nat.reduceMul, Nat.reduceBEq, index_rsl_if, setm, make_ints, condK_dec, wantK_dec, not_dec, and_dec, or_dec, seqK_ite, seqK_none, blockK_ite, blockK_none, opsK_ite, opsK_none, stepK_ite, stepK_none, bodyK_ite, bodyK_none, resK_ite, resK_none, leaveK_ite, leaveK_none, only_ite, only_none, bind_ite, gives_some, gives_none, gives_ite, then_normal, then_ret, then_exit, then_none, then_ite, Option.bind_none, Bool.not_eq_true', decide_eq_false_iff_not, Bool.and_eq_true, Bool.or_eq_true, Option.some.injEq, Int.not_lt, Int.not_le, lp97_0, hlt]
    simp

theorem c97 (X : List (List Int)) (hXl : X.length < 1000000) (hX : ∀ l ∈ X, l.length < 1000000) (w r : List Int) (hw : w.length < 1000000) (hr : r.length < 1000000) (a b : List AV) :
    ∃ k : Int, run L 97 [sl 1 true (X.map tAV), keepF64] ⟨[a, b, [sl 1 true (w.map I)], [sl 1 true (r.map I)]], []⟩ = some (I k, ⟨[a, b, [sl 1 true (w.map I)], [sl 1 true (r.map I)]], []⟩) ∧ (0 ≤ k ↔ X.any (keeps w r) = true) := by
  rw [run_shared (fn := ir97) rfl rfl]
  simp only [ir97, go_sem, reduceIte, Nat.reduceEqDiff, Nat.reduceAdd, Nat.reduceSub, Nat.reduceLeDiff, Nat.reduceLT, reduceCtorEq, Int.reduceLT, Int.reduceLE, Int.reduceEq, Int.reduceBEq, Int.reduceSub, Int.reduceAdd, Int.reduceMul, Int.reduceNeg, Int.reduceToNat, Nat.reduceMul, Nat.reduceBEq, List.length_map]
  generalize hg : lim (headed pure (run L) false _ lp97_0 _ _) _ _ = o
  obtain ⟨x, en, s, rfl, h2⟩ : ∃ x en s, o = some (x, en, s) ∧ _ := by rw [← hg]; exact loop97 X hXl hX w r hw hr a b _ _ 0 (Nat.zero_le _) _ _ (by simp only [go_sem, reduceIte, Nat.reduceEqDiff, Nat.reduceAdd, Nat.reduceSub, Nat.reduceLeDiff, Nat.reduceLT, reduceCtorEq, Int.reduceLT, Int.reduceLE, Int.reduceEq, Int.reduceBEq, Int.reduceSub, Int.reduceAdd, Int.reduceMul, Int.reduceNeg, Int.reduceToNat, Nat.reduceMul, Nat.reduceBEq, Int.natCast_zero] <;> rfl)
  clear hg
  rw [List.drop_zero] at h2
  obtain ⟨rfl, h2⟩ := h2
  by_cases h : X.any (keeps w r) = true
  · rw [if_pos h] at h2
    obtain ⟨rfl, k, hk, h3⟩ := h2
    exact ⟨k, by simp only [go_sem, reduceIte, Nat.reduceEqDiff, Nat.reduceAdd, Nat.reduceSub, Nat.reduceLeDiff, Nat.reduceLT, reduceCtorEq, Int.reduceLT, Int.reduceLE, Int.reduceEq, Int.reduceBEq, Int.reduceSub, Int.reduceAdd, Int.reduceMul, Int.reduceNeg, Int.reduceToNat, Nat.reduceMul, Nat.reduceBEq, h3], by simp [h, hk]⟩
  · rw [if_neg h] at h2
    subst h2
    exact ⟨-1, by simp only [go_sem, reduceIte, Nat.reduceEqDiff, Nat.reduceAdd, Nat.reduceSub, Nat.reduceLeDiff, Nat.reduceLT, reduceCtorEq, Int.reduceLT, Int.reduceLE, Int.reduceEq, Int.reduceBEq, Int.reduceSub, Int.reduceAdd, Int.reduceMul, Int.reduceNeg, Int.reduceToNat, Nat.reduceMul, Nat.reduceBEq], by simp [h]⟩
theorem c63 (X : List (List Int)) (hXl : X.length < 1000000) (hX : ∀ l ∈ X, l.length < 1000000) (w r : List Int) (hw : w.length < 1000000) (hr : r.length < 1000000) (a b : List AV) :
    run L 63 [sl 1 true (X.map tAV), keepF64] ⟨[a, b, [sl 1 true (w.map I)], [sl 1 true (r.map I)]], []⟩ = some (B (X.any (keeps w r)), ⟨[a, b, [sl 1 true (w.map I)], [sl 1 true (r.map I)]], []⟩) := by
  obtain ⟨k, h1, h2⟩ := c97 X hXl hX w r hw hr a b
  rw [run_shared (fn := ir63) rfl rfl]
  have e : decide (0 ≤ k) = X.any (keeps w r) := by rw [Bool.eq_iff_iff, decide_eq_true_iff]; exact h2
  simp only [ir63, go_sem, reduceIte, Nat.reduceEqDiff, Nat.reduceAdd, Nat.reduceSub, Nat.reduceLeDiff, Nat.reduceLT, reduceCtorEq, Int.reduceLT, Int.reduceLE, Int.reduceEq, Int.reduceBEq, Int.reduceSub, Int.reduceAdd, Int.reduceMul, Int.reduceNeg, Int.reduceToNat, Nat.reduceMul, Nat.reduceBEq, h1, e, show pure 97 = false from rfl]

attribute [local go_sem] shaped_t cells_t isAgg_t storable_t okRef_t pub_t

theorem index_t (nl : Bool) (X : List (List Int)) (x : List Int) (i : Nat) (h : X[i]? = some x) : indexSAV 1 (sl 1 nl (X.map tAV)) (.v (.int .i64 (i : Int))) = some (.eptr (tAV x) 0) := by
  obtain ⟨h1, h2⟩ := List.getElem?_eq_some_iff.1 h
  rw [index_sl _ _ _ _ _ (by omega) (by simpa using h1)]
  simp [h2]


/-! ### the rest, where halves say nothing -/
theorem withL_mem (x : Int) (l : List Int) (a : Int) : a ∈ withL x l 0 ↔ ∃ k : Nat, k < l.length ∧ l.getD k 0 = x ∧ a = (k : Int) := by
  rw [mem_withL]
  constructor
  · rintro ⟨k, h1, h2⟩
    obtain ⟨h3, h4⟩ := List.getElem?_eq_some_iff.1 h1
    exact ⟨k, h3, by rw [List.getD_eq_getElem?_getD, h1]; rfl, by simpa using h2⟩
  · rintro ⟨k, h1, h2, h3⟩
    rw [List.getD_eq_getElem?_getD, List.getElem?_eq_getElem h1] at h2
    exact ⟨k, by rw [List.getElem?_eq_getElem h1]; simpa using h2, by simpa using h3⟩
theorem withL_map (x : Int) : ∀ (l : List Int) (i : Nat), withL x l i = ((List.range' i l.length).filter fun a => decide (l.getD (a - i) 0 = x)).map fun (a : Nat) => (a : Int)
  | [], i => rfl
  | b :: r, i => by
    have ih := withL_map x r (i + 1)
    rw [List.length_cons, List.range'_succ]
    have e : (List.range' (i + 1) r.length).filter (fun a => decide ((b :: r).getD (a - i) 0 = x)) = (List.range' (i + 1) r.length).filter fun a => decide (r.getD (a - (i + 1)) 0 = x) := by
      apply List.filter_congr
      intro a ha
      rw [List.mem_range'_1] at ha
      rw [show a - i = (a - (i + 1)) + 1 by omega]
      rfl
    have e0 : (b :: r).getD (i - i) 0 = b := by rw [Nat.sub_self]; rfl
    simp only [withL]
    by_cases h : b = x
    · rw [if_pos h, List.filter_cons_of_pos (by rw [e0]; exact decide_eq_true h), List.map_cons, e, ih]
    · rw [if_neg h, List.filter_cons_of_neg (by rw [e0]; simp [h]), e, ih]
theorem withL_eq {x : Int} {l : List Int} {n : Nat} (h : l.length = n) : withL x l 0 = ((List.range n).filter fun a => decide (l.getD a 0 = x)).map fun (a : Nat) => (a : Int) := by
  rw [withL_map, ← List.range_eq_range', h]; rfl
theorem withL_count {x : Int} {l : List Int} {n : Nat} (h : l.length = n) : ((withL x l 0).length : Int) = sumL ((List.range n).map fun a => if l.getD a 0 = x then (1 : Int) else 0) := by
  rw [withL_eq h, List.length_map, len_sum]
  congr 1
  apply List.map_congr_left
  intro a _
  by_cases p : l.getD a 0 = x
  · rw [if_pos p, if_pos (decide_eq_true p)]
  · rw [if_neg p, if_neg (fun h => p (of_decide_eq_true h))]
theorem map_range {α : Type} (l : List α) (d : α) : (List.range l.length).map (fun i => l.getD i d) = l := by
  apply List.ext_getElem (by simp)
  intro i h1 h2
  simp [List.getD_eq_getElem?_getD, List.getElem?_eq_getElem h2]

section
variable {n : Nat} {ps : List (Int × Int)} {v : List Int} (hvl : v.length = n)
/-- The articles with one half, and where they are. -/
def eAt (v : List Int) (i : Nat) : Nat := ((withL 1 v 0).getD i 0).toNat
include hvl
theorem e_spec {i : Nat} (h : i < (withL 1 v 0).length) : eAt v i < n ∧ v.getD (eAt v i) 0 = 1 ∧ cnt (withL 1 v 0) (eAt v i : Nat) = i ∧ ((eAt v i : Nat) : Int) = (withL 1 v 0)[i] := by
  have hm : (withL 1 v 0)[i] ∈ withL 1 v 0 := List.getElem_mem h
  obtain ⟨k, h1, h2, h3⟩ := (withL_mem 1 v _).1 hm
  have e : eAt v i = k := by
    unfold eAt
    rw [List.getD_eq_getElem?_getD, List.getElem?_eq_getElem h, Option.getD_some, h3, Int.toNat_natCast]
  rw [e]
  have hs := (withL_sorted 1 v 0).1
  refine ⟨by omega, h2, ?_, h3.symm⟩
  rw [← h3]
  have g1 := cnt_iff (a := (withL 1 v 0)[i]) hs i h
  have g2 : ¬ i < cnt (withL 1 v 0) (withL 1 v 0)[i] := by rw [← g1]; omega
  have g3 : ¬ cnt (withL 1 v 0) (withL 1 v 0)[i] < i := by
    intro h3
    have h4 := cnt_iff (a := (withL 1 v 0)[i]) hs (cnt (withL 1 v 0) (withL 1 v 0)[i]) (by omega)
    have h5 := List.pairwise_iff_getElem.1 hs (cnt (withL 1 v 0) (withL 1 v 0)[i]) i (by omega) h h3
    omega
  omega
theorem pos_spec {a : Nat} (ha : a < n) (h : v.getD a 0 = 1) : (a : Int) ∈ withL 1 v 0 ∧ cnt (withL 1 v 0) (a : Int) < (withL 1 v 0).length ∧ eAt v (cnt (withL 1 v 0) (a : Int)) = a := by
  have hm : (a : Int) ∈ withL 1 v 0 := (withL_mem 1 v _).2 ⟨a, by omega, h, rfl⟩
  obtain ⟨h1, h2⟩ := (cnt_mem (withL_sorted 1 v 0).1 _).1 hm
  refine ⟨hm, h1, ?_⟩
  unfold eAt
  rw [List.getD_eq_getElem?_getD, List.getElem?_eq_getElem h1, Option.getD_some, h2, Int.toNat_natCast]
theorem left_sum (f : Nat → Int) : sumL ((List.range n).map fun a => if v.getD a 0 = 1 then f a else 0) = sumL ((List.range (withL 1 v 0).length).map fun i => f (eAt v i)) := by
  have e1 : (List.range (withL 1 v 0).length).map (fun i => f (eAt v i)) = ((List.range n).filter fun a => decide (v.getD a 0 = 1)).map f := by
    have h1 : (List.range (withL 1 v 0).length).map (fun i => f (eAt v i)) = ((List.range (withL 1 v 0).length).map fun i => (withL 1 v 0).getD i 0).map fun (x : Int) => f x.toNat := by
      rw [List.map_map]; rfl
    rw [h1, map_range, withL_eq hvl, List.map_map]
    apply List.map_congr_left
    intro a _
    simp
  rw [e1, sum_filter]
  congr 1
  apply List.map_congr_left
  intro a _
  by_cases p : v.getD a 0 = 1
  · rw [if_pos p, if_pos (decide_eq_true p)]
  · rw [if_neg p, if_neg (fun h => p (of_decide_eq_true h))]
theorem split_sum (hvb : ∀ a : Nat, 0 ≤ v.getD a 0 ∧ v.getD a 0 ≤ 2) (f : Nat → Int) : sumL (byF n fun a => if v.getD a 0 = 1 then f a else v.getD a 0) = sumL ((List.range (withL 1 v 0).length).map fun i => f (eAt v i)) + 2 * ((withL 2 v 0).length : Int) := by
  rw [← left_sum hvl, withL_count hvl]
  have h2 := sum_two (fun a => if v.getD a 0 = 2 then (1 : Int) else 0) (List.range n)
  rw [← h2, ← sum_add]
  show sumL ((List.range n).map _) = _
  congr 1
  apply List.map_congr_left
  intro a _
  have := hvb a
  by_cases p : v.getD a 0 = 1
  · rw [if_pos p, if_pos p, if_neg (by omega)]; omega
  · rw [if_neg p, if_neg p]
    by_cases q : v.getD a 0 = 2
    · rw [if_pos q, q]; rfl
    · rw [if_neg q]; omega
theorem three_count (hvb : ∀ a : Nat, 0 ≤ v.getD a 0 ∧ v.getD a 0 ≤ 2) : (withL 2 v 0).length + (withL 0 v 0).length + (withL 1 v 0).length = n := by
  have h2 := withL_count (x := 2) hvl
  have h0 := withL_count (x := 0) hvl
  have h1 := withL_count (x := 1) hvl
  have e : sumL ((List.range n).map fun a => ((if v.getD a 0 = 2 then (1 : Int) else 0) + (if v.getD a 0 = 0 then (1 : Int) else 0)) + (if v.getD a 0 = 1 then (1 : Int) else 0)) = n := by
    have : (List.range n).map (fun a => ((if v.getD a 0 = 2 then (1 : Int) else 0) + (if v.getD a 0 = 0 then (1 : Int) else 0)) + (if v.getD a 0 = 1 then (1 : Int) else 0)) = List.replicate n 1 := by
      rw [List.eq_replicate_iff]
      refine ⟨by simp, fun x hx => ?_⟩
      obtain ⟨a, _, rfl⟩ := List.mem_map.1 hx
      have := hvb a
      split <;> split <;> split <;> omega
    rw [this]
    have hr : ∀ k : Nat, sumL (List.replicate k (1 : Int)) = k := by
      intro k
      induction k with
      | zero => rfl
      | succ k ih => rw [List.replicate_succ]; simp only [sumL, ih]; omega
    exact hr n
  rw [sum_add, sum_add, ← h2, ← h0, ← h1] at e
  omega
theorem rest_in (hps : ∀ p ∈ ps, 0 ≤ p.1 ∧ p.1 < p.2 ∧ p.2 < (n : Int)) {i j : Int} : (i, j) ∈ restV (withL 1 v 0) ps → ∃ a b : Nat, ((a : Int), (b : Int)) ∈ ps ∧ a < n ∧ b < n ∧ a < b ∧ v.getD a 0 = 1 ∧ v.getD b 0 = 1 ∧ i = (cnt (withL 1 v 0) (a : Int) : Nat) ∧ j = (cnt (withL 1 v 0) (b : Int) : Nat) := by
  intro h
  unfold restV at h
  rw [List.mem_filterMap] at h
  obtain ⟨p, hp, h2⟩ := h
  split at h2
  · next hc =>
    have hb := hps p hp
    obtain ⟨a, a1, a2, a3⟩ := (withL_mem 1 v _).1 hc.1
    obtain ⟨b, b1, b2, b3⟩ := (withL_mem 1 v _).1 hc.2
    simp only [Option.some.injEq, Prod.mk.injEq] at h2
    refine ⟨a, b, ?_, by omega, by omega, by omega, a2, b2, ?_, ?_⟩
    · have : ((a : Int), (b : Int)) = p := Prod.ext a3.symm b3.symm
      rw [this]; exact hp
    · rw [← a3]; exact h2.1.symm
    · rw [← b3]; exact h2.2.symm
  · simp at h2
theorem rest_nb1 (hps : ∀ p ∈ ps, 0 ≤ p.1 ∧ p.1 < p.2 ∧ p.2 < (n : Int)) {i j : Nat} (h : nb (restV (withL 1 v 0) ps) i j) : nb ps (eAt v i) (eAt v j) := by
  rcases h with h | h
  · obtain ⟨a, b, h1, h2, h3, _, h4, h5, h6, h7⟩ := rest_in hvl hps h
    have p1 := (pos_spec hvl h2 h4).2.2
    have p2 := (pos_spec hvl h3 h5).2.2
    rw [← Int.ofNat.inj h6] at p1
    rw [← Int.ofNat.inj h7] at p2
    rw [p1, p2]; exact .inl h1
  · obtain ⟨a, b, h1, h2, h3, _, h4, h5, h6, h7⟩ := rest_in hvl hps h
    have p1 := (pos_spec hvl h2 h4).2.2
    have p2 := (pos_spec hvl h3 h5).2.2
    rw [← Int.ofNat.inj h6] at p1
    rw [← Int.ofNat.inj h7] at p2
    rw [p1, p2]; exact .inr h1
theorem rest_nb2 {a b : Nat} (ha : a < n) (hb : b < n) (h1 : v.getD a 0 = 1) (h2 : v.getD b 0 = 1) (h : nb ps a b) : nb (restV (withL 1 v 0) ps) (cnt (withL 1 v 0) (a : Int)) (cnt (withL 1 v 0) (b : Int)) := by
  have m1 := (pos_spec hvl ha h1).1
  have m2 := (pos_spec hvl hb h2).1
  rcases h with h | h
  · left
    unfold restV
    rw [List.mem_filterMap]
    exact ⟨_, h, by rw [if_pos ⟨m1, m2⟩]⟩
  · right
    unfold restV
    rw [List.mem_filterMap]
    exact ⟨_, h, by rw [if_pos ⟨m2, m1⟩]⟩
theorem rest_ok (hn : n ≤ 7) (hps : ∀ p ∈ ps, 0 ≤ p.1 ∧ p.1 < p.2 ∧ p.2 < (n : Int)) : ∀ p ∈ restV (withL 1 v 0) ps, (0 ≤ p.1 ∧ p.1 < p.2 ∧ p.2 < (((withL 1 v 0).length : Nat) : Int)) ∧ okP p := by
  have hk : (withL 1 v 0).length ≤ v.length := by
    have := withL_len 1 v 0
    omega
  rintro ⟨i, j⟩ hp
  obtain ⟨a, b, h1, h2, h3, h4, h5, h6, h7, h8⟩ := rest_in hvl hps hp
  have p1 := pos_spec hvl h2 h5
  have p2 := pos_spec hvl h3 h6
  have hs := (withL_sorted 1 v 0).1
  have hlt : cnt (withL 1 v 0) (a : Int) < cnt (withL 1 v 0) (b : Int) := by
    rw [← cnt_iff hs _ p1.2.1]
    obtain ⟨g1, g2⟩ := (cnt_mem hs (a : Int)).1 p1.1
    omega
  have q := p2.2.1
  subst h7 h8
  refine ⟨⟨by simp only; omega, by simp only; omega, by simp only; omega⟩, ?_, ?_, ?_, ?_⟩ <;> simp only <;> omega
theorem rest_nodup (hnd : ps.Nodup) : (restV (withL 1 v 0) ps).Nodup := by
  unfold restV
  have hs := (withL_sorted 1 v 0).1
  have key : ∀ a ∈ withL 1 v 0, ∀ b ∈ withL 1 v 0, ((cnt (withL 1 v 0) a : Nat) : Int) = ((cnt (withL 1 v 0) b : Nat) : Int) → a = b := by
    intro a ha b hb h
    obtain ⟨a1, a2⟩ := (cnt_mem hs a).1 ha
    obtain ⟨b1, b2⟩ := (cnt_mem hs b).1 hb
    have h := Int.ofNat.inj h
    rw [← a2, ← b2]
    simp only [h]
  induction ps with
  | nil => simp
  | cons p r ih =>
    rw [List.nodup_cons] at hnd
    rw [List.filterMap_cons]
    split
    · exact ih hnd.2
    · next q hq =>
      split at hq
      · next hc =>
        simp only [Option.some.injEq] at hq
        subst hq
        rw [List.nodup_cons]
        refine ⟨?_, ih hnd.2⟩
        rw [List.mem_filterMap]
        rintro ⟨p2, hp2, h2⟩
        split at h2
        · next hc2 =>
          simp only [Option.some.injEq, Prod.mk.injEq] at h2
          have e1 := key _ hc2.1 _ hc.1 h2.1
          have e2 := key _ hc2.2 _ hc.2 h2.2
          have : p2 = p := Prod.ext e1 e2
          subst this; exact hnd.1 hp2
        · simp at h2
      · simp at hq
end

/-- The rest costs one half each; a shortest list of it, with those named as wrong, is as long as one of all. -/
theorem rest_law {n : Nat} {ps : List (Int × Int)} (hn1 : 1 ≤ n) (hn : n ≤ 7) (hps : ∀ p ∈ ps, 0 ≤ p.1 ∧ p.1 < p.2 ∧ p.2 < (n : Int)) (h7 : ∀ p ∈ ps, okP p) :
    (∀ y ∈ cheap n 2 ps, ∀ x ∈ cheap (withL 1 (halvesV n ps) 0).length 2 (restV (withL 1 (halvesV n ps) 0) ps), sumL y = sumL x + 2 * ((withL 2 (halvesV n ps) 0).length : Int)) ∧
    ∀ w ∈ cheap (withL 1 (halvesV n ps) 0).length 1 (restV (withL 1 (halvesV n ps) 0) ps), sumL w = ((withL 1 (halvesV n ps) 0).length : Int) := by
  obtain ⟨⟨v1, v2⟩, v3⟩ := cheap_mem.1 (halves_spec hn1 hn hps h7).1
  obtain ⟨hvl, hvb0⟩ := allL_in n _ v1
  have hnt := fun y hy => nt hn1 hn hps h7 (y := y) hy
  have hvok := (half_nb hps _).1 v2
  generalize halvesV n ps = v at *
  have hvb := fun a => getD_bd (B := 2) (by omega) hvb0 a
  have hrok := rest_ok (ps := ps) hvl hn hps
  have hrps : ∀ p ∈ restV (withL 1 v 0) ps, 0 ≤ p.1 ∧ p.1 < p.2 ∧ p.2 < (((withL 1 v 0).length : Nat) : Int) := fun p hp => (hrok p hp).1
  have hvs := val_range hvl
  have hk := fun i (h : i < (withL 1 v 0).length) => e_spec hvl h
  -- values of all, out of values of the rest
  have hext : ∀ w : List Int, (∀ i : Nat, 0 ≤ w.getD i 0 ∧ w.getD i 0 ≤ 2) → halfOk (restV (withL 1 v 0) ps) w = true → halfOk ps (byF n fun a => if v.getD a 0 = 1 then w.getD (cnt (withL 1 v 0) (a : Int)) 0 else v.getD a 0) = true := by
    intro w hwb hw
    have hw2 := (half_nb hrps w).1 hw
    apply byF_half hps
    intro a b ha hb hab
    have h1 := hvok a b hab; have h2 := hvb a; have h3 := hvb b
    have h4 := hwb (cnt (withL 1 v 0) (a : Int)); have h5 := hwb (cnt (withL 1 v 0) (b : Int))
    by_cases p : v.getD a 0 = 1
    · by_cases q : v.getD b 0 = 1
      · rw [if_pos p, if_pos q]
        exact hw2 _ _ (rest_nb2 hvl ha hb p q hab)
      · rw [if_pos p, if_neg q]; omega
    · by_cases q : v.getD b 0 = 1
      · rw [if_neg p, if_pos q]; omega
      · rw [if_neg p, if_neg q]; omega
  have hsum : ∀ w : List Int, w.length = (withL 1 v 0).length → sumL (byF n fun a => if v.getD a 0 = 1 then w.getD (cnt (withL 1 v 0) (a : Int)) 0 else v.getD a 0) = sumL w + 2 * ((withL 2 v 0).length : Int) := by
    intro w hwl
    rw [split_sum hvl hvb (fun a => w.getD (cnt (withL 1 v 0) (a : Int)) 0), val_range hwl]
    congr 2
    apply List.map_congr_left
    intro i hi
    show w.getD (cnt (withL 1 v 0) ((eAt v i : Nat) : Int)) 0 = w.getD i 0
    rw [(hk i (List.mem_range.1 hi)).2.2.1]
  refine ⟨fun y hy x hx => ?_, fun w hw => ?_⟩
  · obtain ⟨⟨y1, y2⟩, y3⟩ := cheap_mem.1 hy
    obtain ⟨⟨x1, x2⟩, x3⟩ := cheap_mem.1 hx
    obtain ⟨⟨k1, k2⟩, k3⟩ := cheap_mem.1 (hnt y hy)
    have hy02 := getD2 (allL2_val n y y1)
    have hx02 := getD2 (allL2_val _ x x1)
    have hyok := (half_nb hps y).1 y2
    have e1 := k3 y y1 y2
    have e2 := y3 _ k1 k2
    have e3 : sumL (keepV n v y) = sumL (byF (withL 1 v 0).length fun i => y.getD (eAt v i) 0) + 2 * ((withL 2 v 0).length : Int) := split_sum hvl hvb (fun a => y.getD a 0)
    have e4 := x3 (byF (withL 1 v 0).length fun i => y.getD (eAt v i) 0) (byF_all2 (fun i _ => hy02 _)) (byF_half hrps (fun i j _ _ hij => hyok _ _ (rest_nb1 hvl hps hij)))
    have e5 := y3 _ (byF_all2 (f := fun a => if v.getD a 0 = 1 then x.getD (cnt (withL 1 v 0) (a : Int)) 0 else v.getD a 0) (fun a _ => by
      have := hvb a; have := hx02 (cnt (withL 1 v 0) (a : Int))
      split <;> omega)) (hext x (fun i => by have := hx02 i; omega) x2)
    rw [hsum x (allL_in _ x x1).1] at e5
    omega
  · obtain ⟨⟨w1, w2⟩, w3⟩ := cheap_mem.1 hw
    obtain ⟨wl, wb⟩ := allL_in _ w w1
    have hwb := fun i => getD_bd (B := 2) (by omega) wb i
    have e1 := v3 _ (byF_all1 (f := fun a => if v.getD a 0 = 1 then w.getD (cnt (withL 1 v 0) (a : Int)) 0 else v.getD a 0) (fun a _ => by
      have := hvb a; have := hwb (cnt (withL 1 v 0) (a : Int))
      split <;> omega)) (hext w hwb w2)
    rw [hsum w wl] at e1
    have e2 : sumL (byF n fun a => if v.getD a 0 = 1 then (1 : Int) else v.getD a 0) = sumL (byF (withL 1 v 0).length fun _ => (1 : Int)) + 2 * ((withL 2 v 0).length : Int) := split_sum hvl hvb (fun _ => (1 : Int))
    have e3 : sumL (byF n fun a => if v.getD a 0 = 1 then (1 : Int) else v.getD a 0) = sumL v := by
      rw [hvs]
      show sumL ((List.range n).map _) = _
      congr 1
      apply List.map_congr_left
      intro a _
      by_cases p : v.getD a 0 = 1
      · rw [if_pos p, p]
      · rw [if_neg p]
    have e4 := w3 (byF (withL 1 v 0).length fun _ => (1 : Int)) (byF_all1 (fun _ _ => by omega)) (byF_half hrps (fun _ _ _ _ _ => by omega))
    have e5 : sumL (byF (withL 1 v 0).length fun _ => (1 : Int)) = ((withL 1 v 0).length : Int) := by
      generalize (withL 1 v 0).length = k
      have hr : ∀ l : List Nat, sumL (l.map fun _ => (1 : Int)) = l.length := by
        intro l
        induction l with
        | nil => rfl
        | cons a l ih => simp only [List.map_cons, sumL, ih, List.length_cons]; omega
      have := hr (List.range k)
      rw [List.length_range] at this
      exact this
    omega

attribute [local go_sem] shaped_t cells_t isAgg_t storable_t okRef_t pub_t

theorem over_not {n : Nat} (hn : n ≤ 7) {ps : List (Int × Int)} (hps : ∀ p ∈ ps, 0 ≤ p.1 ∧ p.1 < p.2 ∧ p.2 < (n : Int)) : overB ps (sharesR n ps) = false := by
  cases h : overB ps (sharesR n ps)
  · rfl
  · rw [← over_eq hn hps] at h
    obtain ⟨a, _, h2⟩ := (over_iff _).1 h
    have := over_none (sharesR_in (n := n) (ps := ps)).1 hps a
    omega
theorem proves_ok {n : Nat} {ps : List (Int × Int)} (hn1 : 1 ≤ n) (hn : n ≤ 7) (hps : ∀ p ∈ ps, 0 ≤ p.1 ∧ p.1 < p.2 ∧ p.2 < (n : Int)) (h7 : ∀ p ∈ ps, okP p) (hnd : ps.Nodup) (hc : chk n ps = 0) : provesV n ps (halvesV n ps) (sharesR n ps) = 0 := by
  obtain ⟨v1, v2⟩ := allL_in n _ (cheap_mem.1 (halves_spec hn1 hn hps h7).1).1.1
  have v3 := (cheap_mem.1 (halves_spec hn1 hn hps h7).1).1.2
  obtain ⟨a1, a2⟩ := shF_ok (sharesR_in (n := n) (ps := ps)).1
  have hov := over_not hn hps
  have hw := shares_worth hn1 hn hps h7 hnd
  have e1 : halvesE n ps (halvesV n ps) = 0 := by
    unfold halvesE
    rw [if_pos v1, if_neg, if_pos v3]
    rintro ⟨x, hx, h⟩
    have := v2 x hx; omega
  have e2 : sharedE ps (sharesR n ps) = 0 := by
    unfold sharedE
    rw [if_pos a1, if_neg, if_neg]
    · rw [hov]; simp
    · intro h; have := a2 _ h; omega
  rw [(proves_eq hn hps hc (fun x hx => (v2 x hx).1) (fun x hx => by have := a2 x hx; omega)).1, if_pos e1, if_pos e2, if_neg (by omega)]
/-- Some shortest list does as halves say. -/
theorem keeps_some {n : Nat} {ps : List (Int × Int)} (hn1 : 1 ≤ n) (hn : n ≤ 7) (hps : ∀ p ∈ ps, 0 ≤ p.1 ∧ p.1 < p.2 ∧ p.2 < (n : Int)) (h7 : ∀ p ∈ ps, okP p) : (allV n ps).any (keeps (withL 2 (halvesV n ps) 0) (withL 0 (halvesV n ps) 0)) = true := by
  obtain ⟨y, hy⟩ := List.exists_mem_of_ne_nil _ (cheap_ne 2 hps)
  have hk := nt hn1 hn hps h7 hy
  have hin : twos (keepV n (halvesV n ps) y) ∈ allV n ps := by
    have hp := (sortL_perm lexLt (fewV n ps)).trans (few_perm hn h7)
    exact hp.mem_iff.2 (List.mem_map.2 ⟨_, hk, rfl⟩)
  rw [List.any_eq_true]
  refine ⟨_, hin, ?_⟩
  obtain ⟨v1, v2⟩ := allL_in n _ (cheap_mem.1 (halves_spec hn1 hn hps h7).1).1.1
  generalize halvesV n ps = v at *
  unfold keeps
  rw [Bool.and_eq_true, List.all_eq_true, List.all_eq_true]
  refine ⟨fun a ha => ?_, fun a ha => ?_⟩
  · obtain ⟨k, k1, k2, rfl⟩ := (withL_mem 2 v a).1 ha
    refine decide_eq_true ((mem_twos _ k).2 ?_)
    unfold keepV
    rw [byF_getD _ (by omega), if_neg (by omega), k2]
  · obtain ⟨k, k1, k2, rfl⟩ := (withL_mem 0 v a).1 ha
    rw [Bool.not_eq_true', decide_eq_false_iff_not, mem_twos]
    unfold keepV
    rw [byF_getD _ (by omega), if_neg (by omega), k2]
    omega
theorem all_len {n : Nat} {ps : List (Int × Int)} (hn : n ≤ 7) (h7 : ∀ p ∈ ps, okP p) : (allV n ps).length = (cheap n 2 ps).length := by
  have hp := (sortL_perm lexLt (fewV n ps)).trans (few_perm hn h7)
  have := hp.length_eq
  rw [List.length_map] at this
  exact this
theorem all_in {n : Nat} {ps : List (Int × Int)} : ∀ l ∈ allV n ps, l.length ≤ 7 := by
  intro l hl
  exact few_in (n := n) (ps := ps) l ((sortL_perm lexLt (fewV n ps)).mem_iff.1 hl)
theorem rest_len (left : List Int) (ps : List (Int × Int)) : (restV left ps).length ≤ ps.length := by
  unfold restV; exact List.length_filterMap_le _ _

set_option maxHeartbeats 2000000 in
theorem c12 (zs : List Int) (hzl : zs.length = 22) (hz : ∀ a ∈ zs, Byte a) (st : St) : run L 12 [qAV zs] st = some (B true, st) := by
  rw [run_pure (fn := ir12) rfl rfl]
  have h44 := fun st => c44 zs hzl hz 1 (.inl rfl) st
  obtain ⟨n, hN, hn1, _, hn, hlen, hps, h7, hnd, hck⟩ := made_ok (.inl rfl : (1 : Int) = 1 ∨ (1 : Int) = 2) zs
  rw [hN] at h44
  generalize madeP 1 zs = ps at *
  have htk : (zs.map B8).take 22 = zs.map B8 := List.take_of_length_le (by simp [hzl])
  -- the program's answers
  have h17 := fun st => c17 true n ps st
  have h19 := fun st => c19 true n ps st
  have h26 := fun st => c26 true n ps st
  have h28 := fun st => c28 true n ps st
  have h32 := fun st => c32 true n ps st
  obtain ⟨n2, h35⟩ := c35 true n ps
  have h61 := fun st => c61 true n hn ps (by omega) hps h7 st
  have hf : firstV (n : Int) ps = (bestL ((cheap n 2 ps).map twos), 0) := by rw [first_eq]; unfold firstR; rw [if_pos hck, Int.toNat_natCast]
  have hc : countV (n : Int) ps = (((cheap n 2 ps).length : Int), 0) := by rw [count_eq]; unfold countR; rw [if_pos hck, Int.toNat_natCast]
  have hh : hv (n : Int) ps = (halvesV n ps, 0) := by unfold hv; rw [if_pos hck, Int.toNat_natCast]
  have hsu : sureV (n : Int) ps = (withL 2 (halvesV n ps) 0, withL 0 (halvesV n ps) 0, 0) := by unfold sureV; rw [if_pos hck, Int.toNat_natCast]
  have hle : leftV (n : Int) ps = withL 1 (halvesV n ps) 0 := by unfold leftV; rw [if_pos hck, Int.toNat_natCast]
  have hre : restP (n : Int) ps = restV (withL 1 (halvesV n ps) 0) ps := by unfold restP; rw [if_pos hck, hle]
  have hsh : shv (n : Int) ps = (sharesR n ps, 0) := by unfold shv; rw [if_pos hck, Int.toNat_natCast]
  simp only [hf] at h17
  simp only [hc] at h19
  simp only [hh] at h26
  simp only [hsu] at h28
  simp only [hle, hre, hck] at h32
  simp only [hsh] at h35
  -- what they are
  obtain ⟨v1, v2⟩ := allL_in n _ (cheap_mem.1 (halves_spec hn1 hn hps h7).1).1.1
  have v3 := (cheap_mem.1 (halves_spec hn1 hn hps h7).1).1.2
  obtain ⟨a1, a2⟩ := shF_ok (sharesR_in (n := n) (ps := ps)).1
  have hov := over_not hn hps
  have hworth := shares_worth hn1 hn hps h7 hnd
  have hprove := proves_ok hn1 hn hps h7 hnd hck
  have hkeep := keeps_some hn1 hn hps h7
  have hcnt := all_len (n := n) (ps := ps) hn h7
  have hain := all_in (n := n) (ps := ps)
  have ha12 : (allV n ps).length ≤ 12 := by
    have h1 := few_len hn hps
    have h2 : (allV n ps).length = (fewV n ps).length := (sortL_perm lexLt (fewV n ps)).length_eq
    omega
  obtain ⟨r, hr⟩ := few_first hn hps h7
  have hall : allV n ps = bestL ((cheap n 2 ps).map twos) :: r := hr
  have hix := index_t true (allV n ps) (bestL ((cheap n 2 ps).map twos)) 0 (by rw [hall]; rfl)
  rw [Int.natCast_zero] at hix
  have hl7 : (bestL ((cheap n 2 ps).map twos)).length ≤ 7 := by
    have := firstV_len n ps
    rw [hf] at this; exact this
  obtain ⟨y, hy, hly⟩ := first_cheap (n := n) (ps := ps) hps
  have hys := cheap_two_sum hy
  rw [← hly] at hys
  have hlaw := rest_law hn1 hn hps h7
  have hlaw1 := hlaw.1 y hy
  have hlaw2 := hlaw.2
  have hvb := fun a => getD_bd (B := 2) (by omega) v2 a
  have h3c := three_count v1 hvb
  have hrok := rest_ok (ps := ps) v1 hn hps
  have hrnd := rest_nodup (ps := ps) v1 hnd
  have hrl := rest_len (withL 1 (halvesV n ps) 0) ps
  have h42 := fun st => c42 true true n2 n ps (halvesV n ps) (sharesR n ps) (by omega) (by omega) st
  have h45v := fun st => c45 true (halvesV n ps) (by omega) n st
  have h45s := fun st => c45 n2 (sharesR n ps) (by omega) ps.length st
  have h62 := fun st => c62 true true n2 n hn ps hlen hps (halvesV n ps) v1 v2 v3 (sharesR n ps) a1 a2 hov st
  rw [hprove] at h42
  rw [totalV_ok v1 v2] at h45v
  rw [totalV_ok a1 a2, hworth] at h45s
  have h63 := fun a b => c63 (allV n ps) (by omega) (fun l hl => by have := hain l hl; omega) (withL 2 (halvesV n ps) 0) (withL 0 (halvesV n ps) 0) (by omega) (by omega) a b
  rw [hkeep] at h63
  have h21 : ∀ st, run L 21 [sl 1 true ((bestL ((cheap n 2 ps).map twos)).map I), tAV (bestL ((cheap n 2 ps).map twos))] st = some (B true, st) := fun st => by
    have := c21 true true (bestL ((cheap n 2 ps).map twos)) (bestL ((cheap n 2 ps).map twos)) (by omega) st
    rw [decide_eq_true rfl] at this
    exact this
  clear hf hc hh hsu hle hre hsh hr hall hkeep hprove hov hly
  generalize hG : bestL ((cheap n 2 ps).map twos) = l at *
  generalize allV n ps = Y at *
  generalize hR : restV (withL 1 (halvesV n ps) 0) ps = rp at *
  generalize withL 2 (halvesV n ps) 0 = W at *
  generalize withL 0 (halvesV n ps) 0 = Z at *
  generalize withL 1 (halvesV n ps) 0 = Lf at *
  generalize halvesV n ps = v at *
  generalize sharesR n ps = s at *
  generalize hk : Lf.length = k at *
  have hw1 : IntKind.i64.wrap ((W.length : Int) + (Z.length : Int)) = (W.length : Int) + (Z.length : Int) := by rw [wrap64] <;> omega
  have hw2 : IntKind.i64.wrap ((W.length : Int) + (Z.length : Int) + (k : Int)) = (n : Int) := by rw [wrap64] <;> omega
  have q1 : ((ps.length : Int) < (rp.length : Int)) = False := eq_false (by omega)
  have hrps : ∀ p ∈ rp, 0 ≤ p.1 ∧ p.1 < p.2 ∧ p.2 < (k : Int) := fun p hp => (hrok p hp).1
  have hr7 : ∀ p ∈ rp, okP p := fun p hp => (hrok p hp).2
  by_cases hk0 : k = 0
  · subst hk0
    have hrp0 : rp = [] := by
      cases rp with
      | nil => rfl
      | cons p r => have := hrps p (by simp); omega
    subst hrp0
    obtain ⟨x, hx⟩ := List.exists_mem_of_ne_nil _ (cheap_ne (n := 0) (ps := []) 2 (by simp))
    have e1 := hlaw1 x hx
    have e2 := cheap_two_sum hx
    have e3 : x = [] := List.eq_nil_of_length_eq_zero (allL_in _ x (cheap_mem.1 hx).1.1).1
    have e4 : sumL x = 0 := by rw [e3]; rfl
    have q2 : ((W.length : Int) = (l.length : Int)) = True := eq_true (by omega)
    have q4 : ((ps.length : Int) < 0) = False := eq_false (by omega)
    rw [Int.natCast_zero] at hw2
    simp only [ir12, go_sem, reduceIte, Nat.reduceEqDiff, Nat.reduceAdd, Nat.reduceSub, Nat.reduceLeDiff, Nat.reduceLT, reduceCtorEq, Int.reduceLT, Int.reduceLE, Int.reduceEq, Int.reduceBEq, Int.reduceSub, Int.reduceAdd, Int.reduceMul, Int.reduceNeg, Int.reduceToNat, Nat.reduceMul, Nat.reduceBEq, okRefsB, pubsB, storableB, htk, hzl, h44, h17, h19, h26, h28, h32, h35, h61, h42, h45v, h45s, h62, h63, h21, hix, hcnt, hk, hw1, hw2, q2, q4, show pure 63 = false from rfl, c16, List.length_map, List.map_nil, List.length_nil, Int.natCast_zero]
  · have hkc : chk (k : Int) rp = 0 := by
      unfold chk
      rw [if_neg (by omega), if_neg (by omega)]
      exact prsErr_ok _ [] hrps (by simpa using hrnd)
    have hk7 : k ≤ 7 := by omega
    have r17 := fun st => c17 true k rp st
    have r26 := fun st => c26 true k rp st
    have rf : firstV (k : Int) rp = (bestL ((cheap k 2 rp).map twos), 0) := by rw [first_eq]; unfold firstR; rw [if_pos hkc, Int.toNat_natCast]
    have rh : hv (k : Int) rp = (halvesV k rp, 0) := by unfold hv; rw [if_pos hkc, Int.toNat_natCast]
    have rl7 : (bestL ((cheap k 2 rp).map twos)).length ≤ 7 := by
      have := firstV_len k rp
      rw [rf] at this; exact this
    simp only [rf] at r17
    simp only [rh] at r26
    obtain ⟨x, hx, hlx⟩ := first_cheap (n := k) (ps := rp) hrps
    have e1 := hlaw1 x hx
    have e2 := cheap_two_sum hx
    rw [← hlx] at e2
    have hcw := (halves_spec (by omega) hk7 hrps hr7).1
    obtain ⟨w1, w2⟩ := allL_in k _ (cheap_mem.1 hcw).1.1
    have e3 := hlaw2 _ hcw
    have e4 := (bounds (by omega) hk7 hrps hr7).1
    have r45 := fun st => c45 true (halvesV k rp) (by omega) k st
    rw [totalV_ok w1 w2, e3] at r45
    generalize bestL ((cheap k 2 rp).map twos) = m at *
    generalize halvesV k rp = w at *
    have hw3 : IntKind.i64.wrap ((W.length : Int) + (m.length : Int)) = (l.length : Int) := by rw [wrap64] <;> omega
    have hw4 : IntKind.i64.wrap (2 * (m.length : Int)) = 2 * (m.length : Int) := by rw [wrap64] <;> omega
    have q2 : ((k : Int) = 0) = False := eq_false (by omega)
    have q3 : ((k : Int) ≤ 2 * (m.length : Int)) = True := eq_true (by omega)
    simp only [ir12, go_sem, reduceIte, Nat.reduceEqDiff, Nat.reduceAdd, Nat.reduceSub, Nat.reduceLeDiff, Nat.reduceLT, reduceCtorEq, Int.reduceLT, Int.reduceLE, Int.reduceEq, Int.reduceBEq, Int.reduceSub, Int.reduceAdd, Int.reduceMul, Int.reduceNeg, Int.reduceToNat, Nat.reduceMul, Nat.reduceBEq, okRefsB, pubsB, storableB, htk, hzl, h44, h17, h19, h26, h28, h32, h35, h61, h42, h45v, h45s, h62, h63, h21, hix, hcnt, hk, hw1, hw2, hw3, hw4, q1, q2, q3, r17, r26, r45, show pure 63 = false from rfl, c16, List.length_map]
end Go.Proofs.YtpmbfgogpcjdlaaDoor.Vm
