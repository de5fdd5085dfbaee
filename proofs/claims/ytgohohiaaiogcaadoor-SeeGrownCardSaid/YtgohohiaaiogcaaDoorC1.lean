/- What is proved: what each function of this program computes, as equations on the evaluator. No condition. -/
import Derived.Test.YtgohohiaaiogcaaDoorLib
import Derived.Test.YtgohohiaaiogcaaDoorSy
import Derived.KernelRfl
import Derived.WalkKit
import Derived.ProofKit
import Derived.OpenShut
import Derived.Test.YtgohohiaaiogcaaDoorS0
set_option linter.all false
namespace Go.Proofs.YtgohohiaaiogcaaDoor.Vm
open Go Go.Ev
set_option maxRecDepth 100000
attribute [local go_sem] cells_any storable_any ren1_any shaped_ptr cells_ptr storable_ptr ren1_ptr shaped_eptr cells_eptr storable_eptr ren1_eptr shaped_rsl cells_rsl storable_rsl ren1_rsl shaped_int cells_int storable_int ren1_int shaped_bool cells_bool storable_bool ren1_bool shaped_nils cells_nils storable_nils ren1_nils shaped_lst cells_lst storable_lst shaped_fn cells_fn storable_fn ren1_fn shaped_ifc cells_ifc storable_ifc ren1_ifc shaped_agg cells_agg storable_agg ren1_agg shaped_tup cells_tup storable_tup ren1_tup shaped_nif cells_nif storable_nif ren1_nif ren1_lany ren1_lfull ren1_lown len_lst len_rsl len_nil load_ptr load_eptr isRsl_lst isRsl_nil isRsl_rsl elems_nil elems_lst elems_sl isRsl_sl body_eq bodyK_normal bodyK_ret resK_some leaveK_some only_some code_skip code_exit code_ret code_ops code_seq code_cond code_block seqK_normal seqK_ret seqK_exit condK_true condK_false blockK_normal blockK_ret blockK_exit opsK_some ops_nil ops_cons wantK_true wantK_false stepK_some pubs pub pub_sl params okRef_loc storable_loc shaped_loc cells_loc isRsl_loc elems_loc len_loc untips untip untip_sl wantedAV setElems withO isAgg_v isAgg_agg isAgg_lst isAgg_ptr isAgg_fn isAgg_ifc isAgg_rsl isAgg_sl isAgg_loc List.replicate_succ List.replicate_zero opAV valAV aval avals ofVal Env.get setD canon gcAV renAll renEnv renStore renCells ren1_sl cutSt okEnv okStore okRefs okRef okRef_sl bin_int bin_bool bin_lst bin_rsl bin_nil bin_agg cellsEq cellEq isShift intOp boolOp min_int max_int beq_int bne resAV tupAV leave_eq fin_sl fin_loc fins fin_v fin_lst fin_agg fin_tup fin_fn storeAV readCells putCells cells_sl shaped_sl storable_sl fieldAddrAV len_sl goI List.getElem?_cons_zero List.getElem?_cons_succ List.getElem?_nil Option.bind_some Option.map_some List.length_cons List.length_nil List.all_cons List.all_nil Bool.and_true Bool.true_and Bool.and_false Bool.false_and and_true true_and and_false false_and Bool.false_eq_true List.set_cons_zero List.set_cons_succ List.append_nil List.nil_append List.cons_append List.take_zero List.take_succ_cons List.take_nil List.drop_zero List.drop_succ_cons List.map_cons List.map_nil decide_true decide_false beq_self_eq_true Bool.not_true Bool.not_false or_true true_or or_false false_or Nat.zero_add Nat.add_zero Nat.le_refl Nat.lt_irrefl decide_eq_true_eq eq_self_iff_true not_true_eq_false not_false_eq_true List.getD_cons_zero code_loop Nat.zero_le Nat.not_lt_zero Bool.true_beq Bool.false_beq beq_true beq_false ge_iff_le gt_iff_lt keepR keepT ownTop Lpure pus Option.map_none assert_ifc assert_nil idxA_ptr idxA_eptr idxV_agg Int.cast_ofNat_Int Nat.mul_one Nat.zero_mul Int.toNat_natCast Int.toNat_zero setParts withO2 hasKey eqnil_sl nenil_sl eqnil_loc nenil_loc map_nil_iff okRefs_ints renCells_ints

abbrev prAV (a : Int × Int) : AV := .agg [I a.1, I a.2]
abbrev bkAV (nl : Bool) (n : Int) (ps : List (Int × Int)) : AV := .agg [I n, sl 2 nl (ps.map prAV)]
abbrev bkCells (nl : Bool) (n : Int) (ps : List (Int × Int)) : List AV := [I n, sl 2 nl (ps.map prAV)]

theorem succ64 (i : Nat) (h : i < 1000000) : IntKind.i64.wrap ((i : Int) + 1) = ((i + 1 : Nat) : Int) := by
  rw [wrap64] <;> omega
theorem index_prs (nl : Bool) (ps : List (Int × Int)) (i : Nat) (h : i < ps.length) : indexSAV 2 (sl 2 nl (ps.map prAV)) (.v (.int .i64 i)) = some (.eptr (.agg [.v (.int .i64 ps[i].1), .v (.int .i64 ps[i].2)]) 0) := by
  rw [index_sl _ _ _ _ _ (by omega) (by simpa using h)]
  simp
theorem index_ints (nl : Bool) (l : List Int) (i : Nat) (h : i < l.length) : indexSAV 1 (sl 1 nl (l.map I)) (.v (.int .i64 i)) = some (.eptr (I l[i]) 0) := by
  rw [index_sl _ _ _ _ _ (by omega) (by simpa using h)]
  simp
theorem slice_prs (nl : Bool) (ps : List (Int × Int)) (i : Nat) (h : i < ps.length) : sliceAV 2 (sl 2 nl (ps.map prAV)) none (some (.v (.int .i64 i))) none = some (sl 2 false ((ps.take i).map prAV)) := by
  have e : sl 2 nl (ps.map prAV) = .lst .any 2 (ps.map prAV) := by
    unfold sl; rw [if_neg]; rintro ⟨_, h2⟩
    simp at h2; subst h2; simp at h
  rw [e]
  simp [sliceAV, natOr, natOf, tagSlice, sl, List.map_take]
  omega

theorem loop87 (nl : Bool) (ps : List (Int × Int)) (hlen : ps.length < 1000000) (p q : Int) (i : Nat) (hok : i ≤ ps.length) (env : Env) (st : St)
    (hg : gcAV true 1 0 (canon env [0, 3, 7, 8]) st = ([(0, sl 2 nl (ps.map prAV)), (3, .ptr 0 0), (7, I ps.length), (8, I i)], ⟨[[I p, I q]], []⟩)) :
    ∃ x_1 en s, lim (headed pure (run L) true [0, 3, 7, 8] lp87_0 1 0) env st = some (x_1, en, s) ∧ (if (p, q) ∈ ps.drop i then x_1 = .ret ∧ ∃ k : Int, 0 ≤ k ∧ en.get 4 = I k else x_1 = .exit 0) := by
  refine loop_wp (α := Nat) (fun i => ps.length - i) (fun i => i ≤ ps.length) (fun i => ([(0, sl 2 nl (ps.map prAV)), (3, .ptr 0 0), (7, I ps.length), (8, I i)], ⟨[[I p, I q]], []⟩)) (fun i x_1 en s => if (p, q) ∈ ps.drop i then x_1 = .ret ∧ ∃ k : Int, 0 ≤ k ∧ en.get 4 = I k else x_1 = .exit 0) (fun i hok => ?_) i hok env st hg
  by_cases h : i < ps.length
  · have hx := index_prs nl ps i h
    have hs := succ64 i (by omega)
    have hd : ps.drop i = ps[i] :: ps.drop (i + 1) := List.drop_eq_getElem_cons h
    rw [hd]
    generalize ps[i] = a at *
    obtain ⟨u, v⟩ := a
    have hlt : ((i : Int) < (ps.length : Int)) = True := eq_true (by omega)
    simp only at hx
    by_cases e1 : p = u
    · by_cases e2 : q = v
      · subst e1; subst e2
        simp only [go_sem, reduceIte, Nat.reduceEqDiff, Nat.reduceAdd, Nat.reduceSub, Nat.reduceLeDiff, Nat.reduceLT, reduceCtorEq, Int.reduceLT, Int.reduceLE, Int.reduceEq, Int.reduceBEq, Int.reduceSub, Int.reduceAdd, Int.reduceMul, Int.reduceNeg, Int.reduceToNat, Nat.reduceMul, Nat.reduceBEq, index_rsl_if, setm, make_ints, condK_dec, wantK_dec, not_dec, and_dec, or_dec, seqK_ite, seqK_none, blockK_ite, blockK_none, opsK_ite, opsK_none, stepK_ite, stepK_none, bodyK_ite, bodyK_none, resK_ite, resK_none, leaveK_ite, leaveK_none, only_ite, only_none, bind_ite, gives_some, gives_none, gives_ite, then_normal, then_ret, then_exit, then_none, then_ite, Option.bind_none, Bool.not_eq_true', decide_eq_false_iff_not, Bool.and_eq_true, Bool.or_eq_true, Option.some.injEq, Int.not_lt, Int.not_le, lp87_0, hx, hlt]
        rw [if_pos (by simp)]
        exact ⟨(i : Int), by omega, rfl⟩
      · simp only [go_sem, reduceIte, Nat.reduceEqDiff, Nat.reduceAdd, Nat.reduceSub, Nat.reduceLeDiff, Nat.reduceLT, reduceCtorEq, Int.reduceLT, Int.reduceLE, Int.reduceEq, Int.reduceBEq, Int.reduceSub, Int.reduceAdd, Int.reduceMul, Int.reduceNeg, Int.reduceToNat, Nat.reduceMul, Nat.reduceBEq, index_rsl_if, setm, make_ints, condK_dec, wantK_dec, not_dec, and_dec, or_dec, seqK_ite, seqK_none, blockK_ite, blockK_none, opsK_ite, opsK_none, stepK_ite, stepK_none, bodyK_ite, bodyK_none, resK_ite, resK_none, leaveK_ite, leaveK_none, only_ite, only_none, bind_ite, gives_some, gives_none, gives_ite, then_normal, then_ret, then_exit, then_none, then_ite, Option.bind_none, Bool.not_eq_true', decide_eq_false_iff_not, Bool.and_eq_true, Bool.or_eq_true, Option.some.injEq, Int.not_lt, Int.not_le, lp87_0, hx, hlt, e1, e2, hs]
        refine ⟨i + 1, by simp only [go_sem, reduceIte, Nat.reduceEqDiff, Nat.reduceAdd, Nat.reduceSub, Nat.reduceLeDiff, Nat.reduceLT, reduceCtorEq, Int.reduceLT, Int.reduceLE, Int.reduceEq, Int.reduceBEq, Int.reduceSub, Int.reduceAdd, Int.reduceMul, Int.reduceNeg, Int.reduceToNat, Nat.reduceMul, Nat.reduceBEq, ren1_locm, loc_tips, locT_eq] <;> rfl, ?_, ?_, fun x en s hq => ?_⟩
        · omega
        · omega
        · simp only [List.mem_cons, Prod.mk.injEq, e2, and_false, false_or]; exact hq
    · simp only [go_sem, reduceIte, Nat.reduceEqDiff, Nat.reduceAdd, Nat.reduceSub, Nat.reduceLeDiff, Nat.reduceLT, reduceCtorEq, Int.reduceLT, Int.reduceLE, Int.reduceEq, Int.reduceBEq, Int.reduceSub, Int.reduceAdd, Int.reduceMul, Int.reduceNeg, Int.reduceToNat, Nat.reduceMul, Nat.reduceBEq, index_rsl_if, setm, make_ints, condK_dec, wantK_dec, not_dec, and_dec, or_dec, seqK_ite, seqK_none, blockK_ite, blockK_none, opsK_ite, opsK_none, stepK_ite, stepK_none, bodyK_ite, bodyK_none, resK_ite, resK_none, leaveK_ite, leaveK_none, only_ite, only_none, bind_ite, gives_some, gives_none, gives_ite, then_normal, then_ret, then_exit, then_none, then_ite, Option.bind_none, Bool.not_eq_true', decide_eq_false_iff_not, Bool.and_eq_true, Bool.or_eq_true, Option.some.injEq, Int.not_lt, Int.not_le, lp87_0, hx, hlt, e1, hs]
      refine ⟨i + 1, by simp only [go_sem, reduceIte, Nat.reduceEqDiff, Nat.reduceAdd, Nat.reduceSub, Nat.reduceLeDiff, Nat.reduceLT, reduceCtorEq, Int.reduceLT, Int.reduceLE, Int.reduceEq, Int.reduceBEq, Int.reduceSub, Int.reduceAdd, Int.reduceMul, Int.reduceNeg, Int.reduceToNat, Nat.reduceMul, Nat.reduceBEq, ren1_locm, loc_tips, locT_eq] <;> rfl, ?_, ?_, fun x en s hq => ?_⟩
      · omega
      · omega
      · simp only [List.mem_cons, Prod.mk.injEq, e1, false_and, false_or]; exact hq
  · have hd : ps.drop i = [] := List.drop_eq_nil_of_le (by omega)
    have hlt : ((i : Int) < (ps.length : Int)) = False := eq_false (by omega)
    simp only [go_sem, reduceIte, Nat.reduceEqDiff, Nat.reduceAdd, Nat.reduceSub, Nat.reduceLeDiff, Nat.reduceLT, reduceCtorEq, Int.reduceLT, Int.reduceLE, Int.reduceEq, Int.reduceBEq, Int.reduceSub, Int.reduceAdd, Int.reduceMul, Int.reduceNeg, Int.reduceToNat, Nat.reduceMul, Nat.reduceBEq, index_rsl_if, setm, make_ints, condK_dec, wantK_dec, not_dec, and_dec, or_dec, seqK_ite, seqK_none, blockK_ite, blockK_none, opsK_ite, opsK_none, stepK_ite, stepK_none, bodyK_ite, bodyK_none, resK_ite, resK_none, leaveK_ite, leaveK_none, only_ite, only_none, bind_ite, gives_some, gives_none, gives_ite, then_normal, then_ret, then_exit, then_none, then_ite, Option.bind_none, Bool.not_eq_true', decide_eq_false_iff_not, Bool.and_eq_true, Bool.or_eq_true, Option.some.injEq, Int.not_lt, Int.not_le, lp87_0, hlt]
    rw [hd]; simp

theorem c49 (nl : Bool) (ps : List (Int × Int)) (hlen : ps.length < 1000000) (p q : Int) (st : St) :
    run L 49 [sl 2 nl (ps.map prAV), .agg [I p, I q]] st = some (B (decide ((p, q) ∈ ps)), st) := by
  have h106 : ∀ st, ∃ k : Int, run L 87 [sl 2 nl (ps.map prAV), .agg [I p, I q]] st = some (I k, st) ∧ (0 ≤ k ↔ (p, q) ∈ ps) := by
    intro st
    rw [run_pure (fn := ir87) rfl rfl]
    simp only [ir87, go_sem, reduceIte, Nat.reduceEqDiff, Nat.reduceAdd, Nat.reduceSub, Nat.reduceLeDiff, Nat.reduceLT, reduceCtorEq, Int.reduceLT, Int.reduceLE, Int.reduceEq, Int.reduceBEq, Int.reduceSub, Int.reduceAdd, Int.reduceMul, Int.reduceNeg, Int.reduceToNat, Nat.reduceMul, Nat.reduceBEq, List.length_map]
    generalize hg : lim (headed pure (run L) true _ lp87_0 _ _) _ _ = o
    obtain ⟨x, en, s, rfl, h2⟩ : ∃ x en s, o = some (x, en, s) ∧ _ := by rw [← hg]; exact loop87 nl ps hlen p q 0 (by omega) _ _ (by simp only [go_sem, reduceIte, Nat.reduceEqDiff, Nat.reduceAdd, Nat.reduceSub, Nat.reduceLeDiff, Nat.reduceLT, reduceCtorEq, Int.reduceLT, Int.reduceLE, Int.reduceEq, Int.reduceBEq, Int.reduceSub, Int.reduceAdd, Int.reduceMul, Int.reduceNeg, Int.reduceToNat, Nat.reduceMul, Nat.reduceBEq] <;> rfl)
    clear hg
    rw [List.drop_zero] at h2
    by_cases h : (p, q) ∈ ps
    · rw [if_pos h] at h2
      obtain ⟨rfl, k, hk, h3⟩ := h2
      exact ⟨k, by simp only [go_sem, reduceIte, Nat.reduceEqDiff, Nat.reduceAdd, Nat.reduceSub, Nat.reduceLeDiff, Nat.reduceLT, reduceCtorEq, Int.reduceLT, Int.reduceLE, Int.reduceEq, Int.reduceBEq, Int.reduceSub, Int.reduceAdd, Int.reduceMul, Int.reduceNeg, Int.reduceToNat, Nat.reduceMul, Nat.reduceBEq, h3], by simp [h, hk]⟩
    · rw [if_neg h] at h2
      subst h2
      exact ⟨-1, by simp only [go_sem, reduceIte, Nat.reduceEqDiff, Nat.reduceAdd, Nat.reduceSub, Nat.reduceLeDiff, Nat.reduceLT, reduceCtorEq, Int.reduceLT, Int.reduceLE, Int.reduceEq, Int.reduceBEq, Int.reduceSub, Int.reduceAdd, Int.reduceMul, Int.reduceNeg, Int.reduceToNat, Nat.reduceMul, Nat.reduceBEq], by simp [h]⟩
  rw [run_pure (fn := ir49) rfl rfl]
  obtain ⟨k, h1, h2⟩ := h106 ⟨[[I p, I q]], []⟩
  simp only [ir49, go_sem, reduceIte, Nat.reduceEqDiff, Nat.reduceAdd, Nat.reduceSub, Nat.reduceLeDiff, Nat.reduceLT, reduceCtorEq, Int.reduceLT, Int.reduceLE, Int.reduceEq, Int.reduceBEq, Int.reduceSub, Int.reduceAdd, Int.reduceMul, Int.reduceNeg, Int.reduceToNat, Nat.reduceMul, Nat.reduceBEq, h1, h2]

abbrev listAV (l : List Int) : AV := sl 1 false (l.map I)
theorem index_lists (nl : Bool) (xs : List (List Int)) (i : Nat) (h : i < xs.length) : indexSAV 1 (sl 1 nl (xs.map listAV)) (.v (.int .i64 i)) = some (.eptr (listAV xs[i]) 0) := by
  rw [index_sl _ _ _ _ _ (by omega) (by simpa using h)]
  simp
theorem loop22 (n1 n2 : Bool) (xs ys : List Int) (hl : xs.length = ys.length) (hlen : xs.length < 1000000) (i : Nat) (hok : i ≤ xs.length) (env : Env) (st : St)
    (hg : gcAV true 0 0 (canon env [0, 1, 5]) st = ([(0, sl 1 n1 (xs.map I)), (1, sl 1 n2 (ys.map I)), (5, I i)], ⟨[], []⟩)) :
    ∃ x_1 en s, lim (headed pure (run L) true [0, 1, 5] lp22_0 0 0) env st = some (x_1, en, s) ∧ (if xs.drop i = ys.drop i then x_1 = .exit 0 else x_1 = .ret ∧ en.get 4 = B false) := by
  refine loop_wp (α := Nat) (fun i => xs.length - i) (fun i => i ≤ xs.length) (fun i => ([(0, sl 1 n1 (xs.map I)), (1, sl 1 n2 (ys.map I)), (5, I i)], ⟨[], []⟩)) (fun i x_1 en s => if xs.drop i = ys.drop i then x_1 = .exit 0 else x_1 = .ret ∧ en.get 4 = B false) (fun i hok => ?_) i hok env st hg
  by_cases h : i < xs.length
  · have hx := index_ints n1 xs i h
    have hy := index_ints n2 ys i (by omega)
    have hs := succ64 i (by omega)
    have hd : xs.drop i = xs[i] :: xs.drop (i + 1) := List.drop_eq_getElem_cons h
    have hd2 : ys.drop i = ys[i] :: ys.drop (i + 1) := List.drop_eq_getElem_cons (by omega)
    have hlt : ((i : Int) < (xs.length : Int)) = True := eq_true (by omega)
    rw [hd, hd2]
    generalize xs[i] = a at *
    generalize ys[i]'(by omega) = b at *
    by_cases p : a = b
    · simp only [go_sem, reduceIte, Nat.reduceEqDiff, Nat.reduceAdd, Nat.reduceSub, Nat.reduceLeDiff, Nat.reduceLT, reduceCtorEq, Int.reduceLT, Int.reduceLE, Int.reduceEq, Int.reduceBEq, Int.reduceSub, Int.reduceAdd, Int.reduceMul, Int.reduceNeg, Int.reduceToNat, Nat.reduceMul, Nat.reduceBEq, index_rsl_if, setm, make_ints, condK_dec, wantK_dec, not_dec, and_dec, or_dec, seqK_ite, seqK_none, blockK_ite, blockK_none, opsK_ite, opsK_none, stepK_ite, stepK_none, bodyK_ite, bodyK_none, resK_ite, resK_none, leaveK_ite, leaveK_none, only_ite, only_none, bind_ite, gives_some, gives_none, gives_ite, then_normal, then_ret, then_exit, then_none, then_ite, Option.bind_none, Bool.not_eq_true', decide_eq_false_iff_not, Bool.and_eq_true, Bool.or_eq_true, Option.some.injEq, Int.not_lt, Int.not_le, lp22_0, hx, hy, hlt, p, hs, List.length_map]
      refine ⟨i + 1, by simp only [go_sem, reduceIte, Nat.reduceEqDiff, Nat.reduceAdd, Nat.reduceSub, Nat.reduceLeDiff, Nat.reduceLT, reduceCtorEq, Int.reduceLT, Int.reduceLE, Int.reduceEq, Int.reduceBEq, Int.reduceSub, Int.reduceAdd, Int.reduceMul, Int.reduceNeg, Int.reduceToNat, Nat.reduceMul, Nat.reduceBEq, ren1_locm, loc_tips, locT_eq] <;> rfl, ?_, ?_, fun x en s hq => ?_⟩
      · omega
      · omega
      · simp only [List.cons.injEq, p, true_and]; exact hq
    · simp only [go_sem, reduceIte, Nat.reduceEqDiff, Nat.reduceAdd, Nat.reduceSub, Nat.reduceLeDiff, Nat.reduceLT, reduceCtorEq, Int.reduceLT, Int.reduceLE, Int.reduceEq, Int.reduceBEq, Int.reduceSub, Int.reduceAdd, Int.reduceMul, Int.reduceNeg, Int.reduceToNat, Nat.reduceMul, Nat.reduceBEq, index_rsl_if, setm, make_ints, condK_dec, wantK_dec, not_dec, and_dec, or_dec, seqK_ite, seqK_none, blockK_ite, blockK_none, opsK_ite, opsK_none, stepK_ite, stepK_none, bodyK_ite, bodyK_none, resK_ite, resK_none, leaveK_ite, leaveK_none, only_ite, only_none, bind_ite, gives_some, gives_none, gives_ite, then_normal, then_ret, then_exit, then_none, then_ite, Option.bind_none, Bool.not_eq_true', decide_eq_false_iff_not, Bool.and_eq_true, Bool.or_eq_true, Option.some.injEq, Int.not_lt, Int.not_le, lp22_0, hx, hy, hlt, p, List.length_map]
      rw [if_neg (by simp [p])]; trivial
  · have hd : xs.drop i = [] := List.drop_eq_nil_of_le (by omega)
    have hd2 : ys.drop i = [] := List.drop_eq_nil_of_le (by omega)
    have hlt : ((i : Int) < (xs.length : Int)) = False := eq_false (by omega)
    simp only [go_sem, reduceIte, Nat.reduceEqDiff, Nat.reduceAdd, Nat.reduceSub, Nat.reduceLeDiff, Nat.reduceLT, reduceCtorEq, Int.reduceLT, Int.reduceLE, Int.reduceEq, Int.reduceBEq, Int.reduceSub, Int.reduceAdd, Int.reduceMul, Int.reduceNeg, Int.reduceToNat, Nat.reduceMul, Nat.reduceBEq, index_rsl_if, setm, make_ints, condK_dec, wantK_dec, not_dec, and_dec, or_dec, seqK_ite, seqK_none, blockK_ite, blockK_none, opsK_ite, opsK_none, stepK_ite, stepK_none, bodyK_ite, bodyK_none, resK_ite, resK_none, leaveK_ite, leaveK_none, only_ite, only_none, bind_ite, gives_some, gives_none, gives_ite, then_normal, then_ret, then_exit, then_none, then_ite, Option.bind_none, Bool.not_eq_true', decide_eq_false_iff_not, Bool.and_eq_true, Bool.or_eq_true, Option.some.injEq, Int.not_lt, Int.not_le, lp22_0, hlt, List.length_map]
    rw [hd, hd2]; simp

theorem c22 (n1 n2 : Bool) (xs ys : List Int) (hlen : xs.length < 1000000) (st : St) : run L 22 [sl 1 n1 (xs.map I), sl 1 n2 (ys.map I)] st = some (B (decide (xs = ys)), st) := by
  rw [run_pure (fn := ir22) rfl rfl]
  by_cases hl : xs.length = ys.length
  · simp only [ir22, go_sem, reduceIte, Nat.reduceEqDiff, Nat.reduceAdd, Nat.reduceSub, Nat.reduceLeDiff, Nat.reduceLT, reduceCtorEq, Int.reduceLT, Int.reduceLE, Int.reduceEq, Int.reduceBEq, Int.reduceSub, Int.reduceAdd, Int.reduceMul, Int.reduceNeg, Int.reduceToNat, Nat.reduceMul, Nat.reduceBEq, List.length_map, hl]
    generalize hg : lim (headed pure (run L) true _ lp22_0 _ _) _ _ = o
    obtain ⟨x, en, s, rfl, h2⟩ : ∃ x en s, o = some (x, en, s) ∧ _ := by rw [← hg]; exact loop22 n1 n2 xs ys hl hlen 0 (by omega) _ _ (by simp only [go_sem, reduceIte, Nat.reduceEqDiff, Nat.reduceAdd, Nat.reduceSub, Nat.reduceLeDiff, Nat.reduceLT, reduceCtorEq, Int.reduceLT, Int.reduceLE, Int.reduceEq, Int.reduceBEq, Int.reduceSub, Int.reduceAdd, Int.reduceMul, Int.reduceNeg, Int.reduceToNat, Nat.reduceMul, Nat.reduceBEq] <;> rfl)
    clear hg
    simp only [List.drop_zero] at h2
    by_cases h : xs = ys
    · rw [if_pos h] at h2
      subst h2
      simp only [go_sem, reduceIte, Nat.reduceEqDiff, Nat.reduceAdd, Nat.reduceSub, Nat.reduceLeDiff, Nat.reduceLT, reduceCtorEq, Int.reduceLT, Int.reduceLE, Int.reduceEq, Int.reduceBEq, Int.reduceSub, Int.reduceAdd, Int.reduceMul, Int.reduceNeg, Int.reduceToNat, Nat.reduceMul, Nat.reduceBEq, h]
    · rw [if_neg h] at h2
      obtain ⟨rfl, h3⟩ := h2
      simp only [go_sem, reduceIte, Nat.reduceEqDiff, Nat.reduceAdd, Nat.reduceSub, Nat.reduceLeDiff, Nat.reduceLT, reduceCtorEq, Int.reduceLT, Int.reduceLE, Int.reduceEq, Int.reduceBEq, Int.reduceSub, Int.reduceAdd, Int.reduceMul, Int.reduceNeg, Int.reduceToNat, Nat.reduceMul, Nat.reduceBEq, h3, h]
  · have hl2 : ((xs.length : Int) = (ys.length : Int)) = False := eq_false (by omega)
    have hne : ¬ xs = ys := fun h => hl (by rw [h])
    simp only [ir22, go_sem, reduceIte, Nat.reduceEqDiff, Nat.reduceAdd, Nat.reduceSub, Nat.reduceLeDiff, Nat.reduceLT, reduceCtorEq, Int.reduceLT, Int.reduceLE, Int.reduceEq, Int.reduceBEq, Int.reduceSub, Int.reduceAdd, Int.reduceMul, Int.reduceNeg, Int.reduceToNat, Nat.reduceMul, Nat.reduceBEq, List.length_map, hl2, hne]
theorem loop23 (n1 n2 : Bool) (xs ys : List (List Int)) (hl : xs.length = ys.length) (hlen : xs.length < 1000000) (hx : ∀ l ∈ xs, l.length < 1000000) (i : Nat) (hok : i ≤ xs.length) (env : Env) (st : St)
    (hg : gcAV true 0 0 (canon env [0, 1, 5]) st = ([(0, sl 1 n1 (xs.map listAV)), (1, sl 1 n2 (ys.map listAV)), (5, I i)], ⟨[], []⟩)) :
    ∃ x_1 en s, lim (headed pure (run L) true [0, 1, 5] lp23_0 0 0) env st = some (x_1, en, s) ∧ (if xs.drop i = ys.drop i then x_1 = .exit 0 else x_1 = .ret ∧ en.get 4 = B false) := by
  refine loop_wp (α := Nat) (fun i => xs.length - i) (fun i => i ≤ xs.length) (fun i => ([(0, sl 1 n1 (xs.map listAV)), (1, sl 1 n2 (ys.map listAV)), (5, I i)], ⟨[], []⟩)) (fun i x_1 en s => if xs.drop i = ys.drop i then x_1 = .exit 0 else x_1 = .ret ∧ en.get 4 = B false) (fun i hok => ?_) i hok env st hg
  by_cases h : i < xs.length
  · have hix := index_lists n1 xs i h
    have hiy := index_lists n2 ys i (by omega)
    have hs := succ64 i (by omega)
    have hd : xs.drop i = xs[i] :: xs.drop (i + 1) := List.drop_eq_getElem_cons h
    have hd2 : ys.drop i = ys[i] :: ys.drop (i + 1) := List.drop_eq_getElem_cons (by omega)
    have hlt : ((i : Int) < (xs.length : Int)) = True := eq_true (by omega)
    have hxl := hx xs[i] (List.getElem_mem h)
    rw [hd, hd2]
    generalize xs[i] = a at *
    generalize ys[i]'(by omega) = b at *
    have h21 := fun st => c22 false false a b hxl st
    by_cases p : a = b
    · subst p
      have h21' : ∀ st, run L 22 [sl 1 false (a.map I), sl 1 false (a.map I)] st = some (B true, st) := fun st => by rw [h21 st]; simp
      simp only [go_sem, reduceIte, Nat.reduceEqDiff, Nat.reduceAdd, Nat.reduceSub, Nat.reduceLeDiff, Nat.reduceLT, reduceCtorEq, Int.reduceLT, Int.reduceLE, Int.reduceEq, Int.reduceBEq, Int.reduceSub, Int.reduceAdd, Int.reduceMul, Int.reduceNeg, Int.reduceToNat, Nat.reduceMul, Nat.reduceBEq, index_rsl_if, setm, make_ints, condK_dec, wantK_dec, not_dec, and_dec, or_dec, seqK_ite, seqK_none, blockK_ite, blockK_none, opsK_ite, opsK_none, stepK_ite, stepK_none, bodyK_ite, bodyK_none, resK_ite, resK_none, leaveK_ite, leaveK_none, only_ite, only_none, bind_ite, gives_some, gives_none, gives_ite, then_normal, then_ret, then_exit, then_none, then_ite, Option.bind_none, Bool.not_eq_true', decide_eq_false_iff_not, Bool.and_eq_true, Bool.or_eq_true, Option.some.injEq, Int.not_lt, Int.not_le, lp23_0, hix, hiy, hlt, h21', hs, List.length_map]
      refine ⟨i + 1, by simp only [go_sem, reduceIte, Nat.reduceEqDiff, Nat.reduceAdd, Nat.reduceSub, Nat.reduceLeDiff, Nat.reduceLT, reduceCtorEq, Int.reduceLT, Int.reduceLE, Int.reduceEq, Int.reduceBEq, Int.reduceSub, Int.reduceAdd, Int.reduceMul, Int.reduceNeg, Int.reduceToNat, Nat.reduceMul, Nat.reduceBEq, ren1_locm, loc_tips, locT_eq] <;> rfl, ?_, ?_, fun x en s hq => ?_⟩
      · omega
      · omega
      · simp only [List.cons.injEq, true_and]; exact hq
    · have h21' : ∀ st, run L 22 [sl 1 false (a.map I), sl 1 false (b.map I)] st = some (B false, st) := fun st => by rw [h21 st]; simp [p]
      simp only [go_sem, reduceIte, Nat.reduceEqDiff, Nat.reduceAdd, Nat.reduceSub, Nat.reduceLeDiff, Nat.reduceLT, reduceCtorEq, Int.reduceLT, Int.reduceLE, Int.reduceEq, Int.reduceBEq, Int.reduceSub, Int.reduceAdd, Int.reduceMul, Int.reduceNeg, Int.reduceToNat, Nat.reduceMul, Nat.reduceBEq, index_rsl_if, setm, make_ints, condK_dec, wantK_dec, not_dec, and_dec, or_dec, seqK_ite, seqK_none, blockK_ite, blockK_none, opsK_ite, opsK_none, stepK_ite, stepK_none, bodyK_ite, bodyK_none, resK_ite, resK_none, leaveK_ite, leaveK_none, only_ite, only_none, bind_ite, gives_some, gives_none, gives_ite, then_normal, then_ret, then_exit, then_none, then_ite, Option.bind_none, Bool.not_eq_true', decide_eq_false_iff_not, Bool.and_eq_true, Bool.or_eq_true, Option.some.injEq, Int.not_lt, Int.not_le, lp23_0, hix, hiy, hlt, h21', List.length_map]
      rw [if_neg (by simp [p])]; trivial
  · have hd : xs.drop i = [] := List.drop_eq_nil_of_le (by omega)
    have hd2 : ys.drop i = [] := List.drop_eq_nil_of_le (by omega)
    have hlt : ((i : Int) < (xs.length : Int)) = False := eq_false (by omega)
    simp only [go_sem, reduceIte, Nat.reduceEqDiff, Nat.reduceAdd, Nat.reduceSub, Nat.reduceLeDiff, Nat.reduceLT, reduceCtorEq, Int.reduceLT, Int.reduceLE, Int.reduceEq, Int.reduceBEq, Int.reduceSub, Int.reduceAdd, Int.reduceMul, Int.reduceNeg, Int.reduceToNat, Nat.reduceMul, Nat.reduceBEq, index_rsl_if, setm, make_ints, condK_dec, wantK_dec, not_dec, and_dec, or_dec, seqK_ite, seqK_none, blockK_ite, blockK_none, opsK_ite, opsK_none, stepK_ite, stepK_none, bodyK_ite, bodyK_none, resK_ite, resK_none, leaveK_ite, leaveK_none, only_ite, only_none, bind_ite, gives_some, gives_none, gives_ite, then_normal, then_ret, then_exit, then_none, then_ite, Option.bind_none, Bool.not_eq_true', decide_eq_false_iff_not, Bool.and_eq_true, Bool.or_eq_true, Option.some.injEq, Int.not_lt, Int.not_le, lp23_0, hlt, List.length_map]
    rw [hd, hd2]; simp

theorem c23 (n1 n2 : Bool) (xs ys : List (List Int)) (hlen : xs.length < 1000000) (hx : ∀ l ∈ xs, l.length < 1000000) (st : St) : run L 23 [sl 1 n1 (xs.map listAV), sl 1 n2 (ys.map listAV)] st = some (B (decide (xs = ys)), st) := by
  rw [run_pure (fn := ir23) rfl rfl]
  by_cases hl : xs.length = ys.length
  · simp only [ir23, go_sem, reduceIte, Nat.reduceEqDiff, Nat.reduceAdd, Nat.reduceSub, Nat.reduceLeDiff, Nat.reduceLT, reduceCtorEq, Int.reduceLT, Int.reduceLE, Int.reduceEq, Int.reduceBEq, Int.reduceSub, Int.reduceAdd, Int.reduceMul, Int.reduceNeg, Int.reduceToNat, Nat.reduceMul, Nat.reduceBEq, List.length_map, hl]
    generalize hg : lim (headed pure (run L) true _ lp23_0 _ _) _ _ = o
    obtain ⟨x, en, s, rfl, h2⟩ : ∃ x en s, o = some (x, en, s) ∧ _ := by rw [← hg]; exact loop23 n1 n2 xs ys hl hlen hx 0 (by omega) _ _ (by simp only [go_sem, reduceIte, Nat.reduceEqDiff, Nat.reduceAdd, Nat.reduceSub, Nat.reduceLeDiff, Nat.reduceLT, reduceCtorEq, Int.reduceLT, Int.reduceLE, Int.reduceEq, Int.reduceBEq, Int.reduceSub, Int.reduceAdd, Int.reduceMul, Int.reduceNeg, Int.reduceToNat, Nat.reduceMul, Nat.reduceBEq] <;> rfl)
    clear hg
    simp only [List.drop_zero] at h2
    by_cases h : xs = ys
    · rw [if_pos h] at h2
      subst h2
      simp only [go_sem, reduceIte, Nat.reduceEqDiff, Nat.reduceAdd, Nat.reduceSub, Nat.reduceLeDiff, Nat.reduceLT, reduceCtorEq, Int.reduceLT, Int.reduceLE, Int.reduceEq, Int.reduceBEq, Int.reduceSub, Int.reduceAdd, Int.reduceMul, Int.reduceNeg, Int.reduceToNat, Nat.reduceMul, Nat.reduceBEq, h]
    · rw [if_neg h] at h2
      obtain ⟨rfl, h3⟩ := h2
      simp only [go_sem, reduceIte, Nat.reduceEqDiff, Nat.reduceAdd, Nat.reduceSub, Nat.reduceLeDiff, Nat.reduceLT, reduceCtorEq, Int.reduceLT, Int.reduceLE, Int.reduceEq, Int.reduceBEq, Int.reduceSub, Int.reduceAdd, Int.reduceMul, Int.reduceNeg, Int.reduceToNat, Nat.reduceMul, Nat.reduceBEq, h3, h]
  · have hl2 : ((xs.length : Int) = (ys.length : Int)) = False := eq_false (by omega)
    have hne : ¬ xs = ys := fun h => hl (by rw [h])
    simp only [ir23, go_sem, reduceIte, Nat.reduceEqDiff, Nat.reduceAdd, Nat.reduceSub, Nat.reduceLeDiff, Nat.reduceLT, reduceCtorEq, Int.reduceLT, Int.reduceLE, Int.reduceEq, Int.reduceBEq, Int.reduceSub, Int.reduceAdd, Int.reduceMul, Int.reduceNeg, Int.reduceToNat, Nat.reduceMul, Nat.reduceBEq, List.length_map, hl2, hne]


/-- What is wrong with a pair behind others; with pairs; with a book. -/
def prErr (n : Int) (seen : List (Int × Int)) (p : Int × Int) : Int := if p.1 < 0 ∨ p.2 < 0 ∨ n ≤ p.1 ∨ n ≤ p.2 then 2 else if p.1 = p.2 then 5 else if p ∈ seen then 6 else 0
def prsErr (n : Int) : List (Int × Int) → List (Int × Int) → Int
  | _, [] => 0
  | seen, p :: r => if prErr n seen p = 0 then prsErr n (seen ++ [p]) r else prErr n seen p
def chk (n : Int) (ps : List (Int × Int)) : Int := if n < 1 ∨ 7 < n then 1 else if 16 < ps.length then 3 else prsErr n [] ps

theorem loop24 (nl : Bool) (n : Int) (hn : 1 ≤ n ∧ n ≤ 7) (ps : List (Int × Int)) (hlen : ps.length ≤ 16) (i : Nat) (hok : i ≤ ps.length) (env : Env) (st : St)
    (hg : gcAV true 1 0 (canon env [1, 20, 21, 22]) st = ([(1, .ptr 0 0), (20, sl 2 nl (ps.map prAV)), (21, I ps.length), (22, I i)], ⟨[bkCells nl n ps], []⟩)) :
    ∃ x_1 en s, lim (headed pure (run L) true [1, 20, 21, 22] lp24_0 1 0) env st = some (x_1, en, s) ∧ (if prsErr n (ps.take i) (ps.drop i) = 0 then x_1 = .exit 1 else x_1 = .ret ∧ en.get 2 = I (prsErr n (ps.take i) (ps.drop i))) := by
  refine loop_wp (α := Nat) (fun i => ps.length - i) (fun i => i ≤ ps.length) (fun i => ([(1, .ptr 0 0), (20, sl 2 nl (ps.map prAV)), (21, I ps.length), (22, I i)], ⟨[bkCells nl n ps], []⟩)) (fun i x_1 en s => if prsErr n (ps.take i) (ps.drop i) = 0 then x_1 = .exit 1 else x_1 = .ret ∧ en.get 2 = I (prsErr n (ps.take i) (ps.drop i))) (fun i hok => ?_) i hok env st hg
  by_cases h : i < ps.length
  · have hx := index_prs nl ps i h
    have hs := succ64 i (by omega)
    have hd : ps.drop i = ps[i] :: ps.drop (i + 1) := List.drop_eq_getElem_cons h
    have ht : ps.take (i + 1) = ps.take i ++ [ps[i]] := by rw [List.take_succ_eq_append_getElem h]
    have hsl := slice_prs nl ps i h
    have h76 := fun p q st => c49 false (ps.take i) (by rw [List.length_take]; omega) p q st
    rw [hd]
    generalize ps[i] = c at *
    obtain ⟨u, v⟩ := c
    have hlt : ((i : Int) < (ps.length : Int)) = True := eq_true (by omega)
    simp only at hx
    have hmn : (if v < u then v else u) = min u v := by rw [Int.min_def]; split <;> split <;> omega
    have hmx : (if u < v then v else u) = max u v := by rw [Int.max_def]; split <;> split <;> omega
    by_cases p1 : min u v < 0
    · have he : prErr n (ps.take i) (u, v) = 2 := by unfold prErr; simp only; rw [if_pos (by omega)]
      simp only [go_sem, reduceIte, Nat.reduceEqDiff, Nat.reduceAdd, Nat.reduceSub, Nat.reduceLeDiff, Nat.reduceLT, reduceCtorEq, Int.reduceLT, Int.reduceLE, Int.reduceEq, Int.reduceBEq, Int.reduceSub, Int.reduceAdd, Int.reduceMul, Int.reduceNeg, Int.reduceToNat, Nat.reduceMul, Nat.reduceBEq, index_rsl_if, setm, make_ints, condK_dec, wantK_dec, not_dec, and_dec, or_dec, seqK_ite, seqK_none, blockK_ite, blockK_none, opsK_ite, opsK_none, stepK_ite, stepK_none, bodyK_ite, bodyK_none, resK_ite, resK_none, leaveK_ite, leaveK_none, only_ite, only_none, bind_ite, gives_some, gives_none, gives_ite, then_normal, then_ret, then_exit, then_none, then_ite, Option.bind_none, Bool.not_eq_true', decide_eq_false_iff_not, Bool.and_eq_true, Bool.or_eq_true, Option.some.injEq, Int.not_lt, Int.not_le, lp24_0, hx, hlt, p1, hmn, hmx, List.length_map]
      simp [prsErr, he]
    by_cases p1b : n ≤ max u v
    · have he : prErr n (ps.take i) (u, v) = 2 := by unfold prErr; simp only; rw [if_pos (by omega)]
      simp only [go_sem, reduceIte, Nat.reduceEqDiff, Nat.reduceAdd, Nat.reduceSub, Nat.reduceLeDiff, Nat.reduceLT, reduceCtorEq, Int.reduceLT, Int.reduceLE, Int.reduceEq, Int.reduceBEq, Int.reduceSub, Int.reduceAdd, Int.reduceMul, Int.reduceNeg, Int.reduceToNat, Nat.reduceMul, Nat.reduceBEq, index_rsl_if, setm, make_ints, condK_dec, wantK_dec, not_dec, and_dec, or_dec, seqK_ite, seqK_none, blockK_ite, blockK_none, opsK_ite, opsK_none, stepK_ite, stepK_none, bodyK_ite, bodyK_none, resK_ite, resK_none, leaveK_ite, leaveK_none, only_ite, only_none, bind_ite, gives_some, gives_none, gives_ite, then_normal, then_ret, then_exit, then_none, then_ite, Option.bind_none, Bool.not_eq_true', decide_eq_false_iff_not, Bool.and_eq_true, Bool.or_eq_true, Option.some.injEq, Int.not_lt, Int.not_le, lp24_0, hx, hlt, p1, p1b, hmn, hmx, List.length_map]
      simp [prsErr, he]
    by_cases p2 : u = v
    · have he : prErr n (ps.take i) (u, v) = 5 := by unfold prErr; simp only; rw [if_neg (by omega), if_pos p2]
      have p2' : (u = v) = True := eq_true p2
      simp only [go_sem, reduceIte, Nat.reduceEqDiff, Nat.reduceAdd, Nat.reduceSub, Nat.reduceLeDiff, Nat.reduceLT, reduceCtorEq, Int.reduceLT, Int.reduceLE, Int.reduceEq, Int.reduceBEq, Int.reduceSub, Int.reduceAdd, Int.reduceMul, Int.reduceNeg, Int.reduceToNat, Nat.reduceMul, Nat.reduceBEq, index_rsl_if, setm, make_ints, condK_dec, wantK_dec, not_dec, and_dec, or_dec, seqK_ite, seqK_none, blockK_ite, blockK_none, opsK_ite, opsK_none, stepK_ite, stepK_none, bodyK_ite, bodyK_none, resK_ite, resK_none, leaveK_ite, leaveK_none, only_ite, only_none, bind_ite, gives_some, gives_none, gives_ite, then_normal, then_ret, then_exit, then_none, then_ite, Option.bind_none, Bool.not_eq_true', decide_eq_false_iff_not, Bool.and_eq_true, Bool.or_eq_true, Option.some.injEq, Int.not_lt, Int.not_le, lp24_0, hx, hlt, p1, p1b, hmn, hmx, p2', List.length_map]
      simp [prsErr, he]
    · by_cases p3 : (u, v) ∈ ps.take i
      · have he : prErr n (ps.take i) (u, v) = 6 := by unfold prErr; simp only; rw [if_neg (by omega), if_neg p2, if_pos p3]
        simp only [go_sem, reduceIte, Nat.reduceEqDiff, Nat.reduceAdd, Nat.reduceSub, Nat.reduceLeDiff, Nat.reduceLT, reduceCtorEq, Int.reduceLT, Int.reduceLE, Int.reduceEq, Int.reduceBEq, Int.reduceSub, Int.reduceAdd, Int.reduceMul, Int.reduceNeg, Int.reduceToNat, Nat.reduceMul, Nat.reduceBEq, index_rsl_if, setm, make_ints, condK_dec, wantK_dec, not_dec, and_dec, or_dec, seqK_ite, seqK_none, blockK_ite, blockK_none, opsK_ite, opsK_none, stepK_ite, stepK_none, bodyK_ite, bodyK_none, resK_ite, resK_none, leaveK_ite, leaveK_none, only_ite, only_none, bind_ite, gives_some, gives_none, gives_ite, then_normal, then_ret, then_exit, then_none, then_ite, Option.bind_none, Bool.not_eq_true', decide_eq_false_iff_not, Bool.and_eq_true, Bool.or_eq_true, Option.some.injEq, Int.not_lt, Int.not_le, lp24_0, hx, hlt, p1, p1b, hmn, hmx, p2, hsl, h76, p3, List.length_map]
        simp [prsErr, he]
      · have he : prErr n (ps.take i) (u, v) = 0 := by unfold prErr; simp only; rw [if_neg (by omega), if_neg p2, if_neg p3]
        simp only [go_sem, reduceIte, Nat.reduceEqDiff, Nat.reduceAdd, Nat.reduceSub, Nat.reduceLeDiff, Nat.reduceLT, reduceCtorEq, Int.reduceLT, Int.reduceLE, Int.reduceEq, Int.reduceBEq, Int.reduceSub, Int.reduceAdd, Int.reduceMul, Int.reduceNeg, Int.reduceToNat, Nat.reduceMul, Nat.reduceBEq, index_rsl_if, setm, make_ints, condK_dec, wantK_dec, not_dec, and_dec, or_dec, seqK_ite, seqK_none, blockK_ite, blockK_none, opsK_ite, opsK_none, stepK_ite, stepK_none, bodyK_ite, bodyK_none, resK_ite, resK_none, leaveK_ite, leaveK_none, only_ite, only_none, bind_ite, gives_some, gives_none, gives_ite, then_normal, then_ret, then_exit, then_none, then_ite, Option.bind_none, Bool.not_eq_true', decide_eq_false_iff_not, Bool.and_eq_true, Bool.or_eq_true, Option.some.injEq, Int.not_lt, Int.not_le, lp24_0, hx, hlt, p1, p1b, hmn, hmx, p2, hsl, h76, p3, hs, List.length_map]
        refine ⟨i + 1, by simp only [go_sem, reduceIte, Nat.reduceEqDiff, Nat.reduceAdd, Nat.reduceSub, Nat.reduceLeDiff, Nat.reduceLT, reduceCtorEq, Int.reduceLT, Int.reduceLE, Int.reduceEq, Int.reduceBEq, Int.reduceSub, Int.reduceAdd, Int.reduceMul, Int.reduceNeg, Int.reduceToNat, Nat.reduceMul, Nat.reduceBEq, ren1_locm, loc_tips, locT_eq] <;> rfl, ?_, ?_, fun x en s hq => ?_⟩
        · omega
        · omega
        · have e2 : prsErr n (ps.take i) ((u, v) :: ps.drop (i + 1)) = prsErr n (ps.take (i + 1)) (ps.drop (i + 1)) := by simp only [prsErr, he, if_true, ht]
          rw [e2]; exact hq
  · have hd : ps.drop i = [] := List.drop_eq_nil_of_le (by omega)
    have hlt : ((i : Int) < (ps.length : Int)) = False := eq_false (by omega)
    simp only [go_sem, reduceIte, Nat.reduceEqDiff, Nat.reduceAdd, Nat.reduceSub, Nat.reduceLeDiff, Nat.reduceLT, reduceCtorEq, Int.reduceLT, Int.reduceLE, Int.reduceEq, Int.reduceBEq, Int.reduceSub, Int.reduceAdd, Int.reduceMul, Int.reduceNeg, Int.reduceToNat, Nat.reduceMul, Nat.reduceBEq, index_rsl_if, setm, make_ints, condK_dec, wantK_dec, not_dec, and_dec, or_dec, seqK_ite, seqK_none, blockK_ite, blockK_none, opsK_ite, opsK_none, stepK_ite, stepK_none, bodyK_ite, bodyK_none, resK_ite, resK_none, leaveK_ite, leaveK_none, only_ite, only_none, bind_ite, gives_some, gives_none, gives_ite, then_normal, then_ret, then_exit, then_none, then_ite, Option.bind_none, Bool.not_eq_true', decide_eq_false_iff_not, Bool.and_eq_true, Bool.or_eq_true, Option.some.injEq, Int.not_lt, Int.not_le, lp24_0, hlt, List.length_map]
    rw [hd]; simp [prsErr]

theorem c24 (nl : Bool) (n : Int) (ps : List (Int × Int)) (st : St) :
    run L 24 [bkAV nl n ps] st = some (I (chk n ps), st) := by
  rw [run_pure (fn := ir24) rfl rfl]
  unfold chk
  by_cases p0 : n < 1 ∨ 7 < n
  · rw [if_pos p0]
    by_cases a : n < 1
    · simp only [ir24, go_sem, reduceIte, Nat.reduceEqDiff, Nat.reduceAdd, Nat.reduceSub, Nat.reduceLeDiff, Nat.reduceLT, reduceCtorEq, Int.reduceLT, Int.reduceLE, Int.reduceEq, Int.reduceBEq, Int.reduceSub, Int.reduceAdd, Int.reduceMul, Int.reduceNeg, Int.reduceToNat, Nat.reduceMul, Nat.reduceBEq, a]
    · simp only [ir24, go_sem, reduceIte, Nat.reduceEqDiff, Nat.reduceAdd, Nat.reduceSub, Nat.reduceLeDiff, Nat.reduceLT, reduceCtorEq, Int.reduceLT, Int.reduceLE, Int.reduceEq, Int.reduceBEq, Int.reduceSub, Int.reduceAdd, Int.reduceMul, Int.reduceNeg, Int.reduceToNat, Nat.reduceMul, Nat.reduceBEq, a, show (7 < n) = True from eq_true (by omega)]
  · rw [if_neg p0]
    by_cases p1 : 16 < ps.length
    · have q1 : ((16 : Int) < (ps.length : Int)) = True := eq_true (by omega)
      rw [if_pos p1]
      simp only [ir24, go_sem, reduceIte, Nat.reduceEqDiff, Nat.reduceAdd, Nat.reduceSub, Nat.reduceLeDiff, Nat.reduceLT, reduceCtorEq, Int.reduceLT, Int.reduceLE, Int.reduceEq, Int.reduceBEq, Int.reduceSub, Int.reduceAdd, Int.reduceMul, Int.reduceNeg, Int.reduceToNat, Nat.reduceMul, Nat.reduceBEq, show (n < 1) = False from eq_false (by omega), show (7 < n) = False from eq_false (by omega), q1, List.length_map]
    · have q1 : ((16 : Int) < (ps.length : Int)) = False := eq_false (by omega)
      rw [if_neg p1]
      simp only [ir24, go_sem, reduceIte, Nat.reduceEqDiff, Nat.reduceAdd, Nat.reduceSub, Nat.reduceLeDiff, Nat.reduceLT, reduceCtorEq, Int.reduceLT, Int.reduceLE, Int.reduceEq, Int.reduceBEq, Int.reduceSub, Int.reduceAdd, Int.reduceMul, Int.reduceNeg, Int.reduceToNat, Nat.reduceMul, Nat.reduceBEq, show (n < 1) = False from eq_false (by omega), show (7 < n) = False from eq_false (by omega), q1, List.length_map]
      generalize hg : lim (headed pure (run L) true _ lp24_0 _ _) _ _ = o
      obtain ⟨x, en, s, rfl, h2⟩ : ∃ x en s, o = some (x, en, s) ∧ _ := by rw [← hg]; exact loop24 nl n (by omega) ps (by omega) 0 (by omega) _ _ (by simp only [go_sem, reduceIte, Nat.reduceEqDiff, Nat.reduceAdd, Nat.reduceSub, Nat.reduceLeDiff, Nat.reduceLT, reduceCtorEq, Int.reduceLT, Int.reduceLE, Int.reduceEq, Int.reduceBEq, Int.reduceSub, Int.reduceAdd, Int.reduceMul, Int.reduceNeg, Int.reduceToNat, Nat.reduceMul, Nat.reduceBEq] <;> rfl)
      clear hg
      simp only [List.drop_zero, List.take_zero] at h2
      by_cases h : prsErr n [] ps = 0
      · rw [if_pos h] at h2
        subst h2
        simp only [go_sem, reduceIte, Nat.reduceEqDiff, Nat.reduceAdd, Nat.reduceSub, Nat.reduceLeDiff, Nat.reduceLT, reduceCtorEq, Int.reduceLT, Int.reduceLE, Int.reduceEq, Int.reduceBEq, Int.reduceSub, Int.reduceAdd, Int.reduceMul, Int.reduceNeg, Int.reduceToNat, Nat.reduceMul, Nat.reduceBEq, h]
      · rw [if_neg h] at h2
        obtain ⟨rfl, h3⟩ := h2
        simp only [go_sem, reduceIte, Nat.reduceEqDiff, Nat.reduceAdd, Nat.reduceSub, Nat.reduceLeDiff, Nat.reduceLT, reduceCtorEq, Int.reduceLT, Int.reduceLE, Int.reduceEq, Int.reduceBEq, Int.reduceSub, Int.reduceAdd, Int.reduceMul, Int.reduceNeg, Int.reduceToNat, Nat.reduceMul, Nat.reduceBEq, h3]


theorem run_args {f : FuncId} {fn : IF} (hf : L.fns f = some fn) (hp : L.pure f = true) {args args' : List AV} (st : St) (h : pubs args = pubs args') : run L f args st = run L f args' st := by
  rw [run_pure hf hp, run_pure hf hp, h]
/-! ### a book by numbers -/
abbrev B8 (n : Int) : AV := .v (.int .u8 n)
def Byte (n : Int) : Prop := 0 ≤ n ∧ n ≤ 255
abbrev qAV (zs : List Int) : AV := .agg (zs.map B8)
theorem okRefsB (n : Nat) (xs : List Int) : okRefs n (xs.map B8) = true := okRefs_map B8 n (fun _ => rfl) xs
theorem renCellsB (n : Nat) (tips : List Nat) (acc : List (Nat × Nat)) (xs : List Int) : renCells n tips acc (xs.map B8) = (xs.map B8, acc) := renCells_map B8 n tips (fun _ _ => rfl) xs acc
theorem pubsB (xs : List Int) : pubs (xs.map B8) = xs.map B8 := pubs_map B8 (fun _ => rfl) xs
theorem storableB (xs : List Int) : (xs.map B8).all storable = true := by
  rw [List.all_eq_true]; intro x hx; rw [List.mem_map] at hx; obtain ⟨n, _, rfl⟩ := hx; rfl
theorem getB (zs : List Int) (a : Nat) (h : a < zs.length) : (zs.map B8)[a]? = some (B8 (zs.getD a 0)) := by
  rw [getm B8 zs 0 a, if_pos h]
theorem byte_getD {l : List Int} (h : ∀ n ∈ l, Byte n) (i : Nat) : Byte (l.getD i 0) := by
  rw [List.getD_eq_getElem?_getD]
  by_cases hi : i < l.length
  · rw [List.getElem?_eq_getElem hi]; exact h _ (List.getElem_mem hi)
  · rw [List.getElem?_eq_none (by omega)]; exact ⟨by simp, by simp⟩
theorem mod_range (a b : Int) (hb : 0 < b) : 0 ≤ a % b ∧ a % b < b := ⟨Int.emod_nonneg a (by omega), Int.emod_lt_of_pos a hb⟩

/-! ### a list of pairs that grows in a struct -/
def outAV (o : List (Int × Int)) : AV := loc 2 0 (o.map prAV)
def outT (o : List (Int × Int)) : List Nat := locT 0 (o.map prAV)
def outAcc (o : List (Int × Int)) : List (Nat × Nat) := if (o.map prAV).length = 0 then [] else [(0, (o.map prAV).length)]
theorem okRef_out (n : Nat) (o : List (Int × Int)) : okRef n (outAV o) = true := okRef_loc _ _ _ _
theorem storable_out (o : List (Int × Int)) : storable (outAV o) = true := storable_loc _ _ _
theorem shaped_out (o : List (Int × Int)) : (outAV o).shaped = true := shaped_loc _ _ _
theorem cells_out (o : List (Int × Int)) : (outAV o).cells = [outAV o] := cells_loc _ _ _
theorem ren1_out (o : List (Int × Int)) : ren1 0 (outT o) [] (outAV o) = (outAV o, outAcc o) := ren1_loc (k := 0) 2 (o.map prAV)
theorem outAcc_snd (o : List (Int × Int)) : (outAcc o).map (fun x => x.2) = outT o := by
  unfold outAcc outT locT; split <;> rfl
theorem fin_out (st : St) (o : List (Int × Int)) : fin st (outAV o) = sl 2 true (o.map prAV) := fin_loc st 2 0 _
theorem pub_out (o : List (Int × Int)) : pub (outAV o) = sl 2 true (o.map prAV) := pub_loc 2 0 _
theorem append_out (o : List (Int × Int)) (x y : Int) (s : List (List AV)) (h : o.length < 1000) : appendAV 2 (outAV o) [.agg [I x, I y]] ⟨s, outT o⟩ = some (outAV (o ++ [(x, y)]), ⟨s, outT (o ++ [(x, y)])⟩) :=
  append_locm (z := 2) (k := 0) prAV o (x, y) s (by omega) (by unfold maxGrow; omega)
theorem out_start : .v (.slice none 0 0) = outAV [] := rfl
theorem outT_nil : outT [] = [] := rfl
attribute [local go_sem] okRef_out storable_out shaped_out cells_out fin_out pub_out

/-- One more pair, if it is one and not there yet. -/
def mkStep (n : Int) (out : List (Int × Int)) (a b : Int) : List (Int × Int) :=
  if a % n ≠ b % n ∧ (a % n, b % n) ∉ out then out ++ [(a % n, b % n)] else out
def madeTo (n : Int) (zs : List Int) : Nat → List (Int × Int)
  | 0 => []
  | k + 1 => mkStep n (madeTo n zs k) (zs.getD (2 + k * 2) 0) (zs.getD (3 + k * 2) 0)
theorem madeTo_len (n : Int) (zs : List Int) : ∀ k, (madeTo n zs k).length ≤ k
  | 0 => by simp [madeTo]
  | k + 1 => by
    have := madeTo_len n zs k
    simp only [madeTo, mkStep]; split
    · simp; omega
    · omega
theorem tmod8 {a n : Int} (h : 0 ≤ a) : a.tmod n = a % n := Int.tmod_eq_emod_of_nonneg h

theorem loop45 (zs : List Int) (hzl : zs.length = 34) (hz : ∀ a ∈ zs, Byte a) (n : Int) (hn : 1 ≤ n ∧ n ≤ 7) (k : Nat) (hk : k ≤ 16) (i : Nat) (hok : i ≤ k) (env : Env) (st : St)
    (hg : gcAV true 3 0 (canon env [4, 5, 21, 22, 23]) st = ([(4, .ptr 1 0), (5, .ptr 2 0), (21, .rsl 0 2 k 16 2 true), (22, I k), (23, I i)], ⟨[zs.map B8, [I 0, sl 2 true []], [I n, outAV (madeTo n zs i)]], outT (madeTo n zs i)⟩)) :
    ∃ x_1 en s, lim (headed pure (run L) true [4, 5, 21, 22, 23] lp45_0 3 0) env st = some (x_1, en, s) ∧ (x_1 = .exit 0 ∧ en.get 4 = .ptr 1 0 ∧ en.get 5 = .ptr 2 0 ∧ s = ⟨[zs.map B8, [I 0, sl 2 true []], [I n, outAV (madeTo n zs k)]], outT (madeTo n zs k)⟩) := by
  refine loop_wp (α := Nat) (fun i => k - i) (fun i => i ≤ k) (fun i => ([(4, .ptr 1 0), (5, .ptr 2 0), (21, .rsl 0 2 k 16 2 true), (22, I k), (23, I i)], ⟨[zs.map B8, [I 0, sl 2 true []], [I n, outAV (madeTo n zs i)]], outT (madeTo n zs i)⟩)) (fun i x_1 en s => x_1 = .exit 0 ∧ en.get 4 = .ptr 1 0 ∧ en.get 5 = .ptr 2 0 ∧ s = ⟨[zs.map B8, [I 0, sl 2 true []], [I n, outAV (madeTo n zs k)]], outT (madeTo n zs k)⟩) (fun i hok => ?_) i hok env st hg
  by_cases h : i < k
  · have hs := succ64 i (by omega)
    have hlt : ((i : Int) < (k : Int)) = True := eq_true (by omega)
    have hi0 : ((0 : Int) ≤ (i : Int)) = True := eq_true (by omega)
    have hml := madeTo_len n zs i
    have hb1 : (2 + i * 2 + 2 ≤ 34) = True := eq_true (by omega)
    have hpair : ((zs.map B8).drop (2 + i * 2)).take 2 = [B8 (zs.getD (2 + i * 2) 0), B8 (zs.getD (3 + i * 2) 0)] := by
      have h1 : 2 + i * 2 < zs.length := by omega
      have h2 : 2 + i * 2 + 1 < zs.length := by omega
      have hd : zs.drop (2 + i * 2) = zs[2 + i * 2] :: zs[2 + i * 2 + 1] :: zs.drop (2 + i * 2 + 1 + 1) := by
        rw [List.drop_eq_getElem_cons h1, List.drop_eq_getElem_cons h2]
      have e1 : zs.getD (2 + i * 2) 0 = zs[2 + i * 2] := by rw [List.getD_eq_getElem?_getD, List.getElem?_eq_getElem h1]; rfl
      have e2 : zs.getD (3 + i * 2) 0 = zs[2 + i * 2 + 1] := by rw [show 3 + i * 2 = 2 + i * 2 + 1 by omega, List.getD_eq_getElem?_getD, List.getElem?_eq_getElem h2]; rfl
      rw [← List.map_drop, hd, e1, e2]
      rfl
    have ba := byte_getD hz (2 + i * 2)
    have bb := byte_getD hz (3 + i * 2)
    have hsucc : madeTo n zs (i + 1) = mkStep n (madeTo n zs i) (zs.getD (2 + i * 2) 0) (zs.getD (3 + i * 2) 0) := rfl
    generalize zs.getD (2 + i * 2) 0 = a at *
    generalize zs.getD (3 + i * 2) 0 = b at *
    unfold Byte at ba bb
    have wa := wrap64 a (by omega) (by omega)
    have wb := wrap64 b (by omega) (by omega)
    have zn : (n = 0) = False := eq_false (by omega)
    have ta : a.tmod n = a % n := tmod8 (by omega)
    have tb : b.tmod n = b % n := tmod8 (by omega)
    have ra := mod_range a n (by omega)
    have rb := mod_range b n (by omega)
    generalize madeTo n zs i = out at *
    have h49 : ∀ st, run L 49 [outAV out, .agg [I (a % n), I (b % n)]] st = some (B (decide ((a % n, b % n) ∈ out)), st) := fun st => by
      rw [← c49 true out (by omega) (a % n) (b % n) st]
      exact run_args (fn := ir49) rfl rfl st (by simp only [pubs, pub_out, pub_sl])
    have happ := fun s => append_out out (a % n) (b % n) s (by omega)
    unfold mkStep at hsucc
    generalize a % n = x at *
    generalize b % n = y at *
    by_cases p1 : x = y
    · rw [if_neg (by simp [p1])] at hsucc
      have p1' : (x = y) = True := eq_true p1
      simp only [go_sem, reduceIte, Nat.reduceEqDiff, Nat.reduceAdd, Nat.reduceSub, Nat.reduceLeDiff, Nat.reduceLT, reduceCtorEq, Int.reduceLT, Int.reduceLE, Int.reduceEq, Int.reduceBEq, Int.reduceSub, Int.reduceAdd, Int.reduceMul, Int.reduceNeg, Int.reduceToNat, Nat.reduceMul, Nat.reduceBEq, index_rsl_if, setm, make_ints, condK_dec, wantK_dec, not_dec, and_dec, or_dec, seqK_ite, seqK_none, blockK_ite, blockK_none, opsK_ite, opsK_none, stepK_ite, stepK_none, bodyK_ite, bodyK_none, resK_ite, resK_none, leaveK_ite, leaveK_none, only_ite, only_none, bind_ite, gives_some, gives_none, gives_ite, then_normal, then_ret, then_exit, then_none, then_ite, Option.bind_none, Bool.not_eq_true', decide_eq_false_iff_not, Bool.and_eq_true, Bool.or_eq_true, Option.some.injEq, Int.not_lt, Int.not_le, lp45_0, hlt, hi0, hs, hb1, hpair, hzl, wa, wb, zn, ta, tb, p1', List.length_map]
      refine ⟨i + 1, by simp only [go_sem, reduceIte, Nat.reduceEqDiff, Nat.reduceAdd, Nat.reduceSub, Nat.reduceLeDiff, Nat.reduceLT, reduceCtorEq, Int.reduceLT, Int.reduceLE, Int.reduceEq, Int.reduceBEq, Int.reduceSub, Int.reduceAdd, Int.reduceMul, Int.reduceNeg, Int.reduceToNat, Nat.reduceMul, Nat.reduceBEq, ren1_locm, loc_tips, locT_eq, hsucc, ren1_out, outAcc_snd, okRefsB, renCellsB] <;> rfl, ?_, ?_, fun x en s hq => ?_⟩
      · omega
      · omega
      · exact hq
    · by_cases p2 : (x, y) ∈ out
      · rw [if_neg (by simp [p2])] at hsucc
        simp only [go_sem, reduceIte, Nat.reduceEqDiff, Nat.reduceAdd, Nat.reduceSub, Nat.reduceLeDiff, Nat.reduceLT, reduceCtorEq, Int.reduceLT, Int.reduceLE, Int.reduceEq, Int.reduceBEq, Int.reduceSub, Int.reduceAdd, Int.reduceMul, Int.reduceNeg, Int.reduceToNat, Nat.reduceMul, Nat.reduceBEq, index_rsl_if, setm, make_ints, condK_dec, wantK_dec, not_dec, and_dec, or_dec, seqK_ite, seqK_none, blockK_ite, blockK_none, opsK_ite, opsK_none, stepK_ite, stepK_none, bodyK_ite, bodyK_none, resK_ite, resK_none, leaveK_ite, leaveK_none, only_ite, only_none, bind_ite, gives_some, gives_none, gives_ite, then_normal, then_ret, then_exit, then_none, then_ite, Option.bind_none, Bool.not_eq_true', decide_eq_false_iff_not, Bool.and_eq_true, Bool.or_eq_true, Option.some.injEq, Int.not_lt, Int.not_le, lp45_0, hlt, hi0, hs, hb1, hpair, hzl, wa, wb, zn, ta, tb, p1, h49, p2, List.length_map]
        refine ⟨i + 1, by simp only [go_sem, reduceIte, Nat.reduceEqDiff, Nat.reduceAdd, Nat.reduceSub, Nat.reduceLeDiff, Nat.reduceLT, reduceCtorEq, Int.reduceLT, Int.reduceLE, Int.reduceEq, Int.reduceBEq, Int.reduceSub, Int.reduceAdd, Int.reduceMul, Int.reduceNeg, Int.reduceToNat, Nat.reduceMul, Nat.reduceBEq, ren1_locm, loc_tips, locT_eq, hsucc, ren1_out, outAcc_snd, okRefsB, renCellsB] <;> rfl, ?_, ?_, fun x en s hq => ?_⟩
        · omega
        · omega
        · exact hq
      · rw [if_pos ⟨p1, p2⟩] at hsucc
        simp only [go_sem, reduceIte, Nat.reduceEqDiff, Nat.reduceAdd, Nat.reduceSub, Nat.reduceLeDiff, Nat.reduceLT, reduceCtorEq, Int.reduceLT, Int.reduceLE, Int.reduceEq, Int.reduceBEq, Int.reduceSub, Int.reduceAdd, Int.reduceMul, Int.reduceNeg, Int.reduceToNat, Nat.reduceMul, Nat.reduceBEq, index_rsl_if, setm, make_ints, condK_dec, wantK_dec, not_dec, and_dec, or_dec, seqK_ite, seqK_none, blockK_ite, blockK_none, opsK_ite, opsK_none, stepK_ite, stepK_none, bodyK_ite, bodyK_none, resK_ite, resK_none, leaveK_ite, leaveK_none, only_ite, only_none, bind_ite, gives_some, gives_none, gives_ite, then_normal, then_ret, then_exit, then_none, then_ite, Option.bind_none, Bool.not_eq_true', decide_eq_false_iff_not, Bool.and_eq_true, Bool.or_eq_true, Option.some.injEq, Int.not_lt, Int.not_le, lp45_0, hlt, hi0, hs, hb1, hpair, hzl, wa, wb, zn, ta, tb, p1, h49, p2, happ, List.length_map]
        refine ⟨i + 1, by simp only [go_sem, reduceIte, Nat.reduceEqDiff, Nat.reduceAdd, Nat.reduceSub, Nat.reduceLeDiff, Nat.reduceLT, reduceCtorEq, Int.reduceLT, Int.reduceLE, Int.reduceEq, Int.reduceBEq, Int.reduceSub, Int.reduceAdd, Int.reduceMul, Int.reduceNeg, Int.reduceToNat, Nat.reduceMul, Nat.reduceBEq, ren1_locm, loc_tips, locT_eq, hsucc, ren1_out, outAcc_snd, okRefsB, renCellsB] <;> rfl, ?_, ?_, fun x en s hq => ?_⟩
        · omega
        · omega
        · exact hq
  · obtain rfl : i = k := by omega
    simp only [go_sem, reduceIte, Nat.reduceEqDiff, Nat.reduceAdd, Nat.reduceSub, Nat.reduceLeDiff, Nat.reduceLT, reduceCtorEq, Int.reduceLT, Int.reduceLE, Int.reduceEq, Int.reduceBEq, Int.reduceSub, Int.reduceAdd, Int.reduceMul, Int.reduceNeg, Int.reduceToNat, Nat.reduceMul, Nat.reduceBEq, index_rsl_if, setm, make_ints, condK_dec, wantK_dec, not_dec, and_dec, or_dec, seqK_ite, seqK_none, blockK_ite, blockK_none, opsK_ite, opsK_none, stepK_ite, stepK_none, bodyK_ite, bodyK_none, resK_ite, resK_none, leaveK_ite, leaveK_none, only_ite, only_none, bind_ite, gives_some, gives_none, gives_ite, then_normal, then_ret, then_exit, then_none, then_ite, Option.bind_none, Bool.not_eq_true', decide_eq_false_iff_not, Bool.and_eq_true, Bool.or_eq_true, Option.some.injEq, Int.not_lt, Int.not_le, lp45_0, show ((i : Int) < (i : Int)) = False from eq_false (by omega)]

def madeN (most : Int) (zs : List Int) : Int := 1 + zs.getD 0 0 % most
def madeP (most : Int) (zs : List Int) : List (Int × Int) := madeTo (madeN most zs) zs (zs.getD 1 0 % 17).toNat

theorem c45 (zs : List Int) (hzl : zs.length = 34) (hz : ∀ a ∈ zs, Byte a) (most : Int) (hl : most = 6 ∨ most = 7) (st : St) :
    run L 45 [qAV zs, I most] st = some (bkAV true (madeN most zs) (madeP most zs), st) := by
  rw [run_pure (fn := ir45) rfl rfl]
  have b0 := byte_getD hz 0
  have b1 := byte_getD hz 1
  have g0 := getB zs 0 (by omega)
  have g1 := getB zs 1 (by omega)
  unfold madeP
  have hN : madeN most zs = 1 + zs.getD 0 0 % most := rfl
  generalize zs.getD 0 0 = a at *
  generalize zs.getD 1 0 = b at *
  unfold Byte at b0 b1
  have ra := mod_range a most (by omega)
  have rb := mod_range b 17 (by omega)
  have wa := wrap64 a (by omega) (by omega)
  have wb := wrap64 b (by omega) (by omega)
  have z8 : (most = 0) = False := eq_false (by omega)
  have ta : a.tmod most = a % most := tmod8 (by omega)
  have tb : b.tmod 17 = b % 17 := tmod8 (by omega)
  have wn : IntKind.i64.wrap (1 + a % most) = madeN most zs := by rw [hN, wrap64] <;> omega
  have hn : 1 ≤ madeN most zs ∧ madeN most zs ≤ 7 := by omega
  obtain ⟨k, hk⟩ := Int.eq_ofNat_of_zero_le rb.1
  rw [hk, Int.toNat_natCast]
  have hk10 : k ≤ 16 := by omega
  have hsl : sliceaAV 16 2 true (.ptr 0 2) none (some (.v (.int .i64 (k : Int)))) none = some (.rsl 0 2 k 16 2 true) := by
    simp only [sliceaAV, natOr, natOf]
    simp; omega
  generalize madeN most zs = n at *
  simp only [ir45, go_sem, reduceIte, Nat.reduceEqDiff, Nat.reduceAdd, Nat.reduceSub, Nat.reduceLeDiff, Nat.reduceLT, reduceCtorEq, Int.reduceLT, Int.reduceLE, Int.reduceEq, Int.reduceBEq, Int.reduceSub, Int.reduceAdd, Int.reduceMul, Int.reduceNeg, Int.reduceToNat, Nat.reduceMul, Nat.reduceBEq, okRefsB, renCellsB, pubsB, storableB, g0, g1, wa, wb, z8, ta, tb, hk, wn, hsl, hzl, List.length_map]
  generalize hg : lim (headed pure (run L) true _ lp45_0 _ _) _ _ = o
  obtain ⟨x, en, s, rfl, h2⟩ : ∃ x en s, o = some (x, en, s) ∧ _ := by rw [← hg]; exact loop45 zs hzl hz n hn k hk10 0 (by omega) _ _ (by simp only [go_sem, reduceIte, Nat.reduceEqDiff, Nat.reduceAdd, Nat.reduceSub, Nat.reduceLeDiff, Nat.reduceLT, reduceCtorEq, Int.reduceLT, Int.reduceLE, Int.reduceEq, Int.reduceBEq, Int.reduceSub, Int.reduceAdd, Int.reduceMul, Int.reduceNeg, Int.reduceToNat, Nat.reduceMul, Nat.reduceBEq, okRefsB, renCellsB, madeTo, out_start, outT_nil, ren1_out, outAcc_snd, Int.natCast_zero] <;> rfl)
  clear hg
  obtain ⟨rfl, h4, h5, rfl⟩ := h2
  simp only [go_sem, reduceIte, Nat.reduceEqDiff, Nat.reduceAdd, Nat.reduceSub, Nat.reduceLeDiff, Nat.reduceLT, reduceCtorEq, Int.reduceLT, Int.reduceLE, Int.reduceEq, Int.reduceBEq, Int.reduceSub, Int.reduceAdd, Int.reduceMul, Int.reduceNeg, Int.reduceToNat, Nat.reduceMul, Nat.reduceBEq, h4, h5]


abbrev U (n : Nat) : AV := .v (.int .u64 n)
theorem wrapU (n : Nat) (h : n < 2 ^ 64) : IntKind.u64.wrap (n : Int) = n := by
  simp [IntKind.wrap, IntKind.bits, IntKind.signed]; omega
theorem shrU (m p : Nat) (h : p < 64) : Int.fdiv (m : Int) (2 ^ min p 64) = ((m >>> p : Nat) : Int) := by
  have e : min p 64 = p := by omega
  have e2 : ((2 : Int) ^ p) = ((2 ^ p : Nat) : Int) := by simp
  rw [e, e2, Int.fdiv_eq_ediv_of_nonneg _ (Int.natCast_nonneg _), Nat.shiftRight_eq_div_pow]
  simp
theorem and_one (n : Nat) : binAV .and none (.v (.int .u64 (n : Int))) (.v (.int .u64 1)) = some (.v (.int .u64 ((n % 2 : Nat) : Int))) := by
  have h : (BitVec.ofInt 64 (n : Int) &&& BitVec.ofInt 64 1).toNat = n % 2 := by
    rw [BitVec.toNat_and]
    have : (BitVec.ofInt 64 1).toNat = 1 := by decide
    rw [this, Nat.and_one_is_mod, BitVec.ofInt_natCast, BitVec.toNat_ofNat]
    omega
  show some (AV.v (.int .u64 (IntKind.u64.wrap ((BitVec.ofInt 64 (n : Int) &&& BitVec.ofInt 64 1).toNat : Int)))) = _
  rw [h, wrapU _ (by omega)]
theorem shr_u (m p : Nat) : binAV .shr none (.v (.int .u64 (m : Int))) (.v (.int .i64 (p : Int))) = some (.v (.int .u64 ((m >>> min p 64 : Nat) : Int))) := by
  have e := shrU m (min p 64)
  show (if (p : Int) < 0 then none else some (AV.v (.int .u64 (Int.fdiv (m : Int) (2 ^ min (Int.toNat (p : Int)) 64))))) = _
  rw [if_neg (by omega), Int.toNat_natCast]
  have e2 : ((2 : Int) ^ (min p 64)) = ((2 ^ (min p 64) : Nat) : Int) := by simp
  rw [e2, Int.fdiv_eq_ediv_of_nonneg _ (Int.natCast_nonneg _), Nat.shiftRight_eq_div_pow]
  simp
theorem min64 (p : Nat) (h : p < 64) : min p 64 = p := by omega
attribute [local go_sem high] and_one shr_u
def okP (p : Int × Int) : Prop := 0 ≤ p.1 ∧ p.1 < 7 ∧ 0 ≤ p.2 ∧ p.2 < 7
theorem run_any' {f : FuncId} {fn : IF} (hf : L.fns f = some fn) (hp : L.pure f = true) {args : List AV} {st0 st1 : St} {r : AV} (h : run L f args st0 = some (r, st1)) (st : St) : run L f args st = some (r, st) := by
  rw [run_pure hf hp] at h ⊢
  unfold leaveK at h ⊢
  split at h
  · simp only [leave, Option.some.injEq, Prod.mk.injEq] at h ⊢
    exact ⟨h.1, trivial⟩
  · simp at h
theorem all_of {α : Type} {f g : Nat → α} {k : Nat} (h : (List.range k).map f = (List.range k).map g) (m : Nat) (hm : m < k) : f m = g m := by
  have := congrArg (fun l : List α => l[m]?) h
  simpa [hm] using this
def memb (m : Nat) : List Int := ((List.range 7).filter m.testBit).map fun (i : Nat) => (i : Int)
def sh1 (p : Nat) : Nat := 2 ^ min p 64 % 2 ^ 64
theorem sh1_eq (p : Nat) (h : p < 64) : sh1 p = 2 ^ p := by
  unfold sh1; rw [show min p 64 = p by omega]
  exact Nat.mod_eq_of_lt (Nat.pow_lt_pow_right (by omega) h)
theorem shl_one (p : Nat) : binAV .shl none (.v (.int .u64 1)) (.v (.int .i64 (p : Int))) = some (.v (.int .u64 ((sh1 p : Nat) : Int))) := by
  show (if (p : Int) < 0 then none else some (AV.v (.int .u64 (IntKind.u64.wrap (1 * (2 ^ (min (Int.toNat (p : Int)) 64)))))) ) = _
  rw [if_neg (by omega), Int.toNat_natCast]
  have e2 : (1 : Int) * ((2 : Int) ^ (min p 64)) = ((2 ^ (min p 64) : Nat) : Int) := by simp
  rw [e2]
  simp only [sh1, IntKind.wrap, IntKind.bits, IntKind.signed]
  simp
theorem succU (m : Nat) (h : m < 1000000) : IntKind.u64.wrap ((m : Int) + 1) = ((m + 1 : Nat) : Int) := by
  have := wrapU (m + 1) (by omega)
  simpa using this
def orU (a b : Nat) : Nat := a % 2 ^ 64 ||| b % 2 ^ 64
theorem or_u (a b : Nat) : binAV .or none (.v (.int .u64 (a : Int))) (.v (.int .u64 (b : Int))) = some (.v (.int .u64 ((orU a b : Nat) : Int))) := by
  have h : (BitVec.ofInt 64 (a : Int) ||| BitVec.ofInt 64 (b : Int)).toNat = orU a b := by
    rw [BitVec.toNat_or]; simp [BitVec.ofInt_natCast, orU]
  show some (AV.v (.int .u64 (IntKind.u64.wrap ((BitVec.ofInt 64 (a : Int) ||| BitVec.ofInt 64 (b : Int)).toNat : Int)))) = _
  rw [h, wrapU]
  unfold orU
  exact Nat.or_lt_two_pow (Nat.mod_lt _ (by decide)) (Nat.mod_lt _ (by decide))
theorem orU_eq (a b : Nat) (ha : a < 128) (hb : b < 128) : orU a b = a ||| b := by
  unfold orU; rw [Nat.mod_eq_of_lt (by omega), Nat.mod_eq_of_lt (by omega)]
def andN (a b : Nat) : Nat := a % 2 ^ 64 &&& b % 2 ^ 64
theorem and_u (a b : Nat) : binAV .and none (.v (.int .u64 (a : Int))) (.v (.int .u64 (b : Int))) = some (.v (.int .u64 ((andN a b : Nat) : Int))) := by
  have h : (BitVec.ofInt 64 (a : Int) &&& BitVec.ofInt 64 (b : Int)).toNat = andN a b := by
    rw [BitVec.toNat_and]; simp [BitVec.ofInt_natCast, andN]
  show some (AV.v (.int .u64 (IntKind.u64.wrap ((BitVec.ofInt 64 (a : Int) &&& BitVec.ofInt 64 (b : Int)).toNat : Int)))) = _
  rw [h, wrapU]
  unfold andN
  exact Nat.lt_of_le_of_lt Nat.and_le_left (Nat.mod_lt _ (by decide))
theorem andN_eq (a b : Nat) (ha : a < 128) (hb : b < 128) : andN a b = a &&& b := by
  unfold andN; rw [Nat.mod_eq_of_lt (by omega), Nat.mod_eq_of_lt (by omega)]
def orAt (o : List Nat) (i b : Nat) : List Nat := o.set i (o.getD i 0 ||| 2 ^ b)
theorem orAt_len (o : List Nat) (i b : Nat) : (orAt o i b).length = o.length := by simp [orAt]
theorem okRefsU (n : Nat) (xs : List Nat) : okRefs n (xs.map U) = true := okRefs_map U n (fun _ => rfl) xs
theorem renCellsU (n : Nat) (tips : List Nat) (acc : List (Nat × Nat)) (xs : List Nat) : renCells n tips acc (xs.map U) = (xs.map U, acc) := renCells_map U n tips (fun _ _ => rfl) xs acc
theorem pubsU (xs : List Nat) : pubs (xs.map U) = xs.map U := pubs_map U (fun _ => rfl) xs
theorem getU (o : List Nat) (a : Nat) (h : a < o.length) : (o.map U)[a]? = some (U (o.getD a 0)) := by
  rw [getm U o 0 a, if_pos h]
theorem frzV_v (l : Nat) (cs : List AV) (x : Value) : frzV l cs (.v x) = .v x := by simp only [frzV]
theorem frzV_ptr (l : Nat) (cs : List AV) (i o : Nat) : frzV l cs (.ptr i o) = .ptr i o := by simp only [frzV]
theorem frzVs_kind (l : Nat) (cs : List AV) {β : Type} (f : β → Value) (xs : List β) : frzVs l cs (xs.map fun b => .v (f b)) = xs.map fun b => .v (f b) := by
  induction xs with
  | nil => rfl
  | cons x r ih => simp only [List.map_cons, frzVs, frzV, ih]
theorem frzVs_U (l : Nat) (cs : List AV) (xs : List Nat) : frzVs l cs (xs.map U) = xs.map U := frzVs_kind l cs (fun (n : Nat) => Value.int .u64 (n : Int)) xs
theorem frzV_sl (l : Nat) (cs : List AV) (z : Nat) (nl : Bool) (xs : List AV) : frzV l cs (sl z nl xs) = sl z nl xs := by
  cases xs with
  | nil => cases nl <;> rfl
  | cons x r => rw [sl_ne (by simp)]; simp only [frzV]
theorem refsV_sl (n : Nat) (acc : List Nat) (z : Nat) (nl : Bool) (xs : List AV) : refsV n acc (sl z nl xs) = acc := by
  cases xs with
  | nil => cases nl <;> rfl
  | cons x r => rw [sl_ne (by simp)]; simp only [refsV]
theorem mapL_sl (n : Nat) (M : List Nat) (z : Nat) (nl : Bool) (xs : List AV) : mapL n M (sl z nl xs) = sl z nl xs := by
  cases xs with
  | nil => cases nl <;> rfl
  | cons x r => rw [sl_ne (by simp)]; simp only [mapL]
theorem refsL_kind (n : Nat) {β : Type} (f : β → Value) : ∀ (xs : List β) (acc : List Nat), refsL n acc (xs.map fun b => .v (f b)) = acc
  | [], acc => rfl
  | x :: r, acc => by simp only [List.map_cons, refsL, refsV, refsL_kind n f r]
theorem mapLs_kind (n : Nat) (M : List Nat) {β : Type} (f : β → Value) : ∀ (xs : List β), mapLs n M (xs.map fun b => .v (f b)) = xs.map fun b => .v (f b)
  | [] => rfl
  | x :: r => by simp only [List.map_cons, mapLs, mapL, mapLs_kind n M f r]
theorem refsL_U (n : Nat) (xs : List Nat) (acc : List Nat) : refsL n acc (xs.map U) = acc := refsL_kind n (fun (n : Nat) => Value.int .u64 (n : Int)) xs acc
theorem mapLs_U (n : Nat) (M : List Nat) (xs : List Nat) : mapLs n M (xs.map U) = xs.map U := mapLs_kind n M (fun (n : Nat) => Value.int .u64 (n : Int)) xs
theorem len_seven {α : Type} {l : List α} (h : l.length = 7) : ∃ a b c d e f g, l = [a, b, c, d, e, f, g] := by
  match l, h with
  | [a, b, c, d, e, f, g], _ => exact ⟨a, b, c, d, e, f, g, rfl⟩
theorem sh1_lt (b : Nat) (h : b < 7) : sh1 b = 2 ^ b ∧ 2 ^ b < 128 := ⟨sh1_eq b (by omega), Nat.pow_lt_pow_right (by omega) (show b < 7 from h)⟩
theorem small_getD {o : List Nat} (h : ∀ x ∈ o, x < 128) (a : Nat) : o.getD a 0 < 128 := by
  rw [List.getD_eq_getElem?_getD]
  cases h2 : o[a]?
  · simp
  · exact h _ (List.mem_of_getElem? h2)
theorem orAt_small {o : List Nat} (h : ∀ x ∈ o, x < 128) {a b : Nat} (hb : b < 7) : ∀ x ∈ orAt o a b, x < 128 := by
  intro x hx
  unfold orAt at hx
  rcases List.mem_or_eq_of_mem_set hx with hx | rfl
  · exact h x hx
  · exact Nat.or_lt_two_pow (n := 7) (small_getD h a) (sh1_lt b hb).2
theorem storableU (xs : List Nat) : (xs.map U).all storable = true := by
  rw [List.all_eq_true]; intro x hx; rw [List.mem_map] at hx; obtain ⟨n, _, rfl⟩ := hx; rfl

/-! ### sets as signed numbers -/
theorem shl_i (p : Nat) (h : p < 62) : binAV .shl none (.v (.int .i64 1)) (.v (.int .i64 (p : Int))) = some (I ((2 ^ p : Nat) : Int)) := by
  show (if (p : Int) < 0 then none else some (AV.v (.int .i64 (IntKind.i64.wrap (1 * (2 ^ (min (Int.toNat (p : Int)) 64))))))) = _
  rw [if_neg (by omega), Int.toNat_natCast, show min p 64 = p by omega]
  have e2 : (1 : Int) * ((2 : Int) ^ p) = ((2 ^ p : Nat) : Int) := by simp
  rw [e2]
  have h1 : 2 ^ p < 2 ^ 62 := Nat.pow_lt_pow_right (by omega) h
  generalize 2 ^ p = q at *
  rw [wrap64] <;> omega
theorem or_i (a b : Nat) (ha : a < 2 ^ 62) (hb : b < 2 ^ 62) : binAV .or none (.v (.int .i64 (a : Int))) (.v (.int .i64 (b : Int))) = some (I ((a ||| b : Nat) : Int)) := by
  have h : (BitVec.ofInt 64 (a : Int) ||| BitVec.ofInt 64 (b : Int)).toNat = a ||| b := by
    rw [BitVec.toNat_or]; simp [BitVec.ofInt_natCast, Nat.mod_eq_of_lt (show a < 2 ^ 64 by omega), Nat.mod_eq_of_lt (show b < 2 ^ 64 by omega)]
  show some (AV.v (.int .i64 (IntKind.i64.wrap ((BitVec.ofInt 64 (a : Int) ||| BitVec.ofInt 64 (b : Int)).toNat : Int)))) = _
  have := Nat.or_lt_two_pow ha hb
  rw [h, wrap64] <;> omega
theorem and_i (a b : Nat) (ha : a < 2 ^ 62) (hb : b < 2 ^ 62) : binAV .and none (.v (.int .i64 (a : Int))) (.v (.int .i64 (b : Int))) = some (I ((a &&& b : Nat) : Int)) := by
  have h : (BitVec.ofInt 64 (a : Int) &&& BitVec.ofInt 64 (b : Int)).toNat = a &&& b := by
    rw [BitVec.toNat_and]; simp [BitVec.ofInt_natCast, Nat.mod_eq_of_lt (show a < 2 ^ 64 by omega), Nat.mod_eq_of_lt (show b < 2 ^ 64 by omega)]
  show some (AV.v (.int .i64 (IntKind.i64.wrap ((BitVec.ofInt 64 (a : Int) &&& BitVec.ofInt 64 (b : Int)).toNat : Int)))) = _
  have : a &&& b ≤ a := Nat.and_le_left
  rw [h, wrap64] <;> omega
theorem shr_i (m p : Nat) (h : p < 62) : binAV .shr none (.v (.int .i64 (m : Int))) (.v (.int .i64 (p : Int))) = some (I ((m >>> p : Nat) : Int)) := by
  show (if (p : Int) < 0 then none else some (AV.v (.int .i64 (Int.fdiv (m : Int) (2 ^ min (Int.toNat (p : Int)) 64))))) = _
  rw [if_neg (by omega), Int.toNat_natCast, shrU m p (by omega)]
theorem and_one_i (n : Nat) (h : n < 2 ^ 62) : binAV .and none (.v (.int .i64 (n : Int))) (.v (.int .i64 1)) = some (I ((n % 2 : Nat) : Int)) := by
  have := and_i n 1 h (by decide)
  rw [Nat.and_one_is_mod] at this
  exact this
theorem bit_one (m p : Nat) : ((((m >>> p) % 2 : Nat) : Int) = 1) = (m.testBit p = true) := by
  rw [Nat.testBit_eq_decide_div_mod_eq, Nat.shiftRight_eq_div_pow]
  generalize m / 2 ^ p = k
  have : k % 2 < 2 := Nat.mod_lt _ (by omega)
  rw [decide_eq_true_iff]
  exact propext (by omega)


/-! ### what each word sees -/
abbrev J (n : Nat) : AV := .v (.int .i64 (n : Int))
theorem okRefsJ (n : Nat) (xs : List Nat) : okRefs n (xs.map J) = true := okRefs_map J n (fun _ => rfl) xs
theorem renCellsJ (n : Nat) (tips : List Nat) (acc : List (Nat × Nat)) (xs : List Nat) : renCells n tips acc (xs.map J) = (xs.map J, acc) := renCells_map J n tips (fun _ _ => rfl) xs acc
theorem pubsJ (xs : List Nat) : pubs (xs.map J) = xs.map J := pubs_map J (fun _ => rfl) xs
theorem getJ (o : List Nat) (a : Nat) (h : a < o.length) : (o.map J)[a]? = some (J (o.getD a 0)) := by
  rw [getm J o 0 a, if_pos h]
theorem storableJ (xs : List Nat) : (xs.map J).all storable = true := by
  rw [List.all_eq_true]; intro x hx; rw [List.mem_map] at hx; obtain ⟨n, _, rfl⟩ := hx; rfl
def see1 (o : List Nat) (p : Int × Int) : List Nat := orAt o p.1.toNat p.2.toNat
def seeL (z : Nat) (ps : List (Int × Int)) : List Nat := ps.foldl see1 (List.replicate z 0)
theorem foldl_see_len : ∀ (ps : List (Int × Int)) (o : List Nat), (ps.foldl see1 o).length = o.length
  | [], o => rfl
  | p :: r, o => by rw [List.foldl_cons, foldl_see_len r]; exact orAt_len _ _ _
theorem foldl_see_small : ∀ (ps : List (Int × Int)) (o : List Nat), (∀ p ∈ ps, okP p) → (∀ x ∈ o, x < 128) → ∀ x ∈ ps.foldl see1 o, x < 128
  | [], o, _, h => h
  | p :: r, o, hp, h => by
    rw [List.foldl_cons]
    have h1 := hp p (by simp)
    unfold okP at h1
    exact foldl_see_small r _ (fun q hq => hp q (by simp [hq])) (orAt_small h (by omega))
theorem seeL_len (z : Nat) (ps : List (Int × Int)) : (seeL z ps).length = z := by unfold seeL; rw [foldl_see_len]; simp
theorem seeL_small (z : Nat) {ps : List (Int × Int)} (h : ∀ p ∈ ps, okP p) : ∀ x ∈ seeL z ps, x < 128 := foldl_see_small ps _ h (by simp)
theorem len_eight {α : Type} {l : List α} (h : l.length = 8) : ∃ a b c d e f g k, l = [a, b, c, d, e, f, g, k] := by
  match l, h with
  | [a, b, c, d, e, f, g, k], _ => exact ⟨a, b, c, d, e, f, g, k, rfl⟩
def y8 : List AV := [I 0, I 0, I 0, I 0, I 0, I 0, I 0, I 0]

theorem loop50 (nl : Bool) (n : Int) (ps : List (Int × Int)) (hlen : ps.length < 1000000) (h7 : ∀ p ∈ ps, okP p) (i : Nat) (o : List Nat) (hok : i ≤ ps.length ∧ o.length = 8 ∧ ∀ x ∈ o, x < 128) (env : Env) (st : St)
    (hg : gcAV true 3 0 (canon env [2, 3, 7, 8, 9]) st = ([(2, .ptr 1 0), (3, .ptr 2 0), (7, sl 2 nl (ps.map prAV)), (8, I ps.length), (9, I i)], ⟨[bkCells nl n ps, y8, o.map J], []⟩)) :
    ∃ x_1 en s, lim (headed pure (run L) true [2, 3, 7, 8, 9] lp50_0 3 0) env st = some (x_1, en, s) ∧ (x_1 = .exit 0 ∧ en.get 2 = .ptr 1 0 ∧ en.get 3 = .ptr 2 0 ∧ s = ⟨[bkCells nl n ps, y8, ((ps.drop i).foldl see1 o).map J], []⟩ ∧ ((ps.drop i).foldl see1 o).length = 8) := by
  refine loop_wp (α := Nat × List Nat) (fun ⟨i, o⟩ => ps.length - i) (fun ⟨i, o⟩ => i ≤ ps.length ∧ o.length = 8 ∧ ∀ x ∈ o, x < 128) (fun ⟨i, o⟩ => ([(2, .ptr 1 0), (3, .ptr 2 0), (7, sl 2 nl (ps.map prAV)), (8, I ps.length), (9, I i)], ⟨[bkCells nl n ps, y8, o.map J], []⟩)) (fun ⟨i, o⟩ x_1 en s => x_1 = .exit 0 ∧ en.get 2 = .ptr 1 0 ∧ en.get 3 = .ptr 2 0 ∧ s = ⟨[bkCells nl n ps, y8, ((ps.drop i).foldl see1 o).map J], []⟩ ∧ ((ps.drop i).foldl see1 o).length = 8) (fun ⟨i, o⟩ hok => ?_) ⟨i, o⟩ hok env st hg
  simp only at hok
  obtain ⟨h1, h2, h3⟩ := hok
  dsimp only
  by_cases h : i < ps.length
  · have hx := index_prs nl ps i h
    have hs := succ64 i (by omega)
    have hd : ps.drop i = ps[i] :: ps.drop (i + 1) := List.drop_eq_getElem_cons h
    have hp := h7 ps[i] (List.getElem_mem h)
    rw [hd, List.foldl_cons]
    generalize ps[i] = c at *
    obtain ⟨u, v⟩ := c
    obtain ⟨a1, a2, a3, a4⟩ := hp
    simp only at a1 a2 a3 a4 hx
    obtain ⟨u, rfl⟩ := Int.eq_ofNat_of_zero_le a1
    obtain ⟨v, rfl⟩ := Int.eq_ofNat_of_zero_le a3
    have hlt : ((i : Int) < (ps.length : Int)) = True := eq_true (by omega)
    have hu : u < 7 := by omega
    have hv : v < 7 := by omega
    have q1 := shl_i v (by omega)
    have q2 := or_i (o.getD u 0) (2 ^ v) (by have := small_getD h3 u; omega) (by have := (sh1_lt v hv).2; omega)
    have hs1 := orAt_small h3 (a := u) hv
    have hl1 := orAt_len o u v
    have g1 := getJ o u (by omega)
    have hset1 : o.set u (o.getD u 0 ||| 2 ^ v) = see1 o ((u : Int), (v : Int)) := rfl
    have hadv : see1 o ((u : Int), (v : Int)) = orAt o u v := rfl
    have b1 : ((0 : Int) ≤ (u : Int)) = True := eq_true (by omega)
    have b2 : ((u : Int) < 8) = True := eq_true (by omega)
    have b5 : (u + 1 ≤ 8) = True := eq_true (by omega)
    rw [h2] at hl1
    rw [← hadv] at hs1 hl1
    generalize see1 o ((u : Int), (v : Int)) = o2 at *
    simp only [go_sem, reduceIte, Nat.reduceEqDiff, Nat.reduceAdd, Nat.reduceSub, Nat.reduceLeDiff, Nat.reduceLT, reduceCtorEq, Int.reduceLT, Int.reduceLE, Int.reduceEq, Int.reduceBEq, Int.reduceSub, Int.reduceAdd, Int.reduceMul, Int.reduceNeg, Int.reduceToNat, Nat.reduceMul, Nat.reduceBEq, index_rsl_if, setm, make_ints, condK_dec, wantK_dec, not_dec, and_dec, or_dec, seqK_ite, seqK_none, blockK_ite, blockK_none, opsK_ite, opsK_none, stepK_ite, stepK_none, bodyK_ite, bodyK_none, resK_ite, resK_none, leaveK_ite, leaveK_none, only_ite, only_none, bind_ite, gives_some, gives_none, gives_ite, then_normal, then_ret, then_exit, then_none, then_ite, Option.bind_none, Bool.not_eq_true', decide_eq_false_iff_not, Bool.and_eq_true, Bool.or_eq_true, Option.some.injEq, Int.not_lt, Int.not_le, lp50_0, hx, hlt, hs, b1, b2, b5, g1, q1, q2, hset1, h2, hl1, List.length_map]
    refine ⟨(i + 1, o2), by simp only [go_sem, reduceIte, Nat.reduceEqDiff, Nat.reduceAdd, Nat.reduceSub, Nat.reduceLeDiff, Nat.reduceLT, reduceCtorEq, Int.reduceLT, Int.reduceLE, Int.reduceEq, Int.reduceBEq, Int.reduceSub, Int.reduceAdd, Int.reduceMul, Int.reduceNeg, Int.reduceToNat, Nat.reduceMul, Nat.reduceBEq, ren1_locm, loc_tips, locT_eq, okRefsJ, renCellsJ, y8] <;> rfl, ?_, ?_, fun x en s hq => ?_⟩
    · dsimp only; exact ⟨by omega, hl1, hs1⟩
    · simp only; omega
    · exact hq
  · have hd : ps.drop i = [] := List.drop_eq_nil_of_le (by omega)
    have hlt : ((i : Int) < (ps.length : Int)) = False := eq_false (by omega)
    simp only [go_sem, reduceIte, Nat.reduceEqDiff, Nat.reduceAdd, Nat.reduceSub, Nat.reduceLeDiff, Nat.reduceLT, reduceCtorEq, Int.reduceLT, Int.reduceLE, Int.reduceEq, Int.reduceBEq, Int.reduceSub, Int.reduceAdd, Int.reduceMul, Int.reduceNeg, Int.reduceToNat, Nat.reduceMul, Nat.reduceBEq, index_rsl_if, setm, make_ints, condK_dec, wantK_dec, not_dec, and_dec, or_dec, seqK_ite, seqK_none, blockK_ite, blockK_none, opsK_ite, opsK_none, stepK_ite, stepK_none, bodyK_ite, bodyK_none, resK_ite, resK_none, leaveK_ite, leaveK_none, only_ite, only_none, bind_ite, gives_some, gives_none, gives_ite, then_normal, then_ret, then_exit, then_none, then_ite, Option.bind_none, Bool.not_eq_true', decide_eq_false_iff_not, Bool.and_eq_true, Bool.or_eq_true, Option.some.injEq, Int.not_lt, Int.not_le, lp50_0, hlt, List.length_map]
    rw [hd]; exact ⟨rfl, h2⟩

theorem c50 (nl : Bool) (n : Int) (ps : List (Int × Int)) (hlen : ps.length < 1000000) (h7 : ∀ p ∈ ps, okP p) (st : St) :
    run L 50 [bkAV nl n ps] st = some (.agg ((seeL 8 ps).map J), st) := by
  rw [run_pure (fn := ir50) rfl rfl]
  simp only [ir50, go_sem, reduceIte, Nat.reduceEqDiff, Nat.reduceAdd, Nat.reduceSub, Nat.reduceLeDiff, Nat.reduceLT, reduceCtorEq, Int.reduceLT, Int.reduceLE, Int.reduceEq, Int.reduceBEq, Int.reduceSub, Int.reduceAdd, Int.reduceMul, Int.reduceNeg, Int.reduceToNat, Nat.reduceMul, Nat.reduceBEq, List.length_map]
  generalize hg : lim (headed pure (run L) true _ lp50_0 _ _) _ _ = o
  obtain ⟨x, en, s, rfl, h2⟩ : ∃ x en s, o = some (x, en, s) ∧ _ := by rw [← hg]; exact loop50 nl n ps hlen h7 0 (List.replicate 8 0) ⟨by omega, by simp, by simp⟩ _ _ (by simp only [go_sem, reduceIte, Nat.reduceEqDiff, Nat.reduceAdd, Nat.reduceSub, Nat.reduceLeDiff, Nat.reduceLT, reduceCtorEq, Int.reduceLT, Int.reduceLE, Int.reduceEq, Int.reduceBEq, Int.reduceSub, Int.reduceAdd, Int.reduceMul, Int.reduceNeg, Int.reduceToNat, Nat.reduceMul, Nat.reduceBEq, y8, List.map_replicate] <;> rfl)
  clear hg
  obtain ⟨rfl, h3, h4, rfl, h5⟩ := h2
  rw [List.drop_zero] at h5 ⊢
  have e : ps.foldl see1 (List.replicate 8 0) = seeL 8 ps := rfl
  rw [e] at h5 ⊢
  obtain ⟨a, b, c, d, f, g, k, k2, h6⟩ := len_eight h5
  rw [h6]
  simp only [go_sem, reduceIte, Nat.reduceEqDiff, Nat.reduceAdd, Nat.reduceSub, Nat.reduceLeDiff, Nat.reduceLT, reduceCtorEq, Int.reduceLT, Int.reduceLE, Int.reduceEq, Int.reduceBEq, Int.reduceSub, Int.reduceAdd, Int.reduceMul, Int.reduceNeg, Int.reduceToNat, Nat.reduceMul, Nat.reduceBEq, h3, h4, y8]

attribute [local go_sem high] and_one shr_u shl_one or_u

def webC (n : Int) (o : List Nat) : List AV := I n :: o.map U
abbrev webAV (n : Int) (o : List Nat) : AV := .agg (webC n o)
theorem okRefsW (k : Nat) (n : Int) (o : List Nat) : okRefs k (webC n o) = true := by unfold webC; simp only [okRefs, okRefsU]; rfl
theorem renCellsW (k : Nat) (tips : List Nat) (acc : List (Nat × Nat)) (n : Int) (o : List Nat) : renCells k tips acc (webC n o) = (webC n o, acc) := by
  unfold webC; simp only [renCells, ren1, renCellsU]
theorem pubsW (n : Int) (o : List Nat) : pubs (webC n o) = webC n o := by unfold webC; simp only [pubs, pub, pubsU]
theorem storableW (n : Int) (o : List Nat) : (webC n o).all storable = true := by unfold webC; rw [List.all_cons, storableU]; rfl
theorem lenW (n : Int) (o : List Nat) : (webC n o).length = 1 + o.length := by simp [webC]; omega
theorem getW (n : Int) (o : List Nat) (a : Nat) (h : a < o.length) : (webC n o)[1 + a]? = some (U (o.getD a 0)) := by
  unfold webC; rw [Nat.add_comm, List.getElem?_cons_succ]; exact getU o a h
theorem getW0 (n : Int) (o : List Nat) : (webC n o)[0]? = some (I n) := rfl
theorem setW (n : Int) (o : List Nat) (a : Nat) (m : Nat) : (webC n o).set (1 + a) (U m) = webC n (o.set a m) := by
  unfold webC; rw [Nat.add_comm, List.set_cons_succ, List.map_set]
def w8 : List AV := [I 0, U 0, U 0, U 0, U 0, U 0, U 0, U 0]

theorem loop65 (nl : Bool) (n : Int) (ps : List (Int × Int)) (hlen : ps.length < 1000000) (h7 : ∀ p ∈ ps, okP p) (i : Nat) (o : List Nat) (hok : i ≤ ps.length ∧ o.length = 7 ∧ ∀ x ∈ o, x < 128) (env : Env) (st : St)
    (hg : gcAV true 3 0 (canon env [2, 4, 18, 19, 20]) st = ([(2, .ptr 1 0), (4, .ptr 2 0), (18, sl 2 nl (ps.map prAV)), (19, I ps.length), (20, I i)], ⟨[bkCells nl n ps, w8, webC n o], []⟩)) :
    ∃ x_1 en s, lim (headed pure (run L) true [2, 4, 18, 19, 20] lp65_0 3 0) env st = some (x_1, en, s) ∧ (x_1 = .exit 0 ∧ en.get 2 = .ptr 1 0 ∧ en.get 4 = .ptr 2 0 ∧ s = ⟨[bkCells nl n ps, w8, webC n ((ps.drop i).foldl see1 o)], []⟩ ∧ ((ps.drop i).foldl see1 o).length = 7) := by
  refine loop_wp (α := Nat × List Nat) (fun ⟨i, o⟩ => ps.length - i) (fun ⟨i, o⟩ => i ≤ ps.length ∧ o.length = 7 ∧ ∀ x ∈ o, x < 128) (fun ⟨i, o⟩ => ([(2, .ptr 1 0), (4, .ptr 2 0), (18, sl 2 nl (ps.map prAV)), (19, I ps.length), (20, I i)], ⟨[bkCells nl n ps, w8, webC n o], []⟩)) (fun ⟨i, o⟩ x_1 en s => x_1 = .exit 0 ∧ en.get 2 = .ptr 1 0 ∧ en.get 4 = .ptr 2 0 ∧ s = ⟨[bkCells nl n ps, w8, webC n ((ps.drop i).foldl see1 o)], []⟩ ∧ ((ps.drop i).foldl see1 o).length = 7) (fun ⟨i, o⟩ hok => ?_) ⟨i, o⟩ hok env st hg
  simp only at hok
  obtain ⟨h1, h2, h3⟩ := hok
  dsimp only
  by_cases h : i < ps.length
  · have hx := index_prs nl ps i h
    have hs := succ64 i (by omega)
    have hd : ps.drop i = ps[i] :: ps.drop (i + 1) := List.drop_eq_getElem_cons h
    have hp := h7 ps[i] (List.getElem_mem h)
    rw [hd, List.foldl_cons]
    generalize ps[i] = c at *
    obtain ⟨u, v⟩ := c
    obtain ⟨a1, a2, a3, a4⟩ := hp
    simp only at a1 a2 a3 a4 hx
    obtain ⟨u, rfl⟩ := Int.eq_ofNat_of_zero_le a1
    obtain ⟨v, rfl⟩ := Int.eq_ofNat_of_zero_le a3
    have hlt : ((i : Int) < (ps.length : Int)) = True := eq_true (by omega)
    have hu : u < 7 := by omega
    have hv : v < 7 := by omega
    have e1 : orU (o.getD u 0) (sh1 v) = o.getD u 0 ||| 2 ^ v := by rw [(sh1_lt v hv).1, orU_eq _ _ (small_getD h3 u) (sh1_lt v hv).2]
    have hs1 := orAt_small h3 (a := u) hv
    have hl1 := orAt_len o u v
    have g1 := getW n o u (by omega)
    have hset1 : (webC n o).set (1 + u) (U (o.getD u 0 ||| 2 ^ v)) = webC n (see1 o ((u : Int), (v : Int))) := setW n o u _
    have hadv : see1 o ((u : Int), (v : Int)) = orAt o u v := rfl
    have b1 : ((0 : Int) ≤ (u : Int)) = True := eq_true (by omega)
    have b2 : ((u : Int) < 7) = True := eq_true (by omega)
    have b5 : (1 + u + 1 ≤ 8) = True := eq_true (by omega)
    have hlw := lenW n o
    rw [h2] at hl1 hlw
    rw [← hadv] at hs1 hl1
    generalize see1 o ((u : Int), (v : Int)) = o2 at *
    simp only [go_sem, reduceIte, Nat.reduceEqDiff, Nat.reduceAdd, Nat.reduceSub, Nat.reduceLeDiff, Nat.reduceLT, reduceCtorEq, Int.reduceLT, Int.reduceLE, Int.reduceEq, Int.reduceBEq, Int.reduceSub, Int.reduceAdd, Int.reduceMul, Int.reduceNeg, Int.reduceToNat, Nat.reduceMul, Nat.reduceBEq, index_rsl_if, setm, make_ints, condK_dec, wantK_dec, not_dec, and_dec, or_dec, seqK_ite, seqK_none, blockK_ite, blockK_none, opsK_ite, opsK_none, stepK_ite, stepK_none, bodyK_ite, bodyK_none, resK_ite, resK_none, leaveK_ite, leaveK_none, only_ite, only_none, bind_ite, gives_some, gives_none, gives_ite, then_normal, then_ret, then_exit, then_none, then_ite, Option.bind_none, Bool.not_eq_true', decide_eq_false_iff_not, Bool.and_eq_true, Bool.or_eq_true, Option.some.injEq, Int.not_lt, Int.not_le, lp65_0, hx, hlt, hs, b1, b2, b5, g1, e1, hset1, h2, hl1, hlw, List.length_map]
    refine ⟨(i + 1, o2), by simp only [go_sem, reduceIte, Nat.reduceEqDiff, Nat.reduceAdd, Nat.reduceSub, Nat.reduceLeDiff, Nat.reduceLT, reduceCtorEq, Int.reduceLT, Int.reduceLE, Int.reduceEq, Int.reduceBEq, Int.reduceSub, Int.reduceAdd, Int.reduceMul, Int.reduceNeg, Int.reduceToNat, Nat.reduceMul, Nat.reduceBEq, ren1_locm, loc_tips, locT_eq, okRefsW, renCellsW, w8] <;> rfl, ?_, ?_, fun x en s hq => ?_⟩
    · dsimp only; exact ⟨by omega, hl1, hs1⟩
    · simp only; omega
    · exact hq
  · have hd : ps.drop i = [] := List.drop_eq_nil_of_le (by omega)
    have hlt : ((i : Int) < (ps.length : Int)) = False := eq_false (by omega)
    simp only [go_sem, reduceIte, Nat.reduceEqDiff, Nat.reduceAdd, Nat.reduceSub, Nat.reduceLeDiff, Nat.reduceLT, reduceCtorEq, Int.reduceLT, Int.reduceLE, Int.reduceEq, Int.reduceBEq, Int.reduceSub, Int.reduceAdd, Int.reduceMul, Int.reduceNeg, Int.reduceToNat, Nat.reduceMul, Nat.reduceBEq, index_rsl_if, setm, make_ints, condK_dec, wantK_dec, not_dec, and_dec, or_dec, seqK_ite, seqK_none, blockK_ite, blockK_none, opsK_ite, opsK_none, stepK_ite, stepK_none, bodyK_ite, bodyK_none, resK_ite, resK_none, leaveK_ite, leaveK_none, only_ite, only_none, bind_ite, gives_some, gives_none, gives_ite, then_normal, then_ret, then_exit, then_none, then_ite, Option.bind_none, Bool.not_eq_true', decide_eq_false_iff_not, Bool.and_eq_true, Bool.or_eq_true, Option.some.injEq, Int.not_lt, Int.not_le, lp65_0, hlt, List.length_map]
    rw [hd]; exact ⟨rfl, h2⟩

/-! ### what a book that is checked has -/
theorem prsErr_zero {n : Int} : ∀ {ps seen : List (Int × Int)}, prsErr n seen ps = 0 → ∀ p ∈ ps, 0 ≤ p.1 ∧ p.1 < n ∧ 0 ≤ p.2 ∧ p.2 < n ∧ p.1 ≠ p.2 ∧ p ∉ seen
  | [], _, _, p, hp => by simp at hp
  | a :: r, seen, h, p, hp => by
    simp only [prsErr] at h
    split at h
    · next h0 =>
      unfold prErr at h0
      split at h0
      · omega
      · split at h0
        · omega
        · split at h0
          · omega
          · next q1 q2 q3 =>
            rcases List.mem_cons.1 hp with rfl | hp
            · exact ⟨by omega, by omega, by omega, by omega, q2, q3⟩
            · obtain ⟨g1, g2, g3, g4, g5, g6⟩ := prsErr_zero h p hp
              exact ⟨g1, g2, g3, g4, g5, fun hh => g6 (by simp [hh])⟩
    · next h0 => exact absurd h h0
theorem prsErr_nodup {n : Int} : ∀ {ps seen : List (Int × Int)}, prsErr n seen ps = 0 → ps.Nodup
  | [], _, _ => List.nodup_nil
  | a :: r, seen, h => by
    simp only [prsErr] at h
    split at h
    · refine List.nodup_cons.2 ⟨fun hm => ?_, prsErr_nodup h⟩
      exact (prsErr_zero h a hm).2.2.2.2.2 (by simp)
    · next h0 => exact absurd h h0
theorem chk_zero {n : Int} {ps : List (Int × Int)} (h : chk n ps = 0) : (1 ≤ n ∧ n ≤ 7) ∧ ps.length ≤ 16 ∧ (∀ p ∈ ps, 0 ≤ p.1 ∧ p.1 < n ∧ 0 ≤ p.2 ∧ p.2 < n ∧ p.1 ≠ p.2) ∧ (∀ p ∈ ps, okP p) ∧ ps.Nodup := by
  unfold chk at h
  split at h
  · omega
  · split at h
    · omega
    · have h3 := fun p hp => prsErr_zero h p hp
      exact ⟨by omega, by omega, fun p hp => by have := h3 p hp; exact ⟨by omega, by omega, by omega, by omega, this.2.2.2.2.1⟩, fun p hp => by have := h3 p hp; unfold okP; omega, prsErr_nodup h⟩
def wovL (n : Int) (ps : List (Int × Int)) : List Nat := if chk n ps = 0 then seeL 7 ps else List.replicate 7 0
theorem c65 (nl : Bool) (n : Int) (ps : List (Int × Int)) (st : St) :
    run L 65 [bkAV nl n ps] st = some (.tup [webAV n (wovL n ps), I (chk n ps)], st) := by
  rw [run_pure (fn := ir65) rfl rfl]
  have h24 := fun st => c24 nl n ps st
  unfold wovL
  by_cases h : chk n ps = 0
  · obtain ⟨h1, h2, h3, h4, h5⟩ := chk_zero h
    rw [if_pos h]
    simp only [ir65, go_sem, reduceIte, Nat.reduceEqDiff, Nat.reduceAdd, Nat.reduceSub, Nat.reduceLeDiff, Nat.reduceLT, reduceCtorEq, Int.reduceLT, Int.reduceLE, Int.reduceEq, Int.reduceBEq, Int.reduceSub, Int.reduceAdd, Int.reduceMul, Int.reduceNeg, Int.reduceToNat, Nat.reduceMul, Nat.reduceBEq, h24, h, List.length_map]
    generalize hg : lim (headed pure (run L) true _ lp65_0 _ _) _ _ = o
    obtain ⟨x, en, s, rfl, h2⟩ : ∃ x en s, o = some (x, en, s) ∧ _ := by rw [← hg]; exact loop65 nl n ps (by omega) h4 0 (List.replicate 7 0) ⟨by omega, by simp, by simp⟩ _ _ (by simp only [go_sem, reduceIte, Nat.reduceEqDiff, Nat.reduceAdd, Nat.reduceSub, Nat.reduceLeDiff, Nat.reduceLT, reduceCtorEq, Int.reduceLT, Int.reduceLE, Int.reduceEq, Int.reduceBEq, Int.reduceSub, Int.reduceAdd, Int.reduceMul, Int.reduceNeg, Int.reduceToNat, Nat.reduceMul, Nat.reduceBEq, w8, webC, List.map_replicate, h24, h] <;> rfl)
    clear hg
    obtain ⟨rfl, g1, g2, rfl, g3⟩ := h2
    rw [List.drop_zero] at g3 ⊢
    have e : ps.foldl see1 (List.replicate 7 0) = seeL 7 ps := rfl
    rw [e] at g3 ⊢
    obtain ⟨a, b, c, d, f, g, k, g4⟩ := len_seven g3
    rw [g4]
    simp only [go_sem, reduceIte, Nat.reduceEqDiff, Nat.reduceAdd, Nat.reduceSub, Nat.reduceLeDiff, Nat.reduceLT, reduceCtorEq, Int.reduceLT, Int.reduceLE, Int.reduceEq, Int.reduceBEq, Int.reduceSub, Int.reduceAdd, Int.reduceMul, Int.reduceNeg, Int.reduceToNat, Nat.reduceMul, Nat.reduceBEq, g1, g2, w8, webC, h]
    rfl
  · rw [if_neg h]
    simp only [ir65, go_sem, reduceIte, Nat.reduceEqDiff, Nat.reduceAdd, Nat.reduceSub, Nat.reduceLeDiff, Nat.reduceLT, reduceCtorEq, Int.reduceLT, Int.reduceLE, Int.reduceEq, Int.reduceBEq, Int.reduceSub, Int.reduceAdd, Int.reduceMul, Int.reduceNeg, Int.reduceToNat, Nat.reduceMul, Nat.reduceBEq, h24, h, webC]
    rfl

/-! ### the bits -/
theorem orAt_bit (o : List Nat) (u v a b : Nat) (hu : u < o.length) : ((orAt o u v).getD a 0).testBit b = ((o.getD a 0).testBit b || (decide (a = u) && decide (b = v))) := by
  unfold orAt
  by_cases e : a = u
  · subst e
    rw [List.getD_eq_getElem?_getD, List.getElem?_set_self (by omega)]
    simp only [Option.getD_some, Nat.testBit_or, Nat.testBit_two_pow, decide_true, Bool.true_and]
    congr 1
    by_cases h : v = b
    · simp [h]
    · simp [h, Ne.symm h]
  · rw [List.getD_eq_getElem?_getD, List.getElem?_set_ne (Ne.symm e), ← List.getD_eq_getElem?_getD]
    simp [e]
theorem foldl_see_bit (a b : Nat) : ∀ (ps : List (Int × Int)) (o : List Nat), (∀ p ∈ ps, okP p) → 7 ≤ o.length → ((ps.foldl see1 o).getD a 0).testBit b = ((o.getD a 0).testBit b || decide (((a : Int), (b : Int)) ∈ ps))
  | [], o, _, _ => by simp
  | p :: r, o, hp, hl => by
    have h1 := hp p (by simp)
    unfold okP at h1
    rw [List.foldl_cons, foldl_see_bit a b r _ (fun q hq => hp q (by simp [hq])) (by unfold see1; rw [orAt_len]; exact hl)]
    unfold see1
    rw [orAt_bit _ _ _ _ _ (by omega), Bool.or_assoc]
    congr 1
    obtain ⟨u, v⟩ := p
    simp only at h1 ⊢
    rw [Bool.eq_iff_iff]
    simp only [Bool.or_eq_true, Bool.and_eq_true, decide_eq_true_eq, List.mem_cons, Prod.mk.injEq]
    constructor
    · rintro (⟨h, h'⟩ | h)
      · exact .inl ⟨by omega, by omega⟩
      · exact .inr h
    · rintro (⟨h, h'⟩ | h)
      · exact .inl ⟨by omega, by omega⟩
      · exact .inr h
theorem seeL_bit {z : Nat} (hz : 7 ≤ z) {ps : List (Int × Int)} (h : ∀ p ∈ ps, okP p) (a b : Nat) : ((seeL z ps).getD a 0).testBit b = decide (((a : Int), (b : Int)) ∈ ps) := by
  unfold seeL
  rw [foldl_see_bit a b ps _ h (by simpa using hz)]
  have : (List.replicate z 0).getD a 0 = 0 := by
    rw [List.getD_eq_getElem?_getD, List.getElem?_replicate]; split <;> rfl
  rw [this]; simp

attribute [local go_sem high] and_one shr_u shl_one or_u

/-! ### lists that should be odd circles -/
def setL (l : List Int) : Nat := l.foldl (fun m x => m ||| 2 ^ x.toNat) 0
theorem setL_snoc (l : List Int) (x : Int) : setL (l ++ [x]) = setL l ||| 2 ^ x.toNat := by simp [setL]
theorem setL_aux : ∀ (l : List Int) (m : Nat), (∀ x ∈ l, 0 ≤ x ∧ x < 7) → m < 128 → l.foldl (fun m x => m ||| 2 ^ x.toNat) m < 128 ∧ ∀ b : Nat, (l.foldl (fun m x => m ||| 2 ^ x.toNat) m).testBit b = (m.testBit b || decide ((b : Int) ∈ l))
  | [], m, _, hm => ⟨hm, fun b => by simp⟩
  | x :: r, m, h, hm => by
    have hx := h x (by simp)
    have h2 : m ||| 2 ^ x.toNat < 128 := Nat.or_lt_two_pow (n := 7) hm (sh1_lt _ (by omega)).2
    obtain ⟨g1, g2⟩ := setL_aux r (m ||| 2 ^ x.toNat) (fun y hy => h y (by simp [hy])) h2
    refine ⟨g1, fun b => ?_⟩
    rw [List.foldl_cons, g2, Nat.testBit_or, Nat.testBit_two_pow, Bool.or_assoc]
    congr 1
    rw [Bool.eq_iff_iff]
    simp only [Bool.or_eq_true, decide_eq_true_eq, List.mem_cons]
    constructor
    · rintro (h | h)
      · exact .inl (by omega)
      · exact .inr h
    · rintro (h | h)
      · exact .inl (by omega)
      · exact .inr h
theorem setL_lt {l : List Int} (h : ∀ x ∈ l, 0 ≤ x ∧ x < 7) : setL l < 128 := (setL_aux l 0 h (by omega)).1
theorem setL_bit {l : List Int} (h : ∀ x ∈ l, 0 ≤ x ∧ x < 7) (b : Nat) : (setL l).testBit b = decide ((b : Int) ∈ l) := by
  have := (setL_aux l 0 h (by omega)).2 b
  simpa [setL] using this

attribute [local go_sem high] and_one shr_u shl_one or_u

theorem tmod_nat (a b : Nat) : (a : Int).tmod (b : Int) = ((a % b : Nat) : Int) := by
  rw [Int.tmod_eq_emod_of_nonneg (by omega)]; simp
theorem putW (n : Int) (o : List Nat) (h : o.length = 7) : putCells [.v (.int .i64 0), .v (.int .u64 0), .v (.int .u64 0), .v (.int .u64 0), .v (.int .u64 0), .v (.int .u64 0), .v (.int .u64 0), .v (.int .u64 0)] 0 (webC n o) = webC n o := by
  obtain ⟨a, b, c, d, e, f, g, rfl⟩ := len_seven h
  rfl


/-! ### a book by numbers is a good one -/
def goodP (n : Int) (p : Int × Int) : Prop := 0 ≤ p.1 ∧ p.1 < n ∧ 0 ≤ p.2 ∧ p.2 < n ∧ p.1 ≠ p.2
theorem prsErr_ok {n : Int} : ∀ (ps seen : List (Int × Int)), (∀ p ∈ ps, goodP n p) → (seen ++ ps).Nodup → prsErr n seen ps = 0
  | [], _, _, _ => rfl
  | p :: r, seen, h, hn => by
    have hp := h p (by simp)
    unfold goodP at hp
    have h1 : p ∉ seen := by
      intro hs
      rw [List.nodup_append] at hn
      exact hn.2.2 p hs p (by simp) rfl
    have e : prErr n seen p = 0 := by
      unfold prErr
      rw [if_neg (by omega), if_neg (by omega), if_neg h1]
    simp only [prsErr, e, if_true]
    exact prsErr_ok r _ (fun q hq => h q (by simp [hq])) (by simpa using hn)
theorem mk_ok {n : Int} (hn : 0 < n) {out : List (Int × Int)} (h : (∀ p ∈ out, goodP n p) ∧ out.Nodup) (a b : Int) :
    (∀ p ∈ mkStep n out a b, goodP n p) ∧ (mkStep n out a b).Nodup := by
  have ra := mod_range a n hn
  have rb := mod_range b n hn
  unfold mkStep
  split
  · next hc =>
    refine ⟨fun p hp => ?_, ?_⟩
    · rcases List.mem_append.1 hp with hp | hp
      · exact h.1 p hp
      · rw [List.mem_singleton] at hp; subst hp; exact ⟨ra.1, ra.2, rb.1, rb.2, hc.1⟩
    · rw [List.nodup_append]
      refine ⟨h.2, by simp, fun x hx y hy => ?_⟩
      rw [List.mem_singleton] at hy; subst hy
      intro e; subst e; exact hc.2 hx
  · exact h
theorem madeTo_ok {n : Int} (hn : 0 < n) (zs : List Int) : ∀ k, (∀ p ∈ madeTo n zs k, goodP n p) ∧ (madeTo n zs k).Nodup
  | 0 => by simp [madeTo]
  | k + 1 => mk_ok hn (madeTo_ok hn zs k) _ _
/-- What is known of a book by numbers. -/
theorem made_ok {most : Int} (hl : most = 6 ∨ most = 7) (zs : List Int) :
    ∃ n : Nat, madeN most zs = n ∧ 1 ≤ n ∧ (n : Int) ≤ most ∧ n ≤ 7 ∧ (madeP most zs).length ≤ 16 ∧ (∀ p ∈ madeP most zs, goodP n p) ∧ (∀ p ∈ madeP most zs, okP p) ∧ (madeP most zs).Nodup ∧ chk (n : Int) (madeP most zs) = 0 := by
  have r0 := mod_range (zs.getD 0 0) most (by omega)
  have r1 := mod_range (zs.getD 1 0) 17 (by omega)
  have hN : madeN most zs = 1 + zs.getD 0 0 % most := rfl
  obtain ⟨n, hn⟩ := Int.eq_ofNat_of_zero_le (show 0 ≤ madeN most zs by omega)
  have h1 := madeTo_ok (n := madeN most zs) (by omega) zs (zs.getD 1 0 % 17).toNat
  have h2 := madeTo_len (madeN most zs) zs (zs.getD 1 0 % 17).toNat
  have e : madeP most zs = madeTo (madeN most zs) zs (zs.getD 1 0 % 17).toNat := rfl
  rw [← e] at h1 h2
  rw [hn] at h1
  refine ⟨n, hn, by omega, by omega, by omega, by omega, h1.1, fun p hp => ?_, h1.2, ?_⟩
  · have := h1.1 p hp; unfold goodP at this; unfold okP; omega
  · unfold chk
    rw [if_neg (by omega), if_neg (by omega)]
    exact prsErr_ok _ [] h1.1 (by simpa using h1.2)

/-! ### each sees the next one -/
/-! ### a list of numbers that grows -/
def vAV (v : List Int) : AV := loc 1 0 (v.map I)
theorem okRef_v (n : Nat) (v : List Int) : okRef n (vAV v) = true := okRef_loc _ _ _ _
theorem pub_v (v : List Int) : pub (vAV v) = sl 1 true (v.map I) := pub_loc 1 0 _
theorem len_v (v : List Int) : lenAV (vAV v) = some (I v.length) := by unfold vAV; rw [len_loc]; simp
end Go.Proofs.YtgohohiaaiogcaaDoor.Vm

namespace Go.Proofs.YtgohohiaaiogcaaDoor.Vm
open Go Go.Ev Go.ChangeShapes Go.WideShapes Go.ChangeAt Go.RowKit
set_option maxRecDepth 100000
attribute [local go_sem] cells_any storable_any ren1_any shaped_ptr cells_ptr storable_ptr ren1_ptr shaped_eptr cells_eptr storable_eptr ren1_eptr shaped_rsl cells_rsl storable_rsl ren1_rsl shaped_int cells_int storable_int ren1_int shaped_bool cells_bool storable_bool ren1_bool shaped_nils cells_nils storable_nils ren1_nils shaped_lst cells_lst storable_lst shaped_fn cells_fn storable_fn ren1_fn shaped_ifc cells_ifc storable_ifc ren1_ifc shaped_agg cells_agg storable_agg ren1_agg shaped_tup cells_tup storable_tup ren1_tup shaped_nif cells_nif storable_nif ren1_nif ren1_lany ren1_lfull ren1_lown len_lst len_rsl len_nil load_ptr load_eptr isRsl_lst isRsl_nil isRsl_rsl elems_nil elems_lst elems_sl isRsl_sl body_eq bodyK_normal bodyK_ret resK_some leaveK_some only_some code_skip code_exit code_ret code_ops code_seq code_cond code_block seqK_normal seqK_ret seqK_exit condK_true condK_false blockK_normal blockK_ret blockK_exit opsK_some ops_nil ops_cons wantK_true wantK_false stepK_some pubs pub pub_sl params okRef_loc storable_loc shaped_loc cells_loc isRsl_loc elems_loc len_loc untips untip untip_sl wantedAV setElems withO isAgg_v isAgg_agg isAgg_lst isAgg_ptr isAgg_fn isAgg_ifc isAgg_rsl isAgg_sl isAgg_loc List.replicate_succ List.replicate_zero opAV valAV aval avals ofVal Env.get setD canon gcAV renAll renEnv renStore renCells ren1_sl cutSt okEnv okStore okRefs okRef okRef_sl bin_int bin_bool bin_lst bin_rsl bin_nil bin_agg cellsEq cellEq isShift intOp boolOp min_int max_int beq_int bne resAV tupAV leave_eq fin_sl fin_loc fins fin_v fin_lst fin_agg fin_tup fin_fn storeAV readCells putCells cells_sl shaped_sl storable_sl fieldAddrAV len_sl goI List.getElem?_cons_zero List.getElem?_cons_succ List.getElem?_nil Option.bind_some Option.map_some List.length_cons List.length_nil List.all_cons List.all_nil Bool.and_true Bool.true_and Bool.and_false Bool.false_and and_true true_and and_false false_and Bool.false_eq_true List.set_cons_zero List.set_cons_succ List.append_nil List.nil_append List.cons_append List.take_zero List.take_succ_cons List.take_nil List.drop_zero List.drop_succ_cons List.map_cons List.map_nil decide_true decide_false beq_self_eq_true Bool.not_true Bool.not_false or_true true_or or_false false_or Nat.zero_add Nat.add_zero Nat.le_refl Nat.lt_irrefl decide_eq_true_eq eq_self_iff_true not_true_eq_false not_false_eq_true List.getD_cons_zero code_loop Nat.zero_le Nat.not_lt_zero Bool.true_beq Bool.false_beq beq_true beq_false ge_iff_le gt_iff_lt keepR keepT ownTop Lpure pus Option.map_none assert_ifc assert_nil idxA_ptr idxA_eptr idxV_agg Int.cast_ofNat_Int Nat.mul_one Nat.zero_mul Int.toNat_natCast Int.toNat_zero setParts withO2 hasKey eqnil_sl nenil_sl eqnil_loc nenil_loc map_nil_iff okRefs_ints renCells_ints

theorem cells5 : Tryd.prog.cellsOf 5 = 1 := by kernel_rfl
theorem cells57 : Tryd.prog.cellsOf 57 = 2 := by kernel_rfl
theorem cells58 : Tryd.prog.cellsOf 58 = 32 := by kernel_rfl
theorem cells60 : Tryd.prog.cellsOf 60 = 34 := by kernel_rfl
theorem one_byte {d : Nat} {bs : List AV} (h : Sh Tryd.prog (d + 1) 5 bs) : ∃ zs : List Int, bs = zs.map B8 ∧ zs.length = 1 ∧ ∀ n ∈ zs, Byte n := by
  simp only [Sh, Tryd.underlying5] at h
  obtain ⟨n, h1, h2⟩ := h
  exact ⟨[n], h1, rfl, by simp; exact bounds_u8 h2⟩
/-- Parts of bytes. -/
theorem all_parts (z : Nat) : ∀ (k : Nat) (bs : List AV), bs.length = k * z → (∀ i, i < k → ∃ zs : List Int, (bs.drop (i * z)).take z = zs.map B8 ∧ zs.length = z ∧ ∀ n ∈ zs, Byte n) → ∃ zs : List Int, bs = zs.map B8 ∧ zs.length = k * z ∧ ∀ n ∈ zs, Byte n
  | 0, bs, hl, _ => ⟨[], by have : bs.length = 0 := by simpa using hl
                            simpa using this, by simp, by simp⟩
  | k + 1, bs, hl, h => by
    rw [Nat.succ_mul] at hl
    obtain ⟨zs, h1, h2, h3⟩ := h 0 (by omega)
    rw [Nat.zero_mul, List.drop_zero] at h1
    obtain ⟨ys, g1, g2, g3⟩ := all_parts z k (bs.drop z) (by simp; omega) fun i hi => by
      obtain ⟨xs, q1, q2, q3⟩ := h (i + 1) (by omega)
      refine ⟨xs, ?_, q2, q3⟩
      rw [List.drop_drop, ← q1, Nat.succ_mul, Nat.add_comm (i * z) z]
    refine ⟨zs ++ ys, ?_, by rw [List.length_append, h2, g2, Nat.succ_mul]; omega, ?_⟩
    · rw [List.map_append, ← h1, ← g1, List.take_append_drop]
    · intro n hn
      rcases List.mem_append.1 hn with hn | hn
      · exact h3 n hn
      · exact g3 n hn
theorem sh_b57 {d : Nat} {bs : List AV} (h : Sh Tryd.prog (d + 2) 57 bs) : ∃ zs : List Int, bs = zs.map B8 ∧ zs.length = 2 ∧ ∀ n ∈ zs, Byte n := by
  unfold Sh at h
  simp only [Tryd.underlying57, cells57, cells5] at h
  exact all_parts 1 2 bs (by omega) (fun i hi => one_byte (h.2 i hi))
theorem sh_b58 {d : Nat} {bs : List AV} (h : Sh Tryd.prog (d + 3) 58 bs) : ∃ zs : List Int, bs = zs.map B8 ∧ zs.length = 32 ∧ ∀ n ∈ zs, Byte n := by
  unfold Sh at h
  simp only [Tryd.underlying58, cells58, cells57] at h
  exact all_parts 2 16 bs (by omega) (fun i hi => sh_b57 (h.2 i hi))
/-- A book by numbers. -/
theorem sh_quarrel {a : AV} (h : ShV Tryd.prog 8 60 a) : ∃ zs : List Int, a = qAV zs ∧ zs.length = 34 ∧ ∀ n ∈ zs, Byte n := by
  unfold ShV at h
  rw [if_pos (by unfold aggB; rw [Tryd.underlying60])] at h
  obtain ⟨cs, rfl, hs⟩ := h
  unfold Sh at hs
  simp only [Tryd.underlying60, cells60] at hs
  obtain ⟨h1, h2⟩ := hs
  have f0 := h2 0 _ rfl
  have f1 := h2 1 _ rfl
  have f2 := h2 2 _ rfl
  simp only [List.getElem_toArray, List.getElem_cons_zero, List.getElem_cons_succ, cells5, cells58] at f0 f1 f2
  obtain ⟨ar, e0, l0, b0⟩ := one_byte f0
  obtain ⟨bs, e1, l1, b1⟩ := one_byte f1
  obtain ⟨es, e2, l2, b2⟩ := sh_b58 f2
  refine ⟨ar ++ (bs ++ es), ?_, by simp [l0, l1, l2], ?_⟩
  · have s5 : (cs.drop 2).take 32 = cs.drop 2 := List.take_of_length_le (by simp [h1])
    have s2 : (cs.drop 1).take 1 ++ cs.drop 2 = cs.drop 1 := by
      have := List.take_append_drop 1 (cs.drop 1)
      rw [List.drop_drop] at this
      exact this
    have s1 : (cs.drop 0).take 1 ++ cs.drop 1 = cs := by
      have := List.take_append_drop 1 cs
      simpa using this
    show AV.agg cs = AV.agg _
    rw [List.map_append, List.map_append, ← e0, ← e1, ← e2, s5, s2, s1]
  · intro n hn
    rcases List.mem_append.1 hn with hn | hn
    · exact b0 n hn
    · rcases List.mem_append.1 hn with hn | hn
      · exact b1 n hn
      · exact b2 n hn
theorem sh_byte {a : AV} (h : ShV Tryd.prog 8 5 a) : ∃ n, a = B8 n ∧ Byte n := by
  unfold ShV at h
  rw [if_neg (by unfold aggB; rw [Tryd.underlying5]; simp)] at h
  simp only [Sh, Tryd.underlying5, List.cons.injEq, and_true] at h
  obtain ⟨n, h1, h2⟩ := h
  exact ⟨n, h1, bounds_u8 h2⟩
end Go.Proofs.YtgohohiaaiogcaaDoor.Vm

namespace Go.Proofs.YtgohohiaaiogcaaDoor.Vm
open Go Go.Ev
set_option maxRecDepth 100000
attribute [local go_sem] cells_any storable_any ren1_any shaped_ptr cells_ptr storable_ptr ren1_ptr shaped_eptr cells_eptr storable_eptr ren1_eptr shaped_rsl cells_rsl storable_rsl ren1_rsl shaped_int cells_int storable_int ren1_int shaped_bool cells_bool storable_bool ren1_bool shaped_nils cells_nils storable_nils ren1_nils shaped_lst cells_lst storable_lst shaped_fn cells_fn storable_fn ren1_fn shaped_ifc cells_ifc storable_ifc ren1_ifc shaped_agg cells_agg storable_agg ren1_agg shaped_tup cells_tup storable_tup ren1_tup shaped_nif cells_nif storable_nif ren1_nif ren1_lany ren1_lfull ren1_lown len_lst len_rsl len_nil load_ptr load_eptr isRsl_lst isRsl_nil isRsl_rsl elems_nil elems_lst elems_sl isRsl_sl body_eq bodyK_normal bodyK_ret resK_some leaveK_some only_some code_skip code_exit code_ret code_ops code_seq code_cond code_block seqK_normal seqK_ret seqK_exit condK_true condK_false blockK_normal blockK_ret blockK_exit opsK_some ops_nil ops_cons wantK_true wantK_false stepK_some pubs pub pub_sl params okRef_loc storable_loc shaped_loc cells_loc isRsl_loc elems_loc len_loc untips untip untip_sl wantedAV setElems withO isAgg_v isAgg_agg isAgg_lst isAgg_ptr isAgg_fn isAgg_ifc isAgg_rsl isAgg_sl isAgg_loc List.replicate_succ List.replicate_zero opAV valAV aval avals ofVal Env.get setD canon gcAV renAll renEnv renStore renCells ren1_sl cutSt okEnv okStore okRefs okRef okRef_sl bin_int bin_bool bin_lst bin_rsl bin_nil bin_agg cellsEq cellEq isShift intOp boolOp min_int max_int beq_int bne resAV tupAV leave_eq fin_sl fin_loc fins fin_v fin_lst fin_agg fin_tup fin_fn storeAV readCells putCells cells_sl shaped_sl storable_sl fieldAddrAV len_sl goI List.getElem?_cons_zero List.getElem?_cons_succ List.getElem?_nil Option.bind_some Option.map_some List.length_cons List.length_nil List.all_cons List.all_nil Bool.and_true Bool.true_and Bool.and_false Bool.false_and and_true true_and and_false false_and Bool.false_eq_true List.set_cons_zero List.set_cons_succ List.append_nil List.nil_append List.cons_append List.take_zero List.take_succ_cons List.take_nil List.drop_zero List.drop_succ_cons List.map_cons List.map_nil decide_true decide_false beq_self_eq_true Bool.not_true Bool.not_false or_true true_or or_false false_or Nat.zero_add Nat.add_zero Nat.le_refl Nat.lt_irrefl decide_eq_true_eq eq_self_iff_true not_true_eq_false not_false_eq_true List.getD_cons_zero code_loop Nat.zero_le Nat.not_lt_zero Bool.true_beq Bool.false_beq beq_true beq_false ge_iff_le gt_iff_lt keepR keepT ownTop Lpure pus Option.map_none assert_ifc assert_nil idxA_ptr idxA_eptr idxV_agg Int.cast_ofNat_Int Nat.mul_one Nat.zero_mul Int.toNat_natCast Int.toNat_zero setParts withO2 hasKey eqnil_sl nenil_sl eqnil_loc nenil_loc map_nil_iff okRefs_ints renCells_ints
attribute [local go_sem] okRef_v pub_v len_v

theorem putJ (o : List Nat) (h : o.length = 8) : putCells [.v (.int .i64 0), .v (.int .i64 0), .v (.int .i64 0), .v (.int .i64 0), .v (.int .i64 0), .v (.int .i64 0), .v (.int .i64 0), .v (.int .i64 0)] 0 (o.map J) = o.map J := by
  obtain ⟨a, b, c, d, e, f, g, k, rfl⟩ := len_eight h
  rfl


/-- Is a list ahead of another one? -/
def lexLt : List Int → List Int → Bool
  | [], [] => false
  | [], _ :: _ => true
  | _ :: _, [] => false
  | a :: r, b :: s => decide (a < b) || (decide (a = b) && lexLt r s)
/-! ### sorting by insertion -/
section
variable {α : Type} (lt : α → α → Bool)
/-- Into a list in the opposite order. -/
def insR : List α → α → List α
  | [], x => [x]
  | a :: C, x => if lt x a = true then a :: insR C x else x :: a :: C
def insL (A : List α) (x : α) : List α := (insR lt A.reverse x).reverse
def sortL (l : List α) : List α := l.foldl (insL lt) []
theorem insL_nil (x : α) : insL lt [] x = [x] := rfl
theorem insL_snoc (A : List α) (a x : α) : insL lt (A ++ [a]) x = if lt x a = true then insL lt A x ++ [a] else A ++ [a, x] := by
  unfold insL
  rw [List.reverse_append, List.reverse_singleton, List.singleton_append]
  simp only [insR]
  split
  · rw [List.reverse_cons]
  · simp
theorem insR_perm : ∀ (C : List α) (x : α), (insR lt C x).Perm (x :: C)
  | [], _ => List.Perm.refl _
  | a :: C, x => by
    simp only [insR]
    split
    · exact ((insR_perm C x).cons a).trans (List.Perm.swap x a C)
    · exact List.Perm.refl _
theorem insL_perm (A : List α) (x : α) : (insL lt A x).Perm (A ++ [x]) := by
  unfold insL
  refine (List.reverse_perm _).trans ((insR_perm lt _ x).trans ?_)
  refine ((List.reverse_perm A).cons x).trans ?_
  exact (List.perm_append_singleton x A).symm
theorem insL_len (A : List α) (x : α) : (insL lt A x).length = A.length + 1 := by
  rw [(insL_perm lt A x).length_eq]; simp
theorem fold_perm : ∀ (l A : List α), (l.foldl (insL lt) A).Perm (A ++ l)
  | [], A => by simp
  | x :: l, A => by
    rw [List.foldl_cons]
    refine (fold_perm l _).trans ?_
    have := (insL_perm lt A x).append_right l
    rwa [List.append_assoc] at this
theorem sortL_perm (l : List α) : (sortL lt l).Perm l := fold_perm lt l []
theorem sortL_cons (x : α) (l : List α) : sortL lt (x :: l) = l.foldl (insL lt) [x] := rfl
variable (h1 : ∀ a b, lt a b = true → lt b a = false) (h2 : ∀ a b c, lt b a = false → lt c b = false → lt c a = false)
include h1 h2
end
theorem set_same {α : Type} (S : List α) (l : Nat) (c : α) (h : S[l]? = some c) : S.set l c = S := by
  apply List.ext_getElem?
  intro i
  rw [List.getElem?_set]
  split
  · next e => subst e; rw [h]; split <;> simp_all
  · rfl


/-! ### comparing lists -/
theorem c98 (a : Int) (st : St) : run L 98 [I a] st = some (B false, st) := by
  rw [run_pure (fn := ir98) rfl rfl]
  simp only [ir98, go_sem, reduceIte, Nat.reduceEqDiff, Nat.reduceAdd, Nat.reduceSub, Nat.reduceLeDiff, Nat.reduceLT, reduceCtorEq, Int.reduceLT, Int.reduceLE, Int.reduceEq, Int.reduceBEq, Int.reduceSub, Int.reduceAdd, Int.reduceMul, Int.reduceNeg, Int.reduceToNat, Nat.reduceMul, Nat.reduceBEq]
theorem c86 (a b : Int) (st : St) : run L 86 [I a, I b] st = some (I (if a < b then -1 else if b < a then 1 else 0), st) := by
  rw [run_pure (fn := ir86) rfl rfl]
  by_cases h1 : a < b
  · simp only [ir86, go_sem, reduceIte, Nat.reduceEqDiff, Nat.reduceAdd, Nat.reduceSub, Nat.reduceLeDiff, Nat.reduceLT, reduceCtorEq, Int.reduceLT, Int.reduceLE, Int.reduceEq, Int.reduceBEq, Int.reduceSub, Int.reduceAdd, Int.reduceMul, Int.reduceNeg, Int.reduceToNat, Nat.reduceMul, Nat.reduceBEq, c98, h1]
  · by_cases h2 : b < a <;> simp only [ir86, go_sem, reduceIte, Nat.reduceEqDiff, Nat.reduceAdd, Nat.reduceSub, Nat.reduceLeDiff, Nat.reduceLT, reduceCtorEq, Int.reduceLT, Int.reduceLE, Int.reduceEq, Int.reduceBEq, Int.reduceSub, Int.reduceAdd, Int.reduceMul, Int.reduceNeg, Int.reduceToNat, Nat.reduceMul, Nat.reduceBEq, c98, h1, h2]

def cmpN : List Int → List Int → Int
  | [], [] => 0
  | [], _ :: _ => -1
  | _ :: _, [] => 1
  | a :: r, b :: s => if a < b then -1 else if b < a then 1 else cmpN r s
theorem cmpN_lt : ∀ (xs ys : List Int), decide (cmpN xs ys < 0) = lexLt xs ys
  | [], [] => rfl
  | [], _ :: _ => rfl
  | _ :: _, [] => rfl
  | a :: r, b :: s => by
    have ih := cmpN_lt r s
    unfold cmpN lexLt
    by_cases h1 : a < b
    · simp [h1]
    · by_cases h2 : b < a
      · simp [h1, h2, show a ≠ b by omega]
      · simp [h1, h2, show a = b by omega, ih]
theorem cmpN_nil (ys : List Int) : cmpN [] ys = if 0 < ys.length then -1 else 0 := by cases ys <;> rfl

theorem loop48 (st0 : St) (n1 n2 : Bool) (xs ys : List Int) (hlen : xs.length < 1000000) (lo hi : Nat) (i : Nat) (hok : i ≤ xs.length ∧ i ≤ ys.length) (env : Env) (st : St)
    (hg : gcAV false lo hi (canon env [0, 1, 9, 10, 11]) st = ([(0, sl 1 n1 (xs.map I)), (1, sl 1 n2 (ys.map I)), (9, sl 1 n1 (xs.map I)), (10, I xs.length), (11, I i)], st0)) :
    ∃ x_1 en s, lim (headed pure (run L) false [0, 1, 9, 10, 11] lp48_0 lo hi) env st = some (x_1, en, s) ∧ (s = st0 ∧ ((x_1 = .exit 0 ∧ en.get 0 = sl 1 n1 (xs.map I) ∧ en.get 1 = sl 1 n2 (ys.map I) ∧ cmpN (xs.drop i) (ys.drop i) = if xs.length < ys.length then -1 else 0) ∨ (x_1 = .ret ∧ en.get 4 = I (cmpN (xs.drop i) (ys.drop i))))) := by
  refine loop_wp (α := Nat) (fun i => xs.length - i) (fun i => i ≤ xs.length ∧ i ≤ ys.length) (fun i => ([(0, sl 1 n1 (xs.map I)), (1, sl 1 n2 (ys.map I)), (9, sl 1 n1 (xs.map I)), (10, I xs.length), (11, I i)], st0)) (fun i x_1 en s => s = st0 ∧ ((x_1 = .exit 0 ∧ en.get 0 = sl 1 n1 (xs.map I) ∧ en.get 1 = sl 1 n2 (ys.map I) ∧ cmpN (xs.drop i) (ys.drop i) = if xs.length < ys.length then -1 else 0) ∨ (x_1 = .ret ∧ en.get 4 = I (cmpN (xs.drop i) (ys.drop i))))) (fun i hok => ?_) i hok env st hg
  obtain ⟨hok1, hok2⟩ := hok
  by_cases h : i < xs.length
  · have hx := index_ints n1 xs i h
    have hs := succ64 i (by omega)
    have hd : xs.drop i = xs[i] :: xs.drop (i + 1) := List.drop_eq_getElem_cons h
    have hlt : ((i : Int) < (xs.length : Int)) = True := eq_true (by omega)
    rw [hd]
    by_cases h2 : i < ys.length
    · have hy := index_ints n2 ys i h2
      have hd2 : ys.drop i = ys[i] :: ys.drop (i + 1) := List.drop_eq_getElem_cons h2
      have hge : ((ys.length : Int) ≤ (i : Int)) = False := eq_false (by omega)
      rw [hd2]
      generalize xs[i] = a at *
      generalize ys[i] = b at *
      have hcn : cmpN (a :: xs.drop (i + 1)) (b :: ys.drop (i + 1)) = if a < b then -1 else if b < a then 1 else cmpN (xs.drop (i + 1)) (ys.drop (i + 1)) := rfl
      rw [hcn]
      by_cases p1 : a < b
      · simp only [go_sem, reduceIte, Nat.reduceEqDiff, Nat.reduceAdd, Nat.reduceSub, Nat.reduceLeDiff, Nat.reduceLT, reduceCtorEq, Int.reduceLT, Int.reduceLE, Int.reduceEq, Int.reduceBEq, Int.reduceSub, Int.reduceAdd, Int.reduceMul, Int.reduceNeg, Int.reduceToNat, Nat.reduceMul, Nat.reduceBEq, index_rsl_if, setm, make_ints, condK_dec, wantK_dec, not_dec, and_dec, or_dec, seqK_ite, seqK_none, blockK_ite, blockK_none, opsK_ite, opsK_none, stepK_ite, stepK_none, bodyK_ite, bodyK_none, resK_ite, resK_none, leaveK_ite, leaveK_none, only_ite, only_none, bind_ite, gives_some, gives_none, gives_ite, then_normal, then_ret, then_exit, then_none, then_ite, Option.bind_none, Bool.not_eq_true', decide_eq_false_iff_not, Bool.and_eq_true, Bool.or_eq_true, Option.some.injEq, Int.not_lt, Int.not_le, lp48_0, hx, hy, hlt, hge, c86, p1, List.length_map]
      · by_cases p2 : b < a
        · simp only [go_sem, reduceIte, Nat.reduceEqDiff, Nat.reduceAdd, Nat.reduceSub, Nat.reduceLeDiff, Nat.reduceLT, reduceCtorEq, Int.reduceLT, Int.reduceLE, Int.reduceEq, Int.reduceBEq, Int.reduceSub, Int.reduceAdd, Int.reduceMul, Int.reduceNeg, Int.reduceToNat, Nat.reduceMul, Nat.reduceBEq, index_rsl_if, setm, make_ints, condK_dec, wantK_dec, not_dec, and_dec, or_dec, seqK_ite, seqK_none, blockK_ite, blockK_none, opsK_ite, opsK_none, stepK_ite, stepK_none, bodyK_ite, bodyK_none, resK_ite, resK_none, leaveK_ite, leaveK_none, only_ite, only_none, bind_ite, gives_some, gives_none, gives_ite, then_normal, then_ret, then_exit, then_none, then_ite, Option.bind_none, Bool.not_eq_true', decide_eq_false_iff_not, Bool.and_eq_true, Bool.or_eq_true, Option.some.injEq, Int.not_lt, Int.not_le, lp48_0, hx, hy, hlt, hge, c86, p1, p2, List.length_map]
        · simp only [go_sem, reduceIte, Nat.reduceEqDiff, Nat.reduceAdd, Nat.reduceSub, Nat.reduceLeDiff, Nat.reduceLT, reduceCtorEq, Int.reduceLT, Int.reduceLE, Int.reduceEq, Int.reduceBEq, Int.reduceSub, Int.reduceAdd, Int.reduceMul, Int.reduceNeg, Int.reduceToNat, Nat.reduceMul, Nat.reduceBEq, index_rsl_if, setm, make_ints, condK_dec, wantK_dec, not_dec, and_dec, or_dec, seqK_ite, seqK_none, blockK_ite, blockK_none, opsK_ite, opsK_none, stepK_ite, stepK_none, bodyK_ite, bodyK_none, resK_ite, resK_none, leaveK_ite, leaveK_none, only_ite, only_none, bind_ite, gives_some, gives_none, gives_ite, then_normal, then_ret, then_exit, then_none, then_ite, Option.bind_none, Bool.not_eq_true', decide_eq_false_iff_not, Bool.and_eq_true, Bool.or_eq_true, Option.some.injEq, Int.not_lt, Int.not_le, lp48_0, hx, hy, hlt, hge, c86, p1, p2, hs, List.length_map]
          refine ⟨i + 1, by simp only [go_sem, reduceIte, Nat.reduceEqDiff, Nat.reduceAdd, Nat.reduceSub, Nat.reduceLeDiff, Nat.reduceLT, reduceCtorEq, Int.reduceLT, Int.reduceLE, Int.reduceEq, Int.reduceBEq, Int.reduceSub, Int.reduceAdd, Int.reduceMul, Int.reduceNeg, Int.reduceToNat, Nat.reduceMul, Nat.reduceBEq, ren1_locm, loc_tips, locT_eq] <;> rfl, ?_, ?_, fun x en s hq => ?_⟩
          · omega
          · omega
          · exact hq
    · have hd2 : ys.drop i = [] := List.drop_eq_nil_of_le (by omega)
      have hge : ((ys.length : Int) ≤ (i : Int)) = True := eq_true (by omega)
      rw [hd2]
      generalize xs[i] = a at *
      simp only [go_sem, reduceIte, Nat.reduceEqDiff, Nat.reduceAdd, Nat.reduceSub, Nat.reduceLeDiff, Nat.reduceLT, reduceCtorEq, Int.reduceLT, Int.reduceLE, Int.reduceEq, Int.reduceBEq, Int.reduceSub, Int.reduceAdd, Int.reduceMul, Int.reduceNeg, Int.reduceToNat, Nat.reduceMul, Nat.reduceBEq, index_rsl_if, setm, make_ints, condK_dec, wantK_dec, not_dec, and_dec, or_dec, seqK_ite, seqK_none, blockK_ite, blockK_none, opsK_ite, opsK_none, stepK_ite, stepK_none, bodyK_ite, bodyK_none, resK_ite, resK_none, leaveK_ite, leaveK_none, only_ite, only_none, bind_ite, gives_some, gives_none, gives_ite, then_normal, then_ret, then_exit, then_none, then_ite, Option.bind_none, Bool.not_eq_true', decide_eq_false_iff_not, Bool.and_eq_true, Bool.or_eq_true, Option.some.injEq, Int.not_lt, Int.not_le, lp48_0, hx, hlt, hge, cmpN, List.length_map]
  · have hd : xs.drop i = [] := List.drop_eq_nil_of_le (by omega)
    have hlt : ((i : Int) < (xs.length : Int)) = False := eq_false (by omega)
    have hl2 : (ys.drop i).length = ys.length - i := List.length_drop
    rw [hd, cmpN_nil, hl2]
    simp only [go_sem, reduceIte, Nat.reduceEqDiff, Nat.reduceAdd, Nat.reduceSub, Nat.reduceLeDiff, Nat.reduceLT, reduceCtorEq, Int.reduceLT, Int.reduceLE, Int.reduceEq, Int.reduceBEq, Int.reduceSub, Int.reduceAdd, Int.reduceMul, Int.reduceNeg, Int.reduceToNat, Nat.reduceMul, Nat.reduceBEq, index_rsl_if, setm, make_ints, condK_dec, wantK_dec, not_dec, and_dec, or_dec, seqK_ite, seqK_none, blockK_ite, blockK_none, opsK_ite, opsK_none, stepK_ite, stepK_none, bodyK_ite, bodyK_none, resK_ite, resK_none, leaveK_ite, leaveK_none, only_ite, only_none, bind_ite, gives_some, gives_none, gives_ite, then_normal, then_ret, then_exit, then_none, then_ite, Option.bind_none, Bool.not_eq_true', decide_eq_false_iff_not, Bool.and_eq_true, Bool.or_eq_true, Option.some.injEq, Int.not_lt, Int.not_le, lp48_0, hlt, List.length_map]
    have e : (0 < ys.length - i) = (xs.length < ys.length) := propext (by omega)
    simp only [e]

theorem c48 (n1 n2 : Bool) (xs ys : List Int) (hlen : xs.length < 1000000) (st : St) : run L 48 [sl 1 n1 (xs.map I), sl 1 n2 (ys.map I)] st = some (I (cmpN xs ys), st) := by
  rw [run_shared (fn := ir48) rfl rfl]
  simp only [ir48, go_sem, reduceIte, Nat.reduceEqDiff, Nat.reduceAdd, Nat.reduceSub, Nat.reduceLeDiff, Nat.reduceLT, reduceCtorEq, Int.reduceLT, Int.reduceLE, Int.reduceEq, Int.reduceBEq, Int.reduceSub, Int.reduceAdd, Int.reduceMul, Int.reduceNeg, Int.reduceToNat, Nat.reduceMul, Nat.reduceBEq, List.length_map]
  generalize hg : lim (headed pure (run L) false _ lp48_0 _ _) _ _ = o
  obtain ⟨x, en, s, rfl, h2⟩ : ∃ x en s, o = some (x, en, s) ∧ _ := by rw [← hg]; exact loop48 st n1 n2 xs ys hlen _ _ 0 ⟨by omega, by omega⟩ _ _ (by simp only [go_sem, reduceIte, Nat.reduceEqDiff, Nat.reduceAdd, Nat.reduceSub, Nat.reduceLeDiff, Nat.reduceLT, reduceCtorEq, Int.reduceLT, Int.reduceLE, Int.reduceEq, Int.reduceBEq, Int.reduceSub, Int.reduceAdd, Int.reduceMul, Int.reduceNeg, Int.reduceToNat, Nat.reduceMul, Nat.reduceBEq] <;> rfl)
  clear hg
  simp only [List.drop_zero] at h2
  obtain ⟨rfl, h2⟩ := h2
  rcases h2 with ⟨rfl, h3, h4, h5⟩ | ⟨rfl, h3⟩
  · rw [h5]
    by_cases p : xs.length < ys.length
    · have q : ((xs.length : Int) < (ys.length : Int)) = True := eq_true (by omega)
      rw [if_pos p]
      simp only [go_sem, reduceIte, Nat.reduceEqDiff, Nat.reduceAdd, Nat.reduceSub, Nat.reduceLeDiff, Nat.reduceLT, reduceCtorEq, Int.reduceLT, Int.reduceLE, Int.reduceEq, Int.reduceBEq, Int.reduceSub, Int.reduceAdd, Int.reduceMul, Int.reduceNeg, Int.reduceToNat, Nat.reduceMul, Nat.reduceBEq, h3, h4, q, List.length_map]
    · have q : ((xs.length : Int) < (ys.length : Int)) = False := eq_false (by omega)
      rw [if_neg p]
      simp only [go_sem, reduceIte, Nat.reduceEqDiff, Nat.reduceAdd, Nat.reduceSub, Nat.reduceLeDiff, Nat.reduceLT, reduceCtorEq, Int.reduceLT, Int.reduceLE, Int.reduceEq, Int.reduceBEq, Int.reduceSub, Int.reduceAdd, Int.reduceMul, Int.reduceNeg, Int.reduceToNat, Nat.reduceMul, Nat.reduceBEq, h3, h4, q, List.length_map]
  · simp only [go_sem, reduceIte, Nat.reduceEqDiff, Nat.reduceAdd, Nat.reduceSub, Nat.reduceLeDiff, Nat.reduceLT, reduceCtorEq, Int.reduceLT, Int.reduceLE, Int.reduceEq, Int.reduceBEq, Int.reduceSub, Int.reduceAdd, Int.reduceMul, Int.reduceNeg, Int.reduceToNat, Nat.reduceMul, Nat.reduceBEq, h3]

/-! ### sorting lists -/
def tAV (l : List Int) : AV := sl 1 true (l.map I)
theorem shaped_t (l : List Int) : (tAV l).shaped = true := by unfold tAV sl; split <;> rfl
theorem cells_t (l : List Int) : (tAV l).cells = [tAV l] := by unfold tAV sl; split <;> rfl
theorem isAgg_t (l : List Int) : Ev.isAgg (tAV l) = false := by unfold tAV sl; split <;> rfl
theorem storable_t (l : List Int) : storable (tAV l) = true := by unfold tAV sl; split <;> rfl
theorem okRef_t (n : Nat) (l : List Int) : okRef n (tAV l) = true := by unfold tAV sl; split <;> rfl
theorem pub_t (l : List Int) : pub (tAV l) = tAV l := pub_sl _ _ _
theorem getT (X : List (List Int)) (i : Nat) (x : List Int) (h : X[i]? = some x) : (X.map tAV)[i]? = some (tAV x) := by
  rw [List.getElem?_map, h]; rfl
theorem c48t (x a : List Int) (hx : x.length < 1000000) : (∀ st, run L 48 [tAV x, tAV a] st = some (I (cmpN x a), st)) ∧ decide (cmpN x a < 0) = lexLt x a :=
  ⟨fun st => c48 true true x a hx st, cmpN_lt x a⟩
attribute [local go_sem] shaped_t cells_t isAgg_t storable_t okRef_t
theorem at_one (A : List (List Int)) (x : List Int) (B : List (List Int)) : (A ++ x :: B)[A.length]? = some x := by simp
abbrev cmpF : AV := .fn (.func 48) [] []

theorem loop99_0 (S0 : List (List AV)) (T : List Nat) (l : Nat) (hl : l < S0.length) (n : Nat) (hn : n ≤ 1000) (x : List Int) (hx : x.length < 1000000) (i : Nat) (lo hi : Nat) (j : Nat) (A : List (List Int)) (B : List (List Int)) (hok : A.length = j ∧ j + 1 + B.length = n) (env : Env) (st : St)
    (hg : gcAV false lo hi (canon env [0, 1, 2, 3, 8, 9]) st = ([(0, .rsl l 0 n n 1 false), (1, I 0), (2, I n), (3, cmpF), (8, I i), (9, I j)], ⟨S0.set l ((A ++ x :: B).map tAV), T⟩)) :
    ∃ x_1 en s, lim (headed pure (run L) false [0, 1, 2, 3, 8, 9] lp99_0 lo hi) env st = some (x_1, en, s) ∧ (x_1 = .exit 2 ∧ en.get 0 = .rsl l 0 n n 1 false ∧ en.get 1 = I 0 ∧ en.get 2 = I n ∧ en.get 3 = cmpF ∧ en.get 8 = I i ∧ s = ⟨S0.set l ((insL lexLt A x ++ B).map tAV), T⟩) := by
  refine loop_wp (α := Nat × List (List Int) × List (List Int)) (fun ⟨j, A, B⟩ => j) (fun ⟨j, A, B⟩ => A.length = j ∧ j + 1 + B.length = n) (fun ⟨j, A, B⟩ => ([(0, .rsl l 0 n n 1 false), (1, I 0), (2, I n), (3, cmpF), (8, I i), (9, I j)], ⟨S0.set l ((A ++ x :: B).map tAV), T⟩)) (fun ⟨j, A, B⟩ x_1 en s => x_1 = .exit 2 ∧ en.get 0 = .rsl l 0 n n 1 false ∧ en.get 1 = I 0 ∧ en.get 2 = I n ∧ en.get 3 = cmpF ∧ en.get 8 = I i ∧ s = ⟨S0.set l ((insL lexLt A x ++ B).map tAV), T⟩) (fun ⟨j, A, B⟩ hok => ?_) ⟨j, A, B⟩ hok env st hg
  simp only at hok
  obtain ⟨h1, h2⟩ := hok
  dsimp only at h1 h2 ⊢
  have hget : ∀ C : List AV, (S0.set l C)[l]? = some C := fun C => List.getElem?_set_self hl
  rcases List.eq_nil_or_concat A with rfl | ⟨A', a, rfl⟩
  · have hj : j = 0 := by simpa using h1.symm
    subst hj
    rw [insL_nil]
    simp only [go_sem, reduceIte, Nat.reduceEqDiff, Nat.reduceAdd, Nat.reduceSub, Nat.reduceLeDiff, Nat.reduceLT, reduceCtorEq, Int.reduceLT, Int.reduceLE, Int.reduceEq, Int.reduceBEq, Int.reduceSub, Int.reduceAdd, Int.reduceMul, Int.reduceNeg, Int.reduceToNat, Nat.reduceMul, Nat.reduceBEq, index_rsl_if, setm, make_ints, condK_dec, wantK_dec, not_dec, and_dec, or_dec, seqK_ite, seqK_none, blockK_ite, blockK_none, opsK_ite, opsK_none, stepK_ite, stepK_none, bodyK_ite, bodyK_none, resK_ite, resK_none, leaveK_ite, leaveK_none, only_ite, only_none, bind_ite, gives_some, gives_none, gives_ite, then_normal, then_ret, then_exit, then_none, then_ite, Option.bind_none, Bool.not_eq_true', decide_eq_false_iff_not, Bool.and_eq_true, Bool.or_eq_true, Option.some.injEq, Int.not_lt, Int.not_le, lp99_0, Int.natCast_zero]
  · rw [List.concat_eq_append] at h1 ⊢
    obtain ⟨m, rfl⟩ : ∃ m, j = m + 1 := ⟨A'.length, by rw [← h1]; simp⟩
    have hm : A'.length = m := by simpa using h1
    obtain ⟨hk, hlt⟩ := c48t x a hx
    generalize cmpN x a = k at *
    have hg1 := getT ((A' ++ [a]) ++ x :: B) (m + 1) x (by
      have := at_one (A' ++ [a]) x B
      rwa [h1] at this)
    have hg2 := getT ((A' ++ [a]) ++ x :: B) m a (by
      have := at_one A' a (x :: B)
      rw [hm] at this
      simpa using this)
    have hset : (((A' ++ [a]) ++ x :: B).set (m + 1) a).set m x = A' ++ x :: a :: B := by
      subst hm
      simp
    have hlen : ((A' ++ [a]) ++ x :: B).length = n := by simp; omega
    have hpos : ((0 : Int) < ((m + 1 : Nat) : Int)) = True := eq_true (by omega)
    have hw : IntKind.i64.wrap (((m + 1 : Nat) : Int) - 1) = ((m : Nat) : Int) := by rw [wrap64] <;> omega
    have b0 : ((0 : Int) ≤ ((m + 1 : Nat) : Int)) = True := eq_true (by omega)
    have b1 : (((m + 1 : Nat) : Int) < (n : Int)) = True := eq_true (by omega)
    have b2 : ((0 : Int) ≤ ((m : Nat) : Int)) = True := eq_true (by omega)
    have b3 : (((m : Nat) : Int) < (n : Int)) = True := eq_true (by omega)
    have b4 : (m + 1 < n) = True := eq_true (by omega)
    have b5 : (m < n) = True := eq_true (by omega)
    have b6 : (m + 1 + 1 ≤ n) = True := eq_true (by omega)
    have b7 : (m + 1 ≤ n) = True := eq_true (by omega)
    rw [insL_snoc]
    generalize hX : (A' ++ [a]) ++ x :: B = X at *
    by_cases p : lexLt x a = true
    · rw [p, decide_eq_true_iff] at hlt
      have hk0 : (k < 0) = True := eq_true hlt
      rw [if_pos p]
      simp only [go_sem, reduceIte, Nat.reduceEqDiff, Nat.reduceAdd, Nat.reduceSub, Nat.reduceLeDiff, Nat.reduceLT, reduceCtorEq, Int.reduceLT, Int.reduceLE, Int.reduceEq, Int.reduceBEq, Int.reduceSub, Int.reduceAdd, Int.reduceMul, Int.reduceNeg, Int.reduceToNat, Nat.reduceMul, Nat.reduceBEq, index_rsl_if, setm, make_ints, condK_dec, wantK_dec, not_dec, and_dec, or_dec, seqK_ite, seqK_none, blockK_ite, blockK_none, opsK_ite, opsK_none, stepK_ite, stepK_none, bodyK_ite, bodyK_none, resK_ite, resK_none, leaveK_ite, leaveK_none, only_ite, only_none, bind_ite, gives_some, gives_none, gives_ite, then_normal, then_ret, then_exit, then_none, then_ite, Option.bind_none, Bool.not_eq_true', decide_eq_false_iff_not, Bool.and_eq_true, Bool.or_eq_true, Option.some.injEq, Int.not_lt, Int.not_le, lp99_0, hpos, hw, b0, b1, b2, b3, b4, b5, b6, b7, hg1, hg2, hk, hk0, hget, hlen, List.set_set, show pure 48 = false from rfl, List.length_map, List.length_set]
      refine ⟨(m, A', a :: B), by simp only [go_sem, reduceIte, Nat.reduceEqDiff, Nat.reduceAdd, Nat.reduceSub, Nat.reduceLeDiff, Nat.reduceLT, reduceCtorEq, Int.reduceLT, Int.reduceLE, Int.reduceEq, Int.reduceBEq, Int.reduceSub, Int.reduceAdd, Int.reduceMul, Int.reduceNeg, Int.reduceToNat, Nat.reduceMul, Nat.reduceBEq, ren1_locm, loc_tips, locT_eq, hset] <;> rfl, ?_, ?_, fun x en s hq => ?_⟩
      · dsimp only; exact ⟨hm, by rw [List.length_cons]; omega⟩
      · dsimp only; omega
      · dsimp only at hq; rw [List.append_assoc, List.singleton_append]; exact hq
    · have hlt' : lexLt x a = false := by simpa using p
      rw [hlt', decide_eq_false_iff_not] at hlt
      have hk0 : (k < 0) = False := eq_false hlt
      rw [if_neg p]
      have e : A' ++ [a, x] ++ B = X := by rw [← hX]; simp
      rw [e]
      simp only [go_sem, reduceIte, Nat.reduceEqDiff, Nat.reduceAdd, Nat.reduceSub, Nat.reduceLeDiff, Nat.reduceLT, reduceCtorEq, Int.reduceLT, Int.reduceLE, Int.reduceEq, Int.reduceBEq, Int.reduceSub, Int.reduceAdd, Int.reduceMul, Int.reduceNeg, Int.reduceToNat, Nat.reduceMul, Nat.reduceBEq, index_rsl_if, setm, make_ints, condK_dec, wantK_dec, not_dec, and_dec, or_dec, seqK_ite, seqK_none, blockK_ite, blockK_none, opsK_ite, opsK_none, stepK_ite, stepK_none, bodyK_ite, bodyK_none, resK_ite, resK_none, leaveK_ite, leaveK_none, only_ite, only_none, bind_ite, gives_some, gives_none, gives_ite, then_normal, then_ret, then_exit, then_none, then_ite, Option.bind_none, Bool.not_eq_true', decide_eq_false_iff_not, Bool.and_eq_true, Bool.or_eq_true, Option.some.injEq, Int.not_lt, Int.not_le, lp99_0, hpos, hw, b0, b1, b2, b3, b4, b5, b6, b7, hg1, hg2, hk, hk0, hget, hlen, show pure 48 = false from rfl, List.length_map]

theorem loop99_1 (S0 : List (List AV)) (T : List Nat) (l : Nat) (hl : l < S0.length) (n : Nat) (hn : n ≤ 1000) (lo hi : Nat) (i : Nat) (A : List (List Int)) (B : List (List Int)) (hok : A.length = i ∧ i + B.length = n ∧ ∀ l ∈ B, l.length < 1000000) (env : Env) (st : St)
    (hg : gcAV false lo hi (canon env [0, 1, 2, 3, 8]) st = ([(0, .rsl l 0 n n 1 false), (1, I 0), (2, I n), (3, cmpF), (8, I i)], ⟨S0.set l ((A ++ B).map tAV), T⟩)) :
    ∃ x_1 en s, lim (headed pure (run L) false [0, 1, 2, 3, 8] lp99_1 lo hi) env st = some (x_1, en, s) ∧ (x_1 = .exit 0 ∧ s = ⟨S0.set l ((B.foldl (insL lexLt) A).map tAV), T⟩) := by
  refine loop_wp (α := Nat × List (List Int) × List (List Int)) (fun ⟨i, A, B⟩ => B.length) (fun ⟨i, A, B⟩ => A.length = i ∧ i + B.length = n ∧ ∀ l ∈ B, l.length < 1000000) (fun ⟨i, A, B⟩ => ([(0, .rsl l 0 n n 1 false), (1, I 0), (2, I n), (3, cmpF), (8, I i)], ⟨S0.set l ((A ++ B).map tAV), T⟩)) (fun ⟨i, A, B⟩ x_1 en s => x_1 = .exit 0 ∧ s = ⟨S0.set l ((B.foldl (insL lexLt) A).map tAV), T⟩) (fun ⟨i, A, B⟩ hok => ?_) ⟨i, A, B⟩ hok env st hg
  simp only at hok
  obtain ⟨h1, h2, h3⟩ := hok
  dsimp only at h1 h2 h3 ⊢
  cases B with
  | nil =>
    obtain rfl : i = n := by simpa using h2
    rw [List.append_nil]
    simp only [go_sem, reduceIte, Nat.reduceEqDiff, Nat.reduceAdd, Nat.reduceSub, Nat.reduceLeDiff, Nat.reduceLT, reduceCtorEq, Int.reduceLT, Int.reduceLE, Int.reduceEq, Int.reduceBEq, Int.reduceSub, Int.reduceAdd, Int.reduceMul, Int.reduceNeg, Int.reduceToNat, Nat.reduceMul, Nat.reduceBEq, index_rsl_if, setm, make_ints, condK_dec, wantK_dec, not_dec, and_dec, or_dec, seqK_ite, seqK_none, blockK_ite, blockK_none, opsK_ite, opsK_none, stepK_ite, stepK_none, bodyK_ite, bodyK_none, resK_ite, resK_none, leaveK_ite, leaveK_none, only_ite, only_none, bind_ite, gives_some, gives_none, gives_ite, then_normal, then_ret, then_exit, then_none, then_ite, Option.bind_none, Bool.not_eq_true', decide_eq_false_iff_not, Bool.and_eq_true, Bool.or_eq_true, Option.some.injEq, Int.not_lt, Int.not_le, lp99_1, show ((i : Int) < (i : Int)) = False from eq_false (by omega)]
    rfl
  | cons x B =>
    rw [List.length_cons] at h2
    have hs := succ64 i (by omega)
    have hlt : ((i : Int) < (n : Int)) = True := eq_true (by omega)
    rw [List.foldl_cons]
    simp only [go_sem, reduceIte, Nat.reduceEqDiff, Nat.reduceAdd, Nat.reduceSub, Nat.reduceLeDiff, Nat.reduceLT, reduceCtorEq, Int.reduceLT, Int.reduceLE, Int.reduceEq, Int.reduceBEq, Int.reduceSub, Int.reduceAdd, Int.reduceMul, Int.reduceNeg, Int.reduceToNat, Nat.reduceMul, Nat.reduceBEq, index_rsl_if, setm, make_ints, condK_dec, wantK_dec, not_dec, and_dec, or_dec, seqK_ite, seqK_none, blockK_ite, blockK_none, opsK_ite, opsK_none, stepK_ite, stepK_none, bodyK_ite, bodyK_none, resK_ite, resK_none, leaveK_ite, leaveK_none, only_ite, only_none, bind_ite, gives_some, gives_none, gives_ite, then_normal, then_ret, then_exit, then_none, then_ite, Option.bind_none, Bool.not_eq_true', decide_eq_false_iff_not, Bool.and_eq_true, Bool.or_eq_true, Option.some.injEq, Int.not_lt, Int.not_le, lp99_1, hlt, hs]
    generalize hg : lim (headed pure (run L) false _ lp99_0 _ _) _ _ = o
    obtain ⟨x, en, s, rfl, h2⟩ : ∃ x en s, o = some (x, en, s) ∧ _ := by rw [← hg]; exact loop99_0 S0 T l hl n hn x (h3 x (by simp)) i _ _ i A B ⟨h1, by omega⟩ _ _ (by simp only [go_sem, reduceIte, Nat.reduceEqDiff, Nat.reduceAdd, Nat.reduceSub, Nat.reduceLeDiff, Nat.reduceLT, reduceCtorEq, Int.reduceLT, Int.reduceLE, Int.reduceEq, Int.reduceBEq, Int.reduceSub, Int.reduceAdd, Int.reduceMul, Int.reduceNeg, Int.reduceToNat, Nat.reduceMul, Nat.reduceBEq] <;> rfl)
    clear hg
    obtain ⟨rfl, e0, e1, e2, e3, e8, rfl⟩ := h2
    have hA := insL_len lexLt A x
    simp only [go_sem, reduceIte, Nat.reduceEqDiff, Nat.reduceAdd, Nat.reduceSub, Nat.reduceLeDiff, Nat.reduceLT, reduceCtorEq, Int.reduceLT, Int.reduceLE, Int.reduceEq, Int.reduceBEq, Int.reduceSub, Int.reduceAdd, Int.reduceMul, Int.reduceNeg, Int.reduceToNat, Nat.reduceMul, Nat.reduceBEq, index_rsl_if, setm, make_ints, condK_dec, wantK_dec, not_dec, and_dec, or_dec, seqK_ite, seqK_none, blockK_ite, blockK_none, opsK_ite, opsK_none, stepK_ite, stepK_none, bodyK_ite, bodyK_none, resK_ite, resK_none, leaveK_ite, leaveK_none, only_ite, only_none, bind_ite, gives_some, gives_none, gives_ite, then_normal, then_ret, then_exit, then_none, then_ite, Option.bind_none, Bool.not_eq_true', decide_eq_false_iff_not, Bool.and_eq_true, Bool.or_eq_true, Option.some.injEq, Int.not_lt, Int.not_le, lp99_1, e0, e1, e2, e3, e8, hs]
    refine ⟨(i + 1, insL lexLt A x, B), by simp only [go_sem, reduceIte, Nat.reduceEqDiff, Nat.reduceAdd, Nat.reduceSub, Nat.reduceLeDiff, Nat.reduceLT, reduceCtorEq, Int.reduceLT, Int.reduceLE, Int.reduceEq, Int.reduceBEq, Int.reduceSub, Int.reduceAdd, Int.reduceMul, Int.reduceNeg, Int.reduceToNat, Nat.reduceMul, Nat.reduceBEq, ren1_locm, loc_tips, locT_eq, e0, e1, e2, e3, e8] <;> rfl, ?_, ?_, fun x en s hq => ?_⟩
    · dsimp only; exact ⟨by omega, by omega, fun l hl => h3 l (by simp [hl])⟩
    · dsimp only; omega
    · exact hq

theorem c99 (S : List (List AV)) (T : List Nat) (l : Nat) (X : List (List Int)) (h : S[l]? = some (X.map tAV)) (h1 : 1 ≤ X.length) (hn : X.length ≤ 1000) (hx : ∀ l ∈ X, l.length < 1000000) :
    run L 99 [.rsl l 0 X.length X.length 1 false, I 0, I X.length, cmpF] ⟨S, T⟩ = some (.tup [], ⟨S.set l ((sortL lexLt X).map tAV), T⟩) := by
  rw [run_shared (fn := ir99) rfl rfl]
  have hl := (List.getElem?_eq_some_iff.1 h).1
  have hS := set_same S l _ h
  cases X with
  | nil => simp at h1
  | cons x B =>
    have hw : IntKind.i64.wrap (0 + 1) = 1 := by decide
    rw [sortL_cons]
    generalize hk : (x :: B).length = k at *
    rw [List.length_cons] at hk
    rw [← hS]
    simp only [ir99, go_sem, reduceIte, Nat.reduceEqDiff, Nat.reduceAdd, Nat.reduceSub, Nat.reduceLeDiff, Nat.reduceLT, reduceCtorEq, Int.reduceLT, Int.reduceLE, Int.reduceEq, Int.reduceBEq, Int.reduceSub, Int.reduceAdd, Int.reduceMul, Int.reduceNeg, Int.reduceToNat, Nat.reduceMul, Nat.reduceBEq, hw, List.set_set]
    generalize hg : lim (headed pure (run L) false _ lp99_1 _ _) _ _ = o
    obtain ⟨x, en, s, rfl, h2⟩ : ∃ x en s, o = some (x, en, s) ∧ _ := by rw [← hg]; exact loop99_1 S T l hl k hn _ _ 1 [x] B ⟨rfl, by omega, fun l hl => hx l (by simp [hl])⟩ _ _ (by simp only [go_sem, reduceIte, Nat.reduceEqDiff, Nat.reduceAdd, Nat.reduceSub, Nat.reduceLeDiff, Nat.reduceLT, reduceCtorEq, Int.reduceLT, Int.reduceLE, Int.reduceEq, Int.reduceBEq, Int.reduceSub, Int.reduceAdd, Int.reduceMul, Int.reduceNeg, Int.reduceToNat, Nat.reduceMul, Nat.reduceBEq, show ((1 : Nat) : Int) = 1 from rfl, show [x] ++ B = x :: B from rfl] <;> rfl)
    clear hg
    obtain ⟨rfl, rfl⟩ := h2
    simp only [go_sem, reduceIte, Nat.reduceEqDiff, Nat.reduceAdd, Nat.reduceSub, Nat.reduceLeDiff, Nat.reduceLT, reduceCtorEq, Int.reduceLT, Int.reduceLE, Int.reduceEq, Int.reduceBEq, Int.reduceSub, Int.reduceAdd, Int.reduceMul, Int.reduceNeg, Int.reduceToNat, Nat.reduceMul, Nat.reduceBEq]
theorem loop90 (S : List (List AV)) (T : List Nat) (l : Nat) (X : List (List Int)) (h : S[l]? = some (X.map tAV)) (h1 : 1 ≤ X.length) (hn : X.length ≤ 12) (hx : ∀ l ∈ X, l.length < 1000000) (lim0 : Int) (lo hi : Nat) (u : Nat) (hok : True) (env : Env) (st : St)
    (hg : gcAV false lo hi (canon env [0, 1, 2, 3, 4, 10, 11]) st = ([(0, .rsl l 0 X.length X.length 1 false), (1, I 0), (2, I X.length), (3, I lim0), (4, cmpF), (10, B true), (11, B true)], ⟨S, T⟩)) :
    ∃ x_1 en s, lim (headed pure (run L) false [0, 1, 2, 3, 4, 10, 11] lp90_0 lo hi) env st = some (x_1, en, s) ∧ (x_1 = .ret ∧ s = ⟨S.set l ((sortL lexLt X).map tAV), T⟩) := by
  refine loop_wp (α := Nat) (fun u => u) (fun u => True) (fun u => ([(0, .rsl l 0 X.length X.length 1 false), (1, I 0), (2, I X.length), (3, I lim0), (4, cmpF), (10, B true), (11, B true)], ⟨S, T⟩)) (fun u x_1 en s => x_1 = .ret ∧ s = ⟨S.set l ((sortL lexLt X).map tAV), T⟩) (fun u hok => ?_) u hok env st hg
  have h99 := c99 S T l X h h1 (by omega) hx
  have hw : IntKind.i64.wrap ((X.length : Int) - 0) = (X.length : Int) := by rw [wrap64] <;> omega
  have q : ((X.length : Int) ≤ 12) = True := eq_true (by omega)
  simp only [go_sem, reduceIte, Nat.reduceEqDiff, Nat.reduceAdd, Nat.reduceSub, Nat.reduceLeDiff, Nat.reduceLT, reduceCtorEq, Int.reduceLT, Int.reduceLE, Int.reduceEq, Int.reduceBEq, Int.reduceSub, Int.reduceAdd, Int.reduceMul, Int.reduceNeg, Int.reduceToNat, Nat.reduceMul, Nat.reduceBEq, index_rsl_if, setm, make_ints, condK_dec, wantK_dec, not_dec, and_dec, or_dec, seqK_ite, seqK_none, blockK_ite, blockK_none, opsK_ite, opsK_none, stepK_ite, stepK_none, bodyK_ite, bodyK_none, resK_ite, resK_none, leaveK_ite, leaveK_none, only_ite, only_none, bind_ite, gives_some, gives_none, gives_ite, then_normal, then_ret, then_exit, then_none, then_ite, Option.bind_none, Bool.not_eq_true', decide_eq_false_iff_not, Bool.and_eq_true, Bool.or_eq_true, Option.some.injEq, Int.not_lt, Int.not_le, lp90_0, hw, q, h99, show pure 99 = false from rfl]

def blN (n : Nat) : Nat := if n = 0 then 0 else Nat.log2 n + 1
theorem all91 : (List.range 13).map (fun (n : Nat) => callAV L 60 91 [.v (.int .u64 (n : Int))] ⟨[], []⟩) = (List.range 13).map (fun n => some (I (blN n : Nat), (⟨[], []⟩ : St))) := by kernel_rfl
theorem c91 (n : Nat) (hn : n ≤ 12) (st : St) : run L 91 [.v (.int .u64 (n : Int))] st = some (I (blN n), st) :=
  run_any' (fn := ir91) rfl rfl (callAV_run L 60 _ _ _ _ (all_of all91 n (by omega))) st
theorem c90 (S : List (List AV)) (T : List Nat) (l : Nat) (X : List (List Int)) (h : S[l]? = some (X.map tAV)) (h1 : 1 ≤ X.length) (hn : X.length ≤ 12) (hx : ∀ l ∈ X, l.length < 1000000) (lim0 : Int) :
    run L 90 [.rsl l 0 X.length X.length 1 false, I 0, I X.length, I lim0, cmpF] ⟨S, T⟩ = some (.tup [], ⟨S.set l ((sortL lexLt X).map tAV), T⟩) := by
  rw [run_shared (fn := ir90) rfl rfl]
  simp only [ir90, go_sem, reduceIte, Nat.reduceEqDiff, Nat.reduceAdd, Nat.reduceSub, Nat.reduceLeDiff, Nat.reduceLT, reduceCtorEq, Int.reduceLT, Int.reduceLE, Int.reduceEq, Int.reduceBEq, Int.reduceSub, Int.reduceAdd, Int.reduceMul, Int.reduceNeg, Int.reduceToNat, Nat.reduceMul, Nat.reduceBEq]
  generalize hg : lim (headed pure (run L) false _ lp90_0 _ _) _ _ = o
  obtain ⟨x, en, s, rfl, h2⟩ : ∃ x en s, o = some (x, en, s) ∧ _ := by rw [← hg]; exact loop90 S T l X h h1 hn hx lim0 _ _ 0 trivial _ _ (by simp only [go_sem, reduceIte, Nat.reduceEqDiff, Nat.reduceAdd, Nat.reduceSub, Nat.reduceLeDiff, Nat.reduceLT, reduceCtorEq, Int.reduceLT, Int.reduceLE, Int.reduceEq, Int.reduceBEq, Int.reduceSub, Int.reduceAdd, Int.reduceMul, Int.reduceNeg, Int.reduceToNat, Nat.reduceMul, Nat.reduceBEq] <;> rfl)
  clear hg
  obtain ⟨rfl, rfl⟩ := h2
  simp only [go_sem, reduceIte, Nat.reduceEqDiff, Nat.reduceAdd, Nat.reduceSub, Nat.reduceLeDiff, Nat.reduceLT, reduceCtorEq, Int.reduceLT, Int.reduceLE, Int.reduceEq, Int.reduceBEq, Int.reduceSub, Int.reduceAdd, Int.reduceMul, Int.reduceNeg, Int.reduceToNat, Nat.reduceMul, Nat.reduceBEq]
theorem c54 (S : List (List AV)) (T : List Nat) (l : Nat) (X : List (List Int)) (h : S[l]? = some (X.map tAV)) (h1 : 1 ≤ X.length) (hn : X.length ≤ 12) (hx : ∀ l ∈ X, l.length < 1000000) :
    run L 54 [.rsl l 0 X.length X.length 1 false, cmpF] ⟨S, T⟩ = some (.tup [], ⟨S.set l ((sortL lexLt X).map tAV), T⟩) := by
  rw [run_shared (fn := ir54) rfl rfl]
  have hw : IntKind.u64.wrap (X.length : Int) = (X.length : Int) := by simp [IntKind.wrap, IntKind.bits, IntKind.signed]; omega
  have h91 := fun st => c91 X.length hn st
  have h90 := c90 S T l X h h1 hn hx (blN X.length : Nat)
  simp only [ir54, go_sem, reduceIte, Nat.reduceEqDiff, Nat.reduceAdd, Nat.reduceSub, Nat.reduceLeDiff, Nat.reduceLT, reduceCtorEq, Int.reduceLT, Int.reduceLE, Int.reduceEq, Int.reduceBEq, Int.reduceSub, Int.reduceAdd, Int.reduceMul, Int.reduceNeg, Int.reduceToNat, Nat.reduceMul, Nat.reduceBEq, hw, h91, h90, show pure 90 = false from rfl]

attribute [local go_sem high] and_one shr_u shl_one or_u and_u

/-! ### sets as lists -/
theorem all67 : (List.range 128).map (fun m => callAV L 60 67 [U m] ⟨[], []⟩) = (List.range 128).map (fun m => some (sl 1 true ((memb m).map I), (⟨[], []⟩ : St))) := by kernel_rfl
theorem c67 (m : Nat) (hm : m < 128) (st : St) : run L 67 [U m] st = some (sl 1 true ((memb m).map I), st) :=
  run_any' (fn := ir67) rfl rfl (callAV_run L 60 _ _ _ _ (all_of all67 m hm)) st
theorem all51 : (List.range 128).map (fun m => callAV L 60 51 [J m] ⟨[], []⟩) = (List.range 128).map (fun m => some (sl 1 true ((memb m).map I), (⟨[], []⟩ : St))) := by kernel_rfl
theorem c51 (m : Nat) (hm : m < 128) (st : St) : run L 51 [J m] st = some (sl 1 true ((memb m).map I), st) :=
  run_any' (fn := ir51) rfl rfl (callAV_run L 60 _ _ _ _ (all_of all51 m hm)) st
theorem memb_len (m : Nat) : (memb m).length ≤ 7 := by
  unfold memb
  rw [List.length_map]
  exact Nat.le_trans (List.length_filter_le _ _) (by simp)

attribute [local go_sem high] and_one shr_u shl_one or_u and_u

/-! ### what speaks against a choice -/
/-- How a word stands to a set: 13, 21, or nothing. -/
def jdg1 (o : List Nat) (m x : Nat) : Int := if m.testBit x = true then (if o.getD x 0 &&& m ≠ 0 then 13 else 0) else (if o.getD x 0 &&& m = 0 then 21 else 0)
def jdgL (o : List Nat) (m : Nat) : Bool → List Nat → Int
  | op, [] => if op then 21 else 0
  | op, x :: r => if jdg1 o m x = 13 then 13 else jdgL o m (op || decide (jdg1 o m x = 21)) r
def jdg (n : Nat) (o : List Nat) (m : Nat) : Int := jdgL o m false (List.range' 0 n)

theorem loop66 (n : Nat) (hn : 1 ≤ n ∧ n ≤ 7) (o : List Nat) (ho : o.length = 7) (hsm : ∀ x ∈ o, x < 128) (m : Nat) (hm : m < 128) (i : Nat) (op : Bool) (hok : i ≤ n) (env : Env) (st : St)
    (hg : gcAV true 1 0 (canon env [1, 5, 12, 13, 14]) st = ([(1, U m), (5, B op), (12, .rsl 0 1 n 7 1 false), (13, I n), (14, I i)], ⟨[webC (n : Int) o], []⟩)) :
    ∃ x_1 en s, lim (headed pure (run L) true [1, 5, 12, 13, 14] lp66_0 1 0) env st = some (x_1, en, s) ∧ (∃ op' : Bool, jdgL o m op (List.range' i (n - i)) = (if op' then 21 else if x_1 = .ret then 13 else 0) ∧ ((x_1 = .exit 0 ∧ en.get 5 = B op') ∨ (x_1 = .ret ∧ op' = false ∧ en.get 4 = I 13))) := by
  refine loop_wp (α := Nat × Bool) (fun ⟨i, op⟩ => n - i) (fun ⟨i, op⟩ => i ≤ n) (fun ⟨i, op⟩ => ([(1, U m), (5, B op), (12, .rsl 0 1 n 7 1 false), (13, I n), (14, I i)], ⟨[webC (n : Int) o], []⟩)) (fun ⟨i, op⟩ x_1 en s => ∃ op' : Bool, jdgL o m op (List.range' i (n - i)) = (if op' then 21 else if x_1 = .ret then 13 else 0) ∧ ((x_1 = .exit 0 ∧ en.get 5 = B op') ∨ (x_1 = .ret ∧ op' = false ∧ en.get 4 = I 13))) (fun ⟨i, op⟩ hok => ?_) ⟨i, op⟩ hok env st hg
  simp only at hok
  dsimp only
  by_cases h : i < n
  · have hs := succ64 i (by omega)
    have hr : List.range' i (n - i) = i :: List.range' (i + 1) (n - (i + 1)) := by
      rw [show n - i = (n - (i + 1)) + 1 by omega, List.range'_succ]
    have hlt : ((i : Int) < (n : Int)) = True := eq_true (by omega)
    have hi0 : ((0 : Int) ≤ (i : Int)) = True := eq_true (by omega)
    have g1 := getW (n : Int) o i (by omega)
    have hlw := lenW (n : Int) o
    rw [ho] at hlw
    have b1 : (1 + i + 1 ≤ 8) = True := eq_true (by omega)
    have hb := bit_one m i
    have hmk := min64 i (by omega)
    have hj : jdg1 o m i = if m.testBit i = true then (if o.getD i 0 &&& m ≠ 0 then 13 else 0) else (if o.getD i 0 &&& m = 0 then 21 else 0) := rfl
    have hand := andN_eq (o.getD i 0) m (small_getD hsm i) hm
    rw [hr]
    have hJ : jdgL o m op (i :: List.range' (i + 1) (n - (i + 1))) = if jdg1 o m i = 13 then 13 else jdgL o m (op || decide (jdg1 o m i = 21)) (List.range' (i + 1) (n - (i + 1))) := rfl
    rw [hJ]
    generalize jdg1 o m i = q at *
    generalize o.getD i 0 = w at *
    generalize w &&& m = c at *
    by_cases p1 : m.testBit i = true
    · rw [if_pos p1] at hj
      by_cases p2 : c = 0
      · have hc : ((c : Int) = 0) = True := eq_true (by omega)
        rw [if_neg (by simp [p2])] at hj
        subst hj
        simp only [go_sem, reduceIte, Nat.reduceEqDiff, Nat.reduceAdd, Nat.reduceSub, Nat.reduceLeDiff, Nat.reduceLT, reduceCtorEq, Int.reduceLT, Int.reduceLE, Int.reduceEq, Int.reduceBEq, Int.reduceSub, Int.reduceAdd, Int.reduceMul, Int.reduceNeg, Int.reduceToNat, Nat.reduceMul, Nat.reduceBEq, index_rsl_if, setm, make_ints, condK_dec, wantK_dec, not_dec, and_dec, or_dec, seqK_ite, seqK_none, blockK_ite, blockK_none, opsK_ite, opsK_none, stepK_ite, stepK_none, bodyK_ite, bodyK_none, resK_ite, resK_none, leaveK_ite, leaveK_none, only_ite, only_none, bind_ite, gives_some, gives_none, gives_ite, then_normal, then_ret, then_exit, then_none, then_ite, Option.bind_none, Bool.not_eq_true', decide_eq_false_iff_not, Bool.and_eq_true, Bool.or_eq_true, Option.some.injEq, Int.not_lt, Int.not_le, lp66_0, hlt, hi0, hs, g1, hlw, b1, hb, hmk, hand, p1, hc]
        refine ⟨(i + 1, op), by simp only [go_sem, reduceIte, Nat.reduceEqDiff, Nat.reduceAdd, Nat.reduceSub, Nat.reduceLeDiff, Nat.reduceLT, reduceCtorEq, Int.reduceLT, Int.reduceLE, Int.reduceEq, Int.reduceBEq, Int.reduceSub, Int.reduceAdd, Int.reduceMul, Int.reduceNeg, Int.reduceToNat, Nat.reduceMul, Nat.reduceBEq, ren1_locm, loc_tips, locT_eq, okRefsW, renCellsW] <;> rfl, ?_, ?_, fun x en s hq => ?_⟩
        · omega
        · omega
        · simpa using hq
      · have hc : ((c : Int) = 0) = False := eq_false (by omega)
        rw [if_pos p2] at hj
        subst hj
        simp only [go_sem, reduceIte, Nat.reduceEqDiff, Nat.reduceAdd, Nat.reduceSub, Nat.reduceLeDiff, Nat.reduceLT, reduceCtorEq, Int.reduceLT, Int.reduceLE, Int.reduceEq, Int.reduceBEq, Int.reduceSub, Int.reduceAdd, Int.reduceMul, Int.reduceNeg, Int.reduceToNat, Nat.reduceMul, Nat.reduceBEq, index_rsl_if, setm, make_ints, condK_dec, wantK_dec, not_dec, and_dec, or_dec, seqK_ite, seqK_none, blockK_ite, blockK_none, opsK_ite, opsK_none, stepK_ite, stepK_none, bodyK_ite, bodyK_none, resK_ite, resK_none, leaveK_ite, leaveK_none, only_ite, only_none, bind_ite, gives_some, gives_none, gives_ite, then_normal, then_ret, then_exit, then_none, then_ite, Option.bind_none, Bool.not_eq_true', decide_eq_false_iff_not, Bool.and_eq_true, Bool.or_eq_true, Option.some.injEq, Int.not_lt, Int.not_le, lp66_0, hlt, hi0, hs, g1, hlw, b1, hb, hmk, hand, p1, hc]
        refine ⟨false, ?_⟩
        simp
    · have p1' : m.testBit i = false := by simpa using p1
      rw [if_neg p1] at hj
      by_cases p2 : c = 0
      · have hc : ((c : Int) = 0) = True := eq_true (by omega)
        rw [if_pos p2] at hj
        subst hj
        simp only [go_sem, reduceIte, Nat.reduceEqDiff, Nat.reduceAdd, Nat.reduceSub, Nat.reduceLeDiff, Nat.reduceLT, reduceCtorEq, Int.reduceLT, Int.reduceLE, Int.reduceEq, Int.reduceBEq, Int.reduceSub, Int.reduceAdd, Int.reduceMul, Int.reduceNeg, Int.reduceToNat, Nat.reduceMul, Nat.reduceBEq, index_rsl_if, setm, make_ints, condK_dec, wantK_dec, not_dec, and_dec, or_dec, seqK_ite, seqK_none, blockK_ite, blockK_none, opsK_ite, opsK_none, stepK_ite, stepK_none, bodyK_ite, bodyK_none, resK_ite, resK_none, leaveK_ite, leaveK_none, only_ite, only_none, bind_ite, gives_some, gives_none, gives_ite, then_normal, then_ret, then_exit, then_none, then_ite, Option.bind_none, Bool.not_eq_true', decide_eq_false_iff_not, Bool.and_eq_true, Bool.or_eq_true, Option.some.injEq, Int.not_lt, Int.not_le, lp66_0, hlt, hi0, hs, g1, hlw, b1, hb, hmk, hand, p1', hc]
        refine ⟨(i + 1, true), by simp only [go_sem, reduceIte, Nat.reduceEqDiff, Nat.reduceAdd, Nat.reduceSub, Nat.reduceLeDiff, Nat.reduceLT, reduceCtorEq, Int.reduceLT, Int.reduceLE, Int.reduceEq, Int.reduceBEq, Int.reduceSub, Int.reduceAdd, Int.reduceMul, Int.reduceNeg, Int.reduceToNat, Nat.reduceMul, Nat.reduceBEq, ren1_locm, loc_tips, locT_eq, okRefsW, renCellsW] <;> rfl, ?_, ?_, fun x en s hq => ?_⟩
        · omega
        · omega
        · simpa using hq
      · have hc : ((c : Int) = 0) = False := eq_false (by omega)
        rw [if_neg p2] at hj
        subst hj
        simp only [go_sem, reduceIte, Nat.reduceEqDiff, Nat.reduceAdd, Nat.reduceSub, Nat.reduceLeDiff, Nat.reduceLT, reduceCtorEq, Int.reduceLT, Int.reduceLE, Int.reduceEq, Int.reduceBEq, Int.reduceSub, Int.reduceAdd, Int.reduceMul, Int.reduceNeg, Int.reduceToNat, Nat.reduceMul, Nat.reduceBEq, index_rsl_if, setm, make_ints, condK_dec, wantK_dec, not_dec, and_dec, or_dec, seqK_ite, seqK_none, blockK_ite, blockK_none, opsK_ite, opsK_none, stepK_ite, stepK_none, bodyK_ite, bodyK_none, resK_ite, resK_none, leaveK_ite, leaveK_none, only_ite, only_none, bind_ite, gives_some, gives_none, gives_ite, then_normal, then_ret, then_exit, then_none, then_ite, Option.bind_none, Bool.not_eq_true', decide_eq_false_iff_not, Bool.and_eq_true, Bool.or_eq_true, Option.some.injEq, Int.not_lt, Int.not_le, lp66_0, hlt, hi0, hs, g1, hlw, b1, hb, hmk, hand, p1', hc]
        refine ⟨(i + 1, op), by simp only [go_sem, reduceIte, Nat.reduceEqDiff, Nat.reduceAdd, Nat.reduceSub, Nat.reduceLeDiff, Nat.reduceLT, reduceCtorEq, Int.reduceLT, Int.reduceLE, Int.reduceEq, Int.reduceBEq, Int.reduceSub, Int.reduceAdd, Int.reduceMul, Int.reduceNeg, Int.reduceToNat, Nat.reduceMul, Nat.reduceBEq, ren1_locm, loc_tips, locT_eq, okRefsW, renCellsW] <;> rfl, ?_, ?_, fun x en s hq => ?_⟩
        · omega
        · omega
        · simpa using hq
  · have hr : n - i = 0 := by omega
    have hlt : ((i : Int) < (n : Int)) = False := eq_false (by omega)
    rw [hr]
    simp only [go_sem, reduceIte, Nat.reduceEqDiff, Nat.reduceAdd, Nat.reduceSub, Nat.reduceLeDiff, Nat.reduceLT, reduceCtorEq, Int.reduceLT, Int.reduceLE, Int.reduceEq, Int.reduceBEq, Int.reduceSub, Int.reduceAdd, Int.reduceMul, Int.reduceNeg, Int.reduceToNat, Nat.reduceMul, Nat.reduceBEq, index_rsl_if, setm, make_ints, condK_dec, wantK_dec, not_dec, and_dec, or_dec, seqK_ite, seqK_none, blockK_ite, blockK_none, opsK_ite, opsK_none, stepK_ite, stepK_none, bodyK_ite, bodyK_none, resK_ite, resK_none, leaveK_ite, leaveK_none, only_ite, only_none, bind_ite, gives_some, gives_none, gives_ite, then_normal, then_ret, then_exit, then_none, then_ite, Option.bind_none, Bool.not_eq_true', decide_eq_false_iff_not, Bool.and_eq_true, Bool.or_eq_true, Option.some.injEq, Int.not_lt, Int.not_le, lp66_0, hlt]
    refine ⟨op, ?_⟩
    simp [jdgL]

theorem c66 (n : Nat) (hn : 1 ≤ n ∧ n ≤ 7) (w : List Nat) (ho : w.length = 7) (hsm : ∀ x ∈ w, x < 128) (m : Nat) (hm : m < 128) (st : St) :
    run L 66 [webAV (n : Int) w, U m] st = some (I (jdg n w m), st) := by
  rw [run_pure (fn := ir66) rfl rfl]
  have g0 := getW0 (n : Int) w
  have hlw := lenW (n : Int) w
  rw [ho] at hlw
  have hsl : sliceaAV 7 1 false (.ptr 0 1) none (some (.v (.int .i64 (n : Int)))) none = some (.rsl 0 1 n 7 1 false) := by
    simp only [sliceaAV, natOr, natOf]
    simp; omega
  unfold jdg
  simp only [ir66, go_sem, reduceIte, Nat.reduceEqDiff, Nat.reduceAdd, Nat.reduceSub, Nat.reduceLeDiff, Nat.reduceLT, reduceCtorEq, Int.reduceLT, Int.reduceLE, Int.reduceEq, Int.reduceBEq, Int.reduceSub, Int.reduceAdd, Int.reduceMul, Int.reduceNeg, Int.reduceToNat, Nat.reduceMul, Nat.reduceBEq, g0, hlw, hsl, pubsW, storableW]
  generalize hg : lim (headed pure (run L) true _ lp66_0 _ _) _ _ = o
  obtain ⟨x, en, s, rfl, h2⟩ : ∃ x en s, o = some (x, en, s) ∧ _ := by rw [← hg]; exact loop66 n hn w ho hsm m hm 0 false (by omega) _ _ (by simp only [go_sem, reduceIte, Nat.reduceEqDiff, Nat.reduceAdd, Nat.reduceSub, Nat.reduceLeDiff, Nat.reduceLT, reduceCtorEq, Int.reduceLT, Int.reduceLE, Int.reduceEq, Int.reduceBEq, Int.reduceSub, Int.reduceAdd, Int.reduceMul, Int.reduceNeg, Int.reduceToNat, Nat.reduceMul, Nat.reduceBEq, okRefsW, renCellsW, Int.natCast_zero] <;> rfl)
  clear hg
  rw [Nat.sub_zero] at h2
  obtain ⟨op, h3, h2⟩ := h2
  rw [h3]
  rcases h2 with ⟨rfl, h4⟩ | ⟨rfl, rfl, h4⟩
  · cases op <;> simp only [go_sem, reduceIte, Nat.reduceEqDiff, Nat.reduceAdd, Nat.reduceSub, Nat.reduceLeDiff, Nat.reduceLT, reduceCtorEq, Int.reduceLT, Int.reduceLE, Int.reduceEq, Int.reduceBEq, Int.reduceSub, Int.reduceAdd, Int.reduceMul, Int.reduceNeg, Int.reduceToNat, Nat.reduceMul, Nat.reduceBEq, h4]
  · simp only [go_sem, reduceIte, Nat.reduceEqDiff, Nat.reduceAdd, Nat.reduceSub, Nat.reduceLeDiff, Nat.reduceLT, reduceCtorEq, Int.reduceLT, Int.reduceLE, Int.reduceEq, Int.reduceBEq, Int.reduceSub, Int.reduceAdd, Int.reduceMul, Int.reduceNeg, Int.reduceToNat, Nat.reduceMul, Nat.reduceBEq, h4]


def leastOf {α : Type} (f : α → Int) (Y : List α) : List α := Y.filter fun a => Y.all fun y => decide (f a ≤ f y)
theorem mem_least {α : Type} {f : α → Int} {Y : List α} {a : α} : a ∈ leastOf f Y ↔ a ∈ Y ∧ ∀ y ∈ Y, f a ≤ f y := by
  simp [leastOf]
theorem least_one {α : Type} (f : α → Int) : ∀ Y : List α, Y ≠ [] → ∃ a ∈ Y, ∀ y ∈ Y, f a ≤ f y
  | [], h => absurd rfl h
  | [x], _ => ⟨x, by simp, by simp⟩
  | x :: y :: r, _ => by
    obtain ⟨a, h1, h2⟩ := least_one f (y :: r) (by simp)
    by_cases h : f x ≤ f a
    · refine ⟨x, by simp, fun z hz => ?_⟩
      rcases List.mem_cons.1 hz with rfl | hz
      · exact Int.le_refl _
      · have := h2 z hz; omega
    · refine ⟨a, List.mem_cons_of_mem _ h1, fun z hz => ?_⟩
      rcases List.mem_cons.1 hz with rfl | hz
      · omega
      · exact h2 z hz
theorem least_ne {α : Type} (f : α → Int) (Y : List α) (h : Y ≠ []) : leastOf f Y ≠ [] := by
  obtain ⟨a, h1, h2⟩ := least_one f Y h
  intro e
  have := mem_least.2 ⟨h1, h2⟩
  rw [e] at this; simp at this
theorem filter_le_len {α : Type} (p q : α → Bool) : ∀ l : List α, (∀ x ∈ l, p x = true → q x = true) → (l.filter p).length ≤ (l.filter q).length
  | [], _ => by simp
  | a :: l, h => by
    have ih := filter_le_len p q l (fun x hx => h x (by simp [hx]))
    have ha := h a (by simp)
    cases h1 : p a <;> cases h2 : q a <;> simp_all <;> omega
theorem filter_lt {α : Type} (p : α → Bool) : ∀ l : List α, (l.filter p).length + (l.filter fun x => !p x).length = l.length
  | [] => rfl
  | a :: l => by
    have ih := filter_lt p l
    cases h : p a <;> simp [h] <;> omega
theorem nodup_len_le {α : Type} [DecidableEq α] : ∀ (l k : List α), l.Nodup → (∀ x ∈ l, x ∈ k) → l.length ≤ k.length
  | [], _, _, _ => by simp
  | a :: l, k, hn, h => by
    rw [List.nodup_cons] at hn
    have ha := h a (by simp)
    have h1 := nodup_len_le l (k.erase a) hn.2 (fun x hx => by
      have hne : x ≠ a := fun e => hn.1 (e ▸ hx)
      exact (List.mem_erase_of_ne hne).2 (h x (by simp [hx])))
    rw [List.length_erase_of_mem ha] at h1
    have := List.length_pos_of_mem ha
    simp only [List.length_cons]; omega
theorem bit_lt {n x i : Nat} (h : x < 2 ^ n) (h2 : x.testBit i = true) : i < n := by
  rcases Nat.lt_or_ge i n with h3 | h3
  · exact h3
  · have : x.testBit i = false := Nat.testBit_lt_two_pow (Nat.lt_of_lt_of_le h (Nat.pow_le_pow_right (by omega) h3))
    rw [this] at h2; simp at h2
/-! ### how many sets of articles there are that nothing can be added to (Moon and Moser) -/
def gM (k : Nat) : Nat := [1, 1, 2, 3, 4, 6, 9, 12].getD k 0
theorem gM_step : (List.range 8).all (fun k => (List.range 8).all fun d => Nat.ble 1 d && Nat.ble d k → decide (d * gM (k - d) ≤ gM k)) = true := by decide
theorem gM_mono : (List.range 8).all (fun a => (List.range 8).all fun b => Nat.ble a b → decide (gM a ≤ gM b)) = true := by decide
theorem gM_step' {k d : Nat} (hk : k ≤ 7) (h1 : 1 ≤ d) (h2 : d ≤ k) : d * gM (k - d) ≤ gM k := by
  have h := List.all_eq_true.1 (List.all_eq_true.1 gM_step k (List.mem_range.2 (by omega))) d (List.mem_range.2 (by omega))
  rw [decide_eq_true_iff] at h
  exact of_decide_eq_true (h (by rw [Nat.ble_eq_true_of_le h1, Nat.ble_eq_true_of_le h2]; rfl))
theorem gM_mono' {a b : Nat} (hb : b ≤ 7) (h : a ≤ b) : gM a ≤ gM b := by
  have h2 := List.all_eq_true.1 (List.all_eq_true.1 gM_mono a (List.mem_range.2 (by omega))) b (List.mem_range.2 (by omega))
  rw [decide_eq_true_iff] at h2
  exact of_decide_eq_true (h2 (Nat.ble_eq_true_of_le h))
theorem union_len {p : Nat → Nat → Bool} {B : Nat} : ∀ (K L : List Nat), (∀ z ∈ L, ∃ w ∈ K, p w z = true) → (∀ w ∈ K, (L.filter (p w)).length ≤ B) → L.length ≤ K.length * B
  | [], L, h, _ => by
    cases L with
    | nil => simp
    | cons z L => obtain ⟨w, hw, _⟩ := h z (by simp); simp at hw
  | w :: K, L, h, hB => by
    have h1 := hB w (by simp)
    have h2 := filter_lt (p w) L
    have h3 := union_len (p := p) (B := B) K (L.filter fun z => !p w z) (by
      intro z hz
      rw [List.mem_filter] at hz
      obtain ⟨u, hu, h4⟩ := h z hz.1
      rcases List.mem_cons.1 hu with rfl | hu
      · rw [h4] at hz; simp at hz
      · exact ⟨u, hu, h4⟩) (by
      intro u hu
      rw [List.filter_filter]
      have h4 := hB u (by simp [hu])
      have h5 := filter_le_len (fun z => p u z && !p w z) (p u) L (fun x _ hx => by rw [Bool.and_eq_true] at hx; exact hx.1)
      omega)
    rw [List.length_cons, Nat.add_mul]; omega
/-- Articles that do not contradict each other, to which none can be added. -/
def Mx (J : Nat → Nat → Bool) (V : Nat → Bool) (z : Nat) : Prop :=
  z < 128 ∧ (∀ u, z.testBit u = true → V u = true) ∧ (∀ u w, z.testBit u = true → z.testBit w = true → J u w = false) ∧ ∀ u, u < 7 → V u = true → z.testBit u = true ∨ ∃ w, w < 7 ∧ z.testBit w = true ∧ J u w = true
def sizeV (V : Nat → Bool) : Nat := ((List.range 7).filter V).length
def nbV (J : Nat → Nat → Bool) (V : Nat → Bool) (v : Nat) : List Nat := (List.range 7).filter fun u => V u && (u == v || J v u)
def offV (J : Nat → Nat → Bool) (V : Nat → Bool) (v : Nat) : Nat → Bool := fun u => V u && !(u == v || J v u)
theorem off_size (J : Nat → Nat → Bool) (V : Nat → Bool) (v : Nat) : sizeV (offV J V v) + (nbV J V v).length = sizeV V := by
  unfold sizeV nbV offV
  have h := filter_lt (fun u => u == v || J v u) ((List.range 7).filter V)
  rw [List.filter_filter, List.filter_filter] at h
  have e1 : (List.range 7).filter (fun u => V u && (u == v || J v u)) = (List.range 7).filter fun u => (u == v || J v u) && V u := by
    congr 1; funext u; exact Bool.and_comm _ _
  have e2 : (List.range 7).filter (fun u => V u && !(u == v || J v u)) = (List.range 7).filter fun u => !(u == v || J v u) && V u := by
    congr 1; funext u; exact Bool.and_comm _ _
  rw [e1, e2]; omega
theorem bit_lt7 {z u : Nat} (hz : z < 128) (h : z.testBit u = true) : u < 7 := bit_lt (n := 7) hz h
theorem xor_bit (z w u : Nat) : (z ^^^ 2 ^ w).testBit u = (z.testBit u ^^ decide (w = u)) := by rw [Nat.testBit_xor, Nat.testBit_two_pow]
theorem xor_back (z w : Nat) : (z ^^^ 2 ^ w) ^^^ 2 ^ w = z := by
  apply Nat.eq_of_testBit_eq
  intro u
  rw [xor_bit, xor_bit, Bool.xor_assoc, Bool.xor_self, Bool.xor_false]
theorem nodup_map_inj {α β : Type} {f : α → β} : ∀ {l : List α}, l.Nodup → (∀ a ∈ l, ∀ b ∈ l, f a = f b → a = b) → (l.map f).Nodup
  | [], _, _ => by simp
  | a :: l, h, hi => by
    rw [List.nodup_cons] at h
    rw [List.map_cons, List.nodup_cons]
    refine ⟨?_, nodup_map_inj h.2 (fun x hx y hy => hi x (by simp [hx]) y (by simp [hy]))⟩
    intro hm
    obtain ⟨b, hb, e⟩ := List.mem_map.1 hm
    have := hi b (by simp [hb]) a (by simp) e
    subst this; exact h.1 hb
theorem mm {J : Nat → Nat → Bool} (hs : ∀ a b, J a b = J b a) (hr : ∀ a, J a a = false) : ∀ (k : Nat), k ≤ 7 → ∀ V : Nat → Bool, (∀ u, V u = true → u < 7) → sizeV V = k → ∀ L : List Nat, L.Nodup → (∀ z ∈ L, Mx J V z) → L.length ≤ gM k := by
  intro k
  induction k using Nat.strongRecOn with
  | ind k ih =>
    intro hk V hV7 hV L hnd hL
    by_cases h0 : k = 0
    · subst h0
      have hno : ∀ u, V u = false := by
        intro u
        cases e : V u
        · rfl
        · have : u ∈ (List.range 7).filter V := List.mem_filter.2 ⟨List.mem_range.2 (hV7 u e), e⟩
          have := List.length_pos_of_mem this
          unfold sizeV at hV; omega
      have := nodup_len_le L [0] hnd (by
        intro z hz
        have hz2 := hL z hz
        have : z = 0 := by
          apply Nat.eq_of_testBit_eq
          intro u
          rw [Nat.zero_testBit]
          cases e : z.testBit u
          · rfl
          · have := hz2.2.1 u e; rw [hno u] at this; simp at this
        simp [this])
      simpa [gM] using this
    · have hne : (List.range 7).filter V ≠ [] := by
        intro e; unfold sizeV at hV; rw [e] at hV; simp at hV; omega
      have hne2 := least_ne (fun u => ((nbV J V u).length : Int)) _ hne
      obtain ⟨v, hv⟩ := List.exists_mem_of_ne_nil _ hne2
      rw [mem_least] at hv
      obtain ⟨hv1, hv2⟩ := hv
      obtain ⟨hv7, hvV⟩ := List.mem_filter.1 hv1
      rw [List.mem_range] at hv7
      have hd1 : 1 ≤ (nbV J V v).length := List.length_pos_of_mem (a := v) (List.mem_filter.2 ⟨List.mem_range.2 hv7, by simp [hvV]⟩)
      have hsz := off_size J V v
      have hB : ∀ w ∈ nbV J V v, (L.filter fun z => z.testBit w).length ≤ gM (k - (nbV J V v).length) := by
        intro w hw
        obtain ⟨hw7, hw2⟩ := List.mem_filter.1 hw
        rw [List.mem_range] at hw7
        rw [Bool.and_eq_true] at hw2
        have hwV := hw2.1
        have hmin := hv2 w (List.mem_filter.2 ⟨List.mem_range.2 hw7, hwV⟩)
        have hw1 : 1 ≤ (nbV J V w).length := List.length_pos_of_mem (a := w) (List.mem_filter.2 ⟨List.mem_range.2 hw7, by simp [hwV]⟩)
        have hszw := off_size J V w
        have hi := ih (sizeV (offV J V w)) (by omega) (by omega) (offV J V w) (by
          intro u hu; unfold offV at hu; rw [Bool.and_eq_true] at hu; exact hV7 u hu.1) rfl ((L.filter fun z => z.testBit w).map fun z => z ^^^ 2 ^ w) (by
          apply nodup_map_inj (hnd.filter _)
          intro a _ b _ e
          have := congrArg (fun z => z ^^^ 2 ^ w) e
          simp only [xor_back] at this
          exact this) (by
          intro z' hz'
          obtain ⟨z, hz, rfl⟩ := List.mem_map.1 hz'
          obtain ⟨hz, hzw⟩ := List.mem_filter.1 hz
          obtain ⟨m1, m2, m3, m4⟩ := hL z hz
          have hbit : ∀ u, (z ^^^ 2 ^ w).testBit u = true ↔ z.testBit u = true ∧ u ≠ w := by
            intro u
            rw [xor_bit]
            by_cases e : w = u
            · subst e; rw [hzw]; simp
            · have : decide (w = u) = false := by simp [e]
              rw [this, Bool.xor_false]
              constructor
              · intro h; exact ⟨h, fun h2 => e h2.symm⟩
              · exact fun h => h.1
          refine ⟨?_, ?_, ?_, ?_⟩
          · exact Nat.xor_lt_two_pow (n := 7) m1 (Nat.pow_lt_pow_right (by omega) hw7)
          · intro u hu
            obtain ⟨h1, h2⟩ := (hbit u).1 hu
            have h3 := m3 w u hzw h1
            unfold offV
            rw [m2 u h1, h3]; simp [h2]
          · intro a b ha hb
            exact m3 a b ((hbit a).1 ha).1 ((hbit b).1 hb).1
          · intro u hu hVu
            unfold offV at hVu
            rw [Bool.and_eq_true] at hVu
            obtain ⟨g1, g2⟩ := hVu
            have g3 : u ≠ w ∧ J w u = false := by
              rw [Bool.not_eq_true', Bool.or_eq_false_iff] at g2
              exact ⟨by simpa using g2.1, g2.2⟩
            rcases m4 u hu g1 with h1 | ⟨x, h1, h2, h3⟩
            · exact .inl ((hbit u).2 ⟨h1, g3.1⟩)
            · refine .inr ⟨x, h1, (hbit x).2 ⟨h2, ?_⟩, h3⟩
              rintro rfl
              rw [hs] at h3; rw [h3] at g3; simp at g3)
        rw [List.length_map] at hi
        have := gM_mono' (a := sizeV (offV J V w)) (b := k - (nbV J V v).length) (by omega) (by omega)
        omega
      have hU := union_len (p := fun w z => z.testBit w) (B := gM (k - (nbV J V v).length)) (nbV J V v) L (by
        intro z hz
        obtain ⟨m1, m2, m3, m4⟩ := hL z hz
        rcases m4 v hv7 hvV with h1 | ⟨w, h1, h2, h3⟩
        · exact ⟨v, List.mem_filter.2 ⟨List.mem_range.2 hv7, by simp [hvV]⟩, h1⟩
        · exact ⟨w, List.mem_filter.2 ⟨List.mem_range.2 h1, by rw [m2 w h2, h3]; simp⟩, h2⟩) hB
      have := gM_step' hk hd1 (by omega)
      omega

/-! ### there are at most twelve choices -/
def adjB (ps : List (Int × Int)) (a b : Nat) : Bool := decide (((a : Int), (b : Int)) ∈ ps) || decide (((b : Int), (a : Int)) ∈ ps)
theorem jdgL_zero (w : List Nat) (m : Nat) : ∀ (l : List Nat) (op : Bool), jdgL w m op l = 0 ↔ op = false ∧ ∀ x ∈ l, jdg1 w m x = 0
  | [], op => by cases op <;> simp [jdgL]
  | x :: r, op => by
    have ih := jdgL_zero w m r
    have h3 : jdg1 w m x = 13 ∨ jdg1 w m x = 21 ∨ jdg1 w m x = 0 := by unfold jdg1; split <;> split <;> simp
    simp only [jdgL]
    rcases h3 with h | h | h
    · rw [if_pos h]; simp [h]
    · rw [if_neg (by omega), ih]; simp [h]
    · rw [if_neg (by omega), ih]; simp [h]
theorem jdg_zero (n : Nat) (w : List Nat) (m : Nat) : jdg n w m = 0 ↔ ∀ x, x < n → (m.testBit x = true ↔ w.getD x 0 &&& m = 0) := by
  unfold jdg
  rw [jdgL_zero]
  have e : ∀ x, jdg1 w m x = 0 ↔ (m.testBit x = true ↔ w.getD x 0 &&& m = 0) := by
    intro x
    unfold jdg1
    by_cases h1 : m.testBit x = true <;> by_cases h2 : w.getD x 0 &&& m = 0 <;> simp [h1, h2]
  constructor
  · rintro ⟨_, h⟩ x hx
    exact (e x).1 (h x (by rw [List.mem_range'_1]; omega))
  · intro h
    exact ⟨rfl, fun x hx => (e x).2 (h x (by rw [List.mem_range'_1] at hx; omega))⟩
theorem and_zero (a b : Nat) : a &&& b = 0 ↔ ∀ i, ¬(a.testBit i = true ∧ b.testBit i = true) := by
  constructor
  · intro h i ⟨h1, h2⟩
    have := congrArg (fun z => z.testBit i) h
    simp only [Nat.testBit_and, h1, h2, Nat.zero_testBit, Bool.and_self] at this
    exact absurd this (by simp)
  · intro h
    apply Nat.eq_of_testBit_eq
    intro i
    rw [Nat.testBit_and, Nat.zero_testBit]
    have := h i
    cases h1 : a.testBit i <;> cases h2 : b.testBit i <;> simp_all
/-- A choice, by the references. -/
theorem ker_iff {n : Nat} {ps : List (Int × Int)} (h7 : ∀ p ∈ ps, okP p) {z : Nat} (hz : 7 ≤ z) (m : Nat) : jdg n (seeL z ps) m = 0 ↔ ∀ x, x < n → (m.testBit x = true ↔ ∀ y : Nat, m.testBit y = true → ((x : Int), (y : Int)) ∉ ps) := by
  rw [jdg_zero]
  have e : ∀ x, (seeL z ps).getD x 0 &&& m = 0 ↔ ∀ y : Nat, m.testBit y = true → ((x : Int), (y : Int)) ∉ ps := by
    intro x
    rw [and_zero]
    constructor
    · intro h y hy hp
      exact h y ⟨by rw [seeL_bit hz h7]; simpa using hp, hy⟩
    · rintro h y ⟨h1, h2⟩
      rw [seeL_bit hz h7] at h1
      exact h y h2 (by simpa using h1)
  constructor
  · intro h x hx; rw [h x hx, e]
  · intro h x hx; rw [h x hx, e]
def kerZ (n : Nat) (w : List Nat) : List Nat := (List.range' 0 (2 ^ n)).filter fun m => decide (jdg n w m = 0)
theorem ker_len {n : Nat} (hn : n ≤ 7) {ps : List (Int × Int)} (hps : ∀ p ∈ ps, goodP (n : Int) p) (h7 : ∀ p ∈ ps, okP p) {z : Nat} (hz : 7 ≤ z) : (kerZ n (seeL z ps)).length ≤ 12 := by
  have h128 : 2 ^ n ≤ 128 := Nat.pow_le_pow_right (by omega) hn
  have hsz : sizeV (fun u => decide (u < n)) = n := by
    have : ∀ n, n ≤ 7 → sizeV (fun u => decide (u < n)) = n := by decide
    exact this n hn
  have key := mm (J := adjB ps) (fun a b => by unfold adjB; exact Bool.or_comm _ _) (fun a => by
      cases e : adjB ps a a
      · rfl
      · unfold adjB at e
        rw [Bool.or_self, decide_eq_true_iff] at e
        exact absurd rfl (hps _ e).2.2.2.2) n hn (fun u => decide (u < n)) (fun u hu => by have := of_decide_eq_true hu; omega) hsz (kerZ n (seeL z ps)) (by
      unfold kerZ; exact List.Pairwise.filter _ List.nodup_range') (by
      intro m hm
      unfold kerZ at hm
      obtain ⟨h1, h2⟩ := List.mem_filter.1 hm
      rw [List.mem_range'_1] at h1
      rw [decide_eq_true_iff, ker_iff h7 hz] at h2
      have hmb : ∀ u, m.testBit u = true → u < n := fun u h => bit_lt (by omega) h
      refine ⟨by omega, fun u hu => by simpa using hmb u hu, ?_, ?_⟩
      · intro u v hu hv
        unfold adjB
        rw [Bool.or_eq_false_iff, decide_eq_false_iff_not, decide_eq_false_iff_not]
        exact ⟨(h2 u (hmb u hu)).1 hu v hv, (h2 v (hmb v hv)).1 hv u hu⟩
      · intro u _ hu
        have hun : u < n := of_decide_eq_true hu
        by_cases hb : m.testBit u = true
        · exact .inl hb
        · right
          have h3 : ¬ ∀ y : Nat, m.testBit y = true → ((u : Int), (y : Int)) ∉ ps := fun h => hb ((h2 u hun).2 h)
          rw [Classical.not_forall] at h3
          obtain ⟨y, h3⟩ := h3
          rw [Classical.not_imp, Classical.not_not] at h3
          have := hmb y h3.1
          exact ⟨y, by omega, h3.1, by unfold adjB; simp [h3.2]⟩)
  have g : gM n ≤ 12 := by
    have : ∀ n, n ≤ 7 → gM n ≤ 12 := by decide
    exact this n hn
  omega

attribute [local go_sem] shaped_t cells_t isAgg_t storable_t okRef_t pub_t
attribute [local go_sem high] and_one shr_u shl_one or_u and_u

theorem refsV_t (n : Nat) (acc : List Nat) (l : List Int) : refsV n acc (tAV l) = acc := refsV_sl n acc 1 true (l.map I)
theorem mapL_t (n : Nat) (M : List Nat) (l : List Int) : mapL n M (tAV l) = tAV l := mapL_sl n M 1 true (l.map I)
theorem refsL_T (n : Nat) : ∀ (X : List (List Int)) (acc : List Nat), refsL n acc (X.map tAV) = acc
  | [], acc => by simp only [List.map_nil, refsL]
  | x :: r, acc => by
    have e : refsV n acc (tAV x) = acc := refsV_sl n acc 1 true (x.map I)
    simp only [List.map_cons, refsL, e, refsL_T n r]
theorem mapLs_T (n : Nat) (M : List Nat) : ∀ (X : List (List Int)), mapLs n M (X.map tAV) = X.map tAV
  | [] => by simp only [List.map_nil, mapLs]
  | x :: r => by
    have e : mapL n M (tAV x) = tAV x := mapL_sl n M 1 true (x.map I)
    simp only [List.map_cons, mapLs, e, mapLs_T n M r]
theorem ren1_t (n : Nat) (tips : List Nat) (l : List Int) (acc : List (Nat × Nat)) : ren1 n tips acc (tAV l) = (tAV l, acc) := by
  unfold tAV
  cases l with
  | nil => rfl
  | cons a r => rw [sl_ne (by simp)]; simp [ren1]
theorem okRefsT (n : Nat) (X : List (List Int)) : okRefs n (X.map tAV) = true := okRefs_map tAV n (okRef_t n) X
theorem renCellsT (n : Nat) (tips : List Nat) (acc : List (Nat × Nat)) (X : List (List Int)) : renCells n tips acc (X.map tAV) = (X.map tAV, acc) := renCells_map tAV n tips (ren1_t n tips) X acc
theorem refsL_W (k : Nat) (n : Int) (w : List Nat) (acc : List Nat) : refsL k acc (webC n w) = acc := by
  unfold webC; simp only [refsL, refsV, refsL_U]
theorem mapLs_W (k : Nat) (M : List Nat) (n : Int) (w : List Nat) : mapLs k M (webC n w) = webC n w := by
  unfold webC; simp only [mapLs, mapL, mapLs_U]
theorem refsL_J (n : Nat) (xs : List Nat) (acc : List Nat) : refsL n acc (xs.map J) = acc := refsL_kind n (fun (n : Nat) => Value.int .i64 (n : Int)) xs acc
theorem mapLs_J (n : Nat) (M : List Nat) (xs : List Nat) : mapLs n M (xs.map J) = xs.map J := mapLs_kind n M (fun (n : Nat) => Value.int .i64 (n : Int)) xs

/-! ### lists that grow in the store, behind two blocks -/
theorem happ_nil (l : List Int) (S : List (List AV)) : appendmAV 1 false (.v (.slice none 0 0)) [tAV l] ⟨S, []⟩ = some (.rsl S.length 0 1 1 1 false, ⟨S ++ [[tAV l]], []⟩) := by
  simp [appendmAV, newM, maxGrow, flatAV, cells_t]
theorem happ_at (b c : List AV) (X : List (List Int)) (l : List Int) (h : 1 ≤ X.length) (h2 : X.length ≤ 1000) : appendmAV 1 false (.rsl 2 0 X.length X.length 1 false) [tAV l] ⟨[b, c, X.map tAV], []⟩ = some (.rsl 3 0 (X.length + 1) (X.length + 1) 1 false, ⟨[b, c, [], (X ++ [l]).map tAV], []⟩) := by
  have htk : (X.map tAV).take X.length = X.map tAV := List.take_of_length_le (by simp)
  simp only [appendmAV, List.getElem?_cons_succ, List.getElem?_cons_zero, List.length_cons, List.length_nil, List.length_map, Nat.mul_one, htk]
  rw [if_pos ⟨trivial, trivial, Nat.le_refl _, by omega, by omega⟩, if_neg (by omega), if_pos ⟨trivial, by unfold maxGrow; omega, by omega⟩]
  simp [flatAV, cells_t]
def kA (X : List (List Int)) : AV := if X = [] then .v (.slice none 0 0) else .rsl 2 0 X.length X.length 1 false
def kS (X : List (List Int)) : List (List AV) := if X = [] then [] else [X.map tAV]
theorem kA_ne {X : List (List Int)} (h : X ≠ []) : kA X = .rsl 2 0 X.length X.length 1 false := by unfold kA; rw [if_neg h]
theorem kS_ne {X : List (List Int)} (h : X ≠ []) : kS X = [X.map tAV] := by unfold kS; rw [if_neg h]
theorem kA_one (l : List Int) : kA [l] = .rsl 2 0 1 1 1 false := rfl
theorem kS_one (l : List Int) : kS [l] = [[tAV l]] := rfl
theorem kA_snoc (X : List (List Int)) (l : List Int) : kA (X ++ [l]) = .rsl 2 0 (X.length + 1) (X.length + 1) 1 false := by rw [kA_ne (by simp)]; simp
theorem kS_snoc (X : List (List Int)) (l : List Int) : kS (X ++ [l]) = [(X ++ [l]).map tAV] := kS_ne (by simp)

/-- The sets among some that nothing speaks against. -/
def kerL (f : Nat → Int) (l : List Nat) : List (List Int) := (l.filter fun m => decide (f m = 0)).map memb
theorem kerL_cons (f : Nat → Int) (m : Nat) (l : List Nat) : kerL f (m :: l) = (if f m = 0 then [memb m] else []) ++ kerL f l := by
  unfold kerL
  by_cases h : f m = 0
  · rw [if_pos h, List.filter_cons_of_pos (by simpa using h), List.map_cons]; rfl
  · rw [if_neg h, List.filter_cons_of_neg (by simpa using h)]; rfl

set_option maxHeartbeats 1000000 in
theorem loop20 (nl : Bool) (n : Nat) (hn : 1 ≤ n ∧ n ≤ 7) (ps : List (Int × Int)) (w : List Nat) (ho : w.length = 7) (hsm : ∀ x ∈ w, x < 128) (m : Nat) (X : List (List Int)) (hok : m ≤ 2 ^ n ∧ X.length ≤ m) (env : Env) (st : St)
    (hg : gcAV true 2 0 (canon env [4, 6, 18, 19, 3000000]) st = ([(4, .ptr 1 0), (6, kA X), (18, U (2 ^ n)), (19, U m), (3000000, .any)], ⟨bkCells nl (n : Int) ps :: webC (n : Int) w :: kS X, []⟩)) :
    ∃ x_1 en s, lim (headed pure (run L) true [4, 6, 18, 19, 3000000] lp20_0 2 0) env st = some (x_1, en, s) ∧ (x_1 = .exit 0 ∧ en.get 6 = kA (X ++ kerL (jdg n w) (List.range' m (2 ^ n - m))) ∧ s = ⟨bkCells nl (n : Int) ps :: webC (n : Int) w :: kS (X ++ kerL (jdg n w) (List.range' m (2 ^ n - m))), []⟩) := by
  refine loop_wp (α := Nat × List (List Int)) (fun ⟨m, X⟩ => 2 ^ n - m) (fun ⟨m, X⟩ => m ≤ 2 ^ n ∧ X.length ≤ m) (fun ⟨m, X⟩ => ([(4, .ptr 1 0), (6, kA X), (18, U (2 ^ n)), (19, U m), (3000000, .any)], ⟨bkCells nl (n : Int) ps :: webC (n : Int) w :: kS X, []⟩)) (fun ⟨m, X⟩ x_1 en s => x_1 = .exit 0 ∧ en.get 6 = kA (X ++ kerL (jdg n w) (List.range' m (2 ^ n - m))) ∧ s = ⟨bkCells nl (n : Int) ps :: webC (n : Int) w :: kS (X ++ kerL (jdg n w) (List.range' m (2 ^ n - m))), []⟩) (fun ⟨m, X⟩ hok => ?_) ⟨m, X⟩ hok env st hg
  simp only at hok
  obtain ⟨h1, h2⟩ := hok
  dsimp only at h1 h2 ⊢
  have h128 : 2 ^ n ≤ 128 := Nat.le_trans (Nat.pow_le_pow_right (by omega) hn.2) (by decide)
  generalize 2 ^ n = N at *
  have hlw := lenW (n : Int) w
  rw [ho] at hlw
  have htkw : (webC (n : Int) w).take 8 = webC (n : Int) w := List.take_of_length_le (by omega)
  by_cases h : m < N
  · have hs := succU m (by omega)
    have hlt : ((m : Int) < (N : Int)) = True := eq_true (by omega)
    have hr : List.range' m (N - m) = m :: List.range' (m + 1) (N - (m + 1)) := by
      rw [show N - m = (N - (m + 1)) + 1 by omega, List.range'_succ]
    have h66 := fun st => c66 n hn w ho hsm m (by omega) st
    have h67 : ∀ st, run L 67 [U m] st = some (tAV (memb m), st) := fun st => c67 m (by omega) st
    have hN := fun S => happ_nil (memb m) S
    rw [hr, kerL_cons]
    by_cases he : jdg n w m = 0
    · rw [if_pos he]
      have he' : (jdg n w m = 0) = True := eq_true he
      by_cases hX : X = []
      · subst hX
        have eA : kA [] = .v (.slice none 0 0) := rfl
        have eS : kS [] = [] := rfl
        generalize memb m = l at *
        simp only [go_sem, reduceIte, Nat.reduceEqDiff, Nat.reduceAdd, Nat.reduceSub, Nat.reduceLeDiff, Nat.reduceLT, reduceCtorEq, Int.reduceLT, Int.reduceLE, Int.reduceEq, Int.reduceBEq, Int.reduceSub, Int.reduceAdd, Int.reduceMul, Int.reduceNeg, Int.reduceToNat, Nat.reduceMul, Nat.reduceBEq, index_rsl_if, setm, make_ints, condK_dec, wantK_dec, not_dec, and_dec, or_dec, seqK_ite, seqK_none, blockK_ite, blockK_none, opsK_ite, opsK_none, stepK_ite, stepK_none, bodyK_ite, bodyK_none, resK_ite, resK_none, leaveK_ite, leaveK_none, only_ite, only_none, bind_ite, gives_some, gives_none, gives_ite, then_normal, then_ret, then_exit, then_none, then_ite, Option.bind_none, Bool.not_eq_true', decide_eq_false_iff_not, Bool.and_eq_true, Bool.or_eq_true, Option.some.injEq, Int.not_lt, Int.not_le, lp20_0, hlt, hs, h66, he', h67, eA, eS, hN, hlw, htkw, pubsW, storableW]
        refine ⟨(m + 1, [l]), by simp only [go_sem, reduceIte, Nat.reduceEqDiff, Nat.reduceAdd, Nat.reduceSub, Nat.reduceLeDiff, Nat.reduceLT, reduceCtorEq, Int.reduceLT, Int.reduceLE, Int.reduceEq, Int.reduceBEq, Int.reduceSub, Int.reduceAdd, Int.reduceMul, Int.reduceNeg, Int.reduceToNat, Nat.reduceMul, Nat.reduceBEq, ren1_locm, loc_tips, locT_eq, kA_one, kS_one, okRefsT, renCellsT, okRefsW, renCellsW, refsL_W, mapLs_W, compact, compactW, refsEnv, refsV, refsL, refsStore, refsAt, mapEnv, mapL, mapLs, newName, posOf, mapStore, pickStore, namesOk, refsV_sl, mapL_sl, refsL_T, mapLs_T, refsV_t, mapL_t, ren1_t, List.contains_nil, List.contains_cons, Option.getD_some, hasKey] <;> rfl, ?_, ?_, fun x en s hq => ?_⟩
        · dsimp only; exact ⟨by omega, by simp⟩
        · dsimp only; omega
        · exact hq
      · have eA := kA_ne hX
        have eS := kS_ne hX
        have hpos : 1 ≤ X.length := by
          cases X with
          | nil => exact absurd rfl hX
          | cons x r => simp
        have hA := happ_at (bkCells nl (n : Int) ps) (webC (n : Int) w) X (memb m) hpos (by omega)
        generalize memb m = l at *
        simp only [go_sem, reduceIte, Nat.reduceEqDiff, Nat.reduceAdd, Nat.reduceSub, Nat.reduceLeDiff, Nat.reduceLT, reduceCtorEq, Int.reduceLT, Int.reduceLE, Int.reduceEq, Int.reduceBEq, Int.reduceSub, Int.reduceAdd, Int.reduceMul, Int.reduceNeg, Int.reduceToNat, Nat.reduceMul, Nat.reduceBEq, index_rsl_if, setm, make_ints, condK_dec, wantK_dec, not_dec, and_dec, or_dec, seqK_ite, seqK_none, blockK_ite, blockK_none, opsK_ite, opsK_none, stepK_ite, stepK_none, bodyK_ite, bodyK_none, resK_ite, resK_none, leaveK_ite, leaveK_none, only_ite, only_none, bind_ite, gives_some, gives_none, gives_ite, then_normal, then_ret, then_exit, then_none, then_ite, Option.bind_none, Bool.not_eq_true', decide_eq_false_iff_not, Bool.and_eq_true, Bool.or_eq_true, Option.some.injEq, Int.not_lt, Int.not_le, lp20_0, hlt, hs, h66, he', h67, eA, eS, hA, hlw, htkw, pubsW, storableW]
        refine ⟨(m + 1, X ++ [l]), by simp only [go_sem, reduceIte, Nat.reduceEqDiff, Nat.reduceAdd, Nat.reduceSub, Nat.reduceLeDiff, Nat.reduceLT, reduceCtorEq, Int.reduceLT, Int.reduceLE, Int.reduceEq, Int.reduceBEq, Int.reduceSub, Int.reduceAdd, Int.reduceMul, Int.reduceNeg, Int.reduceToNat, Nat.reduceMul, Nat.reduceBEq, ren1_locm, loc_tips, locT_eq, kA_snoc, kS_snoc, okRefsT, renCellsT, okRefsW, renCellsW, refsL_W, mapLs_W, compact, compactW, refsEnv, refsV, refsL, refsStore, refsAt, mapEnv, mapL, mapLs, newName, posOf, mapStore, pickStore, namesOk, refsV_sl, mapL_sl, refsL_T, mapLs_T, refsV_t, mapL_t, ren1_t, List.contains_nil, List.contains_cons, Option.getD_some, hasKey] <;> rfl, ?_, ?_, fun x en s hq => ?_⟩
        · dsimp only; exact ⟨by omega, by simp; omega⟩
        · dsimp only; omega
        · simp only [List.append_assoc] at hq; exact hq
    · rw [if_neg he]
      have he' : (jdg n w m = 0) = False := eq_false he
      by_cases hX : X = []
      · subst hX
        have eA : kA [] = .v (.slice none 0 0) := rfl
        have eS : kS [] = [] := rfl
        simp only [go_sem, reduceIte, Nat.reduceEqDiff, Nat.reduceAdd, Nat.reduceSub, Nat.reduceLeDiff, Nat.reduceLT, reduceCtorEq, Int.reduceLT, Int.reduceLE, Int.reduceEq, Int.reduceBEq, Int.reduceSub, Int.reduceAdd, Int.reduceMul, Int.reduceNeg, Int.reduceToNat, Nat.reduceMul, Nat.reduceBEq, index_rsl_if, setm, make_ints, condK_dec, wantK_dec, not_dec, and_dec, or_dec, seqK_ite, seqK_none, blockK_ite, blockK_none, opsK_ite, opsK_none, stepK_ite, stepK_none, bodyK_ite, bodyK_none, resK_ite, resK_none, leaveK_ite, leaveK_none, only_ite, only_none, bind_ite, gives_some, gives_none, gives_ite, then_normal, then_ret, then_exit, then_none, then_ite, Option.bind_none, Bool.not_eq_true', decide_eq_false_iff_not, Bool.and_eq_true, Bool.or_eq_true, Option.some.injEq, Int.not_lt, Int.not_le, lp20_0, hlt, hs, h66, he', eA, eS, hlw, htkw, pubsW, storableW]
        refine ⟨(m + 1, ([] : List (List Int))), by simp only [go_sem, reduceIte, Nat.reduceEqDiff, Nat.reduceAdd, Nat.reduceSub, Nat.reduceLeDiff, Nat.reduceLT, reduceCtorEq, Int.reduceLT, Int.reduceLE, Int.reduceEq, Int.reduceBEq, Int.reduceSub, Int.reduceAdd, Int.reduceMul, Int.reduceNeg, Int.reduceToNat, Nat.reduceMul, Nat.reduceBEq, ren1_locm, loc_tips, locT_eq, eA, eS, okRefsT, renCellsT, okRefsW, renCellsW, refsL_W, mapLs_W, compact, compactW, refsEnv, refsV, refsL, refsStore, refsAt, mapEnv, mapL, mapLs, newName, posOf, mapStore, pickStore, namesOk, refsV_sl, mapL_sl, refsL_T, mapLs_T, refsV_t, mapL_t, ren1_t, List.contains_nil, List.contains_cons, Option.getD_some, hasKey] <;> rfl, ?_, ?_, fun x en s hq => ?_⟩
        · dsimp only; exact ⟨by omega, by simp⟩
        · dsimp only; omega
        · exact hq
      · have eA := kA_ne hX
        have eS := kS_ne hX
        simp only [go_sem, reduceIte, Nat.reduceEqDiff, Nat.reduceAdd, Nat.reduceSub, Nat.reduceLeDiff, Nat.reduceLT, reduceCtorEq, Int.reduceLT, Int.reduceLE, Int.reduceEq, Int.reduceBEq, Int.reduceSub, Int.reduceAdd, Int.reduceMul, Int.reduceNeg, Int.reduceToNat, Nat.reduceMul, Nat.reduceBEq, index_rsl_if, setm, make_ints, condK_dec, wantK_dec, not_dec, and_dec, or_dec, seqK_ite, seqK_none, blockK_ite, blockK_none, opsK_ite, opsK_none, stepK_ite, stepK_none, bodyK_ite, bodyK_none, resK_ite, resK_none, leaveK_ite, leaveK_none, only_ite, only_none, bind_ite, gives_some, gives_none, gives_ite, then_normal, then_ret, then_exit, then_none, then_ite, Option.bind_none, Bool.not_eq_true', decide_eq_false_iff_not, Bool.and_eq_true, Bool.or_eq_true, Option.some.injEq, Int.not_lt, Int.not_le, lp20_0, hlt, hs, h66, he', eA, eS, hlw, htkw, pubsW, storableW]
        refine ⟨(m + 1, X), by simp only [go_sem, reduceIte, Nat.reduceEqDiff, Nat.reduceAdd, Nat.reduceSub, Nat.reduceLeDiff, Nat.reduceLT, reduceCtorEq, Int.reduceLT, Int.reduceLE, Int.reduceEq, Int.reduceBEq, Int.reduceSub, Int.reduceAdd, Int.reduceMul, Int.reduceNeg, Int.reduceToNat, Nat.reduceMul, Nat.reduceBEq, ren1_locm, loc_tips, locT_eq, eA, eS, okRefsT, renCellsT, okRefsW, renCellsW, refsL_W, mapLs_W, compact, compactW, refsEnv, refsV, refsL, refsStore, refsAt, mapEnv, mapL, mapLs, newName, posOf, mapStore, pickStore, namesOk, refsV_sl, mapL_sl, refsL_T, mapLs_T, refsV_t, mapL_t, ren1_t, List.contains_nil, List.contains_cons, Option.getD_some, hasKey] <;> rfl, ?_, ?_, fun x en s hq => ?_⟩
        · dsimp only; exact ⟨by omega, by omega⟩
        · dsimp only; omega
        · exact hq
  · have hr : N - m = 0 := by omega
    have hlt : ((m : Int) < (N : Int)) = False := eq_false (by omega)
    rw [hr]
    have e : X ++ kerL (jdg n w) (List.range' m 0) = X := by simp [kerL]
    simp only [go_sem, reduceIte, Nat.reduceEqDiff, Nat.reduceAdd, Nat.reduceSub, Nat.reduceLeDiff, Nat.reduceLT, reduceCtorEq, Int.reduceLT, Int.reduceLE, Int.reduceEq, Int.reduceBEq, Int.reduceSub, Int.reduceAdd, Int.reduceMul, Int.reduceNeg, Int.reduceToNat, Nat.reduceMul, Nat.reduceBEq, index_rsl_if, setm, make_ints, condK_dec, wantK_dec, not_dec, and_dec, or_dec, seqK_ite, seqK_none, blockK_ite, blockK_none, opsK_ite, opsK_none, stepK_ite, stepK_none, bodyK_ite, bodyK_none, resK_ite, resK_none, leaveK_ite, leaveK_none, only_ite, only_none, bind_ite, gives_some, gives_none, gives_ite, then_normal, then_ret, then_exit, then_none, then_ite, Option.bind_none, Bool.not_eq_true', decide_eq_false_iff_not, Bool.and_eq_true, Bool.or_eq_true, Option.some.injEq, Int.not_lt, Int.not_le, lp20_0, hlt]
    rw [e]; exact ⟨rfl, rfl⟩

attribute [local go_sem] shaped_t cells_t isAgg_t storable_t okRef_t pub_t
attribute [local go_sem high] and_one shr_u shl_one or_u and_u

/-- Nothing to sort. -/
theorem c99n (st : St) : run L 99 [.v (.slice none 0 0), I 0, I 0, cmpF] st = some (.tup [], st) := by
  rw [run_shared (fn := ir99) rfl rfl]
  have hw : IntKind.i64.wrap (0 + 1) = 1 := by decide
  simp only [ir99, go_sem, reduceIte, Nat.reduceEqDiff, Nat.reduceAdd, Nat.reduceSub, Nat.reduceLeDiff, Nat.reduceLT, reduceCtorEq, Int.reduceLT, Int.reduceLE, Int.reduceEq, Int.reduceBEq, Int.reduceSub, Int.reduceAdd, Int.reduceMul, Int.reduceNeg, Int.reduceToNat, Nat.reduceMul, Nat.reduceBEq, hw]
  generalize hg : lim (headed pure (run L) false _ lp99_1 _ _) _ _ = o
  obtain ⟨x, en, s, rfl, h2⟩ : ∃ x en s, o = some (x, en, s) ∧ (x = .exit 0 ∧ s = st) := by
    rw [← hg]
    refine loop_wp (α := Nat) (fun _ => 0) (fun _ => True) (fun _ => ([(0, .v (.slice none 0 0)), (1, I 0), (2, I 0), (3, cmpF), (8, I 1)], st)) (fun _ x_1 en s => x_1 = .exit 0 ∧ s = st) (fun _ hok => ?_) 0 trivial _ _ (by simp only [go_sem, reduceIte, Nat.reduceEqDiff, Nat.reduceAdd, Nat.reduceSub, Nat.reduceLeDiff, Nat.reduceLT, reduceCtorEq, Int.reduceLT, Int.reduceLE, Int.reduceEq, Int.reduceBEq, Int.reduceSub, Int.reduceAdd, Int.reduceMul, Int.reduceNeg, Int.reduceToNat, Nat.reduceMul, Nat.reduceBEq] <;> rfl)
    simp only [go_sem, reduceIte, Nat.reduceEqDiff, Nat.reduceAdd, Nat.reduceSub, Nat.reduceLeDiff, Nat.reduceLT, reduceCtorEq, Int.reduceLT, Int.reduceLE, Int.reduceEq, Int.reduceBEq, Int.reduceSub, Int.reduceAdd, Int.reduceMul, Int.reduceNeg, Int.reduceToNat, Nat.reduceMul, Nat.reduceBEq, index_rsl_if, setm, make_ints, condK_dec, wantK_dec, not_dec, and_dec, or_dec, seqK_ite, seqK_none, blockK_ite, blockK_none, opsK_ite, opsK_none, stepK_ite, stepK_none, bodyK_ite, bodyK_none, resK_ite, resK_none, leaveK_ite, leaveK_none, only_ite, only_none, bind_ite, gives_some, gives_none, gives_ite, then_normal, then_ret, then_exit, then_none, then_ite, Option.bind_none, Bool.not_eq_true', decide_eq_false_iff_not, Bool.and_eq_true, Bool.or_eq_true, Option.some.injEq, Int.not_lt, Int.not_le, lp99_1]
  clear hg
  obtain ⟨rfl, rfl⟩ := h2
  simp only [go_sem, reduceIte, Nat.reduceEqDiff, Nat.reduceAdd, Nat.reduceSub, Nat.reduceLeDiff, Nat.reduceLT, reduceCtorEq, Int.reduceLT, Int.reduceLE, Int.reduceEq, Int.reduceBEq, Int.reduceSub, Int.reduceAdd, Int.reduceMul, Int.reduceNeg, Int.reduceToNat, Nat.reduceMul, Nat.reduceBEq]
theorem c90n (k : Int) (st : St) : run L 90 [.v (.slice none 0 0), I 0, I 0, I k, cmpF] st = some (.tup [], st) := by
  rw [run_shared (fn := ir90) rfl rfl]
  simp only [ir90, go_sem, reduceIte, Nat.reduceEqDiff, Nat.reduceAdd, Nat.reduceSub, Nat.reduceLeDiff, Nat.reduceLT, reduceCtorEq, Int.reduceLT, Int.reduceLE, Int.reduceEq, Int.reduceBEq, Int.reduceSub, Int.reduceAdd, Int.reduceMul, Int.reduceNeg, Int.reduceToNat, Nat.reduceMul, Nat.reduceBEq]
  generalize hg : lim (headed pure (run L) false _ lp90_0 _ _) _ _ = o
  obtain ⟨x, en, s, rfl, h2⟩ : ∃ x en s, o = some (x, en, s) ∧ (x = .ret ∧ s = st) := by
    rw [← hg]
    refine loop_wp (α := Nat) (fun _ => 0) (fun _ => True) (fun _ => ([(0, .v (.slice none 0 0)), (1, I 0), (2, I 0), (3, I k), (4, cmpF), (10, B true), (11, B true)], st)) (fun _ x_1 en s => x_1 = .ret ∧ s = st) (fun _ hok => ?_) 0 trivial _ _ (by simp only [go_sem, reduceIte, Nat.reduceEqDiff, Nat.reduceAdd, Nat.reduceSub, Nat.reduceLeDiff, Nat.reduceLT, reduceCtorEq, Int.reduceLT, Int.reduceLE, Int.reduceEq, Int.reduceBEq, Int.reduceSub, Int.reduceAdd, Int.reduceMul, Int.reduceNeg, Int.reduceToNat, Nat.reduceMul, Nat.reduceBEq] <;> rfl)
    have hw : IntKind.i64.wrap 0 = 0 := by decide
    have hlt : ((0 : Int) ≤ 12) = True := eq_true (by omega)
    have h99 := c99n
    simp only [go_sem, reduceIte, Nat.reduceEqDiff, Nat.reduceAdd, Nat.reduceSub, Nat.reduceLeDiff, Nat.reduceLT, reduceCtorEq, Int.reduceLT, Int.reduceLE, Int.reduceEq, Int.reduceBEq, Int.reduceSub, Int.reduceAdd, Int.reduceMul, Int.reduceNeg, Int.reduceToNat, Nat.reduceMul, Nat.reduceBEq, index_rsl_if, setm, make_ints, condK_dec, wantK_dec, not_dec, and_dec, or_dec, seqK_ite, seqK_none, blockK_ite, blockK_none, opsK_ite, opsK_none, stepK_ite, stepK_none, bodyK_ite, bodyK_none, resK_ite, resK_none, leaveK_ite, leaveK_none, only_ite, only_none, bind_ite, gives_some, gives_none, gives_ite, then_normal, then_ret, then_exit, then_none, then_ite, Option.bind_none, Bool.not_eq_true', decide_eq_false_iff_not, Bool.and_eq_true, Bool.or_eq_true, Option.some.injEq, Int.not_lt, Int.not_le, lp90_0, hw, hlt, h99, show pure 99 = false from rfl]
  clear hg
  obtain ⟨rfl, rfl⟩ := h2
  simp only [go_sem, reduceIte, Nat.reduceEqDiff, Nat.reduceAdd, Nat.reduceSub, Nat.reduceLeDiff, Nat.reduceLT, reduceCtorEq, Int.reduceLT, Int.reduceLE, Int.reduceEq, Int.reduceBEq, Int.reduceSub, Int.reduceAdd, Int.reduceMul, Int.reduceNeg, Int.reduceToNat, Nat.reduceMul, Nat.reduceBEq]
theorem c54n (st : St) : run L 54 [.v (.slice none 0 0), cmpF] st = some (.tup [], st) := by
  rw [run_shared (fn := ir54) rfl rfl]
  have hw : IntKind.u64.wrap 0 = 0 := by decide
  have h91 := fun st => c91 0 (by omega) st
  have h90 := fun st => c90n (blN 0 : Nat) st
  simp only [Int.natCast_zero] at h91
  simp only [ir54, go_sem, reduceIte, Nat.reduceEqDiff, Nat.reduceAdd, Nat.reduceSub, Nat.reduceLeDiff, Nat.reduceLT, reduceCtorEq, Int.reduceLT, Int.reduceLE, Int.reduceEq, Int.reduceBEq, Int.reduceSub, Int.reduceAdd, Int.reduceMul, Int.reduceNeg, Int.reduceToNat, Nat.reduceMul, Nat.reduceBEq, hw, h91, h90, show pure 90 = false from rfl]

/-! ### all choices -/
/-- All choices of a book that is checked. -/
def chosL (n : Nat) (ps : List (Int × Int)) : List (List Int) := sortL lexLt (kerL (jdg n (seeL 7 ps)) (List.range' 0 (2 ^ n)))
def allV (n : Int) (ps : List (Int × Int)) : List (List Int) := if chk n ps = 0 then chosL n.toNat ps else []
theorem ker12 {n : Nat} {ps : List (Int × Int)} (hn : n ≤ 7) (hps : ∀ p ∈ ps, goodP (n : Int) p) (h7 : ∀ p ∈ ps, okP p) : (kerL (jdg n (seeL 7 ps)) (List.range' 0 (2 ^ n))).length ≤ 12 := by
  have := ker_len hn hps h7 (Nat.le_refl 7)
  unfold kerL; rw [List.length_map]; exact this
theorem kerL_small (f : Nat → Int) (l : List Nat) : ∀ x ∈ kerL f l, x.length ≤ 7 := by
  intro x hx
  unfold kerL at hx
  obtain ⟨m, _, rfl⟩ := List.mem_map.1 hx
  exact memb_len m
theorem frzL2c {a b cs : List AV} (hne : cs ≠ []) (T : List Nat) (env : Env) :
    frzL 2 env ⟨[a, b, cs], T⟩ = (frzEnv 2 cs env, ⟨[frzVs 2 cs a, frzVs 2 cs b, []], T⟩) := by
  cases cs with
  | nil => exact absurd rfl hne
  | cons c cs => rfl
theorem cell1_t (l : List Int) : cell1 (tAV l) = tAV l := by unfold tAV sl; split <;> rfl
theorem frzV_madeT (l : Nat) (X : List (List Int)) (h : X ≠ []) : frzV l (X.map tAV) (.rsl l 0 X.length X.length 1 false) = sl 1 true (X.map tAV) := by
  simp only [frzV, List.length_map, List.drop_zero]
  rw [if_pos ⟨trivial, by omega, .inr trivial, Nat.le_refl _⟩, pubs_map tAV pub_t, groupm_one tAV cell1_t, sl_ne (by simpa using h)]

attribute [local go_sem] shaped_t cells_t isAgg_t storable_t okRef_t pub_t
attribute [local go_sem high] and_one shr_u shl_one or_u and_u

theorem frzVs_W (l : Nat) (cs : List AV) (n : Int) (w : List Nat) : frzVs l cs (webC n w) = webC n w := by
  unfold webC; simp only [frzVs, frzV_v, frzVs_U]
set_option maxHeartbeats 1000000 in
theorem c20 (nl : Bool) (n : Int) (ps : List (Int × Int)) (st : St) : run L 20 [bkAV nl n ps] st = some (.tup [sl 1 true ((allV n ps).map tAV), I (chk n ps)], st) := by
  rw [run_pure (fn := ir20) rfl rfl]
  have h65 := fun st => c65 nl n ps st
  unfold allV
  by_cases h : chk n ps = 0
  · obtain ⟨h1, hl16, h3, h4, h5⟩ := chk_zero h
    obtain ⟨k, rfl⟩ := Int.eq_ofNat_of_zero_le (show 0 ≤ n by omega)
    have hw : wovL (k : Int) ps = seeL 7 ps := by unfold wovL; rw [if_pos h]
    rw [hw] at h65
    rw [if_pos h, Int.toNat_natCast]
    have hlw := lenW (k : Int) (seeL 7 ps)
    rw [seeL_len] at hlw
    have hpw := putW (k : Int) (seeL 7 ps) (seeL_len 7 ps)
    have g0 := getW0 (k : Int) (seeL 7 ps)
    have hsh : sh1 k = 2 ^ k := sh1_eq k (by omega)
    have h12 := ker12 (n := k) (by omega) (fun p hp => h3 p hp) h4
    have hsm7 := kerL_small (jdg k (seeL 7 ps)) (List.range' 0 (2 ^ k))
    unfold chosL
    simp only [ir20, go_sem, reduceIte, Nat.reduceEqDiff, Nat.reduceAdd, Nat.reduceSub, Nat.reduceLeDiff, Nat.reduceLT, reduceCtorEq, Int.reduceLT, Int.reduceLE, Int.reduceEq, Int.reduceBEq, Int.reduceSub, Int.reduceAdd, Int.reduceMul, Int.reduceNeg, Int.reduceToNat, Nat.reduceMul, Nat.reduceBEq, h65, h, hlw, hpw, g0, hsh, pubsW, storableW]
    generalize hg : lim (headed pure (run L) true _ lp20_0 _ _) _ _ = o
    obtain ⟨x, en, s, rfl, h2⟩ : ∃ x en s, o = some (x, en, s) ∧ _ := by rw [← hg]; exact loop20 nl k (by omega) ps (seeL 7 ps) (seeL_len 7 ps) (seeL_small 7 h4) 0 [] ⟨by omega, by simp⟩ _ _ (by simp only [go_sem, reduceIte, Nat.reduceEqDiff, Nat.reduceAdd, Nat.reduceSub, Nat.reduceLeDiff, Nat.reduceLT, reduceCtorEq, Int.reduceLT, Int.reduceLE, Int.reduceEq, Int.reduceBEq, Int.reduceSub, Int.reduceAdd, Int.reduceMul, Int.reduceNeg, Int.reduceToNat, Nat.reduceMul, Nat.reduceBEq, okRefsW, renCellsW, refsL_W, mapLs_W, compact, compactW, refsEnv, refsV, refsL, refsStore, refsAt, mapEnv, mapL, mapLs, newName, posOf, mapStore, pickStore, namesOk, refsV_sl, mapL_sl, List.contains_nil, List.contains_cons, Option.getD_some, hasKey, Int.natCast_zero, show kA [] = .v (.slice none 0 0) from rfl, show kS [] = [] from rfl] <;> rfl)
    clear hg
    rw [List.nil_append, Nat.sub_zero] at h2
    obtain ⟨rfl, e6, rfl⟩ := h2
    generalize kerL (jdg k (seeL 7 ps)) (List.range' 0 (2 ^ k)) = X at *
    by_cases hX : X = []
    · subst hX
      have eA : kA [] = .v (.slice none 0 0) := rfl
      have eS : kS [] = [] := rfl
      have h54 := fun st => c54n st
      simp only [go_sem, reduceIte, Nat.reduceEqDiff, Nat.reduceAdd, Nat.reduceSub, Nat.reduceLeDiff, Nat.reduceLT, reduceCtorEq, Int.reduceLT, Int.reduceLE, Int.reduceEq, Int.reduceBEq, Int.reduceSub, Int.reduceAdd, Int.reduceMul, Int.reduceNeg, Int.reduceToNat, Nat.reduceMul, Nat.reduceBEq, e6, eA, eS, h54, show pure 54 = false from rfl, code_frz, frzAV, frzT, frzLs, rslsOf, frzEnv, frzEnv_get, frzStore, frzVs, frzV_v, frzV_ptr, frzV_sl]
      rfl
    · have eA := kA_ne hX
      have eS := kS_ne hX
      have hpos : 1 ≤ X.length := by
        cases X with
        | nil => exact absurd rfl hX
        | cons x r => simp
      have hperm := (sortL_perm lexLt X).length_eq
      have hneS : sortL lexLt X ≠ [] := by
        intro e
        rw [e] at hperm; simp at hperm; omega
      have h54 := c54 [bkCells nl (k : Int) ps, webC (k : Int) (seeL 7 ps), X.map tAV] [] 2 X rfl hpos h12 (fun l hl => by have := hsm7 l hl; omega)
      have hfz := fun T env => frzL2c (a := bkCells nl (k : Int) ps) (b := webC (k : Int) (seeL 7 ps)) (cs := (sortL lexLt X).map tAV) (by simpa using hneS) T env
      have hfv := frzV_madeT 2 (sortL lexLt X) hneS
      rw [hperm] at hfv
      have hset : [bkCells nl (k : Int) ps, webC (k : Int) (seeL 7 ps), X.map tAV].set 2 ((sortL lexLt X).map tAV) = [bkCells nl (k : Int) ps, webC (k : Int) (seeL 7 ps), (sortL lexLt X).map tAV] := rfl
      rw [hset] at h54
      simp only [go_sem, reduceIte, Nat.reduceEqDiff, Nat.reduceAdd, Nat.reduceSub, Nat.reduceLeDiff, Nat.reduceLT, reduceCtorEq, Int.reduceLT, Int.reduceLE, Int.reduceEq, Int.reduceBEq, Int.reduceSub, Int.reduceAdd, Int.reduceMul, Int.reduceNeg, Int.reduceToNat, Nat.reduceMul, Nat.reduceBEq, e6, eA, eS, h54, show pure 54 = false from rfl, code_frz, frzAV, frzT, frzLs, rslsOf, hfz, frzEnv, frzEnv_get, frzStore, frzVs, frzV_v, frzV_ptr, frzV_sl, hfv, frzVs_W]
  · rw [if_neg h]
    have hl7 : (wovL n ps).length = 7 := by unfold wovL; rw [if_neg h]; simp
    have hlw := lenW n (wovL n ps)
    rw [hl7] at hlw
    have hpw := putW n (wovL n ps) hl7
    simp only [ir20, go_sem, reduceIte, Nat.reduceEqDiff, Nat.reduceAdd, Nat.reduceSub, Nat.reduceLeDiff, Nat.reduceLT, reduceCtorEq, Int.reduceLT, Int.reduceLE, Int.reduceEq, Int.reduceBEq, Int.reduceSub, Int.reduceAdd, Int.reduceMul, Int.reduceNeg, Int.reduceToNat, Nat.reduceMul, Nat.reduceBEq, h65, h, hlw, hpw, pubsW, storableW, show sl 1 true (([] : List (List Int)).map tAV) = .v (.slice none 0 0) from rfl]
    rfl

attribute [local go_sem] shaped_t cells_t isAgg_t storable_t okRef_t pub_t

/-! ### choices, without the program -/
def goodAt (w : List Nat) (m x : Nat) : Bool := (m.testBit x) == decide (w.getD x 0 &&& m = 0)

theorem loop46_0 (nl : Bool) (n : Nat) (hn : 1 ≤ n ∧ n ≤ 7) (ps : List (Int × Int)) (w : List Nat) (ho : w.length = 8) (hsm : ∀ x ∈ w, x < 128) (m : Nat) (hm : m < 128) (X : List (List Int)) (N : Int) (hi : Nat) (lo : Nat) (hlo : lo = 2 + (kS X).length) (x : Nat) (g : Bool) (hok : x ≤ n) (env : Env) (st : St)
    (hg : gcAV true lo hi (canon env [1, 3, 4, 5, 6, 12, 13, 17, 18]) st = ([(1, .ptr 0 0), (3, .ptr 1 0), (4, kA X), (5, J m), (6, B g), (12, I N), (13, J m), (17, I n), (18, I x)], ⟨bkCells nl (n : Int) ps :: w.map J :: kS X, []⟩)) :
    ∃ x_1 en s, lim (headed pure (run L) true [1, 3, 4, 5, 6, 12, 13, 17, 18] lp46_0 lo hi) env st = some (x_1, en, s) ∧ (x_1 = .exit 2 ∧ en.get 1 = .ptr 0 0 ∧ en.get 3 = .ptr 1 0 ∧ en.get 4 = kA X ∧ en.get 5 = J m ∧ en.get 6 = B (g && (List.range' x (n - x)).all (goodAt w m)) ∧ en.get 12 = I N ∧ en.get 13 = J m ∧ en.get 3000000 = .any ∧ s = ⟨bkCells nl (n : Int) ps :: w.map J :: kS X, []⟩) := by
  refine loop_wp (α := Nat × Bool) (fun ⟨x, g⟩ => n - x) (fun ⟨x, g⟩ => x ≤ n) (fun ⟨x, g⟩ => ([(1, .ptr 0 0), (3, .ptr 1 0), (4, kA X), (5, J m), (6, B g), (12, I N), (13, J m), (17, I n), (18, I x)], ⟨bkCells nl (n : Int) ps :: w.map J :: kS X, []⟩)) (fun ⟨x, g⟩ x_1 en s => x_1 = .exit 2 ∧ en.get 1 = .ptr 0 0 ∧ en.get 3 = .ptr 1 0 ∧ en.get 4 = kA X ∧ en.get 5 = J m ∧ en.get 6 = B (g && (List.range' x (n - x)).all (goodAt w m)) ∧ en.get 12 = I N ∧ en.get 13 = J m ∧ en.get 3000000 = .any ∧ s = ⟨bkCells nl (n : Int) ps :: w.map J :: kS X, []⟩) (fun ⟨x, g⟩ hok => ?_) ⟨x, g⟩ hok env st hg
  simp only at hok
  subst hlo
  dsimp only
  have okX : ∀ k, okRef k (kA X) = true ∨ X ≠ [] := fun k => by
    by_cases h : X = []
    · left; subst h; rfl
    · exact .inr h
  by_cases h : x < n
  · have hs := succ64 x (by omega)
    have hlt : ((x : Int) < (n : Int)) = True := eq_true (by omega)
    have hr : List.range' x (n - x) = x :: List.range' (x + 1) (n - (x + 1)) := by
      rw [show n - x = (n - (x + 1)) + 1 by omega, List.range'_succ]
    have g1 := getJ w x (by omega)
    have hgo : goodAt w m x = ((m.testBit x) == decide (w.getD x 0 &&& m = 0)) := rfl
    have hsx := small_getD hsm x
    have q1 := shr_i m x (by omega)
    have q2 := and_one_i (m >>> x) (by have := Nat.shiftRight_le m x; omega)
    have q3 := and_i (w.getD x 0) m (by omega) (by omega)
    have hb := bit_one m x
    have b1 : ((0 : Int) ≤ (x : Int)) = True := eq_true (by omega)
    have b2 : ((x : Int) < 8) = True := eq_true (by omega)
    have b5 : (x + 1 ≤ 8) = True := eq_true (by omega)
    rw [hr, List.all_cons, hgo]
    generalize w.getD x 0 = v at *
    generalize v &&& m = c at *
    have hc : ((c : Int) = 0) = (c = 0) := propext (by omega)
    by_cases hX : X = []
    · subst hX
      have eA : kA [] = .v (.slice none 0 0) := rfl
      have eS : kS [] = [] := rfl
      cases g
      · simp only [go_sem, reduceIte, Nat.reduceEqDiff, Nat.reduceAdd, Nat.reduceSub, Nat.reduceLeDiff, Nat.reduceLT, reduceCtorEq, Int.reduceLT, Int.reduceLE, Int.reduceEq, Int.reduceBEq, Int.reduceSub, Int.reduceAdd, Int.reduceMul, Int.reduceNeg, Int.reduceToNat, Nat.reduceMul, Nat.reduceBEq, index_rsl_if, setm, make_ints, condK_dec, wantK_dec, not_dec, and_dec, or_dec, seqK_ite, seqK_none, blockK_ite, blockK_none, opsK_ite, opsK_none, stepK_ite, stepK_none, bodyK_ite, bodyK_none, resK_ite, resK_none, leaveK_ite, leaveK_none, only_ite, only_none, bind_ite, gives_some, gives_none, gives_ite, then_normal, then_ret, then_exit, then_none, then_ite, Option.bind_none, Bool.not_eq_true', decide_eq_false_iff_not, Bool.and_eq_true, Bool.or_eq_true, Option.some.injEq, Int.not_lt, Int.not_le, lp46_0, hlt, hs, eA, eS]
        refine ⟨(x + 1, false), by simp only [go_sem, reduceIte, Nat.reduceEqDiff, Nat.reduceAdd, Nat.reduceSub, Nat.reduceLeDiff, Nat.reduceLT, reduceCtorEq, Int.reduceLT, Int.reduceLE, Int.reduceEq, Int.reduceBEq, Int.reduceSub, Int.reduceAdd, Int.reduceMul, Int.reduceNeg, Int.reduceToNat, Nat.reduceMul, Nat.reduceBEq, ren1_locm, loc_tips, locT_eq, eA, eS, okRefsJ, renCellsJ, List.length_nil] <;> rfl, ?_, ?_, fun x en s hq => ?_⟩
        · omega
        · omega
        · simpa using hq
      · by_cases p1 : m.testBit x = true
        · by_cases p2 : c = 0
          · simp only [go_sem, reduceIte, Nat.reduceEqDiff, Nat.reduceAdd, Nat.reduceSub, Nat.reduceLeDiff, Nat.reduceLT, reduceCtorEq, Int.reduceLT, Int.reduceLE, Int.reduceEq, Int.reduceBEq, Int.reduceSub, Int.reduceAdd, Int.reduceMul, Int.reduceNeg, Int.reduceToNat, Nat.reduceMul, Nat.reduceBEq, index_rsl_if, setm, make_ints, condK_dec, wantK_dec, not_dec, and_dec, or_dec, seqK_ite, seqK_none, blockK_ite, blockK_none, opsK_ite, opsK_none, stepK_ite, stepK_none, bodyK_ite, bodyK_none, resK_ite, resK_none, leaveK_ite, leaveK_none, only_ite, only_none, bind_ite, gives_some, gives_none, gives_ite, then_normal, then_ret, then_exit, then_none, then_ite, Option.bind_none, Bool.not_eq_true', decide_eq_false_iff_not, Bool.and_eq_true, Bool.or_eq_true, Option.some.injEq, Int.not_lt, Int.not_le, lp46_0, hlt, hs, eA, eS, g1, ho, b1, b2, b5, q1, q2, q3, hb, hc, p1, p2, List.length_map]
            refine ⟨(x + 1, true), by simp only [go_sem, reduceIte, Nat.reduceEqDiff, Nat.reduceAdd, Nat.reduceSub, Nat.reduceLeDiff, Nat.reduceLT, reduceCtorEq, Int.reduceLT, Int.reduceLE, Int.reduceEq, Int.reduceBEq, Int.reduceSub, Int.reduceAdd, Int.reduceMul, Int.reduceNeg, Int.reduceToNat, Nat.reduceMul, Nat.reduceBEq, ren1_locm, loc_tips, locT_eq, eA, eS, okRefsJ, renCellsJ, List.length_nil] <;> rfl, ?_, ?_, fun x en s hq => ?_⟩
            · omega
            · omega
            · simpa [p1, p2] using hq
          · simp only [go_sem, reduceIte, Nat.reduceEqDiff, Nat.reduceAdd, Nat.reduceSub, Nat.reduceLeDiff, Nat.reduceLT, reduceCtorEq, Int.reduceLT, Int.reduceLE, Int.reduceEq, Int.reduceBEq, Int.reduceSub, Int.reduceAdd, Int.reduceMul, Int.reduceNeg, Int.reduceToNat, Nat.reduceMul, Nat.reduceBEq, index_rsl_if, setm, make_ints, condK_dec, wantK_dec, not_dec, and_dec, or_dec, seqK_ite, seqK_none, blockK_ite, blockK_none, opsK_ite, opsK_none, stepK_ite, stepK_none, bodyK_ite, bodyK_none, resK_ite, resK_none, leaveK_ite, leaveK_none, only_ite, only_none, bind_ite, gives_some, gives_none, gives_ite, then_normal, then_ret, then_exit, then_none, then_ite, Option.bind_none, Bool.not_eq_true', decide_eq_false_iff_not, Bool.and_eq_true, Bool.or_eq_true, Option.some.injEq, Int.not_lt, Int.not_le, lp46_0, hlt, hs, eA, eS, g1, ho, b1, b2, b5, q1, q2, q3, hb, hc, p1, p2, List.length_map]
            refine ⟨(x + 1, false), by simp only [go_sem, reduceIte, Nat.reduceEqDiff, Nat.reduceAdd, Nat.reduceSub, Nat.reduceLeDiff, Nat.reduceLT, reduceCtorEq, Int.reduceLT, Int.reduceLE, Int.reduceEq, Int.reduceBEq, Int.reduceSub, Int.reduceAdd, Int.reduceMul, Int.reduceNeg, Int.reduceToNat, Nat.reduceMul, Nat.reduceBEq, ren1_locm, loc_tips, locT_eq, eA, eS, okRefsJ, renCellsJ, List.length_nil] <;> rfl, ?_, ?_, fun x en s hq => ?_⟩
            · omega
            · omega
            · simpa [p1, p2] using hq
        · have p1' : m.testBit x = false := by simpa using p1
          by_cases p2 : c = 0
          · simp only [go_sem, reduceIte, Nat.reduceEqDiff, Nat.reduceAdd, Nat.reduceSub, Nat.reduceLeDiff, Nat.reduceLT, reduceCtorEq, Int.reduceLT, Int.reduceLE, Int.reduceEq, Int.reduceBEq, Int.reduceSub, Int.reduceAdd, Int.reduceMul, Int.reduceNeg, Int.reduceToNat, Nat.reduceMul, Nat.reduceBEq, index_rsl_if, setm, make_ints, condK_dec, wantK_dec, not_dec, and_dec, or_dec, seqK_ite, seqK_none, blockK_ite, blockK_none, opsK_ite, opsK_none, stepK_ite, stepK_none, bodyK_ite, bodyK_none, resK_ite, resK_none, leaveK_ite, leaveK_none, only_ite, only_none, bind_ite, gives_some, gives_none, gives_ite, then_normal, then_ret, then_exit, then_none, then_ite, Option.bind_none, Bool.not_eq_true', decide_eq_false_iff_not, Bool.and_eq_true, Bool.or_eq_true, Option.some.injEq, Int.not_lt, Int.not_le, lp46_0, hlt, hs, eA, eS, g1, ho, b1, b2, b5, q1, q2, q3, hb, hc, p1', p2, List.length_map]
            refine ⟨(x + 1, false), by simp only [go_sem, reduceIte, Nat.reduceEqDiff, Nat.reduceAdd, Nat.reduceSub, Nat.reduceLeDiff, Nat.reduceLT, reduceCtorEq, Int.reduceLT, Int.reduceLE, Int.reduceEq, Int.reduceBEq, Int.reduceSub, Int.reduceAdd, Int.reduceMul, Int.reduceNeg, Int.reduceToNat, Nat.reduceMul, Nat.reduceBEq, ren1_locm, loc_tips, locT_eq, eA, eS, okRefsJ, renCellsJ, List.length_nil] <;> rfl, ?_, ?_, fun x en s hq => ?_⟩
            · omega
            · omega
            · simpa [p1', p2] using hq
          · simp only [go_sem, reduceIte, Nat.reduceEqDiff, Nat.reduceAdd, Nat.reduceSub, Nat.reduceLeDiff, Nat.reduceLT, reduceCtorEq, Int.reduceLT, Int.reduceLE, Int.reduceEq, Int.reduceBEq, Int.reduceSub, Int.reduceAdd, Int.reduceMul, Int.reduceNeg, Int.reduceToNat, Nat.reduceMul, Nat.reduceBEq, index_rsl_if, setm, make_ints, condK_dec, wantK_dec, not_dec, and_dec, or_dec, seqK_ite, seqK_none, blockK_ite, blockK_none, opsK_ite, opsK_none, stepK_ite, stepK_none, bodyK_ite, bodyK_none, resK_ite, resK_none, leaveK_ite, leaveK_none, only_ite, only_none, bind_ite, gives_some, gives_none, gives_ite, then_normal, then_ret, then_exit, then_none, then_ite, Option.bind_none, Bool.not_eq_true', decide_eq_false_iff_not, Bool.and_eq_true, Bool.or_eq_true, Option.some.injEq, Int.not_lt, Int.not_le, lp46_0, hlt, hs, eA, eS, g1, ho, b1, b2, b5, q1, q2, q3, hb, hc, p1', p2, List.length_map]
            refine ⟨(x + 1, true), by simp only [go_sem, reduceIte, Nat.reduceEqDiff, Nat.reduceAdd, Nat.reduceSub, Nat.reduceLeDiff, Nat.reduceLT, reduceCtorEq, Int.reduceLT, Int.reduceLE, Int.reduceEq, Int.reduceBEq, Int.reduceSub, Int.reduceAdd, Int.reduceMul, Int.reduceNeg, Int.reduceToNat, Nat.reduceMul, Nat.reduceBEq, ren1_locm, loc_tips, locT_eq, eA, eS, okRefsJ, renCellsJ, List.length_nil] <;> rfl, ?_, ?_, fun x en s hq => ?_⟩
            · omega
            · omega
            · simpa [p1', p2] using hq
    · have eA := kA_ne hX
      have eS := kS_ne hX
      cases g
      · simp only [go_sem, reduceIte, Nat.reduceEqDiff, Nat.reduceAdd, Nat.reduceSub, Nat.reduceLeDiff, Nat.reduceLT, reduceCtorEq, Int.reduceLT, Int.reduceLE, Int.reduceEq, Int.reduceBEq, Int.reduceSub, Int.reduceAdd, Int.reduceMul, Int.reduceNeg, Int.reduceToNat, Nat.reduceMul, Nat.reduceBEq, index_rsl_if, setm, make_ints, condK_dec, wantK_dec, not_dec, and_dec, or_dec, seqK_ite, seqK_none, blockK_ite, blockK_none, opsK_ite, opsK_none, stepK_ite, stepK_none, bodyK_ite, bodyK_none, resK_ite, resK_none, leaveK_ite, leaveK_none, only_ite, only_none, bind_ite, gives_some, gives_none, gives_ite, then_normal, then_ret, then_exit, then_none, then_ite, Option.bind_none, Bool.not_eq_true', decide_eq_false_iff_not, Bool.and_eq_true, Bool.or_eq_true, Option.some.injEq, Int.not_lt, Int.not_le, lp46_0, hlt, hs, eA, eS]
        refine ⟨(x + 1, false), by simp only [go_sem, reduceIte, Nat.reduceEqDiff, Nat.reduceAdd, Nat.reduceSub, Nat.reduceLeDiff, Nat.reduceLT, reduceCtorEq, Int.reduceLT, Int.reduceLE, Int.reduceEq, Int.reduceBEq, Int.reduceSub, Int.reduceAdd, Int.reduceMul, Int.reduceNeg, Int.reduceToNat, Nat.reduceMul, Nat.reduceBEq, ren1_locm, loc_tips, locT_eq, eA, eS, okRefsJ, renCellsJ, okRefsT, renCellsT, List.length_cons, List.length_nil] <;> rfl, ?_, ?_, fun x en s hq => ?_⟩
        · omega
        · omega
        · simpa using hq
      · by_cases p1 : m.testBit x = true
        · by_cases p2 : c = 0
          · simp only [go_sem, reduceIte, Nat.reduceEqDiff, Nat.reduceAdd, Nat.reduceSub, Nat.reduceLeDiff, Nat.reduceLT, reduceCtorEq, Int.reduceLT, Int.reduceLE, Int.reduceEq, Int.reduceBEq, Int.reduceSub, Int.reduceAdd, Int.reduceMul, Int.reduceNeg, Int.reduceToNat, Nat.reduceMul, Nat.reduceBEq, index_rsl_if, setm, make_ints, condK_dec, wantK_dec, not_dec, and_dec, or_dec, seqK_ite, seqK_none, blockK_ite, blockK_none, opsK_ite, opsK_none, stepK_ite, stepK_none, bodyK_ite, bodyK_none, resK_ite, resK_none, leaveK_ite, leaveK_none, only_ite, only_none, bind_ite, gives_some, gives_none, gives_ite, then_normal, then_ret, then_exit, then_none, then_ite, Option.bind_none, Bool.not_eq_true', decide_eq_false_iff_not, Bool.and_eq_true, Bool.or_eq_true, Option.some.injEq, Int.not_lt, Int.not_le, lp46_0, hlt, hs, eA, eS, g1, ho, b1, b2, b5, q1, q2, q3, hb, hc, p1, p2, List.length_map]
            refine ⟨(x + 1, true), by simp only [go_sem, reduceIte, Nat.reduceEqDiff, Nat.reduceAdd, Nat.reduceSub, Nat.reduceLeDiff, Nat.reduceLT, reduceCtorEq, Int.reduceLT, Int.reduceLE, Int.reduceEq, Int.reduceBEq, Int.reduceSub, Int.reduceAdd, Int.reduceMul, Int.reduceNeg, Int.reduceToNat, Nat.reduceMul, Nat.reduceBEq, ren1_locm, loc_tips, locT_eq, eA, eS, okRefsJ, renCellsJ, okRefsT, renCellsT, List.length_cons, List.length_nil] <;> rfl, ?_, ?_, fun x en s hq => ?_⟩
            · omega
            · omega
            · simpa [p1, p2] using hq
          · simp only [go_sem, reduceIte, Nat.reduceEqDiff, Nat.reduceAdd, Nat.reduceSub, Nat.reduceLeDiff, Nat.reduceLT, reduceCtorEq, Int.reduceLT, Int.reduceLE, Int.reduceEq, Int.reduceBEq, Int.reduceSub, Int.reduceAdd, Int.reduceMul, Int.reduceNeg, Int.reduceToNat, Nat.reduceMul, Nat.reduceBEq, index_rsl_if, setm, make_ints, condK_dec, wantK_dec, not_dec, and_dec, or_dec, seqK_ite, seqK_none, blockK_ite, blockK_none, opsK_ite, opsK_none, stepK_ite, stepK_none, bodyK_ite, bodyK_none, resK_ite, resK_none, leaveK_ite, leaveK_none, only_ite, only_none, bind_ite, gives_some, gives_none, gives_ite, then_normal, then_ret, then_exit, then_none, then_ite, Option.bind_none, Bool.not_eq_true', decide_eq_false_iff_not, Bool.and_eq_true, Bool.or_eq_true, Option.some.injEq, Int.not_lt, Int.not_le, lp46_0, hlt, hs, eA, eS, g1, ho, b1, b2, b5, q1, q2, q3, hb, hc, p1, p2, List.length_map]
            refine ⟨(x + 1, false), by simp only [go_sem, reduceIte, Nat.reduceEqDiff, Nat.reduceAdd, Nat.reduceSub, Nat.reduceLeDiff, Nat.reduceLT, reduceCtorEq, Int.reduceLT, Int.reduceLE, Int.reduceEq, Int.reduceBEq, Int.reduceSub, Int.reduceAdd, Int.reduceMul, Int.reduceNeg, Int.reduceToNat, Nat.reduceMul, Nat.reduceBEq, ren1_locm, loc_tips, locT_eq, eA, eS, okRefsJ, renCellsJ, okRefsT, renCellsT, List.length_cons, List.length_nil] <;> rfl, ?_, ?_, fun x en s hq => ?_⟩
            · omega
            · omega
            · simpa [p1, p2] using hq
        · have p1' : m.testBit x = false := by simpa using p1
          by_cases p2 : c = 0
          · simp only [go_sem, reduceIte, Nat.reduceEqDiff, Nat.reduceAdd, Nat.reduceSub, Nat.reduceLeDiff, Nat.reduceLT, reduceCtorEq, Int.reduceLT, Int.reduceLE, Int.reduceEq, Int.reduceBEq, Int.reduceSub, Int.reduceAdd, Int.reduceMul, Int.reduceNeg, Int.reduceToNat, Nat.reduceMul, Nat.reduceBEq, index_rsl_if, setm, make_ints, condK_dec, wantK_dec, not_dec, and_dec, or_dec, seqK_ite, seqK_none, blockK_ite, blockK_none, opsK_ite, opsK_none, stepK_ite, stepK_none, bodyK_ite, bodyK_none, resK_ite, resK_none, leaveK_ite, leaveK_none, only_ite, only_none, bind_ite, gives_some, gives_none, gives_ite, then_normal, then_ret, then_exit, then_none, then_ite, Option.bind_none, Bool.not_eq_true', decide_eq_false_iff_not, Bool.and_eq_true, Bool.or_eq_true, Option.some.injEq, Int.not_lt, Int.not_le, lp46_0, hlt, hs, eA, eS, g1, ho, b1, b2, b5, q1, q2, q3, hb, hc, p1', p2, List.length_map]
            refine ⟨(x + 1, false), by simp only [go_sem, reduceIte, Nat.reduceEqDiff, Nat.reduceAdd, Nat.reduceSub, Nat.reduceLeDiff, Nat.reduceLT, reduceCtorEq, Int.reduceLT, Int.reduceLE, Int.reduceEq, Int.reduceBEq, Int.reduceSub, Int.reduceAdd, Int.reduceMul, Int.reduceNeg, Int.reduceToNat, Nat.reduceMul, Nat.reduceBEq, ren1_locm, loc_tips, locT_eq, eA, eS, okRefsJ, renCellsJ, okRefsT, renCellsT, List.length_cons, List.length_nil] <;> rfl, ?_, ?_, fun x en s hq => ?_⟩
            · omega
            · omega
            · simpa [p1', p2] using hq
          · simp only [go_sem, reduceIte, Nat.reduceEqDiff, Nat.reduceAdd, Nat.reduceSub, Nat.reduceLeDiff, Nat.reduceLT, reduceCtorEq, Int.reduceLT, Int.reduceLE, Int.reduceEq, Int.reduceBEq, Int.reduceSub, Int.reduceAdd, Int.reduceMul, Int.reduceNeg, Int.reduceToNat, Nat.reduceMul, Nat.reduceBEq, index_rsl_if, setm, make_ints, condK_dec, wantK_dec, not_dec, and_dec, or_dec, seqK_ite, seqK_none, blockK_ite, blockK_none, opsK_ite, opsK_none, stepK_ite, stepK_none, bodyK_ite, bodyK_none, resK_ite, resK_none, leaveK_ite, leaveK_none, only_ite, only_none, bind_ite, gives_some, gives_none, gives_ite, then_normal, then_ret, then_exit, then_none, then_ite, Option.bind_none, Bool.not_eq_true', decide_eq_false_iff_not, Bool.and_eq_true, Bool.or_eq_true, Option.some.injEq, Int.not_lt, Int.not_le, lp46_0, hlt, hs, eA, eS, g1, ho, b1, b2, b5, q1, q2, q3, hb, hc, p1', p2, List.length_map]
            refine ⟨(x + 1, true), by simp only [go_sem, reduceIte, Nat.reduceEqDiff, Nat.reduceAdd, Nat.reduceSub, Nat.reduceLeDiff, Nat.reduceLT, reduceCtorEq, Int.reduceLT, Int.reduceLE, Int.reduceEq, Int.reduceBEq, Int.reduceSub, Int.reduceAdd, Int.reduceMul, Int.reduceNeg, Int.reduceToNat, Nat.reduceMul, Nat.reduceBEq, ren1_locm, loc_tips, locT_eq, eA, eS, okRefsJ, renCellsJ, okRefsT, renCellsT, List.length_cons, List.length_nil] <;> rfl, ?_, ?_, fun x en s hq => ?_⟩
            · omega
            · omega
            · simpa [p1', p2] using hq
  · have hr : n - x = 0 := by omega
    have hlt : ((x : Int) < (n : Int)) = False := eq_false (by omega)
    rw [hr]
    simp only [go_sem, reduceIte, Nat.reduceEqDiff, Nat.reduceAdd, Nat.reduceSub, Nat.reduceLeDiff, Nat.reduceLT, reduceCtorEq, Int.reduceLT, Int.reduceLE, Int.reduceEq, Int.reduceBEq, Int.reduceSub, Int.reduceAdd, Int.reduceMul, Int.reduceNeg, Int.reduceToNat, Nat.reduceMul, Nat.reduceBEq, index_rsl_if, setm, make_ints, condK_dec, wantK_dec, not_dec, and_dec, or_dec, seqK_ite, seqK_none, blockK_ite, blockK_none, opsK_ite, opsK_none, stepK_ite, stepK_none, bodyK_ite, bodyK_none, resK_ite, resK_none, leaveK_ite, leaveK_none, only_ite, only_none, bind_ite, gives_some, gives_none, gives_ite, then_normal, then_ret, then_exit, then_none, then_ite, Option.bind_none, Bool.not_eq_true', decide_eq_false_iff_not, Bool.and_eq_true, Bool.or_eq_true, Option.some.injEq, Int.not_lt, Int.not_le, lp46_0, hlt]
    simp

attribute [local go_sem] shaped_t cells_t isAgg_t storable_t okRef_t pub_t

theorem good_jdg (n : Nat) (w : List Nat) (m : Nat) : (List.range' 0 n).all (goodAt w m) = decide (jdg n w m = 0) := by
  rw [Bool.eq_iff_iff, decide_eq_true_iff, jdg_zero, List.all_eq_true]
  constructor
  · intro h x hx
    have := h x (by rw [List.mem_range'_1]; omega)
    unfold goodAt at this
    rw [beq_iff_eq] at this
    rw [this, decide_eq_true_iff]
  · intro h x hx
    rw [List.mem_range'_1] at hx
    unfold goodAt
    rw [beq_iff_eq, Bool.eq_iff_iff, decide_eq_true_iff]
    exact h x (by omega)

set_option maxHeartbeats 2000000 in
theorem loop46_1 (nl : Bool) (n : Nat) (hn : 1 ≤ n ∧ n ≤ 7) (ps : List (Int × Int)) (w : List Nat) (ho : w.length = 8) (hsm : ∀ x ∈ w, x < 128) (m : Nat) (X : List (List Int)) (hok : m ≤ 2 ^ n ∧ X.length ≤ m) (env : Env) (st : St)
    (hg : gcAV true 2 0 (canon env [1, 3, 4, 12, 13, 3000000]) st = ([(1, .ptr 0 0), (3, .ptr 1 0), (4, kA X), (12, I ((2 ^ n : Nat) : Int)), (13, J m), (3000000, .any)], ⟨bkCells nl (n : Int) ps :: w.map J :: kS X, []⟩)) :
    ∃ x_1 en s, lim (headed pure (run L) true [1, 3, 4, 12, 13, 3000000] lp46_1 2 0) env st = some (x_1, en, s) ∧ (x_1 = .exit 0 ∧ en.get 4 = kA (X ++ kerL (jdg n w) (List.range' m (2 ^ n - m))) ∧ s = ⟨bkCells nl (n : Int) ps :: w.map J :: kS (X ++ kerL (jdg n w) (List.range' m (2 ^ n - m))), []⟩) := by
  refine loop_wp (α := Nat × List (List Int)) (fun ⟨m, X⟩ => 2 ^ n - m) (fun ⟨m, X⟩ => m ≤ 2 ^ n ∧ X.length ≤ m) (fun ⟨m, X⟩ => ([(1, .ptr 0 0), (3, .ptr 1 0), (4, kA X), (12, I ((2 ^ n : Nat) : Int)), (13, J m), (3000000, .any)], ⟨bkCells nl (n : Int) ps :: w.map J :: kS X, []⟩)) (fun ⟨m, X⟩ x_1 en s => x_1 = .exit 0 ∧ en.get 4 = kA (X ++ kerL (jdg n w) (List.range' m (2 ^ n - m))) ∧ s = ⟨bkCells nl (n : Int) ps :: w.map J :: kS (X ++ kerL (jdg n w) (List.range' m (2 ^ n - m))), []⟩) (fun ⟨m, X⟩ hok => ?_) ⟨m, X⟩ hok env st hg
  simp only at hok
  obtain ⟨h1, h2⟩ := hok
  dsimp only at h1 h2 ⊢
  have h128 : 2 ^ n ≤ 128 := Nat.le_trans (Nat.pow_le_pow_right (by omega) hn.2) (by decide)
  generalize 2 ^ n = N at *
  by_cases h : m < N
  · have hs := succ64 m (by omega)
    have hlt : ((m : Int) < (N : Int)) = True := eq_true (by omega)
    have hr : List.range' m (N - m) = m :: List.range' (m + 1) (N - (m + 1)) := by
      rw [show N - m = (N - (m + 1)) + 1 by omega, List.range'_succ]
    have h51 : ∀ st, run L 51 [J m] st = some (tAV (memb m), st) := fun st => c51 m (by omega) st
    have hN := fun S => happ_nil (memb m) S
    have hgj := good_jdg n w m
    rw [hr, kerL_cons]
    by_cases hX : X = []
    · subst hX
      have eA : kA [] = .v (.slice none 0 0) := rfl
      have eS : kS [] = [] := rfl
      simp only [go_sem, reduceIte, Nat.reduceEqDiff, Nat.reduceAdd, Nat.reduceSub, Nat.reduceLeDiff, Nat.reduceLT, reduceCtorEq, Int.reduceLT, Int.reduceLE, Int.reduceEq, Int.reduceBEq, Int.reduceSub, Int.reduceAdd, Int.reduceMul, Int.reduceNeg, Int.reduceToNat, Nat.reduceMul, Nat.reduceBEq, index_rsl_if, setm, make_ints, condK_dec, wantK_dec, not_dec, and_dec, or_dec, seqK_ite, seqK_none, blockK_ite, blockK_none, opsK_ite, opsK_none, stepK_ite, stepK_none, bodyK_ite, bodyK_none, resK_ite, resK_none, leaveK_ite, leaveK_none, only_ite, only_none, bind_ite, gives_some, gives_none, gives_ite, then_normal, then_ret, then_exit, then_none, then_ite, Option.bind_none, Bool.not_eq_true', decide_eq_false_iff_not, Bool.and_eq_true, Bool.or_eq_true, Option.some.injEq, Int.not_lt, Int.not_le, lp46_1, hlt, hs, eA, eS]
      generalize hg : lim (headed pure (run L) true _ lp46_0 _ _) _ _ = o
      obtain ⟨x, en, s, rfl, h2⟩ : ∃ x en s, o = some (x, en, s) ∧ _ := by rw [← hg]; exact loop46_0 nl n hn ps w ho hsm m (by omega) [] (N : Int) 0 2 rfl 0 true (by omega) _ _ (by simp only [go_sem, reduceIte, Nat.reduceEqDiff, Nat.reduceAdd, Nat.reduceSub, Nat.reduceLeDiff, Nat.reduceLT, reduceCtorEq, Int.reduceLT, Int.reduceLE, Int.reduceEq, Int.reduceBEq, Int.reduceSub, Int.reduceAdd, Int.reduceMul, Int.reduceNeg, Int.reduceToNat, Nat.reduceMul, Nat.reduceBEq, eA, eS, okRefsJ, renCellsJ, List.length_nil, Int.natCast_zero] <;> rfl)
      clear hg
      rw [Nat.sub_zero, hgj, Bool.true_and] at h2
      obtain ⟨rfl, e1, e3, e4, e5, e6, e12, e13, e30, rfl⟩ := h2
      by_cases he : jdg n w m = 0
      · rw [if_pos he]
        rw [decide_eq_true he] at e6
        generalize memb m = l at *
        simp only [go_sem, reduceIte, Nat.reduceEqDiff, Nat.reduceAdd, Nat.reduceSub, Nat.reduceLeDiff, Nat.reduceLT, reduceCtorEq, Int.reduceLT, Int.reduceLE, Int.reduceEq, Int.reduceBEq, Int.reduceSub, Int.reduceAdd, Int.reduceMul, Int.reduceNeg, Int.reduceToNat, Nat.reduceMul, Nat.reduceBEq, index_rsl_if, setm, make_ints, condK_dec, wantK_dec, not_dec, and_dec, or_dec, seqK_ite, seqK_none, blockK_ite, blockK_none, opsK_ite, opsK_none, stepK_ite, stepK_none, bodyK_ite, bodyK_none, resK_ite, resK_none, leaveK_ite, leaveK_none, only_ite, only_none, bind_ite, gives_some, gives_none, gives_ite, then_normal, then_ret, then_exit, then_none, then_ite, Option.bind_none, Bool.not_eq_true', decide_eq_false_iff_not, Bool.and_eq_true, Bool.or_eq_true, Option.some.injEq, Int.not_lt, Int.not_le, lp46_1, hs, e1, e3, e4, e5, e6, e12, e13, eA, eS, h51, hN]
        refine ⟨(m + 1, [l]), by simp only [go_sem, reduceIte, Nat.reduceEqDiff, Nat.reduceAdd, Nat.reduceSub, Nat.reduceLeDiff, Nat.reduceLT, reduceCtorEq, Int.reduceLT, Int.reduceLE, Int.reduceEq, Int.reduceBEq, Int.reduceSub, Int.reduceAdd, Int.reduceMul, Int.reduceNeg, Int.reduceToNat, Nat.reduceMul, Nat.reduceBEq, ren1_locm, loc_tips, locT_eq, e1, e3, e4, e5, e6, e12, e13, e30, kA_one, kS_one, eA, eS, okRefsT, renCellsT, okRefsJ, renCellsJ, refsL_J, mapLs_J, compact, compactW, refsEnv, refsV, refsL, refsStore, refsAt, mapEnv, mapL, mapLs, newName, posOf, mapStore, pickStore, namesOk, refsV_sl, mapL_sl, refsL_T, mapLs_T, refsV_t, mapL_t, ren1_t, List.contains_nil, List.contains_cons, Option.getD_some, hasKey] <;> rfl, ?_, ?_, fun x en s hq => ?_⟩
        · dsimp only; exact ⟨by omega, by simp⟩
        · dsimp only; omega
        · exact hq
      · rw [if_neg he]
        rw [decide_eq_false he] at e6
        simp only [go_sem, reduceIte, Nat.reduceEqDiff, Nat.reduceAdd, Nat.reduceSub, Nat.reduceLeDiff, Nat.reduceLT, reduceCtorEq, Int.reduceLT, Int.reduceLE, Int.reduceEq, Int.reduceBEq, Int.reduceSub, Int.reduceAdd, Int.reduceMul, Int.reduceNeg, Int.reduceToNat, Nat.reduceMul, Nat.reduceBEq, index_rsl_if, setm, make_ints, condK_dec, wantK_dec, not_dec, and_dec, or_dec, seqK_ite, seqK_none, blockK_ite, blockK_none, opsK_ite, opsK_none, stepK_ite, stepK_none, bodyK_ite, bodyK_none, resK_ite, resK_none, leaveK_ite, leaveK_none, only_ite, only_none, bind_ite, gives_some, gives_none, gives_ite, then_normal, then_ret, then_exit, then_none, then_ite, Option.bind_none, Bool.not_eq_true', decide_eq_false_iff_not, Bool.and_eq_true, Bool.or_eq_true, Option.some.injEq, Int.not_lt, Int.not_le, lp46_1, hs, e1, e3, e4, e5, e6, e12, e13, eA, eS]
        refine ⟨(m + 1, ([] : List (List Int))), by simp only [go_sem, reduceIte, Nat.reduceEqDiff, Nat.reduceAdd, Nat.reduceSub, Nat.reduceLeDiff, Nat.reduceLT, reduceCtorEq, Int.reduceLT, Int.reduceLE, Int.reduceEq, Int.reduceBEq, Int.reduceSub, Int.reduceAdd, Int.reduceMul, Int.reduceNeg, Int.reduceToNat, Nat.reduceMul, Nat.reduceBEq, ren1_locm, loc_tips, locT_eq, e1, e3, e4, e5, e6, e12, e13, e30, eA, eS, okRefsT, renCellsT, okRefsJ, renCellsJ, refsL_J, mapLs_J, compact, compactW, refsEnv, refsV, refsL, refsStore, refsAt, mapEnv, mapL, mapLs, newName, posOf, mapStore, pickStore, namesOk, refsV_sl, mapL_sl, refsL_T, mapLs_T, refsV_t, mapL_t, ren1_t, List.contains_nil, List.contains_cons, Option.getD_some, hasKey] <;> rfl, ?_, ?_, fun x en s hq => ?_⟩
        · dsimp only; exact ⟨by omega, by simp⟩
        · dsimp only; omega
        · exact hq
    · have eA := kA_ne hX
      have eS := kS_ne hX
      have hpos : 1 ≤ X.length := by
        cases X with
        | nil => exact absurd rfl hX
        | cons x r => simp
      simp only [go_sem, reduceIte, Nat.reduceEqDiff, Nat.reduceAdd, Nat.reduceSub, Nat.reduceLeDiff, Nat.reduceLT, reduceCtorEq, Int.reduceLT, Int.reduceLE, Int.reduceEq, Int.reduceBEq, Int.reduceSub, Int.reduceAdd, Int.reduceMul, Int.reduceNeg, Int.reduceToNat, Nat.reduceMul, Nat.reduceBEq, index_rsl_if, setm, make_ints, condK_dec, wantK_dec, not_dec, and_dec, or_dec, seqK_ite, seqK_none, blockK_ite, blockK_none, opsK_ite, opsK_none, stepK_ite, stepK_none, bodyK_ite, bodyK_none, resK_ite, resK_none, leaveK_ite, leaveK_none, only_ite, only_none, bind_ite, gives_some, gives_none, gives_ite, then_normal, then_ret, then_exit, then_none, then_ite, Option.bind_none, Bool.not_eq_true', decide_eq_false_iff_not, Bool.and_eq_true, Bool.or_eq_true, Option.some.injEq, Int.not_lt, Int.not_le, lp46_1, hlt, hs, eA, eS]
      generalize hg : lim (headed pure (run L) true _ lp46_0 _ _) _ _ = o
      obtain ⟨x, en, s, rfl, h2⟩ : ∃ x en s, o = some (x, en, s) ∧ _ := by rw [← hg]; exact loop46_0 nl n hn ps w ho hsm m (by omega) X (N : Int) 0 3 (by rw [eS]; rfl) 0 true (by omega) _ _ (by simp only [go_sem, reduceIte, Nat.reduceEqDiff, Nat.reduceAdd, Nat.reduceSub, Nat.reduceLeDiff, Nat.reduceLT, reduceCtorEq, Int.reduceLT, Int.reduceLE, Int.reduceEq, Int.reduceBEq, Int.reduceSub, Int.reduceAdd, Int.reduceMul, Int.reduceNeg, Int.reduceToNat, Nat.reduceMul, Nat.reduceBEq, eA, eS, okRefsJ, renCellsJ, okRefsT, renCellsT, List.length_cons, List.length_nil, Int.natCast_zero] <;> rfl)
      clear hg
      rw [Nat.sub_zero, hgj, Bool.true_and] at h2
      obtain ⟨rfl, e1, e3, e4, e5, e6, e12, e13, e30, rfl⟩ := h2
      by_cases he : jdg n w m = 0
      · rw [if_pos he]
        rw [decide_eq_true he] at e6
        have hA := happ_at (bkCells nl (n : Int) ps) (w.map J) X (memb m) hpos (by omega)
        generalize memb m = l at *
        simp only [go_sem, reduceIte, Nat.reduceEqDiff, Nat.reduceAdd, Nat.reduceSub, Nat.reduceLeDiff, Nat.reduceLT, reduceCtorEq, Int.reduceLT, Int.reduceLE, Int.reduceEq, Int.reduceBEq, Int.reduceSub, Int.reduceAdd, Int.reduceMul, Int.reduceNeg, Int.reduceToNat, Nat.reduceMul, Nat.reduceBEq, index_rsl_if, setm, make_ints, condK_dec, wantK_dec, not_dec, and_dec, or_dec, seqK_ite, seqK_none, blockK_ite, blockK_none, opsK_ite, opsK_none, stepK_ite, stepK_none, bodyK_ite, bodyK_none, resK_ite, resK_none, leaveK_ite, leaveK_none, only_ite, only_none, bind_ite, gives_some, gives_none, gives_ite, then_normal, then_ret, then_exit, then_none, then_ite, Option.bind_none, Bool.not_eq_true', decide_eq_false_iff_not, Bool.and_eq_true, Bool.or_eq_true, Option.some.injEq, Int.not_lt, Int.not_le, lp46_1, hs, e1, e3, e4, e5, e6, e12, e13, eA, eS, h51, hA]
        refine ⟨(m + 1, X ++ [l]), by simp only [go_sem, reduceIte, Nat.reduceEqDiff, Nat.reduceAdd, Nat.reduceSub, Nat.reduceLeDiff, Nat.reduceLT, reduceCtorEq, Int.reduceLT, Int.reduceLE, Int.reduceEq, Int.reduceBEq, Int.reduceSub, Int.reduceAdd, Int.reduceMul, Int.reduceNeg, Int.reduceToNat, Nat.reduceMul, Nat.reduceBEq, ren1_locm, loc_tips, locT_eq, e1, e3, e4, e5, e6, e12, e13, e30, kA_snoc, kS_snoc, eA, eS, okRefsT, renCellsT, okRefsJ, renCellsJ, refsL_J, mapLs_J, compact, compactW, refsEnv, refsV, refsL, refsStore, refsAt, mapEnv, mapL, mapLs, newName, posOf, mapStore, pickStore, namesOk, refsV_sl, mapL_sl, refsL_T, mapLs_T, refsV_t, mapL_t, ren1_t, List.contains_nil, List.contains_cons, Option.getD_some, hasKey] <;> rfl, ?_, ?_, fun x en s hq => ?_⟩
        · dsimp only; exact ⟨by omega, by simp; omega⟩
        · dsimp only; omega
        · simp only [List.append_assoc] at hq; exact hq
      · rw [if_neg he]
        rw [decide_eq_false he] at e6
        simp only [go_sem, reduceIte, Nat.reduceEqDiff, Nat.reduceAdd, Nat.reduceSub, Nat.reduceLeDiff, Nat.reduceLT, reduceCtorEq, Int.reduceLT, Int.reduceLE, Int.reduceEq, Int.reduceBEq, Int.reduceSub, Int.reduceAdd, Int.reduceMul, Int.reduceNeg, Int.reduceToNat, Nat.reduceMul, Nat.reduceBEq, index_rsl_if, setm, make_ints, condK_dec, wantK_dec, not_dec, and_dec, or_dec, seqK_ite, seqK_none, blockK_ite, blockK_none, opsK_ite, opsK_none, stepK_ite, stepK_none, bodyK_ite, bodyK_none, resK_ite, resK_none, leaveK_ite, leaveK_none, only_ite, only_none, bind_ite, gives_some, gives_none, gives_ite, then_normal, then_ret, then_exit, then_none, then_ite, Option.bind_none, Bool.not_eq_true', decide_eq_false_iff_not, Bool.and_eq_true, Bool.or_eq_true, Option.some.injEq, Int.not_lt, Int.not_le, lp46_1, hs, e1, e3, e4, e5, e6, e12, e13, eA, eS]
        refine ⟨(m + 1, X), by simp only [go_sem, reduceIte, Nat.reduceEqDiff, Nat.reduceAdd, Nat.reduceSub, Nat.reduceLeDiff, Nat.reduceLT, reduceCtorEq, Int.reduceLT, Int.reduceLE, Int.reduceEq, Int.reduceBEq, Int.reduceSub, Int.reduceAdd, Int.reduceMul, Int.reduceNeg, Int.reduceToNat, Nat.reduceMul, Nat.reduceBEq, ren1_locm, loc_tips, locT_eq, e1, e3, e4, e5, e6, e12, e13, e30, eA, eS, okRefsT, renCellsT, okRefsJ, renCellsJ, refsL_J, mapLs_J, compact, compactW, refsEnv, refsV, refsL, refsStore, refsAt, mapEnv, mapL, mapLs, newName, posOf, mapStore, pickStore, namesOk, refsV_sl, mapL_sl, refsL_T, mapLs_T, refsV_t, mapL_t, ren1_t, List.contains_nil, List.contains_cons, Option.getD_some, hasKey] <;> rfl, ?_, ?_, fun x en s hq => ?_⟩
        · dsimp only; exact ⟨by omega, by omega⟩
        · dsimp only; omega
        · exact hq
  · have hr : N - m = 0 := by omega
    have hlt : ((m : Int) < (N : Int)) = False := eq_false (by omega)
    rw [hr]
    have e : X ++ kerL (jdg n w) (List.range' m 0) = X := by simp [kerL]
    simp only [go_sem, reduceIte, Nat.reduceEqDiff, Nat.reduceAdd, Nat.reduceSub, Nat.reduceLeDiff, Nat.reduceLT, reduceCtorEq, Int.reduceLT, Int.reduceLE, Int.reduceEq, Int.reduceBEq, Int.reduceSub, Int.reduceAdd, Int.reduceMul, Int.reduceNeg, Int.reduceToNat, Nat.reduceMul, Nat.reduceBEq, index_rsl_if, setm, make_ints, condK_dec, wantK_dec, not_dec, and_dec, or_dec, seqK_ite, seqK_none, blockK_ite, blockK_none, opsK_ite, opsK_none, stepK_ite, stepK_none, bodyK_ite, bodyK_none, resK_ite, resK_none, leaveK_ite, leaveK_none, only_ite, only_none, bind_ite, gives_some, gives_none, gives_ite, then_normal, then_ret, then_exit, then_none, then_ite, Option.bind_none, Bool.not_eq_true', decide_eq_false_iff_not, Bool.and_eq_true, Bool.or_eq_true, Option.some.injEq, Int.not_lt, Int.not_le, lp46_1, hlt]
    rw [e]; exact ⟨rfl, rfl⟩

attribute [local go_sem] shaped_t cells_t isAgg_t storable_t okRef_t pub_t

theorem frzVs_J (l : Nat) (cs : List AV) (xs : List Nat) : frzVs l cs (xs.map J) = xs.map J := frzVs_kind l cs (fun (n : Nat) => Value.int .i64 (n : Int)) xs
theorem kerL_87 {n : Nat} {ps : List (Int × Int)} (h7 : ∀ p ∈ ps, okP p) (l : List Nat) : kerL (jdg n (seeL 8 ps)) l = kerL (jdg n (seeL 7 ps)) l := by
  unfold kerL
  congr 1
  apply List.filter_congr
  intro m _
  rw [decide_eq_decide, ker_iff h7 (by omega), ker_iff h7 (by omega)]
set_option maxHeartbeats 1000000 in
theorem c46 (nl : Bool) (n : Nat) (ps : List (Int × Int)) (h : chk (n : Int) ps = 0) (st : St) : run L 46 [bkAV nl (n : Int) ps] st = some (sl 1 true ((chosL n ps).map tAV), st) := by
  rw [run_pure (fn := ir46) rfl rfl]
  obtain ⟨h1, hl16, h3, h4, h5⟩ := chk_zero h
  have h50 := fun st => c50 nl (n : Int) ps (by omega) h4 st
  have hpj := putJ (seeL 8 ps) (seeL_len 8 ps)
  have hlj := seeL_len 8 ps
  have hsh := shl_i n (by omega)
  have h12 := ker12 (n := n) (by omega) (fun p hp => h3 p hp) h4
  have hsm7 := kerL_small (jdg n (seeL 7 ps)) (List.range' 0 (2 ^ n))
  unfold chosL
  simp only [ir46, go_sem, reduceIte, Nat.reduceEqDiff, Nat.reduceAdd, Nat.reduceSub, Nat.reduceLeDiff, Nat.reduceLT, reduceCtorEq, Int.reduceLT, Int.reduceLE, Int.reduceEq, Int.reduceBEq, Int.reduceSub, Int.reduceAdd, Int.reduceMul, Int.reduceNeg, Int.reduceToNat, Nat.reduceMul, Nat.reduceBEq, h50, hpj, hlj, hsh, pubsJ, storableJ, List.length_map]
  generalize hg : lim (headed pure (run L) true _ lp46_1 _ _) _ _ = o
  obtain ⟨x, en, s, rfl, h2⟩ : ∃ x en s, o = some (x, en, s) ∧ _ := by rw [← hg]; exact loop46_1 nl n (by omega) ps (seeL 8 ps) (seeL_len 8 ps) (seeL_small 8 h4) 0 [] ⟨Nat.zero_le _, by simp⟩ _ _ (by simp only [go_sem, reduceIte, Nat.reduceEqDiff, Nat.reduceAdd, Nat.reduceSub, Nat.reduceLeDiff, Nat.reduceLT, reduceCtorEq, Int.reduceLT, Int.reduceLE, Int.reduceEq, Int.reduceBEq, Int.reduceSub, Int.reduceAdd, Int.reduceMul, Int.reduceNeg, Int.reduceToNat, Nat.reduceMul, Nat.reduceBEq, okRefsJ, renCellsJ, refsL_J, mapLs_J, compact, compactW, refsEnv, refsV, refsL, refsStore, refsAt, mapEnv, mapL, mapLs, newName, posOf, mapStore, pickStore, namesOk, refsV_sl, mapL_sl, List.contains_nil, List.contains_cons, Option.getD_some, hasKey, Int.natCast_zero, show kA [] = .v (.slice none 0 0) from rfl, show kS [] = [] from rfl] <;> rfl)
  clear hg
  rw [List.nil_append, Nat.sub_zero, kerL_87 h4] at h2
  obtain ⟨rfl, e4, rfl⟩ := h2
  generalize kerL (jdg n (seeL 7 ps)) (List.range' 0 (2 ^ n)) = X at *
  by_cases hX : X = []
  · subst hX
    have eA : kA [] = .v (.slice none 0 0) := rfl
    have eS : kS [] = [] := rfl
    have h54 := fun st => c54n st
    simp only [go_sem, reduceIte, Nat.reduceEqDiff, Nat.reduceAdd, Nat.reduceSub, Nat.reduceLeDiff, Nat.reduceLT, reduceCtorEq, Int.reduceLT, Int.reduceLE, Int.reduceEq, Int.reduceBEq, Int.reduceSub, Int.reduceAdd, Int.reduceMul, Int.reduceNeg, Int.reduceToNat, Nat.reduceMul, Nat.reduceBEq, e4, eA, eS, h54, show pure 54 = false from rfl, code_frz, frzAV, frzT, frzLs, rslsOf, frzEnv, frzEnv_get, frzStore, frzVs, frzV_v, frzV_ptr, frzV_sl]
    rfl
  · have eA := kA_ne hX
    have eS := kS_ne hX
    have hpos : 1 ≤ X.length := by
      cases X with
      | nil => exact absurd rfl hX
      | cons x r => simp
    have hperm := (sortL_perm lexLt X).length_eq
    have hneS : sortL lexLt X ≠ [] := by
      intro e
      rw [e] at hperm; simp at hperm; omega
    have h54 := c54 [bkCells nl (n : Int) ps, (seeL 8 ps).map J, X.map tAV] [] 2 X rfl hpos h12 (fun l hl => by have := hsm7 l hl; omega)
    have hfz := fun T env => frzL2c (a := bkCells nl (n : Int) ps) (b := (seeL 8 ps).map J) (cs := (sortL lexLt X).map tAV) (by simpa using hneS) T env
    have hfv := frzV_madeT 2 (sortL lexLt X) hneS
    rw [hperm] at hfv
    have hset : [bkCells nl (n : Int) ps, (seeL 8 ps).map J, X.map tAV].set 2 ((sortL lexLt X).map tAV) = [bkCells nl (n : Int) ps, (seeL 8 ps).map J, (sortL lexLt X).map tAV] := rfl
    rw [hset] at h54
    simp only [go_sem, reduceIte, Nat.reduceEqDiff, Nat.reduceAdd, Nat.reduceSub, Nat.reduceLeDiff, Nat.reduceLT, reduceCtorEq, Int.reduceLT, Int.reduceLE, Int.reduceEq, Int.reduceBEq, Int.reduceSub, Int.reduceAdd, Int.reduceMul, Int.reduceNeg, Int.reduceToNat, Nat.reduceMul, Nat.reduceBEq, e4, eA, eS, h54, show pure 54 = false from rfl, code_frz, frzAV, frzT, frzLs, rslsOf, hfz, frzEnv, frzEnv_get, frzStore, frzVs, frzV_v, frzV_ptr, frzV_sl, hfv, frzVs_J]
end Go.Proofs.YtgohohiaaiogcaaDoor.Vm
