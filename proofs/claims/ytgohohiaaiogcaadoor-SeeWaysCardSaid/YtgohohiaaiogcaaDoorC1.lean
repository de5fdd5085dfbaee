/- What is proved: what each function of this program computes, as equations on the evaluator. No condition. -/
import Derived.Test.YtgohohiaaiogcaaDoorLib
import Derived.Test.YtgohohiaaiogcaaDoorSy
import Derived.KernelRfl
import Derived.WalkKit
import Derived.ProofKit
import Derived.OpenShut
set_option linter.all false
namespace Go.Proofs.YtgohohiaaiogcaaDoor.Vm
open Go Go.Ev
set_option maxRecDepth 100000
attribute [local go_sem] cells_any storable_any ren1_any shaped_ptr cells_ptr storable_ptr ren1_ptr shaped_eptr cells_eptr storable_eptr ren1_eptr shaped_rsl cells_rsl storable_rsl ren1_rsl shaped_int cells_int storable_int ren1_int shaped_bool cells_bool storable_bool ren1_bool shaped_nils cells_nils storable_nils ren1_nils shaped_lst cells_lst storable_lst shaped_fn cells_fn storable_fn ren1_fn shaped_ifc cells_ifc storable_ifc ren1_ifc shaped_agg cells_agg storable_agg ren1_agg shaped_tup cells_tup storable_tup ren1_tup shaped_nif cells_nif storable_nif ren1_nif ren1_lany ren1_lfull ren1_lown len_lst len_rsl len_nil load_ptr load_eptr isRsl_lst isRsl_nil isRsl_rsl elems_nil elems_lst elems_sl isRsl_sl body_eq bodyK_normal bodyK_ret resK_some leaveK_some only_some code_skip code_exit code_ret code_ops code_seq code_cond code_block seqK_normal seqK_ret seqK_exit condK_true condK_false blockK_normal blockK_ret blockK_exit opsK_some ops_nil ops_cons wantK_true wantK_false stepK_some pubs pub pub_sl params okRef_loc storable_loc shaped_loc cells_loc isRsl_loc elems_loc len_loc untips untip untip_sl wantedAV setElems withO isAgg_v isAgg_agg isAgg_lst isAgg_ptr isAgg_fn isAgg_ifc isAgg_rsl isAgg_sl isAgg_loc List.replicate_succ List.replicate_zero opAV valAV aval avals ofVal Env.get setD canon gcAV renAll renEnv renStore renCells ren1_sl cutSt okEnv okStore okRefs okRef okRef_sl bin_int bin_bool bin_lst bin_rsl bin_nil bin_agg cellsEq cellEq isShift intOp boolOp min_int max_int beq_int bne resAV tupAV leave_eq fin_sl fin_loc fins fin_v fin_lst fin_agg fin_tup fin_fn storeAV readCells putCells cells_sl shaped_sl storable_sl fieldAddrAV len_sl goI List.getElem?_cons_zero List.getElem?_cons_succ List.getElem?_nil Option.bind_some Option.map_some List.length_cons List.length_nil List.all_cons List.all_nil Bool.and_true Bool.true_and Bool.and_false Bool.false_and and_true true_and and_false false_and Bool.false_eq_true List.set_cons_zero List.set_cons_succ List.append_nil List.nil_append List.cons_append List.take_zero List.take_succ_cons List.take_nil List.drop_zero List.drop_succ_cons List.map_cons List.map_nil decide_true decide_false beq_self_eq_true Bool.not_true Bool.not_false or_true true_or or_false false_or Nat.zero_add Nat.add_zero Nat.le_refl Nat.lt_irrefl decide_eq_true_eq eq_self_iff_true not_true_eq_false not_false_eq_true List.getD_cons_zero code_loop Nat.zero_le Nat.not_lt_zero Bool.true_beq Bool.false_beq beq_true beq_false ge_iff_le gt_iff_lt Lpure pus Option.map_none assert_ifc assert_nil idxA_ptr idxA_eptr idxV_agg Int.cast_ofNat_Int Nat.mul_one Nat.zero_mul Int.toNat_natCast Int.toNat_zero setParts withO2 hasKey eqnil_sl nenil_sl eqnil_loc nenil_loc map_nil_iff okRefs_ints renCells_ints

abbrev prAV (a : Int × Int) : AV := .agg [I a.1, I a.2]
abbrev bkAV (nl : Bool) (n : Int) (ps : List (Int × Int)) : AV := .agg [I n, sl 2 nl (ps.map prAV)]
abbrev bkCells (nl : Bool) (n : Int) (ps : List (Int × Int)) : List AV := [I n, sl 2 nl (ps.map prAV)]

theorem succ64 (i : Nat) (h : i < 1000000) : IntKind.i64.wrap ((i : Int) + 1) = ((i + 1 : Nat) : Int) := by
  rw [wrap64] <;> omega
theorem index_prs (nl : Bool) (ps : List (Int × Int)) (i : Nat) (h : i < ps.length) : indexSAV 2 (sl 2 nl (ps.map prAV)) (.v (.int .i64 i)) = some (.eptr (.agg [.v (.int .i64 ps[i].1), .v (.int .i64 ps[i].2)]) 0) := by
  rw [index_sl _ _ _ _ _ (by omega) (by simpa using h)]
  simp
theorem index_ints (nl : Bool) (l : List Int) (i : Nat) (h : i < l.length) : indexSAV 1 (sl 1 nl (l.map I)) (.v (.int .i64 i)) = some (.eptr (I l[i]) 0) := by
  rw [index_sl _ _ _ _ _ (by omega) (by simpa using h)]
  simp
theorem slice_prs (nl : Bool) (ps : List (Int × Int)) (i : Nat) (h : i < ps.length) : sliceAV 2 (sl 2 nl (ps.map prAV)) none (some (.v (.int .i64 i))) none = some (sl 2 false ((ps.take i).map prAV)) := by
  have e : sl 2 nl (ps.map prAV) = .lst .any 2 (ps.map prAV) := by
    unfold sl; rw [if_neg]; rintro ⟨_, h2⟩
    simp at h2; subst h2; simp at h
  rw [e]
  simp [sliceAV, natOr, natOf, tagSlice, sl, List.map_take]
  omega

theorem c70 (n lo hi : Int) (st : St) : run L 70 [I n, I lo, I hi] st = some (B (decide (lo ≤ n ∧ n ≤ hi)), st) := by
  rw [run_pure (fn := ir70) rfl rfl]
  by_cases h1 : lo ≤ n <;> simp only [ir70, go_sem, reduceIte, Nat.reduceEqDiff, Nat.reduceAdd, Nat.reduceSub, Nat.reduceLeDiff, Nat.reduceLT, reduceCtorEq, Int.reduceLT, Int.reduceLE, Int.reduceEq, Int.reduceBEq, Int.reduceSub, Int.reduceAdd, Int.reduceMul, Int.reduceNeg, Int.reduceToNat, Nat.reduceMul, Nat.reduceBEq, h1]

theorem loop87 (nl : Bool) (ps : List (Int × Int)) (hlen : ps.length < 1000000) (p q : Int) (i : Nat) (hok : i ≤ ps.length) (env : Env) (st : St)
    (hg : gcAV true 1 0 (canon env [0, 3, 7, 8]) st = ([(0, sl 2 nl (ps.map prAV)), (3, .ptr 0 0), (7, I ps.length), (8, I i)], ⟨[[I p, I q]], []⟩)) :
    ∃ x_1 en s, lim (headed pure (run L) true [0, 3, 7, 8] lp87_0 1 0) env st = some (x_1, en, s) ∧ (if (p, q) ∈ ps.drop i then x_1 = .ret ∧ ∃ k : Int, 0 ≤ k ∧ en.get 4 = I k else x_1 = .exit 0) := by
  refine loop_wp (α := Nat) (fun i => ps.length - i) (fun i => i ≤ ps.length) (fun i => ([(0, sl 2 nl (ps.map prAV)), (3, .ptr 0 0), (7, I ps.length), (8, I i)], ⟨[[I p, I q]], []⟩)) (fun i x_1 en s => if (p, q) ∈ ps.drop i then x_1 = .ret ∧ ∃ k : Int, 0 ≤ k ∧ en.get 4 = I k else x_1 = .exit 0) (fun i hok => ?_) i hok env st hg
  by_cases h : i < ps.length
  · have hx := index_prs nl ps i h
    have hs := succ64 i (by omega)
    have hd : ps.drop i = ps[i] :: ps.drop (i + 1) := List.drop_eq_getElem_cons h
    rw [hd]
    generalize ps[i] = a at *
    obtain ⟨u, v⟩ := a
    have hlt : ((i : Int) < (ps.length : Int)) = True := eq_true (by omega)
    simp only at hx
    by_cases e1 : p = u
    · by_cases e2 : q = v
      · subst e1; subst e2
        simp only [go_sem, reduceIte, Nat.reduceEqDiff, Nat.reduceAdd, Nat.reduceSub, Nat.reduceLeDiff, Nat.reduceLT, reduceCtorEq, Int.reduceLT, Int.reduceLE, Int.reduceEq, Int.reduceBEq, Int.reduceSub, Int.reduceAdd, Int.reduceMul, Int.reduceNeg, Int.reduceToNat, Nat.reduceMul, Nat.reduceBEq, index_rsl_if, setm, make_ints, condK_dec, wantK_dec, not_dec, and_dec, or_dec, seqK_ite, seqK_none, blockK_ite, blockK_none, opsK_ite, opsK_none, stepK_ite, stepK_none, bodyK_ite, bodyK_none, resK_ite, resK_none, leaveK_ite, leaveK_none, only_ite, only_none, bind_ite, gives_some, gives_none, gives_ite, then_normal, then_ret, then_exit, then_none, then_ite, Option.bind_none, Bool.not_eq_true', decide_eq_false_iff_not, Bool.and_eq_true, Bool.or_eq_true, Option.some.injEq, Int.not_lt, Int.not_le, lp87_0, hx, hlt]
        rw [if_pos (by simp)]
        exact ⟨(i : Int), by omega, rfl⟩
      · simp only [go_sem, reduceIte, Nat.reduceEqDiff, Nat.reduceAdd, Nat.reduceSub, Nat.reduceLeDiff, Nat.reduceLT, reduceCtorEq, Int.reduceLT, Int.reduceLE, Int.reduceEq, Int.reduceBEq, Int.reduceSub, Int.reduceAdd, Int.reduceMul, Int.reduceNeg, Int.reduceToNat, Nat.reduceMul, Nat.reduceBEq, index_rsl_if, setm, make_ints, condK_dec, wantK_dec, not_dec, and_dec, or_dec, seqK_ite, seqK_none, blockK_ite, blockK_none, opsK_ite, opsK_none, stepK_ite, stepK_none, bodyK_ite, bodyK_none, resK_ite, resK_none, leaveK_ite, leaveK_none, only_ite, only_none, bind_ite, gives_some, gives_none, gives_ite, then_normal, then_ret, then_exit, then_none, then_ite, Option.bind_none, Bool.not_eq_true', decide_eq_false_iff_not, Bool.and_eq_true, Bool.or_eq_true, Option.some.injEq, Int.not_lt, Int.not_le, lp87_0, hx, hlt, e1, e2, hs]
        refine ⟨i + 1, by simp only [go_sem, reduceIte, Nat.reduceEqDiff, Nat.reduceAdd, Nat.reduceSub, Nat.reduceLeDiff, Nat.reduceLT, reduceCtorEq, Int.reduceLT, Int.reduceLE, Int.reduceEq, Int.reduceBEq, Int.reduceSub, Int.reduceAdd, Int.reduceMul, Int.reduceNeg, Int.reduceToNat, Nat.reduceMul, Nat.reduceBEq, ren1_locm, loc_tips, locT_eq] <;> rfl, ?_, ?_, fun x en s hq => ?_⟩
        · omega
        · omega
        · simp only [List.mem_cons, Prod.mk.injEq, e2, and_false, false_or]; exact hq
    · simp only [go_sem, reduceIte, Nat.reduceEqDiff, Nat.reduceAdd, Nat.reduceSub, Nat.reduceLeDiff, Nat.reduceLT, reduceCtorEq, Int.reduceLT, Int.reduceLE, Int.reduceEq, Int.reduceBEq, Int.reduceSub, Int.reduceAdd, Int.reduceMul, Int.reduceNeg, Int.reduceToNat, Nat.reduceMul, Nat.reduceBEq, index_rsl_if, setm, make_ints, condK_dec, wantK_dec, not_dec, and_dec, or_dec, seqK_ite, seqK_none, blockK_ite, blockK_none, opsK_ite, opsK_none, stepK_ite, stepK_none, bodyK_ite, bodyK_none, resK_ite, resK_none, leaveK_ite, leaveK_none, only_ite, only_none, bind_ite, gives_some, gives_none, gives_ite, then_normal, then_ret, then_exit, then_none, then_ite, Option.bind_none, Bool.not_eq_true', decide_eq_false_iff_not, Bool.and_eq_true, Bool.or_eq_true, Option.some.injEq, Int.not_lt, Int.not_le, lp87_0, hx, hlt, e1, hs]
      refine ⟨i + 1, by simp only [go_sem, reduceIte, Nat.reduceEqDiff, Nat.reduceAdd, Nat.reduceSub, Nat.reduceLeDiff, Nat.reduceLT, reduceCtorEq, Int.reduceLT, Int.reduceLE, Int.reduceEq, Int.reduceBEq, Int.reduceSub, Int.reduceAdd, Int.reduceMul, Int.reduceNeg, Int.reduceToNat, Nat.reduceMul, Nat.reduceBEq, ren1_locm, loc_tips, locT_eq] <;> rfl, ?_, ?_, fun x en s hq => ?_⟩
      · omega
      · omega
      · simp only [List.mem_cons, Prod.mk.injEq, e1, false_and, false_or]; exact hq
  · have hd : ps.drop i = [] := List.drop_eq_nil_of_le (by omega)
    have hlt : ((i : Int) < (ps.length : Int)) = False := eq_false (by omega)
    simp only [go_sem, reduceIte, Nat.reduceEqDiff, Nat.reduceAdd, Nat.reduceSub, Nat.reduceLeDiff, Nat.reduceLT, reduceCtorEq, Int.reduceLT, Int.reduceLE, Int.reduceEq, Int.reduceBEq, Int.reduceSub, Int.reduceAdd, Int.reduceMul, Int.reduceNeg, Int.reduceToNat, Nat.reduceMul, Nat.reduceBEq, index_rsl_if, setm, make_ints, condK_dec, wantK_dec, not_dec, and_dec, or_dec, seqK_ite, seqK_none, blockK_ite, blockK_none, opsK_ite, opsK_none, stepK_ite, stepK_none, bodyK_ite, bodyK_none, resK_ite, resK_none, leaveK_ite, leaveK_none, only_ite, only_none, bind_ite, gives_some, gives_none, gives_ite, then_normal, then_ret, then_exit, then_none, then_ite, Option.bind_none, Bool.not_eq_true', decide_eq_false_iff_not, Bool.and_eq_true, Bool.or_eq_true, Option.some.injEq, Int.not_lt, Int.not_le, lp87_0, hlt]
    rw [hd]; simp

theorem c49 (nl : Bool) (ps : List (Int × Int)) (hlen : ps.length < 1000000) (p q : Int) (st : St) :
    run L 49 [sl 2 nl (ps.map prAV), .agg [I p, I q]] st = some (B (decide ((p, q) ∈ ps)), st) := by
  have h106 : ∀ st, ∃ k : Int, run L 87 [sl 2 nl (ps.map prAV), .agg [I p, I q]] st = some (I k, st) ∧ (0 ≤ k ↔ (p, q) ∈ ps) := by
    intro st
    rw [run_pure (fn := ir87) rfl rfl]
    simp only [ir87, go_sem, reduceIte, Nat.reduceEqDiff, Nat.reduceAdd, Nat.reduceSub, Nat.reduceLeDiff, Nat.reduceLT, reduceCtorEq, Int.reduceLT, Int.reduceLE, Int.reduceEq, Int.reduceBEq, Int.reduceSub, Int.reduceAdd, Int.reduceMul, Int.reduceNeg, Int.reduceToNat, Nat.reduceMul, Nat.reduceBEq, List.length_map]
    generalize hg : lim (headed pure (run L) true _ lp87_0 _ _) _ _ = o
    obtain ⟨x, en, s, rfl, h2⟩ : ∃ x en s, o = some (x, en, s) ∧ _ := by rw [← hg]; exact loop87 nl ps hlen p q 0 (by omega) _ _ (by simp only [go_sem, reduceIte, Nat.reduceEqDiff, Nat.reduceAdd, Nat.reduceSub, Nat.reduceLeDiff, Nat.reduceLT, reduceCtorEq, Int.reduceLT, Int.reduceLE, Int.reduceEq, Int.reduceBEq, Int.reduceSub, Int.reduceAdd, Int.reduceMul, Int.reduceNeg, Int.reduceToNat, Nat.reduceMul, Nat.reduceBEq] <;> rfl)
    clear hg
    rw [List.drop_zero] at h2
    by_cases h : (p, q) ∈ ps
    · rw [if_pos h] at h2
      obtain ⟨rfl, k, hk, h3⟩ := h2
      exact ⟨k, by simp only [go_sem, reduceIte, Nat.reduceEqDiff, Nat.reduceAdd, Nat.reduceSub, Nat.reduceLeDiff, Nat.reduceLT, reduceCtorEq, Int.reduceLT, Int.reduceLE, Int.reduceEq, Int.reduceBEq, Int.reduceSub, Int.reduceAdd, Int.reduceMul, Int.reduceNeg, Int.reduceToNat, Nat.reduceMul, Nat.reduceBEq, h3], by simp [h, hk]⟩
    · rw [if_neg h] at h2
      subst h2
      exact ⟨-1, by simp only [go_sem, reduceIte, Nat.reduceEqDiff, Nat.reduceAdd, Nat.reduceSub, Nat.reduceLeDiff, Nat.reduceLT, reduceCtorEq, Int.reduceLT, Int.reduceLE, Int.reduceEq, Int.reduceBEq, Int.reduceSub, Int.reduceAdd, Int.reduceMul, Int.reduceNeg, Int.reduceToNat, Nat.reduceMul, Nat.reduceBEq], by simp [h]⟩
  rw [run_pure (fn := ir49) rfl rfl]
  obtain ⟨k, h1, h2⟩ := h106 ⟨[[I p, I q]], []⟩
  simp only [ir49, go_sem, reduceIte, Nat.reduceEqDiff, Nat.reduceAdd, Nat.reduceSub, Nat.reduceLeDiff, Nat.reduceLT, reduceCtorEq, Int.reduceLT, Int.reduceLE, Int.reduceEq, Int.reduceBEq, Int.reduceSub, Int.reduceAdd, Int.reduceMul, Int.reduceNeg, Int.reduceToNat, Nat.reduceMul, Nat.reduceBEq, h1, h2]

theorem loop77 (nl : Bool) (l : List Int) (hlen : l.length < 1000000) (a : Int) (i : Nat) (hok : i ≤ l.length) (env : Env) (st : St)
    (hg : gcAV true 0 0 (canon env [0, 1, 5]) st = ([(0, sl 1 nl (l.map I)), (1, I a), (5, I i)], ⟨[], []⟩)) :
    ∃ x_1 en s, lim (headed pure (run L) true [0, 1, 5] lp77_0 0 0) env st = some (x_1, en, s) ∧ (if a ∈ l.drop i then x_1 = .ret ∧ en.get 4 = B true else x_1 = .exit 0) := by
  refine loop_wp (α := Nat) (fun i => l.length - i) (fun i => i ≤ l.length) (fun i => ([(0, sl 1 nl (l.map I)), (1, I a), (5, I i)], ⟨[], []⟩)) (fun i x_1 en s => if a ∈ l.drop i then x_1 = .ret ∧ en.get 4 = B true else x_1 = .exit 0) (fun i hok => ?_) i hok env st hg
  by_cases h : i < l.length
  · have hx := index_ints nl l i h
    have hs := succ64 i (by omega)
    have hd : l.drop i = l[i] :: l.drop (i + 1) := List.drop_eq_getElem_cons h
    have hlt : ((i : Int) < (l.length : Int)) = True := eq_true (by omega)
    rw [hd]
    generalize l[i] = b at *
    by_cases p : b = a
    · simp only [go_sem, reduceIte, Nat.reduceEqDiff, Nat.reduceAdd, Nat.reduceSub, Nat.reduceLeDiff, Nat.reduceLT, reduceCtorEq, Int.reduceLT, Int.reduceLE, Int.reduceEq, Int.reduceBEq, Int.reduceSub, Int.reduceAdd, Int.reduceMul, Int.reduceNeg, Int.reduceToNat, Nat.reduceMul, Nat.reduceBEq, index_rsl_if, setm, make_ints, condK_dec, wantK_dec, not_dec, and_dec, or_dec, seqK_ite, seqK_none, blockK_ite, blockK_none, opsK_ite, opsK_none, stepK_ite, stepK_none, bodyK_ite, bodyK_none, resK_ite, resK_none, leaveK_ite, leaveK_none, only_ite, only_none, bind_ite, gives_some, gives_none, gives_ite, then_normal, then_ret, then_exit, then_none, then_ite, Option.bind_none, Bool.not_eq_true', decide_eq_false_iff_not, Bool.and_eq_true, Bool.or_eq_true, Option.some.injEq, Int.not_lt, Int.not_le, lp77_0, hx, hlt, p, List.length_map]
      rw [if_pos (by simp)]; trivial
    · simp only [go_sem, reduceIte, Nat.reduceEqDiff, Nat.reduceAdd, Nat.reduceSub, Nat.reduceLeDiff, Nat.reduceLT, reduceCtorEq, Int.reduceLT, Int.reduceLE, Int.reduceEq, Int.reduceBEq, Int.reduceSub, Int.reduceAdd, Int.reduceMul, Int.reduceNeg, Int.reduceToNat, Nat.reduceMul, Nat.reduceBEq, index_rsl_if, setm, make_ints, condK_dec, wantK_dec, not_dec, and_dec, or_dec, seqK_ite, seqK_none, blockK_ite, blockK_none, opsK_ite, opsK_none, stepK_ite, stepK_none, bodyK_ite, bodyK_none, resK_ite, resK_none, leaveK_ite, leaveK_none, only_ite, only_none, bind_ite, gives_some, gives_none, gives_ite, then_normal, then_ret, then_exit, then_none, then_ite, Option.bind_none, Bool.not_eq_true', decide_eq_false_iff_not, Bool.and_eq_true, Bool.or_eq_true, Option.some.injEq, Int.not_lt, Int.not_le, lp77_0, hx, hlt, p, hs, List.length_map]
      refine ⟨i + 1, by simp only [go_sem, reduceIte, Nat.reduceEqDiff, Nat.reduceAdd, Nat.reduceSub, Nat.reduceLeDiff, Nat.reduceLT, reduceCtorEq, Int.reduceLT, Int.reduceLE, Int.reduceEq, Int.reduceBEq, Int.reduceSub, Int.reduceAdd, Int.reduceMul, Int.reduceNeg, Int.reduceToNat, Nat.reduceMul, Nat.reduceBEq, ren1_locm, loc_tips, locT_eq] <;> rfl, ?_, ?_, fun x en s hq => ?_⟩
      · omega
      · omega
      · simp only [List.mem_cons, Ne.symm p, false_or]; exact hq
  · have hd : l.drop i = [] := List.drop_eq_nil_of_le (by omega)
    have hlt : ((i : Int) < (l.length : Int)) = False := eq_false (by omega)
    simp only [go_sem, reduceIte, Nat.reduceEqDiff, Nat.reduceAdd, Nat.reduceSub, Nat.reduceLeDiff, Nat.reduceLT, reduceCtorEq, Int.reduceLT, Int.reduceLE, Int.reduceEq, Int.reduceBEq, Int.reduceSub, Int.reduceAdd, Int.reduceMul, Int.reduceNeg, Int.reduceToNat, Nat.reduceMul, Nat.reduceBEq, index_rsl_if, setm, make_ints, condK_dec, wantK_dec, not_dec, and_dec, or_dec, seqK_ite, seqK_none, blockK_ite, blockK_none, opsK_ite, opsK_none, stepK_ite, stepK_none, bodyK_ite, bodyK_none, resK_ite, resK_none, leaveK_ite, leaveK_none, only_ite, only_none, bind_ite, gives_some, gives_none, gives_ite, then_normal, then_ret, then_exit, then_none, then_ite, Option.bind_none, Bool.not_eq_true', decide_eq_false_iff_not, Bool.and_eq_true, Bool.or_eq_true, Option.some.injEq, Int.not_lt, Int.not_le, lp77_0, hlt, List.length_map]
    rw [hd]; simp

theorem c77 (nl : Bool) (l : List Int) (hlen : l.length < 1000000) (a : Int) (st : St) : run L 77 [sl 1 nl (l.map I), I a] st = some (B (decide (a ∈ l)), st) := by
  rw [run_pure (fn := ir77) rfl rfl]
  simp only [ir77, go_sem, reduceIte, Nat.reduceEqDiff, Nat.reduceAdd, Nat.reduceSub, Nat.reduceLeDiff, Nat.reduceLT, reduceCtorEq, Int.reduceLT, Int.reduceLE, Int.reduceEq, Int.reduceBEq, Int.reduceSub, Int.reduceAdd, Int.reduceMul, Int.reduceNeg, Int.reduceToNat, Nat.reduceMul, Nat.reduceBEq]
  generalize hg : lim (headed pure (run L) true _ lp77_0 _ _) _ _ = o
  obtain ⟨x, en, s, rfl, h2⟩ : ∃ x en s, o = some (x, en, s) ∧ _ := by rw [← hg]; exact loop77 nl l hlen a 0 (by omega) _ _ (by simp only [go_sem, reduceIte, Nat.reduceEqDiff, Nat.reduceAdd, Nat.reduceSub, Nat.reduceLeDiff, Nat.reduceLT, reduceCtorEq, Int.reduceLT, Int.reduceLE, Int.reduceEq, Int.reduceBEq, Int.reduceSub, Int.reduceAdd, Int.reduceMul, Int.reduceNeg, Int.reduceToNat, Nat.reduceMul, Nat.reduceBEq] <;> rfl)
  clear hg
  rw [List.drop_zero] at h2
  by_cases h : a ∈ l
  · rw [if_pos h] at h2
    obtain ⟨rfl, h3⟩ := h2
    simp only [go_sem, reduceIte, Nat.reduceEqDiff, Nat.reduceAdd, Nat.reduceSub, Nat.reduceLeDiff, Nat.reduceLT, reduceCtorEq, Int.reduceLT, Int.reduceLE, Int.reduceEq, Int.reduceBEq, Int.reduceSub, Int.reduceAdd, Int.reduceMul, Int.reduceNeg, Int.reduceToNat, Nat.reduceMul, Nat.reduceBEq, h3, h]
  · rw [if_neg h] at h2
    subst h2
    simp only [go_sem, reduceIte, Nat.reduceEqDiff, Nat.reduceAdd, Nat.reduceSub, Nat.reduceLeDiff, Nat.reduceLT, reduceCtorEq, Int.reduceLT, Int.reduceLE, Int.reduceEq, Int.reduceBEq, Int.reduceSub, Int.reduceAdd, Int.reduceMul, Int.reduceNeg, Int.reduceToNat, Nat.reduceMul, Nat.reduceBEq, h]

theorem loop22 (n1 n2 : Bool) (xs ys : List Int) (hl : xs.length = ys.length) (hlen : xs.length < 1000000) (i : Nat) (hok : i ≤ xs.length) (env : Env) (st : St)
    (hg : gcAV true 0 0 (canon env [0, 1, 5]) st = ([(0, sl 1 n1 (xs.map I)), (1, sl 1 n2 (ys.map I)), (5, I i)], ⟨[], []⟩)) :
    ∃ x_1 en s, lim (headed pure (run L) true [0, 1, 5] lp22_0 0 0) env st = some (x_1, en, s) ∧ (if xs.drop i = ys.drop i then x_1 = .exit 0 else x_1 = .ret ∧ en.get 4 = B false) := by
  refine loop_wp (α := Nat) (fun i => xs.length - i) (fun i => i ≤ xs.length) (fun i => ([(0, sl 1 n1 (xs.map I)), (1, sl 1 n2 (ys.map I)), (5, I i)], ⟨[], []⟩)) (fun i x_1 en s => if xs.drop i = ys.drop i then x_1 = .exit 0 else x_1 = .ret ∧ en.get 4 = B false) (fun i hok => ?_) i hok env st hg
  by_cases h : i < xs.length
  · have hx := index_ints n1 xs i h
    have hy := index_ints n2 ys i (by omega)
    have hs := succ64 i (by omega)
    have hd : xs.drop i = xs[i] :: xs.drop (i + 1) := List.drop_eq_getElem_cons h
    have hd2 : ys.drop i = ys[i] :: ys.drop (i + 1) := List.drop_eq_getElem_cons (by omega)
    have hlt : ((i : Int) < (xs.length : Int)) = True := eq_true (by omega)
    rw [hd, hd2]
    generalize xs[i] = a at *
    generalize ys[i]'(by omega) = b at *
    by_cases p : a = b
    · simp only [go_sem, reduceIte, Nat.reduceEqDiff, Nat.reduceAdd, Nat.reduceSub, Nat.reduceLeDiff, Nat.reduceLT, reduceCtorEq, Int.reduceLT, Int.reduceLE, Int.reduceEq, Int.reduceBEq, Int.reduceSub, Int.reduceAdd, Int.reduceMul, Int.reduceNeg, Int.reduceToNat, Nat.reduceMul, Nat.reduceBEq, index_rsl_if, setm, make_ints, condK_dec, wantK_dec, not_dec, and_dec, or_dec, seqK_ite, seqK_none, blockK_ite, blockK_none, opsK_ite, opsK_none, stepK_ite, stepK_none, bodyK_ite, bodyK_none, resK_ite, resK_none, leaveK_ite, leaveK_none, only_ite, only_none, bind_ite, gives_some, gives_none, gives_ite, then_normal, then_ret, then_exit, then_none, then_ite, Option.bind_none, Bool.not_eq_true', decide_eq_false_iff_not, Bool.and_eq_true, Bool.or_eq_true, Option.some.injEq, Int.not_lt, Int.not_le, lp22_0, hx, hy, hlt, p, hs, List.length_map]
      refine ⟨i + 1, by simp only [go_sem, reduceIte, Nat.reduceEqDiff, Nat.reduceAdd, Nat.reduceSub, Nat.reduceLeDiff, Nat.reduceLT, reduceCtorEq, Int.reduceLT, Int.reduceLE, Int.reduceEq, Int.reduceBEq, Int.reduceSub, Int.reduceAdd, Int.reduceMul, Int.reduceNeg, Int.reduceToNat, Nat.reduceMul, Nat.reduceBEq, ren1_locm, loc_tips, locT_eq] <;> rfl, ?_, ?_, fun x en s hq => ?_⟩
      · omega
      · omega
      · simp only [List.cons.injEq, p, true_and]; exact hq
    · simp only [go_sem, reduceIte, Nat.reduceEqDiff, Nat.reduceAdd, Nat.reduceSub, Nat.reduceLeDiff, Nat.reduceLT, reduceCtorEq, Int.reduceLT, Int.reduceLE, Int.reduceEq, Int.reduceBEq, Int.reduceSub, Int.reduceAdd, Int.reduceMul, Int.reduceNeg, Int.reduceToNat, Nat.reduceMul, Nat.reduceBEq, index_rsl_if, setm, make_ints, condK_dec, wantK_dec, not_dec, and_dec, or_dec, seqK_ite, seqK_none, blockK_ite, blockK_none, opsK_ite, opsK_none, stepK_ite, stepK_none, bodyK_ite, bodyK_none, resK_ite, resK_none, leaveK_ite, leaveK_none, only_ite, only_none, bind_ite, gives_some, gives_none, gives_ite, then_normal, then_ret, then_exit, then_none, then_ite, Option.bind_none, Bool.not_eq_true', decide_eq_false_iff_not, Bool.and_eq_true, Bool.or_eq_true, Option.some.injEq, Int.not_lt, Int.not_le, lp22_0, hx, hy, hlt, p, List.length_map]
      rw [if_neg (by simp [p])]; trivial
  · have hd : xs.drop i = [] := List.drop_eq_nil_of_le (by omega)
    have hd2 : ys.drop i = [] := List.drop_eq_nil_of_le (by omega)
    have hlt : ((i : Int) < (xs.length : Int)) = False := eq_false (by omega)
    simp only [go_sem, reduceIte, Nat.reduceEqDiff, Nat.reduceAdd, Nat.reduceSub, Nat.reduceLeDiff, Nat.reduceLT, reduceCtorEq, Int.reduceLT, Int.reduceLE, Int.reduceEq, Int.reduceBEq, Int.reduceSub, Int.reduceAdd, Int.reduceMul, Int.reduceNeg, Int.reduceToNat, Nat.reduceMul, Nat.reduceBEq, index_rsl_if, setm, make_ints, condK_dec, wantK_dec, not_dec, and_dec, or_dec, seqK_ite, seqK_none, blockK_ite, blockK_none, opsK_ite, opsK_none, stepK_ite, stepK_none, bodyK_ite, bodyK_none, resK_ite, resK_none, leaveK_ite, leaveK_none, only_ite, only_none, bind_ite, gives_some, gives_none, gives_ite, then_normal, then_ret, then_exit, then_none, then_ite, Option.bind_none, Bool.not_eq_true', decide_eq_false_iff_not, Bool.and_eq_true, Bool.or_eq_true, Option.some.injEq, Int.not_lt, Int.not_le, lp22_0, hlt, List.length_map]
    rw [hd, hd2]; simp

theorem c22 (n1 n2 : Bool) (xs ys : List Int) (hlen : xs.length < 1000000) (st : St) : run L 22 [sl 1 n1 (xs.map I), sl 1 n2 (ys.map I)] st = some (B (decide (xs = ys)), st) := by
  rw [run_pure (fn := ir22) rfl rfl]
  by_cases hl : xs.length = ys.length
  · simp only [ir22, go_sem, reduceIte, Nat.reduceEqDiff, Nat.reduceAdd, Nat.reduceSub, Nat.reduceLeDiff, Nat.reduceLT, reduceCtorEq, Int.reduceLT, Int.reduceLE, Int.reduceEq, Int.reduceBEq, Int.reduceSub, Int.reduceAdd, Int.reduceMul, Int.reduceNeg, Int.reduceToNat, Nat.reduceMul, Nat.reduceBEq, List.length_map, hl]
    generalize hg : lim (headed pure (run L) true _ lp22_0 _ _) _ _ = o
    obtain ⟨x, en, s, rfl, h2⟩ : ∃ x en s, o = some (x, en, s) ∧ _ := by rw [← hg]; exact loop22 n1 n2 xs ys hl hlen 0 (by omega) _ _ (by simp only [go_sem, reduceIte, Nat.reduceEqDiff, Nat.reduceAdd, Nat.reduceSub, Nat.reduceLeDiff, Nat.reduceLT, reduceCtorEq, Int.reduceLT, Int.reduceLE, Int.reduceEq, Int.reduceBEq, Int.reduceSub, Int.reduceAdd, Int.reduceMul, Int.reduceNeg, Int.reduceToNat, Nat.reduceMul, Nat.reduceBEq] <;> rfl)
    clear hg
    simp only [List.drop_zero] at h2
    by_cases h : xs = ys
    · rw [if_pos h] at h2
      subst h2
      simp only [go_sem, reduceIte, Nat.reduceEqDiff, Nat.reduceAdd, Nat.reduceSub, Nat.reduceLeDiff, Nat.reduceLT, reduceCtorEq, Int.reduceLT, Int.reduceLE, Int.reduceEq, Int.reduceBEq, Int.reduceSub, Int.reduceAdd, Int.reduceMul, Int.reduceNeg, Int.reduceToNat, Nat.reduceMul, Nat.reduceBEq, h]
    · rw [if_neg h] at h2
      obtain ⟨rfl, h3⟩ := h2
      simp only [go_sem, reduceIte, Nat.reduceEqDiff, Nat.reduceAdd, Nat.reduceSub, Nat.reduceLeDiff, Nat.reduceLT, reduceCtorEq, Int.reduceLT, Int.reduceLE, Int.reduceEq, Int.reduceBEq, Int.reduceSub, Int.reduceAdd, Int.reduceMul, Int.reduceNeg, Int.reduceToNat, Nat.reduceMul, Nat.reduceBEq, h3, h]
  · have hl2 : ((xs.length : Int) = (ys.length : Int)) = False := eq_false (by omega)
    have hne : ¬ xs = ys := fun h => hl (by rw [h])
    simp only [ir22, go_sem, reduceIte, Nat.reduceEqDiff, Nat.reduceAdd, Nat.reduceSub, Nat.reduceLeDiff, Nat.reduceLT, reduceCtorEq, Int.reduceLT, Int.reduceLE, Int.reduceEq, Int.reduceBEq, Int.reduceSub, Int.reduceAdd, Int.reduceMul, Int.reduceNeg, Int.reduceToNat, Nat.reduceMul, Nat.reduceBEq, List.length_map, hl2, hne]
def indexOf (a : Int) : List Int → Nat → Int
  | [], _ => -1
  | b :: r, i => if a = b then (i : Int) else indexOf a r (i + 1)
theorem indexOf_nonneg (a : Int) : ∀ (l : List Int) (i : Nat), (0 ≤ indexOf a l i) = (a ∈ l)
  | [], i => by simp [indexOf]
  | b :: r, i => by
    have ih := indexOf_nonneg a r (i + 1)
    simp only [indexOf]
    split
    · next h => simp [h]
    · next h => rw [ih]; simp [h]

theorem loop92 (nl : Bool) (l : List Int) (hlen : l.length < 1000000) (a : Int) (i : Nat) (hok : i ≤ l.length) (env : Env) (st : St)
    (hg : gcAV true 0 0 (canon env [0, 1, 7, 8]) st = ([(0, sl 1 nl (l.map I)), (1, I a), (7, I l.length), (8, I i)], ⟨[], []⟩)) :
    ∃ x_1 en s, lim (headed pure (run L) true [0, 1, 7, 8] lp92_0 0 0) env st = some (x_1, en, s) ∧ (if a ∈ l.drop i then x_1 = .ret ∧ en.get 4 = I (indexOf a (l.drop i) i) else x_1 = .exit 0) := by
  refine loop_wp (α := Nat) (fun i => l.length - i) (fun i => i ≤ l.length) (fun i => ([(0, sl 1 nl (l.map I)), (1, I a), (7, I l.length), (8, I i)], ⟨[], []⟩)) (fun i x_1 en s => if a ∈ l.drop i then x_1 = .ret ∧ en.get 4 = I (indexOf a (l.drop i) i) else x_1 = .exit 0) (fun i hok => ?_) i hok env st hg
  by_cases h : i < l.length
  · have hx := index_ints nl l i h
    have hs := succ64 i (by omega)
    have hd : l.drop i = l[i] :: l.drop (i + 1) := List.drop_eq_getElem_cons h
    have hlt : ((i : Int) < (l.length : Int)) = True := eq_true (by omega)
    rw [hd]
    generalize l[i] = b at *
    by_cases p : a = b
    · simp only [go_sem, reduceIte, Nat.reduceEqDiff, Nat.reduceAdd, Nat.reduceSub, Nat.reduceLeDiff, Nat.reduceLT, reduceCtorEq, Int.reduceLT, Int.reduceLE, Int.reduceEq, Int.reduceBEq, Int.reduceSub, Int.reduceAdd, Int.reduceMul, Int.reduceNeg, Int.reduceToNat, Nat.reduceMul, Nat.reduceBEq, index_rsl_if, setm, make_ints, condK_dec, wantK_dec, not_dec, and_dec, or_dec, seqK_ite, seqK_none, blockK_ite, blockK_none, opsK_ite, opsK_none, stepK_ite, stepK_none, bodyK_ite, bodyK_none, resK_ite, resK_none, leaveK_ite, leaveK_none, only_ite, only_none, bind_ite, gives_some, gives_none, gives_ite, then_normal, then_ret, then_exit, then_none, then_ite, Option.bind_none, Bool.not_eq_true', decide_eq_false_iff_not, Bool.and_eq_true, Bool.or_eq_true, Option.some.injEq, Int.not_lt, Int.not_le, lp92_0, hx, hlt, p]
      rw [if_pos (by simp)]; simp [indexOf]
    · have e : indexOf a (b :: l.drop (i + 1)) i = indexOf a (l.drop (i + 1)) (i + 1) := by simp only [indexOf]; rw [if_neg p]
      simp only [go_sem, reduceIte, Nat.reduceEqDiff, Nat.reduceAdd, Nat.reduceSub, Nat.reduceLeDiff, Nat.reduceLT, reduceCtorEq, Int.reduceLT, Int.reduceLE, Int.reduceEq, Int.reduceBEq, Int.reduceSub, Int.reduceAdd, Int.reduceMul, Int.reduceNeg, Int.reduceToNat, Nat.reduceMul, Nat.reduceBEq, index_rsl_if, setm, make_ints, condK_dec, wantK_dec, not_dec, and_dec, or_dec, seqK_ite, seqK_none, blockK_ite, blockK_none, opsK_ite, opsK_none, stepK_ite, stepK_none, bodyK_ite, bodyK_none, resK_ite, resK_none, leaveK_ite, leaveK_none, only_ite, only_none, bind_ite, gives_some, gives_none, gives_ite, then_normal, then_ret, then_exit, then_none, then_ite, Option.bind_none, Bool.not_eq_true', decide_eq_false_iff_not, Bool.and_eq_true, Bool.or_eq_true, Option.some.injEq, Int.not_lt, Int.not_le, lp92_0, hx, hlt, p, hs]
      refine ⟨i + 1, by simp only [go_sem, reduceIte, Nat.reduceEqDiff, Nat.reduceAdd, Nat.reduceSub, Nat.reduceLeDiff, Nat.reduceLT, reduceCtorEq, Int.reduceLT, Int.reduceLE, Int.reduceEq, Int.reduceBEq, Int.reduceSub, Int.reduceAdd, Int.reduceMul, Int.reduceNeg, Int.reduceToNat, Nat.reduceMul, Nat.reduceBEq, ren1_locm, loc_tips, locT_eq] <;> rfl, ?_, ?_, fun x en s hq => ?_⟩
      · omega
      · omega
      · rw [e]; simp only [List.mem_cons, p, false_or]; exact hq
  · have hd : l.drop i = [] := List.drop_eq_nil_of_le (by omega)
    have hlt : ((i : Int) < (l.length : Int)) = False := eq_false (by omega)
    simp only [go_sem, reduceIte, Nat.reduceEqDiff, Nat.reduceAdd, Nat.reduceSub, Nat.reduceLeDiff, Nat.reduceLT, reduceCtorEq, Int.reduceLT, Int.reduceLE, Int.reduceEq, Int.reduceBEq, Int.reduceSub, Int.reduceAdd, Int.reduceMul, Int.reduceNeg, Int.reduceToNat, Nat.reduceMul, Nat.reduceBEq, index_rsl_if, setm, make_ints, condK_dec, wantK_dec, not_dec, and_dec, or_dec, seqK_ite, seqK_none, blockK_ite, blockK_none, opsK_ite, opsK_none, stepK_ite, stepK_none, bodyK_ite, bodyK_none, resK_ite, resK_none, leaveK_ite, leaveK_none, only_ite, only_none, bind_ite, gives_some, gives_none, gives_ite, then_normal, then_ret, then_exit, then_none, then_ite, Option.bind_none, Bool.not_eq_true', decide_eq_false_iff_not, Bool.and_eq_true, Bool.or_eq_true, Option.some.injEq, Int.not_lt, Int.not_le, lp92_0, hlt]
    rw [hd]; simp

theorem c92 (nl : Bool) (l : List Int) (hlen : l.length < 1000000) (a : Int) (st : St) : run L 92 [sl 1 nl (l.map I), I a] st = some (I (indexOf a l 0), st) := by
  rw [run_pure (fn := ir92) rfl rfl]
  simp only [ir92, go_sem, reduceIte, Nat.reduceEqDiff, Nat.reduceAdd, Nat.reduceSub, Nat.reduceLeDiff, Nat.reduceLT, reduceCtorEq, Int.reduceLT, Int.reduceLE, Int.reduceEq, Int.reduceBEq, Int.reduceSub, Int.reduceAdd, Int.reduceMul, Int.reduceNeg, Int.reduceToNat, Nat.reduceMul, Nat.reduceBEq, List.length_map]
  generalize hg : lim (headed pure (run L) true _ lp92_0 _ _) _ _ = o
  obtain ⟨x, en, s, rfl, h2⟩ : ∃ x en s, o = some (x, en, s) ∧ _ := by rw [← hg]; exact loop92 nl l hlen a 0 (by omega) _ _ (by simp only [go_sem, reduceIte, Nat.reduceEqDiff, Nat.reduceAdd, Nat.reduceSub, Nat.reduceLeDiff, Nat.reduceLT, reduceCtorEq, Int.reduceLT, Int.reduceLE, Int.reduceEq, Int.reduceBEq, Int.reduceSub, Int.reduceAdd, Int.reduceMul, Int.reduceNeg, Int.reduceToNat, Nat.reduceMul, Nat.reduceBEq] <;> rfl)
  clear hg
  rw [List.drop_zero] at h2
  by_cases h : a ∈ l
  · rw [if_pos h] at h2
    obtain ⟨rfl, h3⟩ := h2
    simp only [go_sem, reduceIte, Nat.reduceEqDiff, Nat.reduceAdd, Nat.reduceSub, Nat.reduceLeDiff, Nat.reduceLT, reduceCtorEq, Int.reduceLT, Int.reduceLE, Int.reduceEq, Int.reduceBEq, Int.reduceSub, Int.reduceAdd, Int.reduceMul, Int.reduceNeg, Int.reduceToNat, Nat.reduceMul, Nat.reduceBEq, h3]
  · rw [if_neg h] at h2
    subst h2
    have e : indexOf a l 0 = -1 := by
      have : ∀ (l : List Int) (i : Nat), a ∉ l → indexOf a l i = -1 := by
        intro l
        induction l with
        | nil => intro i _; rfl
        | cons b r ih =>
          intro i hn
          simp only [List.mem_cons, not_or] at hn
          simp only [indexOf]; rw [if_neg hn.1]; exact ih _ hn.2
      exact this l 0 h
    simp only [go_sem, reduceIte, Nat.reduceEqDiff, Nat.reduceAdd, Nat.reduceSub, Nat.reduceLeDiff, Nat.reduceLT, reduceCtorEq, Int.reduceLT, Int.reduceLE, Int.reduceEq, Int.reduceBEq, Int.reduceSub, Int.reduceAdd, Int.reduceMul, Int.reduceNeg, Int.reduceToNat, Nat.reduceMul, Nat.reduceBEq, e]
theorem c57 (nl : Bool) (l : List Int) (hlen : l.length < 1000000) (a : Int) (st : St) : run L 57 [sl 1 nl (l.map I), I a] st = some (B (decide (a ∈ l)), st) := by
  rw [run_pure (fn := ir57) rfl rfl]
  have h46 := fun st => c92 nl l hlen a st
  have hn := indexOf_nonneg a l 0
  simp only [ir57, go_sem, reduceIte, Nat.reduceEqDiff, Nat.reduceAdd, Nat.reduceSub, Nat.reduceLeDiff, Nat.reduceLT, reduceCtorEq, Int.reduceLT, Int.reduceLE, Int.reduceEq, Int.reduceBEq, Int.reduceSub, Int.reduceAdd, Int.reduceMul, Int.reduceNeg, Int.reduceToNat, Nat.reduceMul, Nat.reduceBEq, h46, hn]

theorem loop71 (nl : Bool) (n : Int) (ps : List (Int × Int)) (hlen : ps.length < 1000000) (p q : Int) (i : Nat) (hok : i ≤ ps.length) (env : Env) (st : St)
    (hg : gcAV true 1 0 (canon env [1, 2, 3, 7]) st = ([(1, I p), (2, I q), (3, .ptr 0 0), (7, I i)], ⟨[bkCells nl n ps], []⟩)) :
    ∃ x_1 en s, lim (headed pure (run L) true [1, 2, 3, 7] lp71_0 1 0) env st = some (x_1, en, s) ∧ (if (p, q) ∈ ps.drop i then x_1 = .ret ∧ en.get 6 = B true else x_1 = .exit 0) := by
  refine loop_wp (α := Nat) (fun i => ps.length - i) (fun i => i ≤ ps.length) (fun i => ([(1, I p), (2, I q), (3, .ptr 0 0), (7, I i)], ⟨[bkCells nl n ps], []⟩)) (fun i x_1 en s => if (p, q) ∈ ps.drop i then x_1 = .ret ∧ en.get 6 = B true else x_1 = .exit 0) (fun i hok => ?_) i hok env st hg
  by_cases h : i < ps.length
  · have hx := index_prs nl ps i h
    have hs := succ64 i (by omega)
    have hd : ps.drop i = ps[i] :: ps.drop (i + 1) := List.drop_eq_getElem_cons h
    rw [hd]
    generalize ps[i] = a at *
    obtain ⟨u, v⟩ := a
    have hlt : ((i : Int) < (ps.length : Int)) = True := eq_true (by omega)
    simp only at hx
    by_cases e1 : u = p
    · by_cases e2 : v = q
      · subst e1; subst e2
        simp only [go_sem, reduceIte, Nat.reduceEqDiff, Nat.reduceAdd, Nat.reduceSub, Nat.reduceLeDiff, Nat.reduceLT, reduceCtorEq, Int.reduceLT, Int.reduceLE, Int.reduceEq, Int.reduceBEq, Int.reduceSub, Int.reduceAdd, Int.reduceMul, Int.reduceNeg, Int.reduceToNat, Nat.reduceMul, Nat.reduceBEq, index_rsl_if, setm, make_ints, condK_dec, wantK_dec, not_dec, and_dec, or_dec, seqK_ite, seqK_none, blockK_ite, blockK_none, opsK_ite, opsK_none, stepK_ite, stepK_none, bodyK_ite, bodyK_none, resK_ite, resK_none, leaveK_ite, leaveK_none, only_ite, only_none, bind_ite, gives_some, gives_none, gives_ite, then_normal, then_ret, then_exit, then_none, then_ite, Option.bind_none, Bool.not_eq_true', decide_eq_false_iff_not, Bool.and_eq_true, Bool.or_eq_true, Option.some.injEq, Int.not_lt, Int.not_le, lp71_0, hx, hlt, List.length_map]
        rw [if_pos (by simp)]; trivial
      · simp only [go_sem, reduceIte, Nat.reduceEqDiff, Nat.reduceAdd, Nat.reduceSub, Nat.reduceLeDiff, Nat.reduceLT, reduceCtorEq, Int.reduceLT, Int.reduceLE, Int.reduceEq, Int.reduceBEq, Int.reduceSub, Int.reduceAdd, Int.reduceMul, Int.reduceNeg, Int.reduceToNat, Nat.reduceMul, Nat.reduceBEq, index_rsl_if, setm, make_ints, condK_dec, wantK_dec, not_dec, and_dec, or_dec, seqK_ite, seqK_none, blockK_ite, blockK_none, opsK_ite, opsK_none, stepK_ite, stepK_none, bodyK_ite, bodyK_none, resK_ite, resK_none, leaveK_ite, leaveK_none, only_ite, only_none, bind_ite, gives_some, gives_none, gives_ite, then_normal, then_ret, then_exit, then_none, then_ite, Option.bind_none, Bool.not_eq_true', decide_eq_false_iff_not, Bool.and_eq_true, Bool.or_eq_true, Option.some.injEq, Int.not_lt, Int.not_le, lp71_0, hx, hlt, e1, e2, hs, List.length_map]
        refine ⟨i + 1, by simp only [go_sem, reduceIte, Nat.reduceEqDiff, Nat.reduceAdd, Nat.reduceSub, Nat.reduceLeDiff, Nat.reduceLT, reduceCtorEq, Int.reduceLT, Int.reduceLE, Int.reduceEq, Int.reduceBEq, Int.reduceSub, Int.reduceAdd, Int.reduceMul, Int.reduceNeg, Int.reduceToNat, Nat.reduceMul, Nat.reduceBEq, ren1_locm, loc_tips, locT_eq] <;> rfl, ?_, ?_, fun x en s hq => ?_⟩
        · omega
        · omega
        · simp only [List.mem_cons, Prod.mk.injEq, Ne.symm e2, and_false, false_or]; exact hq
    · simp only [go_sem, reduceIte, Nat.reduceEqDiff, Nat.reduceAdd, Nat.reduceSub, Nat.reduceLeDiff, Nat.reduceLT, reduceCtorEq, Int.reduceLT, Int.reduceLE, Int.reduceEq, Int.reduceBEq, Int.reduceSub, Int.reduceAdd, Int.reduceMul, Int.reduceNeg, Int.reduceToNat, Nat.reduceMul, Nat.reduceBEq, index_rsl_if, setm, make_ints, condK_dec, wantK_dec, not_dec, and_dec, or_dec, seqK_ite, seqK_none, blockK_ite, blockK_none, opsK_ite, opsK_none, stepK_ite, stepK_none, bodyK_ite, bodyK_none, resK_ite, resK_none, leaveK_ite, leaveK_none, only_ite, only_none, bind_ite, gives_some, gives_none, gives_ite, then_normal, then_ret, then_exit, then_none, then_ite, Option.bind_none, Bool.not_eq_true', decide_eq_false_iff_not, Bool.and_eq_true, Bool.or_eq_true, Option.some.injEq, Int.not_lt, Int.not_le, lp71_0, hx, hlt, e1, hs, List.length_map]
      refine ⟨i + 1, by simp only [go_sem, reduceIte, Nat.reduceEqDiff, Nat.reduceAdd, Nat.reduceSub, Nat.reduceLeDiff, Nat.reduceLT, reduceCtorEq, Int.reduceLT, Int.reduceLE, Int.reduceEq, Int.reduceBEq, Int.reduceSub, Int.reduceAdd, Int.reduceMul, Int.reduceNeg, Int.reduceToNat, Nat.reduceMul, Nat.reduceBEq, ren1_locm, loc_tips, locT_eq] <;> rfl, ?_, ?_, fun x en s hq => ?_⟩
      · omega
      · omega
      · simp only [List.mem_cons, Prod.mk.injEq, Ne.symm e1, false_and, false_or]; exact hq
  · have hd : ps.drop i = [] := List.drop_eq_nil_of_le (by omega)
    have hlt : ((i : Int) < (ps.length : Int)) = False := eq_false (by omega)
    simp only [go_sem, reduceIte, Nat.reduceEqDiff, Nat.reduceAdd, Nat.reduceSub, Nat.reduceLeDiff, Nat.reduceLT, reduceCtorEq, Int.reduceLT, Int.reduceLE, Int.reduceEq, Int.reduceBEq, Int.reduceSub, Int.reduceAdd, Int.reduceMul, Int.reduceNeg, Int.reduceToNat, Nat.reduceMul, Nat.reduceBEq, index_rsl_if, setm, make_ints, condK_dec, wantK_dec, not_dec, and_dec, or_dec, seqK_ite, seqK_none, blockK_ite, blockK_none, opsK_ite, opsK_none, stepK_ite, stepK_none, bodyK_ite, bodyK_none, resK_ite, resK_none, leaveK_ite, leaveK_none, only_ite, only_none, bind_ite, gives_some, gives_none, gives_ite, then_normal, then_ret, then_exit, then_none, then_ite, Option.bind_none, Bool.not_eq_true', decide_eq_false_iff_not, Bool.and_eq_true, Bool.or_eq_true, Option.some.injEq, Int.not_lt, Int.not_le, lp71_0, hlt, List.length_map]
    rw [hd]; simp

theorem c71 (nl : Bool) (n : Int) (ps : List (Int × Int)) (hlen : ps.length < 1000000) (p q : Int) (st : St) :
    run L 71 [bkAV nl n ps, I p, I q] st = some (B (decide ((p, q) ∈ ps)), st) := by
  rw [run_pure (fn := ir71) rfl rfl]
  simp only [ir71, go_sem, reduceIte, Nat.reduceEqDiff, Nat.reduceAdd, Nat.reduceSub, Nat.reduceLeDiff, Nat.reduceLT, reduceCtorEq, Int.reduceLT, Int.reduceLE, Int.reduceEq, Int.reduceBEq, Int.reduceSub, Int.reduceAdd, Int.reduceMul, Int.reduceNeg, Int.reduceToNat, Nat.reduceMul, Nat.reduceBEq]
  generalize hg : lim (headed pure (run L) true _ lp71_0 _ _) _ _ = o
  obtain ⟨x, en, s, rfl, h2⟩ : ∃ x en s, o = some (x, en, s) ∧ _ := by rw [← hg]; exact loop71 nl n ps hlen p q 0 (by omega) _ _ (by simp only [go_sem, reduceIte, Nat.reduceEqDiff, Nat.reduceAdd, Nat.reduceSub, Nat.reduceLeDiff, Nat.reduceLT, reduceCtorEq, Int.reduceLT, Int.reduceLE, Int.reduceEq, Int.reduceBEq, Int.reduceSub, Int.reduceAdd, Int.reduceMul, Int.reduceNeg, Int.reduceToNat, Nat.reduceMul, Nat.reduceBEq] <;> rfl)
  clear hg
  rw [List.drop_zero] at h2
  by_cases h : (p, q) ∈ ps
  · rw [if_pos h] at h2
    obtain ⟨rfl, h3⟩ := h2
    simp only [go_sem, reduceIte, Nat.reduceEqDiff, Nat.reduceAdd, Nat.reduceSub, Nat.reduceLeDiff, Nat.reduceLT, reduceCtorEq, Int.reduceLT, Int.reduceLE, Int.reduceEq, Int.reduceBEq, Int.reduceSub, Int.reduceAdd, Int.reduceMul, Int.reduceNeg, Int.reduceToNat, Nat.reduceMul, Nat.reduceBEq, h3, h]
  · rw [if_neg h] at h2
    subst h2
    simp only [go_sem, reduceIte, Nat.reduceEqDiff, Nat.reduceAdd, Nat.reduceSub, Nat.reduceLeDiff, Nat.reduceLT, reduceCtorEq, Int.reduceLT, Int.reduceLE, Int.reduceEq, Int.reduceBEq, Int.reduceSub, Int.reduceAdd, Int.reduceMul, Int.reduceNeg, Int.reduceToNat, Nat.reduceMul, Nat.reduceBEq, h]


/-- What is wrong with a pair behind others; with pairs; with a book. -/
def prErr (n : Int) (seen : List (Int × Int)) (p : Int × Int) : Int := if p.1 < 0 ∨ p.2 < 0 ∨ n ≤ p.1 ∨ n ≤ p.2 then 2 else if p.1 = p.2 then 5 else if p ∈ seen then 6 else 0
def prsErr (n : Int) : List (Int × Int) → List (Int × Int) → Int
  | _, [] => 0
  | seen, p :: r => if prErr n seen p = 0 then prsErr n (seen ++ [p]) r else prErr n seen p
def chk (n : Int) (ps : List (Int × Int)) : Int := if n < 1 ∨ 7 < n then 1 else if 16 < ps.length then 3 else prsErr n [] ps

theorem loop24 (nl : Bool) (n : Int) (hn : 1 ≤ n ∧ n ≤ 7) (ps : List (Int × Int)) (hlen : ps.length ≤ 16) (i : Nat) (hok : i ≤ ps.length) (env : Env) (st : St)
    (hg : gcAV true 1 0 (canon env [1, 20, 21, 22]) st = ([(1, .ptr 0 0), (20, sl 2 nl (ps.map prAV)), (21, I ps.length), (22, I i)], ⟨[bkCells nl n ps], []⟩)) :
    ∃ x_1 en s, lim (headed pure (run L) true [1, 20, 21, 22] lp24_0 1 0) env st = some (x_1, en, s) ∧ (if prsErr n (ps.take i) (ps.drop i) = 0 then x_1 = .exit 1 else x_1 = .ret ∧ en.get 2 = I (prsErr n (ps.take i) (ps.drop i))) := by
  refine loop_wp (α := Nat) (fun i => ps.length - i) (fun i => i ≤ ps.length) (fun i => ([(1, .ptr 0 0), (20, sl 2 nl (ps.map prAV)), (21, I ps.length), (22, I i)], ⟨[bkCells nl n ps], []⟩)) (fun i x_1 en s => if prsErr n (ps.take i) (ps.drop i) = 0 then x_1 = .exit 1 else x_1 = .ret ∧ en.get 2 = I (prsErr n (ps.take i) (ps.drop i))) (fun i hok => ?_) i hok env st hg
  by_cases h : i < ps.length
  · have hx := index_prs nl ps i h
    have hs := succ64 i (by omega)
    have hd : ps.drop i = ps[i] :: ps.drop (i + 1) := List.drop_eq_getElem_cons h
    have ht : ps.take (i + 1) = ps.take i ++ [ps[i]] := by rw [List.take_succ_eq_append_getElem h]
    have hsl := slice_prs nl ps i h
    have h76 := fun p q st => c49 false (ps.take i) (by rw [List.length_take]; omega) p q st
    rw [hd]
    generalize ps[i] = c at *
    obtain ⟨u, v⟩ := c
    have hlt : ((i : Int) < (ps.length : Int)) = True := eq_true (by omega)
    simp only at hx
    have hmn : (if v < u then v else u) = min u v := by rw [Int.min_def]; split <;> split <;> omega
    have hmx : (if u < v then v else u) = max u v := by rw [Int.max_def]; split <;> split <;> omega
    by_cases p1 : min u v < 0
    · have he : prErr n (ps.take i) (u, v) = 2 := by unfold prErr; simp only; rw [if_pos (by omega)]
      simp only [go_sem, reduceIte, Nat.reduceEqDiff, Nat.reduceAdd, Nat.reduceSub, Nat.reduceLeDiff, Nat.reduceLT, reduceCtorEq, Int.reduceLT, Int.reduceLE, Int.reduceEq, Int.reduceBEq, Int.reduceSub, Int.reduceAdd, Int.reduceMul, Int.reduceNeg, Int.reduceToNat, Nat.reduceMul, Nat.reduceBEq, index_rsl_if, setm, make_ints, condK_dec, wantK_dec, not_dec, and_dec, or_dec, seqK_ite, seqK_none, blockK_ite, blockK_none, opsK_ite, opsK_none, stepK_ite, stepK_none, bodyK_ite, bodyK_none, resK_ite, resK_none, leaveK_ite, leaveK_none, only_ite, only_none, bind_ite, gives_some, gives_none, gives_ite, then_normal, then_ret, then_exit, then_none, then_ite, Option.bind_none, Bool.not_eq_true', decide_eq_false_iff_not, Bool.and_eq_true, Bool.or_eq_true, Option.some.injEq, Int.not_lt, Int.not_le, lp24_0, hx, hlt, p1, hmn, hmx, List.length_map]
      simp [prsErr, he]
    by_cases p1b : n ≤ max u v
    · have he : prErr n (ps.take i) (u, v) = 2 := by unfold prErr; simp only; rw [if_pos (by omega)]
      simp only [go_sem, reduceIte, Nat.reduceEqDiff, Nat.reduceAdd, Nat.reduceSub, Nat.reduceLeDiff, Nat.reduceLT, reduceCtorEq, Int.reduceLT, Int.reduceLE, Int.reduceEq, Int.reduceBEq, Int.reduceSub, Int.reduceAdd, Int.reduceMul, Int.reduceNeg, Int.reduceToNat, Nat.reduceMul, Nat.reduceBEq, index_rsl_if, setm, make_ints, condK_dec, wantK_dec, not_dec, and_dec, or_dec, seqK_ite, seqK_none, blockK_ite, blockK_none, opsK_ite, opsK_none, stepK_ite, stepK_none, bodyK_ite, bodyK_none, resK_ite, resK_none, leaveK_ite, leaveK_none, only_ite, only_none, bind_ite, gives_some, gives_none, gives_ite, then_normal, then_ret, then_exit, then_none, then_ite, Option.bind_none, Bool.not_eq_true', decide_eq_false_iff_not, Bool.and_eq_true, Bool.or_eq_true, Option.some.injEq, Int.not_lt, Int.not_le, lp24_0, hx, hlt, p1, p1b, hmn, hmx, List.length_map]
      simp [prsErr, he]
    by_cases p2 : u = v
    · have he : prErr n (ps.take i) (u, v) = 5 := by unfold prErr; simp only; rw [if_neg (by omega), if_pos p2]
      have p2' : (u = v) = True := eq_true p2
      simp only [go_sem, reduceIte, Nat.reduceEqDiff, Nat.reduceAdd, Nat.reduceSub, Nat.reduceLeDiff, Nat.reduceLT, reduceCtorEq, Int.reduceLT, Int.reduceLE, Int.reduceEq, Int.reduceBEq, Int.reduceSub, Int.reduceAdd, Int.reduceMul, Int.reduceNeg, Int.reduceToNat, Nat.reduceMul, Nat.reduceBEq, index_rsl_if, setm, make_ints, condK_dec, wantK_dec, not_dec, and_dec, or_dec, seqK_ite, seqK_none, blockK_ite, blockK_none, opsK_ite, opsK_none, stepK_ite, stepK_none, bodyK_ite, bodyK_none, resK_ite, resK_none, leaveK_ite, leaveK_none, only_ite, only_none, bind_ite, gives_some, gives_none, gives_ite, then_normal, then_ret, then_exit, then_none, then_ite, Option.bind_none, Bool.not_eq_true', decide_eq_false_iff_not, Bool.and_eq_true, Bool.or_eq_true, Option.some.injEq, Int.not_lt, Int.not_le, lp24_0, hx, hlt, p1, p1b, hmn, hmx, p2', List.length_map]
      simp [prsErr, he]
    · by_cases p3 : (u, v) ∈ ps.take i
      · have he : prErr n (ps.take i) (u, v) = 6 := by unfold prErr; simp only; rw [if_neg (by omega), if_neg p2, if_pos p3]
        simp only [go_sem, reduceIte, Nat.reduceEqDiff, Nat.reduceAdd, Nat.reduceSub, Nat.reduceLeDiff, Nat.reduceLT, reduceCtorEq, Int.reduceLT, Int.reduceLE, Int.reduceEq, Int.reduceBEq, Int.reduceSub, Int.reduceAdd, Int.reduceMul, Int.reduceNeg, Int.reduceToNat, Nat.reduceMul, Nat.reduceBEq, index_rsl_if, setm, make_ints, condK_dec, wantK_dec, not_dec, and_dec, or_dec, seqK_ite, seqK_none, blockK_ite, blockK_none, opsK_ite, opsK_none, stepK_ite, stepK_none, bodyK_ite, bodyK_none, resK_ite, resK_none, leaveK_ite, leaveK_none, only_ite, only_none, bind_ite, gives_some, gives_none, gives_ite, then_normal, then_ret, then_exit, then_none, then_ite, Option.bind_none, Bool.not_eq_true', decide_eq_false_iff_not, Bool.and_eq_true, Bool.or_eq_true, Option.some.injEq, Int.not_lt, Int.not_le, lp24_0, hx, hlt, p1, p1b, hmn, hmx, p2, hsl, h76, p3, List.length_map]
        simp [prsErr, he]
      · have he : prErr n (ps.take i) (u, v) = 0 := by unfold prErr; simp only; rw [if_neg (by omega), if_neg p2, if_neg p3]
        simp only [go_sem, reduceIte, Nat.reduceEqDiff, Nat.reduceAdd, Nat.reduceSub, Nat.reduceLeDiff, Nat.reduceLT, reduceCtorEq, Int.reduceLT, Int.reduceLE, Int.reduceEq, Int.reduceBEq, Int.reduceSub, Int.reduceAdd, Int.reduceMul, Int.reduceNeg, Int.reduceToNat, Nat.reduceMul, Nat.reduceBEq, index_rsl_if, setm, make_ints, condK_dec, wantK_dec, not_dec, and_dec, or_dec, seqK_ite, seqK_none, blockK_ite, blockK_none, opsK_ite, opsK_none, stepK_ite, stepK_none, bodyK_ite, bodyK_none, resK_ite, resK_none, leaveK_ite, leaveK_none, only_ite, only_none, bind_ite, gives_some, gives_none, gives_ite, then_normal, then_ret, then_exit, then_none, then_ite, Option.bind_none, Bool.not_eq_true', decide_eq_false_iff_not, Bool.and_eq_true, Bool.or_eq_true, Option.some.injEq, Int.not_lt, Int.not_le, lp24_0, hx, hlt, p1, p1b, hmn, hmx, p2, hsl, h76, p3, hs, List.length_map]
        refine ⟨i + 1, by simp only [go_sem, reduceIte, Nat.reduceEqDiff, Nat.reduceAdd, Nat.reduceSub, Nat.reduceLeDiff, Nat.reduceLT, reduceCtorEq, Int.reduceLT, Int.reduceLE, Int.reduceEq, Int.reduceBEq, Int.reduceSub, Int.reduceAdd, Int.reduceMul, Int.reduceNeg, Int.reduceToNat, Nat.reduceMul, Nat.reduceBEq, ren1_locm, loc_tips, locT_eq] <;> rfl, ?_, ?_, fun x en s hq => ?_⟩
        · omega
        · omega
        · have e2 : prsErr n (ps.take i) ((u, v) :: ps.drop (i + 1)) = prsErr n (ps.take (i + 1)) (ps.drop (i + 1)) := by simp only [prsErr, he, if_true, ht]
          rw [e2]; exact hq
  · have hd : ps.drop i = [] := List.drop_eq_nil_of_le (by omega)
    have hlt : ((i : Int) < (ps.length : Int)) = False := eq_false (by omega)
    simp only [go_sem, reduceIte, Nat.reduceEqDiff, Nat.reduceAdd, Nat.reduceSub, Nat.reduceLeDiff, Nat.reduceLT, reduceCtorEq, Int.reduceLT, Int.reduceLE, Int.reduceEq, Int.reduceBEq, Int.reduceSub, Int.reduceAdd, Int.reduceMul, Int.reduceNeg, Int.reduceToNat, Nat.reduceMul, Nat.reduceBEq, index_rsl_if, setm, make_ints, condK_dec, wantK_dec, not_dec, and_dec, or_dec, seqK_ite, seqK_none, blockK_ite, blockK_none, opsK_ite, opsK_none, stepK_ite, stepK_none, bodyK_ite, bodyK_none, resK_ite, resK_none, leaveK_ite, leaveK_none, only_ite, only_none, bind_ite, gives_some, gives_none, gives_ite, then_normal, then_ret, then_exit, then_none, then_ite, Option.bind_none, Bool.not_eq_true', decide_eq_false_iff_not, Bool.and_eq_true, Bool.or_eq_true, Option.some.injEq, Int.not_lt, Int.not_le, lp24_0, hlt, List.length_map]
    rw [hd]; simp [prsErr]

theorem c24 (nl : Bool) (n : Int) (ps : List (Int × Int)) (st : St) :
    run L 24 [bkAV nl n ps] st = some (I (chk n ps), st) := by
  rw [run_pure (fn := ir24) rfl rfl]
  unfold chk
  by_cases p0 : n < 1 ∨ 7 < n
  · rw [if_pos p0]
    by_cases a : n < 1
    · simp only [ir24, go_sem, reduceIte, Nat.reduceEqDiff, Nat.reduceAdd, Nat.reduceSub, Nat.reduceLeDiff, Nat.reduceLT, reduceCtorEq, Int.reduceLT, Int.reduceLE, Int.reduceEq, Int.reduceBEq, Int.reduceSub, Int.reduceAdd, Int.reduceMul, Int.reduceNeg, Int.reduceToNat, Nat.reduceMul, Nat.reduceBEq, a]
    · simp only [ir24, go_sem, reduceIte, Nat.reduceEqDiff, Nat.reduceAdd, Nat.reduceSub, Nat.reduceLeDiff, Nat.reduceLT, reduceCtorEq, Int.reduceLT, Int.reduceLE, Int.reduceEq, Int.reduceBEq, Int.reduceSub, Int.reduceAdd, Int.reduceMul, Int.reduceNeg, Int.reduceToNat, Nat.reduceMul, Nat.reduceBEq, a, show (7 < n) = True from eq_true (by omega)]
  · rw [if_neg p0]
    by_cases p1 : 16 < ps.length
    · have q1 : ((16 : Int) < (ps.length : Int)) = True := eq_true (by omega)
      rw [if_pos p1]
      simp only [ir24, go_sem, reduceIte, Nat.reduceEqDiff, Nat.reduceAdd, Nat.reduceSub, Nat.reduceLeDiff, Nat.reduceLT, reduceCtorEq, Int.reduceLT, Int.reduceLE, Int.reduceEq, Int.reduceBEq, Int.reduceSub, Int.reduceAdd, Int.reduceMul, Int.reduceNeg, Int.reduceToNat, Nat.reduceMul, Nat.reduceBEq, show (n < 1) = False from eq_false (by omega), show (7 < n) = False from eq_false (by omega), q1, List.length_map]
    · have q1 : ((16 : Int) < (ps.length : Int)) = False := eq_false (by omega)
      rw [if_neg p1]
      simp only [ir24, go_sem, reduceIte, Nat.reduceEqDiff, Nat.reduceAdd, Nat.reduceSub, Nat.reduceLeDiff, Nat.reduceLT, reduceCtorEq, Int.reduceLT, Int.reduceLE, Int.reduceEq, Int.reduceBEq, Int.reduceSub, Int.reduceAdd, Int.reduceMul, Int.reduceNeg, Int.reduceToNat, Nat.reduceMul, Nat.reduceBEq, show (n < 1) = False from eq_false (by omega), show (7 < n) = False from eq_false (by omega), q1, List.length_map]
      generalize hg : lim (headed pure (run L) true _ lp24_0 _ _) _ _ = o
      obtain ⟨x, en, s, rfl, h2⟩ : ∃ x en s, o = some (x, en, s) ∧ _ := by rw [← hg]; exact loop24 nl n (by omega) ps (by omega) 0 (by omega) _ _ (by simp only [go_sem, reduceIte, Nat.reduceEqDiff, Nat.reduceAdd, Nat.reduceSub, Nat.reduceLeDiff, Nat.reduceLT, reduceCtorEq, Int.reduceLT, Int.reduceLE, Int.reduceEq, Int.reduceBEq, Int.reduceSub, Int.reduceAdd, Int.reduceMul, Int.reduceNeg, Int.reduceToNat, Nat.reduceMul, Nat.reduceBEq] <;> rfl)
      clear hg
      simp only [List.drop_zero, List.take_zero] at h2
      by_cases h : prsErr n [] ps = 0
      · rw [if_pos h] at h2
        subst h2
        simp only [go_sem, reduceIte, Nat.reduceEqDiff, Nat.reduceAdd, Nat.reduceSub, Nat.reduceLeDiff, Nat.reduceLT, reduceCtorEq, Int.reduceLT, Int.reduceLE, Int.reduceEq, Int.reduceBEq, Int.reduceSub, Int.reduceAdd, Int.reduceMul, Int.reduceNeg, Int.reduceToNat, Nat.reduceMul, Nat.reduceBEq, h]
      · rw [if_neg h] at h2
        obtain ⟨rfl, h3⟩ := h2
        simp only [go_sem, reduceIte, Nat.reduceEqDiff, Nat.reduceAdd, Nat.reduceSub, Nat.reduceLeDiff, Nat.reduceLT, reduceCtorEq, Int.reduceLT, Int.reduceLE, Int.reduceEq, Int.reduceBEq, Int.reduceSub, Int.reduceAdd, Int.reduceMul, Int.reduceNeg, Int.reduceToNat, Nat.reduceMul, Nat.reduceBEq, h3]

theorem loop25 (nl : Bool) (n : Int) (hn : 1 ≤ n ∧ n ≤ 7) (ps : List (Int × Int)) (hlen : ps.length ≤ 16) (i : Nat) (hok : i ≤ ps.length) (env : Env) (st : St)
    (hg : gcAV true 1 0 (canon env [1, 3]) st = ([(1, .ptr 0 0), (3, I i)], ⟨[bkCells nl n ps], []⟩)) :
    ∃ x_1 en s, lim (headed pure (run L) true [1, 3] lp25_0 1 0) env st = some (x_1, en, s) ∧ (if prsErr n (ps.take i) (ps.drop i) = 0 then x_1 = .exit 0 else x_1 = .ret ∧ en.get 2 = I (prsErr n (ps.take i) (ps.drop i))) := by
  refine loop_wp (α := Nat) (fun i => ps.length - i) (fun i => i ≤ ps.length) (fun i => ([(1, .ptr 0 0), (3, I i)], ⟨[bkCells nl n ps], []⟩)) (fun i x_1 en s => if prsErr n (ps.take i) (ps.drop i) = 0 then x_1 = .exit 0 else x_1 = .ret ∧ en.get 2 = I (prsErr n (ps.take i) (ps.drop i))) (fun i hok => ?_) i hok env st hg
  by_cases h : i < ps.length
  · have hx := index_prs nl ps i h
    have hs := succ64 i (by omega)
    have hd : ps.drop i = ps[i] :: ps.drop (i + 1) := List.drop_eq_getElem_cons h
    have ht : ps.take (i + 1) = ps.take i ++ [ps[i]] := by rw [List.take_succ_eq_append_getElem h]
    have hsl := slice_prs nl ps i h
    have h76 := fun p q st => c71 false n (ps.take i) (by rw [List.length_take]; omega) p q st
    rw [hd]
    generalize ps[i] = c at *
    obtain ⟨u, v⟩ := c
    have hlt : ((i : Int) < (ps.length : Int)) = True := eq_true (by omega)
    simp only at hx
    have hw : IntKind.i64.wrap (n - 1) = n - 1 := by rw [wrap64] <;> omega
    by_cases p1 : ¬(0 ≤ u ∧ u ≤ n - 1)
    · have he : prErr n (ps.take i) (u, v) = 2 := by unfold prErr; simp only; rw [if_pos (by omega)]
      simp only [go_sem, reduceIte, Nat.reduceEqDiff, Nat.reduceAdd, Nat.reduceSub, Nat.reduceLeDiff, Nat.reduceLT, reduceCtorEq, Int.reduceLT, Int.reduceLE, Int.reduceEq, Int.reduceBEq, Int.reduceSub, Int.reduceAdd, Int.reduceMul, Int.reduceNeg, Int.reduceToNat, Nat.reduceMul, Nat.reduceBEq, index_rsl_if, setm, make_ints, condK_dec, wantK_dec, not_dec, and_dec, or_dec, seqK_ite, seqK_none, blockK_ite, blockK_none, opsK_ite, opsK_none, stepK_ite, stepK_none, bodyK_ite, bodyK_none, resK_ite, resK_none, leaveK_ite, leaveK_none, only_ite, only_none, bind_ite, gives_some, gives_none, gives_ite, then_normal, then_ret, then_exit, then_none, then_ite, Option.bind_none, Bool.not_eq_true', decide_eq_false_iff_not, Bool.and_eq_true, Bool.or_eq_true, Option.some.injEq, Int.not_lt, Int.not_le, lp25_0, hx, hlt, c70, hw, p1, List.length_map]
      simp [prsErr, he]
    replace p1 := Decidable.not_not.1 p1
    by_cases p1b : ¬(0 ≤ v ∧ v ≤ n - 1)
    · have he : prErr n (ps.take i) (u, v) = 2 := by unfold prErr; simp only; rw [if_pos (by omega)]
      simp only [go_sem, reduceIte, Nat.reduceEqDiff, Nat.reduceAdd, Nat.reduceSub, Nat.reduceLeDiff, Nat.reduceLT, reduceCtorEq, Int.reduceLT, Int.reduceLE, Int.reduceEq, Int.reduceBEq, Int.reduceSub, Int.reduceAdd, Int.reduceMul, Int.reduceNeg, Int.reduceToNat, Nat.reduceMul, Nat.reduceBEq, index_rsl_if, setm, make_ints, condK_dec, wantK_dec, not_dec, and_dec, or_dec, seqK_ite, seqK_none, blockK_ite, blockK_none, opsK_ite, opsK_none, stepK_ite, stepK_none, bodyK_ite, bodyK_none, resK_ite, resK_none, leaveK_ite, leaveK_none, only_ite, only_none, bind_ite, gives_some, gives_none, gives_ite, then_normal, then_ret, then_exit, then_none, then_ite, Option.bind_none, Bool.not_eq_true', decide_eq_false_iff_not, Bool.and_eq_true, Bool.or_eq_true, Option.some.injEq, Int.not_lt, Int.not_le, lp25_0, hx, hlt, c70, hw, p1, p1b, List.length_map]
      simp [prsErr, he]
    replace p1b := Decidable.not_not.1 p1b
    by_cases p2 : u = v
    · have he : prErr n (ps.take i) (u, v) = 5 := by unfold prErr; simp only; rw [if_neg (by omega), if_pos p2]
      have p2' : (u = v) = True := eq_true p2
      simp only [go_sem, reduceIte, Nat.reduceEqDiff, Nat.reduceAdd, Nat.reduceSub, Nat.reduceLeDiff, Nat.reduceLT, reduceCtorEq, Int.reduceLT, Int.reduceLE, Int.reduceEq, Int.reduceBEq, Int.reduceSub, Int.reduceAdd, Int.reduceMul, Int.reduceNeg, Int.reduceToNat, Nat.reduceMul, Nat.reduceBEq, index_rsl_if, setm, make_ints, condK_dec, wantK_dec, not_dec, and_dec, or_dec, seqK_ite, seqK_none, blockK_ite, blockK_none, opsK_ite, opsK_none, stepK_ite, stepK_none, bodyK_ite, bodyK_none, resK_ite, resK_none, leaveK_ite, leaveK_none, only_ite, only_none, bind_ite, gives_some, gives_none, gives_ite, then_normal, then_ret, then_exit, then_none, then_ite, Option.bind_none, Bool.not_eq_true', decide_eq_false_iff_not, Bool.and_eq_true, Bool.or_eq_true, Option.some.injEq, Int.not_lt, Int.not_le, lp25_0, hx, hlt, c70, hw, p1, p1b, p2', List.length_map]
      simp [prsErr, he]
    · by_cases p3 : (u, v) ∈ ps.take i
      · have he : prErr n (ps.take i) (u, v) = 6 := by unfold prErr; simp only; rw [if_neg (by omega), if_neg p2, if_pos p3]
        simp only [go_sem, reduceIte, Nat.reduceEqDiff, Nat.reduceAdd, Nat.reduceSub, Nat.reduceLeDiff, Nat.reduceLT, reduceCtorEq, Int.reduceLT, Int.reduceLE, Int.reduceEq, Int.reduceBEq, Int.reduceSub, Int.reduceAdd, Int.reduceMul, Int.reduceNeg, Int.reduceToNat, Nat.reduceMul, Nat.reduceBEq, index_rsl_if, setm, make_ints, condK_dec, wantK_dec, not_dec, and_dec, or_dec, seqK_ite, seqK_none, blockK_ite, blockK_none, opsK_ite, opsK_none, stepK_ite, stepK_none, bodyK_ite, bodyK_none, resK_ite, resK_none, leaveK_ite, leaveK_none, only_ite, only_none, bind_ite, gives_some, gives_none, gives_ite, then_normal, then_ret, then_exit, then_none, then_ite, Option.bind_none, Bool.not_eq_true', decide_eq_false_iff_not, Bool.and_eq_true, Bool.or_eq_true, Option.some.injEq, Int.not_lt, Int.not_le, lp25_0, hx, hlt, c70, hw, p1, p1b, p2, hsl, h76, p3, List.length_map]
        simp [prsErr, he]
      · have he : prErr n (ps.take i) (u, v) = 0 := by unfold prErr; simp only; rw [if_neg (by omega), if_neg p2, if_neg p3]
        simp only [go_sem, reduceIte, Nat.reduceEqDiff, Nat.reduceAdd, Nat.reduceSub, Nat.reduceLeDiff, Nat.reduceLT, reduceCtorEq, Int.reduceLT, Int.reduceLE, Int.reduceEq, Int.reduceBEq, Int.reduceSub, Int.reduceAdd, Int.reduceMul, Int.reduceNeg, Int.reduceToNat, Nat.reduceMul, Nat.reduceBEq, index_rsl_if, setm, make_ints, condK_dec, wantK_dec, not_dec, and_dec, or_dec, seqK_ite, seqK_none, blockK_ite, blockK_none, opsK_ite, opsK_none, stepK_ite, stepK_none, bodyK_ite, bodyK_none, resK_ite, resK_none, leaveK_ite, leaveK_none, only_ite, only_none, bind_ite, gives_some, gives_none, gives_ite, then_normal, then_ret, then_exit, then_none, then_ite, Option.bind_none, Bool.not_eq_true', decide_eq_false_iff_not, Bool.and_eq_true, Bool.or_eq_true, Option.some.injEq, Int.not_lt, Int.not_le, lp25_0, hx, hlt, c70, hw, p1, p1b, p2, hsl, h76, p3, hs, List.length_map]
        refine ⟨i + 1, by simp only [go_sem, reduceIte, Nat.reduceEqDiff, Nat.reduceAdd, Nat.reduceSub, Nat.reduceLeDiff, Nat.reduceLT, reduceCtorEq, Int.reduceLT, Int.reduceLE, Int.reduceEq, Int.reduceBEq, Int.reduceSub, Int.reduceAdd, Int.reduceMul, Int.reduceNeg, Int.reduceToNat, Nat.reduceMul, Nat.reduceBEq, ren1_locm, loc_tips, locT_eq] <;> rfl, ?_, ?_, fun x en s hq => ?_⟩
        · omega
        · omega
        · have e2 : prsErr n (ps.take i) ((u, v) :: ps.drop (i + 1)) = prsErr n (ps.take (i + 1)) (ps.drop (i + 1)) := by simp only [prsErr, he, if_true, ht]
          rw [e2]; exact hq
  · have hd : ps.drop i = [] := List.drop_eq_nil_of_le (by omega)
    have hlt : ((i : Int) < (ps.length : Int)) = False := eq_false (by omega)
    simp only [go_sem, reduceIte, Nat.reduceEqDiff, Nat.reduceAdd, Nat.reduceSub, Nat.reduceLeDiff, Nat.reduceLT, reduceCtorEq, Int.reduceLT, Int.reduceLE, Int.reduceEq, Int.reduceBEq, Int.reduceSub, Int.reduceAdd, Int.reduceMul, Int.reduceNeg, Int.reduceToNat, Nat.reduceMul, Nat.reduceBEq, index_rsl_if, setm, make_ints, condK_dec, wantK_dec, not_dec, and_dec, or_dec, seqK_ite, seqK_none, blockK_ite, blockK_none, opsK_ite, opsK_none, stepK_ite, stepK_none, bodyK_ite, bodyK_none, resK_ite, resK_none, leaveK_ite, leaveK_none, only_ite, only_none, bind_ite, gives_some, gives_none, gives_ite, then_normal, then_ret, then_exit, then_none, then_ite, Option.bind_none, Bool.not_eq_true', decide_eq_false_iff_not, Bool.and_eq_true, Bool.or_eq_true, Option.some.injEq, Int.not_lt, Int.not_le, lp25_0, hlt, List.length_map]
    rw [hd]; simp [prsErr]

theorem c25 (nl : Bool) (n : Int) (ps : List (Int × Int)) (st : St) :
    run L 25 [bkAV nl n ps] st = some (I (chk n ps), st) := by
  rw [run_pure (fn := ir25) rfl rfl]
  unfold chk
  by_cases p0 : n < 1 ∨ 7 < n
  · rw [if_pos p0]
    simp only [ir25, go_sem, reduceIte, Nat.reduceEqDiff, Nat.reduceAdd, Nat.reduceSub, Nat.reduceLeDiff, Nat.reduceLT, reduceCtorEq, Int.reduceLT, Int.reduceLE, Int.reduceEq, Int.reduceBEq, Int.reduceSub, Int.reduceAdd, Int.reduceMul, Int.reduceNeg, Int.reduceToNat, Nat.reduceMul, Nat.reduceBEq, c70, show (1 ≤ n ∧ n ≤ 7) = False from eq_false (by omega)]
  · rw [if_neg p0]
    by_cases p1 : 16 < ps.length
    · have q1 : ((16 : Int) < (ps.length : Int)) = True := eq_true (by omega)
      rw [if_pos p1]
      simp only [ir25, go_sem, reduceIte, Nat.reduceEqDiff, Nat.reduceAdd, Nat.reduceSub, Nat.reduceLeDiff, Nat.reduceLT, reduceCtorEq, Int.reduceLT, Int.reduceLE, Int.reduceEq, Int.reduceBEq, Int.reduceSub, Int.reduceAdd, Int.reduceMul, Int.reduceNeg, Int.reduceToNat, Nat.reduceMul, Nat.reduceBEq, c70, show (1 ≤ n ∧ n ≤ 7) = True from eq_true (by omega), q1, List.length_map]
    · have q1 : ((16 : Int) < (ps.length : Int)) = False := eq_false (by omega)
      rw [if_neg p1]
      simp only [ir25, go_sem, reduceIte, Nat.reduceEqDiff, Nat.reduceAdd, Nat.reduceSub, Nat.reduceLeDiff, Nat.reduceLT, reduceCtorEq, Int.reduceLT, Int.reduceLE, Int.reduceEq, Int.reduceBEq, Int.reduceSub, Int.reduceAdd, Int.reduceMul, Int.reduceNeg, Int.reduceToNat, Nat.reduceMul, Nat.reduceBEq, c70, show (1 ≤ n ∧ n ≤ 7) = True from eq_true (by omega), q1, List.length_map]
      generalize hg : lim (headed pure (run L) true _ lp25_0 _ _) _ _ = o
      obtain ⟨x, en, s, rfl, h2⟩ : ∃ x en s, o = some (x, en, s) ∧ _ := by rw [← hg]; exact loop25 nl n (by omega) ps (by omega) 0 (by omega) _ _ (by simp only [go_sem, reduceIte, Nat.reduceEqDiff, Nat.reduceAdd, Nat.reduceSub, Nat.reduceLeDiff, Nat.reduceLT, reduceCtorEq, Int.reduceLT, Int.reduceLE, Int.reduceEq, Int.reduceBEq, Int.reduceSub, Int.reduceAdd, Int.reduceMul, Int.reduceNeg, Int.reduceToNat, Nat.reduceMul, Nat.reduceBEq] <;> rfl)
      clear hg
      simp only [List.drop_zero, List.take_zero] at h2
      by_cases h : prsErr n [] ps = 0
      · rw [if_pos h] at h2
        subst h2
        simp only [go_sem, reduceIte, Nat.reduceEqDiff, Nat.reduceAdd, Nat.reduceSub, Nat.reduceLeDiff, Nat.reduceLT, reduceCtorEq, Int.reduceLT, Int.reduceLE, Int.reduceEq, Int.reduceBEq, Int.reduceSub, Int.reduceAdd, Int.reduceMul, Int.reduceNeg, Int.reduceToNat, Nat.reduceMul, Nat.reduceBEq, h]
      · rw [if_neg h] at h2
        obtain ⟨rfl, h3⟩ := h2
        simp only [go_sem, reduceIte, Nat.reduceEqDiff, Nat.reduceAdd, Nat.reduceSub, Nat.reduceLeDiff, Nat.reduceLT, reduceCtorEq, Int.reduceLT, Int.reduceLE, Int.reduceEq, Int.reduceBEq, Int.reduceSub, Int.reduceAdd, Int.reduceMul, Int.reduceNeg, Int.reduceToNat, Nat.reduceMul, Nat.reduceBEq, h3]


theorem run_args {f : FuncId} {fn : IF} (hf : L.fns f = some fn) (hp : L.pure f = true) {args args' : List AV} (st : St) (h : pubs args = pubs args') : run L f args st = run L f args' st := by
  rw [run_pure hf hp, run_pure hf hp, h]
/-! ### a book by numbers -/
/-! ### a list of pairs that grows in a struct -/
def outAV (o : List (Int × Int)) : AV := loc 2 0 (o.map prAV)
theorem okRef_out (n : Nat) (o : List (Int × Int)) : okRef n (outAV o) = true := okRef_loc _ _ _ _
theorem storable_out (o : List (Int × Int)) : storable (outAV o) = true := storable_loc _ _ _
theorem shaped_out (o : List (Int × Int)) : (outAV o).shaped = true := shaped_loc _ _ _
theorem cells_out (o : List (Int × Int)) : (outAV o).cells = [outAV o] := cells_loc _ _ _
theorem fin_out (st : St) (o : List (Int × Int)) : fin st (outAV o) = sl 2 true (o.map prAV) := fin_loc st 2 0 _
theorem pub_out (o : List (Int × Int)) : pub (outAV o) = sl 2 true (o.map prAV) := pub_loc 2 0 _
attribute [local go_sem] okRef_out storable_out shaped_out cells_out fin_out pub_out


abbrev U (n : Nat) : AV := .v (.int .u64 n)
theorem wrapU (n : Nat) (h : n < 2 ^ 64) : IntKind.u64.wrap (n : Int) = n := by
  simp [IntKind.wrap, IntKind.bits, IntKind.signed]; omega
theorem shrU (m p : Nat) (h : p < 64) : Int.fdiv (m : Int) (2 ^ min p 64) = ((m >>> p : Nat) : Int) := by
  have e : min p 64 = p := by omega
  have e2 : ((2 : Int) ^ p) = ((2 ^ p : Nat) : Int) := by simp
  rw [e, e2, Int.fdiv_eq_ediv_of_nonneg _ (Int.natCast_nonneg _), Nat.shiftRight_eq_div_pow]
  simp
theorem and_one (n : Nat) : binAV .and none (.v (.int .u64 (n : Int))) (.v (.int .u64 1)) = some (.v (.int .u64 ((n % 2 : Nat) : Int))) := by
  have h : (BitVec.ofInt 64 (n : Int) &&& BitVec.ofInt 64 1).toNat = n % 2 := by
    rw [BitVec.toNat_and]
    have : (BitVec.ofInt 64 1).toNat = 1 := by decide
    rw [this, Nat.and_one_is_mod, BitVec.ofInt_natCast, BitVec.toNat_ofNat]
    omega
  show some (AV.v (.int .u64 (IntKind.u64.wrap ((BitVec.ofInt 64 (n : Int) &&& BitVec.ofInt 64 1).toNat : Int)))) = _
  rw [h, wrapU _ (by omega)]
theorem shr_u (m p : Nat) : binAV .shr none (.v (.int .u64 (m : Int))) (.v (.int .i64 (p : Int))) = some (.v (.int .u64 ((m >>> min p 64 : Nat) : Int))) := by
  have e := shrU m (min p 64)
  show (if (p : Int) < 0 then none else some (AV.v (.int .u64 (Int.fdiv (m : Int) (2 ^ min (Int.toNat (p : Int)) 64))))) = _
  rw [if_neg (by omega), Int.toNat_natCast]
  have e2 : ((2 : Int) ^ (min p 64)) = ((2 ^ (min p 64) : Nat) : Int) := by simp
  rw [e2, Int.fdiv_eq_ediv_of_nonneg _ (Int.natCast_nonneg _), Nat.shiftRight_eq_div_pow]
  simp
theorem min64 (p : Nat) (h : p < 64) : min p 64 = p := by omega
attribute [local go_sem high] and_one shr_u
theorem bit_zero (m p : Nat) : ((((m >>> p) % 2 : Nat) : Int) = 0) = (m.testBit p = false) := by
  rw [Nat.testBit_eq_decide_div_mod_eq, Nat.shiftRight_eq_div_pow]
  generalize m / 2 ^ p = k
  have : k % 2 < 2 := Nat.mod_lt _ (by omega)
  rw [decide_eq_false_iff_not]
  exact propext (by omega)
def okP (p : Int × Int) : Prop := 0 ≤ p.1 ∧ p.1 < 7 ∧ 0 ≤ p.2 ∧ p.2 < 7
theorem run_any' {f : FuncId} {fn : IF} (hf : L.fns f = some fn) (hp : L.pure f = true) {args : List AV} {st0 st1 : St} {r : AV} (h : run L f args st0 = some (r, st1)) (st : St) : run L f args st = some (r, st) := by
  rw [run_pure hf hp] at h ⊢
  unfold leaveK at h ⊢
  split at h
  · simp only [leave, Option.some.injEq, Prod.mk.injEq] at h ⊢
    exact ⟨h.1, trivial⟩
  · simp at h
theorem all_of {α : Type} {f g : Nat → α} {k : Nat} (h : (List.range k).map f = (List.range k).map g) (m : Nat) (hm : m < k) : f m = g m := by
  have := congrArg (fun l : List α => l[m]?) h
  simpa [hm] using this
def memb (m : Nat) : List Int := ((List.range 7).filter m.testBit).map fun (i : Nat) => (i : Int)
def sh1 (p : Nat) : Nat := 2 ^ min p 64 % 2 ^ 64
theorem sh1_eq (p : Nat) (h : p < 64) : sh1 p = 2 ^ p := by
  unfold sh1; rw [show min p 64 = p by omega]
  exact Nat.mod_eq_of_lt (Nat.pow_lt_pow_right (by omega) h)
theorem shl_one (p : Nat) : binAV .shl none (.v (.int .u64 1)) (.v (.int .i64 (p : Int))) = some (.v (.int .u64 ((sh1 p : Nat) : Int))) := by
  show (if (p : Int) < 0 then none else some (AV.v (.int .u64 (IntKind.u64.wrap (1 * (2 ^ (min (Int.toNat (p : Int)) 64)))))) ) = _
  rw [if_neg (by omega), Int.toNat_natCast]
  have e2 : (1 : Int) * ((2 : Int) ^ (min p 64)) = ((2 ^ (min p 64) : Nat) : Int) := by simp
  rw [e2]
  simp only [sh1, IntKind.wrap, IntKind.bits, IntKind.signed]
  simp
def orU (a b : Nat) : Nat := a % 2 ^ 64 ||| b % 2 ^ 64
theorem or_u (a b : Nat) : binAV .or none (.v (.int .u64 (a : Int))) (.v (.int .u64 (b : Int))) = some (.v (.int .u64 ((orU a b : Nat) : Int))) := by
  have h : (BitVec.ofInt 64 (a : Int) ||| BitVec.ofInt 64 (b : Int)).toNat = orU a b := by
    rw [BitVec.toNat_or]; simp [BitVec.ofInt_natCast, orU]
  show some (AV.v (.int .u64 (IntKind.u64.wrap ((BitVec.ofInt 64 (a : Int) ||| BitVec.ofInt 64 (b : Int)).toNat : Int)))) = _
  rw [h, wrapU]
  unfold orU
  exact Nat.or_lt_two_pow (Nat.mod_lt _ (by decide)) (Nat.mod_lt _ (by decide))
theorem orU_eq (a b : Nat) (ha : a < 128) (hb : b < 128) : orU a b = a ||| b := by
  unfold orU; rw [Nat.mod_eq_of_lt (by omega), Nat.mod_eq_of_lt (by omega)]
def andN (a b : Nat) : Nat := a % 2 ^ 64 &&& b % 2 ^ 64
theorem and_u (a b : Nat) : binAV .and none (.v (.int .u64 (a : Int))) (.v (.int .u64 (b : Int))) = some (.v (.int .u64 ((andN a b : Nat) : Int))) := by
  have h : (BitVec.ofInt 64 (a : Int) &&& BitVec.ofInt 64 (b : Int)).toNat = andN a b := by
    rw [BitVec.toNat_and]; simp [BitVec.ofInt_natCast, andN]
  show some (AV.v (.int .u64 (IntKind.u64.wrap ((BitVec.ofInt 64 (a : Int) &&& BitVec.ofInt 64 (b : Int)).toNat : Int)))) = _
  rw [h, wrapU]
  unfold andN
  exact Nat.lt_of_le_of_lt Nat.and_le_left (Nat.mod_lt _ (by decide))
theorem andN_eq (a b : Nat) (ha : a < 128) (hb : b < 128) : andN a b = a &&& b := by
  unfold andN; rw [Nat.mod_eq_of_lt (by omega), Nat.mod_eq_of_lt (by omega)]
def orAt (o : List Nat) (i b : Nat) : List Nat := o.set i (o.getD i 0 ||| 2 ^ b)
theorem orAt_len (o : List Nat) (i b : Nat) : (orAt o i b).length = o.length := by simp [orAt]
def tzN (m : Nat) : Nat := ((List.range 7).find? m.testBit).getD 64
def dfN (a b : Nat) : Nat := a &&& (127 - b)
theorem dfN_bit {a b : Nat} (hb : b < 128) (i : Nat) : (dfN a b).testBit i = (a.testBit i && (decide (i < 7) && !b.testBit i)) := by
  unfold dfN
  rw [Nat.testBit_and, show 127 - b = 2 ^ 7 - (b + 1) from by omega, Nat.testBit_two_pow_sub_succ hb]
theorem dfN_lt {a b : Nat} (ha : a < 128) : dfN a b < 128 := Nat.lt_of_le_of_lt Nat.and_le_left ha
theorem tz_spec {m : Nat} (hm : m < 128) (h : m ≠ 0) : tzN m < 7 ∧ m.testBit (tzN m) = true := by
  have hk : ∀ k : Fin 128, k.val ≠ 0 → tzN k.val < 7 ∧ k.val.testBit (tzN k.val) = true := by decide
  exact hk ⟨m, hm⟩ h
theorem dfU_eq (a b : Nat) (ha : a < 128) (hb : b < 128) : binAV .andNot none (.v (.int .u64 (a : Int))) (.v (.int .u64 (b : Int))) = some (.v (.int .u64 ((dfN a b : Nat) : Int))) := by
  have e : (BitVec.ofInt IntKind.u64.bits (a : Int) &&& ~~~BitVec.ofInt IntKind.u64.bits (b : Int)).toNat = dfN a b := by
    show (BitVec.ofInt 64 (a : Int) &&& ~~~BitVec.ofInt 64 (b : Int)).toNat = dfN a b
    rw [BitVec.toNat_and, BitVec.toNat_not, BitVec.toNat_ofInt, BitVec.toNat_ofInt]
    have ea : ((a : Int) % ((2 ^ 64 : Nat) : Int)).toNat = a := by omega
    have eb : ((b : Int) % ((2 ^ 64 : Nat) : Int)).toNat = b := by omega
    rw [ea, eb]
    apply Nat.eq_of_testBit_eq
    intro i
    rw [dfN_bit hb, Nat.testBit_and, show 2 ^ 64 - 1 - b = 2 ^ 64 - (b + 1) from by omega, Nat.testBit_two_pow_sub_succ (by omega : b < 2 ^ 64)]
    by_cases h : i < 7
    · simp [h, show i < 64 by omega]
    · have : a.testBit i = false := Nat.testBit_lt_two_pow (Nat.lt_of_lt_of_le ha (Nat.pow_le_pow_right (n := 2) (by decide) (Nat.le_of_not_lt h)))
      rw [this]; simp
  show some (AV.v (.int .u64 (IntKind.u64.wrap ((BitVec.ofInt IntKind.u64.bits (a : Int) &&& ~~~BitVec.ofInt IntKind.u64.bits (b : Int)).toNat : Int)))) = _
  rw [e, wrapU _ (by have := dfN_lt (a := a) (b := b) ha; omega)]
theorem okRefsU (n : Nat) (xs : List Nat) : okRefs n (xs.map U) = true := okRefs_map U n (fun _ => rfl) xs
theorem renCellsU (n : Nat) (tips : List Nat) (acc : List (Nat × Nat)) (xs : List Nat) : renCells n tips acc (xs.map U) = (xs.map U, acc) := renCells_map U n tips (fun _ _ => rfl) xs acc
theorem pubsU (xs : List Nat) : pubs (xs.map U) = xs.map U := pubs_map U (fun _ => rfl) xs
theorem getU (o : List Nat) (a : Nat) (h : a < o.length) : (o.map U)[a]? = some (U (o.getD a 0)) := by
  rw [getm U o 0 a, if_pos h]
theorem frzV_v (l : Nat) (cs : List AV) (x : Value) : frzV l cs (.v x) = .v x := by simp only [frzV]
theorem frzV_ptr (l : Nat) (cs : List AV) (i o : Nat) : frzV l cs (.ptr i o) = .ptr i o := by simp only [frzV]
theorem frzV_agg (l : Nat) (cs : List AV) (xs : List AV) : frzV l cs (.agg xs) = .agg (frzVs l cs xs) := by simp only [frzV]
theorem frzV_tup (l : Nat) (cs : List AV) (xs : List AV) : frzV l cs (.tup xs) = .tup (frzVs l cs xs) := by simp only [frzV]
theorem frzVs_kind (l : Nat) (cs : List AV) {β : Type} (f : β → Value) (xs : List β) : frzVs l cs (xs.map fun b => .v (f b)) = xs.map fun b => .v (f b) := by
  induction xs with
  | nil => rfl
  | cons x r ih => simp only [List.map_cons, frzVs, frzV, ih]
theorem frzVs_U (l : Nat) (cs : List AV) (xs : List Nat) : frzVs l cs (xs.map U) = xs.map U := frzVs_kind l cs (fun (n : Nat) => Value.int .u64 (n : Int)) xs
theorem frzV_sl (l : Nat) (cs : List AV) (z : Nat) (nl : Bool) (xs : List AV) : frzV l cs (sl z nl xs) = sl z nl xs := by
  cases xs with
  | nil => cases nl <;> rfl
  | cons x r => rw [sl_ne (by simp)]; simp only [frzV]
theorem len_seven {α : Type} {l : List α} (h : l.length = 7) : ∃ a b c d e f g, l = [a, b, c, d, e, f, g] := by
  match l, h with
  | [a, b, c, d, e, f, g], _ => exact ⟨a, b, c, d, e, f, g, rfl⟩
theorem sh1_lt (b : Nat) (h : b < 7) : sh1 b = 2 ^ b ∧ 2 ^ b < 128 := ⟨sh1_eq b (by omega), Nat.pow_lt_pow_right (by omega) (show b < 7 from h)⟩
theorem small_getD {o : List Nat} (h : ∀ x ∈ o, x < 128) (a : Nat) : o.getD a 0 < 128 := by
  rw [List.getD_eq_getElem?_getD]
  cases h2 : o[a]?
  · simp
  · exact h _ (List.mem_of_getElem? h2)
theorem orAt_small {o : List Nat} (h : ∀ x ∈ o, x < 128) {a b : Nat} (hb : b < 7) : ∀ x ∈ orAt o a b, x < 128 := by
  intro x hx
  unfold orAt at hx
  rcases List.mem_or_eq_of_mem_set hx with hx | rfl
  · exact h x hx
  · exact Nat.or_lt_two_pow (n := 7) (small_getD h a) (sh1_lt b hb).2
theorem storableU (xs : List Nat) : (xs.map U).all storable = true := by
  rw [List.all_eq_true]; intro x hx; rw [List.mem_map] at hx; obtain ⟨n, _, rfl⟩ := hx; rfl

/-! ### sets as signed numbers -/
theorem bit_one (m p : Nat) : ((((m >>> p) % 2 : Nat) : Int) = 1) = (m.testBit p = true) := by
  rw [Nat.testBit_eq_decide_div_mod_eq, Nat.shiftRight_eq_div_pow]
  generalize m / 2 ^ p = k
  have : k % 2 < 2 := Nat.mod_lt _ (by omega)
  rw [decide_eq_true_iff]
  exact propext (by omega)


/-! ### what each word sees -/
abbrev J (n : Nat) : AV := .v (.int .i64 (n : Int))
def see1 (o : List Nat) (p : Int × Int) : List Nat := orAt o p.1.toNat p.2.toNat
def seeL (z : Nat) (ps : List (Int × Int)) : List Nat := ps.foldl see1 (List.replicate z 0)
theorem foldl_see_len : ∀ (ps : List (Int × Int)) (o : List Nat), (ps.foldl see1 o).length = o.length
  | [], o => rfl
  | p :: r, o => by rw [List.foldl_cons, foldl_see_len r]; exact orAt_len _ _ _
theorem foldl_see_small : ∀ (ps : List (Int × Int)) (o : List Nat), (∀ p ∈ ps, okP p) → (∀ x ∈ o, x < 128) → ∀ x ∈ ps.foldl see1 o, x < 128
  | [], o, _, h => h
  | p :: r, o, hp, h => by
    rw [List.foldl_cons]
    have h1 := hp p (by simp)
    unfold okP at h1
    exact foldl_see_small r _ (fun q hq => hp q (by simp [hq])) (orAt_small h (by omega))
theorem seeL_len (z : Nat) (ps : List (Int × Int)) : (seeL z ps).length = z := by unfold seeL; rw [foldl_see_len]; simp
theorem seeL_small (z : Nat) {ps : List (Int × Int)} (h : ∀ p ∈ ps, okP p) : ∀ x ∈ seeL z ps, x < 128 := foldl_see_small ps _ h (by simp)

attribute [local go_sem high] and_one shr_u shl_one or_u

def webC (n : Int) (o : List Nat) : List AV := I n :: o.map U
abbrev webAV (n : Int) (o : List Nat) : AV := .agg (webC n o)
theorem okRefsW (k : Nat) (n : Int) (o : List Nat) : okRefs k (webC n o) = true := by unfold webC; simp only [okRefs, okRefsU]; rfl
theorem renCellsW (k : Nat) (tips : List Nat) (acc : List (Nat × Nat)) (n : Int) (o : List Nat) : renCells k tips acc (webC n o) = (webC n o, acc) := by
  unfold webC; simp only [renCells, ren1, renCellsU]
theorem pubsW (n : Int) (o : List Nat) : pubs (webC n o) = webC n o := by unfold webC; simp only [pubs, pub, pubsU]
theorem storableW (n : Int) (o : List Nat) : (webC n o).all storable = true := by unfold webC; rw [List.all_cons, storableU]; rfl
theorem lenW (n : Int) (o : List Nat) : (webC n o).length = 1 + o.length := by simp [webC]; omega
theorem getW (n : Int) (o : List Nat) (a : Nat) (h : a < o.length) : (webC n o)[1 + a]? = some (U (o.getD a 0)) := by
  unfold webC; rw [Nat.add_comm, List.getElem?_cons_succ]; exact getU o a h
theorem getW0 (n : Int) (o : List Nat) : (webC n o)[0]? = some (I n) := rfl
theorem setW (n : Int) (o : List Nat) (a : Nat) (m : Nat) : (webC n o).set (1 + a) (U m) = webC n (o.set a m) := by
  unfold webC; rw [Nat.add_comm, List.set_cons_succ, List.map_set]
def w8 : List AV := [I 0, U 0, U 0, U 0, U 0, U 0, U 0, U 0]

theorem loop65 (nl : Bool) (n : Int) (ps : List (Int × Int)) (hlen : ps.length < 1000000) (h7 : ∀ p ∈ ps, okP p) (i : Nat) (o : List Nat) (hok : i ≤ ps.length ∧ o.length = 7 ∧ ∀ x ∈ o, x < 128) (env : Env) (st : St)
    (hg : gcAV true 3 0 (canon env [2, 4, 18, 19, 20]) st = ([(2, .ptr 1 0), (4, .ptr 2 0), (18, sl 2 nl (ps.map prAV)), (19, I ps.length), (20, I i)], ⟨[bkCells nl n ps, w8, webC n o], []⟩)) :
    ∃ x_1 en s, lim (headed pure (run L) true [2, 4, 18, 19, 20] lp65_0 3 0) env st = some (x_1, en, s) ∧ (x_1 = .exit 0 ∧ en.get 2 = .ptr 1 0 ∧ en.get 4 = .ptr 2 0 ∧ s = ⟨[bkCells nl n ps, w8, webC n ((ps.drop i).foldl see1 o)], []⟩ ∧ ((ps.drop i).foldl see1 o).length = 7) := by
  refine loop_wp (α := Nat × List Nat) (fun ⟨i, o⟩ => ps.length - i) (fun ⟨i, o⟩ => i ≤ ps.length ∧ o.length = 7 ∧ ∀ x ∈ o, x < 128) (fun ⟨i, o⟩ => ([(2, .ptr 1 0), (4, .ptr 2 0), (18, sl 2 nl (ps.map prAV)), (19, I ps.length), (20, I i)], ⟨[bkCells nl n ps, w8, webC n o], []⟩)) (fun ⟨i, o⟩ x_1 en s => x_1 = .exit 0 ∧ en.get 2 = .ptr 1 0 ∧ en.get 4 = .ptr 2 0 ∧ s = ⟨[bkCells nl n ps, w8, webC n ((ps.drop i).foldl see1 o)], []⟩ ∧ ((ps.drop i).foldl see1 o).length = 7) (fun ⟨i, o⟩ hok => ?_) ⟨i, o⟩ hok env st hg
  simp only at hok
  obtain ⟨h1, h2, h3⟩ := hok
  dsimp only
  by_cases h : i < ps.length
  · have hx := index_prs nl ps i h
    have hs := succ64 i (by omega)
    have hd : ps.drop i = ps[i] :: ps.drop (i + 1) := List.drop_eq_getElem_cons h
    have hp := h7 ps[i] (List.getElem_mem h)
    rw [hd, List.foldl_cons]
    generalize ps[i] = c at *
    obtain ⟨u, v⟩ := c
    obtain ⟨a1, a2, a3, a4⟩ := hp
    simp only at a1 a2 a3 a4 hx
    obtain ⟨u, rfl⟩ := Int.eq_ofNat_of_zero_le a1
    obtain ⟨v, rfl⟩ := Int.eq_ofNat_of_zero_le a3
    have hlt : ((i : Int) < (ps.length : Int)) = True := eq_true (by omega)
    have hu : u < 7 := by omega
    have hv : v < 7 := by omega
    have e1 : orU (o.getD u 0) (sh1 v) = o.getD u 0 ||| 2 ^ v := by rw [(sh1_lt v hv).1, orU_eq _ _ (small_getD h3 u) (sh1_lt v hv).2]
    have hs1 := orAt_small h3 (a := u) hv
    have hl1 := orAt_len o u v
    have g1 := getW n o u (by omega)
    have hset1 : (webC n o).set (1 + u) (U (o.getD u 0 ||| 2 ^ v)) = webC n (see1 o ((u : Int), (v : Int))) := setW n o u _
    have hadv : see1 o ((u : Int), (v : Int)) = orAt o u v := rfl
    have b1 : ((0 : Int) ≤ (u : Int)) = True := eq_true (by omega)
    have b2 : ((u : Int) < 7) = True := eq_true (by omega)
    have b5 : (1 + u + 1 ≤ 8) = True := eq_true (by omega)
    have hlw := lenW n o
    rw [h2] at hl1 hlw
    rw [← hadv] at hs1 hl1
    generalize see1 o ((u : Int), (v : Int)) = o2 at *
    simp only [go_sem, reduceIte, Nat.reduceEqDiff, Nat.reduceAdd, Nat.reduceSub, Nat.reduceLeDiff, Nat.reduceLT, reduceCtorEq, Int.reduceLT, Int.reduceLE, Int.reduceEq, Int.reduceBEq, Int.reduceSub, Int.reduceAdd, Int.reduceMul, Int.reduceNeg, Int.reduceToNat, Nat.reduceMul, Nat.reduceBEq, index_rsl_if, setm, make_ints, condK_dec, wantK_dec, not_dec, and_dec, or_dec, seqK_ite, seqK_none, blockK_ite, blockK_none, opsK_ite, opsK_none, stepK_ite, stepK_none, bodyK_ite, bodyK_none, resK_ite, resK_none, leaveK_ite, leaveK_none, only_ite, only_none, bind_ite, gives_some, gives_none, gives_ite, then_normal, then_ret, then_exit, then_none, then_ite, Option.bind_none, Bool.not_eq_true', decide_eq_false_iff_not, Bool.and_eq_true, Bool.or_eq_true, Option.some.injEq, Int.not_lt, Int.not_le, lp65_0, hx, hlt, hs, b1, b2, b5, g1, e1, hset1, h2, hl1, hlw, List.length_map]
    refine ⟨(i + 1, o2), by simp only [go_sem, reduceIte, Nat.reduceEqDiff, Nat.reduceAdd, Nat.reduceSub, Nat.reduceLeDiff, Nat.reduceLT, reduceCtorEq, Int.reduceLT, Int.reduceLE, Int.reduceEq, Int.reduceBEq, Int.reduceSub, Int.reduceAdd, Int.reduceMul, Int.reduceNeg, Int.reduceToNat, Nat.reduceMul, Nat.reduceBEq, ren1_locm, loc_tips, locT_eq, okRefsW, renCellsW, w8] <;> rfl, ?_, ?_, fun x en s hq => ?_⟩
    · dsimp only; exact ⟨by omega, hl1, hs1⟩
    · simp only; omega
    · exact hq
  · have hd : ps.drop i = [] := List.drop_eq_nil_of_le (by omega)
    have hlt : ((i : Int) < (ps.length : Int)) = False := eq_false (by omega)
    simp only [go_sem, reduceIte, Nat.reduceEqDiff, Nat.reduceAdd, Nat.reduceSub, Nat.reduceLeDiff, Nat.reduceLT, reduceCtorEq, Int.reduceLT, Int.reduceLE, Int.reduceEq, Int.reduceBEq, Int.reduceSub, Int.reduceAdd, Int.reduceMul, Int.reduceNeg, Int.reduceToNat, Nat.reduceMul, Nat.reduceBEq, index_rsl_if, setm, make_ints, condK_dec, wantK_dec, not_dec, and_dec, or_dec, seqK_ite, seqK_none, blockK_ite, blockK_none, opsK_ite, opsK_none, stepK_ite, stepK_none, bodyK_ite, bodyK_none, resK_ite, resK_none, leaveK_ite, leaveK_none, only_ite, only_none, bind_ite, gives_some, gives_none, gives_ite, then_normal, then_ret, then_exit, then_none, then_ite, Option.bind_none, Bool.not_eq_true', decide_eq_false_iff_not, Bool.and_eq_true, Bool.or_eq_true, Option.some.injEq, Int.not_lt, Int.not_le, lp65_0, hlt, List.length_map]
    rw [hd]; exact ⟨rfl, h2⟩

/-! ### what a book that is checked has -/
theorem prsErr_zero {n : Int} : ∀ {ps seen : List (Int × Int)}, prsErr n seen ps = 0 → ∀ p ∈ ps, 0 ≤ p.1 ∧ p.1 < n ∧ 0 ≤ p.2 ∧ p.2 < n ∧ p.1 ≠ p.2 ∧ p ∉ seen
  | [], _, _, p, hp => by simp at hp
  | a :: r, seen, h, p, hp => by
    simp only [prsErr] at h
    split at h
    · next h0 =>
      unfold prErr at h0
      split at h0
      · omega
      · split at h0
        · omega
        · split at h0
          · omega
          · next q1 q2 q3 =>
            rcases List.mem_cons.1 hp with rfl | hp
            · exact ⟨by omega, by omega, by omega, by omega, q2, q3⟩
            · obtain ⟨g1, g2, g3, g4, g5, g6⟩ := prsErr_zero h p hp
              exact ⟨g1, g2, g3, g4, g5, fun hh => g6 (by simp [hh])⟩
    · next h0 => exact absurd h h0
theorem prsErr_nodup {n : Int} : ∀ {ps seen : List (Int × Int)}, prsErr n seen ps = 0 → ps.Nodup
  | [], _, _ => List.nodup_nil
  | a :: r, seen, h => by
    simp only [prsErr] at h
    split at h
    · refine List.nodup_cons.2 ⟨fun hm => ?_, prsErr_nodup h⟩
      exact (prsErr_zero h a hm).2.2.2.2.2 (by simp)
    · next h0 => exact absurd h h0
theorem chk_zero {n : Int} {ps : List (Int × Int)} (h : chk n ps = 0) : (1 ≤ n ∧ n ≤ 7) ∧ ps.length ≤ 16 ∧ (∀ p ∈ ps, 0 ≤ p.1 ∧ p.1 < n ∧ 0 ≤ p.2 ∧ p.2 < n ∧ p.1 ≠ p.2) ∧ (∀ p ∈ ps, okP p) ∧ ps.Nodup := by
  unfold chk at h
  split at h
  · omega
  · split at h
    · omega
    · have h3 := fun p hp => prsErr_zero h p hp
      exact ⟨by omega, by omega, fun p hp => by have := h3 p hp; exact ⟨by omega, by omega, by omega, by omega, this.2.2.2.2.1⟩, fun p hp => by have := h3 p hp; unfold okP; omega, prsErr_nodup h⟩
def wovL (n : Int) (ps : List (Int × Int)) : List Nat := if chk n ps = 0 then seeL 7 ps else List.replicate 7 0
theorem c65 (nl : Bool) (n : Int) (ps : List (Int × Int)) (st : St) :
    run L 65 [bkAV nl n ps] st = some (.tup [webAV n (wovL n ps), I (chk n ps)], st) := by
  rw [run_pure (fn := ir65) rfl rfl]
  have h24 := fun st => c24 nl n ps st
  unfold wovL
  by_cases h : chk n ps = 0
  · obtain ⟨h1, h2, h3, h4, h5⟩ := chk_zero h
    rw [if_pos h]
    simp only [ir65, go_sem, reduceIte, Nat.reduceEqDiff, Nat.reduceAdd, Nat.reduceSub, Nat.reduceLeDiff, Nat.reduceLT, reduceCtorEq, Int.reduceLT, Int.reduceLE, Int.reduceEq, Int.reduceBEq, Int.reduceSub, Int.reduceAdd, Int.reduceMul, Int.reduceNeg, Int.reduceToNat, Nat.reduceMul, Nat.reduceBEq, h24, h, List.length_map]
    generalize hg : lim (headed pure (run L) true _ lp65_0 _ _) _ _ = o
    obtain ⟨x, en, s, rfl, h2⟩ : ∃ x en s, o = some (x, en, s) ∧ _ := by rw [← hg]; exact loop65 nl n ps (by omega) h4 0 (List.replicate 7 0) ⟨by omega, by simp, by simp⟩ _ _ (by simp only [go_sem, reduceIte, Nat.reduceEqDiff, Nat.reduceAdd, Nat.reduceSub, Nat.reduceLeDiff, Nat.reduceLT, reduceCtorEq, Int.reduceLT, Int.reduceLE, Int.reduceEq, Int.reduceBEq, Int.reduceSub, Int.reduceAdd, Int.reduceMul, Int.reduceNeg, Int.reduceToNat, Nat.reduceMul, Nat.reduceBEq, w8, webC, List.map_replicate, h24, h] <;> rfl)
    clear hg
    obtain ⟨rfl, g1, g2, rfl, g3⟩ := h2
    rw [List.drop_zero] at g3 ⊢
    have e : ps.foldl see1 (List.replicate 7 0) = seeL 7 ps := rfl
    rw [e] at g3 ⊢
    obtain ⟨a, b, c, d, f, g, k, g4⟩ := len_seven g3
    rw [g4]
    simp only [go_sem, reduceIte, Nat.reduceEqDiff, Nat.reduceAdd, Nat.reduceSub, Nat.reduceLeDiff, Nat.reduceLT, reduceCtorEq, Int.reduceLT, Int.reduceLE, Int.reduceEq, Int.reduceBEq, Int.reduceSub, Int.reduceAdd, Int.reduceMul, Int.reduceNeg, Int.reduceToNat, Nat.reduceMul, Nat.reduceBEq, g1, g2, w8, webC, h]
    rfl
  · rw [if_neg h]
    simp only [ir65, go_sem, reduceIte, Nat.reduceEqDiff, Nat.reduceAdd, Nat.reduceSub, Nat.reduceLeDiff, Nat.reduceLT, reduceCtorEq, Int.reduceLT, Int.reduceLE, Int.reduceEq, Int.reduceBEq, Int.reduceSub, Int.reduceAdd, Int.reduceMul, Int.reduceNeg, Int.reduceToNat, Nat.reduceMul, Nat.reduceBEq, h24, h, webC]
    rfl

/-! ### the bits -/
theorem orAt_bit (o : List Nat) (u v a b : Nat) (hu : u < o.length) : ((orAt o u v).getD a 0).testBit b = ((o.getD a 0).testBit b || (decide (a = u) && decide (b = v))) := by
  unfold orAt
  by_cases e : a = u
  · subst e
    rw [List.getD_eq_getElem?_getD, List.getElem?_set_self (by omega)]
    simp only [Option.getD_some, Nat.testBit_or, Nat.testBit_two_pow, decide_true, Bool.true_and]
    congr 1
    by_cases h : v = b
    · simp [h]
    · simp [h, Ne.symm h]
  · rw [List.getD_eq_getElem?_getD, List.getElem?_set_ne (Ne.symm e), ← List.getD_eq_getElem?_getD]
    simp [e]
theorem foldl_see_bit (a b : Nat) : ∀ (ps : List (Int × Int)) (o : List Nat), (∀ p ∈ ps, okP p) → 7 ≤ o.length → ((ps.foldl see1 o).getD a 0).testBit b = ((o.getD a 0).testBit b || decide (((a : Int), (b : Int)) ∈ ps))
  | [], o, _, _ => by simp
  | p :: r, o, hp, hl => by
    have h1 := hp p (by simp)
    unfold okP at h1
    rw [List.foldl_cons, foldl_see_bit a b r _ (fun q hq => hp q (by simp [hq])) (by unfold see1; rw [orAt_len]; exact hl)]
    unfold see1
    rw [orAt_bit _ _ _ _ _ (by omega), Bool.or_assoc]
    congr 1
    obtain ⟨u, v⟩ := p
    simp only at h1 ⊢
    rw [Bool.eq_iff_iff]
    simp only [Bool.or_eq_true, Bool.and_eq_true, decide_eq_true_eq, List.mem_cons, Prod.mk.injEq]
    constructor
    · rintro (⟨h, h'⟩ | h)
      · exact .inl ⟨by omega, by omega⟩
      · exact .inr h
    · rintro (⟨h, h'⟩ | h)
      · exact .inl ⟨by omega, by omega⟩
      · exact .inr h
theorem seeL_bit {z : Nat} (hz : 7 ≤ z) {ps : List (Int × Int)} (h : ∀ p ∈ ps, okP p) (a b : Nat) : ((seeL z ps).getD a 0).testBit b = decide (((a : Int), (b : Int)) ∈ ps) := by
  unfold seeL
  rw [foldl_see_bit a b ps _ h (by simpa using hz)]
  have : (List.replicate z 0).getD a 0 = 0 := by
    rw [List.getD_eq_getElem?_getD, List.getElem?_replicate]; split <;> rfl
  rw [this]; simp

attribute [local go_sem high] and_one shr_u shl_one or_u

/-! ### lists that should be odd circles -/
def setL (l : List Int) : Nat := l.foldl (fun m x => m ||| 2 ^ x.toNat) 0
theorem setL_snoc (l : List Int) (x : Int) : setL (l ++ [x]) = setL l ||| 2 ^ x.toNat := by simp [setL]
theorem setL_aux : ∀ (l : List Int) (m : Nat), (∀ x ∈ l, 0 ≤ x ∧ x < 7) → m < 128 → l.foldl (fun m x => m ||| 2 ^ x.toNat) m < 128 ∧ ∀ b : Nat, (l.foldl (fun m x => m ||| 2 ^ x.toNat) m).testBit b = (m.testBit b || decide ((b : Int) ∈ l))
  | [], m, _, hm => ⟨hm, fun b => by simp⟩
  | x :: r, m, h, hm => by
    have hx := h x (by simp)
    have h2 : m ||| 2 ^ x.toNat < 128 := Nat.or_lt_two_pow (n := 7) hm (sh1_lt _ (by omega)).2
    obtain ⟨g1, g2⟩ := setL_aux r (m ||| 2 ^ x.toNat) (fun y hy => h y (by simp [hy])) h2
    refine ⟨g1, fun b => ?_⟩
    rw [List.foldl_cons, g2, Nat.testBit_or, Nat.testBit_two_pow, Bool.or_assoc]
    congr 1
    rw [Bool.eq_iff_iff]
    simp only [Bool.or_eq_true, decide_eq_true_eq, List.mem_cons]
    constructor
    · rintro (h | h)
      · exact .inl (by omega)
      · exact .inr h
    · rintro (h | h)
      · exact .inl (by omega)
      · exact .inr h
theorem setL_lt {l : List Int} (h : ∀ x ∈ l, 0 ≤ x ∧ x < 7) : setL l < 128 := (setL_aux l 0 h (by omega)).1
theorem setL_bit {l : List Int} (h : ∀ x ∈ l, 0 ≤ x ∧ x < 7) (b : Nat) : (setL l).testBit b = decide ((b : Int) ∈ l) := by
  have := (setL_aux l 0 h (by omega)).2 b
  simpa [setL] using this

attribute [local go_sem high] and_one shr_u shl_one or_u

theorem putW (n : Int) (o : List Nat) (h : o.length = 7) : putCells [.v (.int .i64 0), .v (.int .u64 0), .v (.int .u64 0), .v (.int .u64 0), .v (.int .u64 0), .v (.int .u64 0), .v (.int .u64 0), .v (.int .u64 0)] 0 (webC n o) = webC n o := by
  obtain ⟨a, b, c, d, e, f, g, rfl⟩ := len_seven h
  rfl


/-! ### a book by numbers is a good one -/
def goodP (n : Int) (p : Int × Int) : Prop := 0 ≤ p.1 ∧ p.1 < n ∧ 0 ≤ p.2 ∧ p.2 < n ∧ p.1 ≠ p.2
/-! ### each sees the next one -/
/-! ### a list of numbers that grows -/
def vAV (v : List Int) : AV := loc 1 0 (v.map I)
def vT (v : List Int) : List Nat := locT 0 (v.map I)
def vAcc (v : List Int) : List (Nat × Nat) := if (v.map I).length = 0 then [] else [(0, (v.map I).length)]
theorem okRef_v (n : Nat) (v : List Int) : okRef n (vAV v) = true := okRef_loc _ _ _ _
theorem pub_v (v : List Int) : pub (vAV v) = sl 1 true (v.map I) := pub_loc 1 0 _
theorem len_v (v : List Int) : lenAV (vAV v) = some (I v.length) := by unfold vAV; rw [len_loc]; simp
theorem ren1_v (v : List Int) : ren1 0 (vT v) [] (vAV v) = (vAV v, vAcc v) := ren1_loc (k := 0) 1 (v.map I)
theorem vAcc_snd (v : List Int) : (vAcc v).map (fun x => x.2) = vT v := by
  unfold vAcc vT locT; split <;> rfl
theorem append_v (v : List Int) (x : Int) (S : List (List AV)) (h : v.length < 1000) : appendAV 1 (vAV v) [I x] ⟨S, vT v⟩ = some (vAV (v ++ [x]), ⟨S, vT (v ++ [x])⟩) :=
  append_locm (z := 1) (k := 0) I v x S (by omega) (by simp [maxGrow]; omega)
theorem ren1_vh (v : List Int) (acc : List (Nat × Nat)) : ren1 (vT v).length (vT v) acc (vAV v) = (vAV v, acc) := by
  unfold vAV vT loc locT
  split
  · rfl
  · simp [ren1]
end Go.Proofs.YtgohohiaaiogcaaDoor.Vm

namespace Go.Proofs.YtgohohiaaiogcaaDoor.Vm
open Go Go.Ev Go.ChangeShapes Go.WideShapes Go.ChangeAt Go.RowKit
set_option maxRecDepth 100000
attribute [local go_sem] cells_any storable_any ren1_any shaped_ptr cells_ptr storable_ptr ren1_ptr shaped_eptr cells_eptr storable_eptr ren1_eptr shaped_rsl cells_rsl storable_rsl ren1_rsl shaped_int cells_int storable_int ren1_int shaped_bool cells_bool storable_bool ren1_bool shaped_nils cells_nils storable_nils ren1_nils shaped_lst cells_lst storable_lst shaped_fn cells_fn storable_fn ren1_fn shaped_ifc cells_ifc storable_ifc ren1_ifc shaped_agg cells_agg storable_agg ren1_agg shaped_tup cells_tup storable_tup ren1_tup shaped_nif cells_nif storable_nif ren1_nif ren1_lany ren1_lfull ren1_lown len_lst len_rsl len_nil load_ptr load_eptr isRsl_lst isRsl_nil isRsl_rsl elems_nil elems_lst elems_sl isRsl_sl body_eq bodyK_normal bodyK_ret resK_some leaveK_some only_some code_skip code_exit code_ret code_ops code_seq code_cond code_block seqK_normal seqK_ret seqK_exit condK_true condK_false blockK_normal blockK_ret blockK_exit opsK_some ops_nil ops_cons wantK_true wantK_false stepK_some pubs pub pub_sl params okRef_loc storable_loc shaped_loc cells_loc isRsl_loc elems_loc len_loc untips untip untip_sl wantedAV setElems withO isAgg_v isAgg_agg isAgg_lst isAgg_ptr isAgg_fn isAgg_ifc isAgg_rsl isAgg_sl isAgg_loc List.replicate_succ List.replicate_zero opAV valAV aval avals ofVal Env.get setD canon gcAV renAll renEnv renStore renCells ren1_sl cutSt okEnv okStore okRefs okRef okRef_sl bin_int bin_bool bin_lst bin_rsl bin_nil bin_agg cellsEq cellEq isShift intOp boolOp min_int max_int beq_int bne resAV tupAV leave_eq fin_sl fin_loc fins fin_v fin_lst fin_agg fin_tup fin_fn storeAV readCells putCells cells_sl shaped_sl storable_sl fieldAddrAV len_sl goI List.getElem?_cons_zero List.getElem?_cons_succ List.getElem?_nil Option.bind_some Option.map_some List.length_cons List.length_nil List.all_cons List.all_nil Bool.and_true Bool.true_and Bool.and_false Bool.false_and and_true true_and and_false false_and Bool.false_eq_true List.set_cons_zero List.set_cons_succ List.append_nil List.nil_append List.cons_append List.take_zero List.take_succ_cons List.take_nil List.drop_zero List.drop_succ_cons List.map_cons List.map_nil decide_true decide_false beq_self_eq_true Bool.not_true Bool.not_false or_true true_or or_false false_or Nat.zero_add Nat.add_zero Nat.le_refl Nat.lt_irrefl decide_eq_true_eq eq_self_iff_true not_true_eq_false not_false_eq_true List.getD_cons_zero code_loop Nat.zero_le Nat.not_lt_zero Bool.true_beq Bool.false_beq beq_true beq_false ge_iff_le gt_iff_lt Lpure pus Option.map_none assert_ifc assert_nil idxA_ptr idxA_eptr idxV_agg Int.cast_ofNat_Int Nat.mul_one Nat.zero_mul Int.toNat_natCast Int.toNat_zero setParts withO2 hasKey eqnil_sl nenil_sl eqnil_loc nenil_loc map_nil_iff okRefs_ints renCells_ints

/-- A list of numbers. -/
theorem sh_ints {d : Nat} {t e : TypeId} {a : AV} (ht : Tryd.prog.underlying t = some (.slice e)) (he : Tryd.prog.underlying e = some (.int .i64)) (hc : Tryd.prog.cellsOf e = 1) (h : Sh Tryd.prog (d + 2) t [a]) :
    ∃ (nl : Bool) (zs : List Int), a = sl 1 nl (zs.map I) ∧ (zs.length : Int) ≤ maxLen ∧ ∀ n ∈ zs, (Lit.int .i64 n).wf = true := by
  rcases sh_slice ht h with rfl | ⟨xs, rfl, hl, hx⟩
  · exact ⟨true, [], rfl, by simp, by simp⟩
  · obtain ⟨zs, rfl, h2, h3⟩ := map_of_forall (f := I) (R := fun n => (Lit.int .i64 n).wf = true) xs (fun x hm => sh_int he (hx x hm))
    exact ⟨false, zs, by rw [hc, ← sl_false], by simp at hl; omega, h3⟩
/-- A list of pairs. -/
theorem sh_pair {d : Nat} {t : TypeId} {a : AV} (hag : aggB Tryd.prog t = true) (h : ∀ cs, Sh Tryd.prog d t cs → ∃ x y, cs = [I x, I y] ∧ (Lit.int .i64 x).wf = true ∧ (Lit.int .i64 y).wf = true) (ha : ShV Tryd.prog d t a) :
    ∃ p : Int × Int, a = prAV p ∧ (Lit.int .i64 p.1).wf = true ∧ (Lit.int .i64 p.2).wf = true := by
  unfold ShV at ha
  rw [if_pos hag] at ha
  obtain ⟨cs, rfl, hs⟩ := ha
  obtain ⟨x, y, rfl, h1, h2⟩ := h cs hs
  exact ⟨(x, y), rfl, h1, h2⟩
theorem sh_pairs {d : Nat} {t e : TypeId} {a : AV} (ht : Tryd.prog.underlying t = some (.slice e)) (hag : aggB Tryd.prog e = true) (hc : Tryd.prog.cellsOf e = 2)
    (hp : ∀ cs, Sh Tryd.prog d e cs → ∃ x y, cs = [I x, I y] ∧ (Lit.int .i64 x).wf = true ∧ (Lit.int .i64 y).wf = true) (h : Sh Tryd.prog (d + 1) t [a]) :
    ∃ (nl : Bool) (ps : List (Int × Int)), a = sl 2 nl (ps.map prAV) ∧ (ps.length : Int) ≤ maxLen ∧ ∀ p ∈ ps, (Lit.int .i64 p.1).wf = true ∧ (Lit.int .i64 p.2).wf = true := by
  rcases sh_slice ht h with rfl | ⟨xs, rfl, hl, hx⟩
  · exact ⟨true, [], rfl, by simp, by simp⟩
  · obtain ⟨zs, rfl, h2, h3⟩ := map_of_forall (f := prAV) (R := fun p => (Lit.int .i64 p.1).wf = true ∧ (Lit.int .i64 p.2).wf = true) xs (fun x hm => sh_pair hag hp (hx x hm))
    exact ⟨false, zs, by rw [hc, ← sl_false], by simp at hl; omega, h3⟩
theorem len_two {α : Type} {l : List α} (h : l.length = 2) : ∃ a b, l = [a, b] := by
  match l, h with
  | [a, b], _ => exact ⟨a, b, rfl⟩

theorem cells3 : Tryd.prog.cellsOf 3 = 1 := by kernel_rfl
theorem cells22 : Tryd.prog.cellsOf 22 = 1 := by kernel_rfl
theorem cells24 : Tryd.prog.cellsOf 24 = 2 := by kernel_rfl
theorem cells66 : Tryd.prog.cellsOf 66 = 2 := by kernel_rfl

theorem one_int {d : Nat} {a : AV} (h : Sh Tryd.prog (d + 1) 3 [a]) : ∃ n, a = I n ∧ (Lit.int .i64 n).wf = true := by
  simp only [Sh, Tryd.underlying3, List.cons.injEq, and_true] at h
  exact h
theorem sh_two {d : Nat} (cs : List AV) (h : Sh Tryd.prog (d + 2) 66 cs) : ∃ x y, cs = [I x, I y] ∧ (Lit.int .i64 x).wf = true ∧ (Lit.int .i64 y).wf = true := by
  unfold Sh at h
  simp only [Tryd.underlying66, cells66, cells3] at h
  obtain ⟨h1, h2⟩ := h
  obtain ⟨a, b, rfl⟩ := len_two h1
  have f0 := h2 0 (by omega)
  have f1 := h2 1 (by omega)
  simp only [Nat.zero_mul, Nat.one_mul, List.drop_zero, List.take_succ_cons, List.take_zero, List.drop_succ_cons] at f0 f1
  obtain ⟨x, rfl, hx⟩ := one_int f0
  obtain ⟨y, rfl, hy⟩ := one_int f1
  exact ⟨x, y, rfl, hx, hy⟩

/-- A book. -/
theorem sh_book {a : AV} (h : ShV Tryd.prog 8 24 a) : ∃ (nl : Bool) (n : Int) (ps : List (Int × Int)), a = bkAV nl n ps ∧ (ps.length : Int) ≤ maxLen ∧ (∀ p ∈ ps, (Lit.int .i64 p.1).wf = true ∧ (Lit.int .i64 p.2).wf = true) ∧ (Lit.int .i64 n).wf = true := by
  unfold ShV at h
  rw [if_pos (by unfold aggB; rw [Tryd.underlying24])] at h
  obtain ⟨cs, rfl, hs⟩ := h
  unfold Sh at hs
  simp only [Tryd.underlying24, cells24] at hs
  obtain ⟨h1, h2⟩ := hs
  obtain ⟨a, b, rfl⟩ := len_two h1
  have f0 := h2 0 _ rfl
  have f1 := h2 1 _ rfl
  simp only [List.getElem_toArray, List.getElem_cons_zero, List.getElem_cons_succ, cells3, cells22, List.drop_zero, List.take_succ_cons, List.take_zero, List.drop_succ_cons] at f0 f1
  obtain ⟨x, rfl, hx⟩ := one_int f0
  obtain ⟨nl, ps, rfl, hl, hp⟩ := sh_pairs Tryd.underlying22 (by unfold aggB; rw [Tryd.underlying66]) cells66 (fun cs h => sh_two cs h) f1
  exact ⟨nl, x, ps, rfl, hl, hp, hx⟩
theorem sh_list {a : AV} (h : ShV Tryd.prog 8 25 a) : ∃ (nl : Bool) (zs : List Int), a = sl 1 nl (zs.map I) ∧ (zs.length : Int) ≤ maxLen ∧ ∀ n ∈ zs, (Lit.int .i64 n).wf = true := by
  unfold ShV at h
  rw [if_neg (by unfold aggB; rw [Tryd.underlying25]; simp)] at h
  exact sh_ints Tryd.underlying25 Tryd.underlying3 cells3 h
end Go.Proofs.YtgohohiaaiogcaaDoor.Vm

namespace Go.Proofs.YtgohohiaaiogcaaDoor.Vm
open Go Go.Ev
set_option maxRecDepth 100000
attribute [local go_sem] cells_any storable_any ren1_any shaped_ptr cells_ptr storable_ptr ren1_ptr shaped_eptr cells_eptr storable_eptr ren1_eptr shaped_rsl cells_rsl storable_rsl ren1_rsl shaped_int cells_int storable_int ren1_int shaped_bool cells_bool storable_bool ren1_bool shaped_nils cells_nils storable_nils ren1_nils shaped_lst cells_lst storable_lst shaped_fn cells_fn storable_fn ren1_fn shaped_ifc cells_ifc storable_ifc ren1_ifc shaped_agg cells_agg storable_agg ren1_agg shaped_tup cells_tup storable_tup ren1_tup shaped_nif cells_nif storable_nif ren1_nif ren1_lany ren1_lfull ren1_lown len_lst len_rsl len_nil load_ptr load_eptr isRsl_lst isRsl_nil isRsl_rsl elems_nil elems_lst elems_sl isRsl_sl body_eq bodyK_normal bodyK_ret resK_some leaveK_some only_some code_skip code_exit code_ret code_ops code_seq code_cond code_block seqK_normal seqK_ret seqK_exit condK_true condK_false blockK_normal blockK_ret blockK_exit opsK_some ops_nil ops_cons wantK_true wantK_false stepK_some pubs pub pub_sl params okRef_loc storable_loc shaped_loc cells_loc isRsl_loc elems_loc len_loc untips untip untip_sl wantedAV setElems withO isAgg_v isAgg_agg isAgg_lst isAgg_ptr isAgg_fn isAgg_ifc isAgg_rsl isAgg_sl isAgg_loc List.replicate_succ List.replicate_zero opAV valAV aval avals ofVal Env.get setD canon gcAV renAll renEnv renStore renCells ren1_sl cutSt okEnv okStore okRefs okRef okRef_sl bin_int bin_bool bin_lst bin_rsl bin_nil bin_agg cellsEq cellEq isShift intOp boolOp min_int max_int beq_int bne resAV tupAV leave_eq fin_sl fin_loc fins fin_v fin_lst fin_agg fin_tup fin_fn storeAV readCells putCells cells_sl shaped_sl storable_sl fieldAddrAV len_sl goI List.getElem?_cons_zero List.getElem?_cons_succ List.getElem?_nil Option.bind_some Option.map_some List.length_cons List.length_nil List.all_cons List.all_nil Bool.and_true Bool.true_and Bool.and_false Bool.false_and and_true true_and and_false false_and Bool.false_eq_true List.set_cons_zero List.set_cons_succ List.append_nil List.nil_append List.cons_append List.take_zero List.take_succ_cons List.take_nil List.drop_zero List.drop_succ_cons List.map_cons List.map_nil decide_true decide_false beq_self_eq_true Bool.not_true Bool.not_false or_true true_or or_false false_or Nat.zero_add Nat.add_zero Nat.le_refl Nat.lt_irrefl decide_eq_true_eq eq_self_iff_true not_true_eq_false not_false_eq_true List.getD_cons_zero code_loop Nat.zero_le Nat.not_lt_zero Bool.true_beq Bool.false_beq beq_true beq_false ge_iff_le gt_iff_lt Lpure pus Option.map_none assert_ifc assert_nil idxA_ptr idxA_eptr idxV_agg Int.cast_ofNat_Int Nat.mul_one Nat.zero_mul Int.toNat_natCast Int.toNat_zero setParts withO2 hasKey eqnil_sl nenil_sl eqnil_loc nenil_loc map_nil_iff okRefs_ints renCells_ints

/-! ### comparing lists -/
/-! ### sorting lists -/
def tAV (l : List Int) : AV := sl 1 true (l.map I)
theorem shaped_t (l : List Int) : (tAV l).shaped = true := by unfold tAV sl; split <;> rfl
theorem cells_t (l : List Int) : (tAV l).cells = [tAV l] := by unfold tAV sl; split <;> rfl
theorem isAgg_t (l : List Int) : Ev.isAgg (tAV l) = false := by unfold tAV sl; split <;> rfl
theorem storable_t (l : List Int) : storable (tAV l) = true := by unfold tAV sl; split <;> rfl
theorem okRef_t (n : Nat) (l : List Int) : okRef n (tAV l) = true := by unfold tAV sl; split <;> rfl
theorem pub_t (l : List Int) : pub (tAV l) = tAV l := pub_sl _ _ _
attribute [local go_sem] shaped_t cells_t isAgg_t storable_t okRef_t

attribute [local go_sem high] and_one shr_u shl_one or_u and_u

/-! ### sets as lists -/
theorem all52 : (List.range 128).map (fun m => callAV L 60 52 [U m] ⟨[], []⟩) = (List.range 128).map (fun m => some (I (tzN m : Nat), (⟨[], []⟩ : St))) := by kernel_rfl
theorem c52 (m : Nat) (hm : m < 128) (st : St) : run L 52 [U m] st = some (I (tzN m : Nat), st) :=
  run_any' (fn := ir52) rfl rfl (callAV_run L 60 _ _ _ _ (all_of all52 m hm)) st
theorem all67 : (List.range 128).map (fun m => callAV L 60 67 [U m] ⟨[], []⟩) = (List.range 128).map (fun m => some (sl 1 true ((memb m).map I), (⟨[], []⟩ : St))) := by kernel_rfl
theorem c67 (m : Nat) (hm : m < 128) (st : St) : run L 67 [U m] st = some (sl 1 true ((memb m).map I), st) :=
  run_any' (fn := ir67) rfl rfl (callAV_run L 60 _ _ _ _ (all_of all67 m hm)) st


theorem filter_le_len {α : Type} (p q : α → Bool) : ∀ l : List α, (∀ x ∈ l, p x = true → q x = true) → (l.filter p).length ≤ (l.filter q).length
  | [], _ => by simp
  | a :: l, h => by
    have ih := filter_le_len p q l (fun x hx => h x (by simp [hx]))
    have ha := h a (by simp)
    cases h1 : p a <;> cases h2 : q a <;> simp_all <;> omega
theorem nodup_len_le {α : Type} [DecidableEq α] : ∀ (l k : List α), l.Nodup → (∀ x ∈ l, x ∈ k) → l.length ≤ k.length
  | [], _, _, _ => by simp
  | a :: l, k, hn, h => by
    rw [List.nodup_cons] at hn
    have ha := h a (by simp)
    have h1 := nodup_len_le l (k.erase a) hn.2 (fun x hx => by
      have hne : x ≠ a := fun e => hn.1 (e ▸ hx)
      exact (List.mem_erase_of_ne hne).2 (h x (by simp [hx])))
    rw [List.length_erase_of_mem ha] at h1
    have := List.length_pos_of_mem ha
    simp only [List.length_cons]; omega
theorem bit_lt {n x i : Nat} (h : x < 2 ^ n) (h2 : x.testBit i = true) : i < n := by
  rcases Nat.lt_or_ge i n with h3 | h3
  · exact h3
  · have : x.testBit i = false := Nat.testBit_lt_two_pow (Nat.lt_of_lt_of_le h (Nat.pow_le_pow_right (by omega) h3))
    rw [this] at h2; simp at h2
/-! ### how many sets of articles there are that nothing can be added to (Moon and Moser) -/
theorem filter_len_lt {α : Type} {p q : α → Bool} : ∀ l : List α, (∀ x ∈ l, p x = true → q x = true) → (∃ x ∈ l, q x = true ∧ p x = false) → (l.filter p).length < (l.filter q).length
  | [], _, h => by obtain ⟨x, hx, _⟩ := h; simp at hx
  | a :: l, h1, h2 => by
    have ih := fun h => filter_len_lt (p := p) (q := q) l (fun x hx => h1 x (by simp [hx])) h
    have hle := filter_le_len p q l (fun x hx => h1 x (by simp [hx]))
    have ha := h1 a (by simp)
    obtain ⟨x, hx, h3, h4⟩ := h2
    rcases List.mem_cons.1 hx with rfl | hx
    · rw [List.filter_cons_of_neg (by simp [h4]), List.filter_cons_of_pos h3, List.length_cons]; omega
    · have := ih ⟨x, hx, h3, h4⟩
      cases e1 : p a
      · rw [List.filter_cons_of_neg (by simp [e1])]
        cases e2 : q a
        · rw [List.filter_cons_of_neg (by simp [e2])]; exact this
        · rw [List.filter_cons_of_pos e2, List.length_cons]; omega
      · rw [List.filter_cons_of_pos e1, List.filter_cons_of_pos (ha e1), List.length_cons, List.length_cons]; omega
theorem bit_lt7 {z u : Nat} (hz : z < 128) (h : z.testBit u = true) : u < 7 := bit_lt (n := 7) hz h
/-! ### there are at most twelve choices -/
theorem and_zero (a b : Nat) : a &&& b = 0 ↔ ∀ i, ¬(a.testBit i = true ∧ b.testBit i = true) := by
  constructor
  · intro h i ⟨h1, h2⟩
    have := congrArg (fun z => z.testBit i) h
    simp only [Nat.testBit_and, h1, h2, Nat.zero_testBit, Bool.and_self] at this
    exact absurd this (by simp)
  · intro h
    apply Nat.eq_of_testBit_eq
    intro i
    rw [Nat.testBit_and, Nat.zero_testBit]
    have := h i
    cases h1 : a.testBit i <;> cases h2 : b.testBit i <;> simp_all

attribute [local go_sem] shaped_t cells_t isAgg_t storable_t okRef_t pub_t
attribute [local go_sem high] and_one shr_u shl_one or_u and_u

/-! ### all choices -/
theorem frzL2c {a b cs : List AV} (hne : cs ≠ []) (T : List Nat) (env : Env) :
    frzL 2 env ⟨[a, b, cs], T⟩ = (frzEnv 2 cs env, ⟨[frzVs 2 cs a, frzVs 2 cs b, []], T⟩) := by
  cases cs with
  | nil => exact absurd rfl hne
  | cons c cs => rfl

attribute [local go_sem] shaped_t cells_t isAgg_t storable_t okRef_t pub_t
attribute [local go_sem high] and_one shr_u shl_one or_u and_u

theorem fin_t (st : St) (l : List Int) : fin st (tAV l) = tAV l := by unfold tAV sl; split <;> rfl
/-! ### lists as sets -/
def setErr (n : Int) : Int → List Int → Int
  | _, [] => 0
  | last, x :: r => if x < 0 ∨ n ≤ x then 2 else if x ≤ last then 7 else setErr n x r

theorem loop72 (nl : Bool) (n : Int) (hn : 1 ≤ n ∧ n ≤ 7) (l : List Int) (hlen : l.length < 1000000) (w : List Nat) (ho : w.length = 7) (i : Nat) (last : Int) (hok : i ≤ l.length ∧ ∀ x ∈ l.take i, 0 ≤ x ∧ x < n) (env : Env) (st : St)
    (hg : gcAV true 1 0 (canon env [2, 6, 7, 10, 11, 12]) st = ([(2, .ptr 0 0), (6, U (setL (l.take i))), (7, I last), (10, sl 1 nl (l.map I)), (11, I l.length), (12, I i)], ⟨[webC n w], []⟩)) :
    ∃ x_1 en s, lim (headed pure (run L) true [2, 6, 7, 10, 11, 12] lp72_0 1 0) env st = some (x_1, en, s) ∧ (if setErr n last (l.drop i) = 0 then x_1 = .exit 0 ∧ en.get 6 = U (setL l) ∧ (∀ x ∈ l, 0 ≤ x ∧ x < n) else x_1 = .ret ∧ en.get 4 = U 0 ∧ en.get 5 = I (setErr n last (l.drop i))) := by
  refine loop_wp (α := Nat × Int) (fun ⟨i, last⟩ => l.length - i) (fun ⟨i, last⟩ => i ≤ l.length ∧ ∀ x ∈ l.take i, 0 ≤ x ∧ x < n) (fun ⟨i, last⟩ => ([(2, .ptr 0 0), (6, U (setL (l.take i))), (7, I last), (10, sl 1 nl (l.map I)), (11, I l.length), (12, I i)], ⟨[webC n w], []⟩)) (fun ⟨i, last⟩ x_1 en s => if setErr n last (l.drop i) = 0 then x_1 = .exit 0 ∧ en.get 6 = U (setL l) ∧ (∀ x ∈ l, 0 ≤ x ∧ x < n) else x_1 = .ret ∧ en.get 4 = U 0 ∧ en.get 5 = I (setErr n last (l.drop i))) (fun ⟨i, last⟩ hok => ?_) ⟨i, last⟩ hok env st hg
  simp only at hok
  obtain ⟨h1, h2⟩ := hok
  dsimp only at h1 h2 ⊢
  by_cases h : i < l.length
  · have hx := index_ints nl l i h
    have hs := succ64 i (by omega)
    have hd : l.drop i = l[i] :: l.drop (i + 1) := List.drop_eq_getElem_cons h
    have ht : l.take (i + 1) = l.take i ++ [l[i]] := by rw [List.take_succ_eq_append_getElem h]
    have h2' : ∀ x ∈ l.take i, 0 ≤ x ∧ x < 7 := fun x hx => by have := h2 x hx; omega
    have hm1 := setL_lt h2'
    have hsn := setL_snoc (l.take i) l[i]
    rw [← ht] at hsn
    rw [hd]
    generalize l[i] = x at *
    have hlt : ((i : Int) < (l.length : Int)) = True := eq_true (by omega)
    have hlw := lenW n w
    have g0 := getW0 n w
    rw [ho] at hlw
    by_cases p1 : x < 0
    · have he : setErr n last (x :: l.drop (i + 1)) = 2 := by simp only [setErr]; rw [if_pos (by omega)]
      simp only [go_sem, reduceIte, Nat.reduceEqDiff, Nat.reduceAdd, Nat.reduceSub, Nat.reduceLeDiff, Nat.reduceLT, reduceCtorEq, Int.reduceLT, Int.reduceLE, Int.reduceEq, Int.reduceBEq, Int.reduceSub, Int.reduceAdd, Int.reduceMul, Int.reduceNeg, Int.reduceToNat, Nat.reduceMul, Nat.reduceBEq, index_rsl_if, setm, make_ints, condK_dec, wantK_dec, not_dec, and_dec, or_dec, seqK_ite, seqK_none, blockK_ite, blockK_none, opsK_ite, opsK_none, stepK_ite, stepK_none, bodyK_ite, bodyK_none, resK_ite, resK_none, leaveK_ite, leaveK_none, only_ite, only_none, bind_ite, gives_some, gives_none, gives_ite, then_normal, then_ret, then_exit, then_none, then_ite, Option.bind_none, Bool.not_eq_true', decide_eq_false_iff_not, Bool.and_eq_true, Bool.or_eq_true, Option.some.injEq, Int.not_lt, Int.not_le, lp72_0, hx, hlt, p1, hlw, g0, List.length_map]
      simp [he]
    by_cases p2 : n ≤ x
    · have he : setErr n last (x :: l.drop (i + 1)) = 2 := by simp only [setErr]; rw [if_pos (by omega)]
      simp only [go_sem, reduceIte, Nat.reduceEqDiff, Nat.reduceAdd, Nat.reduceSub, Nat.reduceLeDiff, Nat.reduceLT, reduceCtorEq, Int.reduceLT, Int.reduceLE, Int.reduceEq, Int.reduceBEq, Int.reduceSub, Int.reduceAdd, Int.reduceMul, Int.reduceNeg, Int.reduceToNat, Nat.reduceMul, Nat.reduceBEq, index_rsl_if, setm, make_ints, condK_dec, wantK_dec, not_dec, and_dec, or_dec, seqK_ite, seqK_none, blockK_ite, blockK_none, opsK_ite, opsK_none, stepK_ite, stepK_none, bodyK_ite, bodyK_none, resK_ite, resK_none, leaveK_ite, leaveK_none, only_ite, only_none, bind_ite, gives_some, gives_none, gives_ite, then_normal, then_ret, then_exit, then_none, then_ite, Option.bind_none, Bool.not_eq_true', decide_eq_false_iff_not, Bool.and_eq_true, Bool.or_eq_true, Option.some.injEq, Int.not_lt, Int.not_le, lp72_0, hx, hlt, p1, p2, hlw, g0, List.length_map]
      simp [he]
    obtain ⟨k, rfl⟩ := Int.eq_ofNat_of_zero_le (show 0 ≤ x by omega)
    have hk : k < 7 := by omega
    have p1' : ((k : Int) < 0) = False := eq_false p1
    rw [Int.toNat_natCast] at hsn
    have e1 : orU (setL (l.take i)) (sh1 k) = setL (l.take (i + 1)) := by rw [hsn, (sh1_lt k hk).1, orU_eq _ _ hm1 (sh1_lt k hk).2]
    by_cases p3 : (k : Int) ≤ last
    · have he : setErr n last ((k : Int) :: l.drop (i + 1)) = 7 := by simp only [setErr]; rw [if_neg (by omega), if_pos p3]
      simp only [go_sem, reduceIte, Nat.reduceEqDiff, Nat.reduceAdd, Nat.reduceSub, Nat.reduceLeDiff, Nat.reduceLT, reduceCtorEq, Int.reduceLT, Int.reduceLE, Int.reduceEq, Int.reduceBEq, Int.reduceSub, Int.reduceAdd, Int.reduceMul, Int.reduceNeg, Int.reduceToNat, Nat.reduceMul, Nat.reduceBEq, index_rsl_if, setm, make_ints, condK_dec, wantK_dec, not_dec, and_dec, or_dec, seqK_ite, seqK_none, blockK_ite, blockK_none, opsK_ite, opsK_none, stepK_ite, stepK_none, bodyK_ite, bodyK_none, resK_ite, resK_none, leaveK_ite, leaveK_none, only_ite, only_none, bind_ite, gives_some, gives_none, gives_ite, then_normal, then_ret, then_exit, then_none, then_ite, Option.bind_none, Bool.not_eq_true', decide_eq_false_iff_not, Bool.and_eq_true, Bool.or_eq_true, Option.some.injEq, Int.not_lt, Int.not_le, lp72_0, hx, hlt, p1', p2, p3, hlw, g0, List.length_map]
      simp [he]
    · have he : setErr n last ((k : Int) :: l.drop (i + 1)) = setErr n (k : Int) (l.drop (i + 1)) := by simp only [setErr]; rw [if_neg (by omega), if_neg p3]
      rw [he]
      simp only [go_sem, reduceIte, Nat.reduceEqDiff, Nat.reduceAdd, Nat.reduceSub, Nat.reduceLeDiff, Nat.reduceLT, reduceCtorEq, Int.reduceLT, Int.reduceLE, Int.reduceEq, Int.reduceBEq, Int.reduceSub, Int.reduceAdd, Int.reduceMul, Int.reduceNeg, Int.reduceToNat, Nat.reduceMul, Nat.reduceBEq, index_rsl_if, setm, make_ints, condK_dec, wantK_dec, not_dec, and_dec, or_dec, seqK_ite, seqK_none, blockK_ite, blockK_none, opsK_ite, opsK_none, stepK_ite, stepK_none, bodyK_ite, bodyK_none, resK_ite, resK_none, leaveK_ite, leaveK_none, only_ite, only_none, bind_ite, gives_some, gives_none, gives_ite, then_normal, then_ret, then_exit, then_none, then_ite, Option.bind_none, Bool.not_eq_true', decide_eq_false_iff_not, Bool.and_eq_true, Bool.or_eq_true, Option.some.injEq, Int.not_lt, Int.not_le, lp72_0, hx, hlt, hs, p1', p2, p3, hlw, g0, e1, List.length_map]
      refine ⟨(i + 1, (k : Int)), by simp only [go_sem, reduceIte, Nat.reduceEqDiff, Nat.reduceAdd, Nat.reduceSub, Nat.reduceLeDiff, Nat.reduceLT, reduceCtorEq, Int.reduceLT, Int.reduceLE, Int.reduceEq, Int.reduceBEq, Int.reduceSub, Int.reduceAdd, Int.reduceMul, Int.reduceNeg, Int.reduceToNat, Nat.reduceMul, Nat.reduceBEq, ren1_locm, loc_tips, locT_eq, okRefsW, renCellsW] <;> rfl, ?_, ?_, fun x en s hq => ?_⟩
      · dsimp only
        refine ⟨by omega, fun x hx => ?_⟩
        rw [ht] at hx
        rcases List.mem_append.1 hx with hx | hx
        · exact h2 x hx
        · simp at hx; omega
      · dsimp only; omega
      · exact hq
  · have hd : l.drop i = [] := List.drop_eq_nil_of_le (by omega)
    have hlt : ((i : Int) < (l.length : Int)) = False := eq_false (by omega)
    have htl : l.take i = l := List.take_of_length_le (by omega)
    rw [htl] at h2
    simp only [go_sem, reduceIte, Nat.reduceEqDiff, Nat.reduceAdd, Nat.reduceSub, Nat.reduceLeDiff, Nat.reduceLT, reduceCtorEq, Int.reduceLT, Int.reduceLE, Int.reduceEq, Int.reduceBEq, Int.reduceSub, Int.reduceAdd, Int.reduceMul, Int.reduceNeg, Int.reduceToNat, Nat.reduceMul, Nat.reduceBEq, index_rsl_if, setm, make_ints, condK_dec, wantK_dec, not_dec, and_dec, or_dec, seqK_ite, seqK_none, blockK_ite, blockK_none, opsK_ite, opsK_none, stepK_ite, stepK_none, bodyK_ite, bodyK_none, resK_ite, resK_none, leaveK_ite, leaveK_none, only_ite, only_none, bind_ite, gives_some, gives_none, gives_ite, then_normal, then_ret, then_exit, then_none, then_ite, Option.bind_none, Bool.not_eq_true', decide_eq_false_iff_not, Bool.and_eq_true, Bool.or_eq_true, Option.some.injEq, Int.not_lt, Int.not_le, lp72_0, hlt, List.length_map, htl]
    rw [hd]
    simp only [setErr, if_true]
    exact h2

theorem c72 (nl : Bool) (n : Int) (hn : 1 ≤ n ∧ n ≤ 7) (l : List Int) (hlen : l.length < 1000000) (w : List Nat) (ho : w.length = 7) (st : St) :
    run L 72 [webAV n w, sl 1 nl (l.map I)] st = some (.tup [U (if setErr n (-1) l = 0 then setL l else 0), I (setErr n (-1) l)], st) ∧ (setErr n (-1) l = 0 → ∀ x ∈ l, 0 ≤ x ∧ x < n) := by
  rw [run_pure (fn := ir72) rfl rfl]
  have hlw := lenW n w
  rw [ho] at hlw
  have e0 : U (setL (l.take 0)) = U 0 := rfl
  simp only [ir72, go_sem, reduceIte, Nat.reduceEqDiff, Nat.reduceAdd, Nat.reduceSub, Nat.reduceLeDiff, Nat.reduceLT, reduceCtorEq, Int.reduceLT, Int.reduceLE, Int.reduceEq, Int.reduceBEq, Int.reduceSub, Int.reduceAdd, Int.reduceMul, Int.reduceNeg, Int.reduceToNat, Nat.reduceMul, Nat.reduceBEq, List.length_map, hlw, pubsW, storableW]
  generalize hg : lim (headed pure (run L) true _ lp72_0 _ _) _ _ = o
  obtain ⟨x, en, s, rfl, h2⟩ : ∃ x en s, o = some (x, en, s) ∧ _ := by rw [← hg]; exact loop72 nl n hn l hlen w ho 0 (-1) ⟨by omega, by simp⟩ _ _ (by simp only [go_sem, reduceIte, Nat.reduceEqDiff, Nat.reduceAdd, Nat.reduceSub, Nat.reduceLeDiff, Nat.reduceLT, reduceCtorEq, Int.reduceLT, Int.reduceLE, Int.reduceEq, Int.reduceBEq, Int.reduceSub, Int.reduceAdd, Int.reduceMul, Int.reduceNeg, Int.reduceToNat, Nat.reduceMul, Nat.reduceBEq, okRefsW, renCellsW, e0] <;> rfl)
  clear hg
  rw [List.drop_zero] at h2
  by_cases h : setErr n (-1) l = 0
  · rw [if_pos h] at h2 ⊢
    obtain ⟨rfl, h3, h4⟩ := h2
    exact ⟨by simp only [go_sem, reduceIte, Nat.reduceEqDiff, Nat.reduceAdd, Nat.reduceSub, Nat.reduceLeDiff, Nat.reduceLT, reduceCtorEq, Int.reduceLT, Int.reduceLE, Int.reduceEq, Int.reduceBEq, Int.reduceSub, Int.reduceAdd, Int.reduceMul, Int.reduceNeg, Int.reduceToNat, Nat.reduceMul, Nat.reduceBEq, h3, h], fun _ => h4⟩
  · rw [if_neg h] at h2 ⊢
    obtain ⟨rfl, h3, h4⟩ := h2
    exact ⟨by simp only [go_sem, reduceIte, Nat.reduceEqDiff, Nat.reduceAdd, Nat.reduceSub, Nat.reduceLeDiff, Nat.reduceLT, reduceCtorEq, Int.reduceLT, Int.reduceLE, Int.reduceEq, Int.reduceBEq, Int.reduceSub, Int.reduceAdd, Int.reduceMul, Int.reduceNeg, Int.reduceToNat, Nat.reduceMul, Nat.reduceBEq, h3, h4]; rfl, fun h5 => absurd h5 h⟩


/-! ### the reference: lists of words -/
theorem loop73 (nl n2 : Bool) (n : Int) (hn : 1 ≤ n ∧ n ≤ 7) (ps : List (Int × Int)) (l : List Int) (hl : l.length < 1000000) (i : Nat) (e : Int) (hok : i ≤ l.length) (env : Env) (st : St)
    (hg : gcAV true 1 0 (canon env [1, 2, 5, 6]) st = ([(1, sl 1 n2 (l.map I)), (2, .ptr 0 0), (5, I e), (6, I i)], ⟨[bkCells nl n ps], []⟩)) :
    ∃ x_1 en s, lim (headed pure (run L) true [1, 2, 5, 6] lp73_0 1 0) env st = some (x_1, en, s) ∧ (x_1 = .exit 0 ∧ en.get 5 = I (if e = 0 then (if i = 0 then setErr n (-1) l else setErr n (l.getD (i - 1) 0) (l.drop i)) else e)) := by
  refine loop_wp (α := Nat × Int) (fun ⟨i, e⟩ => l.length - i) (fun ⟨i, e⟩ => i ≤ l.length) (fun ⟨i, e⟩ => ([(1, sl 1 n2 (l.map I)), (2, .ptr 0 0), (5, I e), (6, I i)], ⟨[bkCells nl n ps], []⟩)) (fun ⟨i, e⟩ x_1 en s => x_1 = .exit 0 ∧ en.get 5 = I (if e = 0 then (if i = 0 then setErr n (-1) l else setErr n (l.getD (i - 1) 0) (l.drop i)) else e)) (fun ⟨i, e⟩ hok => ?_) ⟨i, e⟩ hok env st hg
  simp only at hok
  dsimp only
  by_cases p0 : e = 0
  · subst p0
    by_cases h : i < l.length
    · have hx := index_ints n2 l i h
      have hs := succ64 i (by omega)
      have hd : l.drop i = l[i] :: l.drop (i + 1) := List.drop_eq_getElem_cons h
      have hlt : ((i : Int) < (l.length : Int)) = True := eq_true (by omega)
      have hw : IntKind.i64.wrap (n - 1) = n - 1 := by rw [wrap64] <;> omega
      have e1 : l[i]?.getD 0 = l[i] := by rw [List.getElem?_eq_getElem h]; rfl
      by_cases hi : i = 0
      · subst hi
        have hl0 : l = l[0] :: l.drop 1 := by rw [← hd]; rfl
        have hset : setErr n (-1) l = setErr n (-1) (l[0] :: l.drop 1) := by rw [← hl0]
        rw [if_pos rfl, if_pos rfl, hset]
        have hlt0 : ((0 : Int) < (l.length : Int)) = True := eq_true (by omega)
        have hs0 : IntKind.i64.wrap (0 + 1) = 1 := by decide
        simp only [Int.natCast_zero] at hx
        generalize hy : l[0] = y at *
        by_cases p1 : 0 ≤ y ∧ y ≤ n - 1
        · have he : setErr n (-1) (y :: l.drop 1) = setErr n y (l.drop 1) := by simp only [setErr]; rw [if_neg (by omega), if_neg (by omega)]
          rw [he]
          simp only [go_sem, reduceIte, Nat.reduceEqDiff, Nat.reduceAdd, Nat.reduceSub, Nat.reduceLeDiff, Nat.reduceLT, reduceCtorEq, Int.reduceLT, Int.reduceLE, Int.reduceEq, Int.reduceBEq, Int.reduceSub, Int.reduceAdd, Int.reduceMul, Int.reduceNeg, Int.reduceToNat, Nat.reduceMul, Nat.reduceBEq, index_rsl_if, setm, make_ints, condK_dec, wantK_dec, not_dec, and_dec, or_dec, seqK_ite, seqK_none, blockK_ite, blockK_none, opsK_ite, opsK_none, stepK_ite, stepK_none, bodyK_ite, bodyK_none, resK_ite, resK_none, leaveK_ite, leaveK_none, only_ite, only_none, bind_ite, gives_some, gives_none, gives_ite, then_normal, then_ret, then_exit, then_none, then_ite, Option.bind_none, Bool.not_eq_true', decide_eq_false_iff_not, Bool.and_eq_true, Bool.or_eq_true, Option.some.injEq, Int.not_lt, Int.not_le, lp73_0, hx, hlt0, hs0, hw, c70, p1, List.length_map, Int.natCast_zero]
          refine ⟨(1, 0), by simp only [go_sem, reduceIte, Nat.reduceEqDiff, Nat.reduceAdd, Nat.reduceSub, Nat.reduceLeDiff, Nat.reduceLT, reduceCtorEq, Int.reduceLT, Int.reduceLE, Int.reduceEq, Int.reduceBEq, Int.reduceSub, Int.reduceAdd, Int.reduceMul, Int.reduceNeg, Int.reduceToNat, Nat.reduceMul, Nat.reduceBEq, ren1_locm, loc_tips, locT_eq] <;> rfl, ?_, ?_, fun x en s hq => ?_⟩
          · omega
          · omega
          · simpa [e1] using hq
        · have he : setErr n (-1) (y :: l.drop 1) = 2 := by simp only [setErr]; rw [if_pos (by omega)]
          rw [he]
          simp only [go_sem, reduceIte, Nat.reduceEqDiff, Nat.reduceAdd, Nat.reduceSub, Nat.reduceLeDiff, Nat.reduceLT, reduceCtorEq, Int.reduceLT, Int.reduceLE, Int.reduceEq, Int.reduceBEq, Int.reduceSub, Int.reduceAdd, Int.reduceMul, Int.reduceNeg, Int.reduceToNat, Nat.reduceMul, Nat.reduceBEq, index_rsl_if, setm, make_ints, condK_dec, wantK_dec, not_dec, and_dec, or_dec, seqK_ite, seqK_none, blockK_ite, blockK_none, opsK_ite, opsK_none, stepK_ite, stepK_none, bodyK_ite, bodyK_none, resK_ite, resK_none, leaveK_ite, leaveK_none, only_ite, only_none, bind_ite, gives_some, gives_none, gives_ite, then_normal, then_ret, then_exit, then_none, then_ite, Option.bind_none, Bool.not_eq_true', decide_eq_false_iff_not, Bool.and_eq_true, Bool.or_eq_true, Option.some.injEq, Int.not_lt, Int.not_le, lp73_0, hx, hlt0, hs0, hw, c70, p1, List.length_map, Int.natCast_zero]
          refine ⟨(1, 2), by simp only [go_sem, reduceIte, Nat.reduceEqDiff, Nat.reduceAdd, Nat.reduceSub, Nat.reduceLeDiff, Nat.reduceLT, reduceCtorEq, Int.reduceLT, Int.reduceLE, Int.reduceEq, Int.reduceBEq, Int.reduceSub, Int.reduceAdd, Int.reduceMul, Int.reduceNeg, Int.reduceToNat, Nat.reduceMul, Nat.reduceBEq, ren1_locm, loc_tips, locT_eq] <;> rfl, ?_, ?_, fun x en s hq => ?_⟩
          · omega
          · omega
          · simpa using hq
      · have hpos : ((0 : Int) < (i : Int)) = True := eq_true (by omega)
        have hx2 := index_ints n2 l (i - 1) (by omega)
        have e2 : l.getD (i - 1) 0 = l[i - 1] := by rw [List.getD_eq_getElem?_getD, List.getElem?_eq_getElem (by omega)]; rfl
        have hwi : IntKind.i64.wrap ((i : Int) - 1) = ((i - 1 : Nat) : Int) := by rw [wrap64] <;> omega
        rw [if_pos rfl, if_neg hi, hd, e2]
        generalize l[i] = y at *
        generalize l[i - 1] = z at *
        by_cases p1 : 0 ≤ y ∧ y ≤ n - 1
        · by_cases p2 : y ≤ z
          · have he : setErr n z (y :: l.drop (i + 1)) = 7 := by simp only [setErr]; rw [if_neg (by omega), if_pos p2]
            rw [he]
            simp only [go_sem, reduceIte, Nat.reduceEqDiff, Nat.reduceAdd, Nat.reduceSub, Nat.reduceLeDiff, Nat.reduceLT, reduceCtorEq, Int.reduceLT, Int.reduceLE, Int.reduceEq, Int.reduceBEq, Int.reduceSub, Int.reduceAdd, Int.reduceMul, Int.reduceNeg, Int.reduceToNat, Nat.reduceMul, Nat.reduceBEq, index_rsl_if, setm, make_ints, condK_dec, wantK_dec, not_dec, and_dec, or_dec, seqK_ite, seqK_none, blockK_ite, blockK_none, opsK_ite, opsK_none, stepK_ite, stepK_none, bodyK_ite, bodyK_none, resK_ite, resK_none, leaveK_ite, leaveK_none, only_ite, only_none, bind_ite, gives_some, gives_none, gives_ite, then_normal, then_ret, then_exit, then_none, then_ite, Option.bind_none, Bool.not_eq_true', decide_eq_false_iff_not, Bool.and_eq_true, Bool.or_eq_true, Option.some.injEq, Int.not_lt, Int.not_le, lp73_0, hx, hx2, hlt, hs, hw, hwi, hpos, c70, p1, p2, List.length_map]
            refine ⟨(i + 1, 7), by simp only [go_sem, reduceIte, Nat.reduceEqDiff, Nat.reduceAdd, Nat.reduceSub, Nat.reduceLeDiff, Nat.reduceLT, reduceCtorEq, Int.reduceLT, Int.reduceLE, Int.reduceEq, Int.reduceBEq, Int.reduceSub, Int.reduceAdd, Int.reduceMul, Int.reduceNeg, Int.reduceToNat, Nat.reduceMul, Nat.reduceBEq, ren1_locm, loc_tips, locT_eq] <;> rfl, ?_, ?_, fun x en s hq => ?_⟩
            · omega
            · omega
            · simpa using hq
          · have he : setErr n z (y :: l.drop (i + 1)) = setErr n y (l.drop (i + 1)) := by simp only [setErr]; rw [if_neg (by omega), if_neg p2]
            rw [he]
            simp only [go_sem, reduceIte, Nat.reduceEqDiff, Nat.reduceAdd, Nat.reduceSub, Nat.reduceLeDiff, Nat.reduceLT, reduceCtorEq, Int.reduceLT, Int.reduceLE, Int.reduceEq, Int.reduceBEq, Int.reduceSub, Int.reduceAdd, Int.reduceMul, Int.reduceNeg, Int.reduceToNat, Nat.reduceMul, Nat.reduceBEq, index_rsl_if, setm, make_ints, condK_dec, wantK_dec, not_dec, and_dec, or_dec, seqK_ite, seqK_none, blockK_ite, blockK_none, opsK_ite, opsK_none, stepK_ite, stepK_none, bodyK_ite, bodyK_none, resK_ite, resK_none, leaveK_ite, leaveK_none, only_ite, only_none, bind_ite, gives_some, gives_none, gives_ite, then_normal, then_ret, then_exit, then_none, then_ite, Option.bind_none, Bool.not_eq_true', decide_eq_false_iff_not, Bool.and_eq_true, Bool.or_eq_true, Option.some.injEq, Int.not_lt, Int.not_le, lp73_0, hx, hx2, hlt, hs, hw, hwi, hpos, c70, p1, p2, List.length_map]
            refine ⟨(i + 1, 0), by simp only [go_sem, reduceIte, Nat.reduceEqDiff, Nat.reduceAdd, Nat.reduceSub, Nat.reduceLeDiff, Nat.reduceLT, reduceCtorEq, Int.reduceLT, Int.reduceLE, Int.reduceEq, Int.reduceBEq, Int.reduceSub, Int.reduceAdd, Int.reduceMul, Int.reduceNeg, Int.reduceToNat, Nat.reduceMul, Nat.reduceBEq, ren1_locm, loc_tips, locT_eq] <;> rfl, ?_, ?_, fun x en s hq => ?_⟩
            · omega
            · omega
            · simpa [e1] using hq
        · have he : setErr n z (y :: l.drop (i + 1)) = 2 := by simp only [setErr]; rw [if_pos (by omega)]
          rw [he]
          simp only [go_sem, reduceIte, Nat.reduceEqDiff, Nat.reduceAdd, Nat.reduceSub, Nat.reduceLeDiff, Nat.reduceLT, reduceCtorEq, Int.reduceLT, Int.reduceLE, Int.reduceEq, Int.reduceBEq, Int.reduceSub, Int.reduceAdd, Int.reduceMul, Int.reduceNeg, Int.reduceToNat, Nat.reduceMul, Nat.reduceBEq, index_rsl_if, setm, make_ints, condK_dec, wantK_dec, not_dec, and_dec, or_dec, seqK_ite, seqK_none, blockK_ite, blockK_none, opsK_ite, opsK_none, stepK_ite, stepK_none, bodyK_ite, bodyK_none, resK_ite, resK_none, leaveK_ite, leaveK_none, only_ite, only_none, bind_ite, gives_some, gives_none, gives_ite, then_normal, then_ret, then_exit, then_none, then_ite, Option.bind_none, Bool.not_eq_true', decide_eq_false_iff_not, Bool.and_eq_true, Bool.or_eq_true, Option.some.injEq, Int.not_lt, Int.not_le, lp73_0, hx, hx2, hlt, hs, hw, hwi, hpos, c70, p1, List.length_map]
          refine ⟨(i + 1, 2), by simp only [go_sem, reduceIte, Nat.reduceEqDiff, Nat.reduceAdd, Nat.reduceSub, Nat.reduceLeDiff, Nat.reduceLT, reduceCtorEq, Int.reduceLT, Int.reduceLE, Int.reduceEq, Int.reduceBEq, Int.reduceSub, Int.reduceAdd, Int.reduceMul, Int.reduceNeg, Int.reduceToNat, Nat.reduceMul, Nat.reduceBEq, ren1_locm, loc_tips, locT_eq] <;> rfl, ?_, ?_, fun x en s hq => ?_⟩
          · omega
          · omega
          · simpa using hq
    · have hd : l.drop i = [] := List.drop_eq_nil_of_le (by omega)
      have hlt : ((i : Int) < (l.length : Int)) = False := eq_false (by omega)
      have e0 : (if i = 0 then setErr n (-1) l else setErr n (l.getD (i - 1) 0) (l.drop i)) = 0 := by
        by_cases hi : i = 0
        · subst hi
          have : l = [] := List.length_eq_zero_iff.1 (by omega)
          subst this; rfl
        · rw [if_neg hi, hd]; rfl
      rw [if_pos rfl, e0]
      simp only [go_sem, reduceIte, Nat.reduceEqDiff, Nat.reduceAdd, Nat.reduceSub, Nat.reduceLeDiff, Nat.reduceLT, reduceCtorEq, Int.reduceLT, Int.reduceLE, Int.reduceEq, Int.reduceBEq, Int.reduceSub, Int.reduceAdd, Int.reduceMul, Int.reduceNeg, Int.reduceToNat, Nat.reduceMul, Nat.reduceBEq, index_rsl_if, setm, make_ints, condK_dec, wantK_dec, not_dec, and_dec, or_dec, seqK_ite, seqK_none, blockK_ite, blockK_none, opsK_ite, opsK_none, stepK_ite, stepK_none, bodyK_ite, bodyK_none, resK_ite, resK_none, leaveK_ite, leaveK_none, only_ite, only_none, bind_ite, gives_some, gives_none, gives_ite, then_normal, then_ret, then_exit, then_none, then_ite, Option.bind_none, Bool.not_eq_true', decide_eq_false_iff_not, Bool.and_eq_true, Bool.or_eq_true, Option.some.injEq, Int.not_lt, Int.not_le, lp73_0, hlt, List.length_map]
  · rw [if_neg p0]
    by_cases h : i < l.length
    · have hlt : ((i : Int) < (l.length : Int)) = True := eq_true (by omega)
      simp only [go_sem, reduceIte, Nat.reduceEqDiff, Nat.reduceAdd, Nat.reduceSub, Nat.reduceLeDiff, Nat.reduceLT, reduceCtorEq, Int.reduceLT, Int.reduceLE, Int.reduceEq, Int.reduceBEq, Int.reduceSub, Int.reduceAdd, Int.reduceMul, Int.reduceNeg, Int.reduceToNat, Nat.reduceMul, Nat.reduceBEq, index_rsl_if, setm, make_ints, condK_dec, wantK_dec, not_dec, and_dec, or_dec, seqK_ite, seqK_none, blockK_ite, blockK_none, opsK_ite, opsK_none, stepK_ite, stepK_none, bodyK_ite, bodyK_none, resK_ite, resK_none, leaveK_ite, leaveK_none, only_ite, only_none, bind_ite, gives_some, gives_none, gives_ite, then_normal, then_ret, then_exit, then_none, then_ite, Option.bind_none, Bool.not_eq_true', decide_eq_false_iff_not, Bool.and_eq_true, Bool.or_eq_true, Option.some.injEq, Int.not_lt, Int.not_le, lp73_0, hlt, p0, List.length_map]
    · have hlt : ((i : Int) < (l.length : Int)) = False := eq_false (by omega)
      simp only [go_sem, reduceIte, Nat.reduceEqDiff, Nat.reduceAdd, Nat.reduceSub, Nat.reduceLeDiff, Nat.reduceLT, reduceCtorEq, Int.reduceLT, Int.reduceLE, Int.reduceEq, Int.reduceBEq, Int.reduceSub, Int.reduceAdd, Int.reduceMul, Int.reduceNeg, Int.reduceToNat, Nat.reduceMul, Nat.reduceBEq, index_rsl_if, setm, make_ints, condK_dec, wantK_dec, not_dec, and_dec, or_dec, seqK_ite, seqK_none, blockK_ite, blockK_none, opsK_ite, opsK_none, stepK_ite, stepK_none, bodyK_ite, bodyK_none, resK_ite, resK_none, leaveK_ite, leaveK_none, only_ite, only_none, bind_ite, gives_some, gives_none, gives_ite, then_normal, then_ret, then_exit, then_none, then_ite, Option.bind_none, Bool.not_eq_true', decide_eq_false_iff_not, Bool.and_eq_true, Bool.or_eq_true, Option.some.injEq, Int.not_lt, Int.not_le, lp73_0, hlt, p0, List.length_map]

def listedE (n : Int) (ps : List (Int × Int)) (l : List Int) : Int := if chk n ps = 0 then setErr n (-1) l else chk n ps
theorem c73 (nl n2 : Bool) (n : Int) (ps : List (Int × Int)) (l : List Int) (hl : l.length < 1000000) (st : St) : run L 73 [bkAV nl n ps, sl 1 n2 (l.map I)] st = some (I (listedE n ps l), st) := by
  rw [run_pure (fn := ir73) rfl rfl]
  have h25 := fun st => c25 nl n ps st
  unfold listedE
  by_cases h : chk n ps = 0
  · obtain ⟨h1, h2', h3, h4, h5⟩ := chk_zero h
    rw [if_pos h]
    simp only [ir73, go_sem, reduceIte, Nat.reduceEqDiff, Nat.reduceAdd, Nat.reduceSub, Nat.reduceLeDiff, Nat.reduceLT, reduceCtorEq, Int.reduceLT, Int.reduceLE, Int.reduceEq, Int.reduceBEq, Int.reduceSub, Int.reduceAdd, Int.reduceMul, Int.reduceNeg, Int.reduceToNat, Nat.reduceMul, Nat.reduceBEq, h25, h]
    generalize hg : lim (headed pure (run L) true _ lp73_0 _ _) _ _ = o
    obtain ⟨x, en, s, rfl, h2⟩ : ∃ x en s, o = some (x, en, s) ∧ _ := by rw [← hg]; exact loop73 nl n2 n h1 ps l hl 0 0 (by omega) _ _ (by simp only [go_sem, reduceIte, Nat.reduceEqDiff, Nat.reduceAdd, Nat.reduceSub, Nat.reduceLeDiff, Nat.reduceLT, reduceCtorEq, Int.reduceLT, Int.reduceLE, Int.reduceEq, Int.reduceBEq, Int.reduceSub, Int.reduceAdd, Int.reduceMul, Int.reduceNeg, Int.reduceToNat, Nat.reduceMul, Nat.reduceBEq, Int.natCast_zero] <;> rfl)
    clear hg
    rw [if_pos rfl, if_pos rfl] at h2
    obtain ⟨rfl, h3⟩ := h2
    simp only [go_sem, reduceIte, Nat.reduceEqDiff, Nat.reduceAdd, Nat.reduceSub, Nat.reduceLeDiff, Nat.reduceLT, reduceCtorEq, Int.reduceLT, Int.reduceLE, Int.reduceEq, Int.reduceBEq, Int.reduceSub, Int.reduceAdd, Int.reduceMul, Int.reduceNeg, Int.reduceToNat, Nat.reduceMul, Nat.reduceBEq, h3]
  · rw [if_neg h]
    simp only [ir73, go_sem, reduceIte, Nat.reduceEqDiff, Nat.reduceAdd, Nat.reduceSub, Nat.reduceLeDiff, Nat.reduceLT, reduceCtorEq, Int.reduceLT, Int.reduceLE, Int.reduceEq, Int.reduceBEq, Int.reduceSub, Int.reduceAdd, Int.reduceMul, Int.reduceNeg, Int.reduceToNat, Nat.reduceMul, Nat.reduceBEq, h25]
    generalize chk n ps = c at *
    generalize hg : lim (headed pure (run L) _ _ lp73_0 _ _) _ _ = o
    obtain ⟨x, en, s, rfl, h2⟩ : ∃ x en s, o = some (x, en, s) ∧ (x = .exit 0 ∧ en.get 5 = I c) := by
      rw [← hg]
      refine loop_wp (α := Nat) (fun _ => 0) (fun _ => True) (fun _ => ([(1, sl 1 n2 (l.map I)), (2, .ptr 0 0), (5, I c), (6, I 0)], ⟨[bkCells nl n ps], []⟩)) (fun _ x_1 en s => x_1 = .exit 0 ∧ en.get 5 = I c) (fun _ hok => ?_) 0 trivial _ _ (by simp only [go_sem, reduceIte, Nat.reduceEqDiff, Nat.reduceAdd, Nat.reduceSub, Nat.reduceLeDiff, Nat.reduceLT, reduceCtorEq, Int.reduceLT, Int.reduceLE, Int.reduceEq, Int.reduceBEq, Int.reduceSub, Int.reduceAdd, Int.reduceMul, Int.reduceNeg, Int.reduceToNat, Nat.reduceMul, Nat.reduceBEq] <;> rfl)
      by_cases hl0 : 0 < l.length
      · have hlt : ((0 : Int) < (l.length : Int)) = True := eq_true (by omega)
        simp only [go_sem, reduceIte, Nat.reduceEqDiff, Nat.reduceAdd, Nat.reduceSub, Nat.reduceLeDiff, Nat.reduceLT, reduceCtorEq, Int.reduceLT, Int.reduceLE, Int.reduceEq, Int.reduceBEq, Int.reduceSub, Int.reduceAdd, Int.reduceMul, Int.reduceNeg, Int.reduceToNat, Nat.reduceMul, Nat.reduceBEq, index_rsl_if, setm, make_ints, condK_dec, wantK_dec, not_dec, and_dec, or_dec, seqK_ite, seqK_none, blockK_ite, blockK_none, opsK_ite, opsK_none, stepK_ite, stepK_none, bodyK_ite, bodyK_none, resK_ite, resK_none, leaveK_ite, leaveK_none, only_ite, only_none, bind_ite, gives_some, gives_none, gives_ite, then_normal, then_ret, then_exit, then_none, then_ite, Option.bind_none, Bool.not_eq_true', decide_eq_false_iff_not, Bool.and_eq_true, Bool.or_eq_true, Option.some.injEq, Int.not_lt, Int.not_le, lp73_0, hlt, h, List.length_map]
      · have hlt : ((0 : Int) < (l.length : Int)) = False := eq_false (by omega)
        simp only [go_sem, reduceIte, Nat.reduceEqDiff, Nat.reduceAdd, Nat.reduceSub, Nat.reduceLeDiff, Nat.reduceLT, reduceCtorEq, Int.reduceLT, Int.reduceLE, Int.reduceEq, Int.reduceBEq, Int.reduceSub, Int.reduceAdd, Int.reduceMul, Int.reduceNeg, Int.reduceToNat, Nat.reduceMul, Nat.reduceBEq, index_rsl_if, setm, make_ints, condK_dec, wantK_dec, not_dec, and_dec, or_dec, seqK_ite, seqK_none, blockK_ite, blockK_none, opsK_ite, opsK_none, stepK_ite, stepK_none, bodyK_ite, bodyK_none, resK_ite, resK_none, leaveK_ite, leaveK_none, only_ite, only_none, bind_ite, gives_some, gives_none, gives_ite, then_normal, then_ret, then_exit, then_none, then_ite, Option.bind_none, Bool.not_eq_true', decide_eq_false_iff_not, Bool.and_eq_true, Bool.or_eq_true, Option.some.injEq, Int.not_lt, Int.not_le, lp73_0, hlt, h, List.length_map]
    clear hg
    obtain ⟨rfl, h3⟩ := h2
    simp only [go_sem, reduceIte, Nat.reduceEqDiff, Nat.reduceAdd, Nat.reduceSub, Nat.reduceLeDiff, Nat.reduceLT, reduceCtorEq, Int.reduceLT, Int.reduceLE, Int.reduceEq, Int.reduceBEq, Int.reduceSub, Int.reduceAdd, Int.reduceMul, Int.reduceNeg, Int.reduceToNat, Nat.reduceMul, Nat.reduceBEq, h3]


/-! ### a list of lists that grows -/
def oAV (X : List (List Int)) : AV := loc 1 0 (X.map tAV)
theorem okRef_o (n : Nat) (X : List (List Int)) : okRef n (oAV X) = true := okRef_loc _ _ _ _
theorem fin_o (st : St) (X : List (List Int)) : fin st (oAV X) = sl 1 true (X.map tAV) := fin_loc st 1 0 _
attribute [local go_sem] shaped_t cells_t isAgg_t storable_t okRef_t pub_t okRef_o fin_o

attribute [local go_sem] shaped_t cells_t isAgg_t storable_t okRef_t pub_t

/-! ### the code and the reference say the same -/
theorem setErr_in {n : Int} : ∀ {l : List Int} {last : Int}, setErr n last l = 0 → ∀ x ∈ l, 0 ≤ x ∧ x < n
  | [], _, _, x, hx => by simp at hx
  | a :: r, last, h, x, hx => by
    simp only [setErr] at h
    split at h
    · omega
    · split at h
      · omega
      · rcases List.mem_cons.1 hx with rfl | hx
        · omega
        · exact setErr_in h x hx

attribute [local go_sem high] and_one shr_u shl_one or_u and_u

/-! ### a list of sets that grows -/
def qA (X : List Nat) : AV := loc 1 1 (X.map U)
def qT (X : List Nat) : List Nat := locT 1 (X.map U)
def qAcc (X : List Nat) : List (Nat × Nat) := if (X.map U).length = 1 then [] else [(0, (X.map U).length)]
theorem okRef_q (n : Nat) (X : List Nat) : okRef n (qA X) = true := okRef_loc _ _ _ _
theorem ren1_qh (X : List Nat) (acc : List (Nat × Nat)) : ren1 (qT X).length (qT X) acc (qA X) = (qA X, acc) := by
  unfold qA qT loc locT
  split
  · rfl
  · simp [ren1]
theorem len_q (X : List Nat) : lenAV (qA X) = some (I X.length) := by unfold qA; rw [len_loc]; simp
theorem append_q (X : List Nat) (x : Nat) (S : List (List AV)) (h1 : 1 ≤ X.length) (h : X.length < 1000) : appendAV 1 (qA X) [U x] ⟨S, qT X⟩ = some (qA (X ++ [x]), ⟨S, qT (X ++ [x])⟩) :=
  append_locm (z := 1) (k := 1) U X x S (by omega) (by simp [maxGrow]; omega)
theorem index_q (X : List Nat) (i : Nat) (h : i < X.length) : indexSAV 1 (qA X) (.v (.int .i64 (i : Int))) = some (.eptr (U (X.getD i 0)) 0) := by
  unfold qA
  rw [index_loc _ _ _ _ _ (by omega) (by simp; omega)]
  simp [List.getD_eq_getElem?_getD, List.getElem?_eq_getElem h]

/-- The words that see one of a set, added to it. -/
def wide1 (w : List Nat) (now m x : Nat) : Nat := if w.getD x 0 &&& now = 0 then m else m ||| 2 ^ x
def wideL (w : List Nat) (now : Nat) (l : List Nat) (m : Nat) : Nat := l.foldl (wide1 w now) m

theorem loop32_0 (nl : Bool) (n : Nat) (hn : 1 ≤ n ∧ n ≤ 7) (ps : List (Int × Int)) (w : List Nat) (ho : w.length = 7) (hsm : ∀ x ∈ w, x < 128) (a : Int) (X : List Nat) (now : Nat) (hnow : now < 128) (th : Nat) (hth : th = (qT X).length) (x : Nat) (m : Nat) (hok : x ≤ n ∧ m < 128) (env : Env) (st : St)
    (hg : gcAV true 2 th (canon env [2, 8, 11, 12, 13, 72, 73, 74]) st = ([(2, I a), (8, .ptr 1 0), (11, qA X), (12, U now), (13, U m), (72, .rsl 1 1 n 7 1 false), (73, I n), (74, I x)], ⟨[bkCells nl (n : Int) ps, webC (n : Int) w], qT X⟩)) :
    ∃ x_1 en s, lim (headed pure (run L) true [2, 8, 11, 12, 13, 72, 73, 74] lp32_0 2 th) env st = some (x_1, en, s) ∧ (x_1 = .exit 4 ∧ en.get 2 = I a ∧ en.get 8 = .ptr 1 0 ∧ en.get 11 = qA X ∧ en.get 12 = U now ∧ en.get 13 = U (wideL w now (List.range' x (n - x)) m) ∧ s = ⟨[bkCells nl (n : Int) ps, webC (n : Int) w], qT X⟩ ∧ wideL w now (List.range' x (n - x)) m < 128) := by
  refine loop_wp (α := Nat × Nat) (fun ⟨x, m⟩ => n - x) (fun ⟨x, m⟩ => x ≤ n ∧ m < 128) (fun ⟨x, m⟩ => ([(2, I a), (8, .ptr 1 0), (11, qA X), (12, U now), (13, U m), (72, .rsl 1 1 n 7 1 false), (73, I n), (74, I x)], ⟨[bkCells nl (n : Int) ps, webC (n : Int) w], qT X⟩)) (fun ⟨x, m⟩ x_1 en s => x_1 = .exit 4 ∧ en.get 2 = I a ∧ en.get 8 = .ptr 1 0 ∧ en.get 11 = qA X ∧ en.get 12 = U now ∧ en.get 13 = U (wideL w now (List.range' x (n - x)) m) ∧ s = ⟨[bkCells nl (n : Int) ps, webC (n : Int) w], qT X⟩ ∧ wideL w now (List.range' x (n - x)) m < 128) (fun ⟨x, m⟩ hok => ?_) ⟨x, m⟩ hok env st hg
  simp only at hok
  subst hth
  obtain ⟨h1, h2⟩ := hok
  dsimp only at h1 h2 ⊢
  by_cases h : x < n
  · have hs := succ64 x (by omega)
    have hlt : ((x : Int) < (n : Int)) = True := eq_true (by omega)
    have hi0 : ((0 : Int) ≤ (x : Int)) = True := eq_true (by omega)
    have hr : List.range' x (n - x) = x :: List.range' (x + 1) (n - (x + 1)) := by
      rw [show n - x = (n - (x + 1)) + 1 by omega, List.range'_succ]
    have g1 := getW (n : Int) w x (by omega)
    have hlw := lenW (n : Int) w
    rw [ho] at hlw
    have b1 : (1 + x + 1 ≤ 8) = True := eq_true (by omega)
    have hand := andN_eq (w.getD x 0) now (small_getD hsm x) hnow
    have e1 : orU m (sh1 x) = m ||| 2 ^ x := by rw [(sh1_lt x (by omega)).1, orU_eq _ _ h2 (sh1_lt x (by omega)).2]
    have hlt2 : m ||| 2 ^ x < 128 := Nat.or_lt_two_pow (n := 7) h2 (sh1_lt x (by omega)).2
    have hw1 : wide1 w now m x = if w.getD x 0 &&& now = 0 then m else m ||| 2 ^ x := rfl
    have hwc : wideL w now (x :: List.range' (x + 1) (n - (x + 1))) m = wideL w now (List.range' (x + 1) (n - (x + 1))) (wide1 w now m x) := rfl
    rw [hr, hwc, hw1]
    generalize m ||| 2 ^ x = m2 at *
    generalize w.getD x 0 = v at *
    generalize v &&& now = c at *
    by_cases p : c = 0
    · have hc : ((c : Int) = 0) = True := eq_true (by omega)
      rw [if_pos p]
      simp only [go_sem, reduceIte, Nat.reduceEqDiff, Nat.reduceAdd, Nat.reduceSub, Nat.reduceLeDiff, Nat.reduceLT, reduceCtorEq, Int.reduceLT, Int.reduceLE, Int.reduceEq, Int.reduceBEq, Int.reduceSub, Int.reduceAdd, Int.reduceMul, Int.reduceNeg, Int.reduceToNat, Nat.reduceMul, Nat.reduceBEq, index_rsl_if, setm, make_ints, condK_dec, wantK_dec, not_dec, and_dec, or_dec, seqK_ite, seqK_none, blockK_ite, blockK_none, opsK_ite, opsK_none, stepK_ite, stepK_none, bodyK_ite, bodyK_none, resK_ite, resK_none, leaveK_ite, leaveK_none, only_ite, only_none, bind_ite, gives_some, gives_none, gives_ite, then_normal, then_ret, then_exit, then_none, then_ite, Option.bind_none, Bool.not_eq_true', decide_eq_false_iff_not, Bool.and_eq_true, Bool.or_eq_true, Option.some.injEq, Int.not_lt, Int.not_le, lp32_0, hlt, hi0, hs, g1, hlw, b1, hand, hc]
      refine ⟨(x + 1, m), by simp only [go_sem, reduceIte, Nat.reduceEqDiff, Nat.reduceAdd, Nat.reduceSub, Nat.reduceLeDiff, Nat.reduceLT, reduceCtorEq, Int.reduceLT, Int.reduceLE, Int.reduceEq, Int.reduceBEq, Int.reduceSub, Int.reduceAdd, Int.reduceMul, Int.reduceNeg, Int.reduceToNat, Nat.reduceMul, Nat.reduceBEq, ren1_locm, loc_tips, locT_eq, okRefsW, renCellsW, okRef_q, ren1_qh, List.take_length] <;> rfl, ?_, ?_, fun x en s hq => ?_⟩
      · dsimp only; exact ⟨by omega, h2⟩
      · dsimp only; omega
      · exact hq
    · have hc : ((c : Int) = 0) = False := eq_false (by omega)
      rw [if_neg p]
      simp only [go_sem, reduceIte, Nat.reduceEqDiff, Nat.reduceAdd, Nat.reduceSub, Nat.reduceLeDiff, Nat.reduceLT, reduceCtorEq, Int.reduceLT, Int.reduceLE, Int.reduceEq, Int.reduceBEq, Int.reduceSub, Int.reduceAdd, Int.reduceMul, Int.reduceNeg, Int.reduceToNat, Nat.reduceMul, Nat.reduceBEq, index_rsl_if, setm, make_ints, condK_dec, wantK_dec, not_dec, and_dec, or_dec, seqK_ite, seqK_none, blockK_ite, blockK_none, opsK_ite, opsK_none, stepK_ite, stepK_none, bodyK_ite, bodyK_none, resK_ite, resK_none, leaveK_ite, leaveK_none, only_ite, only_none, bind_ite, gives_some, gives_none, gives_ite, then_normal, then_ret, then_exit, then_none, then_ite, Option.bind_none, Bool.not_eq_true', decide_eq_false_iff_not, Bool.and_eq_true, Bool.or_eq_true, Option.some.injEq, Int.not_lt, Int.not_le, lp32_0, hlt, hi0, hs, g1, hlw, b1, hand, hc, e1]
      refine ⟨(x + 1, m2), by simp only [go_sem, reduceIte, Nat.reduceEqDiff, Nat.reduceAdd, Nat.reduceSub, Nat.reduceLeDiff, Nat.reduceLT, reduceCtorEq, Int.reduceLT, Int.reduceLE, Int.reduceEq, Int.reduceBEq, Int.reduceSub, Int.reduceAdd, Int.reduceMul, Int.reduceNeg, Int.reduceToNat, Nat.reduceMul, Nat.reduceBEq, ren1_locm, loc_tips, locT_eq, okRefsW, renCellsW, okRef_q, ren1_qh, List.take_length] <;> rfl, ?_, ?_, fun x en s hq => ?_⟩
      · dsimp only; exact ⟨by omega, hlt2⟩
      · dsimp only; omega
      · exact hq
  · have hr : n - x = 0 := by omega
    have hlt : ((x : Int) < (n : Int)) = False := eq_false (by omega)
    rw [hr]
    simp only [go_sem, reduceIte, Nat.reduceEqDiff, Nat.reduceAdd, Nat.reduceSub, Nat.reduceLeDiff, Nat.reduceLT, reduceCtorEq, Int.reduceLT, Int.reduceLE, Int.reduceEq, Int.reduceBEq, Int.reduceSub, Int.reduceAdd, Int.reduceMul, Int.reduceNeg, Int.reduceToNat, Nat.reduceMul, Nat.reduceBEq, index_rsl_if, setm, make_ints, condK_dec, wantK_dec, not_dec, and_dec, or_dec, seqK_ite, seqK_none, blockK_ite, blockK_none, opsK_ite, opsK_none, stepK_ite, stepK_none, bodyK_ite, bodyK_none, resK_ite, resK_none, leaveK_ite, leaveK_none, only_ite, only_none, bind_ite, gives_some, gives_none, gives_ite, then_normal, then_ret, then_exit, then_none, then_ite, Option.bind_none, Bool.not_eq_true', decide_eq_false_iff_not, Bool.and_eq_true, Bool.or_eq_true, Option.some.injEq, Int.not_lt, Int.not_le, lp32_0, hlt]
    exact ⟨rfl, h2⟩

/-! ### how wide it gets -/
def wideN (w : List Nat) (n now : Nat) : Nat := wideL w now (List.range' 0 n) now
theorem wide1_le (w : List Nat) (now m x : Nat) : m ≤ wide1 w now m x := by
  unfold wide1; split
  · exact Nat.le_refl _
  · exact Nat.left_le_or
theorem wideL_le (w : List Nat) (now : Nat) : ∀ (l : List Nat) (m : Nat), m ≤ wideL w now l m
  | [], m => Nat.le_refl _
  | x :: r, m => Nat.le_trans (wide1_le w now m x) (wideL_le w now r _)

attribute [local go_sem high] and_one shr_u shl_one or_u and_u
attribute [local go_sem] okRef_q len_q

theorem ren1_q (X : List Nat) : ren1 0 (qT X) [] (qA X) = (qA X, qAcc X) := ren1_loc (k := 1) 1 (X.map U)
theorem qAcc_snd (X : List Nat) : (qAcc X).map (fun x => x.2) = qT X := by
  unfold qAcc qT locT; split <;> rfl
/-- The last set. -/
def lastN (X : List Nat) : Nat := X.getD (X.length - 1) 0
theorem lastN_snoc (X : List Nat) (x : Nat) : lastN (X ++ [x]) = x := by
  unfold lastN
  rw [List.length_append, List.length_singleton, Nat.add_sub_cancel, List.getD_eq_getElem?_getD, List.getElem?_append_right (by omega)]
  simp
inductive Near (w : List Nat) (n a : Nat) : List Nat → Option (List Nat) → Prop
  | hit (X) : (lastN X).testBit a = true → Near w n a X (some X)
  | stop (X) : (lastN X).testBit a = false → wideN w n (lastN X) = lastN X → Near w n a X none
  | step (X r) : (lastN X).testBit a = false → wideN w n (lastN X) ≠ lastN X → Near w n a (X ++ [wideN w n (lastN X)]) r → Near w n a X r

theorem loop32_1 (nl : Bool) (n : Nat) (hn : 1 ≤ n ∧ n ≤ 7) (ps : List (Int × Int)) (w : List Nat) (ho : w.length = 7) (hsm : ∀ x ∈ w, x < 128) (a : Nat) (ha : a < 7) (X : List Nat) (hok : 1 ≤ X.length ∧ X.length + (128 - lastN X) ≤ 200 ∧ ∀ x ∈ X, x < 128) (env : Env) (st : St)
    (hg : gcAV true 2 0 (canon env [2, 8, 11]) st = ([(2, I a), (8, .ptr 1 0), (11, qA X)], ⟨[bkCells nl (n : Int) ps, webC (n : Int) w], qT X⟩)) :
    ∃ x_1 en s, lim (headed pure (run L) true [2, 8, 11] lp32_1 2 0) env st = some (x_1, en, s) ∧ (∃ r, Near w n a X r ∧ ((r = none ∧ x_1 = .ret ∧ en.get 6 = .v (.slice none 0 0) ∧ en.get 7 = I 12) ∨ ∃ Y, r = some Y ∧ x_1 = .exit 2 ∧ en.get 2 = I a ∧ en.get 8 = .ptr 1 0 ∧ en.get 11 = qA Y ∧ s = ⟨[bkCells nl (n : Int) ps, webC (n : Int) w], qT Y⟩ ∧ 1 ≤ Y.length ∧ Y.length ≤ 200 ∧ ∀ x ∈ Y, x < 128)) := by
  refine loop_wp (α := List Nat) (fun X => 128 - lastN X) (fun X => 1 ≤ X.length ∧ X.length + (128 - lastN X) ≤ 200 ∧ ∀ x ∈ X, x < 128) (fun X => ([(2, I a), (8, .ptr 1 0), (11, qA X)], ⟨[bkCells nl (n : Int) ps, webC (n : Int) w], qT X⟩)) (fun X x_1 en s => ∃ r, Near w n a X r ∧ ((r = none ∧ x_1 = .ret ∧ en.get 6 = .v (.slice none 0 0) ∧ en.get 7 = I 12) ∨ ∃ Y, r = some Y ∧ x_1 = .exit 2 ∧ en.get 2 = I a ∧ en.get 8 = .ptr 1 0 ∧ en.get 11 = qA Y ∧ s = ⟨[bkCells nl (n : Int) ps, webC (n : Int) w], qT Y⟩ ∧ 1 ≤ Y.length ∧ Y.length ≤ 200 ∧ ∀ x ∈ Y, x < 128)) (fun X hok => ?_) X hok env st hg
  obtain ⟨h1, h2, h3⟩ := hok
  have hx := index_q X (X.length - 1) (by omega)
  have hl1 : IntKind.i64.wrap ((X.length : Int) - 1) = ((X.length - 1 : Nat) : Int) := by rw [wrap64] <;> omega
  have hlast : X.getD (X.length - 1) 0 = lastN X := rfl
  have hm : lastN X < 128 := small_getD h3 _
  have hb := bit_zero (lastN X) a
  have hmk := min64 a (by omega)
  rw [hlast] at hx
  cases hbit : (lastN X).testBit a
  · rw [hbit] at hb
    have hwd : wideN w n (lastN X) = wideL w (lastN X) (List.range' 0 n) (lastN X) := rfl
    have hwle := wideL_le w (lastN X) (List.range' 0 n) (lastN X)
    have hsl : sliceaAV 7 1 false (.ptr 1 1) none (some (.v (.int .i64 (n : Int)))) none = some (.rsl 1 1 n 7 1 false) := by
      simp only [sliceaAV, natOr, natOf]
      simp; omega
    have g0 := getW0 (n : Int) w
    have hlw := lenW (n : Int) w
    rw [ho] at hlw
    have hns : wideN w n (lastN X) = lastN X → Near w n a X none := fun e => .stop X hbit e
    have hst : wideN w n (lastN X) ≠ lastN X → ∀ r, Near w n a (X ++ [wideN w n (lastN X)]) r → Near w n a X r := fun e r => .step X r hbit e
    simp only [go_sem, reduceIte, Nat.reduceEqDiff, Nat.reduceAdd, Nat.reduceSub, Nat.reduceLeDiff, Nat.reduceLT, reduceCtorEq, Int.reduceLT, Int.reduceLE, Int.reduceEq, Int.reduceBEq, Int.reduceSub, Int.reduceAdd, Int.reduceMul, Int.reduceNeg, Int.reduceToNat, Nat.reduceMul, Nat.reduceBEq, index_rsl_if, setm, make_ints, condK_dec, wantK_dec, not_dec, and_dec, or_dec, seqK_ite, seqK_none, blockK_ite, blockK_none, opsK_ite, opsK_none, stepK_ite, stepK_none, bodyK_ite, bodyK_none, resK_ite, resK_none, leaveK_ite, leaveK_none, only_ite, only_none, bind_ite, gives_some, gives_none, gives_ite, then_normal, then_ret, then_exit, then_none, then_ite, Option.bind_none, Bool.not_eq_true', decide_eq_false_iff_not, Bool.and_eq_true, Bool.or_eq_true, Option.some.injEq, Int.not_lt, Int.not_le, lp32_1, hx, hl1, hb, hmk, hsl, g0, hlw]
    generalize hg : lim (headed pure (run L) true _ lp32_0 _ _) _ _ = o
    obtain ⟨x, en, s, rfl, h2⟩ : ∃ x en s, o = some (x, en, s) ∧ _ := by rw [← hg]; exact loop32_0 nl n hn ps w ho hsm (a : Int) X (lastN X) hm (qT X).length rfl 0 (lastN X) ⟨by omega, hm⟩ _ _ (by simp only [go_sem, reduceIte, Nat.reduceEqDiff, Nat.reduceAdd, Nat.reduceSub, Nat.reduceLeDiff, Nat.reduceLT, reduceCtorEq, Int.reduceLT, Int.reduceLE, Int.reduceEq, Int.reduceBEq, Int.reduceSub, Int.reduceAdd, Int.reduceMul, Int.reduceNeg, Int.reduceToNat, Nat.reduceMul, Nat.reduceBEq, okRefsW, renCellsW, okRef_q, ren1_qh, List.take_length, Int.natCast_zero] <;> rfl)
    clear hg
    rw [Nat.sub_zero, ← hwd] at h2
    obtain ⟨rfl, e2, e8, e11, e12, e13, rfl, hlt⟩ := h2
    rw [← hwd] at hwle
    have happ := fun S => append_q X (wideN w n (lastN X)) S h1 (by omega)
    have hln := lastN_snoc X (wideN w n (lastN X))
    generalize wideN w n (lastN X) = q at *
    generalize lastN X = m at *
    by_cases p : q = m
    · have p' : ((q : Int) = (m : Int)) = True := eq_true (by omega)
      simp only [go_sem, reduceIte, Nat.reduceEqDiff, Nat.reduceAdd, Nat.reduceSub, Nat.reduceLeDiff, Nat.reduceLT, reduceCtorEq, Int.reduceLT, Int.reduceLE, Int.reduceEq, Int.reduceBEq, Int.reduceSub, Int.reduceAdd, Int.reduceMul, Int.reduceNeg, Int.reduceToNat, Nat.reduceMul, Nat.reduceBEq, index_rsl_if, setm, make_ints, condK_dec, wantK_dec, not_dec, and_dec, or_dec, seqK_ite, seqK_none, blockK_ite, blockK_none, opsK_ite, opsK_none, stepK_ite, stepK_none, bodyK_ite, bodyK_none, resK_ite, resK_none, leaveK_ite, leaveK_none, only_ite, only_none, bind_ite, gives_some, gives_none, gives_ite, then_normal, then_ret, then_exit, then_none, then_ite, Option.bind_none, Bool.not_eq_true', decide_eq_false_iff_not, Bool.and_eq_true, Bool.or_eq_true, Option.some.injEq, Int.not_lt, Int.not_le, lp32_1, e2, e8, e11, e12, e13, p']
      exact ⟨none, hns p, by simp⟩
    · have p' : ((q : Int) = (m : Int)) = False := eq_false (by omega)
      simp only [go_sem, reduceIte, Nat.reduceEqDiff, Nat.reduceAdd, Nat.reduceSub, Nat.reduceLeDiff, Nat.reduceLT, reduceCtorEq, Int.reduceLT, Int.reduceLE, Int.reduceEq, Int.reduceBEq, Int.reduceSub, Int.reduceAdd, Int.reduceMul, Int.reduceNeg, Int.reduceToNat, Nat.reduceMul, Nat.reduceBEq, index_rsl_if, setm, make_ints, condK_dec, wantK_dec, not_dec, and_dec, or_dec, seqK_ite, seqK_none, blockK_ite, blockK_none, opsK_ite, opsK_none, stepK_ite, stepK_none, bodyK_ite, bodyK_none, resK_ite, resK_none, leaveK_ite, leaveK_none, only_ite, only_none, bind_ite, gives_some, gives_none, gives_ite, then_normal, then_ret, then_exit, then_none, then_ite, Option.bind_none, Bool.not_eq_true', decide_eq_false_iff_not, Bool.and_eq_true, Bool.or_eq_true, Option.some.injEq, Int.not_lt, Int.not_le, lp32_1, e2, e8, e11, e12, e13, p', happ]
      refine ⟨X ++ [q], by simp only [go_sem, reduceIte, Nat.reduceEqDiff, Nat.reduceAdd, Nat.reduceSub, Nat.reduceLeDiff, Nat.reduceLT, reduceCtorEq, Int.reduceLT, Int.reduceLE, Int.reduceEq, Int.reduceBEq, Int.reduceSub, Int.reduceAdd, Int.reduceMul, Int.reduceNeg, Int.reduceToNat, Nat.reduceMul, Nat.reduceBEq, ren1_locm, loc_tips, locT_eq, e2, e8, e11, e12, e13, okRefsW, renCellsW, okRef_q, ren1_q, qAcc_snd] <;> rfl, ?_, ?_, fun x en s hq => ?_⟩
      · refine ⟨by simp, by rw [hln, List.length_append, List.length_singleton]; omega, fun x hx => ?_⟩
        rcases List.mem_append.1 hx with hx | hx
        · exact h3 x hx
        · simp at hx; omega
      · rw [hln]; omega
      · obtain ⟨r, hr, hq2⟩ := hq
        exact ⟨r, hst p r hr, hq2⟩
  · rw [hbit] at hb
    have hh : Near w n a X (some X) := .hit X hbit
    simp only [go_sem, reduceIte, Nat.reduceEqDiff, Nat.reduceAdd, Nat.reduceSub, Nat.reduceLeDiff, Nat.reduceLT, reduceCtorEq, Int.reduceLT, Int.reduceLE, Int.reduceEq, Int.reduceBEq, Int.reduceSub, Int.reduceAdd, Int.reduceMul, Int.reduceNeg, Int.reduceToNat, Nat.reduceMul, Nat.reduceBEq, index_rsl_if, setm, make_ints, condK_dec, wantK_dec, not_dec, and_dec, or_dec, seqK_ite, seqK_none, blockK_ite, blockK_none, opsK_ite, opsK_none, stepK_ite, stepK_none, bodyK_ite, bodyK_none, resK_ite, resK_none, leaveK_ite, leaveK_none, only_ite, only_none, bind_ite, gives_some, gives_none, gives_ite, then_normal, then_ret, then_exit, then_none, then_ite, Option.bind_none, Bool.not_eq_true', decide_eq_false_iff_not, Bool.and_eq_true, Bool.or_eq_true, Option.some.injEq, Int.not_lt, Int.not_le, lp32_1, hx, hl1, hb, hmk]
    exact ⟨some X, hh, by simp; exact ⟨h1, by omega, h3⟩⟩

attribute [local go_sem high] and_one shr_u shl_one or_u and_u
attribute [local go_sem] okRef_q len_q

/-! ### the way, above the sets -/
def pA (X : List Nat) (o : List Int) : AV := if o.length = 1 then .lst .full 1 (o.map I) else .lst (.own (qT X).length o.length) 1 (o.map I)
def pT (o : List Int) : List Nat := if o.length = 1 then [] else [o.length]
def pAcc (X : List Nat) (o : List Int) : List (Nat × Nat) := if o.length = 1 then [] else [((qT X).length, o.length)]
theorem okRef_p (n : Nat) (X : List Nat) (o : List Int) : okRef n (pA X o) = true := by unfold pA; split <;> rfl
theorem fin_p (st : St) (X : List Nat) (o : List Int) (h : o ≠ []) : fin st (pA X o) = sl 1 true (o.map I) := by
  unfold pA
  rw [sl_ne (by simpa using h)]
  split <;> rfl
theorem ren1_p (X : List Nat) (o : List Int) : ren1 (qT X).length (qT X ++ pT o) [] (pA X o) = (pA X o, pAcc X o) := by
  unfold pA pT pAcc
  by_cases h : o.length = 1
  · simp [h, ren1]
  · simp [h, ren1]
theorem ren1_qp (X : List Nat) (o : List Int) (acc : List (Nat × Nat)) : ren1 (qT X).length (qT X ++ pT o) acc (qA X) = (qA X, acc) := by
  unfold qA qT loc locT
  split
  · rfl
  · simp [ren1]
theorem pAcc_snd (X : List Nat) (o : List Int) : (pAcc X o).map (fun x => x.2) = pT o := by
  unfold pAcc pT; split <;> rfl
theorem take_qT (X : List Nat) (o : List Int) : (qT X ++ pT o).take (qT X).length = qT X := List.take_left
theorem append_p (X : List Nat) (o : List Int) (x : Int) (S : List (List AV)) (h1 : 1 ≤ o.length) (h : o.length < 1000) : appendAV 1 (pA X o) [I x] ⟨S, qT X ++ pT o⟩ = some (pA X (o ++ [x]), ⟨S, qT X ++ pT (o ++ [x])⟩) := by
  have h2 : o.length + 1 ≤ maxGrow := by unfold maxGrow; omega
  unfold pA pT
  by_cases h0 : o.length = 1
  · simp [h0, appendAV, maxGrow]
  · have h3 : o.length + 1 ≠ 1 := by omega
    have h6 : o ≠ [] := by intro e; subst e; simp at h1
    simp [h0, appendAV, h2, h6]

/-- From word to word: each time the first one that is in the set before. -/
def wayL (w : List Nat) (X : List Nat) : Nat → Nat → List Int → List Int
  | 0, _, o => o
  | j + 1, a, o => wayL w X j (tzN (w.getD a 0 &&& X.getD j 0)) (o ++ [((tzN (w.getD a 0 &&& X.getD j 0) : Nat) : Int)])
/-- On the way there is always a next word. -/
def wayOk (w : List Nat) (X : List Nat) : Nat → Nat → Prop
  | 0, _ => True
  | j + 1, a => w.getD a 0 &&& X.getD j 0 ≠ 0 ∧ wayOk w X j (tzN (w.getD a 0 &&& X.getD j 0))

theorem loop32_2 (nl : Bool) (n : Nat) (hn : 1 ≤ n ∧ n ≤ 7) (ps : List (Int × Int)) (w : List Nat) (ho : w.length = 7) (hsm : ∀ x ∈ w, x < 128) (X : List Nat) (hX : X.length ≤ 200) (hX2 : ∀ x ∈ X, x < 128) (th : Nat) (hth : th = (qT X).length) (j : Nat) (a : Nat) (o : List Int) (hok : j ≤ X.length ∧ a < 7 ∧ wayOk w X j a ∧ 1 ≤ o.length ∧ o.length + j ≤ 400) (env : Env) (st : St)
    (hg : gcAV true 2 th (canon env [2, 8, 11, 16, 17]) st = ([(2, I a), (8, .ptr 1 0), (11, qA X), (16, pA X o), (17, I ((j : Int) - 1))], ⟨[bkCells nl (n : Int) ps, webC (n : Int) w], qT X ++ pT o⟩)) :
    ∃ x_1 en s, lim (headed pure (run L) true [2, 8, 11, 16, 17] lp32_2 2 th) env st = some (x_1, en, s) ∧ (x_1 = .exit 6 ∧ en.get 16 = pA X (wayL w X j a o)) := by
  refine loop_wp (α := Nat × Nat × List Int) (fun ⟨j, a, o⟩ => j) (fun ⟨j, a, o⟩ => j ≤ X.length ∧ a < 7 ∧ wayOk w X j a ∧ 1 ≤ o.length ∧ o.length + j ≤ 400) (fun ⟨j, a, o⟩ => ([(2, I a), (8, .ptr 1 0), (11, qA X), (16, pA X o), (17, I ((j : Int) - 1))], ⟨[bkCells nl (n : Int) ps, webC (n : Int) w], qT X ++ pT o⟩)) (fun ⟨j, a, o⟩ x_1 en s => x_1 = .exit 6 ∧ en.get 16 = pA X (wayL w X j a o)) (fun ⟨j, a, o⟩ hok => ?_) ⟨j, a, o⟩ hok env st hg
  simp only at hok
  subst hth
  obtain ⟨h1, h2, h3, h4, h5⟩ := hok
  dsimp only at h1 h2 h3 h4 h5 ⊢
  cases j with
  | zero =>
    have hge : ((0 : Int) ≤ ((0 : Nat) : Int) - 1) = False := eq_false (by omega)
    simp only [go_sem, reduceIte, Nat.reduceEqDiff, Nat.reduceAdd, Nat.reduceSub, Nat.reduceLeDiff, Nat.reduceLT, reduceCtorEq, Int.reduceLT, Int.reduceLE, Int.reduceEq, Int.reduceBEq, Int.reduceSub, Int.reduceAdd, Int.reduceMul, Int.reduceNeg, Int.reduceToNat, Nat.reduceMul, Nat.reduceBEq, index_rsl_if, setm, make_ints, condK_dec, wantK_dec, not_dec, and_dec, or_dec, seqK_ite, seqK_none, blockK_ite, blockK_none, opsK_ite, opsK_none, stepK_ite, stepK_none, bodyK_ite, bodyK_none, resK_ite, resK_none, leaveK_ite, leaveK_none, only_ite, only_none, bind_ite, gives_some, gives_none, gives_ite, then_normal, then_ret, then_exit, then_none, then_ite, Option.bind_none, Bool.not_eq_true', decide_eq_false_iff_not, Bool.and_eq_true, Bool.or_eq_true, Option.some.injEq, Int.not_lt, Int.not_le, lp32_2, hge]
    rfl
  | succ j =>
    have e0 : (((j + 1 : Nat) : Int) - 1) = (j : Int) := by omega
    rw [e0]
    have hge : ((0 : Int) ≤ (j : Int)) = True := eq_true (by omega)
    have hw : IntKind.i64.wrap ((j : Int) - 1) = (j : Int) - 1 := by rw [wrap64] <;> omega
    have hx := index_q X j (by omega)
    have g1 := getW (n : Int) w a (by omega)
    have hlw := lenW (n : Int) w
    rw [ho] at hlw
    have b1 : ((0 : Int) ≤ (a : Int)) = True := eq_true (by omega)
    have b2 : ((a : Int) < 7) = True := eq_true (by omega)
    have b5 : (1 + a + 1 ≤ 8) = True := eq_true (by omega)
    have hsa := small_getD hsm a
    have hsx := small_getD hX2 j
    have hand := andN_eq (w.getD a 0) (X.getD j 0) hsa hsx
    have hlt : w.getD a 0 &&& X.getD j 0 < 128 := Nat.lt_of_le_of_lt Nat.and_le_left hsa
    have hwl : wayL w X (j + 1) a o = wayL w X j (tzN (w.getD a 0 &&& X.getD j 0)) (o ++ [((tzN (w.getD a 0 &&& X.getD j 0) : Nat) : Int)]) := rfl
    obtain ⟨h6, h7⟩ := h3
    rw [hwl]
    generalize w.getD a 0 = v at *
    generalize X.getD j 0 = u at *
    generalize v &&& u = c at *
    have h52 := fun st => c52 c hlt st
    obtain ⟨t1, t2⟩ := tz_spec hlt h6
    generalize tzN c = t at *
    have happ := fun S => append_p X o (t : Int) S h4 (by omega)
    simp only [go_sem, reduceIte, Nat.reduceEqDiff, Nat.reduceAdd, Nat.reduceSub, Nat.reduceLeDiff, Nat.reduceLT, reduceCtorEq, Int.reduceLT, Int.reduceLE, Int.reduceEq, Int.reduceBEq, Int.reduceSub, Int.reduceAdd, Int.reduceMul, Int.reduceNeg, Int.reduceToNat, Nat.reduceMul, Nat.reduceBEq, index_rsl_if, setm, make_ints, condK_dec, wantK_dec, not_dec, and_dec, or_dec, seqK_ite, seqK_none, blockK_ite, blockK_none, opsK_ite, opsK_none, stepK_ite, stepK_none, bodyK_ite, bodyK_none, resK_ite, resK_none, leaveK_ite, leaveK_none, only_ite, only_none, bind_ite, gives_some, gives_none, gives_ite, then_normal, then_ret, then_exit, then_none, then_ite, Option.bind_none, Bool.not_eq_true', decide_eq_false_iff_not, Bool.and_eq_true, Bool.or_eq_true, Option.some.injEq, Int.not_lt, Int.not_le, lp32_2, hge, hw, hx, g1, hlw, b1, b2, b5, hand, h52, happ]
    refine ⟨(j, t, o ++ [(t : Int)]), by simp only [go_sem, reduceIte, Nat.reduceEqDiff, Nat.reduceAdd, Nat.reduceSub, Nat.reduceLeDiff, Nat.reduceLT, reduceCtorEq, Int.reduceLT, Int.reduceLE, Int.reduceEq, Int.reduceBEq, Int.reduceSub, Int.reduceAdd, Int.reduceMul, Int.reduceNeg, Int.reduceToNat, Nat.reduceMul, Nat.reduceBEq, ren1_locm, loc_tips, locT_eq, okRefsW, renCellsW, okRef_q, okRef_p, ren1_qp, ren1_p, pAcc_snd, take_qT] <;> rfl, ?_, ?_, fun x en s hq => ?_⟩
    · dsimp only; exact ⟨by omega, t1, h7, by simp, by simp; omega⟩
    · dsimp only; omega
    · exact hq


theorem wideL_bit (w : List Nat) (now : Nat) (b : Nat) : ∀ (l : List Nat) (m : Nat), (wideL w now l m).testBit b = (m.testBit b || (decide (b ∈ l) && decide (w.getD b 0 &&& now ≠ 0)))
  | [], m => by simp [wideL]
  | x :: r, m => by
    have hc : wideL w now (x :: r) m = wideL w now r (wide1 w now m x) := rfl
    rw [hc, wideL_bit w now b r]
    unfold wide1
    by_cases p : w.getD x 0 &&& now = 0
    · rw [if_pos p]
      by_cases e : b = x
      · subst e
        have hq : decide (w.getD b 0 &&& now ≠ 0) = false := decide_eq_false (fun h => h p)
        rw [hq]; simp
      · generalize decide (w.getD b 0 &&& now ≠ 0) = q
        simp [e]
    · rw [if_neg p, Nat.testBit_or, Nat.testBit_two_pow]
      by_cases e : b = x
      · subst e
        have hq : decide (w.getD b 0 &&& now ≠ 0) = true := decide_eq_true p
        rw [hq]; simp
      · generalize decide (w.getD b 0 &&& now ≠ 0) = q
        simp [e, Ne.symm e]
theorem wideN_bit {w : List Nat} {n b : Nat} (hb : b < n) (now : Nat) : (wideN w n now).testBit b = (now.testBit b || decide (w.getD b 0 &&& now ≠ 0)) := by
  unfold wideN
  rw [wideL_bit]
  have : b ∈ List.range' 0 n := by rw [List.mem_range'_1]; omega
  simp [this]
/-- Each set is the one before it, made wide. -/
def Grows (w : List Nat) (n : Nat) (X : List Nat) : Prop := ∀ j, j + 1 < X.length → X.getD (j + 1) 0 = wideN w n (X.getD j 0)
theorem grows_snoc {w : List Nat} {n : Nat} {X : List Nat} (h : Grows w n X) (h1 : 1 ≤ X.length) : Grows w n (X ++ [wideN w n (lastN X)]) := by
  intro j hj
  rw [List.length_append, List.length_singleton] at hj
  by_cases h2 : j + 1 < X.length
  · have := h j h2
    rw [List.getD_eq_getElem?_getD, List.getElem?_append_left h2, ← List.getD_eq_getElem?_getD, List.getD_eq_getElem?_getD (l := X ++ _), List.getElem?_append_left (by omega), ← List.getD_eq_getElem?_getD]
    exact this
  · have e : j = X.length - 1 := by omega
    subst e
    rw [List.getD_eq_getElem?_getD, List.getElem?_append_right (by omega), List.getD_eq_getElem?_getD, List.getElem?_append_left (by omega), ← List.getD_eq_getElem?_getD]
    rw [show X.length - 1 + 1 - X.length = 0 by omega]
    rfl
/-- What is known of the sets that are found. -/
theorem near_ok {w : List Nat} {n a : Nat} {X : List Nat} {r : Option (List Nat)} (h : Near w n a X r) : ∀ Y, r = some Y → Grows w n X → 1 ≤ X.length → (∀ j, j + 1 < X.length → (X.getD j 0).testBit a = false) → Grows w n Y ∧ 1 ≤ Y.length ∧ (lastN Y).testBit a = true ∧ ∀ j, j + 1 < Y.length → (Y.getD j 0).testBit a = false := by
  induction h with
  | hit X hb => intro Y e hg h1 h2; cases e; exact ⟨hg, h1, hb, h2⟩
  | stop X _ _ => intro Y e; simp at e
  | step X r hb hne hn ih =>
    intro Y e hg h1 h2
    refine ih Y e (grows_snoc hg h1) (by simp) (fun j hj => ?_)
    rw [List.length_append, List.length_singleton] at hj
    rw [List.getD_eq_getElem?_getD, List.getElem?_append_left (by omega), ← List.getD_eq_getElem?_getD]
    by_cases h3 : j + 1 < X.length
    · exact h2 j h3
    · have e3 : j = X.length - 1 := by omega
      rw [e3]; exact hb


theorem way_ok {w Y : List Nat} {n : Nat} (hg : Grows w n Y) (hsm : ∀ x ∈ w, x < 128) (hwn : ∀ a b, (w.getD a 0).testBit b = true → b < n) : ∀ (j a : Nat), j < Y.length → a < n → (Y.getD j 0).testBit a = true → (∀ i, i + 1 = j → (Y.getD i 0).testBit a = false) → wayOk w Y j a
  | 0, _, _, _, _, _ => trivial
  | j + 1, a, hj, ha, hb, hn => by
    have h0 := hn j rfl
    have hgj := hg j hj
    rw [hgj, wideN_bit ha, h0, Bool.false_or, decide_eq_true_iff] at hb
    have hlt : w.getD a 0 &&& Y.getD j 0 < 128 := Nat.lt_of_le_of_lt Nat.and_le_left (small_getD hsm a)
    obtain ⟨t1, t2⟩ := tz_spec hlt hb
    refine ⟨hb, ?_⟩
    rw [Nat.testBit_and, Bool.and_eq_true] at t2
    have htn := hwn a _ t2.1
    refine way_ok hg hsm hwn j _ (by omega) htn t2.2 (fun i hi => ?_)
    cases e : (Y.getD i 0).testBit (tzN (w.getD a 0 &&& Y.getD j 0))
    · rfl
    · have hgi := hg i (by omega)
      rw [hi] at hgi
      have : (Y.getD j 0).testBit a = true := by
        rw [hgi, wideN_bit ha, Bool.or_eq_true]
        right
        rw [decide_eq_true_iff]
        intro hz
        exact (and_zero _ _).1 hz _ ⟨t2.1, e⟩
      rw [h0] at this; simp at this

attribute [local go_sem high] and_one shr_u shl_one or_u and_u
attribute [local go_sem] okRef_q len_q okRef_p

/-- What Way answers. -/
def WayR (n : Int) (ps : List (Int × Int)) (l : List Int) (a : Int) (V : List Int) (e : Int) : Prop :=
  if chk n ps = 0 then
    if l.length = 0 then V = [] ∧ e = 4
    else if setErr n (-1) l = 0 then
      if a < 0 ∨ n ≤ a then V = [] ∧ e = 2
      else ∃ r, Near (seeL 7 ps) n.toNat a.toNat [setL l] r ∧ ((r = none ∧ V = [] ∧ e = 12) ∨ ∃ Y, r = some Y ∧ e = 0 ∧ V = wayL (seeL 7 ps) Y (Y.length - 1) a.toNat [a])
    else V = [] ∧ e = setErr n (-1) l
  else V = [] ∧ e = chk n ps
theorem seeL_in {z n : Nat} (hz : 7 ≤ z) {ps : List (Int × Int)} (hps : ∀ p ∈ ps, goodP (n : Int) p) (h7 : ∀ p ∈ ps, okP p) (a b : Nat) (h : ((seeL z ps).getD a 0).testBit b = true) : b < n := by
  rw [seeL_bit hz h7, decide_eq_true_iff] at h
  have := (hps _ h).2.2.2.1
  simp only at this; omega
theorem wayL_ne (w X : List Nat) : ∀ (j a : Nat) (o : List Int), o ≠ [] → wayL w X j a o ≠ []
  | 0, _, _, h => h
  | j + 1, _, o, _ => wayL_ne w X j _ _ (by simp)
set_option maxHeartbeats 1000000 in
theorem c32e (nl n2 : Bool) (n : Int) (ps : List (Int × Int)) (l : List Int) (hlen : l.length < 1000000) (a : Int) :
    ∃ V e, WayR n ps l a V e ∧ run L 32 [bkAV nl n ps, sl 1 n2 (l.map I), I a] ⟨[], []⟩ = some (.tup [sl 1 true (V.map I), I e], ⟨[], []⟩) := by
  rw [run_pure (fn := ir32) rfl rfl]
  have h65 := fun st => c65 nl n ps st
  unfold WayR
  by_cases h : chk n ps = 0
  · obtain ⟨h1, hl16, h3, h4, h5⟩ := chk_zero h
    obtain ⟨k, rfl⟩ := Int.eq_ofNat_of_zero_le (show 0 ≤ n by omega)
    have hw : wovL (k : Int) ps = seeL 7 ps := by unfold wovL; rw [if_pos h]
    rw [hw] at h65
    simp only [if_pos h]
    have hlw := lenW (k : Int) (seeL 7 ps)
    rw [seeL_len] at hlw
    have hpw := putW (k : Int) (seeL 7 ps) (seeL_len 7 ps)
    have htkw : (webC (k : Int) (seeL 7 ps)).take 8 = webC (k : Int) (seeL 7 ps) := List.take_of_length_le (by omega)
    have g0 := getW0 (k : Int) (seeL 7 ps)
    have h72 := fun st => (c72 n2 (k : Int) h1 l hlen (seeL 7 ps) (seeL_len 7 ps) st).1
    have h72b := (c72 n2 (k : Int) h1 l hlen (seeL 7 ps) (seeL_len 7 ps) ⟨[], []⟩).2
    by_cases p0 : l.length = 0
    · have q0 : ((l.length : Int) = 0) = True := eq_true (by omega)
      simp only [if_pos p0]
      refine ⟨[], 4, ⟨rfl, rfl⟩, ?_⟩
      simp only [ir32, go_sem, reduceIte, Nat.reduceEqDiff, Nat.reduceAdd, Nat.reduceSub, Nat.reduceLeDiff, Nat.reduceLT, reduceCtorEq, Int.reduceLT, Int.reduceLE, Int.reduceEq, Int.reduceBEq, Int.reduceSub, Int.reduceAdd, Int.reduceMul, Int.reduceNeg, Int.reduceToNat, Nat.reduceMul, Nat.reduceBEq, h65, h, hlw, hpw, htkw, pubsW, storableW, q0, List.length_map]
      rfl
    · have q0 : ((l.length : Int) = 0) = False := eq_false (by omega)
      simp only [if_neg p0]
      by_cases p : setErr (k : Int) (-1) l = 0
      · have hm : setL l < 128 := setL_lt (fun x hx => by have := h72b p x hx; omega)
        simp only [if_pos p] at h72 ⊢
        by_cases p1 : a < 0
        · simp only [if_pos (Or.inl p1 : a < 0 ∨ (k : Int) ≤ a)]
          refine ⟨[], 2, ⟨rfl, rfl⟩, ?_⟩
          simp only [ir32, go_sem, reduceIte, Nat.reduceEqDiff, Nat.reduceAdd, Nat.reduceSub, Nat.reduceLeDiff, Nat.reduceLT, reduceCtorEq, Int.reduceLT, Int.reduceLE, Int.reduceEq, Int.reduceBEq, Int.reduceSub, Int.reduceAdd, Int.reduceMul, Int.reduceNeg, Int.reduceToNat, Nat.reduceMul, Nat.reduceBEq, h65, h, hlw, hpw, htkw, g0, pubsW, storableW, q0, h72, p, p1, List.length_map]
          rfl
        · by_cases p2 : (k : Int) ≤ a
          · simp only [if_pos (Or.inr p2 : a < 0 ∨ (k : Int) ≤ a)]
            refine ⟨[], 2, ⟨rfl, rfl⟩, ?_⟩
            simp only [ir32, go_sem, reduceIte, Nat.reduceEqDiff, Nat.reduceAdd, Nat.reduceSub, Nat.reduceLeDiff, Nat.reduceLT, reduceCtorEq, Int.reduceLT, Int.reduceLE, Int.reduceEq, Int.reduceBEq, Int.reduceSub, Int.reduceAdd, Int.reduceMul, Int.reduceNeg, Int.reduceToNat, Nat.reduceMul, Nat.reduceBEq, h65, h, hlw, hpw, htkw, g0, pubsW, storableW, q0, h72, p, p1, p2, List.length_map]
            rfl
          · obtain ⟨b, rfl⟩ := Int.eq_ofNat_of_zero_le (show 0 ≤ a by omega)
            simp only [if_neg (show ¬((b : Int) < 0 ∨ (k : Int) ≤ (b : Int)) by omega), Int.toNat_natCast]
            have p1' : ((b : Int) < 0) = False := eq_false p1
            have p2' : ((k : Int) ≤ (b : Int)) = False := eq_false p2
            have eq1 : qA [setL l] = .lst .full 1 [U (setL l)] := rfl
            have eq2 : qT [setL l] = [] := rfl
            simp only [ir32, go_sem, reduceIte, Nat.reduceEqDiff, Nat.reduceAdd, Nat.reduceSub, Nat.reduceLeDiff, Nat.reduceLT, reduceCtorEq, Int.reduceLT, Int.reduceLE, Int.reduceEq, Int.reduceBEq, Int.reduceSub, Int.reduceAdd, Int.reduceMul, Int.reduceNeg, Int.reduceToNat, Nat.reduceMul, Nat.reduceBEq, h65, h, hlw, hpw, htkw, g0, pubsW, storableW, q0, h72, p, p1', p2', List.length_map]
            generalize hg : lim (headed pure (run L) true _ lp32_1 _ _) _ _ = o
            obtain ⟨x, en, s, rfl, h2⟩ : ∃ x en s, o = some (x, en, s) ∧ _ := by rw [← hg]; exact loop32_1 nl k (by omega) ps (seeL 7 ps) (seeL_len 7 ps) (seeL_small 7 h4) b (by omega) [setL l] ⟨by simp, by simp [lastN]; omega, by simpa using hm⟩ _ _ (by simp only [go_sem, reduceIte, Nat.reduceEqDiff, Nat.reduceAdd, Nat.reduceSub, Nat.reduceLeDiff, Nat.reduceLT, reduceCtorEq, Int.reduceLT, Int.reduceLE, Int.reduceEq, Int.reduceBEq, Int.reduceSub, Int.reduceAdd, Int.reduceMul, Int.reduceNeg, Int.reduceToNat, Nat.reduceMul, Nat.reduceBEq, okRefsW, renCellsW, eq1, eq2] <;> rfl)
            clear hg
            obtain ⟨r, hN, h2⟩ := h2
            rcases h2 with ⟨rfl, rfl, e6, e7⟩ | ⟨Y, rfl, rfl, e2, e8, e11, rfl, y1, y2, y3⟩
            · refine ⟨[], 12, ⟨none, hN, .inl ⟨rfl, rfl, rfl⟩⟩, ?_⟩
              simp only [go_sem, reduceIte, Nat.reduceEqDiff, Nat.reduceAdd, Nat.reduceSub, Nat.reduceLeDiff, Nat.reduceLT, reduceCtorEq, Int.reduceLT, Int.reduceLE, Int.reduceEq, Int.reduceBEq, Int.reduceSub, Int.reduceAdd, Int.reduceMul, Int.reduceNeg, Int.reduceToNat, Nat.reduceMul, Nat.reduceBEq, e6, e7]
              rfl
            · refine ⟨_, 0, ⟨some Y, hN, .inr ⟨Y, rfl, rfl, rfl⟩⟩, ?_⟩
              obtain ⟨gr, _, gl, gn⟩ := near_ok hN Y rfl (fun j hj => by simp at hj) (by simp) (fun j hj => by simp at hj)
              have hok := way_ok gr (seeL_small 7 h4) (seeL_in (Nat.le_refl 7) (fun p hp => h3 p hp) h4) (Y.length - 1) b (by omega) (by omega) gl (fun i hi => gn i (by omega))
              have hl2 : IntKind.i64.wrap ((Y.length : Int) - 2) = ((Y.length - 1 : Nat) : Int) - 1 := by rw [wrap64] <;> omega
              have ep1 : pA Y [(b : Int)] = .lst .full 1 [I (b : Int)] := rfl
              have ep2 : qT Y ++ pT [(b : Int)] = qT Y := by simp [pT]
              have hne := wayL_ne (seeL 7 ps) Y (Y.length - 1) b [(b : Int)] (by simp)
              simp only [go_sem, reduceIte, Nat.reduceEqDiff, Nat.reduceAdd, Nat.reduceSub, Nat.reduceLeDiff, Nat.reduceLT, reduceCtorEq, Int.reduceLT, Int.reduceLE, Int.reduceEq, Int.reduceBEq, Int.reduceSub, Int.reduceAdd, Int.reduceMul, Int.reduceNeg, Int.reduceToNat, Nat.reduceMul, Nat.reduceBEq, e2, e8, e11, hl2]
              generalize hg : lim (headed pure (run L) true _ lp32_2 _ _) _ _ = o
              obtain ⟨x, en, s, rfl, h2⟩ : ∃ x en s, o = some (x, en, s) ∧ _ := by rw [← hg]; exact loop32_2 nl k (by omega) ps (seeL 7 ps) (seeL_len 7 ps) (seeL_small 7 h4) Y y2 y3 (qT Y).length rfl (Y.length - 1) b [(b : Int)] ⟨by omega, by omega, hok, by simp, by simp; omega⟩ _ _ (by simp only [go_sem, reduceIte, Nat.reduceEqDiff, Nat.reduceAdd, Nat.reduceSub, Nat.reduceLeDiff, Nat.reduceLT, reduceCtorEq, Int.reduceLT, Int.reduceLE, Int.reduceEq, Int.reduceBEq, Int.reduceSub, Int.reduceAdd, Int.reduceMul, Int.reduceNeg, Int.reduceToNat, Nat.reduceMul, Nat.reduceBEq, okRefsW, renCellsW, okRef_q, okRef_p, ren1_qh, ep1, ep2, List.take_length, e2, e8, e11] <;> rfl)
              clear hg
              obtain ⟨rfl, e16⟩ := h2
              simp only [go_sem, reduceIte, Nat.reduceEqDiff, Nat.reduceAdd, Nat.reduceSub, Nat.reduceLeDiff, Nat.reduceLT, reduceCtorEq, Int.reduceLT, Int.reduceLE, Int.reduceEq, Int.reduceBEq, Int.reduceSub, Int.reduceAdd, Int.reduceMul, Int.reduceNeg, Int.reduceToNat, Nat.reduceMul, Nat.reduceBEq, e16, fin_p _ _ _ hne]
      · simp only [if_neg p] at h72 ⊢
        refine ⟨[], _, ⟨rfl, rfl⟩, ?_⟩
        simp only [ir32, go_sem, reduceIte, Nat.reduceEqDiff, Nat.reduceAdd, Nat.reduceSub, Nat.reduceLeDiff, Nat.reduceLT, reduceCtorEq, Int.reduceLT, Int.reduceLE, Int.reduceEq, Int.reduceBEq, Int.reduceSub, Int.reduceAdd, Int.reduceMul, Int.reduceNeg, Int.reduceToNat, Nat.reduceMul, Nat.reduceBEq, h65, h, hlw, hpw, htkw, pubsW, storableW, q0, h72, p, List.length_map]
        rfl
  · simp only [if_neg h]
    refine ⟨[], _, ⟨rfl, rfl⟩, ?_⟩
    have hl7 : (wovL n ps).length = 7 := by unfold wovL; rw [if_neg h]; simp
    have hlw := lenW n (wovL n ps)
    rw [hl7] at hlw
    have hpw := putW n (wovL n ps) hl7
    simp only [ir32, go_sem, reduceIte, Nat.reduceEqDiff, Nat.reduceAdd, Nat.reduceSub, Nat.reduceLeDiff, Nat.reduceLT, reduceCtorEq, Int.reduceLT, Int.reduceLE, Int.reduceEq, Int.reduceBEq, Int.reduceSub, Int.reduceAdd, Int.reduceMul, Int.reduceNeg, Int.reduceToNat, Nat.reduceMul, Nat.reduceBEq, h65, h, hlw, hpw, pubsW, storableW]
    rfl
theorem c32 (nl n2 : Bool) (n : Int) (ps : List (Int × Int)) (l : List Int) (hlen : l.length < 1000000) (a : Int) :
    ∃ V e, WayR n ps l a V e ∧ ∀ st, run L 32 [bkAV nl n ps, sl 1 n2 (l.map I), I a] st = some (.tup [sl 1 true (V.map I), I e], st) := by
  obtain ⟨V, e, h1, h2⟩ := c32e nl n2 n ps l hlen a
  exact ⟨V, e, h1, fun st => run_any' (fn := ir32) rfl rfl h2 st⟩


/-! ### how far each word has to go, without the program -/
/-- The words with so many steps to go, or fewer. -/
def nk (w : List Nat) (n g : Nat) : Nat → Nat
  | 0 => g
  | k + 1 => wideN w n (nk w n g k)
theorem nk_succ {w : List Nat} {n g k x : Nat} (hx : x < n) : (nk w n g (k + 1)).testBit x = true ↔ (nk w n g k).testBit x = true ∨ ∃ y, (w.getD x 0).testBit y = true ∧ (nk w n g k).testBit y = true := by
  show (wideN w n (nk w n g k)).testBit x = true ↔ _
  rw [wideN_bit hx, Bool.or_eq_true, decide_eq_true_iff]
  refine or_congr Iff.rfl ⟨fun h => ?_, fun ⟨y, h1, h2⟩ h => (and_zero _ _).1 h y ⟨h1, h2⟩⟩
  rcases Classical.em (∃ y, (w.getD x 0).testBit y = true ∧ (nk w n g k).testBit y = true) with h2 | h2
  · exact h2
  · exact absurd ((and_zero _ _).2 fun y hy => h2 ⟨y, hy⟩) h
/-- If one step brings nothing, nothing does. -/
theorem nk_stop {w : List Nat} {n g k : Nat} (h : nk w n g (k + 1) = nk w n g k) : ∀ d, nk w n g (k + d) = nk w n g k
  | 0 => rfl
  | d + 1 => by
    show wideN w n (nk w n g (k + d)) = _
    rw [nk_stop h d]; exact h
def cardN (n m : Nat) : Nat := ((List.range n).filter m.testBit).length
theorem cardN_le (n m : Nat) : cardN n m ≤ n := by
  have := List.length_filter_le m.testBit (List.range n)
  simpa [cardN] using this
theorem wide_same {w : List Nat} {n m : Nat} (h : ∀ x, x < n → (wideN w n m).testBit x = true → m.testBit x = true) : wideN w n m = m := by
  apply Nat.eq_of_testBit_eq
  intro i
  by_cases hi : i < n
  · cases e : (wideN w n m).testBit i
    · cases e2 : m.testBit i
      · rfl
      · rw [wideN_bit hi, e2] at e; simp at e
    · exact (h i hi e).symm
  · unfold wideN
    rw [wideL_bit]
    have : i ∉ List.range' 0 n := by rw [List.mem_range'_1]; omega
    simp [this]
theorem nk_card {w : List Nat} {n g : Nat} : ∀ k, (∃ j, j < k ∧ nk w n g (j + 1) = nk w n g j) ∨ k ≤ cardN n (nk w n g k)
  | 0 => .inr (Nat.zero_le _)
  | k + 1 => by
    rcases nk_card (w := w) (n := n) (g := g) k with ⟨j, h1, h2⟩ | h
    · exact .inl ⟨j, by omega, h2⟩
    · by_cases he : nk w n g (k + 1) = nk w n g k
      · exact .inl ⟨k, by omega, he⟩
      · right
        have : ∃ x, x < n ∧ (nk w n g (k + 1)).testBit x = true ∧ (nk w n g k).testBit x = false := by
          rcases Classical.em (∃ x, x < n ∧ (nk w n g (k + 1)).testBit x = true ∧ (nk w n g k).testBit x = false) with h3 | h3
          · exact h3
          · exact absurd (wide_same fun x hx hb => by
              cases e : (nk w n g k).testBit x
              · exact absurd ⟨x, hx, hb, e⟩ h3
              · rfl) he
        obtain ⟨x, hx, h1, h2⟩ := this
        have := filter_len_lt (p := (nk w n g k).testBit) (q := (nk w n g (k + 1)).testBit) (List.range n) (fun y hy hb => (nk_succ (List.mem_range.1 hy)).2 (.inl hb)) ⟨x, List.mem_range.2 hx, h1, h2⟩
        unfold cardN at *; omega
/-! ### the law's numbers -/
def bitsL (m : Nat) : List Nat := (List.range 7).filter m.testBit


/-- A list of sets is the first ones of these. -/
def Nks (w : List Nat) (n g : Nat) (X : List Nat) : Prop := 1 ≤ X.length ∧ ∀ j, j < X.length → X.getD j 0 = nk w n g j
theorem nks_one (w : List Nat) (n g : Nat) : Nks w n g [g] := ⟨by simp, fun j hj => by
  obtain rfl : j = 0 := by simp at hj; omega
  rfl⟩
theorem nks_last {w : List Nat} {n g : Nat} {X : List Nat} (h : Nks w n g X) : lastN X = nk w n g (X.length - 1) := h.2 _ (by have := h.1; omega)
theorem nks_snoc {w : List Nat} {n g : Nat} {X : List Nat} (h : Nks w n g X) : Nks w n g (X ++ [wideN w n (lastN X)]) := by
  refine ⟨by simp, fun j hj => ?_⟩
  rw [List.length_append, List.length_singleton] at hj
  by_cases h2 : j < X.length
  · rw [List.getD_eq_getElem?_getD, List.getElem?_append_left h2, ← List.getD_eq_getElem?_getD]; exact h.2 j h2
  · obtain rfl : j = X.length := by omega
    rw [List.getD_eq_getElem?_getD, List.getElem?_append_right (by omega), Nat.sub_self, nks_last h]
    have h1 := h.1
    show wideN w n (nk w n g (X.length - 1)) = nk w n g X.length
    rw [show X.length = X.length - 1 + 1 by omega]; rfl
theorem near_nks {w : List Nat} {n a : Nat} {X : List Nat} {r : Option (List Nat)} (h : Near w n a X r) {g : Nat} : Nks w n g X →
    (r = none → ∀ k, (nk w n g k).testBit a = false) ∧ ∀ Y, r = some Y → Nks w n g Y := by
  induction h with
  | hit X hb => intro hX; exact ⟨by simp, fun Y e => by cases e; exact hX⟩
  | stop X hb he =>
    intro hX
    rw [nks_last hX] at hb he
    refine ⟨fun _ k => ?_, by simp⟩
    have hs := nk_stop (k := X.length - 1) (w := w) (n := n) (g := g) he
    by_cases hk : k ≤ X.length - 1
    · cases e : (nk w n g k).testBit a
      · rfl
      · have : ∀ d, (nk w n g (k + d)).testBit a = true := by
          intro d
          induction d with
          | zero => exact e
          | succ d ih =>
            show (wideN w n (nk w n g (k + d))).testBit a = true
            unfold wideN; rw [wideL_bit, ih]; rfl
        have := this (X.length - 1 - k)
        rw [show k + (X.length - 1 - k) = X.length - 1 by omega, hb] at this; simp at this
    · have := hs (k - (X.length - 1))
      rw [show X.length - 1 + (k - (X.length - 1)) = k by omega] at this
      rw [this]; exact hb
  | step X r hb hne hn ih => intro hX; exact ih (nks_snoc hX)

/-! ### the law's way -/
theorem wayL_len (w X : List Nat) : ∀ (j a : Nat) (o : List Int), (wayL w X j a o).length = o.length + j
  | 0, _, _ => rfl
  | j + 1, _, o => by
    show (wayL w X j _ _).length = _
    rw [wayL_len w X j]; simp; omega

attribute [local go_sem] shaped_t cells_t isAgg_t storable_t okRef_t pub_t

theorem memb_J (m : Nat) : (memb m).map I = (bitsL m).map J := by simp [memb, bitsL, List.map_map, Function.comp]
theorem index_J (nl : Bool) (l : List Nat) (i : Nat) (h : i < l.length) : indexSAV 1 (sl 1 nl (l.map J)) (.v (.int .i64 (i : Int))) = some (.eptr (J l[i]) 0) := by
  have := index_sl 1 nl (l.map J) .i64 (i : Int) (by omega) (by simpa using h)
  simpa using this
theorem bits_len (m : Nat) : (bitsL m).length ≤ 7 := by
  have := List.length_filter_le m.testBit (List.range 7)
  simpa [bitsL] using this

attribute [local go_sem] shaped_t cells_t isAgg_t storable_t okRef_t pub_t

/-! ### the law's way grows -/
def rA (o : List Int) : AV := loc 1 1 (o.map I)
theorem okRef_r (n : Nat) (o : List Int) : okRef n (rA o) = true := okRef_loc _ _ _ _


/-! ### all circles, without the program -/
def lastW (c : List Nat) : Nat := c.getD (c.length - 1) 0
def hdR (w : List Nat) (c : List Nat) : List (List Nat) := if 1 < c.length ∧ (w.getD (lastW c) 0).testBit (c.getD 0 0) = true then [c] else []
/-- The circles that begin with some words, of those and the free ones. -/
def rg (w : List Nat) : Nat → List Nat → Nat → List (List Nat)
  | 0, c, _ => hdR w c
  | k + 1, c, free => hdR w c ++ (bitsL (w.getD (lastW c) 0 &&& free)).flatMap fun x => rg w k (c ++ [x]) (dfN free (2 ^ x))
theorem bits_zero : bitsL 0 = [] := rfl
theorem bits_mem {m : Nat} (hm : m < 128) (x : Nat) : x ∈ bitsL m ↔ m.testBit x = true :=
  ⟨fun h => (List.mem_filter.1 h).2, fun h => List.mem_filter.2 ⟨List.mem_range.2 (bit_lt7 hm h), h⟩⟩
theorem bits_nil {m : Nat} (hm : m < 128) (h : (bitsL m).length = 0) : m = 0 := by
  apply Nat.eq_of_testBit_eq
  intro i
  rw [Nat.zero_testBit]
  cases e : m.testBit i
  · rfl
  · have := (bits_mem hm i).2 e
    rw [List.eq_nil_of_length_eq_zero h] at this; simp at this
theorem df_card {free x : Nat} (hf : free < 128) (hx : free.testBit x = true) : (bitsL (dfN free (2 ^ x))).length < (bitsL free).length := by
  have hx7 := bit_lt7 hf hx
  have h2 : 2 ^ x < 128 := (sh1_lt x hx7).2
  unfold bitsL
  refine filter_len_lt _ (fun y _ h => ?_) ⟨x, List.mem_range.2 hx7, hx, ?_⟩
  · rw [dfN_bit h2, Bool.and_eq_true] at h; exact h.1
  · rw [dfN_bit h2, Nat.testBit_two_pow_self]; simp

/-! ### what lies ahead of the goal in the store -/

attribute [local go_sem high] and_one shr_u shl_one or_u and_u

/-! ### what the search over circles holds in the store: the goal, the web, and itself -/
theorem index_lstJ (g : Tag) (c : List Nat) (i : Nat) (h : i < c.length) : indexSAV 1 (.lst g 1 (c.map J)) (.v (.int .i64 (i : Int))) = some (.eptr (J (c.getD i 0)) 0) := by
  simp [indexSAV, h]

attribute [local go_sem high] and_one shr_u shl_one or_u and_u

/-- The words that are free after the first one. -/
def frN (n x : Nat) : Nat := dfN (2 ^ n - 1) (2 ^ (x + 1) - 1)
theorem pow_lt {n : Nat} (hn : n ≤ 7) : 2 ^ n - 1 < 128 := by
  have : 2 ^ n ≤ 128 := Nat.pow_le_pow_right (n := 2) (by omega) hn
  have h1 : 1 ≤ 2 ^ n := Nat.one_le_two_pow
  omega
theorem frN_bit {n x : Nat} (hn : n ≤ 7) (hx : x < n) (y : Nat) : (frN n x).testBit y = (decide (y < n) && decide (x < y)) := by
  unfold frN
  rw [dfN_bit (pow_lt (by omega)), Nat.testBit_two_pow_sub_one, Nat.testBit_two_pow_sub_one]
  rw [Bool.eq_iff_iff]
  simp only [Bool.and_eq_true, decide_eq_true_eq, Bool.not_eq_true', decide_eq_false_iff_not]
  omega
theorem frN_lt {n x : Nat} (hn : n ≤ 7) : frN n x < 128 := dfN_lt (pow_lt hn)
theorem frN_card {n x : Nat} (hn : n ≤ 7) (hx : x < n) : (bitsL (frN n x)).length ≤ 6 := by
  have h := filter_len_lt (p := (frN n x).testBit) (q := fun _ => true) (List.range 7) (fun _ _ _ => rfl) ⟨x, List.mem_range.2 (by omega), rfl, by rw [frN_bit hn hx]; simp⟩
  have h2 : ((List.range 7).filter fun _ => true).length = 7 := rfl
  unfold bitsL; omega
/-- All circles, by their smallest words. -/
def circL (n : Nat) (w : List Nat) : List (List Nat) := (List.range' 0 n).flatMap fun x => rg w 7 [x] (frN n x)


/-! ### the first goal: the first shortest odd circle -/
def up (c : List Nat) : List Int := c.map fun (x : Nat) => (x : Int)
theorem up_len (c : List Nat) : (up c).length = c.length := by simp [up]
theorem up_J (c : List Nat) : (up c).map I = c.map J := by simp [up, List.map_map, Function.comp]

attribute [local go_sem] shaped_t cells_t isAgg_t storable_t okRef_t pub_t

/-! ### the law's circles: a list of lists that grows, with a tip anywhere -/
def oA (c : List Nat) : AV := .lst .any 1 (c.map J)
theorem shaped_oA (c : List Nat) : (oA c).shaped = true := rfl
theorem cells_oA (c : List Nat) : (oA c).cells = [oA c] := rfl
theorem storable_oA (c : List Nat) : storable (oA c) = true := rfl
def outOk (X : List (List Nat)) (a : AV) (T : List Nat) : Prop := (X = [] ∧ a = .v (.slice none 0 0)) ∨ (X ≠ [] ∧ ∃ t, a = .lst (.own t X.length) 1 (X.map oA) ∧ T[t]? = some X.length)
theorem outOk_ext {X : List (List Nat)} {a : AV} {T : List Nat} (h : outOk X a T) (m : Nat) : outOk X a (T ++ [m]) := by
  rcases h with h | ⟨hne, t, rfl, ht⟩
  · exact .inl h
  · refine .inr ⟨hne, t, rfl, ?_⟩
    rw [List.getElem?_append_left (List.getElem?_eq_some_iff.1 ht).1]; exact ht
theorem outOk_st {X : List (List Nat)} {a : AV} {T : List Nat} (h : outOk X a T) : a.shaped = true ∧ a.cells = [a] ∧ storable a = true := by
  rcases h with ⟨_, rfl⟩ | ⟨_, t, rfl, _⟩ <;> exact ⟨rfl, rfl, rfl⟩

attribute [local go_sem] shaped_t cells_t isAgg_t storable_t okRef_t pub_t

theorem filter_nil_of {α : Type} {p : α → Bool} {l : List α} (h : ∀ x ∈ l, p x = false) : l.filter p = [] := by
  rw [List.filter_eq_nil_iff]
  intro x hx
  rw [h x hx]; simp
/-- The bits of a set between two numbers. -/
theorem bits_range {m a n : Nat} (hn : n ≤ 7) (ha : a ≤ n) (h : ∀ y, m.testBit y = true → a ≤ y ∧ y < n) : bitsL m = (List.range' a (n - a)).filter m.testBit := by
  unfold bitsL
  have e : List.range 7 = List.range' 0 a ++ (List.range' a (n - a) ++ List.range' n (7 - n)) := by
    rw [List.range_eq_range']
    have e1 := List.range'_append (s := a) (m := n - a) (n := 7 - n) (step := 1)
    have e2 := List.range'_append (s := 0) (m := a) (n := n - a + (7 - n)) (step := 1)
    simp only [Nat.one_mul, Nat.zero_add] at e1 e2
    rw [show a + (n - a) = n by omega] at e1
    rw [e1, e2]
    congr 1
    omega
  rw [e, List.filter_append, List.filter_append, filter_nil_of (l := List.range' 0 a), filter_nil_of (l := List.range' n (7 - n)), List.append_nil, List.nil_append]
  · intro x hx
    rw [List.mem_range'_1] at hx
    cases hb : m.testBit x
    · rfl
    · have := h x hb; omega
  · intro x hx
    rw [List.mem_range'_1] at hx
    cases hb : m.testBit x
    · rfl
    · have := h x hb; omega
theorem flatMap_filter {α β : Type} (p : α → Bool) (f : α → List β) : ∀ l : List α, (l.filter p).flatMap f = l.flatMap fun x => if p x = true then f x else []
  | [] => rfl
  | x :: r => by
    rw [List.flatMap_cons, ← flatMap_filter p f r]
    cases h : p x
    · rw [List.filter_cons_of_neg (by simp [h])]; simp
    · rw [List.filter_cons_of_pos h, List.flatMap_cons]; simp
theorem flatMap_congr' {α β : Type} {f g : α → List β} : ∀ {l : List α}, (∀ x ∈ l, f x = g x) → l.flatMap f = l.flatMap g
  | [], _ => rfl
  | x :: r, h => by rw [List.flatMap_cons, List.flatMap_cons, h x (by simp), flatMap_congr' (fun y hy => h y (by simp [hy]))]
/-- The free words: those after the first one that do not lie on the circle. -/
def isFree (n : Nat) (c : List Nat) (free : Nat) : Prop := ∀ y, free.testBit y = true ↔ c.getD 0 0 < y ∧ y < n ∧ y ∉ c
theorem free_snoc {n : Nat} {c : List Nat} {free x : Nat} (hf : isFree n c free) (hfl : free < 128) (hc : 1 ≤ c.length) (hx : free.testBit x = true) : isFree n (c ++ [x]) (dfN free (2 ^ x)) := by
  intro y
  have hx7 := bit_lt7 hfl hx
  have e : (c ++ [x]).getD 0 0 = c.getD 0 0 := by
    rw [List.getD_eq_getElem?_getD, List.getElem?_append_left (by omega), ← List.getD_eq_getElem?_getD]
  rw [dfN_bit (sh1_lt x hx7).2, Bool.and_eq_true, hf y, e, Bool.and_eq_true, decide_eq_true_iff, Bool.not_eq_true', Nat.testBit_two_pow, decide_eq_false_iff_not, List.mem_append, List.mem_singleton, not_or]
  constructor
  · rintro ⟨⟨h1, h2, h3⟩, h4, h5⟩; exact ⟨h1, h2, h3, fun h => h5 h.symm⟩
  · rintro ⟨h1, h2, h3, h4⟩
    exact ⟨⟨h1, h2, h3⟩, bit_lt7 hfl ((hf y).2 ⟨h1, h2, h3⟩), fun h => h4 h.symm⟩

theorem fr_free {n x : Nat} (hn : n ≤ 7) (hx : x < n) : isFree n [x] (frN n x) := by
  intro y
  rw [frN_bit hn hx, Bool.and_eq_true, decide_eq_true_iff, decide_eq_true_iff]
  show _ ↔ x < y ∧ y < n ∧ y ∉ [x]
  rw [List.mem_singleton]
  omega
/-- What is laid at the loop's head. -/
def ooA (X : List (List Nat)) : AV := loc 1 0 (X.map oA)
def ooT (X : List (List Nat)) : List Nat := locT 0 (X.map oA)
theorem ooA_ok (X : List (List Nat)) : outOk X (ooA X) (ooT X) := by
  by_cases h : X = []
  · subst h; exact .inl ⟨rfl, rfl⟩
  · have hl : (X.map oA).length ≠ 0 := by simpa using h
    right
    refine ⟨h, 0, ?_, ?_⟩
    · unfold ooA loc; rw [if_neg hl, List.length_map]
    · unfold ooT locT; rw [if_neg hl, List.length_map]; rfl
theorem outOk_ren {X : List (List Nat)} {a : AV} {T : List Nat} (h : outOk X a T) : ∃ q, ren1 0 T [] a = (ooA X, q) ∧ q.map (fun x => x.2) = ooT X := by
  rcases h with ⟨rfl, rfl⟩ | ⟨hne, t, rfl, ht⟩
  · exact ⟨[], rfl, rfl⟩
  · have hl : (X.map oA).length ≠ 0 := by simpa using hne
    refine ⟨[(t, X.length)], ?_, ?_⟩
    · rw [ren1_lown, if_neg (by omega), if_pos ⟨ht, rfl⟩]
      unfold ooA loc
      rw [if_neg hl]
      simp
    · unfold ooT locT
      rw [if_neg hl]; simp


/-! ### ways and circles in a web -/
def Ch (J : Nat → Nat → Prop) : List Nat → Prop
  | [] => True
  | [_] => True
  | a :: b :: r => J a b ∧ Ch J (b :: r)
theorem ch_split {J : Nat → Nat → Prop} (x : Nat) (B : List Nat) : ∀ A : List Nat, Ch J (A ++ x :: B) ↔ Ch J (A ++ [x]) ∧ Ch J (x :: B)
  | [] => by simp [Ch]
  | [a] => by simp [Ch]
  | a :: b :: A => by
    have := ch_split (J := J) x B (b :: A)
    simp only [List.cons_append, Ch] at this ⊢
    rw [this, and_assoc]
/-- A circle, with words that may come again. -/
def Cyc (J : Nat → Nat → Prop) (c : List Nat) : Prop := ∃ x r, c = x :: r ∧ Ch J (c ++ [x])
theorem not_nodup : ∀ c : List Nat, ¬ c.Nodup → ∃ A x B C, c = A ++ x :: (B ++ x :: C)
  | [], h => absurd List.nodup_nil h
  | a :: r, h => by
    by_cases ha : a ∈ r
    · obtain ⟨B, C, rfl⟩ := List.append_of_mem ha
      exact ⟨[], a, B, C, rfl⟩
    · have : ¬ r.Nodup := fun hr => h (List.nodup_cons.2 ⟨ha, hr⟩)
      obtain ⟨A, x, B, C, rfl⟩ := not_nodup r this
      exact ⟨a :: A, x, B, C, rfl⟩


/-! ### which lists are circles -/
/-- A word sees another one. -/
def Jw (w : List Nat) (a b : Nat) : Prop := (w.getD a 0).testBit b = true
theorem lastW_snoc (c : List Nat) (x : Nat) : lastW (c ++ [x]) = x := by
  unfold lastW
  rw [List.length_append, List.length_singleton, Nat.add_sub_cancel, List.getD_eq_getElem?_getD, List.getElem?_append_right (by omega)]
  simp
theorem ch_snoc {J : Nat → Nat → Prop} (x : Nat) : ∀ c : List Nat, c ≠ [] → (Ch J (c ++ [x]) ↔ Ch J c ∧ J (lastW c) x)
  | [], h => absurd rfl h
  | [a], _ => by simp [Ch, lastW]
  | a :: b :: r, _ => by
    have := ch_snoc (J := J) x (b :: r) (by simp)
    have e : lastW (a :: b :: r) = lastW (b :: r) := by simp [lastW]
    rw [e]
    simp only [List.cons_append, Ch] at this ⊢
    rw [this, and_assoc]
theorem mem_hdR {w : List Nat} {c x : List Nat} : x ∈ hdR w c ↔ x = c ∧ 1 < c.length ∧ Jw w (lastW c) (c.getD 0 0) := by
  unfold hdR Jw
  split
  · next h => simp only [List.mem_singleton]; exact ⟨fun e => ⟨e, h⟩, fun e => e.1⟩
  · next h => simp only [List.not_mem_nil, false_iff]; exact fun e => h e.2
/-- What is found from some words on. -/
theorem rg_iff (w : List Nat) : ∀ (k : Nat) (c : List Nat) (free : Nat), (bitsL free).length ≤ k → free < 128 → c ≠ [] → ∀ x, x ∈ rg w k c free ↔ ∃ s, x = c ++ s ∧ Ch (Jw w) (lastW c :: s) ∧ (∀ y ∈ s, free.testBit y = true) ∧ s.Nodup ∧ 1 < x.length ∧ Jw w (lastW x) (x.getD 0 0) := by
  have head : ∀ (c x : List Nat), (x ∈ hdR w c ↔ ∃ s, s = [] ∧ x = c ++ s ∧ 1 < x.length ∧ Jw w (lastW x) (x.getD 0 0)) := by
    intro c x
    rw [mem_hdR]
    constructor
    · rintro ⟨rfl, h1, h2⟩; exact ⟨[], rfl, by simp, h1, h2⟩
    · rintro ⟨s, rfl, e, h1, h2⟩
      rw [List.append_nil] at e; subst e
      exact ⟨rfl, h1, h2⟩
  intro k
  induction k with
  | zero =>
    intro c free hk hf hc x
    have h0 := bits_nil hf (by omega)
    subst h0
    show x ∈ hdR w c ↔ _
    rw [head]
    constructor
    · rintro ⟨s, rfl, e, h1, h2⟩; exact ⟨[], e, trivial, by simp, List.nodup_nil, h1, h2⟩
    · rintro ⟨s, e, _, h3, _, h1, h2⟩
      have : s = [] := by
        cases s with
        | nil => rfl
        | cons y r => have := h3 y (by simp); simp at this
      exact ⟨s, this, e, h1, h2⟩
  | succ k ih =>
    intro c free hk hf hc x
    show x ∈ hdR w c ++ _ ↔ _
    rw [List.mem_append, head, List.mem_flatMap]
    have hlt : w.getD (lastW c) 0 &&& free < 128 := Nat.lt_of_le_of_lt Nat.and_le_right hf
    constructor
    · rintro (⟨s, rfl, e, h1, h2⟩ | ⟨y, hy, hx⟩)
      · exact ⟨[], e, trivial, by simp, List.nodup_nil, h1, h2⟩
      · rw [bits_mem hlt, Nat.testBit_and, Bool.and_eq_true] at hy
        have hcard := df_card hf hy.2
        have hy7 := bit_lt7 hf hy.2
        obtain ⟨s, e, h1, h2, h3, h4, h5⟩ := (ih (c ++ [y]) (dfN free (2 ^ y)) (by omega) (dfN_lt hf) (by simp) x).1 hx
        rw [lastW_snoc] at h1
        have h2' : ∀ z ∈ s, free.testBit z = true ∧ z ≠ y := fun z hz => by
          have := h2 z hz
          rw [dfN_bit (sh1_lt y hy7).2, Bool.and_eq_true, Bool.and_eq_true, Bool.not_eq_true', Nat.testBit_two_pow, decide_eq_false_iff_not] at this
          exact ⟨this.1, fun e => this.2.2 e.symm⟩
        refine ⟨y :: s, by rw [e]; simp, ⟨hy.1, h1⟩, fun z hz => ?_, List.nodup_cons.2 ⟨fun hm => (h2' y hm).2 rfl, h3⟩, h4, h5⟩
        rcases List.mem_cons.1 hz with rfl | hz
        · exact hy.2
        · exact (h2' z hz).1
    · rintro ⟨s, e, h1, h2, h3, h4, h5⟩
      cases s with
      | nil => exact .inl ⟨[], rfl, e, h4, h5⟩
      | cons y s =>
        right
        have hy := h2 y (by simp)
        have hy7 := bit_lt7 hf hy
        have hcard := df_card hf hy
        rw [List.nodup_cons] at h3
        refine ⟨y, (bits_mem hlt y).2 (by rw [Nat.testBit_and, Bool.and_eq_true]; exact ⟨h1.1, hy⟩), (ih (c ++ [y]) (dfN free (2 ^ y)) (by omega) (dfN_lt hf) (by simp) x).2 ⟨s, by rw [e]; simp, by rw [lastW_snoc]; exact h1.2, fun z hz => ?_, h3.2, h4, h5⟩⟩
        rw [dfN_bit (sh1_lt y hy7).2, Bool.and_eq_true, Bool.and_eq_true, Bool.not_eq_true', Nat.testBit_two_pow, decide_eq_false_iff_not]
        have hz2 := h2 z (by simp [hz])
        exact ⟨hz2, decide_eq_true (bit_lt7 hf hz2), fun e => h3.1 (by rw [e]; exact hz)⟩
/-- A circle whose first word is its smallest one. -/
theorem circ_iff {n : Nat} (hn : n ≤ 7) (w : List Nat) (x : List Nat) : x ∈ circL n w ↔ ∃ a s, x = a :: s ∧ a < n ∧ (∀ y ∈ s, a < y ∧ y < n) ∧ x.Nodup ∧ 1 < x.length ∧ Ch (Jw w) x ∧ Jw w (lastW x) a := by
  unfold circL
  rw [List.mem_flatMap]
  constructor
  · rintro ⟨a, ha, hx⟩
    rw [List.mem_range'_1] at ha
    have hcard := frN_card hn (show a < n by omega)
    obtain ⟨s, e, h1, h2, h3, h4, h5⟩ := (rg_iff w 7 [a] (frN n a) (by omega) (frN_lt hn) (by simp) x).1 hx
    have h2' : ∀ y ∈ s, a < y ∧ y < n := fun y hy => by
      have := h2 y hy
      rw [frN_bit hn (by omega), Bool.and_eq_true, decide_eq_true_iff, decide_eq_true_iff] at this
      omega
    subst e
    refine ⟨a, s, rfl, by omega, h2', List.nodup_cons.2 ⟨fun hm => by have := h2' a hm; omega, h3⟩, h4, h1, h5⟩
  · rintro ⟨a, s, rfl, ha, h2, h3, h4, h5, h6⟩
    have hcard := frN_card hn ha
    refine ⟨a, by rw [List.mem_range'_1]; omega, (rg_iff w 7 [a] (frN n a) (by omega) (frN_lt hn) (by simp) _).2 ⟨s, rfl, h5, fun y hy => ?_, (List.nodup_cons.1 h3).2, h4, h6⟩⟩
    rw [frN_bit hn ha, Bool.and_eq_true, decide_eq_true_iff, decide_eq_true_iff]
    have := h2 y hy; omega
/-- A circle from another word on. -/
theorem cyc_rot {J : Nat → Nat → Prop} {A B : List Nat} {m : Nat} (h : Cyc J (A ++ m :: B)) : Cyc J (m :: (B ++ A)) := by
  obtain ⟨x, r, e, hc⟩ := h
  cases A with
  | nil =>
    simp only [List.nil_append, List.cons.injEq] at e
    obtain ⟨rfl, rfl⟩ := e
    exact ⟨m, B, by simp, by simpa using hc⟩
  | cons a A =>
    simp only [List.cons_append, List.cons.injEq] at e
    obtain ⟨rfl, rfl⟩ := e
    refine ⟨m, B ++ a :: A, rfl, ?_⟩
    have e1 : a :: A ++ m :: B ++ [a] = (a :: A) ++ m :: (B ++ [a]) := by simp
    rw [e1] at hc
    have h1 := (ch_split m (B ++ [a]) (a :: A)).1 hc
    have e2 : m :: (B ++ a :: A) ++ [m] = (m :: B) ++ a :: (A ++ [m]) := by simp
    rw [e2]
    exact (ch_split a (A ++ [m]) (m :: B)).2 ⟨by simpa using h1.2, by simpa using h1.1⟩
theorem min_split : ∀ c : List Nat, c ≠ [] → ∃ A m B, c = A ++ m :: B ∧ ∀ y ∈ c, m ≤ y
  | [], h => absurd rfl h
  | [a], _ => ⟨[], a, [], rfl, by simp⟩
  | a :: b :: r, _ => by
    obtain ⟨A, m, B, e, h⟩ := min_split (b :: r) (by simp)
    by_cases hm : a ≤ m
    · exact ⟨[], a, b :: r, rfl, fun y hy => by
        rcases List.mem_cons.1 hy with rfl | hy
        · omega
        · have := h y hy; omega⟩
    · refine ⟨a :: A, m, B, by rw [e]; rfl, fun y hy => ?_⟩
      rcases List.mem_cons.1 hy with rfl | hy
      · omega
      · exact h y hy
/-- Each circle is found, from its smallest word on. -/
theorem circ_of {n : Nat} (hn : n ≤ 7) {w : List Nat} {c : List Nat} (h1 : c.Nodup) (h2 : 1 < c.length) (h3 : Cyc (Jw w) c) (h4 : ∀ x ∈ c, x < n) : ∃ A m B, c = A ++ m :: B ∧ m :: (B ++ A) ∈ circL n w := by
  obtain ⟨A, m, B, e, hm⟩ := min_split c (by intro e; rw [e] at h2; simp at h2)
  refine ⟨A, m, B, e, (circ_iff hn w _).2 ⟨m, B ++ A, rfl, h4 m (by rw [e]; simp), fun y hy => ?_, ?_, ?_, ?_⟩⟩
  · have hy2 : y ∈ c := by rw [e]; simp only [List.mem_append, List.mem_cons] at hy ⊢; exact hy.elim (fun h => .inr (.inr h)) .inl
    have := hm y hy2
    have hne : y ≠ m := by
      rintro rfl
      rw [e, List.nodup_append, List.nodup_cons] at h1
      rcases List.mem_append.1 hy with hy | hy
      · exact h1.2.1.1 hy
      · exact h1.2.2 y hy y (by simp) rfl
    exact ⟨by omega, h4 y hy2⟩
  · have hp : (m :: (B ++ A)).Perm c := by
      rw [e]
      exact (List.perm_append_comm (l₁ := m :: B) (l₂ := A))
    exact hp.nodup_iff.2 h1
  · rw [e] at h2; simp at h2 ⊢; omega
  · rw [e] at h3
    obtain ⟨x, r, e2, hc⟩ := cyc_rot h3
    simp only [List.cons.injEq] at e2
    obtain ⟨rfl, rfl⟩ := e2
    exact (ch_snoc m _ (by simp)).1 hc


/-! ### the first shortest odd circle -/
/-! ### it is accepted -/
theorem up_mem {c : List Nat} {x : Int} : x ∈ up c ↔ ∃ y ∈ c, x = (y : Int) := by
  unfold up
  rw [List.mem_map]
  exact ⟨fun ⟨y, h1, h2⟩ => ⟨y, h1, h2.symm⟩, fun ⟨y, h1, h2⟩ => ⟨y, h1, h2.symm⟩⟩
/-! ### no odd circle: a choice -/

attribute [local go_sem] shaped_t cells_t isAgg_t storable_t okRef_t pub_t

theorem same_self (l : List Int) (hl : l.length < 1000000) (st : St) : run L 22 [tAV l, tAV l] st = some (B true, st) := by
  have := c22 true true l l hl st
  rw [decide_eq_true rfl] at this
  exact this
theorem circ_lt {n : Nat} (hn : n ≤ 7) {w : List Nat} : ∀ c ∈ circL n w, 2 ≤ c.length ∧ c.length ≤ 7 ∧ (∀ x ∈ c, x < n) ∧ c.Nodup := by
  intro c hc
  obtain ⟨a, s, e, ha, h2, h3, h4, _, _⟩ := (circ_iff hn _ c).1 hc
  have hm : ∀ x ∈ c, x < n := fun x hx => by
    rw [e] at hx
    rcases List.mem_cons.1 hx with rfl | hx
    · exact ha
    · exact (h2 x hx).2
  have := nodup_len_le c (List.range n) h3 (fun x hx => List.mem_range.2 (hm x hx))
  rw [List.length_range] at this
  exact ⟨h4, by omega, hm, h3⟩

attribute [local go_sem] shaped_t cells_t isAgg_t storable_t okRef_t pub_t

/-! ### how many circles, and how many on each reference -/
def allN (n : Int) (ps : List (Int × Int)) : List (List Nat) := circL n.toNat (seeL 7 ps)

attribute [local go_sem] shaped_t cells_t isAgg_t storable_t okRef_t pub_t

/-! ### the reference's ways -/
/-- All lists of different words, so many more, each of which sees the next one. -/
def wys (w : List Nat) (n : Nat) : Nat → List Nat → List (List Nat)
  | 0, c => [c]
  | k + 1, c => (List.range' 0 n).flatMap fun x => if x ∉ c ∧ (w.getD (lastW c) 0).testBit x = true then wys w n k (c ++ [x]) else []
theorem wys_len (w : List Nat) {n : Nat} (hn : n ≤ 7) : ∀ (k : Nat) (c : List Nat), (wys w n k c).length ≤ 7 ^ k
  | 0, _ => by simp [wys]
  | k + 1, c => by
    have hsum : ∀ l : List Nat, (l.flatMap fun x => if x ∉ c ∧ (w.getD (lastW c) 0).testBit x = true then wys w n k (c ++ [x]) else []).length ≤ l.length * 7 ^ k := by
      intro l
      induction l with
      | nil => simp
      | cons x r ih =>
        have h1 := wys_len w hn k (c ++ [x])
        rw [List.flatMap_cons, List.length_append, List.length_cons, Nat.add_mul]
        split
        · omega
        · simp only [List.length_nil]; omega
    have h := hsum (List.range' 0 n)
    rw [List.length_range'] at h
    have h2 : n * 7 ^ k ≤ 7 * 7 ^ k := Nat.mul_le_mul_right _ hn
    rw [Nat.pow_succ]
    unfold wys; omega
theorem wys_bound (w : List Nat) {n : Nat} (hn : n ≤ 7) (k : Nat) (hk : k ≤ 7) (c : List Nat) : (wys w n k c).length ≤ 823543 := by
  have h1 := wys_len w hn k c
  have h2 : 7 ^ k ≤ 7 ^ 7 := Nat.pow_le_pow_right (by omega) hk
  have h3 : 7 ^ 7 = 823543 := rfl
  omega
theorem wys_has (w : List Nat) (n : Nat) : ∀ (k : Nat) (c : List Nat), ∀ x ∈ wys w n k c, ∃ s, x = c ++ s ∧ s.length = k
  | 0, c, x, hx => ⟨[], by simp [wys] at hx; simp [hx]⟩
  | k + 1, c, x, hx => by
    unfold wys at hx
    obtain ⟨y, _, hy⟩ := List.mem_flatMap.1 hx
    split at hy
    · obtain ⟨s, e, hl⟩ := wys_has w n k (c ++ [y]) x hy
      exact ⟨y :: s, by rw [e]; simp, by simp [hl]⟩
    · simp at hy
theorem outOk_apps {X : List (List Nat)} {a : AV} {T : List Nat} (h : outOk X a T) (Y : List (List Nat)) (hl : X.length + Y.length < 100000000) :
    ∃ a' T', (∀ S, appendAV 1 a (Y.map oA) ⟨S, T⟩ = some (a', ⟨S, T'⟩)) ∧ outOk (X ++ Y) a' T' := by
  cases Y with
  | nil =>
    refine ⟨a, T, fun S => ?_, by simpa using h⟩
    rcases h with ⟨rfl, rfl⟩ | ⟨hne, t, rfl, ht⟩
    · rfl
    · simp [appendAV]
  | cons y r =>
    rw [List.length_cons] at hl
    have hm : X.length + (r.length + 1) ≤ maxGrow := by unfold maxGrow; omega
    have hm2 : r.length + 1 ≤ maxGrow := by unfold maxGrow; omega
    rcases h with ⟨rfl, rfl⟩ | ⟨hne, t, rfl, ht⟩
    · refine ⟨.lst (.own T.length (r.length + 1)) 1 ((y :: r).map oA), T ++ [r.length + 1], fun S => ?_, .inr ⟨by simp, T.length, by simp, by simp⟩⟩
      simp [appendAV, hm2]
    · have hlt : t < T.length := (List.getElem?_eq_some_iff.1 ht).1
      refine ⟨.lst (.own t (X.length + (r.length + 1))) 1 ((X ++ y :: r).map oA), T.set t (X.length + (r.length + 1)), fun S => ?_, .inr ⟨by simp, t, by simp, by simp [hlt]⟩⟩
      simp [appendAV, hm, ht]
/-- A list of circles, as a value. -/
def LA (X : List (List Nat)) : AV := sl 1 true (X.map oA)
theorem elems_LA (X : List (List Nat)) (st : St) : elemsOf 1 st (LA X) = some (X.map oA) := elems_sl _ _ _ _
theorem isRsl_LA (X : List (List Nat)) : isRsl (LA X) = false := isRsl_sl _ _ _
theorem len_LA (X : List (List Nat)) : lenAV (LA X) = some (I X.length) := by unfold LA; rw [len_sl, List.length_map]
theorem index_LA (X : List (List Nat)) (i : Nat) (h : i < X.length) : indexSAV 1 (LA X) (.v (.int .i64 (i : Int))) = some (.eptr (oA X[i]) 0) := by
  unfold LA
  rw [index_sl _ _ _ _ _ (by omega) (by simpa using h)]
  simp
theorem ren1_LA (n : Nat) (T : List Nat) (acc : List (Nat × Nat)) (X : List (List Nat)) : ren1 n T acc (LA X) = (LA X, acc) := ren1_sl _ _ _ _ _ _
theorem okRef_LA (n : Nat) (X : List (List Nat)) : okRef n (LA X) = true := okRef_sl _ _ _ _
theorem fin_oo {X : List (List Nat)} {a : AV} {T : List Nat} (h : outOk X a T) (st : St) : fin st a = LA X := by
  rcases h with ⟨rfl, rfl⟩ | ⟨hne, t, rfl, ht⟩
  · rw [fin_v]; rfl
  · rw [fin_lst]; unfold LA; rw [sl_ne (by simpa using hne)]
theorem outOk_ref {X : List (List Nat)} {a : AV} {T : List Nat} (h : outOk X a T) (k : Nat) : okRef k a = true := by
  rcases h with ⟨rfl, rfl⟩ | ⟨hne, t, rfl, ht⟩ <;> rfl
def wyStep (w : List Nat) (c : List Nat) (R : Nat → List (List Nat)) (x : Nat) : List (List Nat) := if x ∉ c ∧ (w.getD (lastW c) 0).testBit x = true then R x else []
theorem has_c77 (g : Tag) (c : List Nat) (hc : c.length ≤ 100) (x : Nat) (st : St) : run L 77 [.lst g 1 (c.map J), J x] st = some (B (decide (x ∈ c)), st) := by
  have := c77 false (up c) (by rw [up_len]; omega) (x : Int) st
  rw [up_J, ← sl_false] at this
  have e : decide (((x : Nat) : Int) ∈ up c) = decide (x ∈ c) := by
    rw [decide_eq_decide, up_mem]
    exact ⟨fun ⟨y, hy, e⟩ => by obtain rfl : x = y := by omega
                                exact hy, fun h => ⟨x, h, rfl⟩⟩
  rw [e] at this
  rw [← this]
  exact run_args (fn := ir77) rfl rfl st rfl

set_option maxHeartbeats 1000000 in
theorem loop78_0 (nl : Bool) (n : Nat) (hn : n ≤ 7) (ps : List (Int × Int)) (hps : ps.length < 1000000) (h7 : ∀ p ∈ ps, okP p) (c : List Nat) (hc1 : 1 ≤ c.length) (hc : c.length ≤ 50) (many : Int) (R : Nat → List (List Nat)) (B : Nat) (hB : B ≤ 1000000) (hR : ∀ x, (R x).length ≤ B) (hrec : ∀ x, ∀ st, run L 78 [bkAV nl (n : Int) ps, .lst .any 1 ((c ++ [x]).map J), I many] st = some (LA (R x), st)) (x : Nat) (X : List (List Nat)) (hok : x ≤ n ∧ X.length ≤ x * B) (env : Env) (st : St)
    (hg : gcAV true 1 0 (canon env [1, 2, 3, 7, 8]) st = ([(1, .lst .any 1 (c.map J)), (2, I many), (3, .ptr 0 0), (7, ooA X), (8, I x)], ⟨[bkCells nl (n : Int) ps], ooT X⟩)) :
    ∃ x_1 en s, lim (headed pure (run L) true [1, 2, 3, 7, 8] lp78_0 1 0) env st = some (x_1, en, s) ∧ (x_1 = .exit 0 ∧ ∃ a' T', outOk (X ++ (List.range' x (n - x)).flatMap (wyStep (seeL 7 ps) c R)) a' T' ∧ en.get 7 = a' ∧ s = ⟨[bkCells nl (n : Int) ps], T'⟩) := by
  refine loop_wp (α := Nat × List (List Nat)) (fun ⟨x, X⟩ => n - x) (fun ⟨x, X⟩ => x ≤ n ∧ X.length ≤ x * B) (fun ⟨x, X⟩ => ([(1, .lst .any 1 (c.map J)), (2, I many), (3, .ptr 0 0), (7, ooA X), (8, I x)], ⟨[bkCells nl (n : Int) ps], ooT X⟩)) (fun ⟨x, X⟩ x_1 en s => x_1 = .exit 0 ∧ ∃ a' T', outOk (X ++ (List.range' x (n - x)).flatMap (wyStep (seeL 7 ps) c R)) a' T' ∧ en.get 7 = a' ∧ s = ⟨[bkCells nl (n : Int) ps], T'⟩) (fun ⟨x, X⟩ hok => ?_) ⟨x, X⟩ hok env st hg
  simp only at hok
  obtain ⟨h1, h2⟩ := hok
  dsimp only at h1 h2 ⊢
  have hb0 : (bkCells nl (n : Int) ps)[0]? = some (I (n : Int)) := rfl
  obtain ⟨q0, hq01, hq02⟩ := outOk_ren (ooA_ok X)
  have hor0 := outOk_ref (ooA_ok X) 1
  by_cases h : x < n
  · have hs := succ64 x (by omega)
    have hlt : ((x : Int) < (n : Int)) = True := eq_true (by omega)
    have hr : List.range' x (n - x) = x :: List.range' (x + 1) (n - (x + 1)) := by
      rw [show n - x = (n - (x + 1)) + 1 by omega, List.range'_succ]
    rw [hr, List.flatMap_cons, ← List.append_assoc]
    have hl1 : IntKind.i64.wrap ((c.length : Int) - 1) = ((c.length - 1 : Nat) : Int) := by rw [wrap64] <;> omega
    have hx1 := index_lstJ .any c (c.length - 1) (by omega)
    have hlw : c.getD (c.length - 1) 0 = lastW c := rfl
    rw [hlw] at hx1
    have h77 := fun st => has_c77 .any c (by omega) x st
    have h71 := fun st => c71 nl (n : Int) ps hps ((lastW c : Nat) : Int) ((x : Nat) : Int) st
    have hbit : decide ((((lastW c : Nat) : Int), ((x : Nat) : Int)) ∈ ps) = ((seeL 7 ps).getD (lastW c) 0).testBit x := (seeL_bit (Nat.le_refl 7) h7 _ _).symm
    rw [hbit] at h71
    have hgo : wyStep (seeL 7 ps) c R x = if x ∉ c ∧ ((seeL 7 ps).getD (lastW c) 0).testBit x = true then R x else [] := rfl
    have hmul : (x + 1) * B = x * B + B := Nat.succ_mul x B
    have hxb : x * B ≤ 7 * 1000000 := Nat.mul_le_mul (by omega) hB
    by_cases p1 : x ∈ c
    · rw [hgo, if_neg (fun hh => hh.1 p1), List.append_nil]
      simp only [go_sem, reduceIte, Nat.reduceEqDiff, Nat.reduceAdd, Nat.reduceSub, Nat.reduceLeDiff, Nat.reduceLT, reduceCtorEq, Int.reduceLT, Int.reduceLE, Int.reduceEq, Int.reduceBEq, Int.reduceSub, Int.reduceAdd, Int.reduceMul, Int.reduceNeg, Int.reduceToNat, Nat.reduceMul, Nat.reduceBEq, index_rsl_if, setm, make_ints, condK_dec, wantK_dec, not_dec, and_dec, or_dec, seqK_ite, seqK_none, blockK_ite, blockK_none, opsK_ite, opsK_none, stepK_ite, stepK_none, bodyK_ite, bodyK_none, resK_ite, resK_none, leaveK_ite, leaveK_none, only_ite, only_none, bind_ite, gives_some, gives_none, gives_ite, then_normal, then_ret, then_exit, then_none, then_ite, Option.bind_none, Bool.not_eq_true', decide_eq_false_iff_not, Bool.and_eq_true, Bool.or_eq_true, Option.some.injEq, Int.not_lt, Int.not_le, lp78_0, hb0, hlt, hs, h77, p1, List.length_map]
      refine ⟨(x + 1, X), by simp only [go_sem, reduceIte, Nat.reduceEqDiff, Nat.reduceAdd, Nat.reduceSub, Nat.reduceLeDiff, Nat.reduceLT, reduceCtorEq, Int.reduceLT, Int.reduceLE, Int.reduceEq, Int.reduceBEq, Int.reduceSub, Int.reduceAdd, Int.reduceMul, Int.reduceNeg, Int.reduceToNat, Nat.reduceMul, Nat.reduceBEq, ren1_locm, loc_tips, locT_eq, hq01, hq02, hor0] <;> rfl, ?_, ?_, fun x en s hq => ?_⟩
      · dsimp only; exact ⟨by omega, by rw [hmul]; omega⟩
      · dsimp only; omega
      · exact hq
    · by_cases p2 : ((seeL 7 ps).getD (lastW c) 0).testBit x = true
      · rw [hgo, if_pos ⟨p1, p2⟩]
        have hm : c.length ≤ maxGrow := by unfold maxGrow; omega
        have hm2 : c.length + 1 ≤ maxGrow := by unfold maxGrow; omega
        have hap1 : ∀ S, appendAV 1 (.lst .full 1 []) (c.map J) ⟨S, ooT X⟩ = some (.lst (.own (ooT X).length c.length) 1 (c.map J), ⟨S, ooT X ++ [c.length]⟩) := fun S => by
          cases c with
          | nil => simp at hc1
          | cons y r => simp [appendAV] at hm ⊢; exact hm
        have hap2 : ∀ S, appendAV 1 (.lst (.own (ooT X).length c.length) 1 (c.map J)) [J x] ⟨S, ooT X ++ [c.length]⟩ = some (.lst (.own (ooT X).length (c.length + 1)) 1 (c.map J ++ [J x]), ⟨S, ooT X ++ [c.length + 1]⟩) := fun S => by
          simp [appendAV, hm2]
        have hcall : ∀ st, run L 78 [bkAV nl (n : Int) ps, .lst (.own (ooT X).length (c.length + 1)) 1 (c.map J ++ [J x]), I many] st = some (LA (R x), st) := fun st => by
          have := hrec x st
          simp only [List.map_append, List.map_cons, List.map_nil] at this
          rw [← this]
          exact run_args (fn := ir78) rfl rfl st rfl
        have hRx := hR x
        obtain ⟨a', T', happ, hok'⟩ := outOk_apps (outOk_ext (ooA_ok X) (c.length + 1)) (R x) (by omega)
        have hnl : isRsl (LA (R x)) = false := isRsl_LA _
        obtain ⟨q, hq1, hq2⟩ := outOk_ren hok'
        have hor := outOk_ref hok' 1
        generalize R x = Y at *
        simp only [go_sem, reduceIte, Nat.reduceEqDiff, Nat.reduceAdd, Nat.reduceSub, Nat.reduceLeDiff, Nat.reduceLT, reduceCtorEq, Int.reduceLT, Int.reduceLE, Int.reduceEq, Int.reduceBEq, Int.reduceSub, Int.reduceAdd, Int.reduceMul, Int.reduceNeg, Int.reduceToNat, Nat.reduceMul, Nat.reduceBEq, index_rsl_if, setm, make_ints, condK_dec, wantK_dec, not_dec, and_dec, or_dec, seqK_ite, seqK_none, blockK_ite, blockK_none, opsK_ite, opsK_none, stepK_ite, stepK_none, bodyK_ite, bodyK_none, resK_ite, resK_none, leaveK_ite, leaveK_none, only_ite, only_none, bind_ite, gives_some, gives_none, gives_ite, then_normal, then_ret, then_exit, then_none, then_ite, Option.bind_none, Bool.not_eq_true', decide_eq_false_iff_not, Bool.and_eq_true, Bool.or_eq_true, Option.some.injEq, Int.not_lt, Int.not_le, lp78_0, hb0, hlt, hs, h77, h71, p1, p2, hl1, hx1, hap1, hap2, hcall, happ, elems_LA, hnl, List.length_map]
        refine ⟨(x + 1, X ++ Y), by simp only [go_sem, reduceIte, Nat.reduceEqDiff, Nat.reduceAdd, Nat.reduceSub, Nat.reduceLeDiff, Nat.reduceLT, reduceCtorEq, Int.reduceLT, Int.reduceLE, Int.reduceEq, Int.reduceBEq, Int.reduceSub, Int.reduceAdd, Int.reduceMul, Int.reduceNeg, Int.reduceToNat, Nat.reduceMul, Nat.reduceBEq, ren1_locm, loc_tips, locT_eq, hq1, hq2, hor] <;> rfl, ?_, ?_, fun x en s hq => ?_⟩
        · dsimp only; exact ⟨by omega, by rw [hmul, List.length_append]; omega⟩
        · dsimp only; omega
        · exact hq
      · have p2' : ((seeL 7 ps).getD (lastW c) 0).testBit x = false := by simpa using p2
        rw [hgo, if_neg (fun hh => p2 hh.2), List.append_nil]
        simp only [go_sem, reduceIte, Nat.reduceEqDiff, Nat.reduceAdd, Nat.reduceSub, Nat.reduceLeDiff, Nat.reduceLT, reduceCtorEq, Int.reduceLT, Int.reduceLE, Int.reduceEq, Int.reduceBEq, Int.reduceSub, Int.reduceAdd, Int.reduceMul, Int.reduceNeg, Int.reduceToNat, Nat.reduceMul, Nat.reduceBEq, index_rsl_if, setm, make_ints, condK_dec, wantK_dec, not_dec, and_dec, or_dec, seqK_ite, seqK_none, blockK_ite, blockK_none, opsK_ite, opsK_none, stepK_ite, stepK_none, bodyK_ite, bodyK_none, resK_ite, resK_none, leaveK_ite, leaveK_none, only_ite, only_none, bind_ite, gives_some, gives_none, gives_ite, then_normal, then_ret, then_exit, then_none, then_ite, Option.bind_none, Bool.not_eq_true', decide_eq_false_iff_not, Bool.and_eq_true, Bool.or_eq_true, Option.some.injEq, Int.not_lt, Int.not_le, lp78_0, hb0, hlt, hs, h77, h71, p1, p2', hl1, hx1, List.length_map]
        refine ⟨(x + 1, X), by simp only [go_sem, reduceIte, Nat.reduceEqDiff, Nat.reduceAdd, Nat.reduceSub, Nat.reduceLeDiff, Nat.reduceLT, reduceCtorEq, Int.reduceLT, Int.reduceLE, Int.reduceEq, Int.reduceBEq, Int.reduceSub, Int.reduceAdd, Int.reduceMul, Int.reduceNeg, Int.reduceToNat, Nat.reduceMul, Nat.reduceBEq, ren1_locm, loc_tips, locT_eq, hq01, hq02, hor0] <;> rfl, ?_, ?_, fun x en s hq => ?_⟩
        · dsimp only; exact ⟨by omega, by rw [hmul]; omega⟩
        · dsimp only; omega
        · exact hq
  · have hr : n - x = 0 := by omega
    have hlt : ((x : Int) < (n : Int)) = False := eq_false (by omega)
    rw [hr]
    simp only [go_sem, reduceIte, Nat.reduceEqDiff, Nat.reduceAdd, Nat.reduceSub, Nat.reduceLeDiff, Nat.reduceLT, reduceCtorEq, Int.reduceLT, Int.reduceLE, Int.reduceEq, Int.reduceBEq, Int.reduceSub, Int.reduceAdd, Int.reduceMul, Int.reduceNeg, Int.reduceToNat, Nat.reduceMul, Nat.reduceBEq, index_rsl_if, setm, make_ints, condK_dec, wantK_dec, not_dec, and_dec, or_dec, seqK_ite, seqK_none, blockK_ite, blockK_none, opsK_ite, opsK_none, stepK_ite, stepK_none, bodyK_ite, bodyK_none, resK_ite, resK_none, leaveK_ite, leaveK_none, only_ite, only_none, bind_ite, gives_some, gives_none, gives_ite, then_normal, then_ret, then_exit, then_none, then_ite, Option.bind_none, Bool.not_eq_true', decide_eq_false_iff_not, Bool.and_eq_true, Bool.or_eq_true, Option.some.injEq, Int.not_lt, Int.not_le, lp78_0, hb0, hlt]
    simpa using ooA_ok X

attribute [local go_sem] shaped_t cells_t isAgg_t storable_t okRef_t pub_t

theorem LA_one (c : List Nat) : LA [c] = .lst .any 1 [.lst .any 1 (c.map J)] := rfl
theorem c78 (nl : Bool) (n : Nat) (hn : n ≤ 7) (ps : List (Int × Int)) (hps : ps.length < 1000000) (h7 : ∀ p ∈ ps, okP p) :
    ∀ (k : Nat) (c : List Nat), 1 ≤ c.length → k ≤ 7 → c.length + k ≤ 50 → ∀ st, run L 78 [bkAV nl (n : Int) ps, .lst .any 1 (c.map J), I ((c.length + k : Nat) : Int)] st = some (LA (wys (seeL 7 ps) n k c), st)
  | 0, c, h1, _, h50, st => by
    rw [run_pure (fn := ir78) rfl rfl]
    have e : wys (seeL 7 ps) n 0 c = [c] := rfl
    rw [e, LA_one, Nat.add_zero]
    simp only [ir78, go_sem, reduceIte, Nat.reduceEqDiff, Nat.reduceAdd, Nat.reduceSub, Nat.reduceLeDiff, Nat.reduceLT, reduceCtorEq, Int.reduceLT, Int.reduceLE, Int.reduceEq, Int.reduceBEq, Int.reduceSub, Int.reduceAdd, Int.reduceMul, Int.reduceNeg, Int.reduceToNat, Nat.reduceMul, Nat.reduceBEq, List.length_map]
  | k + 1, c, h1, hk, h50, st => by
    rw [run_pure (fn := ir78) rfl rfl]
    have hne : ((c.length : Int) = ((c.length + (k + 1) : Nat) : Int)) = False := eq_false (by omega)
    have hrec : ∀ x, ∀ st, run L 78 [bkAV nl (n : Int) ps, .lst .any 1 ((c ++ [x]).map J), I ((c.length + (k + 1) : Nat) : Int)] st = some (LA (wys (seeL 7 ps) n k (c ++ [x])), st) := fun x st => by
      have := c78 nl n hn ps hps h7 k (c ++ [x]) (by simp) (by omega) (by simp; omega) st
      rw [List.length_append, List.length_singleton, show c.length + 1 + k = c.length + (k + 1) by omega] at this
      exact this
    simp only [ir78, go_sem, reduceIte, Nat.reduceEqDiff, Nat.reduceAdd, Nat.reduceSub, Nat.reduceLeDiff, Nat.reduceLT, reduceCtorEq, Int.reduceLT, Int.reduceLE, Int.reduceEq, Int.reduceBEq, Int.reduceSub, Int.reduceAdd, Int.reduceMul, Int.reduceNeg, Int.reduceToNat, Nat.reduceMul, Nat.reduceBEq, hne, List.length_map]
    generalize hg : lim (headed pure (run L) true _ lp78_0 _ _) _ _ = o
    obtain ⟨x, en, s, rfl, h2⟩ : ∃ x en s, o = some (x, en, s) ∧ _ := by rw [← hg]; exact loop78_0 nl n hn ps hps h7 c h1 (by omega) _ (fun x => wys (seeL 7 ps) n k (c ++ [x])) 823543 (by omega) (fun x => wys_bound _ hn k (by omega) _) hrec 0 [] ⟨by omega, by simp⟩ _ _ (by simp only [go_sem, reduceIte, Nat.reduceEqDiff, Nat.reduceAdd, Nat.reduceSub, Nat.reduceLeDiff, Nat.reduceLT, reduceCtorEq, Int.reduceLT, Int.reduceLE, Int.reduceEq, Int.reduceBEq, Int.reduceSub, Int.reduceAdd, Int.reduceMul, Int.reduceNeg, Int.reduceToNat, Nat.reduceMul, Nat.reduceBEq, show ooA [] = .v (.slice none 0 0) from rfl, show ooT [] = [] from rfl, Int.natCast_zero] <;> rfl)
    clear hg
    rw [Nat.sub_zero, List.nil_append] at h2
    obtain ⟨rfl, a', T', hok, e7, rfl⟩ := h2
    have hw : (List.range' 0 n).flatMap (wyStep (seeL 7 ps) c fun x => wys (seeL 7 ps) n k (c ++ [x])) = wys (seeL 7 ps) n (k + 1) c := rfl
    rw [hw] at hok
    have hf := fun st => fin_oo hok st
    obtain ⟨z1, z2, z3⟩ := outOk_st hok
    simp only [go_sem, reduceIte, Nat.reduceEqDiff, Nat.reduceAdd, Nat.reduceSub, Nat.reduceLeDiff, Nat.reduceLT, reduceCtorEq, Int.reduceLT, Int.reduceLE, Int.reduceEq, Int.reduceBEq, Int.reduceSub, Int.reduceAdd, Int.reduceMul, Int.reduceNeg, Int.reduceToNat, Nat.reduceMul, Nat.reduceBEq, e7, hf]

/-! ### the reference's circles -/
def minL (a : Nat) (c : List Nat) (l : List Nat) : Nat := l.foldl (fun m k => min m (c.getD k 0)) a
theorem loop95_0 (nl : Bool) (n : Int) (ps : List (Int × Int)) (m : Nat) (Z X : List (List Nat)) (a : Nat) (i : Nat) (hi : i < Z.length) (hil : i < 1000000) (hm : (Z[i]).length = m) (hm7 : m ≤ 50) (th : Nat) (hth : th = (ooT X).length) (k : Nat) (q : Nat) (hok : k ≤ m) (env : Env) (st : St)
    (hg : gcAV true 1 th (canon env [1, 2, 5, 6, 7, 8, 9, 10]) st = ([(1, I m), (2, .ptr 0 0), (5, ooA X), (6, I a), (7, LA Z), (8, I i), (9, J q), (10, I k)], ⟨[bkCells nl n ps], ooT X⟩)) :
    ∃ x_1 en s, lim (headed pure (run L) true [1, 2, 5, 6, 7, 8, 9, 10] lp95_0 1 th) env st = some (x_1, en, s) ∧ (x_1 = .exit 4 ∧ en.get 1 = I m ∧ en.get 2 = .ptr 0 0 ∧ en.get 5 = ooA X ∧ en.get 6 = I a ∧ en.get 7 = LA Z ∧ en.get 8 = I i ∧ en.get 9 = J (minL q (Z[i]) (List.range' k (m - k))) ∧ s = ⟨[bkCells nl n ps], ooT X⟩) := by
  refine loop_wp (α := Nat × Nat) (fun ⟨k, q⟩ => m - k) (fun ⟨k, q⟩ => k ≤ m) (fun ⟨k, q⟩ => ([(1, I m), (2, .ptr 0 0), (5, ooA X), (6, I a), (7, LA Z), (8, I i), (9, J q), (10, I k)], ⟨[bkCells nl n ps], ooT X⟩)) (fun ⟨k, q⟩ x_1 en s => x_1 = .exit 4 ∧ en.get 1 = I m ∧ en.get 2 = .ptr 0 0 ∧ en.get 5 = ooA X ∧ en.get 6 = I a ∧ en.get 7 = LA Z ∧ en.get 8 = I i ∧ en.get 9 = J (minL q (Z[i]) (List.range' k (m - k))) ∧ s = ⟨[bkCells nl n ps], ooT X⟩) (fun ⟨k, q⟩ hok => ?_) ⟨k, q⟩ hok env st hg
  simp only at hok
  subst hth
  dsimp only at hok ⊢
  have hix := index_LA Z i hi
  have hoa : oA Z[i] = .lst .any 1 (Z[i].map J) := rfl
  rw [hoa] at hix
  by_cases h : k < m
  · have hs := succ64 k (by omega)
    have hlt : ((k : Int) < (m : Int)) = True := eq_true (by omega)
    have hr : List.range' k (m - k) = k :: List.range' (k + 1) (m - (k + 1)) := by
      rw [show m - k = (m - (k + 1)) + 1 by omega, List.range'_succ]
    have hx := index_lstJ .any Z[i] k (by omega)
    have hmn : min (q : Int) ((Z[i].getD k 0 : Nat) : Int) = ((min q (Z[i].getD k 0) : Nat) : Int) := by omega
    have hst : minL q Z[i] (k :: List.range' (k + 1) (m - (k + 1))) = minL (min q (Z[i].getD k 0)) Z[i] (List.range' (k + 1) (m - (k + 1))) := rfl
    rw [hr, hst]
    have hor0 := outOk_ref (ooA_ok X) 1
    have hrr : ∀ acc, ren1 (ooT X).length (ooT X) acc (ooA X) = (ooA X, acc) := fun acc => by
      unfold ooA ooT loc locT
      split
      · rfl
      · simp [ren1]
    generalize Z[i].getD k 0 = v at *
    simp only [go_sem, reduceIte, Nat.reduceEqDiff, Nat.reduceAdd, Nat.reduceSub, Nat.reduceLeDiff, Nat.reduceLT, reduceCtorEq, Int.reduceLT, Int.reduceLE, Int.reduceEq, Int.reduceBEq, Int.reduceSub, Int.reduceAdd, Int.reduceMul, Int.reduceNeg, Int.reduceToNat, Nat.reduceMul, Nat.reduceBEq, index_rsl_if, setm, make_ints, condK_dec, wantK_dec, not_dec, and_dec, or_dec, seqK_ite, seqK_none, blockK_ite, blockK_none, opsK_ite, opsK_none, stepK_ite, stepK_none, bodyK_ite, bodyK_none, resK_ite, resK_none, leaveK_ite, leaveK_none, only_ite, only_none, bind_ite, gives_some, gives_none, gives_ite, then_normal, then_ret, then_exit, then_none, then_ite, Option.bind_none, Bool.not_eq_true', decide_eq_false_iff_not, Bool.and_eq_true, Bool.or_eq_true, Option.some.injEq, Int.not_lt, Int.not_le, lp95_0, hix, hx, hlt, hs, hmn]
    refine ⟨(k + 1, min q v), by simp only [go_sem, reduceIte, Nat.reduceEqDiff, Nat.reduceAdd, Nat.reduceSub, Nat.reduceLeDiff, Nat.reduceLT, reduceCtorEq, Int.reduceLT, Int.reduceLE, Int.reduceEq, Int.reduceBEq, Int.reduceSub, Int.reduceAdd, Int.reduceMul, Int.reduceNeg, Int.reduceToNat, Nat.reduceMul, Nat.reduceBEq, ren1_locm, loc_tips, locT_eq, hor0, hrr, ren1_LA, okRef_LA, List.take_length] <;> rfl, ?_, ?_, fun x en s hq => ?_⟩
    · dsimp only; omega
    · dsimp only; omega
    · exact hq
  · have hr : m - k = 0 := by omega
    have hlt : ((k : Int) < (m : Int)) = False := eq_false (by omega)
    rw [hr]
    simp only [go_sem, reduceIte, Nat.reduceEqDiff, Nat.reduceAdd, Nat.reduceSub, Nat.reduceLeDiff, Nat.reduceLT, reduceCtorEq, Int.reduceLT, Int.reduceLE, Int.reduceEq, Int.reduceBEq, Int.reduceSub, Int.reduceAdd, Int.reduceMul, Int.reduceNeg, Int.reduceToNat, Nat.reduceMul, Nat.reduceBEq, index_rsl_if, setm, make_ints, condK_dec, wantK_dec, not_dec, and_dec, or_dec, seqK_ite, seqK_none, blockK_ite, blockK_none, opsK_ite, opsK_none, stepK_ite, stepK_none, bodyK_ite, bodyK_none, resK_ite, resK_none, leaveK_ite, leaveK_none, only_ite, only_none, bind_ite, gives_some, gives_none, gives_ite, then_normal, then_ret, then_exit, then_none, then_ite, Option.bind_none, Bool.not_eq_true', decide_eq_false_iff_not, Bool.and_eq_true, Bool.or_eq_true, Option.some.injEq, Int.not_lt, Int.not_le, lp95_0, hlt]
    rfl

attribute [local go_sem] shaped_t cells_t isAgg_t storable_t okRef_t pub_t

theorem append_oo (X : List (List Nat)) (c : List Nat) (S : List (List AV)) (h : X.length < 100000000) : appendAV 1 (ooA X) [oA c] ⟨S, ooT X⟩ = some (ooA (X ++ [c]), ⟨S, ooT (X ++ [c])⟩) :=
  append_locm (z := 1) (k := 0) oA X c S (by omega) (by unfold maxGrow; omega)
theorem oo_ren (X : List (List Nat)) (th : Nat) (h : th = 0 ∨ (th = 1 ∧ X ≠ [])) : ∃ q, ren1 th (ooT X) [] (ooA X) = (ooA X, q) ∧ (ooT X).take th ++ q.map (fun x => x.2) = ooT X := by
  rcases h with rfl | ⟨rfl, hne⟩
  · obtain ⟨q, h1, h2⟩ := outOk_ren (ooA_ok X)
    exact ⟨q, h1, by simpa using h2⟩
  · have hl : (X.map oA).length ≠ 0 := by simpa using hne
    refine ⟨[], ?_, ?_⟩
    · unfold ooA loc
      rw [if_neg hl, ren1_lown, if_pos (by omega)]
    · unfold ooT locT
      rw [if_neg hl]; rfl
/-- Whether a circle's first word is its smallest one, and is seen by the last one. -/
def ccP (w : List Nat) (m a : Nat) (c : List Nat) : Bool := decide (minL a c (List.range' 0 m) = a) && (w.getD (c.getD (m - 1) 0) 0).testBit a

set_option maxHeartbeats 1000000 in
theorem loop95_1 (nl : Bool) (n : Int) (ps : List (Int × Int)) (hps : ps.length < 1000000) (h7 : ∀ p ∈ ps, okP p) (m : Nat) (hm1 : 1 ≤ m) (hm50 : m ≤ 50) (Z : List (List Nat)) (hZ : ∀ c ∈ Z, c.length = m) (hZl : Z.length < 1000000) (a : Nat) (th : Nat) (B : Nat) (hB : B < 50000000) (i : Nat) (X : List (List Nat)) (hok : i ≤ Z.length ∧ (th = 0 ∨ (th = 1 ∧ X ≠ [])) ∧ X.length ≤ B + i) (env : Env) (st : St)
    (hg : gcAV true 1 th (canon env [1, 2, 5, 6, 7, 8]) st = ([(1, I m), (2, .ptr 0 0), (5, ooA X), (6, I a), (7, LA Z), (8, I i)], ⟨[bkCells nl n ps], ooT X⟩)) :
    ∃ x_1 en s, lim (headed pure (run L) true [1, 2, 5, 6, 7, 8] lp95_1 1 th) env st = some (x_1, en, s) ∧ (x_1 = .exit 2 ∧ en.get 1 = I m ∧ en.get 2 = .ptr 0 0 ∧ en.get 5 = ooA (X ++ (Z.drop i).filter (ccP (seeL 7 ps) m a)) ∧ en.get 6 = I a ∧ s = ⟨[bkCells nl n ps], ooT (X ++ (Z.drop i).filter (ccP (seeL 7 ps) m a))⟩) := by
  refine loop_wp (α := Nat × List (List Nat)) (fun ⟨i, X⟩ => Z.length - i) (fun ⟨i, X⟩ => i ≤ Z.length ∧ (th = 0 ∨ (th = 1 ∧ X ≠ [])) ∧ X.length ≤ B + i) (fun ⟨i, X⟩ => ([(1, I m), (2, .ptr 0 0), (5, ooA X), (6, I a), (7, LA Z), (8, I i)], ⟨[bkCells nl n ps], ooT X⟩)) (fun ⟨i, X⟩ x_1 en s => x_1 = .exit 2 ∧ en.get 1 = I m ∧ en.get 2 = .ptr 0 0 ∧ en.get 5 = ooA (X ++ (Z.drop i).filter (ccP (seeL 7 ps) m a)) ∧ en.get 6 = I a ∧ s = ⟨[bkCells nl n ps], ooT (X ++ (Z.drop i).filter (ccP (seeL 7 ps) m a))⟩) (fun ⟨i, X⟩ hok => ?_) ⟨i, X⟩ hok env st hg
  simp only at hok
  obtain ⟨h1, h2, h3⟩ := hok
  dsimp only at h1 h2 h3 ⊢
  have hth := h2
  have hth' : ∀ c : List Nat, th = 0 ∨ (th = 1 ∧ X ++ [c] ≠ []) := fun c => hth.imp id (fun h => ⟨h.1, by simp⟩)
  by_cases h : i < Z.length
  · have hs := succ64 i (by omega)
    have hlt : ((i : Int) < (Z.length : Int)) = True := eq_true (by omega)
    have hd : Z.drop i = Z[i] :: Z.drop (i + 1) := List.drop_eq_getElem_cons h
    have hix := index_LA Z i h
    have hoa : oA Z[i] = .lst .any 1 (Z[i].map J) := rfl
    have hcl := hZ _ (List.getElem_mem h)
    have hl1 : IntKind.i64.wrap ((m : Int) - 1) = ((m - 1 : Nat) : Int) := by rw [wrap64] <;> omega
    have hx1 := index_lstJ .any Z[i] (m - 1) (by omega)
    have h71 := fun st => c71 nl n ps hps ((Z[i].getD (m - 1) 0 : Nat) : Int) ((a : Nat) : Int) st
    have hbit : decide ((((Z[i].getD (m - 1) 0 : Nat) : Int), ((a : Nat) : Int)) ∈ ps) = ((seeL 7 ps).getD (Z[i].getD (m - 1) 0) 0).testBit a := (seeL_bit (Nat.le_refl 7) h7 _ _).symm
    rw [hbit] at h71
    have hcc : ccP (seeL 7 ps) m a Z[i] = (decide (minL a Z[i] (List.range' 0 m) = a) && ((seeL 7 ps).getD (Z[i].getD (m - 1) 0) 0).testBit a) := rfl
    rw [hd]
    obtain ⟨q0, hq01, hq02⟩ := oo_ren X th h2
    have hor0 := outOk_ref (ooA_ok X) 1
    have hrr : ∀ acc, ren1 (ooT X).length (ooT X) acc (ooA X) = (ooA X, acc) := fun acc => by
      unfold ooA ooT loc locT
      split
      · rfl
      · simp [ren1]
    have hap := fun S => append_oo X Z[i] S (by omega)
    have hcell : (oA Z[i]) = .lst .any 1 (Z[i].map J) := rfl
    simp only [go_sem, reduceIte, Nat.reduceEqDiff, Nat.reduceAdd, Nat.reduceSub, Nat.reduceLeDiff, Nat.reduceLT, reduceCtorEq, Int.reduceLT, Int.reduceLE, Int.reduceEq, Int.reduceBEq, Int.reduceSub, Int.reduceAdd, Int.reduceMul, Int.reduceNeg, Int.reduceToNat, Nat.reduceMul, Nat.reduceBEq, index_rsl_if, setm, make_ints, condK_dec, wantK_dec, not_dec, and_dec, or_dec, seqK_ite, seqK_none, blockK_ite, blockK_none, opsK_ite, opsK_none, stepK_ite, stepK_none, bodyK_ite, bodyK_none, resK_ite, resK_none, leaveK_ite, leaveK_none, only_ite, only_none, bind_ite, gives_some, gives_none, gives_ite, then_normal, then_ret, then_exit, then_none, then_ite, Option.bind_none, Bool.not_eq_true', decide_eq_false_iff_not, Bool.and_eq_true, Bool.or_eq_true, Option.some.injEq, Int.not_lt, Int.not_le, lp95_1, hlt, hs, len_LA]
    generalize hg : lim (headed pure (run L) true _ lp95_0 _ _) _ _ = o
    obtain ⟨x, en, s, rfl, h2⟩ : ∃ x en s, o = some (x, en, s) ∧ _ := by rw [← hg]; exact loop95_0 nl n ps m Z X a i h (by omega) hcl hm50 (ooT X).length rfl 0 a (by omega) _ _ (by simp only [go_sem, reduceIte, Nat.reduceEqDiff, Nat.reduceAdd, Nat.reduceSub, Nat.reduceLeDiff, Nat.reduceLT, reduceCtorEq, Int.reduceLT, Int.reduceLE, Int.reduceEq, Int.reduceBEq, Int.reduceSub, Int.reduceAdd, Int.reduceMul, Int.reduceNeg, Int.reduceToNat, Nat.reduceMul, Nat.reduceBEq, hor0, hrr, ren1_LA, okRef_LA, List.take_length, Int.natCast_zero] <;> rfl)
    clear hg
    rw [Nat.sub_zero] at h2
    obtain ⟨rfl, e1, e2, e5, e6, e7, e8, e9, rfl⟩ := h2
    rw [hcell] at hap hix
    by_cases p1 : minL a Z[i] (List.range' 0 m) = a
    · by_cases p2 : ((seeL 7 ps).getD (Z[i].getD (m - 1) 0) 0).testBit a = true
      · rw [List.filter_cons_of_pos (by rw [hcc, p2]; simp [p1])]
        have q1 : (((minL a Z[i] (List.range' 0 m) : Nat) : Int) = (a : Int)) = True := eq_true (by omega)
        obtain ⟨q3, hq31, hq32⟩ := oo_ren (X ++ [Z[i]]) th (hth' _)
        have hor3 := outOk_ref (ooA_ok (X ++ [Z[i]])) 1
        generalize Z[i] = c at *
        simp only [go_sem, reduceIte, Nat.reduceEqDiff, Nat.reduceAdd, Nat.reduceSub, Nat.reduceLeDiff, Nat.reduceLT, reduceCtorEq, Int.reduceLT, Int.reduceLE, Int.reduceEq, Int.reduceBEq, Int.reduceSub, Int.reduceAdd, Int.reduceMul, Int.reduceNeg, Int.reduceToNat, Nat.reduceMul, Nat.reduceBEq, index_rsl_if, setm, make_ints, condK_dec, wantK_dec, not_dec, and_dec, or_dec, seqK_ite, seqK_none, blockK_ite, blockK_none, opsK_ite, opsK_none, stepK_ite, stepK_none, bodyK_ite, bodyK_none, resK_ite, resK_none, leaveK_ite, leaveK_none, only_ite, only_none, bind_ite, gives_some, gives_none, gives_ite, then_normal, then_ret, then_exit, then_none, then_ite, Option.bind_none, Bool.not_eq_true', decide_eq_false_iff_not, Bool.and_eq_true, Bool.or_eq_true, Option.some.injEq, Int.not_lt, Int.not_le, lp95_1, hs, e1, e2, e5, e6, e7, e8, e9, q1, hl1, hix, hx1, h71, p2, hap]
        refine ⟨(i + 1, X ++ [c]), by simp only [go_sem, reduceIte, Nat.reduceEqDiff, Nat.reduceAdd, Nat.reduceSub, Nat.reduceLeDiff, Nat.reduceLT, reduceCtorEq, Int.reduceLT, Int.reduceLE, Int.reduceEq, Int.reduceBEq, Int.reduceSub, Int.reduceAdd, Int.reduceMul, Int.reduceNeg, Int.reduceToNat, Nat.reduceMul, Nat.reduceBEq, ren1_locm, loc_tips, locT_eq, hq31, hq32, hor3, ren1_LA, okRef_LA, e1, e2, e5, e6, e7, e8, e9] <;> rfl, ?_, ?_, fun x en s hq => ?_⟩
        · dsimp only
          exact ⟨by omega, hth' _, by rw [List.length_append, List.length_singleton]; omega⟩
        · dsimp only; omega
        · simp only [List.append_assoc, List.cons_append, List.nil_append] at hq; exact hq
      · have p2' : ((seeL 7 ps).getD (Z[i].getD (m - 1) 0) 0).testBit a = false := by simpa using p2
        rw [List.filter_cons_of_neg (by rw [hcc, p2']; simp)]
        have q1 : (((minL a Z[i] (List.range' 0 m) : Nat) : Int) = (a : Int)) = True := eq_true (by omega)
        generalize Z[i] = c at *
        simp only [go_sem, reduceIte, Nat.reduceEqDiff, Nat.reduceAdd, Nat.reduceSub, Nat.reduceLeDiff, Nat.reduceLT, reduceCtorEq, Int.reduceLT, Int.reduceLE, Int.reduceEq, Int.reduceBEq, Int.reduceSub, Int.reduceAdd, Int.reduceMul, Int.reduceNeg, Int.reduceToNat, Nat.reduceMul, Nat.reduceBEq, index_rsl_if, setm, make_ints, condK_dec, wantK_dec, not_dec, and_dec, or_dec, seqK_ite, seqK_none, blockK_ite, blockK_none, opsK_ite, opsK_none, stepK_ite, stepK_none, bodyK_ite, bodyK_none, resK_ite, resK_none, leaveK_ite, leaveK_none, only_ite, only_none, bind_ite, gives_some, gives_none, gives_ite, then_normal, then_ret, then_exit, then_none, then_ite, Option.bind_none, Bool.not_eq_true', decide_eq_false_iff_not, Bool.and_eq_true, Bool.or_eq_true, Option.some.injEq, Int.not_lt, Int.not_le, lp95_1, hs, e1, e2, e5, e6, e7, e8, e9, q1, hl1, hix, hx1, h71, p2']
        refine ⟨(i + 1, X), by simp only [go_sem, reduceIte, Nat.reduceEqDiff, Nat.reduceAdd, Nat.reduceSub, Nat.reduceLeDiff, Nat.reduceLT, reduceCtorEq, Int.reduceLT, Int.reduceLE, Int.reduceEq, Int.reduceBEq, Int.reduceSub, Int.reduceAdd, Int.reduceMul, Int.reduceNeg, Int.reduceToNat, Nat.reduceMul, Nat.reduceBEq, ren1_locm, loc_tips, locT_eq, hq01, hq02, hor0, ren1_LA, okRef_LA, e1, e2, e5, e6, e7, e8, e9] <;> rfl, ?_, ?_, fun x en s hq => ?_⟩
        · dsimp only; exact ⟨by omega, hth, by omega⟩
        · dsimp only; omega
        · exact hq
    · rw [List.filter_cons_of_neg (by rw [hcc]; simp [p1])]
      have q1 : (((minL a Z[i] (List.range' 0 m) : Nat) : Int) = (a : Int)) = False := eq_false (by omega)
      generalize Z[i] = c at *
      simp only [go_sem, reduceIte, Nat.reduceEqDiff, Nat.reduceAdd, Nat.reduceSub, Nat.reduceLeDiff, Nat.reduceLT, reduceCtorEq, Int.reduceLT, Int.reduceLE, Int.reduceEq, Int.reduceBEq, Int.reduceSub, Int.reduceAdd, Int.reduceMul, Int.reduceNeg, Int.reduceToNat, Nat.reduceMul, Nat.reduceBEq, index_rsl_if, setm, make_ints, condK_dec, wantK_dec, not_dec, and_dec, or_dec, seqK_ite, seqK_none, blockK_ite, blockK_none, opsK_ite, opsK_none, stepK_ite, stepK_none, bodyK_ite, bodyK_none, resK_ite, resK_none, leaveK_ite, leaveK_none, only_ite, only_none, bind_ite, gives_some, gives_none, gives_ite, then_normal, then_ret, then_exit, then_none, then_ite, Option.bind_none, Bool.not_eq_true', decide_eq_false_iff_not, Bool.and_eq_true, Bool.or_eq_true, Option.some.injEq, Int.not_lt, Int.not_le, lp95_1, hs, e1, e2, e5, e6, e7, e8, e9, q1]
      refine ⟨(i + 1, X), by simp only [go_sem, reduceIte, Nat.reduceEqDiff, Nat.reduceAdd, Nat.reduceSub, Nat.reduceLeDiff, Nat.reduceLT, reduceCtorEq, Int.reduceLT, Int.reduceLE, Int.reduceEq, Int.reduceBEq, Int.reduceSub, Int.reduceAdd, Int.reduceMul, Int.reduceNeg, Int.reduceToNat, Nat.reduceMul, Nat.reduceBEq, ren1_locm, loc_tips, locT_eq, hq01, hq02, hor0, ren1_LA, okRef_LA, e1, e2, e5, e6, e7, e8, e9] <;> rfl, ?_, ?_, fun x en s hq => ?_⟩
      · dsimp only; exact ⟨by omega, hth, by omega⟩
      · dsimp only; omega
      · exact hq
  · have hd : Z.drop i = [] := List.drop_eq_nil_of_le (by omega)
    have hlt : ((i : Int) < (Z.length : Int)) = False := eq_false (by omega)
    rw [hd]
    simp only [go_sem, reduceIte, Nat.reduceEqDiff, Nat.reduceAdd, Nat.reduceSub, Nat.reduceLeDiff, Nat.reduceLT, reduceCtorEq, Int.reduceLT, Int.reduceLE, Int.reduceEq, Int.reduceBEq, Int.reduceSub, Int.reduceAdd, Int.reduceMul, Int.reduceNeg, Int.reduceToNat, Nat.reduceMul, Nat.reduceBEq, index_rsl_if, setm, make_ints, condK_dec, wantK_dec, not_dec, and_dec, or_dec, seqK_ite, seqK_none, blockK_ite, blockK_none, opsK_ite, opsK_none, stepK_ite, stepK_none, bodyK_ite, bodyK_none, resK_ite, resK_none, leaveK_ite, leaveK_none, only_ite, only_none, bind_ite, gives_some, gives_none, gives_ite, then_normal, then_ret, then_exit, then_none, then_ite, Option.bind_none, Bool.not_eq_true', decide_eq_false_iff_not, Bool.and_eq_true, Bool.or_eq_true, Option.some.injEq, Int.not_lt, Int.not_le, lp95_1, hlt, len_LA]
    simp

end Go.Proofs.YtgohohiaaiogcaaDoor.Vm
