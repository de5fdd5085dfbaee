/- What is proved: what each function of this program computes, as equations on the evaluator. No condition. -/
import Derived.Test.YtpmbfgogpcjdlaaDoorLib
import Derived.Test.YtpmbfgogpcjdlaaDoorSy
import Derived.KernelRfl
set_option linter.all false
namespace Go.Proofs.YtpmbfgogpcjdlaaDoor.Vm
open Go Go.Ev
set_option maxRecDepth 100000
attribute [local go_sem] cells_any storable_any ren1_any shaped_ptr cells_ptr storable_ptr ren1_ptr shaped_eptr cells_eptr storable_eptr ren1_eptr shaped_rsl cells_rsl storable_rsl ren1_rsl shaped_int cells_int storable_int ren1_int shaped_bool cells_bool storable_bool ren1_bool shaped_nils cells_nils storable_nils ren1_nils shaped_lst cells_lst storable_lst shaped_fn cells_fn storable_fn ren1_fn shaped_ifc cells_ifc storable_ifc ren1_ifc shaped_agg cells_agg storable_agg ren1_agg shaped_tup cells_tup storable_tup ren1_tup shaped_nif cells_nif storable_nif ren1_nif ren1_lany ren1_lfull ren1_lown len_lst len_rsl len_nil load_ptr load_eptr isRsl_lst isRsl_nil isRsl_rsl elems_nil elems_lst elems_sl isRsl_sl body_eq bodyK_normal bodyK_ret resK_some leaveK_some only_some code_skip code_exit code_ret code_ops code_seq code_cond code_block seqK_normal seqK_ret seqK_exit condK_true condK_false blockK_normal blockK_ret blockK_exit opsK_some ops_nil ops_cons wantK_true wantK_false stepK_some pubs pub pub_sl params okRef_loc storable_loc shaped_loc cells_loc isRsl_loc elems_loc len_loc untips untip untip_sl wantedAV setElems withO isAgg_v isAgg_agg isAgg_lst isAgg_ptr isAgg_fn isAgg_ifc isAgg_rsl isAgg_sl isAgg_loc List.replicate_succ List.replicate_zero opAV valAV aval avals ofVal Env.get setD canon gcAV renAll renEnv renStore renCells ren1_sl cutSt okEnv okStore okRefs okRef okRef_sl bin_int bin_bool bin_lst bin_rsl bin_nil bin_agg cellsEq cellEq isShift intOp boolOp min_int max_int beq_int bne resAV tupAV leave_eq fin_sl fin_loc fins fin_v fin_lst fin_agg fin_tup fin_fn storeAV readCells putCells cells_sl shaped_sl storable_sl fieldAddrAV len_sl goI List.getElem?_cons_zero List.getElem?_cons_succ List.getElem?_nil Option.bind_some Option.map_some List.length_cons List.length_nil List.all_cons List.all_nil Bool.and_true Bool.true_and Bool.and_false Bool.false_and and_true true_and and_false false_and Bool.false_eq_true List.set_cons_zero List.set_cons_succ List.append_nil List.nil_append List.cons_append List.take_zero List.take_succ_cons List.take_nil List.drop_zero List.drop_succ_cons List.map_cons List.map_nil decide_true decide_false beq_self_eq_true Bool.not_true Bool.not_false or_true true_or or_false false_or Nat.zero_add Nat.add_zero Nat.le_refl Nat.lt_irrefl decide_eq_true_eq eq_self_iff_true not_true_eq_false not_false_eq_true List.getD_cons_zero code_loop Nat.zero_le Nat.not_lt_zero Bool.true_beq Bool.false_beq beq_true beq_false ge_iff_le gt_iff_lt Lpure pus Option.map_none assert_ifc assert_nil idxA_ptr idxA_eptr idxV_agg Int.cast_ofNat_Int Nat.mul_one Nat.zero_mul Int.toNat_natCast Int.toNat_zero setParts withO2 hasKey eqnil_sl nenil_sl eqnil_loc nenil_loc map_nil_iff okRefs_ints renCells_ints

abbrev prAV (a : Int × Int) : AV := .agg [I a.1, I a.2]
abbrev bkAV (nl : Bool) (n : Int) (ps : List (Int × Int)) : AV := .agg [I n, sl 2 nl (ps.map prAV)]
abbrev bkCells (nl : Bool) (n : Int) (ps : List (Int × Int)) : List AV := [I n, sl 2 nl (ps.map prAV)]

theorem succ64 (i : Nat) (h : i < 1000000) : IntKind.i64.wrap ((i : Int) + 1) = ((i + 1 : Nat) : Int) := by
  rw [wrap64] <;> omega
theorem index_prs (nl : Bool) (ps : List (Int × Int)) (i : Nat) (h : i < ps.length) : indexSAV 2 (sl 2 nl (ps.map prAV)) (.v (.int .i64 i)) = some (.eptr (.agg [.v (.int .i64 ps[i].1), .v (.int .i64 ps[i].2)]) 0) := by
  rw [index_sl _ _ _ _ _ (by omega) (by simpa using h)]
  simp
theorem index_ints (nl : Bool) (l : List Int) (i : Nat) (h : i < l.length) : indexSAV 1 (sl 1 nl (l.map I)) (.v (.int .i64 i)) = some (.eptr (I l[i]) 0) := by
  rw [index_sl _ _ _ _ _ (by omega) (by simpa using h)]
  simp
theorem slice_prs (nl : Bool) (ps : List (Int × Int)) (i : Nat) (h : i < ps.length) : sliceAV 2 (sl 2 nl (ps.map prAV)) none (some (.v (.int .i64 i))) none = some (sl 2 false ((ps.take i).map prAV)) := by
  have e : sl 2 nl (ps.map prAV) = .lst .any 2 (ps.map prAV) := by
    unfold sl; rw [if_neg]; rintro ⟨_, h2⟩
    simp at h2; subst h2; simp at h
  rw [e]
  simp [sliceAV, natOr, natOf, tagSlice, sl, List.map_take]
  omega

theorem loop106 (nl : Bool) (ps : List (Int × Int)) (hlen : ps.length < 1000000) (p q : Int) (i : Nat) (hok : i ≤ ps.length) (env : Env) (st : St)
    (hg : gcAV true 1 0 (canon env [0, 3, 7, 8]) st = ([(0, sl 2 nl (ps.map prAV)), (3, .ptr 0 0), (7, I ps.length), (8, I i)], ⟨[[I p, I q]], []⟩)) :
    ∃ x_1 en s, lim (headed pure (run L) true [0, 3, 7, 8] lp106_0 1 0) env st = some (x_1, en, s) ∧ (if (p, q) ∈ ps.drop i then x_1 = .ret ∧ ∃ k : Int, 0 ≤ k ∧ en.get 4 = I k else x_1 = .exit 0) := by
  refine loop_wp (α := Nat) (fun i => ps.length - i) (fun i => i ≤ ps.length) (fun i => ([(0, sl 2 nl (ps.map prAV)), (3, .ptr 0 0), (7, I ps.length), (8, I i)], ⟨[[I p, I q]], []⟩)) (fun i x_1 en s => if (p, q) ∈ ps.drop i then x_1 = .ret ∧ ∃ k : Int, 0 ≤ k ∧ en.get 4 = I k else x_1 = .exit 0) (fun i hok => ?_) i hok env st hg
  by_cases h : i < ps.length
  · have hx := index_prs nl ps i h
    have hs := succ64 i (by omega)
    have hd : ps.drop i = ps[i] :: ps.drop (i + 1) := List.drop_eq_getElem_cons h
    rw [hd]
    generalize ps[i] = a at *
    obtain ⟨u, v⟩ := a
    have hlt : ((i : Int) < (ps.length : Int)) = True := eq_true (by omega)
    simp only at hx
    by_cases e1 : p = u
    · by_cases e2 : q = v
      · subst e1; subst e2
        simp only [go_sem, reduceIte, Nat.reduceEqDiff, Nat.reduceAdd, Nat.reduceSub, Nat.reduceLeDiff, Nat.reduceLT, reduceCtorEq, Int.reduceLT, Int.reduceLE, Int.reduceEq, Int.reduceBEq, Int.reduceSub, Int.reduceAdd, Int.reduceMul, Int.reduceNeg, Int.reduceToNat, Nat.reduceMul, Nat.reduceBEq, index_rsl_if, setm, make_ints, condK_dec, wantK_dec, not_dec, and_dec, or_dec, seqK_ite, seqK_none, blockK_ite, blockK_none, opsK_ite, opsK_none, stepK_ite, stepK_none, bodyK_ite, bodyK_none, resK_ite, resK_none, leaveK_ite, leaveK_none, only_ite, only_none, bind_ite, gives_some, gives_none, gives_ite, then_normal, then_ret, then_exit, then_none, then_ite, Option.bind_none, Bool.not_eq_true', decide_eq_false_iff_not, Bool.and_eq_true, Bool.or_eq_true, Option.some.injEq, Int.not_lt, Int.not_le, lp106_0, hx, hlt]
        rw [if_pos (by simp)]
        exact ⟨(i : Int), by omega, rfl⟩
      · simp only [go_sem, reduceIte, Nat.reduceEqDiff, Nat.reduceAdd, Nat.reduceSub, Nat.reduceLeDiff, Nat.reduceLT, reduceCtorEq, Int.reduceLT, Int.reduceLE, Int.reduceEq, Int.reduceBEq, Int.reduceSub, Int.reduceAdd, Int.reduceMul, Int.reduceNeg, Int.reduceToNat, Nat.reduceMul, Nat.reduceBEq, index_rsl_if, setm, make_ints, condK_dec, wantK_dec, not_dec, and_dec, or_dec, seqK_ite, seqK_none, blockK_ite, blockK_none, opsK_ite, opsK_none, stepK_ite, stepK_none, bodyK_ite, bodyK_none, resK_ite, resK_none, leaveK_ite, leaveK_none, only_ite, only_none, bind_ite, gives_some, gives_none, gives_ite, then_normal, then_ret, then_exit, then_none, then_ite, Option.bind_none, Bool.not_eq_true', decide_eq_false_iff_not, Bool.and_eq_true, Bool.or_eq_true, Option.some.injEq, Int.not_lt, Int.not_le, lp106_0, hx, hlt, e1, e2, hs]
        refine ⟨i + 1, by simp only [go_sem, reduceIte, Nat.reduceEqDiff, Nat.reduceAdd, Nat.reduceSub, Nat.reduceLeDiff, Nat.reduceLT, reduceCtorEq, Int.reduceLT, Int.reduceLE, Int.reduceEq, Int.reduceBEq, Int.reduceSub, Int.reduceAdd, Int.reduceMul, Int.reduceNeg, Int.reduceToNat, Nat.reduceMul, Nat.reduceBEq, ren1_locm, loc_tips, locT_eq] <;> rfl, ?_, ?_, fun x en s hq => ?_⟩
        · omega
        · omega
        · simp only [List.mem_cons, Prod.mk.injEq, e2, and_false, false_or]; exact hq
    · simp only [go_sem, reduceIte, Nat.reduceEqDiff, Nat.reduceAdd, Nat.reduceSub, Nat.reduceLeDiff, Nat.reduceLT, reduceCtorEq, Int.reduceLT, Int.reduceLE, Int.reduceEq, Int.reduceBEq, Int.reduceSub, Int.reduceAdd, Int.reduceMul, Int.reduceNeg, Int.reduceToNat, Nat.reduceMul, Nat.reduceBEq, index_rsl_if, setm, make_ints, condK_dec, wantK_dec, not_dec, and_dec, or_dec, seqK_ite, seqK_none, blockK_ite, blockK_none, opsK_ite, opsK_none, stepK_ite, stepK_none, bodyK_ite, bodyK_none, resK_ite, resK_none, leaveK_ite, leaveK_none, only_ite, only_none, bind_ite, gives_some, gives_none, gives_ite, then_normal, then_ret, then_exit, then_none, then_ite, Option.bind_none, Bool.not_eq_true', decide_eq_false_iff_not, Bool.and_eq_true, Bool.or_eq_true, Option.some.injEq, Int.not_lt, Int.not_le, lp106_0, hx, hlt, e1, hs]
      refine ⟨i + 1, by simp only [go_sem, reduceIte, Nat.reduceEqDiff, Nat.reduceAdd, Nat.reduceSub, Nat.reduceLeDiff, Nat.reduceLT, reduceCtorEq, Int.reduceLT, Int.reduceLE, Int.reduceEq, Int.reduceBEq, Int.reduceSub, Int.reduceAdd, Int.reduceMul, Int.reduceNeg, Int.reduceToNat, Nat.reduceMul, Nat.reduceBEq, ren1_locm, loc_tips, locT_eq] <;> rfl, ?_, ?_, fun x en s hq => ?_⟩
      · omega
      · omega
      · simp only [List.mem_cons, Prod.mk.injEq, e1, false_and, false_or]; exact hq
  · have hd : ps.drop i = [] := List.drop_eq_nil_of_le (by omega)
    have hlt : ((i : Int) < (ps.length : Int)) = False := eq_false (by omega)
    simp only [go_sem, reduceIte, Nat.reduceEqDiff, Nat.reduceAdd, Nat.reduceSub, Nat.reduceLeDiff, Nat.reduceLT, reduceCtorEq, Int.reduceLT, Int.reduceLE, Int.reduceEq, Int.reduceBEq, Int.reduceSub, Int.reduceAdd, Int.reduceMul, Int.reduceNeg, Int.reduceToNat, Nat.reduceMul, Nat.reduceBEq, index_rsl_if, setm, make_ints, condK_dec, wantK_dec, not_dec, and_dec, or_dec, seqK_ite, seqK_none, blockK_ite, blockK_none, opsK_ite, opsK_none, stepK_ite, stepK_none, bodyK_ite, bodyK_none, resK_ite, resK_none, leaveK_ite, leaveK_none, only_ite, only_none, bind_ite, gives_some, gives_none, gives_ite, then_normal, then_ret, then_exit, then_none, then_ite, Option.bind_none, Bool.not_eq_true', decide_eq_false_iff_not, Bool.and_eq_true, Bool.or_eq_true, Option.some.injEq, Int.not_lt, Int.not_le, lp106_0, hlt]
    rw [hd]; simp

theorem c76 (nl : Bool) (ps : List (Int × Int)) (hlen : ps.length < 1000000) (p q : Int) (st : St) :
    run L 76 [sl 2 nl (ps.map prAV), .agg [I p, I q]] st = some (B (decide ((p, q) ∈ ps)), st) := by
  have h106 : ∀ st, ∃ k : Int, run L 106 [sl 2 nl (ps.map prAV), .agg [I p, I q]] st = some (I k, st) ∧ (0 ≤ k ↔ (p, q) ∈ ps) := by
    intro st
    rw [run_pure (fn := ir106) rfl rfl]
    simp only [ir106, go_sem, reduceIte, Nat.reduceEqDiff, Nat.reduceAdd, Nat.reduceSub, Nat.reduceLeDiff, Nat.reduceLT, reduceCtorEq, Int.reduceLT, Int.reduceLE, Int.reduceEq, Int.reduceBEq, Int.reduceSub, Int.reduceAdd, Int.reduceMul, Int.reduceNeg, Int.reduceToNat, Nat.reduceMul, Nat.reduceBEq, List.length_map]
    generalize hg : lim (headed pure (run L) true _ lp106_0 _ _) _ _ = o
    obtain ⟨x, en, s, rfl, h2⟩ : ∃ x en s, o = some (x, en, s) ∧ _ := by rw [← hg]; exact loop106 nl ps hlen p q 0 (by omega) _ _ (by simp only [go_sem, reduceIte, Nat.reduceEqDiff, Nat.reduceAdd, Nat.reduceSub, Nat.reduceLeDiff, Nat.reduceLT, reduceCtorEq, Int.reduceLT, Int.reduceLE, Int.reduceEq, Int.reduceBEq, Int.reduceSub, Int.reduceAdd, Int.reduceMul, Int.reduceNeg, Int.reduceToNat, Nat.reduceMul, Nat.reduceBEq] <;> rfl)
    clear hg
    rw [List.drop_zero] at h2
    by_cases h : (p, q) ∈ ps
    · rw [if_pos h] at h2
      obtain ⟨rfl, k, hk, h3⟩ := h2
      exact ⟨k, by simp only [go_sem, reduceIte, Nat.reduceEqDiff, Nat.reduceAdd, Nat.reduceSub, Nat.reduceLeDiff, Nat.reduceLT, reduceCtorEq, Int.reduceLT, Int.reduceLE, Int.reduceEq, Int.reduceBEq, Int.reduceSub, Int.reduceAdd, Int.reduceMul, Int.reduceNeg, Int.reduceToNat, Nat.reduceMul, Nat.reduceBEq, h3], by simp [h, hk]⟩
    · rw [if_neg h] at h2
      subst h2
      exact ⟨-1, by simp only [go_sem, reduceIte, Nat.reduceEqDiff, Nat.reduceAdd, Nat.reduceSub, Nat.reduceLeDiff, Nat.reduceLT, reduceCtorEq, Int.reduceLT, Int.reduceLE, Int.reduceEq, Int.reduceBEq, Int.reduceSub, Int.reduceAdd, Int.reduceMul, Int.reduceNeg, Int.reduceToNat, Nat.reduceMul, Nat.reduceBEq], by simp [h]⟩
  rw [run_pure (fn := ir76) rfl rfl]
  obtain ⟨k, h1, h2⟩ := h106 ⟨[[I p, I q]], []⟩
  simp only [ir76, go_sem, reduceIte, Nat.reduceEqDiff, Nat.reduceAdd, Nat.reduceSub, Nat.reduceLeDiff, Nat.reduceLT, reduceCtorEq, Int.reduceLT, Int.reduceLE, Int.reduceEq, Int.reduceBEq, Int.reduceSub, Int.reduceAdd, Int.reduceMul, Int.reduceNeg, Int.reduceToNat, Nat.reduceMul, Nat.reduceBEq, h1, h2]


/-- What is wrong with a pair behind others; with pairs; with a book. -/
def prErr (n : Int) (seen : List (Int × Int)) (p : Int × Int) : Int := if p.1 < 0 ∨ p.2 < 0 ∨ n ≤ p.1 ∨ n ≤ p.2 then 2 else if p.2 ≤ p.1 then 7 else if p ∈ seen then 6 else 0
def prsErr (n : Int) : List (Int × Int) → List (Int × Int) → Int
  | _, [] => 0
  | seen, p :: r => if prErr n seen p = 0 then prsErr n (seen ++ [p]) r else prErr n seen p
def chk (n : Int) (ps : List (Int × Int)) : Int := if n < 1 ∨ 7 < n then 1 else if 10 < ps.length then 3 else prsErr n [] ps

theorem loop22 (nl : Bool) (n : Int) (hn : 1 ≤ n ∧ n ≤ 7) (ps : List (Int × Int)) (hlen : ps.length ≤ 10) (i : Nat) (hok : i ≤ ps.length) (env : Env) (st : St)
    (hg : gcAV true 1 0 (canon env [1, 20, 21, 22]) st = ([(1, .ptr 0 0), (20, sl 2 nl (ps.map prAV)), (21, I ps.length), (22, I i)], ⟨[bkCells nl n ps], []⟩)) :
    ∃ x_1 en s, lim (headed pure (run L) true [1, 20, 21, 22] lp22_0 1 0) env st = some (x_1, en, s) ∧ (if prsErr n (ps.take i) (ps.drop i) = 0 then x_1 = .exit 1 else x_1 = .ret ∧ en.get 2 = I (prsErr n (ps.take i) (ps.drop i))) := by
  refine loop_wp (α := Nat) (fun i => ps.length - i) (fun i => i ≤ ps.length) (fun i => ([(1, .ptr 0 0), (20, sl 2 nl (ps.map prAV)), (21, I ps.length), (22, I i)], ⟨[bkCells nl n ps], []⟩)) (fun i x_1 en s => if prsErr n (ps.take i) (ps.drop i) = 0 then x_1 = .exit 1 else x_1 = .ret ∧ en.get 2 = I (prsErr n (ps.take i) (ps.drop i))) (fun i hok => ?_) i hok env st hg
  by_cases h : i < ps.length
  · have hx := index_prs nl ps i h
    have hs := succ64 i (by omega)
    have hd : ps.drop i = ps[i] :: ps.drop (i + 1) := List.drop_eq_getElem_cons h
    have ht : ps.take (i + 1) = ps.take i ++ [ps[i]] := by rw [List.take_succ_eq_append_getElem h]
    have hsl := slice_prs nl ps i h
    have h76 := fun p q st => c76 false (ps.take i) (by rw [List.length_take]; omega) p q st
    rw [hd]
    generalize ps[i] = c at *
    obtain ⟨u, v⟩ := c
    have hlt : ((i : Int) < (ps.length : Int)) = True := eq_true (by omega)
    simp only at hx
    have hmn : (if v < u then v else u) = min u v := by rw [Int.min_def]; split <;> split <;> omega
    have hmx : (if u < v then v else u) = max u v := by rw [Int.max_def]; split <;> split <;> omega
    by_cases p1 : min u v < 0
    · have he : prErr n (ps.take i) (u, v) = 2 := by unfold prErr; simp only; rw [if_pos (by omega)]
      simp only [go_sem, reduceIte, Nat.reduceEqDiff, Nat.reduceAdd, Nat.reduceSub, Nat.reduceLeDiff, Nat.reduceLT, reduceCtorEq, Int.reduceLT, Int.reduceLE, Int.reduceEq, Int.reduceBEq, Int.reduceSub, Int.reduceAdd, Int.reduceMul, Int.reduceNeg, Int.reduceToNat, Nat.reduceMul, Nat.reduceBEq, index_rsl_if, setm, make_ints, condK_dec, wantK_dec, not_dec, and_dec, or_dec, seqK_ite, seqK_none, blockK_ite, blockK_none, opsK_ite, opsK_none, stepK_ite, stepK_none, bodyK_ite, bodyK_none, resK_ite, resK_none, leaveK_ite, leaveK_none, only_ite, only_none, bind_ite, gives_some, gives_none, gives_ite, then_normal, then_ret, then_exit, then_none, then_ite, Option.bind_none, Bool.not_eq_true', decide_eq_false_iff_not, Bool.and_eq_true, Bool.or_eq_true, Option.some.injEq, Int.not_lt, Int.not_le, lp22_0, hx, hlt, p1, hmn, hmx, List.length_map]
      simp [prsErr, he]
    by_cases p1b : n ≤ max u v
    · have he : prErr n (ps.take i) (u, v) = 2 := by unfold prErr; simp only; rw [if_pos (by omega)]
      simp only [go_sem, reduceIte, Nat.reduceEqDiff, Nat.reduceAdd, Nat.reduceSub, Nat.reduceLeDiff, Nat.reduceLT, reduceCtorEq, Int.reduceLT, Int.reduceLE, Int.reduceEq, Int.reduceBEq, Int.reduceSub, Int.reduceAdd, Int.reduceMul, Int.reduceNeg, Int.reduceToNat, Nat.reduceMul, Nat.reduceBEq, index_rsl_if, setm, make_ints, condK_dec, wantK_dec, not_dec, and_dec, or_dec, seqK_ite, seqK_none, blockK_ite, blockK_none, opsK_ite, opsK_none, stepK_ite, stepK_none, bodyK_ite, bodyK_none, resK_ite, resK_none, leaveK_ite, leaveK_none, only_ite, only_none, bind_ite, gives_some, gives_none, gives_ite, then_normal, then_ret, then_exit, then_none, then_ite, Option.bind_none, Bool.not_eq_true', decide_eq_false_iff_not, Bool.and_eq_true, Bool.or_eq_true, Option.some.injEq, Int.not_lt, Int.not_le, lp22_0, hx, hlt, p1, p1b, hmn, hmx, List.length_map]
      simp [prsErr, he]
    by_cases p2 : v ≤ u
    · have he : prErr n (ps.take i) (u, v) = 7 := by unfold prErr; simp only; rw [if_neg (by omega), if_pos p2]
      simp only [go_sem, reduceIte, Nat.reduceEqDiff, Nat.reduceAdd, Nat.reduceSub, Nat.reduceLeDiff, Nat.reduceLT, reduceCtorEq, Int.reduceLT, Int.reduceLE, Int.reduceEq, Int.reduceBEq, Int.reduceSub, Int.reduceAdd, Int.reduceMul, Int.reduceNeg, Int.reduceToNat, Nat.reduceMul, Nat.reduceBEq, index_rsl_if, setm, make_ints, condK_dec, wantK_dec, not_dec, and_dec, or_dec, seqK_ite, seqK_none, blockK_ite, blockK_none, opsK_ite, opsK_none, stepK_ite, stepK_none, bodyK_ite, bodyK_none, resK_ite, resK_none, leaveK_ite, leaveK_none, only_ite, only_none, bind_ite, gives_some, gives_none, gives_ite, then_normal, then_ret, then_exit, then_none, then_ite, Option.bind_none, Bool.not_eq_true', decide_eq_false_iff_not, Bool.and_eq_true, Bool.or_eq_true, Option.some.injEq, Int.not_lt, Int.not_le, lp22_0, hx, hlt, p1, p1b, hmn, hmx, p2, List.length_map]
      simp [prsErr, he]
    · by_cases p3 : (u, v) ∈ ps.take i
      · have he : prErr n (ps.take i) (u, v) = 6 := by unfold prErr; simp only; rw [if_neg (by omega), if_neg p2, if_pos p3]
        simp only [go_sem, reduceIte, Nat.reduceEqDiff, Nat.reduceAdd, Nat.reduceSub, Nat.reduceLeDiff, Nat.reduceLT, reduceCtorEq, Int.reduceLT, Int.reduceLE, Int.reduceEq, Int.reduceBEq, Int.reduceSub, Int.reduceAdd, Int.reduceMul, Int.reduceNeg, Int.reduceToNat, Nat.reduceMul, Nat.reduceBEq, index_rsl_if, setm, make_ints, condK_dec, wantK_dec, not_dec, and_dec, or_dec, seqK_ite, seqK_none, blockK_ite, blockK_none, opsK_ite, opsK_none, stepK_ite, stepK_none, bodyK_ite, bodyK_none, resK_ite, resK_none, leaveK_ite, leaveK_none, only_ite, only_none, bind_ite, gives_some, gives_none, gives_ite, then_normal, then_ret, then_exit, then_none, then_ite, Option.bind_none, Bool.not_eq_true', decide_eq_false_iff_not, Bool.and_eq_true, Bool.or_eq_true, Option.some.injEq, Int.not_lt, Int.not_le, lp22_0, hx, hlt, p1, p1b, hmn, hmx, p2, hsl, h76, p3, List.length_map]
        simp [prsErr, he]
      · have he : prErr n (ps.take i) (u, v) = 0 := by unfold prErr; simp only; rw [if_neg (by omega), if_neg p2, if_neg p3]
        simp only [go_sem, reduceIte, Nat.reduceEqDiff, Nat.reduceAdd, Nat.reduceSub, Nat.reduceLeDiff, Nat.reduceLT, reduceCtorEq, Int.reduceLT, Int.reduceLE, Int.reduceEq, Int.reduceBEq, Int.reduceSub, Int.reduceAdd, Int.reduceMul, Int.reduceNeg, Int.reduceToNat, Nat.reduceMul, Nat.reduceBEq, index_rsl_if, setm, make_ints, condK_dec, wantK_dec, not_dec, and_dec, or_dec, seqK_ite, seqK_none, blockK_ite, blockK_none, opsK_ite, opsK_none, stepK_ite, stepK_none, bodyK_ite, bodyK_none, resK_ite, resK_none, leaveK_ite, leaveK_none, only_ite, only_none, bind_ite, gives_some, gives_none, gives_ite, then_normal, then_ret, then_exit, then_none, then_ite, Option.bind_none, Bool.not_eq_true', decide_eq_false_iff_not, Bool.and_eq_true, Bool.or_eq_true, Option.some.injEq, Int.not_lt, Int.not_le, lp22_0, hx, hlt, p1, p1b, hmn, hmx, p2, hsl, h76, p3, hs, List.length_map]
        refine ⟨i + 1, by simp only [go_sem, reduceIte, Nat.reduceEqDiff, Nat.reduceAdd, Nat.reduceSub, Nat.reduceLeDiff, Nat.reduceLT, reduceCtorEq, Int.reduceLT, Int.reduceLE, Int.reduceEq, Int.reduceBEq, Int.reduceSub, Int.reduceAdd, Int.reduceMul, Int.reduceNeg, Int.reduceToNat, Nat.reduceMul, Nat.reduceBEq, ren1_locm, loc_tips, locT_eq] <;> rfl, ?_, ?_, fun x en s hq => ?_⟩
        · omega
        · omega
        · have e2 : prsErr n (ps.take i) ((u, v) :: ps.drop (i + 1)) = prsErr n (ps.take (i + 1)) (ps.drop (i + 1)) := by simp only [prsErr, he, if_true, ht]
          rw [e2]; exact hq
  · have hd : ps.drop i = [] := List.drop_eq_nil_of_le (by omega)
    have hlt : ((i : Int) < (ps.length : Int)) = False := eq_false (by omega)
    simp only [go_sem, reduceIte, Nat.reduceEqDiff, Nat.reduceAdd, Nat.reduceSub, Nat.reduceLeDiff, Nat.reduceLT, reduceCtorEq, Int.reduceLT, Int.reduceLE, Int.reduceEq, Int.reduceBEq, Int.reduceSub, Int.reduceAdd, Int.reduceMul, Int.reduceNeg, Int.reduceToNat, Nat.reduceMul, Nat.reduceBEq, index_rsl_if, setm, make_ints, condK_dec, wantK_dec, not_dec, and_dec, or_dec, seqK_ite, seqK_none, blockK_ite, blockK_none, opsK_ite, opsK_none, stepK_ite, stepK_none, bodyK_ite, bodyK_none, resK_ite, resK_none, leaveK_ite, leaveK_none, only_ite, only_none, bind_ite, gives_some, gives_none, gives_ite, then_normal, then_ret, then_exit, then_none, then_ite, Option.bind_none, Bool.not_eq_true', decide_eq_false_iff_not, Bool.and_eq_true, Bool.or_eq_true, Option.some.injEq, Int.not_lt, Int.not_le, lp22_0, hlt, List.length_map]
    rw [hd]; simp [prsErr]

theorem c22 (nl : Bool) (n : Int) (ps : List (Int × Int)) (st : St) :
    run L 22 [bkAV nl n ps] st = some (I (chk n ps), st) := by
  rw [run_pure (fn := ir22) rfl rfl]
  unfold chk
  by_cases p0 : n < 1 ∨ 7 < n
  · rw [if_pos p0]
    by_cases a : n < 1
    · simp only [ir22, go_sem, reduceIte, Nat.reduceEqDiff, Nat.reduceAdd, Nat.reduceSub, Nat.reduceLeDiff, Nat.reduceLT, reduceCtorEq, Int.reduceLT, Int.reduceLE, Int.reduceEq, Int.reduceBEq, Int.reduceSub, Int.reduceAdd, Int.reduceMul, Int.reduceNeg, Int.reduceToNat, Nat.reduceMul, Nat.reduceBEq, a]
    · simp only [ir22, go_sem, reduceIte, Nat.reduceEqDiff, Nat.reduceAdd, Nat.reduceSub, Nat.reduceLeDiff, Nat.reduceLT, reduceCtorEq, Int.reduceLT, Int.reduceLE, Int.reduceEq, Int.reduceBEq, Int.reduceSub, Int.reduceAdd, Int.reduceMul, Int.reduceNeg, Int.reduceToNat, Nat.reduceMul, Nat.reduceBEq, a, show (7 < n) = True from eq_true (by omega)]
  · rw [if_neg p0]
    by_cases p1 : 10 < ps.length
    · have q1 : ((10 : Int) < (ps.length : Int)) = True := eq_true (by omega)
      rw [if_pos p1]
      simp only [ir22, go_sem, reduceIte, Nat.reduceEqDiff, Nat.reduceAdd, Nat.reduceSub, Nat.reduceLeDiff, Nat.reduceLT, reduceCtorEq, Int.reduceLT, Int.reduceLE, Int.reduceEq, Int.reduceBEq, Int.reduceSub, Int.reduceAdd, Int.reduceMul, Int.reduceNeg, Int.reduceToNat, Nat.reduceMul, Nat.reduceBEq, show (n < 1) = False from eq_false (by omega), show (7 < n) = False from eq_false (by omega), q1, List.length_map]
    · have q1 : ((10 : Int) < (ps.length : Int)) = False := eq_false (by omega)
      rw [if_neg p1]
      simp only [ir22, go_sem, reduceIte, Nat.reduceEqDiff, Nat.reduceAdd, Nat.reduceSub, Nat.reduceLeDiff, Nat.reduceLT, reduceCtorEq, Int.reduceLT, Int.reduceLE, Int.reduceEq, Int.reduceBEq, Int.reduceSub, Int.reduceAdd, Int.reduceMul, Int.reduceNeg, Int.reduceToNat, Nat.reduceMul, Nat.reduceBEq, show (n < 1) = False from eq_false (by omega), show (7 < n) = False from eq_false (by omega), q1, List.length_map]
      generalize hg : lim (headed pure (run L) true _ lp22_0 _ _) _ _ = o
      obtain ⟨x, en, s, rfl, h2⟩ : ∃ x en s, o = some (x, en, s) ∧ _ := by rw [← hg]; exact loop22 nl n (by omega) ps (by omega) 0 (by omega) _ _ (by simp only [go_sem, reduceIte, Nat.reduceEqDiff, Nat.reduceAdd, Nat.reduceSub, Nat.reduceLeDiff, Nat.reduceLT, reduceCtorEq, Int.reduceLT, Int.reduceLE, Int.reduceEq, Int.reduceBEq, Int.reduceSub, Int.reduceAdd, Int.reduceMul, Int.reduceNeg, Int.reduceToNat, Nat.reduceMul, Nat.reduceBEq] <;> rfl)
      clear hg
      simp only [List.drop_zero, List.take_zero] at h2
      by_cases h : prsErr n [] ps = 0
      · rw [if_pos h] at h2
        subst h2
        simp only [go_sem, reduceIte, Nat.reduceEqDiff, Nat.reduceAdd, Nat.reduceSub, Nat.reduceLeDiff, Nat.reduceLT, reduceCtorEq, Int.reduceLT, Int.reduceLE, Int.reduceEq, Int.reduceBEq, Int.reduceSub, Int.reduceAdd, Int.reduceMul, Int.reduceNeg, Int.reduceToNat, Nat.reduceMul, Nat.reduceBEq, h]
      · rw [if_neg h] at h2
        obtain ⟨rfl, h3⟩ := h2
        simp only [go_sem, reduceIte, Nat.reduceEqDiff, Nat.reduceAdd, Nat.reduceSub, Nat.reduceLeDiff, Nat.reduceLT, reduceCtorEq, Int.reduceLT, Int.reduceLE, Int.reduceEq, Int.reduceBEq, Int.reduceSub, Int.reduceAdd, Int.reduceMul, Int.reduceNeg, Int.reduceToNat, Nat.reduceMul, Nat.reduceBEq, h3]


abbrev U (n : Nat) : AV := .v (.int .u64 n)

theorem wrapU (n : Nat) (h : n < 2 ^ 64) : IntKind.u64.wrap (n : Int) = n := by
  simp [IntKind.wrap, IntKind.bits, IntKind.signed]; omega
theorem shrU (m p : Nat) (h : p < 64) : Int.fdiv (m : Int) (2 ^ min p 64) = ((m >>> p : Nat) : Int) := by
  have e : min p 64 = p := by omega
  have e2 : ((2 : Int) ^ p) = ((2 ^ p : Nat) : Int) := by simp
  rw [e, e2, Int.fdiv_eq_ediv_of_nonneg _ (Int.natCast_nonneg _), Nat.shiftRight_eq_div_pow]
  simp
theorem and_one (n : Nat) : binAV .and none (.v (.int .u64 (n : Int))) (.v (.int .u64 1)) = some (.v (.int .u64 ((n % 2 : Nat) : Int))) := by
  have h : (BitVec.ofInt 64 (n : Int) &&& BitVec.ofInt 64 1).toNat = n % 2 := by
    rw [BitVec.toNat_and]
    have : (BitVec.ofInt 64 1).toNat = 1 := by decide
    rw [this, Nat.and_one_is_mod, BitVec.ofInt_natCast, BitVec.toNat_ofNat]
    omega
  show some (AV.v (.int .u64 (IntKind.u64.wrap ((BitVec.ofInt 64 (n : Int) &&& BitVec.ofInt 64 1).toNat : Int)))) = _
  rw [h, wrapU _ (by omega)]
theorem shr_u (m p : Nat) : binAV .shr none (.v (.int .u64 (m : Int))) (.v (.int .i64 (p : Int))) = some (.v (.int .u64 ((m >>> min p 64 : Nat) : Int))) := by
  have e := shrU m (min p 64)
  show (if (p : Int) < 0 then none else some (AV.v (.int .u64 (Int.fdiv (m : Int) (2 ^ min (Int.toNat (p : Int)) 64))))) = _
  rw [if_neg (by omega), Int.toNat_natCast]
  have e2 : ((2 : Int) ^ (min p 64)) = ((2 ^ (min p 64) : Nat) : Int) := by simp
  rw [e2, Int.fdiv_eq_ediv_of_nonneg _ (Int.natCast_nonneg _), Nat.shiftRight_eq_div_pow]
  simp
theorem min64 (p : Nat) (h : p < 64) : min p 64 = p := by omega
attribute [local go_sem high] and_one shr_u
theorem bit_zero (m p : Nat) : ((((m >>> p) % 2 : Nat) : Int) = 0) = (m.testBit p = false) := by
  rw [Nat.testBit_eq_decide_div_mod_eq, Nat.shiftRight_eq_div_pow]
  generalize m / 2 ^ p = k
  have : k % 2 < 2 := Nat.mod_lt _ (by omega)
  rw [decide_eq_false_iff_not]
  exact propext (by omega)

attribute [local go_sem high] and_one shr_u

/-- Both articles of a pair are among the first seven. -/
def okP (p : Int × Int) : Prop := 0 ≤ p.1 ∧ p.1 < 7 ∧ 0 ≤ p.2 ∧ p.2 < 7
/-! ### comparing -/
theorem c127 (a : Int) (st : St) : run L 127 [I a] st = some (B false, st) := by
  rw [run_pure (fn := ir127) rfl rfl]
  simp only [ir127, go_sem, reduceIte, Nat.reduceEqDiff, Nat.reduceAdd, Nat.reduceSub, Nat.reduceLeDiff, Nat.reduceLT, reduceCtorEq, Int.reduceLT, Int.reduceLE, Int.reduceEq, Int.reduceBEq, Int.reduceSub, Int.reduceAdd, Int.reduceMul, Int.reduceNeg, Int.reduceToNat, Nat.reduceMul, Nat.reduceBEq]
theorem c102 (a b : Int) (st : St) : run L 102 [I a, I b] st = some (I (if a < b then -1 else if b < a then 1 else 0), st) := by
  rw [run_pure (fn := ir102) rfl rfl]
  by_cases h1 : a < b
  · simp only [ir102, go_sem, reduceIte, Nat.reduceEqDiff, Nat.reduceAdd, Nat.reduceSub, Nat.reduceLeDiff, Nat.reduceLT, reduceCtorEq, Int.reduceLT, Int.reduceLE, Int.reduceEq, Int.reduceBEq, Int.reduceSub, Int.reduceAdd, Int.reduceMul, Int.reduceNeg, Int.reduceToNat, Nat.reduceMul, Nat.reduceBEq, c127, h1]
  · by_cases h2 : b < a <;> simp only [ir102, go_sem, reduceIte, Nat.reduceEqDiff, Nat.reduceAdd, Nat.reduceSub, Nat.reduceLeDiff, Nat.reduceLT, reduceCtorEq, Int.reduceLT, Int.reduceLE, Int.reduceEq, Int.reduceBEq, Int.reduceSub, Int.reduceAdd, Int.reduceMul, Int.reduceNeg, Int.reduceToNat, Nat.reduceMul, Nat.reduceBEq, c127, h1, h2]

/-- Is a list ahead of another one? -/
def lexLt : List Int → List Int → Bool
  | [], [] => false
  | [], _ :: _ => true
  | _ :: _, [] => false
  | a :: r, b :: s => decide (a < b) || (decide (a = b) && lexLt r s)

theorem loop69 (n1 n2 : Bool) (xs ys : List Int) (hlen : xs.length < 1000000) (i : Nat) (hok : i ≤ xs.length ∧ i ≤ ys.length) (env : Env) (st : St)
    (hg : gcAV true 0 0 (canon env [0, 1, 9, 10, 11]) st = ([(0, sl 1 n1 (xs.map I)), (1, sl 1 n2 (ys.map I)), (9, sl 1 n1 (xs.map I)), (10, I xs.length), (11, I i)], ⟨[], []⟩)) :
    ∃ x_1 en s, lim (headed pure (run L) true [0, 1, 9, 10, 11] lp69_0 0 0) env st = some (x_1, en, s) ∧ ((x_1 = .exit 0 ∧ en.get 0 = sl 1 n1 (xs.map I) ∧ en.get 1 = sl 1 n2 (ys.map I) ∧ lexLt (xs.drop i) (ys.drop i) = decide (xs.length < ys.length)) ∨ (x_1 = .ret ∧ ∃ k : Int, en.get 4 = I k ∧ lexLt (xs.drop i) (ys.drop i) = decide (k < 0))) := by
  refine loop_wp (α := Nat) (fun i => xs.length - i) (fun i => i ≤ xs.length ∧ i ≤ ys.length) (fun i => ([(0, sl 1 n1 (xs.map I)), (1, sl 1 n2 (ys.map I)), (9, sl 1 n1 (xs.map I)), (10, I xs.length), (11, I i)], ⟨[], []⟩)) (fun i x_1 en s => (x_1 = .exit 0 ∧ en.get 0 = sl 1 n1 (xs.map I) ∧ en.get 1 = sl 1 n2 (ys.map I) ∧ lexLt (xs.drop i) (ys.drop i) = decide (xs.length < ys.length)) ∨ (x_1 = .ret ∧ ∃ k : Int, en.get 4 = I k ∧ lexLt (xs.drop i) (ys.drop i) = decide (k < 0))) (fun i hok => ?_) i hok env st hg
  obtain ⟨hok1, hok2⟩ := hok
  by_cases h : i < xs.length
  · have hx := index_ints n1 xs i h
    have hs := succ64 i (by omega)
    have hd : xs.drop i = xs[i] :: xs.drop (i + 1) := List.drop_eq_getElem_cons h
    have hlt : ((i : Int) < (xs.length : Int)) = True := eq_true (by omega)
    rw [hd]
    by_cases h2 : i < ys.length
    · have hy := index_ints n2 ys i h2
      have hd2 : ys.drop i = ys[i] :: ys.drop (i + 1) := List.drop_eq_getElem_cons h2
      have hge : ((ys.length : Int) ≤ (i : Int)) = False := eq_false (by omega)
      rw [hd2]
      generalize xs[i] = a at *
      generalize ys[i] = b at *
      by_cases p1 : a < b
      · simp only [go_sem, reduceIte, Nat.reduceEqDiff, Nat.reduceAdd, Nat.reduceSub, Nat.reduceLeDiff, Nat.reduceLT, reduceCtorEq, Int.reduceLT, Int.reduceLE, Int.reduceEq, Int.reduceBEq, Int.reduceSub, Int.reduceAdd, Int.reduceMul, Int.reduceNeg, Int.reduceToNat, Nat.reduceMul, Nat.reduceBEq, index_rsl_if, setm, make_ints, condK_dec, wantK_dec, not_dec, and_dec, or_dec, seqK_ite, seqK_none, blockK_ite, blockK_none, opsK_ite, opsK_none, stepK_ite, stepK_none, bodyK_ite, bodyK_none, resK_ite, resK_none, leaveK_ite, leaveK_none, only_ite, only_none, bind_ite, gives_some, gives_none, gives_ite, then_normal, then_ret, then_exit, then_none, then_ite, Option.bind_none, Bool.not_eq_true', decide_eq_false_iff_not, Bool.and_eq_true, Bool.or_eq_true, Option.some.injEq, Int.not_lt, Int.not_le, lp69_0, hx, hy, hlt, hge, c102, p1, List.length_map]
        refine ⟨-1, rfl, ?_⟩
        simp [lexLt, p1]
      · by_cases p2 : b < a
        · simp only [go_sem, reduceIte, Nat.reduceEqDiff, Nat.reduceAdd, Nat.reduceSub, Nat.reduceLeDiff, Nat.reduceLT, reduceCtorEq, Int.reduceLT, Int.reduceLE, Int.reduceEq, Int.reduceBEq, Int.reduceSub, Int.reduceAdd, Int.reduceMul, Int.reduceNeg, Int.reduceToNat, Nat.reduceMul, Nat.reduceBEq, index_rsl_if, setm, make_ints, condK_dec, wantK_dec, not_dec, and_dec, or_dec, seqK_ite, seqK_none, blockK_ite, blockK_none, opsK_ite, opsK_none, stepK_ite, stepK_none, bodyK_ite, bodyK_none, resK_ite, resK_none, leaveK_ite, leaveK_none, only_ite, only_none, bind_ite, gives_some, gives_none, gives_ite, then_normal, then_ret, then_exit, then_none, then_ite, Option.bind_none, Bool.not_eq_true', decide_eq_false_iff_not, Bool.and_eq_true, Bool.or_eq_true, Option.some.injEq, Int.not_lt, Int.not_le, lp69_0, hx, hy, hlt, hge, c102, p1, p2, List.length_map]
          refine ⟨1, rfl, ?_⟩
          simp [lexLt, p1, show a ≠ b by omega]
        · obtain rfl : a = b := by omega
          simp only [go_sem, reduceIte, Nat.reduceEqDiff, Nat.reduceAdd, Nat.reduceSub, Nat.reduceLeDiff, Nat.reduceLT, reduceCtorEq, Int.reduceLT, Int.reduceLE, Int.reduceEq, Int.reduceBEq, Int.reduceSub, Int.reduceAdd, Int.reduceMul, Int.reduceNeg, Int.reduceToNat, Nat.reduceMul, Nat.reduceBEq, index_rsl_if, setm, make_ints, condK_dec, wantK_dec, not_dec, and_dec, or_dec, seqK_ite, seqK_none, blockK_ite, blockK_none, opsK_ite, opsK_none, stepK_ite, stepK_none, bodyK_ite, bodyK_none, resK_ite, resK_none, leaveK_ite, leaveK_none, only_ite, only_none, bind_ite, gives_some, gives_none, gives_ite, then_normal, then_ret, then_exit, then_none, then_ite, Option.bind_none, Bool.not_eq_true', decide_eq_false_iff_not, Bool.and_eq_true, Bool.or_eq_true, Option.some.injEq, Int.not_lt, Int.not_le, lp69_0, hx, hy, hlt, hge, c102, p1, hs, List.length_map]
          refine ⟨i + 1, by simp only [go_sem, reduceIte, Nat.reduceEqDiff, Nat.reduceAdd, Nat.reduceSub, Nat.reduceLeDiff, Nat.reduceLT, reduceCtorEq, Int.reduceLT, Int.reduceLE, Int.reduceEq, Int.reduceBEq, Int.reduceSub, Int.reduceAdd, Int.reduceMul, Int.reduceNeg, Int.reduceToNat, Nat.reduceMul, Nat.reduceBEq, ren1_locm, loc_tips, locT_eq] <;> rfl, ?_, ?_, fun x en s hq => ?_⟩
          · omega
          · omega
          · have e : lexLt (a :: xs.drop (i + 1)) (a :: ys.drop (i + 1)) = lexLt (xs.drop (i + 1)) (ys.drop (i + 1)) := by simp [lexLt]
            rw [e]; exact hq
    · have hd2 : ys.drop i = [] := List.drop_eq_nil_of_le (by omega)
      have hge : ((ys.length : Int) ≤ (i : Int)) = True := eq_true (by omega)
      rw [hd2]
      generalize xs[i] = a at *
      simp only [go_sem, reduceIte, Nat.reduceEqDiff, Nat.reduceAdd, Nat.reduceSub, Nat.reduceLeDiff, Nat.reduceLT, reduceCtorEq, Int.reduceLT, Int.reduceLE, Int.reduceEq, Int.reduceBEq, Int.reduceSub, Int.reduceAdd, Int.reduceMul, Int.reduceNeg, Int.reduceToNat, Nat.reduceMul, Nat.reduceBEq, index_rsl_if, setm, make_ints, condK_dec, wantK_dec, not_dec, and_dec, or_dec, seqK_ite, seqK_none, blockK_ite, blockK_none, opsK_ite, opsK_none, stepK_ite, stepK_none, bodyK_ite, bodyK_none, resK_ite, resK_none, leaveK_ite, leaveK_none, only_ite, only_none, bind_ite, gives_some, gives_none, gives_ite, then_normal, then_ret, then_exit, then_none, then_ite, Option.bind_none, Bool.not_eq_true', decide_eq_false_iff_not, Bool.and_eq_true, Bool.or_eq_true, Option.some.injEq, Int.not_lt, Int.not_le, lp69_0, hx, hlt, hge, List.length_map]
      refine ⟨1, rfl, ?_⟩
      simp [lexLt]
  · have hd : xs.drop i = [] := List.drop_eq_nil_of_le (by omega)
    have hlt : ((i : Int) < (xs.length : Int)) = False := eq_false (by omega)
    simp only [go_sem, reduceIte, Nat.reduceEqDiff, Nat.reduceAdd, Nat.reduceSub, Nat.reduceLeDiff, Nat.reduceLT, reduceCtorEq, Int.reduceLT, Int.reduceLE, Int.reduceEq, Int.reduceBEq, Int.reduceSub, Int.reduceAdd, Int.reduceMul, Int.reduceNeg, Int.reduceToNat, Nat.reduceMul, Nat.reduceBEq, index_rsl_if, setm, make_ints, condK_dec, wantK_dec, not_dec, and_dec, or_dec, seqK_ite, seqK_none, blockK_ite, blockK_none, opsK_ite, opsK_none, stepK_ite, stepK_none, bodyK_ite, bodyK_none, resK_ite, resK_none, leaveK_ite, leaveK_none, only_ite, only_none, bind_ite, gives_some, gives_none, gives_ite, then_normal, then_ret, then_exit, then_none, then_ite, Option.bind_none, Bool.not_eq_true', decide_eq_false_iff_not, Bool.and_eq_true, Bool.or_eq_true, Option.some.injEq, Int.not_lt, Int.not_le, lp69_0, hlt, List.length_map]
    rw [hd]
    by_cases h2 : i < ys.length
    · rw [List.drop_eq_getElem_cons h2]; simp [lexLt]; omega
    · rw [List.drop_eq_nil_of_le (by omega)]; simp [lexLt]; omega

theorem c69 (n1 n2 : Bool) (xs ys : List Int) (hlen : xs.length < 1000000) (st : St) :
    ∃ k : Int, run L 69 [sl 1 n1 (xs.map I), sl 1 n2 (ys.map I)] st = some (I k, st) ∧ decide (k < 0) = lexLt xs ys := by
  rw [run_pure (fn := ir69) rfl rfl]
  simp only [ir69, go_sem, reduceIte, Nat.reduceEqDiff, Nat.reduceAdd, Nat.reduceSub, Nat.reduceLeDiff, Nat.reduceLT, reduceCtorEq, Int.reduceLT, Int.reduceLE, Int.reduceEq, Int.reduceBEq, Int.reduceSub, Int.reduceAdd, Int.reduceMul, Int.reduceNeg, Int.reduceToNat, Nat.reduceMul, Nat.reduceBEq, List.length_map]
  generalize hg : lim (headed pure (run L) true _ lp69_0 _ _) _ _ = o
  obtain ⟨x, en, s, rfl, h2⟩ : ∃ x en s, o = some (x, en, s) ∧ _ := by rw [← hg]; exact loop69 n1 n2 xs ys hlen 0 ⟨by omega, by omega⟩ _ _ (by simp only [go_sem, reduceIte, Nat.reduceEqDiff, Nat.reduceAdd, Nat.reduceSub, Nat.reduceLeDiff, Nat.reduceLT, reduceCtorEq, Int.reduceLT, Int.reduceLE, Int.reduceEq, Int.reduceBEq, Int.reduceSub, Int.reduceAdd, Int.reduceMul, Int.reduceNeg, Int.reduceToNat, Nat.reduceMul, Nat.reduceBEq] <;> rfl)
  clear hg
  simp only [List.drop_zero] at h2
  rcases h2 with ⟨rfl, h3, h4, h5⟩ | ⟨rfl, k, h3, h5⟩
  · by_cases p : xs.length < ys.length
    · have q : ((xs.length : Int) < (ys.length : Int)) = True := eq_true (by omega)
      exact ⟨-1, by simp only [go_sem, reduceIte, Nat.reduceEqDiff, Nat.reduceAdd, Nat.reduceSub, Nat.reduceLeDiff, Nat.reduceLT, reduceCtorEq, Int.reduceLT, Int.reduceLE, Int.reduceEq, Int.reduceBEq, Int.reduceSub, Int.reduceAdd, Int.reduceMul, Int.reduceNeg, Int.reduceToNat, Nat.reduceMul, Nat.reduceBEq, h3, h4, q, List.length_map], by rw [h5]; simp [p]⟩
    · have q : ((xs.length : Int) < (ys.length : Int)) = False := eq_false (by omega)
      exact ⟨0, by simp only [go_sem, reduceIte, Nat.reduceEqDiff, Nat.reduceAdd, Nat.reduceSub, Nat.reduceLeDiff, Nat.reduceLT, reduceCtorEq, Int.reduceLT, Int.reduceLE, Int.reduceEq, Int.reduceBEq, Int.reduceSub, Int.reduceAdd, Int.reduceMul, Int.reduceNeg, Int.reduceToNat, Nat.reduceMul, Nat.reduceBEq, h3, h4, q, List.length_map], by rw [h5]; simp [p]⟩
  · exact ⟨k, by simp only [go_sem, reduceIte, Nat.reduceEqDiff, Nat.reduceAdd, Nat.reduceSub, Nat.reduceLeDiff, Nat.reduceLT, reduceCtorEq, Int.reduceLT, Int.reduceLE, Int.reduceEq, Int.reduceBEq, Int.reduceSub, Int.reduceAdd, Int.reduceMul, Int.reduceNeg, Int.reduceToNat, Nat.reduceMul, Nat.reduceBEq, h3], h5.symm⟩

attribute [local go_sem high] and_one shr_u

/-- The articles of a set, in ascending order. -/
def memb (m : Nat) : List Int := ((List.range 7).filter m.testBit).map fun (i : Nat) => (i : Int)

theorem run_any' {f : FuncId} {fn : IF} (hf : L.fns f = some fn) (hp : L.pure f = true) {args : List AV} {st0 st1 : St} {r : AV} (h : run L f args st0 = some (r, st1)) (st : St) : run L f args st = some (r, st) := by
  rw [run_pure hf hp] at h ⊢
  unfold leaveK at h ⊢
  split at h
  · simp only [leave, Option.some.injEq, Prod.mk.injEq] at h ⊢
    exact ⟨h.1, trivial⟩
  · simp at h

theorem all_of {α : Type} {f g : Nat → α} {k : Nat} (h : (List.range k).map f = (List.range k).map g) (m : Nat) (hm : m < k) : f m = g m := by
  have := congrArg (fun l : List α => l[m]?) h
  simpa [hm] using this

theorem all104 : (List.range 128).map (fun m => callAV L 60 104 [U m] ⟨[], []⟩) = (List.range 128).map (fun m => some (sl 1 true ((memb m).map I), (⟨[], []⟩ : St))) := by kernel_rfl
theorem c104 (m : Nat) (hm : m < 128) (st : St) : run L 104 [U m] st = some (sl 1 true ((memb m).map I), st) :=
  run_any' (fn := ir104) rfl rfl (callAV_run L 60 _ _ _ _ (all_of all104 m hm)) st
theorem all108 : (List.range 128).map (fun m => callAV L 60 108 [U m] ⟨[], []⟩) = (List.range 128).map (fun m => some (I ((memb m).length : Nat), (⟨[], []⟩ : St))) := by kernel_rfl
theorem c108 (m : Nat) (hm : m < 128) (st : St) : run L 108 [U m] st = some (I (memb m).length, st) :=
  run_any' (fn := ir108) rfl rfl (callAV_run L 60 _ _ _ _ (all_of all108 m hm)) st


/-- The number with one bit. -/
def sh1 (p : Nat) : Nat := 2 ^ min p 64 % 2 ^ 64
theorem sh1_eq (p : Nat) (h : p < 64) : sh1 p = 2 ^ p := by
  unfold sh1; rw [show min p 64 = p by omega]
  exact Nat.mod_eq_of_lt (Nat.pow_lt_pow_right (by omega) h)
theorem shl_one (p : Nat) : binAV .shl none (.v (.int .u64 1)) (.v (.int .i64 (p : Int))) = some (.v (.int .u64 ((sh1 p : Nat) : Int))) := by
  show (if (p : Int) < 0 then none else some (AV.v (.int .u64 (IntKind.u64.wrap (1 * (2 ^ (min (Int.toNat (p : Int)) 64)))))) ) = _
  rw [if_neg (by omega), Int.toNat_natCast]
  have e2 : (1 : Int) * ((2 : Int) ^ (min p 64)) = ((2 ^ (min p 64) : Nat) : Int) := by simp
  rw [e2]
  simp only [sh1, IntKind.wrap, IntKind.bits, IntKind.signed]
  simp
attribute [local go_sem high] and_one shr_u shl_one

theorem succU (m : Nat) (h : m < 1000000) : IntKind.u64.wrap ((m : Int) + 1) = ((m + 1 : Nat) : Int) := by
  have := wrapU (m + 1) (by omega)
  simpa using this

theorem memb_len (m : Nat) : (memb m).length ≤ 7 := by
  unfold memb; rw [List.length_map]
  exact Nat.le_trans (List.length_filter_le _ _) (by simp)


def orU (a b : Nat) : Nat := a % 2 ^ 64 ||| b % 2 ^ 64
theorem or_u (a b : Nat) : binAV .or none (.v (.int .u64 (a : Int))) (.v (.int .u64 (b : Int))) = some (.v (.int .u64 ((orU a b : Nat) : Int))) := by
  have h : (BitVec.ofInt 64 (a : Int) ||| BitVec.ofInt 64 (b : Int)).toNat = orU a b := by
    rw [BitVec.toNat_or]; simp [BitVec.ofInt_natCast, orU]
  show some (AV.v (.int .u64 (IntKind.u64.wrap ((BitVec.ofInt 64 (a : Int) ||| BitVec.ofInt 64 (b : Int)).toNat : Int)))) = _
  rw [h, wrapU]
  unfold orU
  exact Nat.or_lt_two_pow (Nat.mod_lt _ (by decide)) (Nat.mod_lt _ (by decide))
theorem orU_eq (a b : Nat) (ha : a < 128) (hb : b < 128) : orU a b = a ||| b := by
  unfold orU; rw [Nat.mod_eq_of_lt (by omega), Nat.mod_eq_of_lt (by omega)]
attribute [local go_sem high] and_one shr_u shl_one or_u

theorem prsErr_zero {n : Int} : ∀ {ps seen : List (Int × Int)}, prsErr n seen ps = 0 → ∀ p ∈ ps, 0 ≤ p.1 ∧ p.1 < p.2 ∧ p.2 < n
  | [], _, _, p, hp => by simp at hp
  | a :: r, seen, h, p, hp => by
    simp only [prsErr] at h
    split at h
    · next h0 =>
      unfold prErr at h0
      split at h0
      · omega
      · split at h0
        · omega
        · rcases List.mem_cons.1 hp with rfl | hp
          · exact ⟨by omega, by omega, by omega⟩
          · exact prsErr_zero h p hp
    · next h0 => exact absurd h h0
/-- What a good book is like. -/
theorem chk_zero {n : Int} {ps : List (Int × Int)} (h : chk n ps = 0) : 1 ≤ n ∧ n ≤ 7 ∧ ps.length ≤ 10 ∧ (∀ p ∈ ps, 0 ≤ p.1 ∧ p.1 < p.2 ∧ p.2 < n) ∧ ∀ p ∈ ps, okP p := by
  unfold chk at h
  split at h
  · omega
  · split at h
    · omega
    · have := prsErr_zero h
      exact ⟨by omega, by omega, by omega, this, fun p hp => by have := this p hp; unfold okP; omega⟩

def setOf (l : List Int) (m : Nat) : Nat := l.foldl (fun m a => m ||| 2 ^ a.toNat) m


abbrev listAV (l : List Int) : AV := sl 1 false (l.map I)
/-- The numbers from 0 to 2, or 0 and 2; those from one on. -/
def vals (s : Nat) : List Nat := if s = 2 then [0, 2] else [0, 1, 2]
/-- All lists of so many such numbers, in ascending order. -/
def allL (s : Nat) : Nat → List (List Int)
  | 0 => [[]]
  | k + 1 => (vals s).flatMap fun (v : Nat) => (allL s k).map ((v : Int) :: ·)
theorem vals_le {s v : Nat} (hv : v ∈ vals s) : v ≤ 2 := by
  unfold vals at hv
  split at hv <;> simp at hv <;> omega
theorem allL_in {s : Nat} : ∀ k, ∀ l ∈ allL s k, l.length = k ∧ ∀ x ∈ l, 0 ≤ x ∧ x ≤ 2 := by
  intro k
  induction k with
  | zero => intro l hl; simp [allL] at hl; subst hl; simp
  | succ k ih =>
    intro l hl
    simp only [allL, List.mem_flatMap, List.mem_map] at hl
    obtain ⟨v, hv, r, hr, rfl⟩ := hl
    have h1 := ih r hr
    have h2 := vals_le hv
    refine ⟨by simp [h1.1], fun x hx => ?_⟩
    rcases List.mem_cons.1 hx with rfl | hx
    · omega
    · exact h1.2 x hx

theorem run_args {f : FuncId} {fn : IF} (hf : L.fns f = some fn) (hp : L.pure f = true) {args args' : List AV} (st : St) (h : pubs args = pubs args') : run L f args st = run L f args' st := by
  rw [run_pure hf hp, run_pure hf hp, h]


def sumL : List Int → Int
  | [] => 0
  | a :: r => a + sumL r
theorem sumL_bd : ∀ l : List Int, (∀ x ∈ l, 0 ≤ x ∧ x ≤ 2) → 0 ≤ sumL l ∧ sumL l ≤ 2 * l.length
  | [], _ => by simp [sumL]
  | a :: r, h => by
    have h1 := h a (by simp)
    have h2 := sumL_bd r (fun x hx => h x (by simp [hx]))
    simp only [sumL, List.length_cons]; omega

/-- Are values enough for each pair? -/
def enough (v : List Int) (p : Int × Int) : Bool := decide (2 ≤ v.getD p.1.toNat 0 + v.getD p.2.toNat 0)
def halfOk (ps : List (Int × Int)) (v : List Int) : Bool := ps.all (enough v)

theorem index_at (nl : Bool) (l : List Int) (a : Int) (h : 0 ≤ a) (h2 : a < l.length) : indexSAV 1 (sl 1 nl (l.map I)) (.v (.int .i64 a)) = some (.eptr (I (l.getD a.toNat 0)) 0) := by
  have := index_ints nl l a.toNat (by omega)
  rw [Int.toNat_of_nonneg h] at this
  rw [this]
  simp [List.getD_eq_getElem?_getD, List.getElem?_eq_getElem (show a.toNat < l.length by omega)]

/-- The places of a value. -/
def withL (x : Int) : List Int → Nat → List Int
  | [], _ => []
  | a :: r, i => if a = x then (i : Int) :: withL x r (i + 1) else withL x r (i + 1)


/-- The cheapest lists so far, and one more. -/
def cStep (ps : List (Int × Int)) (out : List (List Int)) (l : List Int) : List (List Int) :=
  if halfOk ps l = true then
    match out with
    | [] => [l]
    | x :: r => if sumL l < sumL x then [l] else if sumL l = sumL x then (x :: r) ++ [l] else x :: r
  else out
/-- A list of small numbers, so many. -/
def okL (n : Int) (l : List Int) : Prop := (l.length : Int) = n ∧ ∀ x ∈ l, 0 ≤ x ∧ x ≤ 2

def cheap (n : Nat) (s : Nat) (ps : List (Int × Int)) : List (List Int) := (allL s n).foldl (cStep ps) []


/-! ### the least of a list, kept in order -/
def keepF {α : Type} (f : α → Int) (out : List α) (a : α) : List α :=
  match out with
  | [] => [a]
  | x :: r => if f a < f x then [a] else if f a = f x then (x :: r) ++ [a] else x :: r
def leastOf {α : Type} (f : α → Int) (Y : List α) : List α := Y.filter fun a => Y.all fun y => decide (f a ≤ f y)

theorem mem_least {α : Type} {f : α → Int} {Y : List α} {a : α} : a ∈ leastOf f Y ↔ a ∈ Y ∧ ∀ y ∈ Y, f a ≤ f y := by
  simp [leastOf]
theorem rev_ind {α : Type} {P : List α → Prop} (h0 : P []) (h1 : ∀ l a, P l → P (l ++ [a])) : ∀ l, P l := by
  intro l
  have : ∀ l : List α, P l.reverse := by
    intro l
    induction l with
    | nil => exact h0
    | cons a l ih => rw [List.reverse_cons]; exact h1 _ _ ih
  have h := this l.reverse
  rwa [List.reverse_reverse] at h
theorem least_of_min {α : Type} {f : α → Int} {Y : List α} {x : α} (hx : x ∈ Y) (h : ∀ y ∈ Y, f x ≤ f y) : leastOf f Y = Y.filter fun a => decide (f a = f x) := by
  unfold leastOf
  apply List.filter_congr
  intro a ha
  rw [Bool.eq_iff_iff, List.all_eq_true, decide_eq_true_iff]
  constructor
  · intro h2
    have := of_decide_eq_true (h2 x hx)
    have := h a ha
    omega
  · intro h2 y hy
    have := h y hy
    exact decide_eq_true (by omega)
theorem keepF_inv {α : Type} (f : α → Int) : ∀ Y : List α, (Y = [] → Y.foldl (keepF f) [] = []) ∧ (Y ≠ [] → ∃ x r, Y.foldl (keepF f) [] = x :: r ∧ x ∈ Y ∧ (∀ y ∈ Y, f x ≤ f y) ∧ Y.foldl (keepF f) [] = Y.filter fun a => decide (f a = f x)) := by
  apply rev_ind
  · simp
  · intro Z a ih
    refine ⟨by simp, fun _ => ?_⟩
    rw [List.foldl_append, List.foldl_cons, List.foldl_nil]
    by_cases hz : Z = []
    · subst hz
      refine ⟨a, [], rfl, by simp, by simp, ?_⟩
      simp [keepF]
    · obtain ⟨x, r, h1, h2, h3, h4⟩ := ih.2 hz
      generalize hW : Z.foldl (keepF f) [] = W at *
      subst h1
      by_cases p1 : f a < f x
      · refine ⟨a, [], by simp [keepF, p1], by simp, ?_, ?_⟩
        · intro y hy
          rcases List.mem_append.1 hy with hy | hy
          · have := h3 y hy; omega
          · simp at hy; subst hy; omega
        · have e : Z.filter (fun y => decide (f y = f a)) = [] := by
            rw [List.filter_eq_nil_iff]; intro y hy; have := h3 y hy; simp; omega
          rw [List.filter_append, e]; simp [keepF, p1]
      · by_cases p2 : f a = f x
        · refine ⟨x, r ++ [a], by simp only [keepF]; rw [if_neg p1, if_pos p2]; rfl, by simp [h2], ?_, ?_⟩
          · intro y hy
            rcases List.mem_append.1 hy with hy | hy
            · exact h3 y hy
            · simp at hy; subst hy; omega
          · rw [List.filter_append, ← h4]; simp only [keepF]; rw [if_neg p1, if_pos p2]; simp [p2]
        · refine ⟨x, r, by simp only [keepF]; rw [if_neg p1, if_neg p2], by simp [h2], ?_, ?_⟩
          · intro y hy
            rcases List.mem_append.1 hy with hy | hy
            · exact h3 y hy
            · simp at hy; subst hy; omega
          · rw [List.filter_append, ← h4]; simp only [keepF]; rw [if_neg p1, if_neg p2]; simp [p2]
theorem keepF_spec {α : Type} (f : α → Int) (Y : List α) : Y.foldl (keepF f) [] = leastOf f Y := by
  by_cases h : Y = []
  · subst h; rfl
  · obtain ⟨x, r, h1, h2, h3, h4⟩ := (keepF_inv f Y).2 h
    rw [h4, least_of_min h2 h3]
/-! ### the order of lists -/
theorem lex_irrefl : ∀ a, lexLt a a = false
  | [] => rfl
  | a :: r => by simp [lexLt, lex_irrefl r]
theorem lex_total : ∀ a b, lexLt a b = false → lexLt b a = false → a = b
  | [], [], _, _ => rfl
  | [], b :: s, h, _ => by simp [lexLt] at h
  | a :: r, [], _, h => by simp [lexLt] at h
  | a :: r, b :: s, h1, h2 => by
    simp only [lexLt, Bool.or_eq_false_iff, Bool.and_eq_false_iff, decide_eq_false_iff_not] at h1 h2
    have e : a = b := by omega
    subst e
    simp at h1 h2
    rw [lex_total r s h1 h2]
theorem lex_trans : ∀ a b c, lexLt a b = true → lexLt b c = true → lexLt a c = true
  | a, [], c, h, _ => by cases a <;> simp [lexLt] at h
  | a, b :: s, [], _, h => by simp [lexLt] at h
  | [], b :: s, c :: t, _, _ => rfl
  | a :: r, b :: s, c :: t, h1, h2 => by
    simp only [lexLt, Bool.or_eq_true, Bool.and_eq_true, decide_eq_true_iff] at h1 h2 ⊢
    rcases h1 with h1 | ⟨rfl, h1⟩
    · rcases h2 with h2 | ⟨rfl, h2⟩
      · left; omega
      · left; exact h1
    · rcases h2 with h2 | ⟨rfl, h2⟩
      · left; exact h2
      · right; exact ⟨rfl, lex_trans r s t h1 h2⟩
theorem lex_asymm {a b : List Int} (h : lexLt a b = true) : lexLt b a = false := by
  cases h2 : lexLt b a
  · rfl
  · have := lex_trans _ _ _ h h2; rw [lex_irrefl] at this; simp at this
/-- not behind: transitive. -/
theorem lex_le {a b c : List Int} (h1 : lexLt b a = false) (h2 : lexLt c b = false) : lexLt c a = false := by
  cases h : lexLt c a
  · rfl
  · cases h3 : lexLt a b
    · have := lex_total _ _ h3 h1; subst this; rw [h2] at h; simp at h
    · have := lex_trans _ _ _ h h3; rw [h2] at this; simp at this

/-! ### the first of the shortest ones, and how many there are -/


theorem cheap_eq (n t : Nat) (ps : List (Int × Int)) : cheap n t ps = leastOf sumL ((allL t n).filter (halfOk ps)) := by
  unfold cheap
  rw [← keepF_spec, List.foldl_filter]
  congr 1
  funext out l
  unfold cStep keepF
  cases out <;> rfl

theorem mem_memb (m u : Nat) : (u : Int) ∈ memb m ↔ u < 7 ∧ m.testBit u = true := by
  unfold memb
  simp only [List.mem_map, List.mem_filter, List.mem_range]
  constructor
  · rintro ⟨a, h, e⟩
    have : a = u := by omega
    subst this; exact h
  · intro h; exact ⟨u, h, rfl⟩
theorem mem_withL (x a : Int) : ∀ (l : List Int) (i : Nat), a ∈ withL x l i ↔ ∃ k : Nat, l[k]? = some x ∧ a = ((i + k : Nat) : Int)
  | [], i => by simp [withL]
  | b :: r, i => by
    have ih := mem_withL x a r (i + 1)
    have hk : (∃ k : Nat, (b :: r)[k]? = some x ∧ a = ((i + k : Nat) : Int)) ↔ (b = x ∧ a = (i : Int)) ∨ ∃ k : Nat, r[k]? = some x ∧ a = ((i + 1 + k : Nat) : Int) := by
      constructor
      · rintro ⟨k, h1, h2⟩
        cases k with
        | zero => left; exact ⟨by simpa using h1, by simpa using h2⟩
        | succ k => right; exact ⟨k, by simpa using h1, by rw [h2]; congr 1; omega⟩
      · rintro (⟨h1, h2⟩ | ⟨k, h1, h2⟩)
        · exact ⟨0, by simp [h1], by simp [h2]⟩
        · exact ⟨k + 1, by simpa using h1, by rw [h2]; congr 1; omega⟩
    rw [hk, ← ih]
    simp only [withL]
    split
    · next h => rw [List.mem_cons]; simp [h]
    · next h => simp [h]
theorem full_mem (t : Nat) : ∀ k, List.replicate k (2 : Int) ∈ allL t k := by
  intro k
  induction k with
  | zero => simp [allL]
  | succ k ih =>
    simp only [allL, List.mem_flatMap, List.mem_map]
    refine ⟨2, ?_, _, ih, ?_⟩
    · unfold vals; split <;> simp
    · rfl
theorem full_ok {n : Nat} {ps : List (Int × Int)} (hps : ∀ p ∈ ps, 0 ≤ p.1 ∧ p.1 < p.2 ∧ p.2 < (n : Int)) : halfOk ps (List.replicate n 2) = true := by
  unfold halfOk
  rw [List.all_eq_true]
  intro p hp
  have := hps p hp
  have h1 : p.1.toNat < n := by omega
  have h2 : p.2.toNat < n := by omega
  simp [enough, List.getD_eq_getElem?_getD, List.getElem?_replicate, h1, h2]
theorem half_ne {n : Nat} (t : Nat) {ps : List (Int × Int)} (hps : ∀ p ∈ ps, 0 ≤ p.1 ∧ p.1 < p.2 ∧ p.2 < (n : Int)) : (allL t n).filter (halfOk ps) ≠ [] :=
  List.ne_nil_of_mem (List.mem_filter.2 ⟨full_mem t n, full_ok hps⟩)
theorem cheap_mem {n t : Nat} {ps : List (Int × Int)} {l : List Int} : l ∈ cheap n t ps ↔ (l ∈ allL t n ∧ halfOk ps l = true) ∧ ∀ y ∈ allL t n, halfOk ps y = true → sumL l ≤ sumL y := by
  rw [cheap_eq, mem_least, List.mem_filter]
  simp only [List.mem_filter, and_imp]
theorem cheap_in {n t : Nat} {ps : List (Int × Int)} {l : List Int} (h : l ∈ cheap n t ps) : okL n l := by
  have := allL_in n l (cheap_mem.1 h).1.1
  exact ⟨by omega, this.2⟩
/-! ### the set of a list -/
theorem setOf_testBit : ∀ (l : List Int) (m u : Nat), (∀ x ∈ l, 0 ≤ x) → ((setOf l m).testBit u = true ↔ m.testBit u = true ∨ (u : Int) ∈ l)
  | [], m, u, _ => by simp [setOf]
  | a :: r, m, u, h => by
    have e : setOf (a :: r) m = setOf r (m ||| 2 ^ a.toNat) := rfl
    have ha := h a (by simp)
    rw [e, setOf_testBit r _ u (fun x hx => h x (by simp [hx])), Nat.testBit_or, Nat.testBit_two_pow, Bool.or_eq_true, decide_eq_true_iff, List.mem_cons]
    have : a.toNat = u ↔ (u : Int) = a := by omega
    rw [this, or_assoc]


/-! ### who contradicts whom -/
def orAt (o : List Nat) (i b : Nat) : List Nat := o.set i (o.getD i 0 ||| 2 ^ b)
def adv1 (o : List Nat) (p : Int × Int) : List Nat := orAt (orAt o p.1.toNat p.2.toNat) p.2.toNat p.1.toNat
def advL (ps : List (Int × Int)) : List Nat := ps.foldl adv1 (List.replicate 7 0)
/-- Two articles contradict each other. -/
def nb (ps : List (Int × Int)) (u v : Nat) : Prop := ((u : Int), (v : Int)) ∈ ps ∨ ((v : Int), (u : Int)) ∈ ps
theorem nb_symm {ps : List (Int × Int)} {u v : Nat} (h : nb ps u v) : nb ps v u := h.symm

theorem orAt_len (o : List Nat) (i b : Nat) : (orAt o i b).length = o.length := by simp [orAt]
theorem orAt_bit (o : List Nat) (i b j k : Nat) (hi : i < o.length) : ((orAt o i b).getD j 0).testBit k = true ↔ (o.getD j 0).testBit k = true ∨ (j = i ∧ k = b) := by
  unfold orAt
  simp only [List.getD_eq_getElem?_getD, List.getElem?_set]
  by_cases h : i = j
  · subst h
    simp only [hi, if_true, Option.getD_some, Nat.testBit_or, Nat.testBit_two_pow, Bool.or_eq_true, decide_eq_true_iff]
    constructor <;> rintro (h | h) <;> simp_all
  · simp only [if_neg h]
    constructor
    · exact .inl
    · rintro (h2 | h2)
      · exact h2
      · exact absurd h2.1.symm h
theorem adv_bit : ∀ (ps : List (Int × Int)) (o : List Nat), o.length = 7 → (∀ p ∈ ps, okP p) → ((ps.foldl adv1 o).length = 7 ∧ ∀ u v : Nat, ((ps.foldl adv1 o).getD u 0).testBit v = true ↔ (o.getD u 0).testBit v = true ∨ nb ps u v)
  | [], o, h, _ => by simp [h, nb]
  | p :: r, o, h, h7 => by
    have hp := h7 p (by simp)
    obtain ⟨a, b⟩ := p
    obtain ⟨a1, a2, a3, a4⟩ := hp
    simp only at a1 a2 a3 a4
    obtain ⟨a, rfl⟩ := Int.eq_ofNat_of_zero_le a1
    obtain ⟨b, rfl⟩ := Int.eq_ofNat_of_zero_le a3
    rw [List.foldl_cons]
    have e : adv1 o ((a : Int), (b : Int)) = orAt (orAt o a b) b a := rfl
    have hl : (adv1 o ((a : Int), (b : Int))).length = 7 := by rw [e, orAt_len, orAt_len, h]
    obtain ⟨g1, g2⟩ := adv_bit r _ hl (fun q hq => h7 q (by simp [hq]))
    refine ⟨g1, fun u v => ?_⟩
    rw [g2 u v, e, orAt_bit _ _ _ _ _ (by rw [orAt_len]; omega), orAt_bit _ _ _ _ _ (by omega)]
    unfold nb
    simp only [List.mem_cons, Prod.mk.injEq, Int.natCast_inj]
    generalize (o.getD u 0).testBit v = X
    constructor
    · rintro (((h | h) | h) | h | h) <;> simp [h]
    · rintro (h | (h | h) | (h | h)) <;> simp [h]
theorem advL_len {ps : List (Int × Int)} (h7 : ∀ p ∈ ps, okP p) : (advL ps).length = 7 := (adv_bit ps _ (by simp) h7).1
theorem advL_bit {ps : List (Int × Int)} (h7 : ∀ p ∈ ps, okP p) (u v : Nat) : ((advL ps).getD u 0).testBit v = true ↔ nb ps u v := by
  have := (adv_bit ps (List.replicate 7 0) (by simp) h7).2 u v
  unfold advL
  rw [this, List.getD_eq_getElem?_getD, List.getElem?_replicate]
  split <;> simp

/-- The articles that contradict some of a set. -/
def twoOf (ps : List (Int × Int)) (z : Nat) : Nat := (memb z).foldl (fun (t : Nat) (a : Int) => t ||| (advL ps).getD a.toNat 0) 0
theorem two_fold (g : Nat → Nat) (v : Nat) : ∀ (l : List Int) (t : Nat), ((l.foldl (fun (t : Nat) (a : Int) => t ||| g a.toNat) t).testBit v = true ↔ t.testBit v = true ∨ ∃ a ∈ l, (g a.toNat).testBit v = true)
  | [], t => by simp
  | a :: r, t => by
    rw [List.foldl_cons, two_fold g v r]
    rw [Nat.testBit_or, Bool.or_eq_true, or_assoc]
    simp
theorem two_bit {ps : List (Int × Int)} (h7 : ∀ p ∈ ps, okP p) (z v : Nat) (hz : z < 128) : (twoOf ps z).testBit v = true ↔ ∃ u, z.testBit u = true ∧ nb ps u v := by
  have := two_fold (fun a => (advL ps).getD a 0) v (memb z) 0
  unfold twoOf
  rw [this, Nat.zero_testBit]
  simp only [Bool.false_eq_true, false_or]
  constructor
  · rintro ⟨a, h1, h2⟩
    have h3 := h1
    unfold memb at h3
    rw [List.mem_map] at h3
    obtain ⟨u, _, rfl⟩ := h3
    rw [Int.toNat_natCast, advL_bit h7] at h2
    exact ⟨u, ((mem_memb z u).1 h1).2, h2⟩
  · rintro ⟨u, h1, h2⟩
    refine ⟨(u : Int), (mem_memb z u).2 ⟨?_, h1⟩, by rw [Int.toNat_natCast, advL_bit h7]; exact h2⟩
    rcases Nat.lt_or_ge u 7 with h | h
    · exact h
    · have : z.testBit u = false := Nat.testBit_lt_two_pow (Nat.lt_of_lt_of_le (show z < 2 ^ 7 from hz) (Nat.pow_le_pow_right (by omega) h))
      rw [this] at h1; simp at h1

/-! ### values by a set of articles that have 0 -/
def bitI (m a : Nat) : Int := (((m >>> a) % 2 : Nat) : Int)
theorem bitI_eq (m a : Nat) : bitI m a = if m.testBit a = true then 1 else 0 := by
  unfold bitI
  have h := bit_zero m a
  have h2 : (m >>> a) % 2 < 2 := Nat.mod_lt _ (by omega)
  by_cases p : m.testBit a = true
  · rw [if_pos p]
    have : ¬ ((((m >>> a) % 2 : Nat) : Int) = 0) := by rw [h]; simp [p]
    omega
  · rw [if_neg p]
    rw [h]; simpa using p
def valsOf (n two z : Nat) : List Int := (List.range n).map fun a => 1 + bitI two a - bitI z a
def costOf (n two z : Nat) : Int := (n : Int) + (memb two).length - (memb z).length
theorem sum_map {α : Type} (f g h : α → Int) : ∀ l : List α, sumL (l.map fun a => 1 + f a - g a) = l.length + sumL (l.map f) - sumL (l.map g)
  | [] => by simp [sumL]
  | a :: r => by
    have := sum_map f g h r
    simp only [List.map_cons, sumL, List.length_cons, this]; omega
theorem bit_sums : (List.range 8).all (fun n => (List.range (2 ^ n)).all fun m => decide (sumL ((List.range n).map (bitI m)) = ((memb m).length : Int))) = true := by kernel_rfl
theorem bit_sum {n m : Nat} (hn : n ≤ 7) (hm : m < 2 ^ n) : sumL ((List.range n).map (bitI m)) = ((memb m).length : Int) := by
  have h := List.all_eq_true.1 bit_sums n (List.mem_range.2 (by omega))
  exact of_decide_eq_true (List.all_eq_true.1 h m (List.mem_range.2 hm))
theorem cost_sum {n two z : Nat} (hn : n ≤ 7) (h1 : two < 2 ^ n) (h2 : z < 2 ^ n) : sumL (valsOf n two z) = costOf n two z := by
  unfold valsOf costOf
  rw [sum_map (bitI two) (bitI z) (bitI z), bit_sum hn h1, bit_sum hn h2, List.length_range]
theorem lt_two {n x : Nat} (h : ∀ i, x.testBit i = true → i < n) : x < 2 ^ n := by
  apply Nat.lt_pow_two_of_testBit
  intro i hi
  cases h2 : x.testBit i
  · rfl
  · have := h i h2; omega
theorem bit_lt {n x i : Nat} (h : x < 2 ^ n) (h2 : x.testBit i = true) : i < n := by
  rcases Nat.lt_or_ge i n with h3 | h3
  · exact h3
  · have : x.testBit i = false := Nat.testBit_lt_two_pow (Nat.lt_of_lt_of_le h (Nat.pow_le_pow_right (by omega) h3))
    rw [this] at h2; simp at h2

/-- The values so far, what they cost, and one more set. -/
def hStep (n : Nat) (ps : List (Int × Int)) (s : List Int × Int) (z : Nat) : List Int × Int :=
  if twoOf ps z &&& z = 0 then
    (if s.1 = [] ∨ costOf n (twoOf ps z) z < s.2 ∨ costOf n (twoOf ps z) z = s.2 ∧ lexLt (valsOf n (twoOf ps z) z) s.1 = true then (valsOf n (twoOf ps z) z, costOf n (twoOf ps z) z) else s)
  else s
def halvesV (n : Nat) (ps : List (Int × Int)) : List Int := ((List.range (2 ^ n)).foldl (hStep n ps) ([], 0)).1

/-! ### the cheapest, and the first of these -/
def hG (s : List Int × Int) (c : List Int) : List Int × Int := if s.1 = [] ∨ sumL c < s.2 ∨ sumL c = s.2 ∧ lexLt c s.1 = true then (c, sumL c) else s
theorem hG_inv : ∀ Y : List (List Int), (∀ y ∈ Y, y ≠ []) → Y ≠ [] → (Y.foldl hG ([], 0)).1 ∈ Y ∧ (Y.foldl hG ([], 0)).2 = sumL (Y.foldl hG ([], 0)).1 ∧
    ∀ y ∈ Y, sumL (Y.foldl hG ([], 0)).1 ≤ sumL y ∧ (sumL y = sumL (Y.foldl hG ([], 0)).1 → lexLt y (Y.foldl hG ([], 0)).1 = false) := by
  apply rev_ind
  · simp
  · intro Z a ih hne _
    rw [List.foldl_append, List.foldl_cons, List.foldl_nil]
    have hZ : ∀ y ∈ Z, y ≠ [] := fun y hy => hne y (by simp [hy])
    have ha : a ≠ [] := hne a (by simp)
    by_cases hz : Z = []
    · subst hz
      have e : hG ([], 0) a = (a, sumL a) := by simp [hG]
      simp only [List.foldl_nil, e, List.nil_append]
      refine ⟨by simp, trivial, ?_⟩
      intro y hy; simp at hy; subst hy; exact ⟨Int.le_refl _, fun _ => lex_irrefl _⟩
    · obtain ⟨h1, h2, h3⟩ := ih hZ hz
      generalize Z.foldl hG ([], 0) = W at *
      obtain ⟨x, k⟩ := W
      simp only at h1 h2 h3
      subst h2
      have hx := hZ x h1
      by_cases p : sumL a < sumL x ∨ sumL a = sumL x ∧ lexLt a x = true
      · have e : hG (x, sumL x) a = (a, sumL a) := by unfold hG; rw [if_pos (.inr p)]
        rw [e]; simp only
        refine ⟨by simp, trivial, ?_⟩
        intro y hy
        rcases List.mem_append.1 hy with hy | hy
        · obtain ⟨g1, g2⟩ := h3 y hy
          rcases p with p | ⟨p, p2⟩
          · exact ⟨by omega, fun h => by omega⟩
          · refine ⟨by omega, fun h => lex_le (lex_asymm p2) (g2 (by omega))⟩
        · simp at hy; subst hy; exact ⟨Int.le_refl _, fun _ => lex_irrefl _⟩
      · have e : hG (x, sumL x) a = (x, sumL x) := by unfold hG; rw [if_neg (by simp only [hx, false_or]; exact p)]
        rw [e]; simp only
        refine ⟨by simp [h1], trivial, ?_⟩
        intro y hy
        rcases List.mem_append.1 hy with hy | hy
        · exact h3 y hy
        · simp at hy; subst hy
          rw [not_or] at p
          refine ⟨by omega, fun h => ?_⟩
          have := p.2
          cases q : lexLt y x
          · rfl
          · exact absurd ⟨h, q⟩ this

theorem allL1_mem : ∀ (v : List Int), (∀ x ∈ v, 0 ≤ x ∧ x ≤ 2) → v ∈ allL 1 v.length
  | [], _ => by simp [allL]
  | a :: r, h => by
    have ih := allL1_mem r (fun x hx => h x (by simp [hx]))
    have ha := h a (by simp)
    simp only [List.length_cons, allL, List.mem_flatMap, List.mem_map]
    refine ⟨a.toNat, ?_, r, ih, by rw [Int.toNat_of_nonneg ha.1]⟩
    have : a = 0 ∨ a = 1 ∨ a = 2 := by omega
    rcases this with rfl | rfl | rfl <;> decide
theorem list_range (v : List Int) (n : Nat) (h : v.length = n) : v = (List.range n).map (fun a => v.getD a 0) := by
  apply List.ext_getElem
  · simp [h]
  · intro i h1 h2
    simp [List.getD_eq_getElem?_getD, List.getElem?_eq_getElem h1]
theorem sum_le {f g : Nat → Int} : ∀ l : List Nat, (∀ a ∈ l, f a ≤ g a) → sumL (l.map f) ≤ sumL (l.map g) ∧ (sumL (l.map f) = sumL (l.map g) → l.map f = l.map g)
  | [], _ => by simp
  | a :: r, h => by
    obtain ⟨h1, h2⟩ := sum_le (f := f) (g := g) r (fun x hx => h x (by simp [hx]))
    have ha := h a (by simp)
    simp only [List.map_cons, sumL]
    refine ⟨by omega, fun h3 => ?_⟩
    rw [h2 (by omega), show f a = g a by omega]

/-- The articles that have 0. -/
def zerosOf (v : List Int) : Nat := setOf (withL 0 v 0) 0
theorem zeros_bit (v : List Int) (u : Nat) : (zerosOf v).testBit u = true ↔ v[u]? = some 0 := by
  unfold zerosOf
  rw [setOf_testBit _ _ _ (fun x hx => by obtain ⟨k, _, h⟩ := (mem_withL _ _ _ _).1 hx; omega), Nat.zero_testBit, mem_withL]
  simp only [Bool.false_eq_true, false_or]
  constructor
  · rintro ⟨k, h1, h2⟩
    have : k = u := by omega
    subst this; exact h1
  · intro h; exact ⟨u, h, by simp⟩

section
variable {n : Nat} {ps : List (Int × Int)} (hn1 : 1 ≤ n) (hn : n ≤ 7) (hps : ∀ p ∈ ps, 0 ≤ p.1 ∧ p.1 < p.2 ∧ p.2 < (n : Int)) (h7 : ∀ p ∈ ps, okP p)
include hps
theorem nb_lt {u v : Nat} (h : nb ps u v) : u < n ∧ v < n ∧ u ≠ v := by
  rcases h with h | h
  · have := hps _ h; simp only at this; omega
  · have := hps _ h; simp only at this; omega
/-- Values are enough just if those of two articles that contradict each other are. -/
theorem half_nb (v : List Int) : halfOk ps v = true ↔ ∀ a b : Nat, nb ps a b → 2 ≤ v.getD a 0 + v.getD b 0 := by
  unfold halfOk
  rw [List.all_eq_true]
  constructor
  · intro h a b hab
    rcases hab with hab | hab
    · have := h _ hab; simpa [enough] using this
    · have := h _ hab
      simp only [enough, Int.toNat_natCast, decide_eq_true_iff] at this
      omega
  · intro h p hp
    have := hps p hp
    obtain ⟨u, v⟩ := p
    simp only at this
    obtain ⟨u, rfl⟩ := Int.eq_ofNat_of_zero_le this.1
    obtain ⟨v, rfl⟩ := Int.eq_ofNat_of_zero_le (show 0 ≤ v by omega)
    simp only [enough, Int.toNat_natCast, decide_eq_true_iff]
    exact h u v (.inl hp)
include hn h7
theorem two_lt {z : Nat} (hz : z < 2 ^ n) : twoOf ps z < 2 ^ n := by
  have h128 : z < 128 := Nat.lt_of_lt_of_le hz (Nat.le_trans (Nat.pow_le_pow_right (by omega) hn) (by decide))
  apply lt_two
  intro i hi
  obtain ⟨u, _, h⟩ := (two_bit h7 z i h128).1 hi
  exact (nb_lt hps h).2.1
theorem indep_iff {z : Nat} (hz : z < 2 ^ n) : twoOf ps z &&& z = 0 ↔ ∀ a b, nb ps a b → ¬(z.testBit a = true ∧ z.testBit b = true) := by
  have h128 : z < 128 := Nat.lt_of_lt_of_le hz (Nat.le_trans (Nat.pow_le_pow_right (by omega) hn) (by decide))
  constructor
  · rintro h a b hab ⟨h1, h2⟩
    have h3 := (two_bit h7 z b h128).2 ⟨a, h1, hab⟩
    have h4 : (twoOf ps z &&& z).testBit b = true := by rw [Nat.testBit_and, h3, h2]; rfl
    rw [h, Nat.zero_testBit] at h4; simp at h4
  · intro h
    apply Nat.eq_of_testBit_eq
    intro b
    rw [Nat.zero_testBit, Nat.testBit_and, Bool.and_eq_false_iff]
    cases h1 : (twoOf ps z).testBit b
    · exact .inl rfl
    · right
      obtain ⟨u, h2, h3⟩ := (two_bit h7 z b h128).1 h1
      have := h u b h3
      cases h4 : z.testBit b
      · rfl
      · exact absurd ⟨h2, h4⟩ this
theorem vals_getD (two z : Nat) {a : Nat} (ha : a < n) : (valsOf n two z).getD a 0 = 1 + bitI two a - bitI z a := by
  unfold valsOf
  rw [List.getD_eq_getElem?_getD, List.getElem?_map, List.getElem?_range ha]; rfl
theorem vals_ok {z : Nat} (hz : z < 2 ^ n) (hi : twoOf ps z &&& z = 0) : halfOk ps (valsOf n (twoOf ps z) z) = true ∧ valsOf n (twoOf ps z) z ∈ allL 1 n := by
  have h128 : z < 128 := Nat.lt_of_lt_of_le hz (Nat.le_trans (Nat.pow_le_pow_right (by omega) hn) (by decide))
  have hi2 := (indep_iff hn hps h7 hz).1 hi
  have hdis : ∀ a, ¬((twoOf ps z).testBit a = true ∧ z.testBit a = true) := by
    rintro a ⟨h1, h2⟩
    obtain ⟨u, h3, h4⟩ := (two_bit h7 z a h128).1 h1
    exact hi2 u a h4 ⟨h3, h2⟩
  refine ⟨?_, ?_⟩
  · rw [half_nb hps]
    intro a b hab
    have hl := nb_lt hps hab
    rw [vals_getD hn hps h7 _ _ hl.1, vals_getD hn hps h7 _ _ hl.2.1]
    simp only [bitI_eq]
    have t1 : z.testBit a = true → (twoOf ps z).testBit b = true := fun h => (two_bit h7 z b h128).2 ⟨a, h, hab⟩
    have t2 : z.testBit b = true → (twoOf ps z).testBit a = true := fun h => (two_bit h7 z a h128).2 ⟨b, h, nb_symm hab⟩
    have t3 := hi2 a b hab
    cases h1 : z.testBit a <;> cases h2 : z.testBit b <;> simp only [h1, h2, true_implies, Bool.false_eq_true, false_implies, and_self, not_true_eq_false] at t1 t2 t3
    · simp; split <;> split <;> omega
    · simp [t2]; split <;> omega
    · simp [t1]; split <;> omega
  · have hm := allL1_mem (valsOf n (twoOf ps z) z) (by
      intro x hx
      unfold valsOf at hx
      rw [List.mem_map] at hx
      obtain ⟨a, _, rfl⟩ := hx
      simp only [bitI_eq]
      split <;> split <;> omega)
    have hl : (valsOf n (twoOf ps z) z).length = n := by simp [valsOf]
    rwa [hl] at hm
/-- Values that are enough cost at least what those by their zeros cost; if as much they are these. -/
theorem vals_least {v : List Int} (hv : v ∈ allL 1 n) (hok : halfOk ps v = true) :
    zerosOf v < 2 ^ n ∧ twoOf ps (zerosOf v) &&& zerosOf v = 0 ∧ sumL (valsOf n (twoOf ps (zerosOf v)) (zerosOf v)) ≤ sumL v ∧ (sumL (valsOf n (twoOf ps (zerosOf v)) (zerosOf v)) = sumL v → valsOf n (twoOf ps (zerosOf v)) (zerosOf v) = v) := by
  obtain ⟨hl, hb⟩ := allL_in n v hv
  have hz : zerosOf v < 2 ^ n := by
    apply lt_two; intro i hi
    have h1 := (zeros_bit v i).1 hi
    have := (List.getElem?_eq_some_iff.1 h1).1
    omega
  have h128 : zerosOf v < 128 := Nat.lt_of_lt_of_le hz (Nat.le_trans (Nat.pow_le_pow_right (by omega) hn) (by decide))
  have hok2 := (half_nb hps v).1 hok
  have hgd : ∀ a, (zerosOf v).testBit a = true → v.getD a 0 = 0 := by
    intro a ha
    rw [List.getD_eq_getElem?_getD, (zeros_bit v a).1 ha]; rfl
  have hi : twoOf ps (zerosOf v) &&& zerosOf v = 0 := by
    rw [indep_iff hn hps h7 hz]
    rintro a b hab ⟨h1, h2⟩
    have := hok2 a b hab
    rw [hgd a h1, hgd b h2] at this
    omega
  have hle := sum_le (f := fun a => 1 + bitI (twoOf ps (zerosOf v)) a - bitI (zerosOf v) a) (g := fun a => v.getD a 0) (List.range n) (by
    intro a ha
    rw [List.mem_range] at ha
    simp only [bitI_eq]
    have hba : 0 ≤ v.getD a 0 := by
      rw [List.getD_eq_getElem?_getD, List.getElem?_eq_getElem (show a < v.length by omega)]; exact (hb _ (List.getElem_mem _)).1
    have hnz : (zerosOf v).testBit a = false → 1 ≤ v.getD a 0 := by
      intro h
      have h2 : ¬ v[a]? = some 0 := by rw [← zeros_bit, h]; simp
      rw [List.getElem?_eq_getElem (show a < v.length by omega)] at h2
      rw [List.getD_eq_getElem?_getD, List.getElem?_eq_getElem (show a < v.length by omega)] at hba ⊢
      simp at h2 hba ⊢
      omega
    have h2two : (twoOf ps (zerosOf v)).testBit a = true → 2 ≤ v.getD a 0 := by
      intro h
      obtain ⟨u, h3, h4⟩ := (two_bit h7 _ a h128).1 h
      have := hok2 u a h4
      rw [hgd u h3] at this; omega
    generalize v.getD a 0 = w at *
    cases h1 : (zerosOf v).testBit a
    · have := hnz h1
      cases h2 : (twoOf ps (zerosOf v)).testBit a
      · simp; omega
      · have := h2two h2; simp; omega
    · cases h2 : (twoOf ps (zerosOf v)).testBit a
      · simp; omega
      · have := h2two h2; simp; omega)
  refine ⟨hz, hi, ?_, ?_⟩
  · have := hle.1
    rwa [← list_range v n hl] at this
  · intro h
    have e := hle.2 (by rw [← list_range v n hl]; exact h)
    rw [← list_range v n hl] at e
    exact e
include hn1
theorem halves_spec : halvesV n ps ∈ cheap n 1 ps ∧ ∀ c ∈ cheap n 1 ps, lexLt c (halvesV n ps) = false := by
  have hfold : ∀ (l : List Nat) (s : List Int × Int), (∀ z ∈ l, z < 2 ^ n) → l.foldl (hStep n ps) s = ((l.filter fun z => decide (twoOf ps z &&& z = 0)).map fun z => valsOf n (twoOf ps z) z).foldl hG s := by
    intro l
    induction l with
    | nil => intro s _; rfl
    | cons z r ih =>
      intro s h
      rw [List.foldl_cons, ih _ (fun y hy => h y (by simp [hy]))]
      have hz := h z (by simp)
      by_cases p : twoOf ps z &&& z = 0
      · rw [List.filter_cons, if_pos (by simp [p]), List.map_cons, List.foldl_cons]
        congr 1
        unfold hStep hG
        rw [if_pos p, cost_sum hn (two_lt hn hps h7 hz) hz]
      · rw [List.filter_cons, if_neg (by simp [p])]
        congr 1
        unfold hStep
        rw [if_neg p]
  unfold halvesV
  rw [hfold _ _ (fun z hz => List.mem_range.1 hz)]
  generalize hY : ((List.range (2 ^ n)).filter fun z => decide (twoOf ps z &&& z = 0)).map (fun z => valsOf n (twoOf ps z) z) = Y
  have hmem : ∀ y, y ∈ Y ↔ ∃ z, z < 2 ^ n ∧ twoOf ps z &&& z = 0 ∧ valsOf n (twoOf ps z) z = y := by
    intro y; rw [← hY]; simp [and_assoc]
  have hok : ∀ y ∈ Y, halfOk ps y = true ∧ y ∈ allL 1 n := by
    intro y hy
    obtain ⟨z, h1, h2, rfl⟩ := (hmem y).1 hy
    exact vals_ok hn hps h7 h1 h2
  have hne : ∀ y ∈ Y, y ≠ [] := by
    intro y hy h
    have := (allL_in n y (hok y hy).2).1
    rw [h] at this; simp at this; omega
  have hY0 : Y ≠ [] := by
    have h0 := (half_ne (n := n) 1 hps)
    obtain ⟨v, hv⟩ := List.exists_mem_of_ne_nil _ h0
    rw [List.mem_filter] at hv
    obtain ⟨g1, g2, _⟩ := vals_least hn hps h7 hv.1 hv.2
    exact List.ne_nil_of_mem ((hmem _).2 ⟨_, g1, g2, rfl⟩)
  obtain ⟨k1, _, k3⟩ := hG_inv Y hne hY0
  generalize (Y.foldl hG ([], 0)).1 = r at *
  have hr := hok r k1
  refine ⟨?_, ?_⟩
  · rw [cheap_mem]
    refine ⟨⟨hr.2, hr.1⟩, fun y hy1 hy2 => ?_⟩
    obtain ⟨g1, g2, g3, _⟩ := vals_least hn hps h7 hy1 hy2
    have := (k3 _ ((hmem _).2 ⟨_, g1, g2, rfl⟩)).1
    omega
  · intro c hc
    obtain ⟨⟨c1, c2⟩, c3⟩ := cheap_mem.1 hc
    obtain ⟨g1, g2, g3, g4⟩ := vals_least hn hps h7 c1 c2
    have hin := (hmem _).2 ⟨_, g1, g2, rfl⟩
    have k := k3 _ hin
    have c4 := c3 r hr.2 hr.1
    have e := g4 (by omega)
    rw [e] at k
    exact k.2 (by omega)
end

attribute [local go_sem high] and_one shr_u shl_one or_u

/-! ### arrays of sets -/
theorem okRefsU (n : Nat) (xs : List Nat) : okRefs n (xs.map U) = true := okRefs_map U n (fun _ => rfl) xs
theorem renCellsU (n : Nat) (tips : List Nat) (acc : List (Nat × Nat)) (xs : List Nat) : renCells n tips acc (xs.map U) = (xs.map U, acc) := renCells_map U n tips (fun _ _ => rfl) xs acc
theorem getU (o : List Nat) (a : Nat) (h : a < o.length) : (o.map U)[a]? = some (U (o.getD a 0)) := by
  rw [getm U o 0 a, if_pos h]
theorem frzV_v (l : Nat) (cs : List AV) (x : Value) : frzV l cs (.v x) = .v x := by simp only [frzV]
theorem frzV_ptr (l : Nat) (cs : List AV) (i o : Nat) : frzV l cs (.ptr i o) = .ptr i o := by simp only [frzV]
theorem frzV_any (l : Nat) (cs : List AV) : frzV l cs .any = .any := by simp only [frzV]
theorem frzVs_kind (l : Nat) (cs : List AV) {β : Type} (f : β → Value) (xs : List β) : frzVs l cs (xs.map fun b => .v (f b)) = xs.map fun b => .v (f b) := by
  induction xs with
  | nil => rfl
  | cons x r ih => simp only [List.map_cons, frzVs, frzV, ih]
theorem frzVs_U (l : Nat) (cs : List AV) (xs : List Nat) : frzVs l cs (xs.map U) = xs.map U := frzVs_kind l cs (fun (n : Nat) => Value.int .u64 (n : Int)) xs
theorem frzV_sl (l : Nat) (cs : List AV) (z : Nat) (nl : Bool) (xs : List AV) : frzV l cs (sl z nl xs) = sl z nl xs := by
  cases xs with
  | nil => cases nl <;> rfl
  | cons x r => rw [sl_ne (by simp)]; simp only [frzV]
theorem refsV_sl (n : Nat) (acc : List Nat) (z : Nat) (nl : Bool) (xs : List AV) : refsV n acc (sl z nl xs) = acc := by
  cases xs with
  | nil => cases nl <;> rfl
  | cons x r => rw [sl_ne (by simp)]; simp only [refsV]
theorem mapL_sl (n : Nat) (M : List Nat) (z : Nat) (nl : Bool) (xs : List AV) : mapL n M (sl z nl xs) = sl z nl xs := by
  cases xs with
  | nil => cases nl <;> rfl
  | cons x r => rw [sl_ne (by simp)]; simp only [mapL]
theorem refsL_kind (n : Nat) {β : Type} (f : β → Value) : ∀ (xs : List β) (acc : List Nat), refsL n acc (xs.map fun b => .v (f b)) = acc
  | [], acc => rfl
  | x :: r, acc => by simp only [List.map_cons, refsL, refsV, refsL_kind n f r]
theorem mapLs_kind (n : Nat) (M : List Nat) {β : Type} (f : β → Value) : ∀ (xs : List β), mapLs n M (xs.map fun b => .v (f b)) = xs.map fun b => .v (f b)
  | [] => rfl
  | x :: r => by simp only [List.map_cons, mapLs, mapL, mapLs_kind n M f r]
theorem refsL_U (n : Nat) (xs : List Nat) (acc : List Nat) : refsL n acc (xs.map U) = acc := refsL_kind n (fun (n : Nat) => Value.int .u64 (n : Int)) xs acc
theorem mapLs_U (n : Nat) (M : List Nat) (xs : List Nat) : mapLs n M (xs.map U) = xs.map U := mapLs_kind n M (fun (n : Nat) => Value.int .u64 (n : Int)) xs
theorem len_seven {α : Type} {l : List α} (h : l.length = 7) : ∃ a b c d e f g, l = [a, b, c, d, e, f, g] := by
  match l, h with
  | [a, b, c, d, e, f, g], _ => exact ⟨a, b, c, d, e, f, g, rfl⟩
theorem sh1_lt (b : Nat) (h : b < 7) : sh1 b = 2 ^ b ∧ 2 ^ b < 128 := ⟨sh1_eq b (by omega), Nat.pow_lt_pow_right (by omega) (show b < 7 from h)⟩
theorem small_getD {o : List Nat} (h : ∀ x ∈ o, x < 128) (a : Nat) : o.getD a 0 < 128 := by
  rw [List.getD_eq_getElem?_getD]
  cases h2 : o[a]?
  · simp
  · exact h _ (List.mem_of_getElem? h2)
theorem orAt_small {o : List Nat} (h : ∀ x ∈ o, x < 128) {a b : Nat} (hb : b < 7) : ∀ x ∈ orAt o a b, x < 128 := by
  intro x hx
  unfold orAt at hx
  rcases List.mem_or_eq_of_mem_set hx with hx | rfl
  · exact h x hx
  · exact Nat.or_lt_two_pow (n := 7) (small_getD h a) (sh1_lt b hb).2

def z7 : List AV := [U 0, U 0, U 0, U 0, U 0, U 0, U 0]

theorem loop89 (nl : Bool) (n : Int) (ps : List (Int × Int)) (hlen : ps.length < 1000000) (h7 : ∀ p ∈ ps, okP p) (i : Nat) (o : List Nat) (hok : i ≤ ps.length ∧ o.length = 7 ∧ ∀ x ∈ o, x < 128) (env : Env) (st : St)
    (hg : gcAV true 3 0 (canon env [2, 3, 7, 8, 9]) st = ([(2, .ptr 1 0), (3, .ptr 2 0), (7, sl 2 nl (ps.map prAV)), (8, I ps.length), (9, I i)], ⟨[bkCells nl n ps, z7, o.map U], []⟩)) :
    ∃ x_1 en s, lim (headed pure (run L) true [2, 3, 7, 8, 9] lp89_0 3 0) env st = some (x_1, en, s) ∧ (x_1 = .exit 0 ∧ en.get 2 = .ptr 1 0 ∧ en.get 3 = .ptr 2 0 ∧ s = ⟨[bkCells nl n ps, z7, ((ps.drop i).foldl adv1 o).map U], []⟩ ∧ ((ps.drop i).foldl adv1 o).length = 7) := by
  refine loop_wp (α := Nat × List Nat) (fun ⟨i, o⟩ => ps.length - i) (fun ⟨i, o⟩ => i ≤ ps.length ∧ o.length = 7 ∧ ∀ x ∈ o, x < 128) (fun ⟨i, o⟩ => ([(2, .ptr 1 0), (3, .ptr 2 0), (7, sl 2 nl (ps.map prAV)), (8, I ps.length), (9, I i)], ⟨[bkCells nl n ps, z7, o.map U], []⟩)) (fun ⟨i, o⟩ x_1 en s => x_1 = .exit 0 ∧ en.get 2 = .ptr 1 0 ∧ en.get 3 = .ptr 2 0 ∧ s = ⟨[bkCells nl n ps, z7, ((ps.drop i).foldl adv1 o).map U], []⟩ ∧ ((ps.drop i).foldl adv1 o).length = 7) (fun ⟨i, o⟩ hok => ?_) ⟨i, o⟩ hok env st hg
  simp only at hok
  obtain ⟨h1, h2, h3⟩ := hok
  dsimp only
  by_cases h : i < ps.length
  · have hx := index_prs nl ps i h
    have hs := succ64 i (by omega)
    have hd : ps.drop i = ps[i] :: ps.drop (i + 1) := List.drop_eq_getElem_cons h
    have hp := h7 ps[i] (List.getElem_mem h)
    rw [hd, List.foldl_cons]
    generalize ps[i] = c at *
    obtain ⟨u, v⟩ := c
    obtain ⟨a1, a2, a3, a4⟩ := hp
    simp only at a1 a2 a3 a4 hx
    obtain ⟨u, rfl⟩ := Int.eq_ofNat_of_zero_le a1
    obtain ⟨v, rfl⟩ := Int.eq_ofNat_of_zero_le a3
    have hlt : ((i : Int) < (ps.length : Int)) = True := eq_true (by omega)
    have hu : u < 7 := by omega
    have hv : v < 7 := by omega
    have e1 : orU (o.getD u 0) (sh1 v) = o.getD u 0 ||| 2 ^ v := by rw [(sh1_lt v hv).1, orU_eq _ _ (small_getD h3 u) (sh1_lt v hv).2]
    have hs1 := orAt_small h3 (a := u) hv
    have hl1 := orAt_len o u v
    have e2 : orU ((orAt o u v).getD v 0) (sh1 u) = (orAt o u v).getD v 0 ||| 2 ^ u := by rw [(sh1_lt u hu).1, orU_eq _ _ (small_getD hs1 v) (sh1_lt u hu).2]
    have hs2 := orAt_small hs1 (a := v) hu
    have hl2 := orAt_len (orAt o u v) v u
    have g1 := getU o u (by omega)
    have g2 := getU (orAt o u v) v (by omega)
    have hset1 : o.set u (o.getD u 0 ||| 2 ^ v) = orAt o u v := rfl
    have hset2 : (orAt o u v).set v ((orAt o u v).getD v 0 ||| 2 ^ u) = adv1 o ((u : Int), (v : Int)) := rfl
    have hadv : adv1 o ((u : Int), (v : Int)) = orAt (orAt o u v) v u := rfl
    have b1 : ((0 : Int) ≤ (u : Int)) = True := eq_true (by omega)
    have b2 : ((u : Int) < 7) = True := eq_true (by omega)
    have b3 : ((0 : Int) ≤ (v : Int)) = True := eq_true (by omega)
    have b4 : ((v : Int) < 7) = True := eq_true (by omega)
    have b5 : (u + 1 ≤ 7) = True := eq_true (by omega)
    have b6 : (v + 1 ≤ 7) = True := eq_true (by omega)
    rw [h2] at hl1
    rw [hl1] at hl2
    rw [← hadv] at hs2 hl2
    generalize adv1 o ((u : Int), (v : Int)) = o2 at *
    simp only [go_sem, reduceIte, Nat.reduceEqDiff, Nat.reduceAdd, Nat.reduceSub, Nat.reduceLeDiff, Nat.reduceLT, reduceCtorEq, Int.reduceLT, Int.reduceLE, Int.reduceEq, Int.reduceBEq, Int.reduceSub, Int.reduceAdd, Int.reduceMul, Int.reduceNeg, Int.reduceToNat, Nat.reduceMul, Nat.reduceBEq, index_rsl_if, setm, make_ints, condK_dec, wantK_dec, not_dec, and_dec, or_dec, seqK_ite, seqK_none, blockK_ite, blockK_none, opsK_ite, opsK_none, stepK_ite, stepK_none, bodyK_ite, bodyK_none, resK_ite, resK_none, leaveK_ite, leaveK_none, only_ite, only_none, bind_ite, gives_some, gives_none, gives_ite, then_normal, then_ret, then_exit, then_none, then_ite, Option.bind_none, Bool.not_eq_true', decide_eq_false_iff_not, Bool.and_eq_true, Bool.or_eq_true, Option.some.injEq, Int.not_lt, Int.not_le, lp89_0, hx, hlt, hs, b1, b2, b3, b4, b5, b6, g1, g2, e1, e2, hset1, hset2, h2, hl1, hl2, List.length_map]
    refine ⟨(i + 1, o2), by simp only [go_sem, reduceIte, Nat.reduceEqDiff, Nat.reduceAdd, Nat.reduceSub, Nat.reduceLeDiff, Nat.reduceLT, reduceCtorEq, Int.reduceLT, Int.reduceLE, Int.reduceEq, Int.reduceBEq, Int.reduceSub, Int.reduceAdd, Int.reduceMul, Int.reduceNeg, Int.reduceToNat, Nat.reduceMul, Nat.reduceBEq, ren1_locm, loc_tips, locT_eq, okRefsU, renCellsU, z7] <;> rfl, ?_, ?_, fun x en s hq => ?_⟩
    · dsimp only; exact ⟨by omega, hl2, hs2⟩
    · simp only; omega
    · exact hq
  · have hd : ps.drop i = [] := List.drop_eq_nil_of_le (by omega)
    have hlt : ((i : Int) < (ps.length : Int)) = False := eq_false (by omega)
    simp only [go_sem, reduceIte, Nat.reduceEqDiff, Nat.reduceAdd, Nat.reduceSub, Nat.reduceLeDiff, Nat.reduceLT, reduceCtorEq, Int.reduceLT, Int.reduceLE, Int.reduceEq, Int.reduceBEq, Int.reduceSub, Int.reduceAdd, Int.reduceMul, Int.reduceNeg, Int.reduceToNat, Nat.reduceMul, Nat.reduceBEq, index_rsl_if, setm, make_ints, condK_dec, wantK_dec, not_dec, and_dec, or_dec, seqK_ite, seqK_none, blockK_ite, blockK_none, opsK_ite, opsK_none, stepK_ite, stepK_none, bodyK_ite, bodyK_none, resK_ite, resK_none, leaveK_ite, leaveK_none, only_ite, only_none, bind_ite, gives_some, gives_none, gives_ite, then_normal, then_ret, then_exit, then_none, then_ite, Option.bind_none, Bool.not_eq_true', decide_eq_false_iff_not, Bool.and_eq_true, Bool.or_eq_true, Option.some.injEq, Int.not_lt, Int.not_le, lp89_0, hlt, List.length_map]
    rw [hd]; exact ⟨rfl, h2⟩

theorem c89 (nl : Bool) (n : Int) (ps : List (Int × Int)) (hlen : ps.length < 1000000) (h7 : ∀ p ∈ ps, okP p) (st : St) :
    run L 89 [bkAV nl n ps] st = some (.agg ((advL ps).map U), st) := by
  rw [run_pure (fn := ir89) rfl rfl]
  simp only [ir89, go_sem, reduceIte, Nat.reduceEqDiff, Nat.reduceAdd, Nat.reduceSub, Nat.reduceLeDiff, Nat.reduceLT, reduceCtorEq, Int.reduceLT, Int.reduceLE, Int.reduceEq, Int.reduceBEq, Int.reduceSub, Int.reduceAdd, Int.reduceMul, Int.reduceNeg, Int.reduceToNat, Nat.reduceMul, Nat.reduceBEq, List.length_map]
  generalize hg : lim (headed pure (run L) true _ lp89_0 _ _) _ _ = o
  obtain ⟨x, en, s, rfl, h2⟩ : ∃ x en s, o = some (x, en, s) ∧ _ := by rw [← hg]; exact loop89 nl n ps hlen h7 0 (List.replicate 7 0) ⟨by omega, by simp, by simp⟩ _ _ (by simp only [go_sem, reduceIte, Nat.reduceEqDiff, Nat.reduceAdd, Nat.reduceSub, Nat.reduceLeDiff, Nat.reduceLT, reduceCtorEq, Int.reduceLT, Int.reduceLE, Int.reduceEq, Int.reduceBEq, Int.reduceSub, Int.reduceAdd, Int.reduceMul, Int.reduceNeg, Int.reduceToNat, Nat.reduceMul, Nat.reduceBEq, z7, List.map_replicate] <;> rfl)
  clear hg
  obtain ⟨rfl, h3, h4, rfl, h5⟩ := h2
  rw [List.drop_zero] at h5 ⊢
  have e : ps.foldl adv1 (List.replicate 7 0) = advL ps := rfl
  rw [e] at h5 ⊢
  obtain ⟨a, b, c, d, f, g, k, h6⟩ := len_seven h5
  rw [h6]
  simp only [go_sem, reduceIte, Nat.reduceEqDiff, Nat.reduceAdd, Nat.reduceSub, Nat.reduceLeDiff, Nat.reduceLT, reduceCtorEq, Int.reduceLT, Int.reduceLE, Int.reduceEq, Int.reduceBEq, Int.reduceSub, Int.reduceAdd, Int.reduceMul, Int.reduceNeg, Int.reduceToNat, Nat.reduceMul, Nat.reduceBEq, h3, h4, z7]

attribute [local go_sem high] and_one shr_u shl_one or_u

/-- The union of sets. -/
def unionOf (adj : List Nat) (t : Nat) (a : Int) : Nat := t ||| adj.getD a.toNat 0

theorem loop81_0 (nl : Bool) (n : Nat) (ps : List (Int × Int)) (adj : List Nat) (hadj : adj.length = 7) (hsm : ∀ x ∈ adj, x < 128) (z N : Nat) (best : List Int) (least : Int) (l : List Int) (hlen : l.length < 1000) (hl : ∀ a ∈ l, 0 ≤ a ∧ a < 7) (i : Nat) (t : Nat) (hok : i ≤ l.length ∧ t < 128) (env : Env) (st : St)
    (hg : gcAV true 2 0 (canon env [1, 3, 4, 5, 6, 7, 17, 18, 22, 23, 24]) st = ([(1, .ptr 0 0), (3, .ptr 1 0), (4, sl 1 true (best.map I)), (5, I least), (6, U z), (7, .v (.int .u64 (t : Int))), (17, U N), (18, U z), (22, sl 1 true (l.map I)), (23, I l.length), (24, I i)], ⟨[bkCells nl n ps, adj.map U], []⟩)) :
    ∃ x_1 en s, lim (headed pure (run L) true [1, 3, 4, 5, 6, 7, 17, 18, 22, 23, 24] lp81_0 2 0) env st = some (x_1, en, s) ∧ (x_1 = .exit 2 ∧ en.get 1 = .ptr 0 0 ∧ en.get 3 = .ptr 1 0 ∧ en.get 4 = sl 1 true (best.map I) ∧ en.get 5 = I least ∧ en.get 6 = U z ∧ en.get 7 = U ((l.drop i).foldl (unionOf adj) t) ∧ en.get 17 = U N ∧ en.get 18 = U z ∧ en.get 3000000 = .any ∧ s = ⟨[bkCells nl n ps, adj.map U], []⟩) := by
  refine loop_wp (α := Nat × Nat) (fun ⟨i, t⟩ => l.length - i) (fun ⟨i, t⟩ => i ≤ l.length ∧ t < 128) (fun ⟨i, t⟩ => ([(1, .ptr 0 0), (3, .ptr 1 0), (4, sl 1 true (best.map I)), (5, I least), (6, U z), (7, .v (.int .u64 (t : Int))), (17, U N), (18, U z), (22, sl 1 true (l.map I)), (23, I l.length), (24, I i)], ⟨[bkCells nl n ps, adj.map U], []⟩)) (fun ⟨i, t⟩ x_1 en s => x_1 = .exit 2 ∧ en.get 1 = .ptr 0 0 ∧ en.get 3 = .ptr 1 0 ∧ en.get 4 = sl 1 true (best.map I) ∧ en.get 5 = I least ∧ en.get 6 = U z ∧ en.get 7 = U ((l.drop i).foldl (unionOf adj) t) ∧ en.get 17 = U N ∧ en.get 18 = U z ∧ en.get 3000000 = .any ∧ s = ⟨[bkCells nl n ps, adj.map U], []⟩) (fun ⟨i, t⟩ hok => ?_) ⟨i, t⟩ hok env st hg
  simp only at hok
  obtain ⟨h1, h2⟩ := hok
  dsimp only
  by_cases h : i < l.length
  · have hx := index_ints true l i h
    have hs := succ64 i (by omega)
    have hd : l.drop i = l[i] :: l.drop (i + 1) := List.drop_eq_getElem_cons h
    have hlt : ((i : Int) < (l.length : Int)) = True := eq_true (by omega)
    have ha := hl l[i] (List.getElem_mem h)
    rw [hd, List.foldl_cons]
    generalize l[i] = a at *
    obtain ⟨a, rfl⟩ := Int.eq_ofNat_of_zero_le ha.1
    have g1 := getU adj a (by omega)
    have b1 : ((0 : Int) ≤ (a : Int)) = True := eq_true ha.1
    have b2 : ((a : Int) < 7) = True := eq_true ha.2
    have e1 := orU_eq t (adj.getD a 0) h2 (small_getD hsm a)
    have e2 : unionOf adj t (a : Int) = t ||| adj.getD a 0 := rfl
    have e3 : t ||| adj.getD a 0 < 128 := Nat.or_lt_two_pow (n := 7) h2 (small_getD hsm a)
    rw [e2]
    generalize adj.getD a 0 = w at *
    generalize t ||| w = t2 at *
    simp only [go_sem, reduceIte, Nat.reduceEqDiff, Nat.reduceAdd, Nat.reduceSub, Nat.reduceLeDiff, Nat.reduceLT, reduceCtorEq, Int.reduceLT, Int.reduceLE, Int.reduceEq, Int.reduceBEq, Int.reduceSub, Int.reduceAdd, Int.reduceMul, Int.reduceNeg, Int.reduceToNat, Nat.reduceMul, Nat.reduceBEq, index_rsl_if, setm, make_ints, condK_dec, wantK_dec, not_dec, and_dec, or_dec, seqK_ite, seqK_none, blockK_ite, blockK_none, opsK_ite, opsK_none, stepK_ite, stepK_none, bodyK_ite, bodyK_none, resK_ite, resK_none, leaveK_ite, leaveK_none, only_ite, only_none, bind_ite, gives_some, gives_none, gives_ite, then_normal, then_ret, then_exit, then_none, then_ite, Option.bind_none, Bool.not_eq_true', decide_eq_false_iff_not, Bool.and_eq_true, Bool.or_eq_true, Option.some.injEq, Int.not_lt, Int.not_le, lp81_0, hx, hlt, hs, g1, b1, b2, e1]
    refine ⟨(i + 1, t2), by simp only [go_sem, reduceIte, Nat.reduceEqDiff, Nat.reduceAdd, Nat.reduceSub, Nat.reduceLeDiff, Nat.reduceLT, reduceCtorEq, Int.reduceLT, Int.reduceLE, Int.reduceEq, Int.reduceBEq, Int.reduceSub, Int.reduceAdd, Int.reduceMul, Int.reduceNeg, Int.reduceToNat, Nat.reduceMul, Nat.reduceBEq, ren1_locm, loc_tips, locT_eq, okRefsU, renCellsU] <;> rfl, ?_, ?_, fun x en s hq => ?_⟩
    · dsimp only; exact ⟨by omega, e3⟩
    · simp only; omega
    · exact hq
  · have hd : l.drop i = [] := List.drop_eq_nil_of_le (by omega)
    have hlt : ((i : Int) < (l.length : Int)) = False := eq_false (by omega)
    simp only [go_sem, reduceIte, Nat.reduceEqDiff, Nat.reduceAdd, Nat.reduceSub, Nat.reduceLeDiff, Nat.reduceLT, reduceCtorEq, Int.reduceLT, Int.reduceLE, Int.reduceEq, Int.reduceBEq, Int.reduceSub, Int.reduceAdd, Int.reduceMul, Int.reduceNeg, Int.reduceToNat, Nat.reduceMul, Nat.reduceBEq, index_rsl_if, setm, make_ints, condK_dec, wantK_dec, not_dec, and_dec, or_dec, seqK_ite, seqK_none, blockK_ite, blockK_none, opsK_ite, opsK_none, stepK_ite, stepK_none, bodyK_ite, bodyK_none, resK_ite, resK_none, leaveK_ite, leaveK_none, only_ite, only_none, bind_ite, gives_some, gives_none, gives_ite, then_normal, then_ret, then_exit, then_none, then_ite, Option.bind_none, Bool.not_eq_true', decide_eq_false_iff_not, Bool.and_eq_true, Bool.or_eq_true, Option.some.injEq, Int.not_lt, Int.not_le, lp81_0, hlt]
    rw [hd]; rfl

/-- The values so far. -/
def valsTo (two z : Nat) (n k : Nat) : List Int := (List.range k).map (fun a => 1 + bitI two a - bitI z a) ++ List.replicate (n - k) 0
theorem valsTo_len (two z n k : Nat) (h : k ≤ n) : (valsTo two z n k).length = n := by simp [valsTo]; omega
theorem valsTo_zero (two z n : Nat) : valsTo two z n 0 = List.replicate n 0 := by simp [valsTo]
theorem valsTo_full (two z n : Nat) : valsTo two z n n = valsOf n two z := by simp [valsTo, valsOf]
theorem valsTo_set (two z n k : Nat) (h : k < n) : (valsTo two z n k).set k (1 + bitI two k - bitI z k) = valsTo two z n (k + 1) := by
  unfold valsTo
  obtain ⟨m, hm⟩ : ∃ m, n - k = m + 1 := ⟨n - k - 1, by omega⟩
  rw [hm, show n - (k + 1) = m by omega, List.range_succ, List.map_append, List.replicate_succ, List.set_append]
  rw [if_neg (by simp)]
  simp

theorem loop81_1 (nl : Bool) (n : Nat) (hn : n ≤ 7) (ps : List (Int × Int)) (adj : List Nat) (z two N : Nat) (best : List Int) (least cost : Int) (i : Nat) (hok : i ≤ n) (env : Env) (st : St)
    (hg : gcAV true 3 0 (canon env [1, 3, 4, 5, 6, 7, 10, 11, 17, 18, 50, 51]) st = ([(1, .ptr 0 0), (3, .ptr 1 0), (4, sl 1 true (best.map I)), (5, I least), (6, U z), (7, U two), (10, I cost), (11, .rsl 2 0 n n 1 false), (17, U N), (18, U z), (50, I n), (51, I i)], ⟨[bkCells nl n ps, adj.map U, (valsTo two z n i).map I], []⟩)) :
    ∃ x_1 en s, lim (headed pure (run L) true [1, 3, 4, 5, 6, 7, 10, 11, 17, 18, 50, 51] lp81_1 3 0) env st = some (x_1, en, s) ∧ (x_1 = .exit 4 ∧ en.get 1 = .ptr 0 0 ∧ en.get 3 = .ptr 1 0 ∧ en.get 4 = sl 1 true (best.map I) ∧ en.get 5 = I least ∧ en.get 10 = I cost ∧ en.get 11 = .rsl 2 0 n n 1 false ∧ en.get 17 = U N ∧ en.get 18 = U z ∧ en.get 3000000 = .any ∧ s = ⟨[bkCells nl n ps, adj.map U, (valsOf n two z).map I], []⟩) := by
  refine loop_wp (α := Nat) (fun i => n - i) (fun i => i ≤ n) (fun i => ([(1, .ptr 0 0), (3, .ptr 1 0), (4, sl 1 true (best.map I)), (5, I least), (6, U z), (7, U two), (10, I cost), (11, .rsl 2 0 n n 1 false), (17, U N), (18, U z), (50, I n), (51, I i)], ⟨[bkCells nl n ps, adj.map U, (valsTo two z n i).map I], []⟩)) (fun i x_1 en s => x_1 = .exit 4 ∧ en.get 1 = .ptr 0 0 ∧ en.get 3 = .ptr 1 0 ∧ en.get 4 = sl 1 true (best.map I) ∧ en.get 5 = I least ∧ en.get 10 = I cost ∧ en.get 11 = .rsl 2 0 n n 1 false ∧ en.get 17 = U N ∧ en.get 18 = U z ∧ en.get 3000000 = .any ∧ s = ⟨[bkCells nl n ps, adj.map U, (valsOf n two z).map I], []⟩) (fun i hok => ?_) i hok env st hg
  by_cases h : i < n
  · have hs := succ64 i (by omega)
    have hlt : ((i : Int) < (n : Int)) = True := eq_true (by omega)
    have hm1 := min64 i (by omega)
    have hb : ∀ m, IntKind.i64.wrap (((m >>> i) % 2 : Nat) : Int) = bitI m i := fun m => by unfold bitI; rw [wrap64] <;> omega
    have b1 : bitI two i = 0 ∨ bitI two i = 1 := by rw [bitI_eq]; split <;> simp
    have b2 : bitI z i = 0 ∨ bitI z i = 1 := by rw [bitI_eq]; split <;> simp
    have w1 : IntKind.i64.wrap (1 + bitI two i) = 1 + bitI two i := by rw [wrap64] <;> omega
    have w2 : IntKind.i64.wrap (1 + bitI two i - bitI z i) = 1 + bitI two i - bitI z i := by rw [wrap64] <;> omega
    have hset := valsTo_set two z n i h
    have hl := valsTo_len two z n i (by omega)
    have hi0 : ((0 : Int) ≤ (i : Int)) = True := eq_true (by omega)
    have hi1 : (i + 1 ≤ n) = True := eq_true (by omega)
    simp only [go_sem, reduceIte, Nat.reduceEqDiff, Nat.reduceAdd, Nat.reduceSub, Nat.reduceLeDiff, Nat.reduceLT, reduceCtorEq, Int.reduceLT, Int.reduceLE, Int.reduceEq, Int.reduceBEq, Int.reduceSub, Int.reduceAdd, Int.reduceMul, Int.reduceNeg, Int.reduceToNat, Nat.reduceMul, Nat.reduceBEq, index_rsl_if, setm, make_ints, condK_dec, wantK_dec, not_dec, and_dec, or_dec, seqK_ite, seqK_none, blockK_ite, blockK_none, opsK_ite, opsK_none, stepK_ite, stepK_none, bodyK_ite, bodyK_none, resK_ite, resK_none, leaveK_ite, leaveK_none, only_ite, only_none, bind_ite, gives_some, gives_none, gives_ite, then_normal, then_ret, then_exit, then_none, then_ite, Option.bind_none, Bool.not_eq_true', decide_eq_false_iff_not, Bool.and_eq_true, Bool.or_eq_true, Option.some.injEq, Int.not_lt, Int.not_le, lp81_1, hlt, hs, hm1, hb, w1, w2, hset, hl, hi0, hi1, List.length_map]
    refine ⟨i + 1, by simp only [go_sem, reduceIte, Nat.reduceEqDiff, Nat.reduceAdd, Nat.reduceSub, Nat.reduceLeDiff, Nat.reduceLT, reduceCtorEq, Int.reduceLT, Int.reduceLE, Int.reduceEq, Int.reduceBEq, Int.reduceSub, Int.reduceAdd, Int.reduceMul, Int.reduceNeg, Int.reduceToNat, Nat.reduceMul, Nat.reduceBEq, ren1_locm, loc_tips, locT_eq, okRefsU, renCellsU] <;> rfl, ?_, ?_, fun x en s hq => ?_⟩
    · omega
    · omega
    · exact hq
  · obtain rfl : i = n := by omega
    have hlt : ((i : Int) < (i : Int)) = False := eq_false (by omega)
    simp only [go_sem, reduceIte, Nat.reduceEqDiff, Nat.reduceAdd, Nat.reduceSub, Nat.reduceLeDiff, Nat.reduceLT, reduceCtorEq, Int.reduceLT, Int.reduceLE, Int.reduceEq, Int.reduceBEq, Int.reduceSub, Int.reduceAdd, Int.reduceMul, Int.reduceNeg, Int.reduceToNat, Nat.reduceMul, Nat.reduceBEq, index_rsl_if, setm, make_ints, condK_dec, wantK_dec, not_dec, and_dec, or_dec, seqK_ite, seqK_none, blockK_ite, blockK_none, opsK_ite, opsK_none, stepK_ite, stepK_none, bodyK_ite, bodyK_none, resK_ite, resK_none, leaveK_ite, leaveK_none, only_ite, only_none, bind_ite, gives_some, gives_none, gives_ite, then_normal, then_ret, then_exit, then_none, then_ite, Option.bind_none, Bool.not_eq_true', decide_eq_false_iff_not, Bool.and_eq_true, Bool.or_eq_true, Option.some.injEq, Int.not_lt, Int.not_le, lp81_1, hlt]
    rw [valsTo_full]


def andN (a b : Nat) : Nat := a % 2 ^ 64 &&& b % 2 ^ 64
theorem and_u (a b : Nat) : binAV .and none (.v (.int .u64 (a : Int))) (.v (.int .u64 (b : Int))) = some (.v (.int .u64 ((andN a b : Nat) : Int))) := by
  have h : (BitVec.ofInt 64 (a : Int) &&& BitVec.ofInt 64 (b : Int)).toNat = andN a b := by
    rw [BitVec.toNat_and]; simp [BitVec.ofInt_natCast, andN]
  show some (AV.v (.int .u64 (IntKind.u64.wrap ((BitVec.ofInt 64 (a : Int) &&& BitVec.ofInt 64 (b : Int)).toNat : Int)))) = _
  rw [h, wrapU]
  unfold andN
  exact Nat.lt_of_le_of_lt Nat.and_le_left (Nat.mod_lt _ (by decide))
theorem andN_eq (a b : Nat) (ha : a < 128) (hb : b < 128) : andN a b = a &&& b := by
  unfold andN; rw [Nat.mod_eq_of_lt (by omega), Nat.mod_eq_of_lt (by omega)]
attribute [local go_sem high] and_one shr_u shl_one or_u and_u

theorem frzL2 {a b cs : List AV} (hne : cs ≠ []) (r : List (List AV)) (T : List Nat) (env : Env) :
    frzL 2 env ⟨a :: b :: cs :: r, T⟩ = (frzEnv 2 cs env, ⟨frzVs 2 cs a :: frzVs 2 cs b :: [] :: frzStore 2 cs r, T⟩) := by
  cases cs with
  | nil => exact absurd rfl hne
  | cons c cs => rfl
theorem cell1_I (x : Int) : cell1 (I x) = I x := rfl
theorem frzV_made (l : Nat) (xs : List Int) (h : xs ≠ []) : frzV l (xs.map I) (.rsl l 0 xs.length xs.length 1 false) = sl 1 true (xs.map I) := by
  simp only [frzV, List.length_map, List.drop_zero]
  rw [if_pos ⟨trivial, by omega, .inr trivial, Nat.le_refl _⟩, pubs_map I (fun _ => rfl), groupm_one I cell1_I, sl_ne (by simpa using h)]

theorem memb_in (m : Nat) : ∀ a ∈ memb m, 0 ≤ a ∧ a < 7 := by
  intro a ha
  unfold memb at ha
  simp only [List.mem_map, List.mem_filter, List.mem_range] at ha
  obtain ⟨k, ⟨h1, _⟩, rfl⟩ := ha
  omega

set_option maxHeartbeats 4000000 in
theorem loop81 (nl : Bool) (n : Nat) (hn1 : 1 ≤ n) (hn : n ≤ 7) (ps : List (Int × Int)) (hps : ∀ p ∈ ps, 0 ≤ p.1 ∧ p.1 < p.2 ∧ p.2 < (n : Int)) (h7 : ∀ p ∈ ps, okP p) (hadj : (advL ps).length = 7) (hsm : ∀ x ∈ advL ps, x < 128) (z : Nat) (best : List Int) (least : Int) (hok : z ≤ 2 ^ n) (env : Env) (st : St)
    (hg : gcAV true 2 0 (canon env [1, 3, 4, 5, 17, 18, 3000000]) st = ([(1, .ptr 0 0), (3, .ptr 1 0), (4, sl 1 true (best.map I)), (5, I least), (17, .v (.int .u64 ((2 ^ n : Nat) : Int))), (18, .v (.int .u64 (z : Int))), (3000000, .any)], ⟨[bkCells nl n ps, (advL ps).map U], []⟩)) :
    ∃ x_1 en s, lim (headed pure (run L) true [1, 3, 4, 5, 17, 18, 3000000] lp81_2 2 0) env st = some (x_1, en, s) ∧ (x_1 = .exit 0 ∧ en.get 4 = sl 1 true (((List.range' z (2 ^ n - z)).foldl (hStep n ps) (best, least)).1.map I)) := by
  refine loop_wp (α := Nat × List Int × Int) (fun ⟨z, best, least⟩ => 2 ^ n - z) (fun ⟨z, best, least⟩ => z ≤ 2 ^ n) (fun ⟨z, best, least⟩ => ([(1, .ptr 0 0), (3, .ptr 1 0), (4, sl 1 true (best.map I)), (5, I least), (17, .v (.int .u64 ((2 ^ n : Nat) : Int))), (18, .v (.int .u64 (z : Int))), (3000000, .any)], ⟨[bkCells nl n ps, (advL ps).map U], []⟩)) (fun ⟨z, best, least⟩ x_1 en s => x_1 = .exit 0 ∧ en.get 4 = sl 1 true (((List.range' z (2 ^ n - z)).foldl (hStep n ps) (best, least)).1.map I)) (fun ⟨z, best, least⟩ hok => ?_) ⟨z, best, least⟩ hok env st hg
  simp only at hok
  have h128 : 2 ^ n ≤ 128 := Nat.le_trans (Nat.pow_le_pow_right (by omega) hn) (by decide)
  dsimp only
  by_cases h : z < 2 ^ n
  · have hlt : ((z : Int) < ((2 ^ n : Nat) : Int)) = True := eq_true (by omega)
    have e0 : List.range' z (2 ^ n - z) = z :: List.range' (z + 1) (2 ^ n - (z + 1)) := by
      rw [show 2 ^ n - z = (2 ^ n - (z + 1)) + 1 by omega, List.range'_succ]
    rw [e0, List.foldl_cons]
    have hz : z < 128 := by omega
    have h104 := fun st => c104 z hz st
    have h108z := fun st => c108 z hz st
    have hs := succU z (by omega)
    have hlm := memb_len z
    have htwo : ((memb z).drop 0).foldl (unionOf (advL ps)) 0 = twoOf ps z := rfl
    have ht2 : twoOf ps z < 2 ^ n := two_lt hn hps h7 h
    have ht : twoOf ps z < 128 := by omega
    have h108t := fun st => c108 (twoOf ps z) ht st
    have hlt2 := memb_len (twoOf ps z)
    have hand := andN_eq (twoOf ps z) z ht hz
    simp only [go_sem, reduceIte, Nat.reduceEqDiff, Nat.reduceAdd, Nat.reduceSub, Nat.reduceLeDiff, Nat.reduceLT, reduceCtorEq, Int.reduceLT, Int.reduceLE, Int.reduceEq, Int.reduceBEq, Int.reduceSub, Int.reduceAdd, Int.reduceMul, Int.reduceNeg, Int.reduceToNat, Nat.reduceMul, Nat.reduceBEq, index_rsl_if, setm, make_ints, condK_dec, wantK_dec, not_dec, and_dec, or_dec, seqK_ite, seqK_none, blockK_ite, blockK_none, opsK_ite, opsK_none, stepK_ite, stepK_none, bodyK_ite, bodyK_none, resK_ite, resK_none, leaveK_ite, leaveK_none, only_ite, only_none, bind_ite, gives_some, gives_none, gives_ite, then_normal, then_ret, then_exit, then_none, then_ite, Option.bind_none, Bool.not_eq_true', decide_eq_false_iff_not, Bool.and_eq_true, Bool.or_eq_true, Option.some.injEq, Int.not_lt, Int.not_le, lp81_2, hlt, h104, List.length_map]
    generalize hg : lim (headed pure (run L) true _ lp81_0 _ _) _ _ = o
    obtain ⟨x, en, s, rfl, h2⟩ : ∃ x en s, o = some (x, en, s) ∧ _ := by rw [← hg]; exact loop81_0 nl n ps (advL ps) hadj hsm z (2 ^ n) best least (memb z) (by omega) (memb_in z) 0 0 ⟨by omega, by omega⟩ _ _ (by simp only [go_sem, reduceIte, Nat.reduceEqDiff, Nat.reduceAdd, Nat.reduceSub, Nat.reduceLeDiff, Nat.reduceLT, reduceCtorEq, Int.reduceLT, Int.reduceLE, Int.reduceEq, Int.reduceBEq, Int.reduceSub, Int.reduceAdd, Int.reduceMul, Int.reduceNeg, Int.reduceToNat, Nat.reduceMul, Nat.reduceBEq, okRefsU, renCellsU, Int.natCast_zero] <;> rfl)
    clear hg
    obtain ⟨rfl, e1, e3, e4, e5, e6, e7, e17, e18, eK, rfl⟩ := h2
    rw [htwo] at e7
    by_cases pi : twoOf ps z &&& z = 0
    · have qi : (((twoOf ps z &&& z : Nat) : Int) = 0) = True := eq_true (by rw [pi]; rfl)
      have wn : IntKind.i64.wrap ((n : Int) + ((memb (twoOf ps z)).length : Int)) = (n : Int) + ((memb (twoOf ps z)).length : Int) := by rw [wrap64] <;> omega
      have wc : IntKind.i64.wrap ((n : Int) + ((memb (twoOf ps z)).length : Int) - ((memb z).length : Int)) = costOf n (twoOf ps z) z := by rw [wrap64] <;> (try unfold costOf) <;> omega
      have hmk : ((0 : Int) ≤ (n : Int) ∧ (n : Int) ≤ (maxGrow : Int)) = True := eq_true (by unfold maxGrow; omega)
      have hv0 := (valsTo_zero (twoOf ps z) z n).symm
      have hvl : (valsOf n (twoOf ps z) z).length = n := by simp [valsOf]
      have hvne : valsOf n (twoOf ps z) z ≠ [] := by intro h; rw [h] at hvl; simp at hvl; omega
      have hfz := fun r T env => frzL2 (a := bkCells nl n ps) (b := (advL ps).map U) (cs := (valsOf n (twoOf ps z) z).map I) (by simpa using hvne) r T env
      have hfv := frzV_made 2 (valsOf n (twoOf ps z) z) hvne
      rw [hvl] at hfv
      obtain ⟨k, hk, hk2⟩ := c69 true true (valsOf n (twoOf ps z) z) best (by omega) ⟨[bkCells nl n ps, (advL ps).map U, []], []⟩
      simp only [go_sem, reduceIte, Nat.reduceEqDiff, Nat.reduceAdd, Nat.reduceSub, Nat.reduceLeDiff, Nat.reduceLT, reduceCtorEq, Int.reduceLT, Int.reduceLE, Int.reduceEq, Int.reduceBEq, Int.reduceSub, Int.reduceAdd, Int.reduceMul, Int.reduceNeg, Int.reduceToNat, Nat.reduceMul, Nat.reduceBEq, index_rsl_if, setm, make_ints, condK_dec, wantK_dec, not_dec, and_dec, or_dec, seqK_ite, seqK_none, blockK_ite, blockK_none, opsK_ite, opsK_none, stepK_ite, stepK_none, bodyK_ite, bodyK_none, resK_ite, resK_none, leaveK_ite, leaveK_none, only_ite, only_none, bind_ite, gives_some, gives_none, gives_ite, then_normal, then_ret, then_exit, then_none, then_ite, Option.bind_none, Bool.not_eq_true', decide_eq_false_iff_not, Bool.and_eq_true, Bool.or_eq_true, Option.some.injEq, Int.not_lt, Int.not_le, lp81_2, e1, e3, e4, e5, e6, e7, e17, e18, hand, qi, h108t, h108z, wn, wc, hmk, hv0, List.length_map]
      generalize hg : lim (headed pure (run L) true _ lp81_1 _ _) _ _ = o
      obtain ⟨x, en, s, rfl, h2⟩ : ∃ x en s, o = some (x, en, s) ∧ _ := by rw [← hg]; exact loop81_1 nl n hn ps (advL ps) z (twoOf ps z) (2 ^ n) best least (costOf n (twoOf ps z) z) 0 (by omega) _ _ (by simp only [go_sem, reduceIte, Nat.reduceEqDiff, Nat.reduceAdd, Nat.reduceSub, Nat.reduceLeDiff, Nat.reduceLT, reduceCtorEq, Int.reduceLT, Int.reduceLE, Int.reduceEq, Int.reduceBEq, Int.reduceSub, Int.reduceAdd, Int.reduceMul, Int.reduceNeg, Int.reduceToNat, Nat.reduceMul, Nat.reduceBEq, e1, e3, e4, e5, e6, e7, e17, e18, okRefsU, renCellsU, Int.natCast_zero] <;> rfl)
      clear hg
      obtain ⟨rfl, f1, f3, f4, f5, f10, f11, f17, f18, fK, rfl⟩ := h2
      have hstep : hStep n ps (best, least) z = (if best = [] ∨ costOf n (twoOf ps z) z < least ∨ costOf n (twoOf ps z) z = least ∧ lexLt (valsOf n (twoOf ps z) z) best = true then (valsOf n (twoOf ps z) z, costOf n (twoOf ps z) z) else (best, least)) := by unfold hStep; rw [if_pos pi]
      rw [hstep]
      generalize costOf n (twoOf ps z) z = cost at *
      generalize valsOf n (twoOf ps z) z = vs at *
      by_cases p1 : best = []
      · rw [if_pos (.inl p1)]
        subst p1
        simp only [List.map_nil] at *
        simp only [go_sem, reduceIte, Nat.reduceEqDiff, Nat.reduceAdd, Nat.reduceSub, Nat.reduceLeDiff, Nat.reduceLT, reduceCtorEq, Int.reduceLT, Int.reduceLE, Int.reduceEq, Int.reduceBEq, Int.reduceSub, Int.reduceAdd, Int.reduceMul, Int.reduceNeg, Int.reduceToNat, Nat.reduceMul, Nat.reduceBEq, index_rsl_if, setm, make_ints, condK_dec, wantK_dec, not_dec, and_dec, or_dec, seqK_ite, seqK_none, blockK_ite, blockK_none, opsK_ite, opsK_none, stepK_ite, stepK_none, bodyK_ite, bodyK_none, resK_ite, resK_none, leaveK_ite, leaveK_none, only_ite, only_none, bind_ite, gives_some, gives_none, gives_ite, then_normal, then_ret, then_exit, then_none, then_ite, Option.bind_none, Bool.not_eq_true', decide_eq_false_iff_not, Bool.and_eq_true, Bool.or_eq_true, Option.some.injEq, Int.not_lt, Int.not_le, lp81_2, f1, f3, f4, f5, f10, f11, f17, f18, fK, code_frz, frzAV, frzT, frzLs, rslsOf, hfz, frzEnv, frzEnv_get, frzStore, frzVs, frzV_v, frzV_ptr, frzV_sl, frzVs_U, hfv, hs]
        refine ⟨(z + 1, vs, cost), by simp only [go_sem, reduceIte, Nat.reduceEqDiff, Nat.reduceAdd, Nat.reduceSub, Nat.reduceLeDiff, Nat.reduceLT, reduceCtorEq, Int.reduceLT, Int.reduceLE, Int.reduceEq, Int.reduceBEq, Int.reduceSub, Int.reduceAdd, Int.reduceMul, Int.reduceNeg, Int.reduceToNat, Nat.reduceMul, Nat.reduceBEq, ren1_locm, loc_tips, locT_eq, okRefsU, renCellsU, f1, f3, f4, f5, f17, f18, fK, frzEnv_get, frzV_v, frzV_ptr, frzV_sl, frzV_any, hfv, compact, compactW, refsEnv, refsV, refsL, refsStore, refsAt, mapEnv, mapL, mapLs, newName, posOf, mapStore, pickStore, namesOk, refsV_sl, mapL_sl, refsL_U, mapLs_U, List.contains_nil, List.contains_cons, Option.getD_some, hasKey] <;> rfl, ?_, ?_, fun x en s hq => ?_⟩
        · omega
        · simp only; omega
        · exact hq
      · by_cases p2 : cost < least
        · rw [if_pos (.inr (.inl p2))]
          simp only [go_sem, reduceIte, Nat.reduceEqDiff, Nat.reduceAdd, Nat.reduceSub, Nat.reduceLeDiff, Nat.reduceLT, reduceCtorEq, Int.reduceLT, Int.reduceLE, Int.reduceEq, Int.reduceBEq, Int.reduceSub, Int.reduceAdd, Int.reduceMul, Int.reduceNeg, Int.reduceToNat, Nat.reduceMul, Nat.reduceBEq, index_rsl_if, setm, make_ints, condK_dec, wantK_dec, not_dec, and_dec, or_dec, seqK_ite, seqK_none, blockK_ite, blockK_none, opsK_ite, opsK_none, stepK_ite, stepK_none, bodyK_ite, bodyK_none, resK_ite, resK_none, leaveK_ite, leaveK_none, only_ite, only_none, bind_ite, gives_some, gives_none, gives_ite, then_normal, then_ret, then_exit, then_none, then_ite, Option.bind_none, Bool.not_eq_true', decide_eq_false_iff_not, Bool.and_eq_true, Bool.or_eq_true, Option.some.injEq, Int.not_lt, Int.not_le, lp81_2, f1, f3, f4, f5, f10, f11, f17, f18, fK, code_frz, frzAV, frzT, frzLs, rslsOf, hfz, frzEnv, frzEnv_get, frzStore, frzVs, frzV_v, frzV_ptr, frzV_sl, frzVs_U, hfv, hs, p1, p2]
          refine ⟨(z + 1, vs, cost), by simp only [go_sem, reduceIte, Nat.reduceEqDiff, Nat.reduceAdd, Nat.reduceSub, Nat.reduceLeDiff, Nat.reduceLT, reduceCtorEq, Int.reduceLT, Int.reduceLE, Int.reduceEq, Int.reduceBEq, Int.reduceSub, Int.reduceAdd, Int.reduceMul, Int.reduceNeg, Int.reduceToNat, Nat.reduceMul, Nat.reduceBEq, ren1_locm, loc_tips, locT_eq, okRefsU, renCellsU, f1, f3, f4, f5, f17, f18, fK, frzEnv_get, frzV_v, frzV_ptr, frzV_sl, frzV_any, hfv, compact, compactW, refsEnv, refsV, refsL, refsStore, refsAt, mapEnv, mapL, mapLs, newName, posOf, mapStore, pickStore, namesOk, refsV_sl, mapL_sl, refsL_U, mapLs_U, List.contains_nil, List.contains_cons, Option.getD_some, hasKey] <;> rfl, ?_, ?_, fun x en s hq => ?_⟩
          · omega
          · simp only; omega
          · exact hq
        · by_cases p3 : cost = least
          · subst p3
            by_cases p4 : lexLt vs best = true
            · rw [p4] at hk2
              have q4 : (k < 0) = True := eq_true (by simpa using hk2)
              rw [if_pos (.inr (.inr ⟨rfl, p4⟩))]
              simp only [go_sem, reduceIte, Nat.reduceEqDiff, Nat.reduceAdd, Nat.reduceSub, Nat.reduceLeDiff, Nat.reduceLT, reduceCtorEq, Int.reduceLT, Int.reduceLE, Int.reduceEq, Int.reduceBEq, Int.reduceSub, Int.reduceAdd, Int.reduceMul, Int.reduceNeg, Int.reduceToNat, Nat.reduceMul, Nat.reduceBEq, index_rsl_if, setm, make_ints, condK_dec, wantK_dec, not_dec, and_dec, or_dec, seqK_ite, seqK_none, blockK_ite, blockK_none, opsK_ite, opsK_none, stepK_ite, stepK_none, bodyK_ite, bodyK_none, resK_ite, resK_none, leaveK_ite, leaveK_none, only_ite, only_none, bind_ite, gives_some, gives_none, gives_ite, then_normal, then_ret, then_exit, then_none, then_ite, Option.bind_none, Bool.not_eq_true', decide_eq_false_iff_not, Bool.and_eq_true, Bool.or_eq_true, Option.some.injEq, Int.not_lt, Int.not_le, lp81_2, f1, f3, f4, f5, f10, f11, f17, f18, fK, code_frz, frzAV, frzT, frzLs, rslsOf, hfz, frzEnv, frzEnv_get, frzStore, frzVs, frzV_v, frzV_ptr, frzV_sl, frzVs_U, hfv, hs, p1, hk, q4, Int.lt_irrefl]
              refine ⟨(z + 1, vs, cost), by simp only [go_sem, reduceIte, Nat.reduceEqDiff, Nat.reduceAdd, Nat.reduceSub, Nat.reduceLeDiff, Nat.reduceLT, reduceCtorEq, Int.reduceLT, Int.reduceLE, Int.reduceEq, Int.reduceBEq, Int.reduceSub, Int.reduceAdd, Int.reduceMul, Int.reduceNeg, Int.reduceToNat, Nat.reduceMul, Nat.reduceBEq, ren1_locm, loc_tips, locT_eq, okRefsU, renCellsU, f1, f3, f4, f5, f17, f18, fK, frzEnv_get, frzV_v, frzV_ptr, frzV_sl, frzV_any, hfv, compact, compactW, refsEnv, refsV, refsL, refsStore, refsAt, mapEnv, mapL, mapLs, newName, posOf, mapStore, pickStore, namesOk, refsV_sl, mapL_sl, refsL_U, mapLs_U, List.contains_nil, List.contains_cons, Option.getD_some, hasKey] <;> rfl, ?_, ?_, fun x en s hq => ?_⟩
              · omega
              · simp only; omega
              · exact hq
            · have p4' : lexLt vs best = false := by simpa using p4
              rw [p4'] at hk2
              have q4 : (k < 0) = False := eq_false (by simpa using hk2)
              rw [if_neg (by simp [p1, p2, p4'])]
              simp only [go_sem, reduceIte, Nat.reduceEqDiff, Nat.reduceAdd, Nat.reduceSub, Nat.reduceLeDiff, Nat.reduceLT, reduceCtorEq, Int.reduceLT, Int.reduceLE, Int.reduceEq, Int.reduceBEq, Int.reduceSub, Int.reduceAdd, Int.reduceMul, Int.reduceNeg, Int.reduceToNat, Nat.reduceMul, Nat.reduceBEq, index_rsl_if, setm, make_ints, condK_dec, wantK_dec, not_dec, and_dec, or_dec, seqK_ite, seqK_none, blockK_ite, blockK_none, opsK_ite, opsK_none, stepK_ite, stepK_none, bodyK_ite, bodyK_none, resK_ite, resK_none, leaveK_ite, leaveK_none, only_ite, only_none, bind_ite, gives_some, gives_none, gives_ite, then_normal, then_ret, then_exit, then_none, then_ite, Option.bind_none, Bool.not_eq_true', decide_eq_false_iff_not, Bool.and_eq_true, Bool.or_eq_true, Option.some.injEq, Int.not_lt, Int.not_le, lp81_2, f1, f3, f4, f5, f10, f11, f17, f18, fK, code_frz, frzAV, frzT, frzLs, rslsOf, hfz, frzEnv, frzEnv_get, frzStore, frzVs, frzV_v, frzV_ptr, frzV_sl, frzVs_U, hfv, hs, p1, hk, q4, Int.lt_irrefl]
              refine ⟨(z + 1, best, cost), by simp only [go_sem, reduceIte, Nat.reduceEqDiff, Nat.reduceAdd, Nat.reduceSub, Nat.reduceLeDiff, Nat.reduceLT, reduceCtorEq, Int.reduceLT, Int.reduceLE, Int.reduceEq, Int.reduceBEq, Int.reduceSub, Int.reduceAdd, Int.reduceMul, Int.reduceNeg, Int.reduceToNat, Nat.reduceMul, Nat.reduceBEq, ren1_locm, loc_tips, locT_eq, okRefsU, renCellsU, f1, f3, f4, f5, f17, f18, fK, frzEnv_get, frzV_v, frzV_ptr, frzV_sl, frzV_any, hfv, compact, compactW, refsEnv, refsV, refsL, refsStore, refsAt, mapEnv, mapL, mapLs, newName, posOf, mapStore, pickStore, namesOk, refsV_sl, mapL_sl, refsL_U, mapLs_U, List.contains_nil, List.contains_cons, Option.getD_some, hasKey] <;> rfl, ?_, ?_, fun x en s hq => ?_⟩
              · omega
              · simp only; omega
              · exact hq
          · rw [if_neg (by simp [p1, p2, p3])]
            simp only [go_sem, reduceIte, Nat.reduceEqDiff, Nat.reduceAdd, Nat.reduceSub, Nat.reduceLeDiff, Nat.reduceLT, reduceCtorEq, Int.reduceLT, Int.reduceLE, Int.reduceEq, Int.reduceBEq, Int.reduceSub, Int.reduceAdd, Int.reduceMul, Int.reduceNeg, Int.reduceToNat, Nat.reduceMul, Nat.reduceBEq, index_rsl_if, setm, make_ints, condK_dec, wantK_dec, not_dec, and_dec, or_dec, seqK_ite, seqK_none, blockK_ite, blockK_none, opsK_ite, opsK_none, stepK_ite, stepK_none, bodyK_ite, bodyK_none, resK_ite, resK_none, leaveK_ite, leaveK_none, only_ite, only_none, bind_ite, gives_some, gives_none, gives_ite, then_normal, then_ret, then_exit, then_none, then_ite, Option.bind_none, Bool.not_eq_true', decide_eq_false_iff_not, Bool.and_eq_true, Bool.or_eq_true, Option.some.injEq, Int.not_lt, Int.not_le, lp81_2, f1, f3, f4, f5, f10, f11, f17, f18, fK, code_frz, frzAV, frzT, frzLs, rslsOf, hfz, frzEnv, frzEnv_get, frzStore, frzVs, frzV_v, frzV_ptr, frzV_sl, frzVs_U, hfv, hs, p1, p2, p3]
            refine ⟨(z + 1, best, least), by simp only [go_sem, reduceIte, Nat.reduceEqDiff, Nat.reduceAdd, Nat.reduceSub, Nat.reduceLeDiff, Nat.reduceLT, reduceCtorEq, Int.reduceLT, Int.reduceLE, Int.reduceEq, Int.reduceBEq, Int.reduceSub, Int.reduceAdd, Int.reduceMul, Int.reduceNeg, Int.reduceToNat, Nat.reduceMul, Nat.reduceBEq, ren1_locm, loc_tips, locT_eq, okRefsU, renCellsU, f1, f3, f4, f5, f17, f18, fK, frzEnv_get, frzV_v, frzV_ptr, frzV_sl, frzV_any, hfv, compact, compactW, refsEnv, refsV, refsL, refsStore, refsAt, mapEnv, mapL, mapLs, newName, posOf, mapStore, pickStore, namesOk, refsV_sl, mapL_sl, refsL_U, mapLs_U, List.contains_nil, List.contains_cons, Option.getD_some, hasKey] <;> rfl, ?_, ?_, fun x en s hq => ?_⟩
            · omega
            · simp only; omega
            · exact hq
    · have qi : (((twoOf ps z &&& z : Nat) : Int) = 0) = False := eq_false (by omega)
      have he : hStep n ps (best, least) z = (best, least) := by unfold hStep; rw [if_neg pi]
      rw [he]
      simp only [go_sem, reduceIte, Nat.reduceEqDiff, Nat.reduceAdd, Nat.reduceSub, Nat.reduceLeDiff, Nat.reduceLT, reduceCtorEq, Int.reduceLT, Int.reduceLE, Int.reduceEq, Int.reduceBEq, Int.reduceSub, Int.reduceAdd, Int.reduceMul, Int.reduceNeg, Int.reduceToNat, Nat.reduceMul, Nat.reduceBEq, index_rsl_if, setm, make_ints, condK_dec, wantK_dec, not_dec, and_dec, or_dec, seqK_ite, seqK_none, blockK_ite, blockK_none, opsK_ite, opsK_none, stepK_ite, stepK_none, bodyK_ite, bodyK_none, resK_ite, resK_none, leaveK_ite, leaveK_none, only_ite, only_none, bind_ite, gives_some, gives_none, gives_ite, then_normal, then_ret, then_exit, then_none, then_ite, Option.bind_none, Bool.not_eq_true', decide_eq_false_iff_not, Bool.and_eq_true, Bool.or_eq_true, Option.some.injEq, Int.not_lt, Int.not_le, lp81_2, e1, e3, e4, e5, e6, e7, e17, e18, hand, qi, hs]
      refine ⟨(z + 1, best, least), by simp only [go_sem, reduceIte, Nat.reduceEqDiff, Nat.reduceAdd, Nat.reduceSub, Nat.reduceLeDiff, Nat.reduceLT, reduceCtorEq, Int.reduceLT, Int.reduceLE, Int.reduceEq, Int.reduceBEq, Int.reduceSub, Int.reduceAdd, Int.reduceMul, Int.reduceNeg, Int.reduceToNat, Nat.reduceMul, Nat.reduceBEq, ren1_locm, loc_tips, locT_eq, okRefsU, renCellsU, e1, e3, e4, e5, e17, e18, eK, compact, compactW, refsEnv, refsV, refsL, refsStore, refsAt, mapEnv, mapL, mapLs, newName, posOf, mapStore, pickStore, namesOk, refsV_sl, mapL_sl, refsL_U, mapLs_U, List.contains_nil, List.contains_cons, Option.getD_some, hasKey] <;> rfl, ?_, ?_, fun x en s hq => ?_⟩
      · omega
      · simp only; omega
      · exact hq
  · have hlt : ((z : Int) < ((2 ^ n : Nat) : Int)) = False := eq_false (by omega)
    have e0 : 2 ^ n - z = 0 := by omega
    rw [e0]
    simp only [go_sem, reduceIte, Nat.reduceEqDiff, Nat.reduceAdd, Nat.reduceSub, Nat.reduceLeDiff, Nat.reduceLT, reduceCtorEq, Int.reduceLT, Int.reduceLE, Int.reduceEq, Int.reduceBEq, Int.reduceSub, Int.reduceAdd, Int.reduceMul, Int.reduceNeg, Int.reduceToNat, Nat.reduceMul, Nat.reduceBEq, index_rsl_if, setm, make_ints, condK_dec, wantK_dec, not_dec, and_dec, or_dec, seqK_ite, seqK_none, blockK_ite, blockK_none, opsK_ite, opsK_none, stepK_ite, stepK_none, bodyK_ite, bodyK_none, resK_ite, resK_none, leaveK_ite, leaveK_none, only_ite, only_none, bind_ite, gives_some, gives_none, gives_ite, then_normal, then_ret, then_exit, then_none, then_ite, Option.bind_none, Bool.not_eq_true', decide_eq_false_iff_not, Bool.and_eq_true, Bool.or_eq_true, Option.some.injEq, Int.not_lt, Int.not_le, lp81_2, hlt]
    rfl

theorem advL_small {ps : List (Int × Int)} (h7 : ∀ p ∈ ps, okP p) : ∀ x ∈ advL ps, x < 128 := by
  have : ∀ (ps : List (Int × Int)) (o : List Nat), (∀ p ∈ ps, okP p) → (∀ x ∈ o, x < 128) → ∀ x ∈ ps.foldl adv1 o, x < 128 := by
    intro ps
    induction ps with
    | nil => intro o _ h; exact h
    | cons p r ih =>
      intro o h7 h
      rw [List.foldl_cons]
      apply ih _ (fun q hq => h7 q (by simp [hq]))
      obtain ⟨a1, a2, a3, a4⟩ := h7 p (by simp)
      exact orAt_small (orAt_small h (by omega)) (by omega)
  exact this ps _ h7 (by simp)

theorem c81 (nl : Bool) (n : Nat) (hn1 : 1 ≤ n) (hn : n ≤ 7) (ps : List (Int × Int)) (hlen : ps.length < 1000000) (hps : ∀ p ∈ ps, 0 ≤ p.1 ∧ p.1 < p.2 ∧ p.2 < (n : Int)) (h7 : ∀ p ∈ ps, okP p) (st : St) :
    run L 81 [bkAV nl n ps] st = some (sl 1 true ((halvesV n ps).map I), st) := by
  rw [run_pure (fn := ir81) rfl rfl]
  have h89 := fun st => c89 nl n ps hlen h7 st
  have hal := advL_len h7
  have has := advL_small h7
  have hsh := sh1_eq n (by omega)
  have hput : putCells z7 0 ((advL ps).map U) = (advL ps).map U ∧ ((advL ps).map U).all storable = true := by
    obtain ⟨a, b, c, d, f, g, k, h6⟩ := len_seven hal
    rw [h6]
    exact ⟨rfl, rfl⟩
  have hz : z7 = [.v (.int .u64 0), .v (.int .u64 0), .v (.int .u64 0), .v (.int .u64 0), .v (.int .u64 0), .v (.int .u64 0), .v (.int .u64 0)] := rfl
  rw [hz] at hput
  simp only [ir81, go_sem, reduceIte, Nat.reduceEqDiff, Nat.reduceAdd, Nat.reduceSub, Nat.reduceLeDiff, Nat.reduceLT, reduceCtorEq, Int.reduceLT, Int.reduceLE, Int.reduceEq, Int.reduceBEq, Int.reduceSub, Int.reduceAdd, Int.reduceMul, Int.reduceNeg, Int.reduceToNat, Nat.reduceMul, Nat.reduceBEq, h89, hsh, hput.1, hput.2, hal, List.length_map]
  generalize hg : lim (headed pure (run L) true _ lp81_2 _ _) _ _ = o
  obtain ⟨x, en, s, rfl, h2⟩ : ∃ x en s, o = some (x, en, s) ∧ _ := by rw [← hg]; exact loop81 nl n hn1 hn ps hps h7 hal has 0 [] 0 (by omega) _ _ (by simp only [go_sem, reduceIte, Nat.reduceEqDiff, Nat.reduceAdd, Nat.reduceSub, Nat.reduceLeDiff, Nat.reduceLT, reduceCtorEq, Int.reduceLT, Int.reduceLE, Int.reduceEq, Int.reduceBEq, Int.reduceSub, Int.reduceAdd, Int.reduceMul, Int.reduceNeg, Int.reduceToNat, Nat.reduceMul, Nat.reduceBEq, okRefsU, renCellsU, sl_nil, List.map_nil, compact, compactW, refsEnv, refsV, refsL, refsStore, refsAt, mapEnv, mapL, mapLs, newName, posOf, mapStore, pickStore, namesOk, refsV_sl, mapL_sl, refsL_U, mapLs_U, List.contains_nil, List.contains_cons, Option.getD_some, hasKey, Int.natCast_zero] <;> rfl)
  clear hg
  obtain ⟨rfl, h3⟩ := h2
  rw [Nat.sub_zero, ← List.range_eq_range'] at h3
  simp only [go_sem, reduceIte, Nat.reduceEqDiff, Nat.reduceAdd, Nat.reduceSub, Nat.reduceLeDiff, Nat.reduceLT, reduceCtorEq, Int.reduceLT, Int.reduceLE, Int.reduceEq, Int.reduceBEq, Int.reduceSub, Int.reduceAdd, Int.reduceMul, Int.reduceNeg, Int.reduceToNat, Nat.reduceMul, Nat.reduceBEq, h3]
  rfl


/-! ### the cheapest values -/
def hv (n : Int) (ps : List (Int × Int)) : List Int × Int := if chk n ps = 0 then (halvesV n.toNat ps, 0) else ([], chk n ps)
theorem halvesV_ok {n : Nat} (hn1 : 1 ≤ n) (hn : n ≤ 7) {ps : List (Int × Int)} (hps : ∀ p ∈ ps, 0 ≤ p.1 ∧ p.1 < p.2 ∧ p.2 < (n : Int)) (h7 : ∀ p ∈ ps, okP p) : (halvesV n ps).length = n ∧ (∀ x ∈ halvesV n ps, 0 ≤ x ∧ x ≤ 2) ∧ halvesV n ps ≠ [] := by
  have h := (halves_spec hn1 hn hps h7).1
  have h2 := cheap_in h
  refine ⟨by have := h2.1; omega, h2.2, ?_⟩
  intro e; have := h2.1; rw [e] at this; simp at this; omega
/-! ### values that are given -/
def in02 (x : Int) : Bool := decide (0 ≤ x ∧ x ≤ 2)
theorem all02 {l : List Int} (h : l.all in02 = true) : ∀ x ∈ l, 0 ≤ x ∧ x ≤ 2 := fun x hx => of_decide_eq_true (List.all_eq_true.1 h x hx)
/-- A sum and an error. -/
def numbersV (l : List Int) (many : Int) : Int × Int := if (l.length : Int) = many then (if l.all in02 = true then (sumL l, 0) else (0, 1)) else (0, 5)

theorem loop109 (nl : Bool) (l : List Int) (hlen : l.length < 1000000) (i : Nat) (acc : Int) (hok : i ≤ l.length ∧ 0 ≤ acc ∧ acc ≤ 2 * i) (env : Env) (st : St)
    (hg : gcAV true 0 0 (canon env [6, 13, 14, 15]) st = ([(6, I acc), (13, sl 1 nl (l.map I)), (14, I l.length), (15, I i)], ⟨[], []⟩)) :
    ∃ x_1 en s, lim (headed pure (run L) true [6, 13, 14, 15] lp109_0 0 0) env st = some (x_1, en, s) ∧ (if (l.drop i).all in02 = true then x_1 = .exit 0 ∧ en.get 6 = I (acc + sumL (l.drop i)) else x_1 = .ret ∧ en.get 4 = I 0 ∧ en.get 5 = I 1) := by
  refine loop_wp (α := Nat × Int) (fun ⟨i, acc⟩ => l.length - i) (fun ⟨i, acc⟩ => i ≤ l.length ∧ 0 ≤ acc ∧ acc ≤ 2 * i) (fun ⟨i, acc⟩ => ([(6, I acc), (13, sl 1 nl (l.map I)), (14, I l.length), (15, I i)], ⟨[], []⟩)) (fun ⟨i, acc⟩ x_1 en s => if (l.drop i).all in02 = true then x_1 = .exit 0 ∧ en.get 6 = I (acc + sumL (l.drop i)) else x_1 = .ret ∧ en.get 4 = I 0 ∧ en.get 5 = I 1) (fun ⟨i, acc⟩ hok => ?_) ⟨i, acc⟩ hok env st hg
  simp only at hok
  obtain ⟨h1, h2, h3⟩ := hok
  dsimp only
  by_cases h : i < l.length
  · have hx := index_ints nl l i h
    have hs := succ64 i (by omega)
    have hd : l.drop i = l[i] :: l.drop (i + 1) := List.drop_eq_getElem_cons h
    have hlt : ((i : Int) < (l.length : Int)) = True := eq_true (by omega)
    rw [hd]
    generalize l[i] = a at *
    by_cases p1 : a < 0
    · simp only [go_sem, reduceIte, Nat.reduceEqDiff, Nat.reduceAdd, Nat.reduceSub, Nat.reduceLeDiff, Nat.reduceLT, reduceCtorEq, Int.reduceLT, Int.reduceLE, Int.reduceEq, Int.reduceBEq, Int.reduceSub, Int.reduceAdd, Int.reduceMul, Int.reduceNeg, Int.reduceToNat, Nat.reduceMul, Nat.reduceBEq, index_rsl_if, setm, make_ints, condK_dec, wantK_dec, not_dec, and_dec, or_dec, seqK_ite, seqK_none, blockK_ite, blockK_none, opsK_ite, opsK_none, stepK_ite, stepK_none, bodyK_ite, bodyK_none, resK_ite, resK_none, leaveK_ite, leaveK_none, only_ite, only_none, bind_ite, gives_some, gives_none, gives_ite, then_normal, then_ret, then_exit, then_none, then_ite, Option.bind_none, Bool.not_eq_true', decide_eq_false_iff_not, Bool.and_eq_true, Bool.or_eq_true, Option.some.injEq, Int.not_lt, Int.not_le, lp109_0, hx, hlt, p1]
      rw [if_neg (by simp [in02]; omega)]; trivial
    by_cases p2 : 2 < a
    · simp only [go_sem, reduceIte, Nat.reduceEqDiff, Nat.reduceAdd, Nat.reduceSub, Nat.reduceLeDiff, Nat.reduceLT, reduceCtorEq, Int.reduceLT, Int.reduceLE, Int.reduceEq, Int.reduceBEq, Int.reduceSub, Int.reduceAdd, Int.reduceMul, Int.reduceNeg, Int.reduceToNat, Nat.reduceMul, Nat.reduceBEq, index_rsl_if, setm, make_ints, condK_dec, wantK_dec, not_dec, and_dec, or_dec, seqK_ite, seqK_none, blockK_ite, blockK_none, opsK_ite, opsK_none, stepK_ite, stepK_none, bodyK_ite, bodyK_none, resK_ite, resK_none, leaveK_ite, leaveK_none, only_ite, only_none, bind_ite, gives_some, gives_none, gives_ite, then_normal, then_ret, then_exit, then_none, then_ite, Option.bind_none, Bool.not_eq_true', decide_eq_false_iff_not, Bool.and_eq_true, Bool.or_eq_true, Option.some.injEq, Int.not_lt, Int.not_le, lp109_0, hx, hlt, p1, p2]
      rw [if_neg (by simp [in02]; omega)]; trivial
    have hw : IntKind.i64.wrap (acc + a) = acc + a := by rw [wrap64] <;> omega
    have hin : in02 a = true := decide_eq_true (by omega)
    simp only [go_sem, reduceIte, Nat.reduceEqDiff, Nat.reduceAdd, Nat.reduceSub, Nat.reduceLeDiff, Nat.reduceLT, reduceCtorEq, Int.reduceLT, Int.reduceLE, Int.reduceEq, Int.reduceBEq, Int.reduceSub, Int.reduceAdd, Int.reduceMul, Int.reduceNeg, Int.reduceToNat, Nat.reduceMul, Nat.reduceBEq, index_rsl_if, setm, make_ints, condK_dec, wantK_dec, not_dec, and_dec, or_dec, seqK_ite, seqK_none, blockK_ite, blockK_none, opsK_ite, opsK_none, stepK_ite, stepK_none, bodyK_ite, bodyK_none, resK_ite, resK_none, leaveK_ite, leaveK_none, only_ite, only_none, bind_ite, gives_some, gives_none, gives_ite, then_normal, then_ret, then_exit, then_none, then_ite, Option.bind_none, Bool.not_eq_true', decide_eq_false_iff_not, Bool.and_eq_true, Bool.or_eq_true, Option.some.injEq, Int.not_lt, Int.not_le, lp109_0, hx, hlt, p1, p2, hw, hs]
    refine ⟨(i + 1, acc + a), by simp only [go_sem, reduceIte, Nat.reduceEqDiff, Nat.reduceAdd, Nat.reduceSub, Nat.reduceLeDiff, Nat.reduceLT, reduceCtorEq, Int.reduceLT, Int.reduceLE, Int.reduceEq, Int.reduceBEq, Int.reduceSub, Int.reduceAdd, Int.reduceMul, Int.reduceNeg, Int.reduceToNat, Nat.reduceMul, Nat.reduceBEq, ren1_locm, loc_tips, locT_eq] <;> rfl, ?_, ?_, fun x en s hq => ?_⟩
    · dsimp only; exact ⟨by omega, by omega, by omega⟩
    · simp only; omega
    · simp only [List.all_cons, hin, sumL, Bool.true_and, true_and]; rw [← Int.add_assoc]; simpa using hq
  · have hd : l.drop i = [] := List.drop_eq_nil_of_le (by omega)
    have hlt : ((i : Int) < (l.length : Int)) = False := eq_false (by omega)
    simp only [go_sem, reduceIte, Nat.reduceEqDiff, Nat.reduceAdd, Nat.reduceSub, Nat.reduceLeDiff, Nat.reduceLT, reduceCtorEq, Int.reduceLT, Int.reduceLE, Int.reduceEq, Int.reduceBEq, Int.reduceSub, Int.reduceAdd, Int.reduceMul, Int.reduceNeg, Int.reduceToNat, Nat.reduceMul, Nat.reduceBEq, index_rsl_if, setm, make_ints, condK_dec, wantK_dec, not_dec, and_dec, or_dec, seqK_ite, seqK_none, blockK_ite, blockK_none, opsK_ite, opsK_none, stepK_ite, stepK_none, bodyK_ite, bodyK_none, resK_ite, resK_none, leaveK_ite, leaveK_none, only_ite, only_none, bind_ite, gives_some, gives_none, gives_ite, then_normal, then_ret, then_exit, then_none, then_ite, Option.bind_none, Bool.not_eq_true', decide_eq_false_iff_not, Bool.and_eq_true, Bool.or_eq_true, Option.some.injEq, Int.not_lt, Int.not_le, lp109_0, hlt]
    rw [hd]; simp [sumL]

theorem c109 (nl : Bool) (l : List Int) (hlen : l.length < 1000000) (many : Int) (st : St) : run L 109 [sl 1 nl (l.map I), I many] st = some (.tup [I (numbersV l many).1, I (numbersV l many).2], st) := by
  rw [run_pure (fn := ir109) rfl rfl]
  unfold numbersV
  by_cases p : (l.length : Int) = many
  · rw [if_pos p]
    simp only [ir109, go_sem, reduceIte, Nat.reduceEqDiff, Nat.reduceAdd, Nat.reduceSub, Nat.reduceLeDiff, Nat.reduceLT, reduceCtorEq, Int.reduceLT, Int.reduceLE, Int.reduceEq, Int.reduceBEq, Int.reduceSub, Int.reduceAdd, Int.reduceMul, Int.reduceNeg, Int.reduceToNat, Nat.reduceMul, Nat.reduceBEq, List.length_map, p]
    rw [← p]
    generalize hg : lim (headed pure (run L) true _ lp109_0 _ _) _ _ = o
    obtain ⟨x, en, s, rfl, h2⟩ : ∃ x en s, o = some (x, en, s) ∧ _ := by rw [← hg]; exact loop109 nl l hlen 0 0 ⟨by omega, by omega, by omega⟩ _ _ (by simp only [go_sem, reduceIte, Nat.reduceEqDiff, Nat.reduceAdd, Nat.reduceSub, Nat.reduceLeDiff, Nat.reduceLT, reduceCtorEq, Int.reduceLT, Int.reduceLE, Int.reduceEq, Int.reduceBEq, Int.reduceSub, Int.reduceAdd, Int.reduceMul, Int.reduceNeg, Int.reduceToNat, Nat.reduceMul, Nat.reduceBEq] <;> rfl)
    clear hg
    rw [List.drop_zero, Int.zero_add] at h2
    by_cases h : l.all in02 = true
    · rw [if_pos h] at h2
      obtain ⟨rfl, h3⟩ := h2
      simp only [go_sem, reduceIte, Nat.reduceEqDiff, Nat.reduceAdd, Nat.reduceSub, Nat.reduceLeDiff, Nat.reduceLT, reduceCtorEq, Int.reduceLT, Int.reduceLE, Int.reduceEq, Int.reduceBEq, Int.reduceSub, Int.reduceAdd, Int.reduceMul, Int.reduceNeg, Int.reduceToNat, Nat.reduceMul, Nat.reduceBEq, h3, h]
    · rw [if_neg h] at h2
      obtain ⟨rfl, h3, h4⟩ := h2
      simp only [go_sem, reduceIte, Nat.reduceEqDiff, Nat.reduceAdd, Nat.reduceSub, Nat.reduceLeDiff, Nat.reduceLT, reduceCtorEq, Int.reduceLT, Int.reduceLE, Int.reduceEq, Int.reduceBEq, Int.reduceSub, Int.reduceAdd, Int.reduceMul, Int.reduceNeg, Int.reduceToNat, Nat.reduceMul, Nat.reduceBEq, h3, h4, h]
  · rw [if_neg p]
    simp only [ir109, go_sem, reduceIte, Nat.reduceEqDiff, Nat.reduceAdd, Nat.reduceSub, Nat.reduceLeDiff, Nat.reduceLT, reduceCtorEq, Int.reduceLT, Int.reduceLE, Int.reduceEq, Int.reduceBEq, Int.reduceSub, Int.reduceAdd, Int.reduceMul, Int.reduceNeg, Int.reduceToNat, Nat.reduceMul, Nat.reduceBEq, List.length_map, p]


theorem index_prs2 (nl : Bool) (ps : List (Int × Int)) (i : Nat) (h : i < ps.length) : indexSAV 2 (sl 2 nl (ps.map prAV)) (.v (.int .i64 i)) = some (.eptr (.agg [I ps[i].1, I ps[i].2]) 0) := index_prs nl ps i h

theorem loop34 (n1 n2 : Bool) (xs ys : List (Int × Int)) (hl : xs.length = ys.length) (hlen : xs.length < 1000000) (i : Nat) (hok : i ≤ xs.length) (env : Env) (st : St)
    (hg : gcAV true 0 0 (canon env [0, 1, 5]) st = ([(0, sl 2 n1 (xs.map prAV)), (1, sl 2 n2 (ys.map prAV)), (5, I i)], ⟨[], []⟩)) :
    ∃ x_1 en s, lim (headed pure (run L) true [0, 1, 5] lp34_0 0 0) env st = some (x_1, en, s) ∧ (if xs.drop i = ys.drop i then x_1 = .exit 0 else x_1 = .ret ∧ en.get 4 = B false) := by
  refine loop_wp (α := Nat) (fun i => xs.length - i) (fun i => i ≤ xs.length) (fun i => ([(0, sl 2 n1 (xs.map prAV)), (1, sl 2 n2 (ys.map prAV)), (5, I i)], ⟨[], []⟩)) (fun i x_1 en s => if xs.drop i = ys.drop i then x_1 = .exit 0 else x_1 = .ret ∧ en.get 4 = B false) (fun i hok => ?_) i hok env st hg
  by_cases h : i < xs.length
  · have hx := index_prs n1 xs i h
    have hy := index_prs n2 ys i (by omega)
    have hs := succ64 i (by omega)
    have hd : xs.drop i = xs[i] :: xs.drop (i + 1) := List.drop_eq_getElem_cons h
    have hd2 : ys.drop i = ys[i] :: ys.drop (i + 1) := List.drop_eq_getElem_cons (by omega)
    have hlt : ((i : Int) < (xs.length : Int)) = True := eq_true (by omega)
    rw [hd, hd2]
    generalize xs[i] = a at *
    generalize ys[i]'(by omega) = b at *
    obtain ⟨u, v⟩ := a
    obtain ⟨u2, v2⟩ := b
    simp only at hx hy
    by_cases p : u = u2
    · by_cases p2 : v = v2
      · simp only [go_sem, reduceIte, Nat.reduceEqDiff, Nat.reduceAdd, Nat.reduceSub, Nat.reduceLeDiff, Nat.reduceLT, reduceCtorEq, Int.reduceLT, Int.reduceLE, Int.reduceEq, Int.reduceBEq, Int.reduceSub, Int.reduceAdd, Int.reduceMul, Int.reduceNeg, Int.reduceToNat, Nat.reduceMul, Nat.reduceBEq, index_rsl_if, setm, make_ints, condK_dec, wantK_dec, not_dec, and_dec, or_dec, seqK_ite, seqK_none, blockK_ite, blockK_none, opsK_ite, opsK_none, stepK_ite, stepK_none, bodyK_ite, bodyK_none, resK_ite, resK_none, leaveK_ite, leaveK_none, only_ite, only_none, bind_ite, gives_some, gives_none, gives_ite, then_normal, then_ret, then_exit, then_none, then_ite, Option.bind_none, Bool.not_eq_true', decide_eq_false_iff_not, Bool.and_eq_true, Bool.or_eq_true, Option.some.injEq, Int.not_lt, Int.not_le, lp34_0, hx, hy, hlt, p, p2, hs, List.length_map]
        refine ⟨i + 1, by simp only [go_sem, reduceIte, Nat.reduceEqDiff, Nat.reduceAdd, Nat.reduceSub, Nat.reduceLeDiff, Nat.reduceLT, reduceCtorEq, Int.reduceLT, Int.reduceLE, Int.reduceEq, Int.reduceBEq, Int.reduceSub, Int.reduceAdd, Int.reduceMul, Int.reduceNeg, Int.reduceToNat, Nat.reduceMul, Nat.reduceBEq, ren1_locm, loc_tips, locT_eq] <;> rfl, ?_, ?_, fun x en s hq => ?_⟩
        · omega
        · omega
        · simp only [List.cons.injEq, p, p2, true_and]; exact hq
      · simp only [go_sem, reduceIte, Nat.reduceEqDiff, Nat.reduceAdd, Nat.reduceSub, Nat.reduceLeDiff, Nat.reduceLT, reduceCtorEq, Int.reduceLT, Int.reduceLE, Int.reduceEq, Int.reduceBEq, Int.reduceSub, Int.reduceAdd, Int.reduceMul, Int.reduceNeg, Int.reduceToNat, Nat.reduceMul, Nat.reduceBEq, index_rsl_if, setm, make_ints, condK_dec, wantK_dec, not_dec, and_dec, or_dec, seqK_ite, seqK_none, blockK_ite, blockK_none, opsK_ite, opsK_none, stepK_ite, stepK_none, bodyK_ite, bodyK_none, resK_ite, resK_none, leaveK_ite, leaveK_none, only_ite, only_none, bind_ite, gives_some, gives_none, gives_ite, then_normal, then_ret, then_exit, then_none, then_ite, Option.bind_none, Bool.not_eq_true', decide_eq_false_iff_not, Bool.and_eq_true, Bool.or_eq_true, Option.some.injEq, Int.not_lt, Int.not_le, lp34_0, hx, hy, hlt, p, p2, List.length_map]
        rw [if_neg (by simp [p2])]; trivial
    · simp only [go_sem, reduceIte, Nat.reduceEqDiff, Nat.reduceAdd, Nat.reduceSub, Nat.reduceLeDiff, Nat.reduceLT, reduceCtorEq, Int.reduceLT, Int.reduceLE, Int.reduceEq, Int.reduceBEq, Int.reduceSub, Int.reduceAdd, Int.reduceMul, Int.reduceNeg, Int.reduceToNat, Nat.reduceMul, Nat.reduceBEq, index_rsl_if, setm, make_ints, condK_dec, wantK_dec, not_dec, and_dec, or_dec, seqK_ite, seqK_none, blockK_ite, blockK_none, opsK_ite, opsK_none, stepK_ite, stepK_none, bodyK_ite, bodyK_none, resK_ite, resK_none, leaveK_ite, leaveK_none, only_ite, only_none, bind_ite, gives_some, gives_none, gives_ite, then_normal, then_ret, then_exit, then_none, then_ite, Option.bind_none, Bool.not_eq_true', decide_eq_false_iff_not, Bool.and_eq_true, Bool.or_eq_true, Option.some.injEq, Int.not_lt, Int.not_le, lp34_0, hx, hy, hlt, p, List.length_map]
      rw [if_neg (by simp [p])]; trivial
  · have hd : xs.drop i = [] := List.drop_eq_nil_of_le (by omega)
    have hd2 : ys.drop i = [] := List.drop_eq_nil_of_le (by omega)
    have hlt : ((i : Int) < (xs.length : Int)) = False := eq_false (by omega)
    simp only [go_sem, reduceIte, Nat.reduceEqDiff, Nat.reduceAdd, Nat.reduceSub, Nat.reduceLeDiff, Nat.reduceLT, reduceCtorEq, Int.reduceLT, Int.reduceLE, Int.reduceEq, Int.reduceBEq, Int.reduceSub, Int.reduceAdd, Int.reduceMul, Int.reduceNeg, Int.reduceToNat, Nat.reduceMul, Nat.reduceBEq, index_rsl_if, setm, make_ints, condK_dec, wantK_dec, not_dec, and_dec, or_dec, seqK_ite, seqK_none, blockK_ite, blockK_none, opsK_ite, opsK_none, stepK_ite, stepK_none, bodyK_ite, bodyK_none, resK_ite, resK_none, leaveK_ite, leaveK_none, only_ite, only_none, bind_ite, gives_some, gives_none, gives_ite, then_normal, then_ret, then_exit, then_none, then_ite, Option.bind_none, Bool.not_eq_true', decide_eq_false_iff_not, Bool.and_eq_true, Bool.or_eq_true, Option.some.injEq, Int.not_lt, Int.not_le, lp34_0, hlt, List.length_map]
    rw [hd, hd2]; simp

theorem c34 (n1 n2 : Bool) (xs ys : List (Int × Int)) (hlen : xs.length < 1000000) (st : St) : run L 34 [sl 2 n1 (xs.map prAV), sl 2 n2 (ys.map prAV)] st = some (B (decide (xs = ys)), st) := by
  rw [run_pure (fn := ir34) rfl rfl]
  by_cases hl : xs.length = ys.length
  · simp only [ir34, go_sem, reduceIte, Nat.reduceEqDiff, Nat.reduceAdd, Nat.reduceSub, Nat.reduceLeDiff, Nat.reduceLT, reduceCtorEq, Int.reduceLT, Int.reduceLE, Int.reduceEq, Int.reduceBEq, Int.reduceSub, Int.reduceAdd, Int.reduceMul, Int.reduceNeg, Int.reduceToNat, Nat.reduceMul, Nat.reduceBEq, List.length_map, hl]
    generalize hg : lim (headed pure (run L) true _ lp34_0 _ _) _ _ = o
    obtain ⟨x, en, s, rfl, h2⟩ : ∃ x en s, o = some (x, en, s) ∧ _ := by rw [← hg]; exact loop34 n1 n2 xs ys hl hlen 0 (by omega) _ _ (by simp only [go_sem, reduceIte, Nat.reduceEqDiff, Nat.reduceAdd, Nat.reduceSub, Nat.reduceLeDiff, Nat.reduceLT, reduceCtorEq, Int.reduceLT, Int.reduceLE, Int.reduceEq, Int.reduceBEq, Int.reduceSub, Int.reduceAdd, Int.reduceMul, Int.reduceNeg, Int.reduceToNat, Nat.reduceMul, Nat.reduceBEq] <;> rfl)
    clear hg
    simp only [List.drop_zero] at h2
    by_cases h : xs = ys
    · rw [if_pos h] at h2
      subst h2
      simp only [go_sem, reduceIte, Nat.reduceEqDiff, Nat.reduceAdd, Nat.reduceSub, Nat.reduceLeDiff, Nat.reduceLT, reduceCtorEq, Int.reduceLT, Int.reduceLE, Int.reduceEq, Int.reduceBEq, Int.reduceSub, Int.reduceAdd, Int.reduceMul, Int.reduceNeg, Int.reduceToNat, Nat.reduceMul, Nat.reduceBEq, h]
    · rw [if_neg h] at h2
      obtain ⟨rfl, h3⟩ := h2
      simp only [go_sem, reduceIte, Nat.reduceEqDiff, Nat.reduceAdd, Nat.reduceSub, Nat.reduceLeDiff, Nat.reduceLT, reduceCtorEq, Int.reduceLT, Int.reduceLE, Int.reduceEq, Int.reduceBEq, Int.reduceSub, Int.reduceAdd, Int.reduceMul, Int.reduceNeg, Int.reduceToNat, Nat.reduceMul, Nat.reduceBEq, h3, h]
  · have hl2 : ((xs.length : Int) = (ys.length : Int)) = False := eq_false (by omega)
    have hne : ¬ xs = ys := fun h => hl (by rw [h])
    simp only [ir34, go_sem, reduceIte, Nat.reduceEqDiff, Nat.reduceAdd, Nat.reduceSub, Nat.reduceLeDiff, Nat.reduceLT, reduceCtorEq, Int.reduceLT, Int.reduceLE, Int.reduceEq, Int.reduceBEq, Int.reduceSub, Int.reduceAdd, Int.reduceMul, Int.reduceNeg, Int.reduceToNat, Nat.reduceMul, Nat.reduceBEq, List.length_map, hl2, hne]

/-! ### searching in a list in order -/
/-! ### what is left -/


/-! ### a book by numbers -/
abbrev B8 (n : Int) : AV := .v (.int .u8 n)
def Byte (n : Int) : Prop := 0 ≤ n ∧ n ≤ 255
abbrev qAV (zs : List Int) : AV := .agg (zs.map B8)
theorem okRefsB (n : Nat) (xs : List Int) : okRefs n (xs.map B8) = true := okRefs_map B8 n (fun _ => rfl) xs
theorem renCellsB (n : Nat) (tips : List Nat) (acc : List (Nat × Nat)) (xs : List Int) : renCells n tips acc (xs.map B8) = (xs.map B8, acc) := renCells_map B8 n tips (fun _ _ => rfl) xs acc
theorem pubsB (xs : List Int) : pubs (xs.map B8) = xs.map B8 := pubs_map B8 (fun _ => rfl) xs
theorem storableB (xs : List Int) : (xs.map B8).all storable = true := by
  rw [List.all_eq_true]; intro x hx; rw [List.mem_map] at hx; obtain ⟨n, _, rfl⟩ := hx; rfl
theorem getB (zs : List Int) (a : Nat) (h : a < zs.length) : (zs.map B8)[a]? = some (B8 (zs.getD a 0)) := by
  rw [getm B8 zs 0 a, if_pos h]
theorem byte_getD {l : List Int} (h : ∀ n ∈ l, Byte n) (i : Nat) : Byte (l.getD i 0) := by
  rw [List.getD_eq_getElem?_getD]
  by_cases hi : i < l.length
  · rw [List.getElem?_eq_getElem hi]; exact h _ (List.getElem_mem hi)
  · rw [List.getElem?_eq_none (by omega)]; exact ⟨by simp, by simp⟩
theorem mod_range (a b : Int) (hb : 0 < b) : 0 ≤ a % b ∧ a % b < b := ⟨Int.emod_nonneg a (by omega), Int.emod_lt_of_pos a hb⟩

/-! ### a list of pairs that grows in a struct -/
def outAV (o : List (Int × Int)) : AV := loc 2 0 (o.map prAV)
def outT (o : List (Int × Int)) : List Nat := locT 0 (o.map prAV)
def outAcc (o : List (Int × Int)) : List (Nat × Nat) := if (o.map prAV).length = 0 then [] else [(0, (o.map prAV).length)]
theorem okRef_out (n : Nat) (o : List (Int × Int)) : okRef n (outAV o) = true := okRef_loc _ _ _ _
theorem storable_out (o : List (Int × Int)) : storable (outAV o) = true := storable_loc _ _ _
theorem shaped_out (o : List (Int × Int)) : (outAV o).shaped = true := shaped_loc _ _ _
theorem cells_out (o : List (Int × Int)) : (outAV o).cells = [outAV o] := cells_loc _ _ _
theorem ren1_out (o : List (Int × Int)) : ren1 0 (outT o) [] (outAV o) = (outAV o, outAcc o) := ren1_loc (k := 0) 2 (o.map prAV)
theorem outAcc_snd (o : List (Int × Int)) : (outAcc o).map (fun x => x.2) = outT o := by
  unfold outAcc outT locT; split <;> rfl
theorem fin_out (st : St) (o : List (Int × Int)) : fin st (outAV o) = sl 2 true (o.map prAV) := fin_loc st 2 0 _
theorem pub_out (o : List (Int × Int)) : pub (outAV o) = sl 2 true (o.map prAV) := pub_loc 2 0 _
theorem append_out (o : List (Int × Int)) (x y : Int) (s : List (List AV)) (h : o.length < 1000) : appendAV 2 (outAV o) [.agg [I x, I y]] ⟨s, outT o⟩ = some (outAV (o ++ [(x, y)]), ⟨s, outT (o ++ [(x, y)])⟩) :=
  append_locm (z := 2) (k := 0) prAV o (x, y) s (by omega) (by unfold maxGrow; omega)
theorem out_start : .v (.slice none 0 0) = outAV [] := rfl
theorem outT_nil : outT [] = [] := rfl
attribute [local go_sem] okRef_out storable_out shaped_out cells_out fin_out pub_out

/-- One more pair, if it is one and not there yet. -/
def mkStep (n : Int) (out : List (Int × Int)) (a b : Int) : List (Int × Int) :=
  if min (a % n) (b % n) ≠ max (a % n) (b % n) ∧ (min (a % n) (b % n), max (a % n) (b % n)) ∉ out then out ++ [(min (a % n) (b % n), max (a % n) (b % n))] else out
def madeTo (n : Int) (zs : List Int) : Nat → List (Int × Int)
  | 0 => []
  | k + 1 => mkStep n (madeTo n zs k) (zs.getD (2 + k * 2) 0) (zs.getD (3 + k * 2) 0)
theorem madeTo_len (n : Int) (zs : List Int) : ∀ k, (madeTo n zs k).length ≤ k
  | 0 => by simp [madeTo]
  | k + 1 => by
    have := madeTo_len n zs k
    simp only [madeTo, mkStep]; split
    · simp; omega
    · omega
theorem tmod8 {a n : Int} (h : 0 ≤ a) : a.tmod n = a % n := Int.tmod_eq_emod_of_nonneg h

theorem loop44 (zs : List Int) (hzl : zs.length = 22) (hz : ∀ a ∈ zs, Byte a) (n : Int) (hn : 1 ≤ n ∧ n ≤ 7) (k : Nat) (hk : k ≤ 10) (i : Nat) (hok : i ≤ k) (env : Env) (st : St)
    (hg : gcAV true 3 0 (canon env [4, 5, 23, 24, 25]) st = ([(4, .ptr 1 0), (5, .ptr 2 0), (23, .rsl 0 2 k 10 2 true), (24, I k), (25, I i)], ⟨[zs.map B8, [I 0, sl 2 true []], [I n, outAV (madeTo n zs i)]], outT (madeTo n zs i)⟩)) :
    ∃ x_1 en s, lim (headed pure (run L) true [4, 5, 23, 24, 25] lp44_0 3 0) env st = some (x_1, en, s) ∧ (x_1 = .exit 0 ∧ en.get 4 = .ptr 1 0 ∧ en.get 5 = .ptr 2 0 ∧ s = ⟨[zs.map B8, [I 0, sl 2 true []], [I n, outAV (madeTo n zs k)]], outT (madeTo n zs k)⟩) := by
  refine loop_wp (α := Nat) (fun i => k - i) (fun i => i ≤ k) (fun i => ([(4, .ptr 1 0), (5, .ptr 2 0), (23, .rsl 0 2 k 10 2 true), (24, I k), (25, I i)], ⟨[zs.map B8, [I 0, sl 2 true []], [I n, outAV (madeTo n zs i)]], outT (madeTo n zs i)⟩)) (fun i x_1 en s => x_1 = .exit 0 ∧ en.get 4 = .ptr 1 0 ∧ en.get 5 = .ptr 2 0 ∧ s = ⟨[zs.map B8, [I 0, sl 2 true []], [I n, outAV (madeTo n zs k)]], outT (madeTo n zs k)⟩) (fun i hok => ?_) i hok env st hg
  by_cases h : i < k
  · have hs := succ64 i (by omega)
    have hlt : ((i : Int) < (k : Int)) = True := eq_true (by omega)
    have hi0 : ((0 : Int) ≤ (i : Int)) = True := eq_true (by omega)
    have hml := madeTo_len n zs i
    have hb1 : (2 + i * 2 + 2 ≤ 22) = True := eq_true (by omega)
    have hpair : ((zs.map B8).drop (2 + i * 2)).take 2 = [B8 (zs.getD (2 + i * 2) 0), B8 (zs.getD (3 + i * 2) 0)] := by
      have h1 : 2 + i * 2 < zs.length := by omega
      have h2 : 2 + i * 2 + 1 < zs.length := by omega
      have hd : zs.drop (2 + i * 2) = zs[2 + i * 2] :: zs[2 + i * 2 + 1] :: zs.drop (2 + i * 2 + 1 + 1) := by
        rw [List.drop_eq_getElem_cons h1, List.drop_eq_getElem_cons h2]
      have e1 : zs.getD (2 + i * 2) 0 = zs[2 + i * 2] := by rw [List.getD_eq_getElem?_getD, List.getElem?_eq_getElem h1]; rfl
      have e2 : zs.getD (3 + i * 2) 0 = zs[2 + i * 2 + 1] := by rw [show 3 + i * 2 = 2 + i * 2 + 1 by omega, List.getD_eq_getElem?_getD, List.getElem?_eq_getElem h2]; rfl
      rw [← List.map_drop, hd, e1, e2]
      rfl
    have ba := byte_getD hz (2 + i * 2)
    have bb := byte_getD hz (3 + i * 2)
    have hsucc : madeTo n zs (i + 1) = mkStep n (madeTo n zs i) (zs.getD (2 + i * 2) 0) (zs.getD (3 + i * 2) 0) := rfl
    generalize zs.getD (2 + i * 2) 0 = a at *
    generalize zs.getD (3 + i * 2) 0 = b at *
    unfold Byte at ba bb
    have wa := wrap64 a (by omega) (by omega)
    have wb := wrap64 b (by omega) (by omega)
    have zn : (n = 0) = False := eq_false (by omega)
    have ta : a.tmod n = a % n := tmod8 (by omega)
    have tb : b.tmod n = b % n := tmod8 (by omega)
    have ra := mod_range a n (by omega)
    have rb := mod_range b n (by omega)
    generalize madeTo n zs i = out at *
    have h76 : ∀ st, run L 76 [outAV out, .agg [I (min (a % n) (b % n)), I (max (a % n) (b % n))]] st = some (B (decide ((min (a % n) (b % n), max (a % n) (b % n)) ∈ out)), st) := fun st => by
      rw [← c76 true out (by omega) (min (a % n) (b % n)) (max (a % n) (b % n)) st]
      exact run_args (fn := ir76) rfl rfl st (by simp only [pubs, pub_out, pub_sl])
    have happ := fun s => append_out out (min (a % n) (b % n)) (max (a % n) (b % n)) s (by omega)
    unfold mkStep at hsucc
    generalize hm1 : min (a % n) (b % n) = x at *
    generalize hm2 : max (a % n) (b % n) = y at *
    by_cases p1 : x = y
    · rw [if_neg (by simp [p1])] at hsucc
      simp only [go_sem, reduceIte, Nat.reduceEqDiff, Nat.reduceAdd, Nat.reduceSub, Nat.reduceLeDiff, Nat.reduceLT, reduceCtorEq, Int.reduceLT, Int.reduceLE, Int.reduceEq, Int.reduceBEq, Int.reduceSub, Int.reduceAdd, Int.reduceMul, Int.reduceNeg, Int.reduceToNat, Nat.reduceMul, Nat.reduceBEq, index_rsl_if, setm, make_ints, condK_dec, wantK_dec, not_dec, and_dec, or_dec, seqK_ite, seqK_none, blockK_ite, blockK_none, opsK_ite, opsK_none, stepK_ite, stepK_none, bodyK_ite, bodyK_none, resK_ite, resK_none, leaveK_ite, leaveK_none, only_ite, only_none, bind_ite, gives_some, gives_none, gives_ite, then_normal, then_ret, then_exit, then_none, then_ite, Option.bind_none, Bool.not_eq_true', decide_eq_false_iff_not, Bool.and_eq_true, Bool.or_eq_true, Option.some.injEq, Int.not_lt, Int.not_le, lp44_0, hlt, hi0, hs, hb1, hpair, hzl, wa, wb, zn, ta, tb, hm1, hm2, p1, List.length_map]
      refine ⟨i + 1, by simp only [go_sem, reduceIte, Nat.reduceEqDiff, Nat.reduceAdd, Nat.reduceSub, Nat.reduceLeDiff, Nat.reduceLT, reduceCtorEq, Int.reduceLT, Int.reduceLE, Int.reduceEq, Int.reduceBEq, Int.reduceSub, Int.reduceAdd, Int.reduceMul, Int.reduceNeg, Int.reduceToNat, Nat.reduceMul, Nat.reduceBEq, ren1_locm, loc_tips, locT_eq, hsucc, ren1_out, outAcc_snd, okRefsB, renCellsB] <;> rfl, ?_, ?_, fun x en s hq => ?_⟩
      · omega
      · omega
      · exact hq
    · by_cases p2 : (x, y) ∈ out
      · rw [if_neg (by simp [p2])] at hsucc
        simp only [go_sem, reduceIte, Nat.reduceEqDiff, Nat.reduceAdd, Nat.reduceSub, Nat.reduceLeDiff, Nat.reduceLT, reduceCtorEq, Int.reduceLT, Int.reduceLE, Int.reduceEq, Int.reduceBEq, Int.reduceSub, Int.reduceAdd, Int.reduceMul, Int.reduceNeg, Int.reduceToNat, Nat.reduceMul, Nat.reduceBEq, index_rsl_if, setm, make_ints, condK_dec, wantK_dec, not_dec, and_dec, or_dec, seqK_ite, seqK_none, blockK_ite, blockK_none, opsK_ite, opsK_none, stepK_ite, stepK_none, bodyK_ite, bodyK_none, resK_ite, resK_none, leaveK_ite, leaveK_none, only_ite, only_none, bind_ite, gives_some, gives_none, gives_ite, then_normal, then_ret, then_exit, then_none, then_ite, Option.bind_none, Bool.not_eq_true', decide_eq_false_iff_not, Bool.and_eq_true, Bool.or_eq_true, Option.some.injEq, Int.not_lt, Int.not_le, lp44_0, hlt, hi0, hs, hb1, hpair, hzl, wa, wb, zn, ta, tb, hm1, hm2, p1, h76, p2, List.length_map]
        refine ⟨i + 1, by simp only [go_sem, reduceIte, Nat.reduceEqDiff, Nat.reduceAdd, Nat.reduceSub, Nat.reduceLeDiff, Nat.reduceLT, reduceCtorEq, Int.reduceLT, Int.reduceLE, Int.reduceEq, Int.reduceBEq, Int.reduceSub, Int.reduceAdd, Int.reduceMul, Int.reduceNeg, Int.reduceToNat, Nat.reduceMul, Nat.reduceBEq, ren1_locm, loc_tips, locT_eq, hsucc, ren1_out, outAcc_snd, okRefsB, renCellsB] <;> rfl, ?_, ?_, fun x en s hq => ?_⟩
        · omega
        · omega
        · exact hq
      · rw [if_pos ⟨p1, p2⟩] at hsucc
        simp only [go_sem, reduceIte, Nat.reduceEqDiff, Nat.reduceAdd, Nat.reduceSub, Nat.reduceLeDiff, Nat.reduceLT, reduceCtorEq, Int.reduceLT, Int.reduceLE, Int.reduceEq, Int.reduceBEq, Int.reduceSub, Int.reduceAdd, Int.reduceMul, Int.reduceNeg, Int.reduceToNat, Nat.reduceMul, Nat.reduceBEq, index_rsl_if, setm, make_ints, condK_dec, wantK_dec, not_dec, and_dec, or_dec, seqK_ite, seqK_none, blockK_ite, blockK_none, opsK_ite, opsK_none, stepK_ite, stepK_none, bodyK_ite, bodyK_none, resK_ite, resK_none, leaveK_ite, leaveK_none, only_ite, only_none, bind_ite, gives_some, gives_none, gives_ite, then_normal, then_ret, then_exit, then_none, then_ite, Option.bind_none, Bool.not_eq_true', decide_eq_false_iff_not, Bool.and_eq_true, Bool.or_eq_true, Option.some.injEq, Int.not_lt, Int.not_le, lp44_0, hlt, hi0, hs, hb1, hpair, hzl, wa, wb, zn, ta, tb, hm1, hm2, p1, h76, p2, happ, List.length_map]
        refine ⟨i + 1, by simp only [go_sem, reduceIte, Nat.reduceEqDiff, Nat.reduceAdd, Nat.reduceSub, Nat.reduceLeDiff, Nat.reduceLT, reduceCtorEq, Int.reduceLT, Int.reduceLE, Int.reduceEq, Int.reduceBEq, Int.reduceSub, Int.reduceAdd, Int.reduceMul, Int.reduceNeg, Int.reduceToNat, Nat.reduceMul, Nat.reduceBEq, ren1_locm, loc_tips, locT_eq, hsucc, ren1_out, outAcc_snd, okRefsB, renCellsB] <;> rfl, ?_, ?_, fun x en s hq => ?_⟩
        · omega
        · omega
        · exact hq
  · obtain rfl : i = k := by omega
    simp only [go_sem, reduceIte, Nat.reduceEqDiff, Nat.reduceAdd, Nat.reduceSub, Nat.reduceLeDiff, Nat.reduceLT, reduceCtorEq, Int.reduceLT, Int.reduceLE, Int.reduceEq, Int.reduceBEq, Int.reduceSub, Int.reduceAdd, Int.reduceMul, Int.reduceNeg, Int.reduceToNat, Nat.reduceMul, Nat.reduceBEq, index_rsl_if, setm, make_ints, condK_dec, wantK_dec, not_dec, and_dec, or_dec, seqK_ite, seqK_none, blockK_ite, blockK_none, opsK_ite, opsK_none, stepK_ite, stepK_none, bodyK_ite, bodyK_none, resK_ite, resK_none, leaveK_ite, leaveK_none, only_ite, only_none, bind_ite, gives_some, gives_none, gives_ite, then_normal, then_ret, then_exit, then_none, then_ite, Option.bind_none, Bool.not_eq_true', decide_eq_false_iff_not, Bool.and_eq_true, Bool.or_eq_true, Option.some.injEq, Int.not_lt, Int.not_le, lp44_0, show ((i : Int) < (i : Int)) = False from eq_false (by omega)]

def madeN (least : Int) (zs : List Int) : Int := least + zs.getD 0 0 % (8 - least)
def madeP (least : Int) (zs : List Int) : List (Int × Int) := madeTo (madeN least zs) zs (zs.getD 1 0 % 11).toNat

theorem c44 (zs : List Int) (hzl : zs.length = 22) (hz : ∀ a ∈ zs, Byte a) (least : Int) (hl : least = 1 ∨ least = 2) (st : St) :
    run L 44 [qAV zs, I least] st = some (bkAV true (madeN least zs) (madeP least zs), st) := by
  rw [run_pure (fn := ir44) rfl rfl]
  have b0 := byte_getD hz 0
  have b1 := byte_getD hz 1
  have g0 := getB zs 0 (by omega)
  have g1 := getB zs 1 (by omega)
  unfold madeP
  have hN : madeN least zs = least + zs.getD 0 0 % (8 - least) := rfl
  generalize zs.getD 0 0 = a at *
  generalize zs.getD 1 0 = b at *
  unfold Byte at b0 b1
  have ra := mod_range a (8 - least) (by omega)
  have rb := mod_range b 11 (by omega)
  have wa := wrap64 a (by omega) (by omega)
  have wb := wrap64 b (by omega) (by omega)
  have w8 := wrap64 (8 - least) (by omega) (by omega)
  have z8 : (8 - least = 0) = False := eq_false (by omega)
  have ta : a.tmod (8 - least) = a % (8 - least) := tmod8 (by omega)
  have tb : b.tmod 11 = b % 11 := tmod8 (by omega)
  have wn : IntKind.i64.wrap (least + a % (8 - least)) = madeN least zs := by rw [hN, wrap64] <;> omega
  have hn : 1 ≤ madeN least zs ∧ madeN least zs ≤ 7 := by omega
  obtain ⟨k, hk⟩ := Int.eq_ofNat_of_zero_le rb.1
  rw [hk, Int.toNat_natCast]
  have hk10 : k ≤ 10 := by omega
  have hsl : sliceaAV 10 2 true (.ptr 0 2) none (some (.v (.int .i64 (k : Int)))) none = some (.rsl 0 2 k 10 2 true) := by
    simp only [sliceaAV, natOr, natOf]
    simp; omega
  generalize madeN least zs = n at *
  simp only [ir44, go_sem, reduceIte, Nat.reduceEqDiff, Nat.reduceAdd, Nat.reduceSub, Nat.reduceLeDiff, Nat.reduceLT, reduceCtorEq, Int.reduceLT, Int.reduceLE, Int.reduceEq, Int.reduceBEq, Int.reduceSub, Int.reduceAdd, Int.reduceMul, Int.reduceNeg, Int.reduceToNat, Nat.reduceMul, Nat.reduceBEq, okRefsB, renCellsB, pubsB, storableB, g0, g1, wa, wb, w8, z8, ta, tb, hk, wn, hsl, hzl, List.length_map]
  generalize hg : lim (headed pure (run L) true _ lp44_0 _ _) _ _ = o
  obtain ⟨x, en, s, rfl, h2⟩ : ∃ x en s, o = some (x, en, s) ∧ _ := by rw [← hg]; exact loop44 zs hzl hz n hn k hk10 0 (by omega) _ _ (by simp only [go_sem, reduceIte, Nat.reduceEqDiff, Nat.reduceAdd, Nat.reduceSub, Nat.reduceLeDiff, Nat.reduceLT, reduceCtorEq, Int.reduceLT, Int.reduceLE, Int.reduceEq, Int.reduceBEq, Int.reduceSub, Int.reduceAdd, Int.reduceMul, Int.reduceNeg, Int.reduceToNat, Nat.reduceMul, Nat.reduceBEq, okRefsB, renCellsB, madeTo, out_start, outT_nil, ren1_out, outAcc_snd, Int.natCast_zero] <;> rfl)
  clear hg
  obtain ⟨rfl, h4, h5, rfl⟩ := h2
  simp only [go_sem, reduceIte, Nat.reduceEqDiff, Nat.reduceAdd, Nat.reduceSub, Nat.reduceLeDiff, Nat.reduceLT, reduceCtorEq, Int.reduceLT, Int.reduceLE, Int.reduceEq, Int.reduceBEq, Int.reduceSub, Int.reduceAdd, Int.reduceMul, Int.reduceNeg, Int.reduceToNat, Nat.reduceMul, Nat.reduceBEq, h4, h5]
end Go.Proofs.YtpmbfgogpcjdlaaDoor.Vm

namespace Go.Proofs.YtpmbfgogpcjdlaaDoor.Vm
open Go Go.Ev Go.ChangeShapes Go.WideShapes Go.ChangeAt Go.RowKit
set_option maxRecDepth 100000
attribute [local go_sem] cells_any storable_any ren1_any shaped_ptr cells_ptr storable_ptr ren1_ptr shaped_eptr cells_eptr storable_eptr ren1_eptr shaped_rsl cells_rsl storable_rsl ren1_rsl shaped_int cells_int storable_int ren1_int shaped_bool cells_bool storable_bool ren1_bool shaped_nils cells_nils storable_nils ren1_nils shaped_lst cells_lst storable_lst shaped_fn cells_fn storable_fn ren1_fn shaped_ifc cells_ifc storable_ifc ren1_ifc shaped_agg cells_agg storable_agg ren1_agg shaped_tup cells_tup storable_tup ren1_tup shaped_nif cells_nif storable_nif ren1_nif ren1_lany ren1_lfull ren1_lown len_lst len_rsl len_nil load_ptr load_eptr isRsl_lst isRsl_nil isRsl_rsl elems_nil elems_lst elems_sl isRsl_sl body_eq bodyK_normal bodyK_ret resK_some leaveK_some only_some code_skip code_exit code_ret code_ops code_seq code_cond code_block seqK_normal seqK_ret seqK_exit condK_true condK_false blockK_normal blockK_ret blockK_exit opsK_some ops_nil ops_cons wantK_true wantK_false stepK_some pubs pub pub_sl params okRef_loc storable_loc shaped_loc cells_loc isRsl_loc elems_loc len_loc untips untip untip_sl wantedAV setElems withO isAgg_v isAgg_agg isAgg_lst isAgg_ptr isAgg_fn isAgg_ifc isAgg_rsl isAgg_sl isAgg_loc List.replicate_succ List.replicate_zero opAV valAV aval avals ofVal Env.get setD canon gcAV renAll renEnv renStore renCells ren1_sl cutSt okEnv okStore okRefs okRef okRef_sl bin_int bin_bool bin_lst bin_rsl bin_nil bin_agg cellsEq cellEq isShift intOp boolOp min_int max_int beq_int bne resAV tupAV leave_eq fin_sl fin_loc fins fin_v fin_lst fin_agg fin_tup fin_fn storeAV readCells putCells cells_sl shaped_sl storable_sl fieldAddrAV len_sl goI List.getElem?_cons_zero List.getElem?_cons_succ List.getElem?_nil Option.bind_some Option.map_some List.length_cons List.length_nil List.all_cons List.all_nil Bool.and_true Bool.true_and Bool.and_false Bool.false_and and_true true_and and_false false_and Bool.false_eq_true List.set_cons_zero List.set_cons_succ List.append_nil List.nil_append List.cons_append List.take_zero List.take_succ_cons List.take_nil List.drop_zero List.drop_succ_cons List.map_cons List.map_nil decide_true decide_false beq_self_eq_true Bool.not_true Bool.not_false or_true true_or or_false false_or Nat.zero_add Nat.add_zero Nat.le_refl Nat.lt_irrefl decide_eq_true_eq eq_self_iff_true not_true_eq_false not_false_eq_true List.getD_cons_zero code_loop Nat.zero_le Nat.not_lt_zero Bool.true_beq Bool.false_beq beq_true beq_false ge_iff_le gt_iff_lt Lpure pus Option.map_none assert_ifc assert_nil idxA_ptr idxA_eptr idxV_agg Int.cast_ofNat_Int Nat.mul_one Nat.zero_mul Int.toNat_natCast Int.toNat_zero setParts withO2 hasKey eqnil_sl nenil_sl eqnil_loc nenil_loc map_nil_iff okRefs_ints renCells_ints

theorem cells5 : Tryd.prog.cellsOf 5 = 1 := by kernel_rfl
theorem cells57 : Tryd.prog.cellsOf 57 = 2 := by kernel_rfl
theorem cells58 : Tryd.prog.cellsOf 58 = 20 := by kernel_rfl
theorem cells60 : Tryd.prog.cellsOf 60 = 22 := by kernel_rfl
theorem one_byte {d : Nat} {bs : List AV} (h : Sh Tryd.prog (d + 1) 5 bs) : ∃ zs : List Int, bs = zs.map B8 ∧ zs.length = 1 ∧ ∀ n ∈ zs, Byte n := by
  simp only [Sh, Tryd.underlying5] at h
  obtain ⟨n, h1, h2⟩ := h
  exact ⟨[n], h1, rfl, by simp; exact bounds_u8 h2⟩
/-- Parts of bytes. -/
theorem all_parts (z : Nat) : ∀ (k : Nat) (bs : List AV), bs.length = k * z → (∀ i, i < k → ∃ zs : List Int, (bs.drop (i * z)).take z = zs.map B8 ∧ zs.length = z ∧ ∀ n ∈ zs, Byte n) → ∃ zs : List Int, bs = zs.map B8 ∧ zs.length = k * z ∧ ∀ n ∈ zs, Byte n
  | 0, bs, hl, _ => ⟨[], by have : bs.length = 0 := by simpa using hl
                            simpa using this, by simp, by simp⟩
  | k + 1, bs, hl, h => by
    rw [Nat.succ_mul] at hl
    obtain ⟨zs, h1, h2, h3⟩ := h 0 (by omega)
    rw [Nat.zero_mul, List.drop_zero] at h1
    obtain ⟨ys, g1, g2, g3⟩ := all_parts z k (bs.drop z) (by simp; omega) fun i hi => by
      obtain ⟨xs, q1, q2, q3⟩ := h (i + 1) (by omega)
      refine ⟨xs, ?_, q2, q3⟩
      rw [List.drop_drop, ← q1, Nat.succ_mul, Nat.add_comm (i * z) z]
    refine ⟨zs ++ ys, ?_, by rw [List.length_append, h2, g2, Nat.succ_mul]; omega, ?_⟩
    · rw [List.map_append, ← h1, ← g1, List.take_append_drop]
    · intro n hn
      rcases List.mem_append.1 hn with hn | hn
      · exact h3 n hn
      · exact g3 n hn
theorem sh_b57 {d : Nat} {bs : List AV} (h : Sh Tryd.prog (d + 2) 57 bs) : ∃ zs : List Int, bs = zs.map B8 ∧ zs.length = 2 ∧ ∀ n ∈ zs, Byte n := by
  unfold Sh at h
  simp only [Tryd.underlying57, cells57, cells5] at h
  exact all_parts 1 2 bs (by omega) (fun i hi => one_byte (h.2 i hi))
theorem sh_b58 {d : Nat} {bs : List AV} (h : Sh Tryd.prog (d + 3) 58 bs) : ∃ zs : List Int, bs = zs.map B8 ∧ zs.length = 20 ∧ ∀ n ∈ zs, Byte n := by
  unfold Sh at h
  simp only [Tryd.underlying58, cells58, cells57] at h
  exact all_parts 2 10 bs (by omega) (fun i hi => sh_b57 (h.2 i hi))
/-- A book by numbers. -/
theorem sh_quarrel {a : AV} (h : ShV Tryd.prog 8 60 a) : ∃ zs : List Int, a = qAV zs ∧ zs.length = 22 ∧ ∀ n ∈ zs, Byte n := by
  unfold ShV at h
  rw [if_pos (by unfold aggB; rw [Tryd.underlying60])] at h
  obtain ⟨cs, rfl, hs⟩ := h
  unfold Sh at hs
  simp only [Tryd.underlying60, cells60] at hs
  obtain ⟨h1, h2⟩ := hs
  have f0 := h2 0 _ rfl
  have f1 := h2 1 _ rfl
  have f2 := h2 2 _ rfl
  simp only [List.getElem_toArray, List.getElem_cons_zero, List.getElem_cons_succ, cells5, cells58] at f0 f1 f2
  obtain ⟨ar, e0, l0, b0⟩ := one_byte f0
  obtain ⟨bs, e1, l1, b1⟩ := one_byte f1
  obtain ⟨es, e2, l2, b2⟩ := sh_b58 f2
  refine ⟨ar ++ (bs ++ es), ?_, by simp [l0, l1, l2], ?_⟩
  · have s5 : (cs.drop 2).take 20 = cs.drop 2 := List.take_of_length_le (by simp [h1])
    have s2 : (cs.drop 1).take 1 ++ cs.drop 2 = cs.drop 1 := by
      have := List.take_append_drop 1 (cs.drop 1)
      rw [List.drop_drop] at this
      exact this
    have s1 : (cs.drop 0).take 1 ++ cs.drop 1 = cs := by
      have := List.take_append_drop 1 cs
      simpa using this
    show AV.agg cs = AV.agg _
    rw [List.map_append, List.map_append, ← e0, ← e1, ← e2, s5, s2, s1]
  · intro n hn
    rcases List.mem_append.1 hn with hn | hn
    · exact b0 n hn
    · rcases List.mem_append.1 hn with hn | hn
      · exact b1 n hn
      · exact b2 n hn
end Go.Proofs.YtpmbfgogpcjdlaaDoor.Vm

namespace Go.Proofs.YtpmbfgogpcjdlaaDoor.Vm
open Go Go.Ev
set_option maxRecDepth 100000
attribute [local go_sem] cells_any storable_any ren1_any shaped_ptr cells_ptr storable_ptr ren1_ptr shaped_eptr cells_eptr storable_eptr ren1_eptr shaped_rsl cells_rsl storable_rsl ren1_rsl shaped_int cells_int storable_int ren1_int shaped_bool cells_bool storable_bool ren1_bool shaped_nils cells_nils storable_nils ren1_nils shaped_lst cells_lst storable_lst shaped_fn cells_fn storable_fn ren1_fn shaped_ifc cells_ifc storable_ifc ren1_ifc shaped_agg cells_agg storable_agg ren1_agg shaped_tup cells_tup storable_tup ren1_tup shaped_nif cells_nif storable_nif ren1_nif ren1_lany ren1_lfull ren1_lown len_lst len_rsl len_nil load_ptr load_eptr isRsl_lst isRsl_nil isRsl_rsl elems_nil elems_lst elems_sl isRsl_sl body_eq bodyK_normal bodyK_ret resK_some leaveK_some only_some code_skip code_exit code_ret code_ops code_seq code_cond code_block seqK_normal seqK_ret seqK_exit condK_true condK_false blockK_normal blockK_ret blockK_exit opsK_some ops_nil ops_cons wantK_true wantK_false stepK_some pubs pub pub_sl params okRef_loc storable_loc shaped_loc cells_loc isRsl_loc elems_loc len_loc untips untip untip_sl wantedAV setElems withO isAgg_v isAgg_agg isAgg_lst isAgg_ptr isAgg_fn isAgg_ifc isAgg_rsl isAgg_sl isAgg_loc List.replicate_succ List.replicate_zero opAV valAV aval avals ofVal Env.get setD canon gcAV renAll renEnv renStore renCells ren1_sl cutSt okEnv okStore okRefs okRef okRef_sl bin_int bin_bool bin_lst bin_rsl bin_nil bin_agg cellsEq cellEq isShift intOp boolOp min_int max_int beq_int bne resAV tupAV leave_eq fin_sl fin_loc fins fin_v fin_lst fin_agg fin_tup fin_fn storeAV readCells putCells cells_sl shaped_sl storable_sl fieldAddrAV len_sl goI List.getElem?_cons_zero List.getElem?_cons_succ List.getElem?_nil Option.bind_some Option.map_some List.length_cons List.length_nil List.all_cons List.all_nil Bool.and_true Bool.true_and Bool.and_false Bool.false_and and_true true_and and_false false_and Bool.false_eq_true List.set_cons_zero List.set_cons_succ List.append_nil List.nil_append List.cons_append List.take_zero List.take_succ_cons List.take_nil List.drop_zero List.drop_succ_cons List.map_cons List.map_nil decide_true decide_false beq_self_eq_true Bool.not_true Bool.not_false or_true true_or or_false false_or Nat.zero_add Nat.add_zero Nat.le_refl Nat.lt_irrefl decide_eq_true_eq eq_self_iff_true not_true_eq_false not_false_eq_true List.getD_cons_zero code_loop Nat.zero_le Nat.not_lt_zero Bool.true_beq Bool.false_beq beq_true beq_false ge_iff_le gt_iff_lt Lpure pus Option.map_none assert_ifc assert_nil idxA_ptr idxA_eptr idxV_agg Int.cast_ofNat_Int Nat.mul_one Nat.zero_mul Int.toNat_natCast Int.toNat_zero setParts withO2 hasKey eqnil_sl nenil_sl eqnil_loc nenil_loc map_nil_iff okRefs_ints renCells_ints

/-! ### a book by numbers is a good one -/
theorem prsErr_ok {n : Int} : ∀ (ps seen : List (Int × Int)), (∀ p ∈ ps, 0 ≤ p.1 ∧ p.1 < p.2 ∧ p.2 < n) → (seen ++ ps).Nodup → prsErr n seen ps = 0
  | [], _, _, _ => rfl
  | p :: r, seen, h, hn => by
    have hp := h p (by simp)
    have h1 : p ∉ seen := by
      intro hs
      rw [List.nodup_append] at hn
      exact hn.2.2 p hs p (by simp) rfl
    have e : prErr n seen p = 0 := by
      unfold prErr
      rw [if_neg (by omega), if_neg (by omega), if_neg h1]
    simp only [prsErr, e, if_true]
    exact prsErr_ok r _ (fun q hq => h q (by simp [hq])) (by simpa using hn)
theorem mk_ok {n : Int} (hn : 0 < n) {out : List (Int × Int)} (h : (∀ p ∈ out, 0 ≤ p.1 ∧ p.1 < p.2 ∧ p.2 < n) ∧ out.Nodup) (a b : Int) :
    (∀ p ∈ mkStep n out a b, 0 ≤ p.1 ∧ p.1 < p.2 ∧ p.2 < n) ∧ (mkStep n out a b).Nodup := by
  have ra := mod_range a n hn
  have rb := mod_range b n hn
  unfold mkStep
  split
  · next hc =>
    refine ⟨fun p hp => ?_, ?_⟩
    · rcases List.mem_append.1 hp with hp | hp
      · exact h.1 p hp
      · rw [List.mem_singleton] at hp; subst hp; simp only; omega
    · rw [List.nodup_append]
      refine ⟨h.2, by simp, fun x hx y hy => ?_⟩
      rw [List.mem_singleton] at hy; subst hy
      intro e; subst e; exact hc.2 hx
  · exact h
theorem madeTo_ok {n : Int} (hn : 0 < n) (zs : List Int) : ∀ k, (∀ p ∈ madeTo n zs k, 0 ≤ p.1 ∧ p.1 < p.2 ∧ p.2 < n) ∧ (madeTo n zs k).Nodup
  | 0 => by simp [madeTo]
  | k + 1 => mk_ok hn (madeTo_ok hn zs k) _ _
/-- What is known of a book by numbers. -/
theorem made_ok {least : Int} (hl : least = 1 ∨ least = 2) (zs : List Int) :
    ∃ n : Nat, madeN least zs = n ∧ 1 ≤ n ∧ least ≤ n ∧ n ≤ 7 ∧ (madeP least zs).length ≤ 10 ∧ (∀ p ∈ madeP least zs, 0 ≤ p.1 ∧ p.1 < p.2 ∧ p.2 < (n : Int)) ∧ (∀ p ∈ madeP least zs, okP p) ∧ (madeP least zs).Nodup ∧ chk (n : Int) (madeP least zs) = 0 := by
  have r0 := mod_range (zs.getD 0 0) (8 - least) (by omega)
  have r1 := mod_range (zs.getD 1 0) 11 (by omega)
  have hN : madeN least zs = least + zs.getD 0 0 % (8 - least) := rfl
  obtain ⟨n, hn⟩ := Int.eq_ofNat_of_zero_le (show 0 ≤ madeN least zs by omega)
  have h1 := madeTo_ok (n := madeN least zs) (by omega) zs (zs.getD 1 0 % 11).toNat
  have h2 := madeTo_len (madeN least zs) zs (zs.getD 1 0 % 11).toNat
  have e : madeP least zs = madeTo (madeN least zs) zs (zs.getD 1 0 % 11).toNat := rfl
  rw [← e] at h1 h2
  rw [hn] at h1
  refine ⟨n, hn, by omega, by omega, by omega, by omega, h1.1, fun p hp => ?_, h1.2, ?_⟩
  · have := h1.1 p hp; unfold okP; omega
  · unfold chk
    rw [if_neg (by omega), if_neg (by omega)]
    exact prsErr_ok _ [] h1.1 (by simpa using h1.2)

/-! ### a set and its list -/


/-! ### sets as ints -/
theorem and_i (n : Nat) : binAV .and none (.v (.int .i64 (n : Int))) (.v (.int .i64 1)) = some (.v (.int .i64 ((n % 2 : Nat) : Int))) := by
  have h : (BitVec.ofInt 64 (n : Int) &&& BitVec.ofInt 64 1).toNat = n % 2 := by
    rw [BitVec.toNat_and]
    have : (BitVec.ofInt 64 1).toNat = 1 := by decide
    rw [this, Nat.and_one_is_mod, BitVec.ofInt_natCast, BitVec.toNat_ofNat]
    omega
  show some (AV.v (.int .i64 (IntKind.i64.wrap ((BitVec.ofInt 64 (n : Int) &&& BitVec.ofInt 64 1).toNat : Int)))) = _
  rw [h, wrap64] <;> omega
theorem shr_i (m p : Nat) : binAV .shr none (.v (.int .i64 (m : Int))) (.v (.int .i64 (p : Int))) = some (.v (.int .i64 ((m >>> min p 64 : Nat) : Int))) := by
  have e := shrU m (min p 64)
  show (if (p : Int) < 0 then none else some (AV.v (.int .i64 (Int.fdiv (m : Int) (2 ^ min (Int.toNat (p : Int)) 64))))) = _
  rw [if_neg (by omega), Int.toNat_natCast]
  have e2 : ((2 : Int) ^ (min p 64)) = ((2 ^ (min p 64) : Nat) : Int) := by simp
  rw [e2, Int.fdiv_eq_ediv_of_nonneg _ (Int.natCast_nonneg _), Nat.shiftRight_eq_div_pow]
  simp
def shI (p : Nat) : Int := IntKind.i64.wrap (1 * 2 ^ (min p 64))
theorem shl_i (p : Nat) : binAV .shl none (.v (.int .i64 1)) (.v (.int .i64 (p : Int))) = some (.v (.int .i64 (shI p))) := by
  show (if (p : Int) < 0 then none else some (AV.v (.int .i64 (IntKind.i64.wrap (1 * (2 ^ (min (Int.toNat (p : Int)) 64))))))) = _
  rw [if_neg (by omega), Int.toNat_natCast]; rfl
attribute [local go_sem high] and_i shr_i shl_i
theorem bit_one (m p : Nat) : ((((m >>> p) % 2 : Nat) : Int) = 1) = (m.testBit p = true) := by
  have h := bitI_eq m p
  unfold bitI at h
  rw [h]
  split
  · next h2 => simp [h2]
  · next h2 => simp [h2]


/-! ### the greatest number -/
def maxF (m : Int) : List Int → Int
  | [] => m
  | x :: r => maxF (max m x) r
theorem maxF_gt (t : Int) : ∀ (l : List Int) (m : Int), t < maxF m l ↔ t < m ∨ ∃ x ∈ l, t < x
  | [], m => by simp [maxF]
  | x :: r, m => by
    simp only [maxF]
    rw [maxF_gt t r]
    simp only [List.mem_cons, exists_eq_or_imp]
    have : t < max m x ↔ t < m ∨ t < x := by omega
    rw [this, or_assoc]

theorem loop48 (a : AV) (S0 : List (List AV)) (T0 : List Nat) (xs : List Int) (hxl : xs.length < 1000000) (hlen : lenAV a = some (I xs.length)) (hidx : ∀ (i : Nat) (h : i < xs.length), ∃ p, indexSAV 1 a (.v (.int .i64 (i : Int))) = some p ∧ loadAV 1 false ⟨S0, T0⟩ p = some (I xs[i])) (lo hi : Nat) (i : Nat) (m : Int) (hok : i ≤ xs.length) (env : Env) (st : St)
    (hg : gcAV false lo hi (canon env [0, 3, 4]) st = ([(0, a), (3, I m), (4, I i)], ⟨S0, T0⟩)) :
    ∃ x_1 en s, lim (headed pure (run L) false [0, 3, 4] lp48_0 lo hi) env st = some (x_1, en, s) ∧ (x_1 = .exit 0 ∧ en.get 3 = I (maxF m (xs.drop i)) ∧ s = ⟨S0, T0⟩) := by
  refine loop_wp (α := Nat × Int) (fun ⟨i, m⟩ => xs.length - i) (fun ⟨i, m⟩ => i ≤ xs.length) (fun ⟨i, m⟩ => ([(0, a), (3, I m), (4, I i)], ⟨S0, T0⟩)) (fun ⟨i, m⟩ x_1 en s => x_1 = .exit 0 ∧ en.get 3 = I (maxF m (xs.drop i)) ∧ s = ⟨S0, T0⟩) (fun ⟨i, m⟩ hok => ?_) ⟨i, m⟩ hok env st hg
  simp only at hok
  dsimp only
  by_cases h : i < xs.length
  · obtain ⟨p, h1, h2⟩ := hidx i h
    have hs := succ64 i (by omega)
    have hd : xs.drop i = xs[i] :: xs.drop (i + 1) := List.drop_eq_getElem_cons h
    have hlt : ((i : Int) < (xs.length : Int)) = True := eq_true (by omega)
    rw [hd]
    generalize xs[i] = x at *
    simp only [go_sem, reduceIte, Nat.reduceEqDiff, Nat.reduceAdd, Nat.reduceSub, Nat.reduceLeDiff, Nat.reduceLT, reduceCtorEq, Int.reduceLT, Int.reduceLE, Int.reduceEq, Int.reduceBEq, Int.reduceSub, Int.reduceAdd, Int.reduceMul, Int.reduceNeg, Int.reduceToNat, Nat.reduceMul, Nat.reduceBEq, index_rsl_if, setm, make_ints, condK_dec, wantK_dec, not_dec, and_dec, or_dec, seqK_ite, seqK_none, blockK_ite, blockK_none, opsK_ite, opsK_none, stepK_ite, stepK_none, bodyK_ite, bodyK_none, resK_ite, resK_none, leaveK_ite, leaveK_none, only_ite, only_none, bind_ite, gives_some, gives_none, gives_ite, then_normal, then_ret, then_exit, then_none, then_ite, Option.bind_none, Bool.not_eq_true', decide_eq_false_iff_not, Bool.and_eq_true, Bool.or_eq_true, Option.some.injEq, Int.not_lt, Int.not_le, lp48_0, hlen, hlt, h1, h2, hs]
    refine ⟨(i + 1, max m x), by simp only [go_sem, reduceIte, Nat.reduceEqDiff, Nat.reduceAdd, Nat.reduceSub, Nat.reduceLeDiff, Nat.reduceLT, reduceCtorEq, Int.reduceLT, Int.reduceLE, Int.reduceEq, Int.reduceBEq, Int.reduceSub, Int.reduceAdd, Int.reduceMul, Int.reduceNeg, Int.reduceToNat, Nat.reduceMul, Nat.reduceBEq, ren1_locm, loc_tips, locT_eq] <;> rfl, ?_, ?_, fun x en s hq => ?_⟩
    · omega
    · simp only; omega
    · exact hq
  · have hd : xs.drop i = [] := List.drop_eq_nil_of_le (by omega)
    have hlt : ((i : Int) < (xs.length : Int)) = False := eq_false (by omega)
    simp only [go_sem, reduceIte, Nat.reduceEqDiff, Nat.reduceAdd, Nat.reduceSub, Nat.reduceLeDiff, Nat.reduceLT, reduceCtorEq, Int.reduceLT, Int.reduceLE, Int.reduceEq, Int.reduceBEq, Int.reduceSub, Int.reduceAdd, Int.reduceMul, Int.reduceNeg, Int.reduceToNat, Nat.reduceMul, Nat.reduceBEq, index_rsl_if, setm, make_ints, condK_dec, wantK_dec, not_dec, and_dec, or_dec, seqK_ite, seqK_none, blockK_ite, blockK_none, opsK_ite, opsK_none, stepK_ite, stepK_none, bodyK_ite, bodyK_none, resK_ite, resK_none, leaveK_ite, leaveK_none, only_ite, only_none, bind_ite, gives_some, gives_none, gives_ite, then_normal, then_ret, then_exit, then_none, then_ite, Option.bind_none, Bool.not_eq_true', decide_eq_false_iff_not, Bool.and_eq_true, Bool.or_eq_true, Option.some.injEq, Int.not_lt, Int.not_le, lp48_0, hlen, hlt]
    rw [hd]; rfl

theorem c48 (a : AV) (st : St) (xs : List Int) (hxl : xs.length < 1000000) (h1 : 1 ≤ xs.length) (hlen : lenAV a = some (I xs.length)) (hidx : ∀ (i : Nat) (h : i < xs.length), ∃ p, indexSAV 1 a (.v (.int .i64 (i : Int))) = some p ∧ loadAV 1 false st p = some (I xs[i])) :
    ∃ k : Int, run L 48 [a] st = some (I k, st) ∧ ∀ t, t < k ↔ ∃ x ∈ xs, t < x := by
  obtain ⟨S0, T0⟩ := st
  rw [run_shared (fn := ir48) rfl rfl]
  have q : ((xs.length : Int) < 1) = False := eq_false (by omega)
  obtain ⟨p, g1, g2⟩ := hidx 0 (by omega)
  rw [Int.natCast_zero] at g1
  simp only [ir48, go_sem, reduceIte, Nat.reduceEqDiff, Nat.reduceAdd, Nat.reduceSub, Nat.reduceLeDiff, Nat.reduceLT, reduceCtorEq, Int.reduceLT, Int.reduceLE, Int.reduceEq, Int.reduceBEq, Int.reduceSub, Int.reduceAdd, Int.reduceMul, Int.reduceNeg, Int.reduceToNat, Nat.reduceMul, Nat.reduceBEq, hlen, q, g1, g2]
  generalize hg : lim (headed pure (run L) false _ lp48_0 _ _) _ _ = o
  obtain ⟨x, en, s, rfl, h2⟩ : ∃ x en s, o = some (x, en, s) ∧ _ := by rw [← hg]; exact loop48 a S0 T0 xs hxl hlen hidx S0.length T0.length 1 xs[0] (by omega) _ _ (by simp only [go_sem, reduceIte, Nat.reduceEqDiff, Nat.reduceAdd, Nat.reduceSub, Nat.reduceLeDiff, Nat.reduceLT, reduceCtorEq, Int.reduceLT, Int.reduceLE, Int.reduceEq, Int.reduceBEq, Int.reduceSub, Int.reduceAdd, Int.reduceMul, Int.reduceNeg, Int.reduceToNat, Nat.reduceMul, Nat.reduceBEq, Int.natCast_one] <;> rfl)
  clear hg
  obtain ⟨rfl, h3, rfl⟩ := h2
  refine ⟨maxF xs[0] (xs.drop 1), by simp only [go_sem, reduceIte, Nat.reduceEqDiff, Nat.reduceAdd, Nat.reduceSub, Nat.reduceLeDiff, Nat.reduceLT, reduceCtorEq, Int.reduceLT, Int.reduceLE, Int.reduceEq, Int.reduceBEq, Int.reduceSub, Int.reduceAdd, Int.reduceMul, Int.reduceNeg, Int.reduceToNat, Nat.reduceMul, Nat.reduceBEq, h3], fun t => ?_⟩
  rw [maxF_gt]
  have e : xs = xs[0] :: xs.drop 1 := by
    have := List.drop_eq_getElem_cons (show 0 < xs.length by omega)
    simpa using this
  constructor
  · rintro (h | ⟨x, hx, h⟩)
    · exact ⟨xs[0], List.getElem_mem _, h⟩
    · exact ⟨x, List.mem_of_mem_drop hx, h⟩
  · rintro ⟨x, hx, h⟩
    rw [e] at hx
    rcases List.mem_cons.1 hx with rfl | hx
    · exact .inl h
    · exact .inr ⟨x, hx, h⟩

/-! ### what the pairs of each article have -/
def addAt (o : List Int) (i : Nat) (x : Int) : List Int := o.set i (o.getD i 0 + x)
def has1 (o : List Int) (e : (Int × Int) × Int) : List Int := addAt (addAt o e.1.1.toNat e.2) e.1.2.toNat e.2
theorem addAt_len (o : List Int) (i : Nat) (x : Int) : (addAt o i x).length = o.length := by simp [addAt]
theorem addAt_getD (o : List Int) (i : Nat) (x : Int) (j : Nat) (hi : i < o.length) : (addAt o i x).getD j 0 = if j = i then o.getD j 0 + x else o.getD j 0 := by
  unfold addAt
  simp only [List.getD_eq_getElem?_getD, List.getElem?_set]
  by_cases h : i = j
  · subst h; simp [hi]
  · simp [h, Ne.symm h]
theorem addAt_bd {o : List Int} {B : Int} (h : ∀ x ∈ o, 0 ≤ x ∧ x ≤ B) (i : Nat) {x : Int} (hx : 0 ≤ x ∧ x ≤ 2) : ∀ y ∈ addAt o i x, 0 ≤ y ∧ y ≤ B + 2 := by
  intro y hy
  unfold addAt at hy
  rcases List.mem_or_eq_of_mem_set hy with hy | rfl
  · have := h y hy; omega
  · have hg : 0 ≤ o.getD i 0 ∧ (o.getD i 0 ≤ B ∨ o.getD i 0 = 0) := by
      rw [List.getD_eq_getElem?_getD]
      cases h2 : o[i]?
      · simp
      · have := h _ (List.mem_of_getElem? h2); simp; omega
    by_cases hi : i < o.length
    · have h3 := h o[i] (List.getElem_mem hi)
      rw [List.getD_eq_getElem?_getD, List.getElem?_eq_getElem hi] at hg ⊢
      simp at hg ⊢; omega
    · rw [List.set_eq_of_length_le (by omega)] at hy
      have := h _ hy; omega
theorem getI (o : List Int) (a : Nat) (h : a < o.length) : (o.map I)[a]? = some (I (o.getD a 0)) := by
  rw [getm I o 0 a, if_pos h]
theorem getD_bd {o : List Int} {B : Int} (hB : 0 ≤ B) (h : ∀ x ∈ o, 0 ≤ x ∧ x ≤ B) (a : Nat) : 0 ≤ o.getD a 0 ∧ o.getD a 0 ≤ B := by
  rw [List.getD_eq_getElem?_getD]
  cases h2 : o[a]?
  · simp; omega
  · exact h _ (List.mem_of_getElem? h2)
def hasL (ps : List (Int × Int)) (s : List Int) : List Int := (ps.zip s).foldl has1 (List.replicate 7 0)

set_option maxHeartbeats 1000000 in
theorem loop92 (nl n2 : Bool) (n : Int) (ps : List (Int × Int)) (hlen : ps.length ≤ 10) (h7 : ∀ p ∈ ps, okP p) (s0 : List Int) (hsl : s0.length = ps.length) (hb : ∀ x ∈ s0, 0 ≤ x ∧ x ≤ 2) (tot : Int) (i : Nat) (o : List Int) (hok : i ≤ ps.length ∧ o.length = 7 ∧ ∀ x ∈ o, 0 ≤ x ∧ x ≤ 4 * i) (env : Env) (st : St)
    (hg : gcAV true 2 0 (canon env [1, 7, 9, 29, 30, 31]) st = ([(1, sl 1 n2 (s0.map I)), (7, I tot), (9, .ptr 1 0), (29, sl 2 nl (ps.map prAV)), (30, I ps.length), (31, I i)], ⟨[bkCells nl n ps, o.map I], []⟩)) :
    ∃ x_1 en s, lim (headed pure (run L) true [1, 7, 9, 29, 30, 31] lp92_0 2 0) env st = some (x_1, en, s) ∧ (x_1 = .exit 0 ∧ en.get 7 = I tot ∧ en.get 9 = .ptr 1 0 ∧ s = ⟨[bkCells nl n ps, (((ps.zip s0).drop i).foldl has1 o).map I], []⟩ ∧ (((ps.zip s0).drop i).foldl has1 o).length = 7) := by
  refine loop_wp (α := Nat × List Int) (fun ⟨i, o⟩ => ps.length - i) (fun ⟨i, o⟩ => i ≤ ps.length ∧ o.length = 7 ∧ ∀ x ∈ o, 0 ≤ x ∧ x ≤ 4 * i) (fun ⟨i, o⟩ => ([(1, sl 1 n2 (s0.map I)), (7, I tot), (9, .ptr 1 0), (29, sl 2 nl (ps.map prAV)), (30, I ps.length), (31, I i)], ⟨[bkCells nl n ps, o.map I], []⟩)) (fun ⟨i, o⟩ x_1 en s => x_1 = .exit 0 ∧ en.get 7 = I tot ∧ en.get 9 = .ptr 1 0 ∧ s = ⟨[bkCells nl n ps, (((ps.zip s0).drop i).foldl has1 o).map I], []⟩ ∧ (((ps.zip s0).drop i).foldl has1 o).length = 7) (fun ⟨i, o⟩ hok => ?_) ⟨i, o⟩ hok env st hg
  simp only at hok
  obtain ⟨h1, h2, h3⟩ := hok
  dsimp only
  by_cases h : i < ps.length
  · have hx := index_prs nl ps i h
    have hy := index_ints n2 s0 i (by omega)
    have hs := succ64 i (by omega)
    have hzl : i < (ps.zip s0).length := by rw [List.length_zip]; omega
    have hd : (ps.zip s0).drop i = (ps.zip s0)[i] :: (ps.zip s0).drop (i + 1) := List.drop_eq_getElem_cons hzl
    have hze : (ps.zip s0)[i] = (ps[i], s0[i]) := by simp
    have hp := h7 ps[i] (List.getElem_mem h)
    have hbx := hb s0[i] (List.getElem_mem (by omega))
    rw [hd, hze, List.foldl_cons]
    generalize ps[i] = c at *
    generalize s0[i] = x at *
    obtain ⟨u, v⟩ := c
    obtain ⟨a1, a2, a3, a4⟩ := hp
    simp only at a1 a2 a3 a4 hx
    obtain ⟨u, rfl⟩ := Int.eq_ofNat_of_zero_le a1
    obtain ⟨v, rfl⟩ := Int.eq_ofNat_of_zero_le a3
    have hlt : ((i : Int) < (ps.length : Int)) = True := eq_true (by omega)
    have hs1 := addAt_bd h3 u hbx
    have hl1 := addAt_len o u x
    have hs2 := addAt_bd hs1 v hbx
    have hl2 := addAt_len (addAt o u x) v x
    have k1 := getD_bd (by omega) h3 u
    have k2 := getD_bd (by omega) hs1 v
    have w1 : IntKind.i64.wrap (o.getD u 0 + x) = o.getD u 0 + x := by rw [wrap64] <;> omega
    have w2 : IntKind.i64.wrap ((addAt o u x).getD v 0 + x) = (addAt o u x).getD v 0 + x := by rw [wrap64] <;> omega
    have g1 := getI o u (by omega)
    have g2 := getI (addAt o u x) v (by omega)
    have hset1 : o.set u (o.getD u 0 + x) = addAt o u x := rfl
    have hset2 : (addAt o u x).set v ((addAt o u x).getD v 0 + x) = has1 o (((u : Int), (v : Int)), x) := rfl
    have hadv : has1 o (((u : Int), (v : Int)), x) = addAt (addAt o u x) v x := rfl
    have b1 : ((0 : Int) ≤ (u : Int)) = True := eq_true (by omega)
    have b2 : ((u : Int) < 7) = True := eq_true (by omega)
    have b3 : ((0 : Int) ≤ (v : Int)) = True := eq_true (by omega)
    have b4 : ((v : Int) < 7) = True := eq_true (by omega)
    have b5 : (u + 1 ≤ 7) = True := eq_true (by omega)
    have b6 : (v + 1 ≤ 7) = True := eq_true (by omega)
    rw [h2] at hl1
    rw [hl1] at hl2
    rw [← hadv] at hs2 hl2
    generalize has1 o (((u : Int), (v : Int)), x) = o2 at *
    simp only [go_sem, reduceIte, Nat.reduceEqDiff, Nat.reduceAdd, Nat.reduceSub, Nat.reduceLeDiff, Nat.reduceLT, reduceCtorEq, Int.reduceLT, Int.reduceLE, Int.reduceEq, Int.reduceBEq, Int.reduceSub, Int.reduceAdd, Int.reduceMul, Int.reduceNeg, Int.reduceToNat, Nat.reduceMul, Nat.reduceBEq, index_rsl_if, setm, make_ints, condK_dec, wantK_dec, not_dec, and_dec, or_dec, seqK_ite, seqK_none, blockK_ite, blockK_none, opsK_ite, opsK_none, stepK_ite, stepK_none, bodyK_ite, bodyK_none, resK_ite, resK_none, leaveK_ite, leaveK_none, only_ite, only_none, bind_ite, gives_some, gives_none, gives_ite, then_normal, then_ret, then_exit, then_none, then_ite, Option.bind_none, Bool.not_eq_true', decide_eq_false_iff_not, Bool.and_eq_true, Bool.or_eq_true, Option.some.injEq, Int.not_lt, Int.not_le, lp92_0, hx, hy, hlt, hs, b1, b2, b3, b4, b5, b6, g1, g2, w1, w2, hset1, hset2, h2, hl1, hl2, List.length_map]
    refine ⟨(i + 1, o2), by simp only [go_sem, reduceIte, Nat.reduceEqDiff, Nat.reduceAdd, Nat.reduceSub, Nat.reduceLeDiff, Nat.reduceLT, reduceCtorEq, Int.reduceLT, Int.reduceLE, Int.reduceEq, Int.reduceBEq, Int.reduceSub, Int.reduceAdd, Int.reduceMul, Int.reduceNeg, Int.reduceToNat, Nat.reduceMul, Nat.reduceBEq, ren1_locm, loc_tips, locT_eq] <;> rfl, ?_, ?_, fun x en s hq => ?_⟩
    · dsimp only; exact ⟨by omega, hl2, fun y hy => by have := hs2 y hy; omega⟩
    · simp only; omega
    · exact hq
  · have hd : (ps.zip s0).drop i = [] := List.drop_eq_nil_of_le (by rw [List.length_zip]; omega)
    have hlt : ((i : Int) < (ps.length : Int)) = False := eq_false (by omega)
    simp only [go_sem, reduceIte, Nat.reduceEqDiff, Nat.reduceAdd, Nat.reduceSub, Nat.reduceLeDiff, Nat.reduceLT, reduceCtorEq, Int.reduceLT, Int.reduceLE, Int.reduceEq, Int.reduceBEq, Int.reduceSub, Int.reduceAdd, Int.reduceMul, Int.reduceNeg, Int.reduceToNat, Nat.reduceMul, Nat.reduceBEq, index_rsl_if, setm, make_ints, condK_dec, wantK_dec, not_dec, and_dec, or_dec, seqK_ite, seqK_none, blockK_ite, blockK_none, opsK_ite, opsK_none, stepK_ite, stepK_none, bodyK_ite, bodyK_none, resK_ite, resK_none, leaveK_ite, leaveK_none, only_ite, only_none, bind_ite, gives_some, gives_none, gives_ite, then_normal, then_ret, then_exit, then_none, then_ite, Option.bind_none, Bool.not_eq_true', decide_eq_false_iff_not, Bool.and_eq_true, Bool.or_eq_true, Option.some.injEq, Int.not_lt, Int.not_le, lp92_0, hlt]
    rw [hd]; exact ⟨rfl, h2⟩

/-- Has an article more than 2? -/
def overB (ps : List (Int × Int)) (s : List Int) : Bool := (hasL ps s).any fun x => decide (2 < x)
def sharedV (n : Int) (ps : List (Int × Int)) (s : List Int) : Int × Int :=
  if chk n ps = 0 then (if (numbersV s ps.length).2 = 0 then (if overB ps s = true then (0, 15) else ((numbersV s ps.length).1, 0)) else (0, (numbersV s ps.length).2)) else (0, chk n ps)
theorem numbersV_zero {v : List Int} {n : Int} (p : (numbersV v n).2 = 0) : (v.length : Int) = n ∧ v.all in02 = true ∧ (numbersV v n).1 = sumL v := by
  unfold numbersV at p ⊢
  split at p
  · next q =>
    rw [if_pos q]
    split at p
    · next r => rw [if_pos r]; exact ⟨q, r, rfl⟩
    · simp at p
  · simp at p
theorem c92 (nl n2 : Bool) (n : Int) (ps : List (Int × Int)) (v : List Int) (hlen : v.length < 1000000) (st : St) :
    run L 92 [bkAV nl n ps, sl 1 n2 (v.map I)] st = some (.tup [I (sharedV n ps v).1, I (sharedV n ps v).2], st) := by
  rw [run_pure (fn := ir92) rfl rfl]
  have h22 := fun st => c22 nl n ps st
  have h109 := fun st => c109 n2 v hlen ps.length st
  unfold sharedV
  by_cases h : chk n ps = 0
  · obtain ⟨h1, h2, h3, h4, h5⟩ := chk_zero h
    rw [if_pos h]
    by_cases p : (numbersV v ps.length).2 = 0
    · obtain ⟨q1, q2, q3⟩ := numbersV_zero p
      rw [if_pos p]
      simp only [ir92, go_sem, reduceIte, Nat.reduceEqDiff, Nat.reduceAdd, Nat.reduceSub, Nat.reduceLeDiff, Nat.reduceLT, reduceCtorEq, Int.reduceLT, Int.reduceLE, Int.reduceEq, Int.reduceBEq, Int.reduceSub, Int.reduceAdd, Int.reduceMul, Int.reduceNeg, Int.reduceToNat, Nat.reduceMul, Nat.reduceBEq, h22, h, h109, p, List.length_map]
      generalize (numbersV v ps.length).1 = s0
      generalize hg : lim (headed pure (run L) true _ lp92_0 _ _) _ _ = o
      obtain ⟨x, en, s, rfl, h2⟩ : ∃ x en s, o = some (x, en, s) ∧ _ := by rw [← hg]; exact loop92 nl n2 n ps h3 h5 v (by omega) (all02 q2) s0 0 (List.replicate 7 0) ⟨by omega, by simp, by simp⟩ _ _ (by simp only [go_sem, reduceIte, Nat.reduceEqDiff, Nat.reduceAdd, Nat.reduceSub, Nat.reduceLeDiff, Nat.reduceLT, reduceCtorEq, Int.reduceLT, Int.reduceLE, Int.reduceEq, Int.reduceBEq, Int.reduceSub, Int.reduceAdd, Int.reduceMul, Int.reduceNeg, Int.reduceToNat, Nat.reduceMul, Nat.reduceBEq, List.map_replicate] <;> rfl)
      clear hg
      obtain ⟨rfl, g7, g9, rfl, g5⟩ := h2
      rw [List.drop_zero] at g5 ⊢
      have e : (ps.zip v).foldl has1 (List.replicate 7 0) = hasL ps v := rfl
      rw [e] at g5 ⊢
      unfold overB
      generalize hasL ps v = hs at *
      obtain ⟨k, k1, k2⟩ := c48 (.rsl 1 0 7 7 1 false) ⟨[bkCells nl n ps, hs.map I], []⟩ hs (by omega) (by omega) (by rw [g5]; rfl) (fun i hi => ⟨.ptr 1 i, by
          rw [index_rsl_if, if_pos (by omega)]; simp, by
          simp only [load_ptr, List.getElem?_cons_succ, List.getElem?_cons_zero, Option.bind_some, readCells]
          simp [List.getElem?_eq_getElem hi]⟩)
      have k3 := k2 2
      have hsl : sliceaAV 7 1 false (.ptr 1 0) none none none = some (.rsl 1 0 7 7 1 false) := rfl
      by_cases q : 2 < k
      · have q' : (hs.any fun x => decide (2 < x)) = true := by
          rw [List.any_eq_true]; obtain ⟨x, hx, hx2⟩ := k3.1 q; exact ⟨x, hx, decide_eq_true hx2⟩
        simp only [go_sem, reduceIte, Nat.reduceEqDiff, Nat.reduceAdd, Nat.reduceSub, Nat.reduceLeDiff, Nat.reduceLT, reduceCtorEq, Int.reduceLT, Int.reduceLE, Int.reduceEq, Int.reduceBEq, Int.reduceSub, Int.reduceAdd, Int.reduceMul, Int.reduceNeg, Int.reduceToNat, Nat.reduceMul, Nat.reduceBEq, g7, g9, hsl, k1, q, q']
      · have q' : (hs.any fun x => decide (2 < x)) = false := by
          rw [List.any_eq_false]; intro x hx; have : ¬ 2 < x := fun hx2 => q (k3.2 ⟨x, hx, hx2⟩); simpa using this
        simp only [go_sem, reduceIte, Nat.reduceEqDiff, Nat.reduceAdd, Nat.reduceSub, Nat.reduceLeDiff, Nat.reduceLT, reduceCtorEq, Int.reduceLT, Int.reduceLE, Int.reduceEq, Int.reduceBEq, Int.reduceSub, Int.reduceAdd, Int.reduceMul, Int.reduceNeg, Int.reduceToNat, Nat.reduceMul, Nat.reduceBEq, g7, g9, hsl, k1, q, q']
    · rw [if_neg p]
      simp only [ir92, go_sem, reduceIte, Nat.reduceEqDiff, Nat.reduceAdd, Nat.reduceSub, Nat.reduceLeDiff, Nat.reduceLT, reduceCtorEq, Int.reduceLT, Int.reduceLE, Int.reduceEq, Int.reduceBEq, Int.reduceSub, Int.reduceAdd, Int.reduceMul, Int.reduceNeg, Int.reduceToNat, Nat.reduceMul, Nat.reduceBEq, h22, h, h109, p, List.length_map]
  · rw [if_neg h]
    simp only [ir92, go_sem, reduceIte, Nat.reduceEqDiff, Nat.reduceAdd, Nat.reduceSub, Nat.reduceLeDiff, Nat.reduceLT, reduceCtorEq, Int.reduceLT, Int.reduceLE, Int.reduceEq, Int.reduceBEq, Int.reduceSub, Int.reduceAdd, Int.reduceMul, Int.reduceNeg, Int.reduceToNat, Nat.reduceMul, Nat.reduceBEq, h22, h]
theorem c40 (nl n2 : Bool) (n : Int) (ps : List (Int × Int)) (v : List Int) (hlen : v.length < 1000000) (st : St) :
    run L 40 [bkAV nl n ps, sl 1 n2 (v.map I)] st = some (I (sharedV n ps v).2, st) := by
  rw [run_pure (fn := ir40) rfl rfl]
  have h92 := fun st => c92 nl n2 n ps v hlen st
  simp only [ir40, go_sem, reduceIte, Nat.reduceEqDiff, Nat.reduceAdd, Nat.reduceSub, Nat.reduceLeDiff, Nat.reduceLT, reduceCtorEq, Int.reduceLT, Int.reduceLE, Int.reduceEq, Int.reduceBEq, Int.reduceSub, Int.reduceAdd, Int.reduceMul, Int.reduceNeg, Int.reduceToNat, Nat.reduceMul, Nat.reduceBEq, h92]


/-! ### totals; places in a list -/
def totalV (l : List Int) (many : Int) : Int := if (l.length : Int) = many then (if l.all in02 = true then sumL l else -1) else -1

theorem loop45 (nl : Bool) (l : List Int) (hlen : l.length < 1000000) (i : Nat) (acc : Int) (hok : i ≤ l.length ∧ 0 ≤ acc ∧ acc ≤ 2 * i) (env : Env) (st : St)
    (hg : gcAV true 0 0 (canon env [5, 12, 13, 14]) st = ([(5, I acc), (12, sl 1 nl (l.map I)), (13, I l.length), (14, I i)], ⟨[], []⟩)) :
    ∃ x_1 en s, lim (headed pure (run L) true [5, 12, 13, 14] lp45_0 0 0) env st = some (x_1, en, s) ∧ (if (l.drop i).all in02 = true then x_1 = .exit 0 ∧ en.get 5 = I (acc + sumL (l.drop i)) else x_1 = .ret ∧ en.get 4 = I (-1)) := by
  refine loop_wp (α := Nat × Int) (fun ⟨i, acc⟩ => l.length - i) (fun ⟨i, acc⟩ => i ≤ l.length ∧ 0 ≤ acc ∧ acc ≤ 2 * i) (fun ⟨i, acc⟩ => ([(5, I acc), (12, sl 1 nl (l.map I)), (13, I l.length), (14, I i)], ⟨[], []⟩)) (fun ⟨i, acc⟩ x_1 en s => if (l.drop i).all in02 = true then x_1 = .exit 0 ∧ en.get 5 = I (acc + sumL (l.drop i)) else x_1 = .ret ∧ en.get 4 = I (-1)) (fun ⟨i, acc⟩ hok => ?_) ⟨i, acc⟩ hok env st hg
  simp only at hok
  obtain ⟨h1, h2, h3⟩ := hok
  dsimp only
  by_cases h : i < l.length
  · have hx := index_ints nl l i h
    have hs := succ64 i (by omega)
    have hd : l.drop i = l[i] :: l.drop (i + 1) := List.drop_eq_getElem_cons h
    have hlt : ((i : Int) < (l.length : Int)) = True := eq_true (by omega)
    rw [hd]
    generalize l[i] = a at *
    by_cases p1 : a < 0
    · simp only [go_sem, reduceIte, Nat.reduceEqDiff, Nat.reduceAdd, Nat.reduceSub, Nat.reduceLeDiff, Nat.reduceLT, reduceCtorEq, Int.reduceLT, Int.reduceLE, Int.reduceEq, Int.reduceBEq, Int.reduceSub, Int.reduceAdd, Int.reduceMul, Int.reduceNeg, Int.reduceToNat, Nat.reduceMul, Nat.reduceBEq, index_rsl_if, setm, make_ints, condK_dec, wantK_dec, not_dec, and_dec, or_dec, seqK_ite, seqK_none, blockK_ite, blockK_none, opsK_ite, opsK_none, stepK_ite, stepK_none, bodyK_ite, bodyK_none, resK_ite, resK_none, leaveK_ite, leaveK_none, only_ite, only_none, bind_ite, gives_some, gives_none, gives_ite, then_normal, then_ret, then_exit, then_none, then_ite, Option.bind_none, Bool.not_eq_true', decide_eq_false_iff_not, Bool.and_eq_true, Bool.or_eq_true, Option.some.injEq, Int.not_lt, Int.not_le, lp45_0, hx, hlt, p1]
      rw [if_neg (by simp [in02]; omega)]; trivial
    by_cases p2 : 2 < a
    · simp only [go_sem, reduceIte, Nat.reduceEqDiff, Nat.reduceAdd, Nat.reduceSub, Nat.reduceLeDiff, Nat.reduceLT, reduceCtorEq, Int.reduceLT, Int.reduceLE, Int.reduceEq, Int.reduceBEq, Int.reduceSub, Int.reduceAdd, Int.reduceMul, Int.reduceNeg, Int.reduceToNat, Nat.reduceMul, Nat.reduceBEq, index_rsl_if, setm, make_ints, condK_dec, wantK_dec, not_dec, and_dec, or_dec, seqK_ite, seqK_none, blockK_ite, blockK_none, opsK_ite, opsK_none, stepK_ite, stepK_none, bodyK_ite, bodyK_none, resK_ite, resK_none, leaveK_ite, leaveK_none, only_ite, only_none, bind_ite, gives_some, gives_none, gives_ite, then_normal, then_ret, then_exit, then_none, then_ite, Option.bind_none, Bool.not_eq_true', decide_eq_false_iff_not, Bool.and_eq_true, Bool.or_eq_true, Option.some.injEq, Int.not_lt, Int.not_le, lp45_0, hx, hlt, p1, p2]
      rw [if_neg (by simp [in02]; omega)]; trivial
    have hw : IntKind.i64.wrap (acc + a) = acc + a := by rw [wrap64] <;> omega
    have hin : in02 a = true := decide_eq_true (by omega)
    simp only [go_sem, reduceIte, Nat.reduceEqDiff, Nat.reduceAdd, Nat.reduceSub, Nat.reduceLeDiff, Nat.reduceLT, reduceCtorEq, Int.reduceLT, Int.reduceLE, Int.reduceEq, Int.reduceBEq, Int.reduceSub, Int.reduceAdd, Int.reduceMul, Int.reduceNeg, Int.reduceToNat, Nat.reduceMul, Nat.reduceBEq, index_rsl_if, setm, make_ints, condK_dec, wantK_dec, not_dec, and_dec, or_dec, seqK_ite, seqK_none, blockK_ite, blockK_none, opsK_ite, opsK_none, stepK_ite, stepK_none, bodyK_ite, bodyK_none, resK_ite, resK_none, leaveK_ite, leaveK_none, only_ite, only_none, bind_ite, gives_some, gives_none, gives_ite, then_normal, then_ret, then_exit, then_none, then_ite, Option.bind_none, Bool.not_eq_true', decide_eq_false_iff_not, Bool.and_eq_true, Bool.or_eq_true, Option.some.injEq, Int.not_lt, Int.not_le, lp45_0, hx, hlt, p1, p2, hw, hs]
    refine ⟨(i + 1, acc + a), by simp only [go_sem, reduceIte, Nat.reduceEqDiff, Nat.reduceAdd, Nat.reduceSub, Nat.reduceLeDiff, Nat.reduceLT, reduceCtorEq, Int.reduceLT, Int.reduceLE, Int.reduceEq, Int.reduceBEq, Int.reduceSub, Int.reduceAdd, Int.reduceMul, Int.reduceNeg, Int.reduceToNat, Nat.reduceMul, Nat.reduceBEq, ren1_locm, loc_tips, locT_eq] <;> rfl, ?_, ?_, fun x en s hq => ?_⟩
    · dsimp only; exact ⟨by omega, by omega, by omega⟩
    · simp only; omega
    · simp only [List.all_cons, hin, sumL, Bool.true_and, true_and]; rw [← Int.add_assoc]; simpa using hq
  · have hd : l.drop i = [] := List.drop_eq_nil_of_le (by omega)
    have hlt : ((i : Int) < (l.length : Int)) = False := eq_false (by omega)
    simp only [go_sem, reduceIte, Nat.reduceEqDiff, Nat.reduceAdd, Nat.reduceSub, Nat.reduceLeDiff, Nat.reduceLT, reduceCtorEq, Int.reduceLT, Int.reduceLE, Int.reduceEq, Int.reduceBEq, Int.reduceSub, Int.reduceAdd, Int.reduceMul, Int.reduceNeg, Int.reduceToNat, Nat.reduceMul, Nat.reduceBEq, index_rsl_if, setm, make_ints, condK_dec, wantK_dec, not_dec, and_dec, or_dec, seqK_ite, seqK_none, blockK_ite, blockK_none, opsK_ite, opsK_none, stepK_ite, stepK_none, bodyK_ite, bodyK_none, resK_ite, resK_none, leaveK_ite, leaveK_none, only_ite, only_none, bind_ite, gives_some, gives_none, gives_ite, then_normal, then_ret, then_exit, then_none, then_ite, Option.bind_none, Bool.not_eq_true', decide_eq_false_iff_not, Bool.and_eq_true, Bool.or_eq_true, Option.some.injEq, Int.not_lt, Int.not_le, lp45_0, hlt]
    rw [hd]; simp [sumL]

theorem c45 (nl : Bool) (l : List Int) (hlen : l.length < 1000000) (many : Int) (st : St) : run L 45 [sl 1 nl (l.map I), I many] st = some (I (totalV l many), st) := by
  rw [run_pure (fn := ir45) rfl rfl]
  unfold totalV
  by_cases p : (l.length : Int) = many
  · rw [if_pos p]
    simp only [ir45, go_sem, reduceIte, Nat.reduceEqDiff, Nat.reduceAdd, Nat.reduceSub, Nat.reduceLeDiff, Nat.reduceLT, reduceCtorEq, Int.reduceLT, Int.reduceLE, Int.reduceEq, Int.reduceBEq, Int.reduceSub, Int.reduceAdd, Int.reduceMul, Int.reduceNeg, Int.reduceToNat, Nat.reduceMul, Nat.reduceBEq, List.length_map, p]
    rw [← p]
    generalize hg : lim (headed pure (run L) true _ lp45_0 _ _) _ _ = o
    obtain ⟨x, en, s, rfl, h2⟩ : ∃ x en s, o = some (x, en, s) ∧ _ := by rw [← hg]; exact loop45 nl l hlen 0 0 ⟨by omega, by omega, by omega⟩ _ _ (by simp only [go_sem, reduceIte, Nat.reduceEqDiff, Nat.reduceAdd, Nat.reduceSub, Nat.reduceLeDiff, Nat.reduceLT, reduceCtorEq, Int.reduceLT, Int.reduceLE, Int.reduceEq, Int.reduceBEq, Int.reduceSub, Int.reduceAdd, Int.reduceMul, Int.reduceNeg, Int.reduceToNat, Nat.reduceMul, Nat.reduceBEq] <;> rfl)
    clear hg
    rw [List.drop_zero, Int.zero_add] at h2
    by_cases h : l.all in02 = true
    · rw [if_pos h] at h2
      obtain ⟨rfl, h3⟩ := h2
      simp only [go_sem, reduceIte, Nat.reduceEqDiff, Nat.reduceAdd, Nat.reduceSub, Nat.reduceLeDiff, Nat.reduceLT, reduceCtorEq, Int.reduceLT, Int.reduceLE, Int.reduceEq, Int.reduceBEq, Int.reduceSub, Int.reduceAdd, Int.reduceMul, Int.reduceNeg, Int.reduceToNat, Nat.reduceMul, Nat.reduceBEq, h3, h]
    · rw [if_neg h] at h2
      obtain ⟨rfl, h3⟩ := h2
      simp only [go_sem, reduceIte, Nat.reduceEqDiff, Nat.reduceAdd, Nat.reduceSub, Nat.reduceLeDiff, Nat.reduceLT, reduceCtorEq, Int.reduceLT, Int.reduceLE, Int.reduceEq, Int.reduceBEq, Int.reduceSub, Int.reduceAdd, Int.reduceMul, Int.reduceNeg, Int.reduceToNat, Nat.reduceMul, Nat.reduceBEq, h3, h]
  · rw [if_neg p]
    simp only [ir45, go_sem, reduceIte, Nat.reduceEqDiff, Nat.reduceAdd, Nat.reduceSub, Nat.reduceLeDiff, Nat.reduceLT, reduceCtorEq, Int.reduceLT, Int.reduceLE, Int.reduceEq, Int.reduceBEq, Int.reduceSub, Int.reduceAdd, Int.reduceMul, Int.reduceNeg, Int.reduceToNat, Nat.reduceMul, Nat.reduceBEq, List.length_map, p]


/-! ### two lists that grow -/
def vAV (v : List Int) : AV := loc 1 0 (v.map I)
def vT (v : List Int) : List Nat := locT 0 (v.map I)
def sAV (v s : List Int) : AV := if s = [] then .v (.slice none 0 0) else .lst (.own (vT v).length s.length) 1 (s.map I)
theorem okRef_v (n : Nat) (v : List Int) : okRef n (vAV v) = true := okRef_loc _ _ _ _
theorem pub_v (v : List Int) : pub (vAV v) = sl 1 true (v.map I) := pub_loc 1 0 _
theorem len_v (v : List Int) : lenAV (vAV v) = some (I v.length) := by unfold vAV; rw [len_loc]; simp
theorem okRef_s (n : Nat) (v s : List Int) : okRef n (sAV v s) = true := by unfold sAV; split <;> rfl
theorem pub_s (v s : List Int) : pub (sAV v s) = sl 1 true (s.map I) := by
  unfold sAV
  split
  · next h => subst h; rfl
  · next h => rw [sl_ne (by simpa using h)]; rfl
theorem len_s (v s : List Int) : lenAV (sAV v s) = some (I s.length) := by
  unfold sAV
  split
  · next h => subst h; rfl
  · next h => rw [len_lst]; simp
attribute [local go_sem] okRef_v pub_v len_v okRef_s pub_s len_s


/-! ### shares are worth no more than values cost -/
theorem sum_upd {f g : Nat → Int} {i : Nat} {d : Int} : ∀ l : List Nat, l.Nodup → i ∈ l → (∀ a ∈ l, a ≠ i → f a = g a) → f i = g i + d → sumL (l.map f) = sumL (l.map g) + d
  | [], _, hi, _, _ => by simp at hi
  | a :: r, hn, hi, h, hd => by
    rw [List.nodup_cons] at hn
    simp only [List.map_cons, sumL]
    by_cases e : a = i
    · subst e
      have : r.map f = r.map g := List.map_congr_left (fun b hb => h b (by simp [hb]) (fun e => hn.1 (e ▸ hb)))
      rw [this, hd]; omega
    · have h1 := sum_upd r hn.2 (by simpa [Ne.symm e] using hi) (fun b hb => h b (by simp [hb])) hd
      rw [h1, h a (by simp) e]; omega
def dot (n : Nat) (v o : List Int) : Int := sumL ((List.range n).map fun a => v.getD a 0 * o.getD a 0)
theorem dot_addAt {n : Nat} (v o : List Int) {i : Nat} (hi : i < n) (ho : i < o.length) (x : Int) : dot n v (addAt o i x) = dot n v o + v.getD i 0 * x := by
  unfold dot
  apply sum_upd (i := i) _ List.nodup_range (List.mem_range.2 hi)
  · intro a _ hne; rw [addAt_getD _ _ _ _ ho, if_neg hne]
  · rw [addAt_getD _ _ _ _ ho, if_pos rfl, Int.mul_add]
def wsum (v : List Int) (l : List ((Int × Int) × Int)) : Int := sumL (l.map fun e => (v.getD e.1.1.toNat 0 + v.getD e.1.2.toNat 0) * e.2)
theorem has1_len (o : List Int) (e : (Int × Int) × Int) : (has1 o e).length = o.length := by simp [has1, addAt_len]
theorem fold_len : ∀ (l : List ((Int × Int) × Int)) (o : List Int), (l.foldl has1 o).length = o.length
  | [], o => rfl
  | e :: r, o => by rw [List.foldl_cons, fold_len r, has1_len]
theorem dot_fold {n : Nat} (hn : n ≤ 7) (v : List Int) : ∀ (l : List ((Int × Int) × Int)) (o : List Int), o.length = 7 → (∀ e ∈ l, 0 ≤ e.1.1 ∧ e.1.1 < e.1.2 ∧ e.1.2 < (n : Int)) → dot n v (l.foldl has1 o) = dot n v o + wsum v l
  | [], o, _, _ => by simp [wsum, sumL]
  | e :: r, o, ho, h => by
    have he := h e (by simp)
    rw [List.foldl_cons, dot_fold hn v r _ (by rw [has1_len, ho]) (fun x hx => h x (by simp [hx]))]
    unfold has1
    rw [dot_addAt v _ (by omega) (by rw [addAt_len]; omega), dot_addAt v _ (by omega) (by omega)]
    simp only [wsum, List.map_cons, sumL, Int.add_mul]; omega
theorem sum_le2 {α : Type} {f g : α → Int} : ∀ l : List α, (∀ a ∈ l, f a ≤ g a) → sumL (l.map f) ≤ sumL (l.map g)
  | [], _ => by simp
  | a :: r, h => by
    have h1 := sum_le2 (f := f) (g := g) r (fun x hx => h x (by simp [hx]))
    have h2 := h a (by simp)
    simp only [List.map_cons, sumL]; omega
theorem sum_two {α : Type} (f : α → Int) : ∀ l : List α, sumL (l.map fun a => f a * 2) = 2 * sumL (l.map f)
  | [] => by simp [sumL]
  | a :: r => by
    have := sum_two f r
    simp only [List.map_cons, sumL]; omega
theorem weak {n : Nat} (hn : n ≤ 7) {ps : List (Int × Int)} (hps : ∀ p ∈ ps, 0 ≤ p.1 ∧ p.1 < p.2 ∧ p.2 < (n : Int)) {v s : List Int} (hv : v.length = n) (hvb : ∀ x ∈ v, 0 ≤ x ∧ x ≤ 2) (hs : s.length = ps.length) (hsb : ∀ x ∈ s, 0 ≤ x ∧ x ≤ 2)
    (hh : halfOk ps v = true) (ho : overB ps s = false) : sumL s ≤ sumL v := by
  have hz : ∀ e ∈ ps.zip s, e.1 ∈ ps ∧ e.2 ∈ s := fun e he => ⟨(List.of_mem_zip he).1, (List.of_mem_zip he).2⟩
  have h1 := dot_fold hn v (ps.zip s) (List.replicate 7 0) (by simp) (fun e he => hps _ (hz e he).1)
  have h0 : dot n v (List.replicate 7 0) = 0 := by
    have : ∀ l : List Nat, sumL (l.map fun a => v.getD a 0 * (List.replicate 7 (0 : Int)).getD a 0) = 0 := by
      intro l
      induction l with
      | nil => rfl
      | cons a r ih =>
        simp only [List.map_cons, sumL, ih]
        rw [List.getD_eq_getElem?_getD (l := List.replicate 7 (0 : Int)), List.getElem?_replicate]
        split <;> simp
    exact this _
  have he : (ps.zip s).foldl has1 (List.replicate 7 0) = hasL ps s := rfl
  rw [h0, he, Int.zero_add] at h1
  -- each pair has enough
  have h2 : 2 * sumL s ≤ wsum v (ps.zip s) := by
    have e : sumL s = sumL ((ps.zip s).map fun e => e.2) := by
      have := List.map_snd_zip (l₁ := ps) (l₂ := s) (by omega)
      have e2 : (ps.zip s).map (fun e => e.2) = s := this
      rw [e2]
    rw [e, ← sum_two]
    apply sum_le2
    intro e he
    obtain ⟨m1, m2⟩ := hz e he
    have g1 := List.all_eq_true.1 hh _ m1
    simp only [enough, decide_eq_true_iff] at g1
    have g2 := (hsb _ m2).1
    have := Int.mul_le_mul_of_nonneg_left g1 g2
    rw [Int.mul_comm (v.getD _ 0 + v.getD _ 0)]
    exact this
  -- no article has more than 2
  have h3 : dot n v (hasL ps s) ≤ 2 * sumL v := by
    have e : sumL v = sumL ((List.range n).map fun a => v.getD a 0) := by rw [← list_range v n hv]
    rw [e, ← sum_two]
    unfold dot
    apply sum_le2
    intro a _
    have g1 : 0 ≤ v.getD a 0 := (getD_bd (B := 2) (by omega) hvb a).1
    have g2 : (hasL ps s).getD a 0 ≤ 2 := by
      unfold overB at ho
      rw [List.any_eq_false] at ho
      rw [List.getD_eq_getElem?_getD]
      cases h4 : (hasL ps s)[a]?
      · simp
      · have := ho _ (List.mem_of_getElem? h4); simpa using this
    exact Int.mul_le_mul_of_nonneg_left g2 g1
  omega

/-! ### what is accepted, by the outright words -/
def sharedE (ps : List (Int × Int)) (s : List Int) : Int := if s.length = ps.length then (if (-1 : Int) ∈ s then 1 else if overB ps s = true then 15 else 0) else 5
theorem shared_eq {n : Nat} {ps : List (Int × Int)} {s : List Int} (hc : chk n ps = 0) (hs : ∀ x ∈ s, -1 ≤ x ∧ x ≤ 2) : (sharedV n ps s).2 = sharedE ps s := by
  unfold sharedV sharedE numbersV
  rw [if_pos hc]
  by_cases p : s.length = ps.length
  · have p' : (s.length : Int) = (ps.length : Int) := by omega
    rw [if_pos p, if_pos p']
    by_cases q : (-1 : Int) ∈ s
    · have q' : ¬ s.all in02 = true := by
        intro h; have := all02 h _ q; omega
      rw [if_pos q, if_neg q']; rfl
    · have q' : s.all in02 = true := by
        rw [List.all_eq_true]; intro x hx
        have h1 := hs x hx
        have h2 : x ≠ -1 := fun h => q (h ▸ hx)
        exact decide_eq_true (by omega)
      rw [if_neg q, if_pos q']
      by_cases r : overB ps s = true
      · simp [r]
      · simp [r]
  · have p' : ¬ (s.length : Int) = (ps.length : Int) := by omega
    rw [if_neg p, if_neg p']; rfl


/-! ### three lists that grow in an array -/
def n1 (xs : List Int) : Nat := if xs = [] then 0 else 1


/-! ### a list of pairs that grows behind other lists -/
def pN (k : Nat) (o : List (Int × Int)) : AV := if o = [] then .v (.slice none 0 0) else .lst (.own k o.length) 2 (o.map prAV)
theorem okRef_pN (n k : Nat) (o : List (Int × Int)) : okRef n (pN k o) = true := by unfold pN; split <;> rfl
theorem pub_pN (k : Nat) (o : List (Int × Int)) : pub (pN k o) = sl 2 true (o.map prAV) := by
  unfold pN
  split
  · next h => subst h; rfl
  · next h => rw [sl_ne (by simpa using h)]; rfl
attribute [local go_sem] okRef_pN pub_pN


/-! ### the reference's shares -/
def loadOf (l : List ((Int × Int) × Int)) (a : Int) : Int :=
  match l with
  | [] => 0
  | e :: r => (if e.1.1 = a ∨ e.1.2 = a then e.2 else 0) + loadOf r a
/-- Does an article from one on have too much? -/
def overFrom (l : List ((Int × Int) × Int)) (n a : Nat) : Bool := (List.range' a (n - a)).any fun b => decide (2 < loadOf l (b : Int))


/-- All shares that begin with some. -/
def shF (n : Nat) (ps : List (Int × Int)) : Nat → List Int → List (List Int)
  | 0, b => [b]
  | k + 1, b => (List.range' 0 3).flatMap fun (x : Nat) => if overFrom (ps.zip (b ++ [(x : Int)])) n 0 = true then [] else shF n ps k (b ++ [(x : Int)])
/-! ### a list of lists that grows -/
def lAV (o : List (List Int)) : AV := loc 1 0 (o.map listAV)
theorem okRef_l (n : Nat) (o : List (List Int)) : okRef n (lAV o) = true := okRef_loc _ _ _ _
theorem fin_l (st : St) (o : List (List Int)) : fin st (lAV o) = sl 1 true (o.map listAV) := fin_loc st 1 0 _
attribute [local go_sem] okRef_l fin_l


/-! ### the two ways to see that an article has too much -/
theorem fold_getD {n : Nat} (hn : n ≤ 7) : ∀ (l : List ((Int × Int) × Int)) (o : List Int) (a : Nat), o.length = 7 → (∀ e ∈ l, 0 ≤ e.1.1 ∧ e.1.1 < e.1.2 ∧ e.1.2 < (n : Int)) → (l.foldl has1 o).getD a 0 = o.getD a 0 + loadOf l (a : Int)
  | [], o, a, _, _ => by simp [loadOf]
  | e :: r, o, a, ho, h => by
    have he := h e (by simp)
    rw [List.foldl_cons, fold_getD hn r _ a (by rw [has1_len, ho]) (fun x hx => h x (by simp [hx]))]
    unfold has1
    rw [addAt_getD _ _ _ _ (by rw [addAt_len]; omega), addAt_getD _ _ _ _ (by omega)]
    simp only [loadOf]
    by_cases p1 : a = e.1.2.toNat
    · rw [if_pos p1, if_neg (by omega), if_pos (by right; omega)]; omega
    · rw [if_neg p1]
      by_cases p2 : a = e.1.1.toNat
      · rw [if_pos p2, if_pos (by left; omega)]; omega
      · rw [if_neg p2, if_neg (by omega)]; omega
theorem load_out {n : Nat} : ∀ (l : List ((Int × Int) × Int)) (a : Nat), n ≤ a → (∀ e ∈ l, 0 ≤ e.1.1 ∧ e.1.1 < e.1.2 ∧ e.1.2 < (n : Int)) → loadOf l (a : Int) = 0
  | [], _, _, _ => rfl
  | e :: r, a, ha, h => by
    have he := h e (by simp)
    simp only [loadOf]
    rw [load_out r a ha (fun x hx => h x (by simp [hx])), if_neg (by omega)]; rfl
theorem zip_ok {n : Nat} {ps : List (Int × Int)} (hps : ∀ p ∈ ps, 0 ≤ p.1 ∧ p.1 < p.2 ∧ p.2 < (n : Int)) (s : List Int) : ∀ e ∈ ps.zip s, 0 ≤ e.1.1 ∧ e.1.1 < e.1.2 ∧ e.1.2 < (n : Int) := fun e he => hps _ (List.of_mem_zip he).1
theorem over_iff {n : Nat} (l : List ((Int × Int) × Int)) : overFrom l n 0 = true ↔ ∃ a : Nat, a < n ∧ 2 < loadOf l (a : Int) := by
  unfold overFrom
  rw [List.any_eq_true]
  constructor
  · rintro ⟨a, h1, h2⟩
    rw [List.mem_range'_1] at h1
    exact ⟨a, by omega, of_decide_eq_true h2⟩
  · rintro ⟨a, h1, h2⟩
    exact ⟨a, by rw [List.mem_range'_1]; omega, decide_eq_true h2⟩
theorem over_eq {n : Nat} (hn : n ≤ 7) {ps : List (Int × Int)} (hps : ∀ p ∈ ps, 0 ≤ p.1 ∧ p.1 < p.2 ∧ p.2 < (n : Int)) (s : List Int) : overFrom (ps.zip s) n 0 = overB ps s := by
  rw [Bool.eq_iff_iff, over_iff]
  unfold overB
  rw [List.any_eq_true]
  have hl : (hasL ps s).length = 7 := by unfold hasL; rw [fold_len]; simp
  have hg : ∀ a : Nat, a < 7 → (hasL ps s).getD a 0 = loadOf (ps.zip s) (a : Int) := by
    intro a ha
    unfold hasL
    rw [fold_getD hn _ _ _ (by simp) (zip_ok hps s), List.getD_eq_getElem?_getD, List.getElem?_replicate]
    split <;> simp
  constructor
  · rintro ⟨a, h1, h2⟩
    have ha : a < 7 := by omega
    rw [← hg a ha, List.getD_eq_getElem?_getD, List.getElem?_eq_getElem (by omega)] at h2
    exact ⟨(hasL ps s)[a]'(by omega), List.getElem_mem _, decide_eq_true (by simpa using h2)⟩
  · rintro ⟨x, hx, h2⟩
    obtain ⟨a, ha, rfl⟩ := List.getElem_of_mem hx
    have h3 := hg a (by omega)
    rw [List.getD_eq_getElem?_getD, List.getElem?_eq_getElem ha] at h3
    have h4 : (hasL ps s)[a] = loadOf (ps.zip s) (a : Int) := by simpa using h3
    have h5 := of_decide_eq_true h2
    rw [h4] at h5
    rcases Nat.lt_or_ge a n with h6 | h6
    · exact ⟨a, h6, h5⟩
    · rw [load_out _ a h6 (zip_ok hps s)] at h5; omega

/-! ### all shares -/
theorem load_append : ∀ (l r : List ((Int × Int) × Int)) (a : Int), loadOf (l ++ r) a = loadOf l a + loadOf r a
  | [], r, a => by simp [loadOf]
  | e :: l, r, a => by simp only [List.cons_append, loadOf, load_append l r a]; omega
theorem load_zip_le {ps : List (Int × Int)} (b t : List Int) (ht : ∀ x ∈ t, 0 ≤ x) (a : Int) : loadOf (ps.zip b) a ≤ loadOf (ps.zip (b ++ t)) a := by
  have hn : ∀ l : List ((Int × Int) × Int), (∀ e ∈ l, 0 ≤ e.2) → 0 ≤ loadOf l a := by
    intro l
    induction l with
    | nil => intro _; simp [loadOf]
    | cons e r ih =>
      intro h
      have h1 := h e (by simp)
      have h2 := ih (fun x hx => h x (by simp [hx]))
      simp only [loadOf]; split <;> omega
  rcases Nat.lt_or_ge b.length ps.length with h | h
  · have e : ps.zip (b ++ t) = (ps.take b.length).zip b ++ (ps.drop b.length).zip t := by
      have := List.zip_append (l₁ := ps.take b.length) (r₁ := ps.drop b.length) (l₂ := b) (r₂ := t) (by simp; omega)
      rw [List.take_append_drop] at this
      exact this
    have e2 : ps.zip b = (ps.take b.length).zip b := by
      have := List.zip_append (l₁ := ps.take b.length) (r₁ := ps.drop b.length) (l₂ := b) (r₂ := []) (by simp; omega)
      rw [List.take_append_drop, List.append_nil, List.zip_nil_right, List.append_nil] at this
      exact this
    rw [e, e2, load_append]
    have := hn ((ps.drop b.length).zip t) (fun e he => ht _ (List.of_mem_zip he).2)
    omega
  · have e : ps.zip (b ++ t) = ps.zip b := by
      have : ∀ (ps : List (Int × Int)) (b : List Int), ps.length ≤ b.length → ps.zip (b ++ t) = ps.zip b := by
        intro ps
        induction ps with
        | nil => intro b _; simp
        | cons p r ih =>
          intro b h
          cases b with
          | nil => simp at h
          | cons y b => simp only [List.cons_append, List.zip_cons_cons]; rw [ih b (by simpa using h)]
      exact this ps b h
    rw [e]; exact Int.le_refl _
/-- What the shares that begin with some are. -/
theorem mem_shF {n : Nat} {ps : List (Int × Int)} : ∀ (k : Nat) (b l : List Int), b.length + k = ps.length → (l ∈ shF n ps k b ↔ ∃ t : List Int, l = b ++ t ∧ t.length = k ∧ (∀ x ∈ t, 0 ≤ x ∧ x ≤ 2) ∧ (k = 0 ∨ overFrom (ps.zip l) n 0 = false))
  | 0, b, l, _ => by
    simp only [shF, List.mem_singleton]
    constructor
    · rintro rfl; exact ⟨[], by simp, rfl, by simp, .inl trivial⟩
    · rintro ⟨t, rfl, ht, _⟩
      have : t = [] := List.eq_nil_of_length_eq_zero ht
      simp [this]
  | k + 1, b, l, hb => by
    simp only [shF, List.mem_flatMap, List.mem_range'_1]
    constructor
    · rintro ⟨x, hx, hl⟩
      split at hl
      · simp at hl
      · next ho =>
        obtain ⟨t, h1, h2, h3, h4⟩ := (mem_shF k (b ++ [(x : Int)]) l (by simp; omega)).1 hl
        refine ⟨(x : Int) :: t, by rw [h1]; simp, by simp [h2], ?_, ?_⟩
        · intro y hy
          rcases List.mem_cons.1 hy with rfl | hy
          · omega
          · exact h3 y hy
        · right
          rcases h4 with h4 | h4
          · have : t = [] := List.eq_nil_of_length_eq_zero (by omega)
            subst this
            rw [List.append_nil] at h1
            rw [h1]; simpa using ho
          · exact h4
    · rintro ⟨t, h1, h2, h3, h4⟩
      cases t with
      | nil => simp at h2
      | cons y t =>
        have hy := h3 y (by simp)
        obtain ⟨x, rfl⟩ := Int.eq_ofNat_of_zero_le hy.1
        have h4' : overFrom (ps.zip l) n 0 = false := by
          rcases h4 with h4 | h4
          · omega
          · exact h4
        have e : l = (b ++ [(x : Int)]) ++ t := by rw [h1]; simp
        refine ⟨x, by omega, ?_⟩
        have ho : ¬ overFrom (ps.zip (b ++ [(x : Int)])) n 0 = true := by
          intro ho
          obtain ⟨a, ha, h5⟩ := (over_iff _).1 ho
          have h6 := load_zip_le (ps := ps) (b ++ [(x : Int)]) t (fun z hz => (h3 z (by simp [hz])).1) (a : Int)
          rw [← e] at h6
          have : overFrom (ps.zip l) n 0 = true := (over_iff _).2 ⟨a, ha, by omega⟩
          rw [h4'] at this; simp at this
        rw [if_neg ho]
        exact (mem_shF k (b ++ [(x : Int)]) l (by simp; omega)).2 ⟨t, e, by simpa using h2, fun z hz => h3 z (by simp [hz]), .inr h4'⟩
theorem shF_prefix {n : Nat} {ps : List (Int × Int)} : ∀ (k : Nat) (b : List Int), ∀ l ∈ shF n ps k b, ∃ t, l = b ++ t
  | 0, b, l, hl => ⟨[], by simpa [shF] using hl⟩
  | k + 1, b, l, hl => by
    simp only [shF, List.mem_flatMap] at hl
    obtain ⟨x, _, hl⟩ := hl
    split at hl
    · simp at hl
    · obtain ⟨t, h⟩ := shF_prefix k _ l hl
      exact ⟨(x : Int) :: t, by rw [h]; simp⟩
theorem lex_pre : ∀ (b : List Int) {x y : Int} (s t : List Int), x < y → lexLt (b ++ [x] ++ s) (b ++ [y] ++ t) = true
  | [], x, y, s, t, h => by simp [lexLt, h]
  | a :: b, x, y, s, t, h => by
    have := lex_pre b s t h
    simp only [List.cons_append, lexLt, this]; simp
theorem shF_sorted {n : Nat} {ps : List (Int × Int)} : ∀ (k : Nat) (b : List Int), (shF n ps k b).Pairwise fun a c => lexLt a c = true
  | 0, b => by simp [shF]
  | k + 1, b => by
    simp only [shF]
    rw [List.pairwise_flatMap]
    refine ⟨?_, ?_⟩
    · intro x _
      split
      · simp
      · exact shF_sorted k _
    · have hv : (List.range' 0 3).Pairwise (· < ·) := by decide
      refine hv.imp ?_
      intro x y h a ha c hc
      split at ha
      · simp at ha
      · split at hc
        · simp at hc
        · obtain ⟨s, rfl⟩ := shF_prefix k _ a ha
          obtain ⟨t, rfl⟩ := shF_prefix k _ c hc
          exact lex_pre b s t (by omega)

/-- The reference's shares: the first of those that are worth most. -/
def pickS (best c : List Int) : List Int := if sumL best < sumL c then c else best
def sharesR (n : Nat) (ps : List (Int × Int)) : List Int := match shF n ps ps.length [] with | [] => [] | b :: r => r.foldl pickS b
theorem pickS_spec : ∀ (r : List (List Int)) (b : List Int), (b :: r).Pairwise (fun a c => lexLt a c = true) → r.foldl pickS b ∈ b :: r ∧ ∀ c ∈ b :: r, sumL c ≤ sumL (r.foldl pickS b) ∧ (sumL c = sumL (r.foldl pickS b) → lexLt c (r.foldl pickS b) = false)
  | [], b, _ => by simp [lex_irrefl]
  | a :: r, b, hp => by
    rw [List.pairwise_cons] at hp
    obtain ⟨hb, hp⟩ := hp
    rw [List.foldl_cons]
    by_cases h : sumL b < sumL a
    · have e : pickS b a = a := by unfold pickS; rw [if_pos h]
      rw [e]
      obtain ⟨h1, h2⟩ := pickS_spec r a hp
      refine ⟨List.mem_cons_of_mem _ h1, fun c hc => ?_⟩
      rcases List.mem_cons.1 hc with rfl | hc
      · have := (h2 a (by simp)).1
        exact ⟨by omega, fun h => by omega⟩
      · exact h2 c hc
    · have e : pickS b a = b := by unfold pickS; rw [if_neg h]
      rw [e]
      have hp2 : (b :: r).Pairwise fun a c => lexLt a c = true := List.pairwise_cons.2 ⟨fun c hc => hb c (by simp [hc]), (List.pairwise_cons.1 hp).2⟩
      obtain ⟨h1, h2⟩ := pickS_spec r b hp2
      refine ⟨?_, fun c hc => ?_⟩
      · rcases List.mem_cons.1 h1 with h1 | h1
        · rw [h1]; simp
        · simp [h1]
      · rcases List.mem_cons.1 hc with rfl | hc
        · exact h2 _ (by simp)
        · rcases List.mem_cons.1 hc with rfl | hc
          · have hbb := h2 b (by simp)
            refine ⟨by omega, fun h3 => ?_⟩
            have hle : lexLt b (r.foldl pickS b) = false := hbb.2 (by omega)
            have hlt := hb c (by simp)
            exact lex_le hle (lex_asymm hlt)
          · exact h2 c (by simp [hc])


theorem shF_ok {n : Nat} {ps : List (Int × Int)} {l : List Int} (h : l ∈ shF n ps ps.length []) : l.length = ps.length ∧ ∀ x ∈ l, 0 ≤ x ∧ x ≤ 2 := by
  obtain ⟨t, h1, h2, h3, _⟩ := (mem_shF ps.length [] l (by simp)).1 h
  rw [List.nil_append] at h1; subst h1
  exact ⟨h2, h3⟩
/-- No shares at all are shares. -/
theorem shF_zero {n : Nat} {ps : List (Int × Int)} : List.replicate ps.length (0 : Int) ∈ shF n ps ps.length [] := by
  refine (mem_shF ps.length [] _ (by simp)).2 ⟨_, rfl, by simp, ?_, ?_⟩
  · intro x hx; rw [List.mem_replicate] at hx; omega
  · right
    cases h : overFrom (ps.zip (List.replicate ps.length (0 : Int))) n 0
    · rfl
    · obtain ⟨a, _, h2⟩ := (over_iff _).1 h
      have : ∀ (l : List ((Int × Int) × Int)), (∀ e ∈ l, e.2 = 0) → loadOf l (a : Int) = 0 := by
        intro l
        induction l with
        | nil => intro _; rfl
        | cons e r ih =>
          intro h
          simp only [loadOf]
          rw [ih (fun x hx => h x (by simp [hx])), h e (by simp)]; simp
      rw [this _ (fun e he => (List.mem_replicate.1 (List.of_mem_zip he).2).2)] at h2
      omega

theorem sharesR_in {n : Nat} {ps : List (Int × Int)} : sharesR n ps ∈ shF n ps ps.length [] ∧ ∀ c ∈ shF n ps ps.length [], sumL c ≤ sumL (sharesR n ps) ∧ (sumL c = sumL (sharesR n ps) → lexLt c (sharesR n ps) = false) := by
  have hne := List.ne_nil_of_mem (shF_zero (n := n) (ps := ps))
  have hso := shF_sorted (n := n) (ps := ps) ps.length []
  unfold sharesR
  cases h : shF n ps ps.length [] with
  | nil => exact absurd h hne
  | cons b r =>
    rw [h] at hso
    exact pickS_spec r b hso
theorem sharesR_len (n : Nat) (ps : List (Int × Int)) : (sharesR n ps).length = ps.length ∧ ∀ x ∈ sharesR n ps, 0 ≤ x ∧ x ≤ 2 := shF_ok sharesR_in.1

/-- A list and an error. -/
def shv (n : Int) (ps : List (Int × Int)) : List Int × Int := if chk n ps = 0 then (sharesR n.toNat ps, 0) else ([], chk n ps)


/-! ### Hall's theorem -/
/-- What some have to do with, of the first m. -/
def nbrs (m : Nat) (r : Nat → Nat → Bool) (S : List Nat) : List Nat := (List.range m).filter fun y => S.any fun x => r x y
theorem mem_nbrs {m : Nat} {r : Nat → Nat → Bool} {S : List Nat} {y : Nat} : y ∈ nbrs m r S ↔ y < m ∧ ∃ x ∈ S, r x y = true := by simp [nbrs]
theorem filter_or_len {α : Type} (p q : α → Bool) : ∀ l : List α, (∀ x ∈ l, ¬(p x = true ∧ q x = true)) → (l.filter fun x => p x || q x).length = (l.filter p).length + (l.filter q).length
  | [], _ => rfl
  | a :: l, h => by
    have ih := filter_or_len p q l (fun x hx => h x (by simp [hx]))
    have ha := h a (by simp)
    cases h1 : p a <;> cases h2 : q a <;> simp_all <;> omega
theorem filter_le_len {α : Type} (p q : α → Bool) : ∀ l : List α, (∀ x ∈ l, p x = true → q x = true) → (l.filter p).length ≤ (l.filter q).length
  | [], _ => by simp
  | a :: l, h => by
    have ih := filter_le_len p q l (fun x hx => h x (by simp [hx]))
    have ha := h a (by simp)
    cases h1 : p a <;> cases h2 : q a <;> simp_all <;> omega
theorem filter_lt {α : Type} (p : α → Bool) : ∀ l : List α, (l.filter p).length + (l.filter fun x => !p x).length = l.length
  | [] => rfl
  | a :: l => by
    have ih := filter_lt p l
    cases h : p a <;> simp [h] <;> omega

theorem hall (m : Nat) : ∀ (k : Nat) (A : List Nat) (r : Nat → Nat → Bool), A.length = k → A.Nodup → (∀ p : Nat → Bool, (A.filter p).length ≤ (nbrs m r (A.filter p)).length) →
    ∃ f : Nat → Nat, (∀ a ∈ A, f a < m ∧ r a (f a) = true) ∧ ∀ a ∈ A, ∀ b ∈ A, f a = f b → a = b := by
  intro k
  induction k using Nat.strongRecOn with
  | ind k ih =>
    intro A r hk hnd hall
    by_cases hcase : ∃ p : Nat → Bool, 0 < (A.filter p).length ∧ (A.filter p).length < A.length ∧ (nbrs m r (A.filter p)).length = (A.filter p).length
    · -- a part that has just as many: it, and the rest without what it has to do with
      obtain ⟨p, h1, h2, h3⟩ := hcase
      have hsum := filter_lt p A
      have hp1 : ∀ q : Nat → Bool, ((A.filter p).filter q).length ≤ (nbrs m r ((A.filter p).filter q)).length := by
        intro q; rw [List.filter_filter]; exact hall _
      obtain ⟨f1, g1, g2⟩ := ih _ (by omega) (A.filter p) r rfl (hnd.filter _) hp1
      let r2 : Nat → Nat → Bool := fun x y => r x y && !(nbrs m r (A.filter p)).contains y
      have hp2 : ∀ q : Nat → Bool, ((A.filter fun x => !p x).filter q).length ≤ (nbrs m r2 ((A.filter fun x => !p x).filter q)).length := by
        intro q
        rw [List.filter_filter]
        have e1 := filter_or_len p (fun x => q x && !p x) A (by intro x _ ⟨h4, h5⟩; simp [h4] at h5)
        have e2 := hall fun x => p x || (q x && !p x)
        rw [e1] at e2
        have e3 : (nbrs m r (A.filter fun x => p x || (q x && !p x))).length ≤ (nbrs m r (A.filter p)).length + (nbrs m r2 (A.filter fun x => q x && !p x)).length := by
          have e4 : (nbrs m r (A.filter fun x => p x || (q x && !p x))).length ≤ ((List.range m).filter fun y => ((A.filter p).any fun x => r x y) || ((A.filter fun x => q x && !p x).any fun x => r2 x y)).length := by
            apply filter_le_len
            intro y hy h
            rw [List.any_eq_true] at h
            obtain ⟨x, hx, hr⟩ := h
            rw [List.mem_filter] at hx
            by_cases h6 : ((A.filter p).any fun x => r x y) = true
            · simp [h6]
            · have h7 : p x = false := by
                cases h8 : p x
                · rfl
                · exact absurd (List.any_eq_true.2 ⟨x, List.mem_filter.2 ⟨hx.1, h8⟩, hr⟩) h6
              have h9 : (q x && !p x) = true := by rw [h7] at hx; simp only [Bool.false_or] at hx; rw [h7]; exact hx.2
              have h10 : ((A.filter fun x => q x && !p x).any fun x => r2 x y) = true := by
                refine List.any_eq_true.2 ⟨x, List.mem_filter.2 ⟨hx.1, h9⟩, ?_⟩
                show (r x y && !(nbrs m r (A.filter p)).contains y) = true
                have h11 : y ∉ nbrs m r (A.filter p) := by
                  intro h12
                  obtain ⟨_, z, hz, hzr⟩ := mem_nbrs.1 h12
                  exact h6 (List.any_eq_true.2 ⟨z, hz, hzr⟩)
                rw [hr]; simp [h11]
              rw [h10, Bool.or_true]
          refine Nat.le_trans e4 ?_
          rw [filter_or_len]
          · exact Nat.le_refl _
          · intro y hy ⟨h4, h5⟩
            rw [List.any_eq_true] at h5
            obtain ⟨x, _, hx⟩ := h5
            have hx2 : (!(nbrs m r (A.filter p)).contains y) = true := by
              have : (r x y && !(nbrs m r (A.filter p)).contains y) = true := hx
              rw [Bool.and_eq_true] at this; exact this.2
            have hm : y ∈ nbrs m r (A.filter p) := by
              obtain ⟨z, hz, hzr⟩ := List.any_eq_true.1 h4
              exact mem_nbrs.2 ⟨List.mem_range.1 hy, z, hz, hzr⟩
            simp [hm] at hx2
        omega
      obtain ⟨f2, k1, k2⟩ := ih _ (by omega) (A.filter fun x => !p x) r2 rfl (hnd.filter _) hp2
      have k1' : ∀ a ∈ A, p a = false → f2 a < m ∧ r a (f2 a) = true ∧ f2 a ∉ nbrs m r (A.filter p) := by
        intro a ha hpa
        obtain ⟨h4, h5⟩ := k1 a (List.mem_filter.2 ⟨ha, by simp [hpa]⟩)
        have h6 : (r a (f2 a) && !(nbrs m r (A.filter p)).contains (f2 a)) = true := h5
        rw [Bool.and_eq_true] at h6
        refine ⟨h4, h6.1, fun h7 => ?_⟩
        have := h6.2; simp [h7] at this
      have g1' : ∀ a ∈ A, p a = true → f1 a < m ∧ r a (f1 a) = true ∧ f1 a ∈ nbrs m r (A.filter p) := by
        intro a ha hpa
        obtain ⟨h4, h5⟩ := g1 a (List.mem_filter.2 ⟨ha, hpa⟩)
        exact ⟨h4, h5, mem_nbrs.2 ⟨h4, a, List.mem_filter.2 ⟨ha, hpa⟩, h5⟩⟩
      refine ⟨fun a => if p a = true then f1 a else f2 a, ?_, ?_⟩
      · intro a ha
        dsimp only
        cases hpa : p a
        · have := k1' a ha hpa; simpa using ⟨this.1, this.2.1⟩
        · have := g1' a ha hpa; simpa using ⟨this.1, this.2.1⟩
      · intro a ha b hb
        dsimp only
        cases hpa : p a <;> cases hpb : p b
        · simp only [Bool.false_eq_true, if_false]
          exact k2 a (List.mem_filter.2 ⟨ha, by simp [hpa]⟩) b (List.mem_filter.2 ⟨hb, by simp [hpb]⟩)
        · simp only [Bool.false_eq_true, if_false, if_true]
          intro e
          have h4 := (k1' a ha hpa).2.2
          rw [e] at h4
          exact absurd (g1' b hb hpb).2.2 h4
        · simp only [Bool.false_eq_true, if_false, if_true]
          intro e
          have h4 := (k1' b hb hpb).2.2
          rw [← e] at h4
          exact absurd (g1' a ha hpa).2.2 h4
        · simp only [if_true]
          exact g2 a (List.mem_filter.2 ⟨ha, hpa⟩) b (List.mem_filter.2 ⟨hb, hpb⟩)
    · -- each proper part has one more: any choice for the first
      cases A with
      | nil => exact ⟨fun _ => 0, by simp, by simp⟩
      | cons a A =>
        rw [List.nodup_cons] at hnd
        obtain ⟨hna, hnd⟩ := hnd
        have h0 := hall fun x => x == a
        have hf : (a :: A).filter (fun x => x == a) = [a] := by
          rw [List.filter_cons, if_pos (by simp)]
          congr 1
          rw [List.filter_eq_nil_iff]; intro x hx h; simp at h; subst h; exact hna hx
        rw [hf] at h0
        obtain ⟨b, hb⟩ := List.exists_mem_of_ne_nil (nbrs m r [a]) (by intro h; rw [h] at h0; simp at h0)
        obtain ⟨hbm, x, hx, hrb⟩ := mem_nbrs.1 hb
        rw [List.mem_singleton] at hx; subst hx
        let r2 : Nat → Nat → Bool := fun z y => r z y && !(y == b)
        have hp2 : ∀ q : Nat → Bool, (A.filter q).length ≤ (nbrs m r2 (A.filter q)).length := by
          intro q
          by_cases hz : (A.filter q).length = 0
          · omega
          have e1 : (x :: A).filter (fun z => q z && !(z == x)) = A.filter q := by
            rw [List.filter_cons, if_neg (by simp)]
            apply List.filter_congr
            intro z hz
            have : z ≠ x := fun e => hna (e ▸ hz)
            simp [this]
          have e2 : (A.filter q).length < (nbrs m r (A.filter q)).length := by
            have e3 := hall fun z => q z && !(z == x)
            rw [e1] at e3
            rcases Nat.lt_or_ge (A.filter q).length (nbrs m r (A.filter q)).length with h4 | h4
            · exact h4
            · exact absurd ⟨fun z => q z && !(z == x), by rw [e1]; omega, by rw [e1]; have := List.length_filter_le q A; simp; omega, by rw [e1]; omega⟩ hcase
          have e4 : (nbrs m r (A.filter q)).length ≤ (nbrs m r2 (A.filter q)).length + 1 := by
            have e5 : (nbrs m r (A.filter q)).length ≤ ((List.range m).filter fun y => ((A.filter q).any fun z => r2 z y) || (y == b)).length := by
              apply filter_le_len
              intro y hy h
              by_cases h6 : y = b
              · simp [h6]
              · obtain ⟨z, hz, hzr⟩ := List.any_eq_true.1 h
                have h7 : ((A.filter q).any fun z => r2 z y) = true := List.any_eq_true.2 ⟨z, hz, by show (r z y && !(y == b)) = true; rw [hzr]; simp [h6]⟩
                rw [h7, Bool.true_or]
            rw [filter_or_len] at e5
            · have e6 : ((List.range m).filter fun y => y == b).length ≤ 1 := by
                have : ∀ l : List Nat, l.Nodup → (l.filter fun y => y == b).length ≤ 1 := by
                  intro l
                  induction l with
                  | nil => intro _; simp
                  | cons c l ih =>
                    intro hn
                    rw [List.nodup_cons] at hn
                    rw [List.filter_cons]
                    split
                    · next h =>
                      have hc : c = b := by simpa using h
                      have : l.filter (fun y => y == b) = [] := by
                        rw [List.filter_eq_nil_iff]; intro y hy h2; simp at h2; subst h2; subst hc; exact hn.1 hy
                      rw [this]; simp
                    · exact ih hn.2
                exact this _ List.nodup_range
              exact Nat.le_trans e5 (by unfold nbrs; omega)
            · intro y _ ⟨h4, h5⟩
              obtain ⟨z, _, hz⟩ := List.any_eq_true.1 h4
              have : (r z y && !(y == b)) = true := hz
              rw [h5] at this; simp at this
          omega
        obtain ⟨f, k1, k2⟩ := ih A.length (by simp at hk; omega) A r2 rfl hnd hp2
        have k1' : ∀ z ∈ A, f z < m ∧ r z (f z) = true ∧ f z ≠ b := by
          intro z hz
          obtain ⟨h4, h5⟩ := k1 z hz
          have h6 : (r z (f z) && !(f z == b)) = true := h5
          rw [Bool.and_eq_true] at h6
          exact ⟨h4, h6.1, by have := h6.2; simpa using this⟩
        refine ⟨fun z => if z = x then b else f z, ?_, ?_⟩
        · intro z hz
          by_cases e : z = x
          · subst e; simp [hbm, hrb]
          · have hz2 : z ∈ A := by simpa [e] using hz
            have := k1' z hz2
            simp only [if_neg e]; exact ⟨this.1, this.2.1⟩
        · intro z hz w hw
          by_cases e : z = x <;> by_cases e2 : w = x
          · intro _; rw [e, e2]
          · simp only [if_pos e, if_neg e2]
            intro h; exact absurd h.symm (k1' w (by simpa [e2] using hw)).2.2
          · simp only [if_neg e, if_pos e2]
            intro h; exact absurd h (k1' z (by simpa [e] using hz)).2.2
          · simp only [if_neg e, if_neg e2]
            exact k2 z (by simpa [e] using hz) w (by simpa [e2] using hw)


/-! ### counting -/
theorem nodup_len_le {α : Type} [DecidableEq α] : ∀ (l k : List α), l.Nodup → (∀ x ∈ l, x ∈ k) → l.length ≤ k.length
  | [], _, _, _ => by simp
  | a :: l, k, hn, h => by
    rw [List.nodup_cons] at hn
    have ha := h a (by simp)
    have h1 := nodup_len_le l (k.erase a) hn.2 (fun x hx => by
      have hne : x ≠ a := fun e => hn.1 (e ▸ hx)
      exact (List.mem_erase_of_ne hne).2 (h x (by simp [hx])))
    rw [List.length_erase_of_mem ha] at h1
    have := List.length_pos_of_mem ha
    simp only [List.length_cons]; omega
theorem ind_le_one {α : Type} (P : α → Prop) [DecidablePred P] : ∀ l : List α, l.Nodup → (∀ p ∈ l, ∀ q ∈ l, P p → P q → p = q) → sumL (l.map fun p => if P p then 1 else 0) ≤ 1
  | [], _, _ => by simp [sumL]
  | a :: l, hn, h => by
    rw [List.nodup_cons] at hn
    have ih := ind_le_one P l hn.2 (fun p hp q hq => h p (by simp [hp]) q (by simp [hq]))
    simp only [List.map_cons, sumL]
    by_cases ha : P a
    · have e : l.map (fun p => if P p then (1 : Int) else 0) = l.map fun _ => 0 := by
        apply List.map_congr_left
        intro p hp
        rw [if_neg]
        intro hpp
        have := h a (by simp) p (by simp [hp]) ha hpp
        subst this; exact hn.1 hp
      have z : ∀ l : List α, sumL (l.map fun _ => (0 : Int)) = 0 := by
        intro l; induction l with
        | nil => rfl
        | cons b l ih => simp only [List.map_cons, sumL, ih]; rfl
      rw [if_pos ha, e, z]; omega
    · rw [if_neg ha]; omega
theorem ind_nonneg {α : Type} (P : α → Prop) [DecidablePred P] : ∀ l : List α, 0 ≤ sumL (l.map fun p => if P p then (1 : Int) else 0)
  | [] => by simp [sumL]
  | a :: l => by
    have := ind_nonneg P l
    simp only [List.map_cons, sumL]; split <;> omega
theorem ind_mem {α : Type} (P : α → Prop) [DecidablePred P] : ∀ (l : List α) (a : α), a ∈ l → P a → 1 ≤ sumL (l.map fun p => if P p then (1 : Int) else 0)
  | [], a, h, _ => by simp at h
  | b :: l, a, h, hp => by
    simp only [List.map_cons, sumL]
    have hn := ind_nonneg P l
    rcases List.mem_cons.1 h with rfl | h
    · rw [if_pos hp]; omega
    · have := ind_mem P l a h hp
      split <;> omega
theorem sum_add {α : Type} (f g : α → Int) : ∀ l : List α, sumL (l.map fun a => f a + g a) = sumL (l.map f) + sumL (l.map g)
  | [] => by simp [sumL]
  | a :: l => by
    have := sum_add f g l
    simp only [List.map_cons, sumL, this]; omega
theorem sum_swap {α β : Type} (c : α → β → Int) (k : List β) : ∀ l : List α, sumL (l.map fun p => sumL (k.map fun a => c p a)) = sumL (k.map fun a => sumL (l.map fun p => c p a))
  | [] => by
    simp only [List.map_nil, sumL]
    induction k with
    | nil => rfl
    | cons a k ih => simp only [List.map_cons, sumL, ← ih]; rfl
  | p :: l => by
    simp only [List.map_cons, sumL]
    rw [sum_swap c k l, ← sum_add]
theorem sum_ones {α : Type} (f : α → Int) : ∀ l : List α, (∀ a ∈ l, 1 ≤ f a) → (l.length : Int) ≤ sumL (l.map f)
  | [], _ => by simp [sumL]
  | a :: l, h => by
    have h1 := h a (by simp)
    have h2 := sum_ones f l (fun x hx => h x (by simp [hx]))
    simp only [List.map_cons, sumL, List.length_cons]; omega
theorem load_map (g : Int × Int → Int) (a : Int) : ∀ ps : List (Int × Int), loadOf (ps.zip (ps.map g)) a = sumL (ps.map fun p => if p.1 = a ∨ p.2 = a then g p else 0)
  | [] => rfl
  | p :: ps => by simp only [List.map_cons, List.zip_cons_cons, loadOf, sumL, load_map g a ps]
theorem memb_len_range {n z : Nat} (hn : n ≤ 7) (hz : z < 2 ^ n) : (memb z).length = ((List.range n).filter z.testBit).length := by
  unfold memb
  rw [List.length_map]
  have e : List.range 7 = List.range n ++ (List.range (7 - n)).map (n + ·) := by
    rw [← List.range_add]; congr 1; omega
  rw [e, List.filter_append, List.length_append]
  have : ((List.range (7 - n)).map (n + ·)).filter z.testBit = [] := by
    rw [List.filter_eq_nil_iff]
    intro x hx h
    rw [List.mem_map] at hx
    obtain ⟨i, _, rfl⟩ := hx
    have := bit_lt hz h
    omega
  rw [this]; simp

section
variable {n : Nat} {ps : List (Int × Int)} (hn1 : 1 ≤ n) (hn : n ≤ 7) (hps : ∀ p ∈ ps, 0 ≤ p.1 ∧ p.1 < p.2 ∧ p.2 < (n : Int)) (h7 : ∀ p ∈ ps, okP p) (hnd : ps.Nodup)
def nbB (ps : List (Int × Int)) (u v : Nat) : Bool := decide (((u : Int), (v : Int)) ∈ ps) || decide (((v : Int), (u : Int)) ∈ ps)
theorem nbB_iff {ps : List (Int × Int)} {u v : Nat} : nbB ps u v = true ↔ nb ps u v := by unfold nbB nb; simp
include hn1 hn hps h7
/-- A set of articles has no more than the best one has that those which contradict it have not. -/
theorem deficit (p : Nat → Bool) : (((List.range n).filter p).length : Int) ≤ ((nbrs n (nbB ps) ((List.range n).filter p)).length : Int) + ((n : Int) - sumL (halvesV n ps)) := by
  let q : Nat → Bool := fun y => ((List.range n).filter p).any fun x => nbB ps x y
  have hN : nbrs n (nbB ps) ((List.range n).filter p) = (List.range n).filter q := rfl
  rw [hN]
  let z := setOf (((List.range n).filter fun a => p a && !q a).map fun (a : Nat) => (a : Int)) 0
  have hzb : ∀ u : Nat, z.testBit u = true ↔ u < n ∧ p u = true ∧ q u = false := by
    intro u
    rw [setOf_testBit _ _ _ (fun x hx => by rw [List.mem_map] at hx; obtain ⟨a, _, rfl⟩ := hx; omega), Nat.zero_testBit]
    simp only [Bool.false_eq_true, false_or, List.mem_map, List.mem_filter, List.mem_range, Bool.and_eq_true, Bool.not_eq_true']
    constructor
    · rintro ⟨a, ⟨h1, h2, h3⟩, h4⟩
      have : a = u := by omega
      subst this; exact ⟨h1, h2, h3⟩
    · rintro ⟨h1, h2, h3⟩; exact ⟨u, ⟨h1, h2, h3⟩, rfl⟩
  have hz : z < 2 ^ n := lt_two fun i hi => ((hzb i).1 hi).1
  have h128 : z < 128 := Nat.lt_of_lt_of_le hz (Nat.le_trans (Nat.pow_le_pow_right (by omega) hn) (by decide))
  have hqs : ∀ x y, x < n → p x = true → nb ps x y → q y = true := by
    intro x y hx hp hxy
    exact List.any_eq_true.2 ⟨x, List.mem_filter.2 ⟨List.mem_range.2 hx, hp⟩, nbB_iff.2 hxy⟩
  have hind : twoOf ps z &&& z = 0 := by
    rw [indep_iff hn hps h7 hz]
    rintro a b hab ⟨h1, h2⟩
    obtain ⟨a1, a2, _⟩ := (hzb a).1 h1
    have := hqs a b a1 a2 hab
    rw [((hzb b).1 h2).2.2] at this; simp at this
  have ht := two_lt hn hps h7 hz
  have hmin : sumL (halvesV n ps) ≤ costOf n (twoOf ps z) z := by
    obtain ⟨g1, g2⟩ := vals_ok hn hps h7 hz hind
    have := (cheap_mem.1 (halves_spec hn1 hn hps h7).1).2 _ g2 g1
    rwa [cost_sum hn ht hz] at this
  unfold costOf at hmin
  rw [memb_len_range hn hz, memb_len_range hn ht] at hmin
  have e1 : ((List.range n).filter z.testBit).length = ((List.range n).filter fun a => p a && !q a).length := by
    congr 1
    apply List.filter_congr
    intro u hu
    rw [Bool.eq_iff_iff, hzb]
    simp [List.mem_range.1 hu]
  have e2 : ((List.range n).filter (twoOf ps z).testBit).length ≤ ((List.range n).filter fun a => q a && !p a).length := by
    apply filter_le_len
    intro v hv h
    obtain ⟨u, h1, h2⟩ := (two_bit h7 z v h128).1 h
    obtain ⟨u1, u2, u3⟩ := (hzb u).1 h1
    have hq := hqs u v u1 u2 h2
    have hpv : p v = false := by
      cases hp : p v
      · rfl
      · have := hqs v u (List.mem_range.1 hv) hp (nb_symm h2)
        rw [u3] at this; simp at this
    simp [hq, hpv]
  have e3 := filter_or_len (fun a => p a && !q a) (fun a => p a && q a) (List.range n) (by intro x _ ⟨h1, h2⟩; cases hq : q x <;> simp [hq] at h1 h2)
  have e4 := filter_or_len (fun a => q a && !p a) (fun a => p a && q a) (List.range n) (by intro x _ ⟨h1, h2⟩; cases hq : p x <;> simp [hq] at h1 h2)
  have e5 : (List.range n).filter (fun x => (p x && !q x) || (p x && q x)) = (List.range n).filter p := by
    apply List.filter_congr; intro x _; cases p x <;> cases q x <;> rfl
  have e6 : (List.range n).filter (fun x => (q x && !p x) || (p x && q x)) = (List.range n).filter q := by
    apply List.filter_congr; intro x _; cases p x <;> cases q x <;> rfl
  rw [e5] at e3
  rw [e6] at e4
  omega
end
end Go.Proofs.YtpmbfgogpcjdlaaDoor.Vm
