/- What is proved: what each function of this program computes, as equations on the evaluator. No condition. -/
import Derived.Test.YtpmbfgogpcjdlaaDoorLib
import Derived.Test.YtpmbfgogpcjdlaaDoorSy
import Derived.KernelRfl
import Derived.Test.YtpmbfgogpcjdlaaDoorFkf
set_option linter.all false
namespace Go.Proofs.YtpmbfgogpcjdlaaDoor.Vm
open Go Go.Ev
set_option maxRecDepth 100000
attribute [local go_sem] cells_any storable_any ren1_any shaped_ptr cells_ptr storable_ptr ren1_ptr shaped_eptr cells_eptr storable_eptr ren1_eptr shaped_rsl cells_rsl storable_rsl ren1_rsl shaped_int cells_int storable_int ren1_int shaped_bool cells_bool storable_bool ren1_bool shaped_nils cells_nils storable_nils ren1_nils shaped_lst cells_lst storable_lst shaped_fn cells_fn storable_fn ren1_fn shaped_ifc cells_ifc storable_ifc ren1_ifc shaped_agg cells_agg storable_agg ren1_agg shaped_tup cells_tup storable_tup ren1_tup shaped_nif cells_nif storable_nif ren1_nif ren1_lany ren1_lfull ren1_lown len_lst len_rsl len_nil load_ptr load_eptr isRsl_lst isRsl_nil isRsl_rsl elems_nil elems_lst elems_sl isRsl_sl body_eq bodyK_normal bodyK_ret resK_some leaveK_some only_some code_skip code_exit code_ret code_ops code_seq code_cond code_block seqK_normal seqK_ret seqK_exit condK_true condK_false blockK_normal blockK_ret blockK_exit opsK_some ops_nil ops_cons wantK_true wantK_false stepK_some pubs pub pub_sl params okRef_loc storable_loc shaped_loc cells_loc isRsl_loc elems_loc len_loc untips untip untip_sl wantedAV setElems withO isAgg_v isAgg_agg isAgg_lst isAgg_ptr isAgg_fn isAgg_ifc isAgg_rsl isAgg_sl isAgg_loc List.replicate_succ List.replicate_zero opAV valAV aval avals ofVal Env.get setD canon gcAV renAll renEnv renStore renCells ren1_sl cutSt okEnv okStore okRefs okRef okRef_sl bin_int bin_bool bin_lst bin_rsl bin_nil bin_agg cellsEq cellEq isShift intOp boolOp min_int max_int beq_int bne resAV tupAV leave_eq fin_sl fin_loc fins fin_v fin_lst fin_agg fin_tup fin_fn storeAV readCells putCells cells_sl shaped_sl storable_sl fieldAddrAV len_sl goI List.getElem?_cons_zero List.getElem?_cons_succ List.getElem?_nil Option.bind_some Option.map_some List.length_cons List.length_nil List.all_cons List.all_nil Bool.and_true Bool.true_and Bool.and_false Bool.false_and and_true true_and and_false false_and Bool.false_eq_true List.set_cons_zero List.set_cons_succ List.append_nil List.nil_append List.cons_append List.take_zero List.take_succ_cons List.take_nil List.drop_zero List.drop_succ_cons List.map_cons List.map_nil decide_true decide_false beq_self_eq_true Bool.not_true Bool.not_false or_true true_or or_false false_or Nat.zero_add Nat.add_zero Nat.le_refl Nat.lt_irrefl decide_eq_true_eq eq_self_iff_true not_true_eq_false not_false_eq_true List.getD_cons_zero code_loop Nat.zero_le Nat.not_lt_zero Bool.true_beq Bool.false_beq beq_true beq_false ge_iff_le gt_iff_lt Lpure pus Option.map_none assert_ifc assert_nil idxA_ptr idxA_eptr idxV_agg Int.cast_ofNat_Int Nat.mul_one Nat.zero_mul Int.toNat_natCast Int.toNat_zero setParts withO2 hasKey eqnil_sl nenil_sl eqnil_loc nenil_loc map_nil_iff okRefs_ints renCells_ints

abbrev prAV (a : Int × Int) : AV := .agg [I a.1, I a.2]
abbrev bkAV (nl : Bool) (n : Int) (ps : List (Int × Int)) : AV := .agg [I n, sl 2 nl (ps.map prAV)]
abbrev bkCells (nl : Bool) (n : Int) (ps : List (Int × Int)) : List AV := [I n, sl 2 nl (ps.map prAV)]

theorem succ64 (i : Nat) (h : i < 1000000) : IntKind.i64.wrap ((i : Int) + 1) = ((i + 1 : Nat) : Int) := by
  rw [wrap64] <;> omega
theorem index_prs (nl : Bool) (ps : List (Int × Int)) (i : Nat) (h : i < ps.length) : indexSAV 2 (sl 2 nl (ps.map prAV)) (.v (.int .i64 i)) = some (.eptr (.agg [.v (.int .i64 ps[i].1), .v (.int .i64 ps[i].2)]) 0) := by
  rw [index_sl _ _ _ _ _ (by omega) (by simpa using h)]
  simp
theorem index_ints (nl : Bool) (l : List Int) (i : Nat) (h : i < l.length) : indexSAV 1 (sl 1 nl (l.map I)) (.v (.int .i64 i)) = some (.eptr (I l[i]) 0) := by
  rw [index_sl _ _ _ _ _ (by omega) (by simpa using h)]
  simp
theorem slice_prs (nl : Bool) (ps : List (Int × Int)) (i : Nat) (h : i < ps.length) : sliceAV 2 (sl 2 nl (ps.map prAV)) none (some (.v (.int .i64 i))) none = some (sl 2 false ((ps.take i).map prAV)) := by
  have e : sl 2 nl (ps.map prAV) = .lst .any 2 (ps.map prAV) := by
    unfold sl; rw [if_neg]; rintro ⟨_, h2⟩
    simp at h2; subst h2; simp at h
  rw [e]
  simp [sliceAV, natOr, natOf, tagSlice, sl, List.map_take]
  omega

theorem loop106 (nl : Bool) (ps : List (Int × Int)) (hlen : ps.length < 1000000) (p q : Int) (i : Nat) (hok : i ≤ ps.length) (env : Env) (st : St)
    (hg : gcAV true 1 0 (canon env [0, 3, 7, 8]) st = ([(0, sl 2 nl (ps.map prAV)), (3, .ptr 0 0), (7, I ps.length), (8, I i)], ⟨[[I p, I q]], []⟩)) :
    ∃ x_1 en s, lim (headed pure (run L) true [0, 3, 7, 8] lp106_0 1 0) env st = some (x_1, en, s) ∧ (if (p, q) ∈ ps.drop i then x_1 = .ret ∧ ∃ k : Int, 0 ≤ k ∧ en.get 4 = I k else x_1 = .exit 0) := by
  refine loop_wp (α := Nat) (fun i => ps.length - i) (fun i => i ≤ ps.length) (fun i => ([(0, sl 2 nl (ps.map prAV)), (3, .ptr 0 0), (7, I ps.length), (8, I i)], ⟨[[I p, I q]], []⟩)) (fun i x_1 en s => if (p, q) ∈ ps.drop i then x_1 = .ret ∧ ∃ k : Int, 0 ≤ k ∧ en.get 4 = I k else x_1 = .exit 0) (fun i hok => ?_) i hok env st hg
  by_cases h : i < ps.length
  · have hx := index_prs nl ps i h
    have hs := succ64 i (by omega)
    have hd : ps.drop i = ps[i] :: ps.drop (i + 1) := List.drop_eq_getElem_cons h
    rw [hd]
    generalize ps[i] = a at *
    obtain ⟨u, v⟩ := a
    have hlt : ((i : Int) < (ps.length : Int)) = True := eq_true (by omega)
    simp only at hx
    by_cases e1 : p = u
    · by_cases e2 : q = v
      · subst e1; subst e2
        simp only [go_sem, reduceIte, Nat.reduceEqDiff, Nat.reduceAdd, Nat.reduceSub, Nat.reduceLeDiff, Nat.reduceLT, reduceCtorEq, Int.reduceLT, Int.reduceLE, Int.reduceEq, Int.reduceBEq, Int.reduceSub, Int.reduceAdd, Int.reduceMul, Int.reduceNeg, Int.reduceToNat, Nat.reduceMul, Nat.reduceBEq, index_rsl_if, setm, make_ints, condK_dec, wantK_dec, not_dec, and_dec, or_dec, seqK_ite, seqK_none, blockK_ite, blockK_none, opsK_ite, opsK_none, stepK_ite, stepK_none, bodyK_ite, bodyK_none, resK_ite, resK_none, leaveK_ite, leaveK_none, only_ite, only_none, bind_ite, gives_some, gives_none, gives_ite, then_normal, then_ret, then_exit, then_none, then_ite, Option.bind_none, Bool.not_eq_true', decide_eq_false_iff_not, Bool.and_eq_true, Bool.or_eq_true, Option.some.injEq, Int.not_lt, Int.not_le, lp106_0, hx, hlt]
        rw [if_pos (by simp)]
        exact ⟨(i : Int), by omega, rfl⟩
      · simp only [go_sem, reduceIte, Nat.reduceEqDiff, Nat.reduceAdd, Nat.reduceSub, Nat.reduceLeDiff, Nat.reduceLT, reduceCtorEq, Int.reduceLT, Int.reduceLE, Int.reduceEq, Int.reduceBEq, Int.reduceSub, Int.reduceAdd, Int.reduceMul, Int.reduceNeg, Int.reduceToNat, Nat.reduceMul, Nat.reduceBEq, index_rsl_if, setm, make_ints, condK_dec, wantK_dec, not_dec, and_dec, or_dec, seqK_ite, seqK_none, blockK_ite, blockK_none, opsK_ite, opsK_none, stepK_ite, stepK_none, bodyK_ite, bodyK_none, resK_ite, resK_none, leaveK_ite, leaveK_none, only_ite, only_none, bind_ite, gives_some, gives_none, gives_ite, then_normal, then_ret, then_exit, then_none, then_ite, Option.bind_none, Bool.not_eq_true', decide_eq_false_iff_not, Bool.and_eq_true, Bool.or_eq_true, Option.some.injEq, Int.not_lt, Int.not_le, lp106_0, hx, hlt, e1, e2, hs]
        refine ⟨i + 1, by simp only [go_sem, reduceIte, Nat.reduceEqDiff, Nat.reduceAdd, Nat.reduceSub, Nat.reduceLeDiff, Nat.reduceLT, reduceCtorEq, Int.reduceLT, Int.reduceLE, Int.reduceEq, Int.reduceBEq, Int.reduceSub, Int.reduceAdd, Int.reduceMul, Int.reduceNeg, Int.reduceToNat, Nat.reduceMul, Nat.reduceBEq, ren1_locm, loc_tips, locT_eq] <;> rfl, ?_, ?_, fun x en s hq => ?_⟩
        · omega
        · omega
        · simp only [List.mem_cons, Prod.mk.injEq, e2, and_false, false_or]; exact hq
    · simp only [go_sem, reduceIte, Nat.reduceEqDiff, Nat.reduceAdd, Nat.reduceSub, Nat.reduceLeDiff, Nat.reduceLT, reduceCtorEq, Int.reduceLT, Int.reduceLE, Int.reduceEq, Int.reduceBEq, Int.reduceSub, Int.reduceAdd, Int.reduceMul, Int.reduceNeg, Int.reduceToNat, Nat.reduceMul, Nat.reduceBEq, index_rsl_if, setm, make_ints, condK_dec, wantK_dec, not_dec, and_dec, or_dec, seqK_ite, seqK_none, blockK_ite, blockK_none, opsK_ite, opsK_none, stepK_ite, stepK_none, bodyK_ite, bodyK_none, resK_ite, resK_none, leaveK_ite, leaveK_none, only_ite, only_none, bind_ite, gives_some, gives_none, gives_ite, then_normal, then_ret, then_exit, then_none, then_ite, Option.bind_none, Bool.not_eq_true', decide_eq_false_iff_not, Bool.and_eq_true, Bool.or_eq_true, Option.some.injEq, Int.not_lt, Int.not_le, lp106_0, hx, hlt, e1, hs]
      refine ⟨i + 1, by simp only [go_sem, reduceIte, Nat.reduceEqDiff, Nat.reduceAdd, Nat.reduceSub, Nat.reduceLeDiff, Nat.reduceLT, reduceCtorEq, Int.reduceLT, Int.reduceLE, Int.reduceEq, Int.reduceBEq, Int.reduceSub, Int.reduceAdd, Int.reduceMul, Int.reduceNeg, Int.reduceToNat, Nat.reduceMul, Nat.reduceBEq, ren1_locm, loc_tips, locT_eq] <;> rfl, ?_, ?_, fun x en s hq => ?_⟩
      · omega
      · omega
      · simp only [List.mem_cons, Prod.mk.injEq, e1, false_and, false_or]; exact hq
  · have hd : ps.drop i = [] := List.drop_eq_nil_of_le (by omega)
    have hlt : ((i : Int) < (ps.length : Int)) = False := eq_false (by omega)
    simp only [go_sem, reduceIte, Nat.reduceEqDiff, Nat.reduceAdd, Nat.reduceSub, Nat.reduceLeDiff, Nat.reduceLT, reduceCtorEq, Int.reduceLT, Int.reduceLE, Int.reduceEq, Int.reduceBEq, Int.reduceSub, Int.reduceAdd, Int.reduceMul, Int.reduceNeg, Int.reduceToNat, Nat.reduceMul, Nat.reduceBEq, index_rsl_if, setm, make_ints, condK_dec, wantK_dec, not_dec, and_dec, or_dec, seqK_ite, seqK_none, blockK_ite, blockK_none, opsK_ite, opsK_none, stepK_ite, stepK_none, bodyK_ite, bodyK_none, resK_ite, resK_none, leaveK_ite, leaveK_none, only_ite, only_none, bind_ite, gives_some, gives_none, gives_ite, then_normal, then_ret, then_exit, then_none, then_ite, Option.bind_none, Bool.not_eq_true', decide_eq_false_iff_not, Bool.and_eq_true, Bool.or_eq_true, Option.some.injEq, Int.not_lt, Int.not_le, lp106_0, hlt]
    rw [hd]; simp

theorem c76 (nl : Bool) (ps : List (Int × Int)) (hlen : ps.length < 1000000) (p q : Int) (st : St) :
    run L 76 [sl 2 nl (ps.map prAV), .agg [I p, I q]] st = some (B (decide ((p, q) ∈ ps)), st) := by
  have h106 : ∀ st, ∃ k : Int, run L 106 [sl 2 nl (ps.map prAV), .agg [I p, I q]] st = some (I k, st) ∧ (0 ≤ k ↔ (p, q) ∈ ps) := by
    intro st
    rw [run_pure (fn := ir106) rfl rfl]
    simp only [ir106, go_sem, reduceIte, Nat.reduceEqDiff, Nat.reduceAdd, Nat.reduceSub, Nat.reduceLeDiff, Nat.reduceLT, reduceCtorEq, Int.reduceLT, Int.reduceLE, Int.reduceEq, Int.reduceBEq, Int.reduceSub, Int.reduceAdd, Int.reduceMul, Int.reduceNeg, Int.reduceToNat, Nat.reduceMul, Nat.reduceBEq, List.length_map]
    generalize hg : lim (headed pure (run L) true _ lp106_0 _ _) _ _ = o
    obtain ⟨x, en, s, rfl, h2⟩ : ∃ x en s, o = some (x, en, s) ∧ _ := by rw [← hg]; exact loop106 nl ps hlen p q 0 (by omega) _ _ (by simp only [go_sem, reduceIte, Nat.reduceEqDiff, Nat.reduceAdd, Nat.reduceSub, Nat.reduceLeDiff, Nat.reduceLT, reduceCtorEq, Int.reduceLT, Int.reduceLE, Int.reduceEq, Int.reduceBEq, Int.reduceSub, Int.reduceAdd, Int.reduceMul, Int.reduceNeg, Int.reduceToNat, Nat.reduceMul, Nat.reduceBEq] <;> rfl)
    clear hg
    rw [List.drop_zero] at h2
    by_cases h : (p, q) ∈ ps
    · rw [if_pos h] at h2
      obtain ⟨rfl, k, hk, h3⟩ := h2
      exact ⟨k, by simp only [go_sem, reduceIte, Nat.reduceEqDiff, Nat.reduceAdd, Nat.reduceSub, Nat.reduceLeDiff, Nat.reduceLT, reduceCtorEq, Int.reduceLT, Int.reduceLE, Int.reduceEq, Int.reduceBEq, Int.reduceSub, Int.reduceAdd, Int.reduceMul, Int.reduceNeg, Int.reduceToNat, Nat.reduceMul, Nat.reduceBEq, h3], by simp [h, hk]⟩
    · rw [if_neg h] at h2
      subst h2
      exact ⟨-1, by simp only [go_sem, reduceIte, Nat.reduceEqDiff, Nat.reduceAdd, Nat.reduceSub, Nat.reduceLeDiff, Nat.reduceLT, reduceCtorEq, Int.reduceLT, Int.reduceLE, Int.reduceEq, Int.reduceBEq, Int.reduceSub, Int.reduceAdd, Int.reduceMul, Int.reduceNeg, Int.reduceToNat, Nat.reduceMul, Nat.reduceBEq], by simp [h]⟩
  rw [run_pure (fn := ir76) rfl rfl]
  obtain ⟨k, h1, h2⟩ := h106 ⟨[[I p, I q]], []⟩
  simp only [ir76, go_sem, reduceIte, Nat.reduceEqDiff, Nat.reduceAdd, Nat.reduceSub, Nat.reduceLeDiff, Nat.reduceLT, reduceCtorEq, Int.reduceLT, Int.reduceLE, Int.reduceEq, Int.reduceBEq, Int.reduceSub, Int.reduceAdd, Int.reduceMul, Int.reduceNeg, Int.reduceToNat, Nat.reduceMul, Nat.reduceBEq, h1, h2]


/-- What is wrong with a pair behind others; with pairs; with a book. -/
def prErr (n : Int) (seen : List (Int × Int)) (p : Int × Int) : Int := if p.1 < 0 ∨ p.2 < 0 ∨ n ≤ p.1 ∨ n ≤ p.2 then 2 else if p.2 ≤ p.1 then 7 else if p ∈ seen then 6 else 0
def prsErr (n : Int) : List (Int × Int) → List (Int × Int) → Int
  | _, [] => 0
  | seen, p :: r => if prErr n seen p = 0 then prsErr n (seen ++ [p]) r else prErr n seen p
def chk (n : Int) (ps : List (Int × Int)) : Int := if n < 1 ∨ 7 < n then 1 else if 10 < ps.length then 3 else prsErr n [] ps

theorem loop22 (nl : Bool) (n : Int) (hn : 1 ≤ n ∧ n ≤ 7) (ps : List (Int × Int)) (hlen : ps.length ≤ 10) (i : Nat) (hok : i ≤ ps.length) (env : Env) (st : St)
    (hg : gcAV true 1 0 (canon env [1, 20, 21, 22]) st = ([(1, .ptr 0 0), (20, sl 2 nl (ps.map prAV)), (21, I ps.length), (22, I i)], ⟨[bkCells nl n ps], []⟩)) :
    ∃ x_1 en s, lim (headed pure (run L) true [1, 20, 21, 22] lp22_0 1 0) env st = some (x_1, en, s) ∧ (if prsErr n (ps.take i) (ps.drop i) = 0 then x_1 = .exit 1 else x_1 = .ret ∧ en.get 2 = I (prsErr n (ps.take i) (ps.drop i))) := by
  refine loop_wp (α := Nat) (fun i => ps.length - i) (fun i => i ≤ ps.length) (fun i => ([(1, .ptr 0 0), (20, sl 2 nl (ps.map prAV)), (21, I ps.length), (22, I i)], ⟨[bkCells nl n ps], []⟩)) (fun i x_1 en s => if prsErr n (ps.take i) (ps.drop i) = 0 then x_1 = .exit 1 else x_1 = .ret ∧ en.get 2 = I (prsErr n (ps.take i) (ps.drop i))) (fun i hok => ?_) i hok env st hg
  by_cases h : i < ps.length
  · have hx := index_prs nl ps i h
    have hs := succ64 i (by omega)
    have hd : ps.drop i = ps[i] :: ps.drop (i + 1) := List.drop_eq_getElem_cons h
    have ht : ps.take (i + 1) = ps.take i ++ [ps[i]] := by rw [List.take_succ_eq_append_getElem h]
    have hsl := slice_prs nl ps i h
    have h76 := fun p q st => c76 false (ps.take i) (by rw [List.length_take]; omega) p q st
    rw [hd]
    generalize ps[i] = c at *
    obtain ⟨u, v⟩ := c
    have hlt : ((i : Int) < (ps.length : Int)) = True := eq_true (by omega)
    simp only at hx
    have hmn : (if v < u then v else u) = min u v := by rw [Int.min_def]; split <;> split <;> omega
    have hmx : (if u < v then v else u) = max u v := by rw [Int.max_def]; split <;> split <;> omega
    by_cases p1 : min u v < 0
    · have he : prErr n (ps.take i) (u, v) = 2 := by unfold prErr; simp only; rw [if_pos (by omega)]
      simp only [go_sem, reduceIte, Nat.reduceEqDiff, Nat.reduceAdd, Nat.reduceSub, Nat.reduceLeDiff, Nat.reduceLT, reduceCtorEq, Int.reduceLT, Int.reduceLE, Int.reduceEq, Int.reduceBEq, Int.reduceSub, Int.reduceAdd, Int.reduceMul, Int.reduceNeg, Int.reduceToNat, Nat.reduceMul, Nat.reduceBEq, index_rsl_if, setm, make_ints, condK_dec, wantK_dec, not_dec, and_dec, or_dec, seqK_ite, seqK_none, blockK_ite, blockK_none, opsK_ite, opsK_none, stepK_ite, stepK_none, bodyK_ite, bodyK_none, resK_ite, resK_none, leaveK_ite, leaveK_none, only_ite, only_none, bind_ite, gives_some, gives_none, gives_ite, then_normal, then_ret, then_exit, then_none, then_ite, Option.bind_none, Bool.not_eq_true', decide_eq_false_iff_not, Bool.and_eq_true, Bool.or_eq_true, Option.some.injEq, Int.not_lt, Int.not_le, lp22_0, hx, hlt, p1, hmn, hmx, List.length_map]
      simp [prsErr, he]
    by_cases p1b : n ≤ max u v
    · have he : prErr n (ps.take i) (u, v) = 2 := by unfold prErr; simp only; rw [if_pos (by omega)]
      simp only [go_sem, reduceIte, Nat.reduceEqDiff, Nat.reduceAdd, Nat.reduceSub, Nat.reduceLeDiff, Nat.reduceLT, reduceCtorEq, Int.reduceLT, Int.reduceLE, Int.reduceEq, Int.reduceBEq, Int.reduceSub, Int.reduceAdd, Int.reduceMul, Int.reduceNeg, Int.reduceToNat, Nat.reduceMul, Nat.reduceBEq, index_rsl_if, setm, make_ints, condK_dec, wantK_dec, not_dec, and_dec, or_dec, seqK_ite, seqK_none, blockK_ite, blockK_none, opsK_ite, opsK_none, stepK_ite, stepK_none, bodyK_ite, bodyK_none, resK_ite, resK_none, leaveK_ite, leaveK_none, only_ite, only_none, bind_ite, gives_some, gives_none, gives_ite, then_normal, then_ret, then_exit, then_none, then_ite, Option.bind_none, Bool.not_eq_true', decide_eq_false_iff_not, Bool.and_eq_true, Bool.or_eq_true, Option.some.injEq, Int.not_lt, Int.not_le, lp22_0, hx, hlt, p1, p1b, hmn, hmx, List.length_map]
      simp [prsErr, he]
    by_cases p2 : v ≤ u
    · have he : prErr n (ps.take i) (u, v) = 7 := by unfold prErr; simp only; rw [if_neg (by omega), if_pos p2]
      simp only [go_sem, reduceIte, Nat.reduceEqDiff, Nat.reduceAdd, Nat.reduceSub, Nat.reduceLeDiff, Nat.reduceLT, reduceCtorEq, Int.reduceLT, Int.reduceLE, Int.reduceEq, Int.reduceBEq, Int.reduceSub, Int.reduceAdd, Int.reduceMul, Int.reduceNeg, Int.reduceToNat, Nat.reduceMul, Nat.reduceBEq, index_rsl_if, setm, make_ints, condK_dec, wantK_dec, not_dec, and_dec, or_dec, seqK_ite, seqK_none, blockK_ite, blockK_none, opsK_ite, opsK_none, stepK_ite, stepK_none, bodyK_ite, bodyK_none, resK_ite, resK_none, leaveK_ite, leaveK_none, only_ite, only_none, bind_ite, gives_some, gives_none, gives_ite, then_normal, then_ret, then_exit, then_none, then_ite, Option.bind_none, Bool.not_eq_true', decide_eq_false_iff_not, Bool.and_eq_true, Bool.or_eq_true, Option.some.injEq, Int.not_lt, Int.not_le, lp22_0, hx, hlt, p1, p1b, hmn, hmx, p2, List.length_map]
      simp [prsErr, he]
    · by_cases p3 : (u, v) ∈ ps.take i
      · have he : prErr n (ps.take i) (u, v) = 6 := by unfold prErr; simp only; rw [if_neg (by omega), if_neg p2, if_pos p3]
        simp only [go_sem, reduceIte, Nat.reduceEqDiff, Nat.reduceAdd, Nat.reduceSub, Nat.reduceLeDiff, Nat.reduceLT, reduceCtorEq, Int.reduceLT, Int.reduceLE, Int.reduceEq, Int.reduceBEq, Int.reduceSub, Int.reduceAdd, Int.reduceMul, Int.reduceNeg, Int.reduceToNat, Nat.reduceMul, Nat.reduceBEq, index_rsl_if, setm, make_ints, condK_dec, wantK_dec, not_dec, and_dec, or_dec, seqK_ite, seqK_none, blockK_ite, blockK_none, opsK_ite, opsK_none, stepK_ite, stepK_none, bodyK_ite, bodyK_none, resK_ite, resK_none, leaveK_ite, leaveK_none, only_ite, only_none, bind_ite, gives_some, gives_none, gives_ite, then_normal, then_ret, then_exit, then_none, then_ite, Option.bind_none, Bool.not_eq_true', decide_eq_false_iff_not, Bool.and_eq_true, Bool.or_eq_true, Option.some.injEq, Int.not_lt, Int.not_le, lp22_0, hx, hlt, p1, p1b, hmn, hmx, p2, hsl, h76, p3, List.length_map]
        simp [prsErr, he]
      · have he : prErr n (ps.take i) (u, v) = 0 := by unfold prErr; simp only; rw [if_neg (by omega), if_neg p2, if_neg p3]
        simp only [go_sem, reduceIte, Nat.reduceEqDiff, Nat.reduceAdd, Nat.reduceSub, Nat.reduceLeDiff, Nat.reduceLT, reduceCtorEq, Int.reduceLT, Int.reduceLE, Int.reduceEq, Int.reduceBEq, Int.reduceSub, Int.reduceAdd, Int.reduceMul, Int.reduceNeg, Int.reduceToNat, Nat.reduceMul, Nat.reduceBEq, index_rsl_if, setm, make_ints, condK_dec, wantK_dec, not_dec, and_dec, or_dec, seqK_ite, seqK_none, blockK_ite, blockK_none, opsK_ite, opsK_none, stepK_ite, stepK_none, bodyK_ite, bodyK_none, resK_ite, resK_none, leaveK_ite, leaveK_none, only_ite, only_none, bind_ite, gives_some, gives_none, gives_ite, then_normal, then_ret, then_exit, then_none, then_ite, Option.bind_none, Bool.not_eq_true', decide_eq_false_iff_not, Bool.and_eq_true, Bool.or_eq_true, Option.some.injEq, Int.not_lt, Int.not_le, lp22_0, hx, hlt, p1, p1b, hmn, hmx, p2, hsl, h76, p3, hs, List.length_map]
        refine ⟨i + 1, by simp only [go_sem, reduceIte, Nat.reduceEqDiff, Nat.reduceAdd, Nat.reduceSub, Nat.reduceLeDiff, Nat.reduceLT, reduceCtorEq, Int.reduceLT, Int.reduceLE, Int.reduceEq, Int.reduceBEq, Int.reduceSub, Int.reduceAdd, Int.reduceMul, Int.reduceNeg, Int.reduceToNat, Nat.reduceMul, Nat.reduceBEq, ren1_locm, loc_tips, locT_eq] <;> rfl, ?_, ?_, fun x en s hq => ?_⟩
        · omega
        · omega
        · have e2 : prsErr n (ps.take i) ((u, v) :: ps.drop (i + 1)) = prsErr n (ps.take (i + 1)) (ps.drop (i + 1)) := by simp only [prsErr, he, if_true, ht]
          rw [e2]; exact hq
  · have hd : ps.drop i = [] := List.drop_eq_nil_of_le (by omega)
    have hlt : ((i : Int) < (ps.length : Int)) = False := eq_false (by omega)
    simp only [go_sem, reduceIte, Nat.reduceEqDiff, Nat.reduceAdd, Nat.reduceSub, Nat.reduceLeDiff, Nat.reduceLT, reduceCtorEq, Int.reduceLT, Int.reduceLE, Int.reduceEq, Int.reduceBEq, Int.reduceSub, Int.reduceAdd, Int.reduceMul, Int.reduceNeg, Int.reduceToNat, Nat.reduceMul, Nat.reduceBEq, index_rsl_if, setm, make_ints, condK_dec, wantK_dec, not_dec, and_dec, or_dec, seqK_ite, seqK_none, blockK_ite, blockK_none, opsK_ite, opsK_none, stepK_ite, stepK_none, bodyK_ite, bodyK_none, resK_ite, resK_none, leaveK_ite, leaveK_none, only_ite, only_none, bind_ite, gives_some, gives_none, gives_ite, then_normal, then_ret, then_exit, then_none, then_ite, Option.bind_none, Bool.not_eq_true', decide_eq_false_iff_not, Bool.and_eq_true, Bool.or_eq_true, Option.some.injEq, Int.not_lt, Int.not_le, lp22_0, hlt, List.length_map]
    rw [hd]; simp [prsErr]

theorem c22 (nl : Bool) (n : Int) (ps : List (Int × Int)) (st : St) :
    run L 22 [bkAV nl n ps] st = some (I (chk n ps), st) := by
  rw [run_pure (fn := ir22) rfl rfl]
  unfold chk
  by_cases p0 : n < 1 ∨ 7 < n
  · rw [if_pos p0]
    by_cases a : n < 1
    · simp only [ir22, go_sem, reduceIte, Nat.reduceEqDiff, Nat.reduceAdd, Nat.reduceSub, Nat.reduceLeDiff, Nat.reduceLT, reduceCtorEq, Int.reduceLT, Int.reduceLE, Int.reduceEq, Int.reduceBEq, Int.reduceSub, Int.reduceAdd, Int.reduceMul, Int.reduceNeg, Int.reduceToNat, Nat.reduceMul, Nat.reduceBEq, a]
    · simp only [ir22, go_sem, reduceIte, Nat.reduceEqDiff, Nat.reduceAdd, Nat.reduceSub, Nat.reduceLeDiff, Nat.reduceLT, reduceCtorEq, Int.reduceLT, Int.reduceLE, Int.reduceEq, Int.reduceBEq, Int.reduceSub, Int.reduceAdd, Int.reduceMul, Int.reduceNeg, Int.reduceToNat, Nat.reduceMul, Nat.reduceBEq, a, show (7 < n) = True from eq_true (by omega)]
  · rw [if_neg p0]
    by_cases p1 : 10 < ps.length
    · have q1 : ((10 : Int) < (ps.length : Int)) = True := eq_true (by omega)
      rw [if_pos p1]
      simp only [ir22, go_sem, reduceIte, Nat.reduceEqDiff, Nat.reduceAdd, Nat.reduceSub, Nat.reduceLeDiff, Nat.reduceLT, reduceCtorEq, Int.reduceLT, Int.reduceLE, Int.reduceEq, Int.reduceBEq, Int.reduceSub, Int.reduceAdd, Int.reduceMul, Int.reduceNeg, Int.reduceToNat, Nat.reduceMul, Nat.reduceBEq, show (n < 1) = False from eq_false (by omega), show (7 < n) = False from eq_false (by omega), q1, List.length_map]
    · have q1 : ((10 : Int) < (ps.length : Int)) = False := eq_false (by omega)
      rw [if_neg p1]
      simp only [ir22, go_sem, reduceIte, Nat.reduceEqDiff, Nat.reduceAdd, Nat.reduceSub, Nat.reduceLeDiff, Nat.reduceLT, reduceCtorEq, Int.reduceLT, Int.reduceLE, Int.reduceEq, Int.reduceBEq, Int.reduceSub, Int.reduceAdd, Int.reduceMul, Int.reduceNeg, Int.reduceToNat, Nat.reduceMul, Nat.reduceBEq, show (n < 1) = False from eq_false (by omega), show (7 < n) = False from eq_false (by omega), q1, List.length_map]
      generalize hg : lim (headed pure (run L) true _ lp22_0 _ _) _ _ = o
      obtain ⟨x, en, s, rfl, h2⟩ : ∃ x en s, o = some (x, en, s) ∧ _ := by rw [← hg]; exact loop22 nl n (by omega) ps (by omega) 0 (by omega) _ _ (by simp only [go_sem, reduceIte, Nat.reduceEqDiff, Nat.reduceAdd, Nat.reduceSub, Nat.reduceLeDiff, Nat.reduceLT, reduceCtorEq, Int.reduceLT, Int.reduceLE, Int.reduceEq, Int.reduceBEq, Int.reduceSub, Int.reduceAdd, Int.reduceMul, Int.reduceNeg, Int.reduceToNat, Nat.reduceMul, Nat.reduceBEq] <;> rfl)
      clear hg
      simp only [List.drop_zero, List.take_zero] at h2
      by_cases h : prsErr n [] ps = 0
      · rw [if_pos h] at h2
        subst h2
        simp only [go_sem, reduceIte, Nat.reduceEqDiff, Nat.reduceAdd, Nat.reduceSub, Nat.reduceLeDiff, Nat.reduceLT, reduceCtorEq, Int.reduceLT, Int.reduceLE, Int.reduceEq, Int.reduceBEq, Int.reduceSub, Int.reduceAdd, Int.reduceMul, Int.reduceNeg, Int.reduceToNat, Nat.reduceMul, Nat.reduceBEq, h]
      · rw [if_neg h] at h2
        obtain ⟨rfl, h3⟩ := h2
        simp only [go_sem, reduceIte, Nat.reduceEqDiff, Nat.reduceAdd, Nat.reduceSub, Nat.reduceLeDiff, Nat.reduceLT, reduceCtorEq, Int.reduceLT, Int.reduceLE, Int.reduceEq, Int.reduceBEq, Int.reduceSub, Int.reduceAdd, Int.reduceMul, Int.reduceNeg, Int.reduceToNat, Nat.reduceMul, Nat.reduceBEq, h3]


theorem wrapU (n : Nat) (h : n < 2 ^ 64) : IntKind.u64.wrap (n : Int) = n := by
  simp [IntKind.wrap, IntKind.bits, IntKind.signed]; omega
theorem shrU (m p : Nat) (h : p < 64) : Int.fdiv (m : Int) (2 ^ min p 64) = ((m >>> p : Nat) : Int) := by
  have e : min p 64 = p := by omega
  have e2 : ((2 : Int) ^ p) = ((2 ^ p : Nat) : Int) := by simp
  rw [e, e2, Int.fdiv_eq_ediv_of_nonneg _ (Int.natCast_nonneg _), Nat.shiftRight_eq_div_pow]
  simp
theorem and_one (n : Nat) : binAV .and none (.v (.int .u64 (n : Int))) (.v (.int .u64 1)) = some (.v (.int .u64 ((n % 2 : Nat) : Int))) := by
  have h : (BitVec.ofInt 64 (n : Int) &&& BitVec.ofInt 64 1).toNat = n % 2 := by
    rw [BitVec.toNat_and]
    have : (BitVec.ofInt 64 1).toNat = 1 := by decide
    rw [this, Nat.and_one_is_mod, BitVec.ofInt_natCast, BitVec.toNat_ofNat]
    omega
  show some (AV.v (.int .u64 (IntKind.u64.wrap ((BitVec.ofInt 64 (n : Int) &&& BitVec.ofInt 64 1).toNat : Int)))) = _
  rw [h, wrapU _ (by omega)]
theorem shr_u (m p : Nat) : binAV .shr none (.v (.int .u64 (m : Int))) (.v (.int .i64 (p : Int))) = some (.v (.int .u64 ((m >>> min p 64 : Nat) : Int))) := by
  have e := shrU m (min p 64)
  show (if (p : Int) < 0 then none else some (AV.v (.int .u64 (Int.fdiv (m : Int) (2 ^ min (Int.toNat (p : Int)) 64))))) = _
  rw [if_neg (by omega), Int.toNat_natCast]
  have e2 : ((2 : Int) ^ (min p 64)) = ((2 ^ (min p 64) : Nat) : Int) := by simp
  rw [e2, Int.fdiv_eq_ediv_of_nonneg _ (Int.natCast_nonneg _), Nat.shiftRight_eq_div_pow]
  simp
attribute [local go_sem high] and_one shr_u

attribute [local go_sem high] and_one shr_u

/-- Both articles of a pair are among the first seven. -/
def okP (p : Int × Int) : Prop := 0 ≤ p.1 ∧ p.1 < 7 ∧ 0 ≤ p.2 ∧ p.2 < 7
/-! ### comparing -/
/-- Is a list ahead of another one? -/
def lexLt : List Int → List Int → Bool
  | [], [] => false
  | [], _ :: _ => true
  | _ :: _, [] => false
  | a :: r, b :: s => decide (a < b) || (decide (a = b) && lexLt r s)

attribute [local go_sem high] and_one shr_u

/-- The articles of a set, in ascending order. -/
def memb (m : Nat) : List Int := ((List.range 7).filter m.testBit).map fun (i : Nat) => (i : Int)


/-- The number with one bit. -/
def sh1 (p : Nat) : Nat := 2 ^ min p 64 % 2 ^ 64
theorem shl_one (p : Nat) : binAV .shl none (.v (.int .u64 1)) (.v (.int .i64 (p : Int))) = some (.v (.int .u64 ((sh1 p : Nat) : Int))) := by
  show (if (p : Int) < 0 then none else some (AV.v (.int .u64 (IntKind.u64.wrap (1 * (2 ^ (min (Int.toNat (p : Int)) 64)))))) ) = _
  rw [if_neg (by omega), Int.toNat_natCast]
  have e2 : (1 : Int) * ((2 : Int) ^ (min p 64)) = ((2 ^ (min p 64) : Nat) : Int) := by simp
  rw [e2]
  simp only [sh1, IntKind.wrap, IntKind.bits, IntKind.signed]
  simp
attribute [local go_sem high] and_one shr_u shl_one


def orU (a b : Nat) : Nat := a % 2 ^ 64 ||| b % 2 ^ 64
theorem or_u (a b : Nat) : binAV .or none (.v (.int .u64 (a : Int))) (.v (.int .u64 (b : Int))) = some (.v (.int .u64 ((orU a b : Nat) : Int))) := by
  have h : (BitVec.ofInt 64 (a : Int) ||| BitVec.ofInt 64 (b : Int)).toNat = orU a b := by
    rw [BitVec.toNat_or]; simp [BitVec.ofInt_natCast, orU]
  show some (AV.v (.int .u64 (IntKind.u64.wrap ((BitVec.ofInt 64 (a : Int) ||| BitVec.ofInt 64 (b : Int)).toNat : Int)))) = _
  rw [h, wrapU]
  unfold orU
  exact Nat.or_lt_two_pow (Nat.mod_lt _ (by decide)) (Nat.mod_lt _ (by decide))
attribute [local go_sem high] and_one shr_u shl_one or_u

theorem prsErr_zero {n : Int} : ∀ {ps seen : List (Int × Int)}, prsErr n seen ps = 0 → ∀ p ∈ ps, 0 ≤ p.1 ∧ p.1 < p.2 ∧ p.2 < n
  | [], _, _, p, hp => by simp at hp
  | a :: r, seen, h, p, hp => by
    simp only [prsErr] at h
    split at h
    · next h0 =>
      unfold prErr at h0
      split at h0
      · omega
      · split at h0
        · omega
        · rcases List.mem_cons.1 hp with rfl | hp
          · exact ⟨by omega, by omega, by omega⟩
          · exact prsErr_zero h p hp
    · next h0 => exact absurd h h0
/-- What a good book is like. -/
theorem chk_zero {n : Int} {ps : List (Int × Int)} (h : chk n ps = 0) : 1 ≤ n ∧ n ≤ 7 ∧ ps.length ≤ 10 ∧ (∀ p ∈ ps, 0 ≤ p.1 ∧ p.1 < p.2 ∧ p.2 < n) ∧ ∀ p ∈ ps, okP p := by
  unfold chk at h
  split at h
  · omega
  · split at h
    · omega
    · have := prsErr_zero h
      exact ⟨by omega, by omega, by omega, this, fun p hp => by have := this p hp; unfold okP; omega⟩


theorem run_args {f : FuncId} {fn : IF} (hf : L.fns f = some fn) (hp : L.pure f = true) {args args' : List AV} (st : St) (h : pubs args = pubs args') : run L f args st = run L f args' st := by
  rw [run_pure hf hp, run_pure hf hp, h]


def sumL : List Int → Int
  | [] => 0
  | a :: r => a + sumL r
/-- Are values enough for each pair? -/
def enough (v : List Int) (p : Int × Int) : Bool := decide (2 ≤ v.getD p.1.toNat 0 + v.getD p.2.toNat 0)
def halfOk (ps : List (Int × Int)) (v : List Int) : Bool := ps.all (enough v)

theorem index_at (nl : Bool) (l : List Int) (a : Int) (h : 0 ≤ a) (h2 : a < l.length) : indexSAV 1 (sl 1 nl (l.map I)) (.v (.int .i64 a)) = some (.eptr (I (l.getD a.toNat 0)) 0) := by
  have := index_ints nl l a.toNat (by omega)
  rw [Int.toNat_of_nonneg h] at this
  rw [this]
  simp [List.getD_eq_getElem?_getD, List.getElem?_eq_getElem (show a.toNat < l.length by omega)]


/-! ### who contradicts whom -/
def orAt (o : List Nat) (i b : Nat) : List Nat := o.set i (o.getD i 0 ||| 2 ^ b)
def adv1 (o : List Nat) (p : Int × Int) : List Nat := orAt (orAt o p.1.toNat p.2.toNat) p.2.toNat p.1.toNat
def advL (ps : List (Int × Int)) : List Nat := ps.foldl adv1 (List.replicate 7 0)
/-- The articles that contradict some of a set. -/
def twoOf (ps : List (Int × Int)) (z : Nat) : Nat := (memb z).foldl (fun (t : Nat) (a : Int) => t ||| (advL ps).getD a.toNat 0) 0
/-! ### values by a set of articles that have 0 -/
def bitI (m a : Nat) : Int := (((m >>> a) % 2 : Nat) : Int)
def valsOf (n two z : Nat) : List Int := (List.range n).map fun a => 1 + bitI two a - bitI z a
def costOf (n two z : Nat) : Int := (n : Int) + (memb two).length - (memb z).length
/-- The values so far, what they cost, and one more set. -/
def hStep (n : Nat) (ps : List (Int × Int)) (s : List Int × Int) (z : Nat) : List Int × Int :=
  if twoOf ps z &&& z = 0 then
    (if s.1 = [] ∨ costOf n (twoOf ps z) z < s.2 ∨ costOf n (twoOf ps z) z = s.2 ∧ lexLt (valsOf n (twoOf ps z) z) s.1 = true then (valsOf n (twoOf ps z) z, costOf n (twoOf ps z) z) else s)
  else s
def halvesV (n : Nat) (ps : List (Int × Int)) : List Int := ((List.range (2 ^ n)).foldl (hStep n ps) ([], 0)).1

/-! ### the cheapest, and the first of these -/
theorem list_range (v : List Int) (n : Nat) (h : v.length = n) : v = (List.range n).map (fun a => v.getD a 0) := by
  apply List.ext_getElem
  · simp [h]
  · intro i h1 h2
    simp [List.getD_eq_getElem?_getD, List.getElem?_eq_getElem h1]
section
variable {n : Nat} {ps : List (Int × Int)} (hn1 : 1 ≤ n) (hn : n ≤ 7) (hps : ∀ p ∈ ps, 0 ≤ p.1 ∧ p.1 < p.2 ∧ p.2 < (n : Int)) (h7 : ∀ p ∈ ps, okP p)
include hps
end


def andN (a b : Nat) : Nat := a % 2 ^ 64 &&& b % 2 ^ 64
theorem and_u (a b : Nat) : binAV .and none (.v (.int .u64 (a : Int))) (.v (.int .u64 (b : Int))) = some (.v (.int .u64 ((andN a b : Nat) : Int))) := by
  have h : (BitVec.ofInt 64 (a : Int) &&& BitVec.ofInt 64 (b : Int)).toNat = andN a b := by
    rw [BitVec.toNat_and]; simp [BitVec.ofInt_natCast, andN]
  show some (AV.v (.int .u64 (IntKind.u64.wrap ((BitVec.ofInt 64 (a : Int) &&& BitVec.ofInt 64 (b : Int)).toNat : Int)))) = _
  rw [h, wrapU]
  unfold andN
  exact Nat.lt_of_le_of_lt Nat.and_le_left (Nat.mod_lt _ (by decide))
attribute [local go_sem high] and_one shr_u shl_one or_u and_u


/-! ### the cheapest values -/
def hv (n : Int) (ps : List (Int × Int)) : List Int × Int := if chk n ps = 0 then (halvesV n.toNat ps, 0) else ([], chk n ps)
/-! ### values that are given -/
def in02 (x : Int) : Bool := decide (0 ≤ x ∧ x ≤ 2)
theorem all02 {l : List Int} (h : l.all in02 = true) : ∀ x ∈ l, 0 ≤ x ∧ x ≤ 2 := fun x hx => of_decide_eq_true (List.all_eq_true.1 h x hx)
/-- A sum and an error. -/
def numbersV (l : List Int) (many : Int) : Int × Int := if (l.length : Int) = many then (if l.all in02 = true then (sumL l, 0) else (0, 1)) else (0, 5)

theorem loop109 (nl : Bool) (l : List Int) (hlen : l.length < 1000000) (i : Nat) (acc : Int) (hok : i ≤ l.length ∧ 0 ≤ acc ∧ acc ≤ 2 * i) (env : Env) (st : St)
    (hg : gcAV true 0 0 (canon env [6, 13, 14, 15]) st = ([(6, I acc), (13, sl 1 nl (l.map I)), (14, I l.length), (15, I i)], ⟨[], []⟩)) :
    ∃ x_1 en s, lim (headed pure (run L) true [6, 13, 14, 15] lp109_0 0 0) env st = some (x_1, en, s) ∧ (if (l.drop i).all in02 = true then x_1 = .exit 0 ∧ en.get 6 = I (acc + sumL (l.drop i)) else x_1 = .ret ∧ en.get 4 = I 0 ∧ en.get 5 = I 1) := by
  refine loop_wp (α := Nat × Int) (fun ⟨i, acc⟩ => l.length - i) (fun ⟨i, acc⟩ => i ≤ l.length ∧ 0 ≤ acc ∧ acc ≤ 2 * i) (fun ⟨i, acc⟩ => ([(6, I acc), (13, sl 1 nl (l.map I)), (14, I l.length), (15, I i)], ⟨[], []⟩)) (fun ⟨i, acc⟩ x_1 en s => if (l.drop i).all in02 = true then x_1 = .exit 0 ∧ en.get 6 = I (acc + sumL (l.drop i)) else x_1 = .ret ∧ en.get 4 = I 0 ∧ en.get 5 = I 1) (fun ⟨i, acc⟩ hok => ?_) ⟨i, acc⟩ hok env st hg
  simp only at hok
  obtain ⟨h1, h2, h3⟩ := hok
  dsimp only
  by_cases h : i < l.length
  · have hx := index_ints nl l i h
    have hs := succ64 i (by omega)
    have hd : l.drop i = l[i] :: l.drop (i + 1) := List.drop_eq_getElem_cons h
    have hlt : ((i : Int) < (l.length : Int)) = True := eq_true (by omega)
    rw [hd]
    generalize l[i] = a at *
    by_cases p1 : a < 0
    · simp only [go_sem, reduceIte, Nat.reduceEqDiff, Nat.reduceAdd, Nat.reduceSub, Nat.reduceLeDiff, Nat.reduceLT, reduceCtorEq, Int.reduceLT, Int.reduceLE, Int.reduceEq, Int.reduceBEq, Int.reduceSub, Int.reduceAdd, Int.reduceMul, Int.reduceNeg, Int.reduceToNat, Nat.reduceMul, Nat.reduceBEq, index_rsl_if, setm, make_ints, condK_dec, wantK_dec, not_dec, and_dec, or_dec, seqK_ite, seqK_none, blockK_ite, blockK_none, opsK_ite, opsK_none, stepK_ite, stepK_none, bodyK_ite, bodyK_none, resK_ite, resK_none, leaveK_ite, leaveK_none, only_ite, only_none, bind_ite, gives_some, gives_none, gives_ite, then_normal, then_ret, then_exit, then_none, then_ite, Option.bind_none, Bool.not_eq_true', decide_eq_false_iff_not, Bool.and_eq_true, Bool.or_eq_true, Option.some.injEq, Int.not_lt, Int.not_le, lp109_0, hx, hlt, p1]
      rw [if_neg (by simp [in02]; omega)]; trivial
    by_cases p2 : 2 < a
    · simp only [go_sem, reduceIte, Nat.reduceEqDiff, Nat.reduceAdd, Nat.reduceSub, Nat.reduceLeDiff, Nat.reduceLT, reduceCtorEq, Int.reduceLT, Int.reduceLE, Int.reduceEq, Int.reduceBEq, Int.reduceSub, Int.reduceAdd, Int.reduceMul, Int.reduceNeg, Int.reduceToNat, Nat.reduceMul, Nat.reduceBEq, index_rsl_if, setm, make_ints, condK_dec, wantK_dec, not_dec, and_dec, or_dec, seqK_ite, seqK_none, blockK_ite, blockK_none, opsK_ite, opsK_none, stepK_ite, stepK_none, bodyK_ite, bodyK_none, resK_ite, resK_none, leaveK_ite, leaveK_none, only_ite, only_none, bind_ite, gives_some, gives_none, gives_ite, then_normal, then_ret, then_exit, then_none, then_ite, Option.bind_none, Bool.not_eq_true', decide_eq_false_iff_not, Bool.and_eq_true, Bool.or_eq_true, Option.some.injEq, Int.not_lt, Int.not_le, lp109_0, hx, hlt, p1, p2]
      rw [if_neg (by simp [in02]; omega)]; trivial
    have hw : IntKind.i64.wrap (acc + a) = acc + a := by rw [wrap64] <;> omega
    have hin : in02 a = true := decide_eq_true (by omega)
    simp only [go_sem, reduceIte, Nat.reduceEqDiff, Nat.reduceAdd, Nat.reduceSub, Nat.reduceLeDiff, Nat.reduceLT, reduceCtorEq, Int.reduceLT, Int.reduceLE, Int.reduceEq, Int.reduceBEq, Int.reduceSub, Int.reduceAdd, Int.reduceMul, Int.reduceNeg, Int.reduceToNat, Nat.reduceMul, Nat.reduceBEq, index_rsl_if, setm, make_ints, condK_dec, wantK_dec, not_dec, and_dec, or_dec, seqK_ite, seqK_none, blockK_ite, blockK_none, opsK_ite, opsK_none, stepK_ite, stepK_none, bodyK_ite, bodyK_none, resK_ite, resK_none, leaveK_ite, leaveK_none, only_ite, only_none, bind_ite, gives_some, gives_none, gives_ite, then_normal, then_ret, then_exit, then_none, then_ite, Option.bind_none, Bool.not_eq_true', decide_eq_false_iff_not, Bool.and_eq_true, Bool.or_eq_true, Option.some.injEq, Int.not_lt, Int.not_le, lp109_0, hx, hlt, p1, p2, hw, hs]
    refine ⟨(i + 1, acc + a), by simp only [go_sem, reduceIte, Nat.reduceEqDiff, Nat.reduceAdd, Nat.reduceSub, Nat.reduceLeDiff, Nat.reduceLT, reduceCtorEq, Int.reduceLT, Int.reduceLE, Int.reduceEq, Int.reduceBEq, Int.reduceSub, Int.reduceAdd, Int.reduceMul, Int.reduceNeg, Int.reduceToNat, Nat.reduceMul, Nat.reduceBEq, ren1_locm, loc_tips, locT_eq] <;> rfl, ?_, ?_, fun x en s hq => ?_⟩
    · dsimp only; exact ⟨by omega, by omega, by omega⟩
    · simp only; omega
    · simp only [List.all_cons, hin, sumL, Bool.true_and, true_and]; rw [← Int.add_assoc]; simpa using hq
  · have hd : l.drop i = [] := List.drop_eq_nil_of_le (by omega)
    have hlt : ((i : Int) < (l.length : Int)) = False := eq_false (by omega)
    simp only [go_sem, reduceIte, Nat.reduceEqDiff, Nat.reduceAdd, Nat.reduceSub, Nat.reduceLeDiff, Nat.reduceLT, reduceCtorEq, Int.reduceLT, Int.reduceLE, Int.reduceEq, Int.reduceBEq, Int.reduceSub, Int.reduceAdd, Int.reduceMul, Int.reduceNeg, Int.reduceToNat, Nat.reduceMul, Nat.reduceBEq, index_rsl_if, setm, make_ints, condK_dec, wantK_dec, not_dec, and_dec, or_dec, seqK_ite, seqK_none, blockK_ite, blockK_none, opsK_ite, opsK_none, stepK_ite, stepK_none, bodyK_ite, bodyK_none, resK_ite, resK_none, leaveK_ite, leaveK_none, only_ite, only_none, bind_ite, gives_some, gives_none, gives_ite, then_normal, then_ret, then_exit, then_none, then_ite, Option.bind_none, Bool.not_eq_true', decide_eq_false_iff_not, Bool.and_eq_true, Bool.or_eq_true, Option.some.injEq, Int.not_lt, Int.not_le, lp109_0, hlt]
    rw [hd]; simp [sumL]

theorem c109 (nl : Bool) (l : List Int) (hlen : l.length < 1000000) (many : Int) (st : St) : run L 109 [sl 1 nl (l.map I), I many] st = some (.tup [I (numbersV l many).1, I (numbersV l many).2], st) := by
  rw [run_pure (fn := ir109) rfl rfl]
  unfold numbersV
  by_cases p : (l.length : Int) = many
  · rw [if_pos p]
    simp only [ir109, go_sem, reduceIte, Nat.reduceEqDiff, Nat.reduceAdd, Nat.reduceSub, Nat.reduceLeDiff, Nat.reduceLT, reduceCtorEq, Int.reduceLT, Int.reduceLE, Int.reduceEq, Int.reduceBEq, Int.reduceSub, Int.reduceAdd, Int.reduceMul, Int.reduceNeg, Int.reduceToNat, Nat.reduceMul, Nat.reduceBEq, List.length_map, p]
    rw [← p]
    generalize hg : lim (headed pure (run L) true _ lp109_0 _ _) _ _ = o
    obtain ⟨x, en, s, rfl, h2⟩ : ∃ x en s, o = some (x, en, s) ∧ _ := by rw [← hg]; exact loop109 nl l hlen 0 0 ⟨by omega, by omega, by omega⟩ _ _ (by simp only [go_sem, reduceIte, Nat.reduceEqDiff, Nat.reduceAdd, Nat.reduceSub, Nat.reduceLeDiff, Nat.reduceLT, reduceCtorEq, Int.reduceLT, Int.reduceLE, Int.reduceEq, Int.reduceBEq, Int.reduceSub, Int.reduceAdd, Int.reduceMul, Int.reduceNeg, Int.reduceToNat, Nat.reduceMul, Nat.reduceBEq] <;> rfl)
    clear hg
    rw [List.drop_zero, Int.zero_add] at h2
    by_cases h : l.all in02 = true
    · rw [if_pos h] at h2
      obtain ⟨rfl, h3⟩ := h2
      simp only [go_sem, reduceIte, Nat.reduceEqDiff, Nat.reduceAdd, Nat.reduceSub, Nat.reduceLeDiff, Nat.reduceLT, reduceCtorEq, Int.reduceLT, Int.reduceLE, Int.reduceEq, Int.reduceBEq, Int.reduceSub, Int.reduceAdd, Int.reduceMul, Int.reduceNeg, Int.reduceToNat, Nat.reduceMul, Nat.reduceBEq, h3, h]
    · rw [if_neg h] at h2
      obtain ⟨rfl, h3, h4⟩ := h2
      simp only [go_sem, reduceIte, Nat.reduceEqDiff, Nat.reduceAdd, Nat.reduceSub, Nat.reduceLeDiff, Nat.reduceLT, reduceCtorEq, Int.reduceLT, Int.reduceLE, Int.reduceEq, Int.reduceBEq, Int.reduceSub, Int.reduceAdd, Int.reduceMul, Int.reduceNeg, Int.reduceToNat, Nat.reduceMul, Nat.reduceBEq, h3, h4, h]
  · rw [if_neg p]
    simp only [ir109, go_sem, reduceIte, Nat.reduceEqDiff, Nat.reduceAdd, Nat.reduceSub, Nat.reduceLeDiff, Nat.reduceLT, reduceCtorEq, Int.reduceLT, Int.reduceLE, Int.reduceEq, Int.reduceBEq, Int.reduceSub, Int.reduceAdd, Int.reduceMul, Int.reduceNeg, Int.reduceToNat, Nat.reduceMul, Nat.reduceBEq, List.length_map, p]

/-- What values cost, and an error. -/
def halvedV (n : Int) (ps : List (Int × Int)) (v : List Int) : Int × Int :=
  if chk n ps = 0 then (if (numbersV v n).2 = 0 then (if halfOk ps v = true then ((numbersV v n).1, 0) else (0, 21)) else (0, (numbersV v n).2)) else (0, chk n ps)

theorem loop83 (nl n2 : Bool) (n : Int) (hn : n ≤ 7) (ps : List (Int × Int)) (hlen : ps.length < 1000) (hps : ∀ p ∈ ps, 0 ≤ p.1 ∧ p.1 < p.2 ∧ p.2 < n) (v : List Int) (hv : (v.length : Int) = n) (hb : ∀ x ∈ v, 0 ≤ x ∧ x ≤ 2) (s0 : Int) (i : Nat) (hok : i ≤ ps.length) (env : Env) (st : St)
    (hg : gcAV true 1 0 (canon env [1, 7, 27, 28, 29]) st = ([(1, sl 1 n2 (v.map I)), (7, I s0), (27, sl 2 nl (ps.map prAV)), (28, I ps.length), (29, I i)], ⟨[bkCells nl n ps], []⟩)) :
    ∃ x_1 en s, lim (headed pure (run L) true [1, 7, 27, 28, 29] lp83_0 1 0) env st = some (x_1, en, s) ∧ (if halfOk (ps.drop i) v = true then x_1 = .exit 0 ∧ en.get 7 = I s0 else x_1 = .ret ∧ en.get 4 = I 0 ∧ en.get 5 = I 21) := by
  refine loop_wp (α := Nat) (fun i => ps.length - i) (fun i => i ≤ ps.length) (fun i => ([(1, sl 1 n2 (v.map I)), (7, I s0), (27, sl 2 nl (ps.map prAV)), (28, I ps.length), (29, I i)], ⟨[bkCells nl n ps], []⟩)) (fun i x_1 en s => if halfOk (ps.drop i) v = true then x_1 = .exit 0 ∧ en.get 7 = I s0 else x_1 = .ret ∧ en.get 4 = I 0 ∧ en.get 5 = I 21) (fun i hok => ?_) i hok env st hg
  by_cases h : i < ps.length
  · have hx := index_prs nl ps i h
    have hs := succ64 i (by omega)
    have hd : ps.drop i = ps[i] :: ps.drop (i + 1) := List.drop_eq_getElem_cons h
    have hp := hps ps[i] (List.getElem_mem h)
    have hlt : ((i : Int) < (ps.length : Int)) = True := eq_true (by omega)
    rw [hd]
    generalize ps[i] = c at *
    obtain ⟨a, b⟩ := c
    simp only at hx hp
    have hxa := index_at n2 v a (by omega) (by omega)
    have hxb := index_at n2 v b (by omega) (by omega)
    have hba : 0 ≤ v.getD a.toNat 0 ∧ v.getD a.toNat 0 ≤ 2 := by
      rw [List.getD_eq_getElem?_getD, List.getElem?_eq_getElem (show a.toNat < v.length by omega)]; exact hb _ (List.getElem_mem _)
    have hbb : 0 ≤ v.getD b.toNat 0 ∧ v.getD b.toNat 0 ≤ 2 := by
      rw [List.getD_eq_getElem?_getD, List.getElem?_eq_getElem (show b.toNat < v.length by omega)]; exact hb _ (List.getElem_mem _)
    have hE : enough v (a, b) = decide (2 ≤ v.getD a.toNat 0 + v.getD b.toNat 0) := rfl
    simp only [halfOk, List.all_cons, hE]
    generalize v.getD a.toNat 0 = x at *
    generalize v.getD b.toNat 0 = y at *
    have hw : IntKind.i64.wrap (x + y) = x + y := by rw [wrap64] <;> omega
    by_cases p : x + y < 2
    · simp only [go_sem, reduceIte, Nat.reduceEqDiff, Nat.reduceAdd, Nat.reduceSub, Nat.reduceLeDiff, Nat.reduceLT, reduceCtorEq, Int.reduceLT, Int.reduceLE, Int.reduceEq, Int.reduceBEq, Int.reduceSub, Int.reduceAdd, Int.reduceMul, Int.reduceNeg, Int.reduceToNat, Nat.reduceMul, Nat.reduceBEq, index_rsl_if, setm, make_ints, condK_dec, wantK_dec, not_dec, and_dec, or_dec, seqK_ite, seqK_none, blockK_ite, blockK_none, opsK_ite, opsK_none, stepK_ite, stepK_none, bodyK_ite, bodyK_none, resK_ite, resK_none, leaveK_ite, leaveK_none, only_ite, only_none, bind_ite, gives_some, gives_none, gives_ite, then_normal, then_ret, then_exit, then_none, then_ite, Option.bind_none, Bool.not_eq_true', decide_eq_false_iff_not, Bool.and_eq_true, Bool.or_eq_true, Option.some.injEq, Int.not_lt, Int.not_le, lp83_0, hx, hlt, hxa, hxb, hw, p]
      rw [if_neg (by simp; omega)]; trivial
    · have hdec : decide (2 ≤ x + y) = true := decide_eq_true (by omega)
      simp only [go_sem, reduceIte, Nat.reduceEqDiff, Nat.reduceAdd, Nat.reduceSub, Nat.reduceLeDiff, Nat.reduceLT, reduceCtorEq, Int.reduceLT, Int.reduceLE, Int.reduceEq, Int.reduceBEq, Int.reduceSub, Int.reduceAdd, Int.reduceMul, Int.reduceNeg, Int.reduceToNat, Nat.reduceMul, Nat.reduceBEq, index_rsl_if, setm, make_ints, condK_dec, wantK_dec, not_dec, and_dec, or_dec, seqK_ite, seqK_none, blockK_ite, blockK_none, opsK_ite, opsK_none, stepK_ite, stepK_none, bodyK_ite, bodyK_none, resK_ite, resK_none, leaveK_ite, leaveK_none, only_ite, only_none, bind_ite, gives_some, gives_none, gives_ite, then_normal, then_ret, then_exit, then_none, then_ite, Option.bind_none, Bool.not_eq_true', decide_eq_false_iff_not, Bool.and_eq_true, Bool.or_eq_true, Option.some.injEq, Int.not_lt, Int.not_le, lp83_0, hx, hlt, hxa, hxb, hw, p, hs]
      refine ⟨i + 1, by simp only [go_sem, reduceIte, Nat.reduceEqDiff, Nat.reduceAdd, Nat.reduceSub, Nat.reduceLeDiff, Nat.reduceLT, reduceCtorEq, Int.reduceLT, Int.reduceLE, Int.reduceEq, Int.reduceBEq, Int.reduceSub, Int.reduceAdd, Int.reduceMul, Int.reduceNeg, Int.reduceToNat, Nat.reduceMul, Nat.reduceBEq, ren1_locm, loc_tips, locT_eq] <;> rfl, ?_, ?_, fun x en s hq => ?_⟩
      · omega
      · omega
      · have hdec2 := of_decide_eq_true hdec
        simp only [hdec2, true_and]; exact hq
  · have hd : ps.drop i = [] := List.drop_eq_nil_of_le (by omega)
    have hlt : ((i : Int) < (ps.length : Int)) = False := eq_false (by omega)
    simp only [go_sem, reduceIte, Nat.reduceEqDiff, Nat.reduceAdd, Nat.reduceSub, Nat.reduceLeDiff, Nat.reduceLT, reduceCtorEq, Int.reduceLT, Int.reduceLE, Int.reduceEq, Int.reduceBEq, Int.reduceSub, Int.reduceAdd, Int.reduceMul, Int.reduceNeg, Int.reduceToNat, Nat.reduceMul, Nat.reduceBEq, index_rsl_if, setm, make_ints, condK_dec, wantK_dec, not_dec, and_dec, or_dec, seqK_ite, seqK_none, blockK_ite, blockK_none, opsK_ite, opsK_none, stepK_ite, stepK_none, bodyK_ite, bodyK_none, resK_ite, resK_none, leaveK_ite, leaveK_none, only_ite, only_none, bind_ite, gives_some, gives_none, gives_ite, then_normal, then_ret, then_exit, then_none, then_ite, Option.bind_none, Bool.not_eq_true', decide_eq_false_iff_not, Bool.and_eq_true, Bool.or_eq_true, Option.some.injEq, Int.not_lt, Int.not_le, lp83_0, hlt]
    rw [hd]; simp [halfOk]

theorem c83 (nl n2 : Bool) (n : Int) (ps : List (Int × Int)) (v : List Int) (hlen : v.length < 1000000) (st : St) :
    run L 83 [bkAV nl n ps, sl 1 n2 (v.map I)] st = some (.tup [I (halvedV n ps v).1, I (halvedV n ps v).2], st) := by
  rw [run_pure (fn := ir83) rfl rfl]
  have h22 := fun st => c22 nl n ps st
  have h109 := fun st => c109 n2 v hlen n st
  unfold halvedV
  by_cases h : chk n ps = 0
  · obtain ⟨h1, h2, h3, h4, h5⟩ := chk_zero h
    rw [if_pos h]
    by_cases p : (numbersV v n).2 = 0
    · have hvn : (v.length : Int) = n ∧ v.all in02 = true := by
        unfold numbersV at p
        split at p
        · next q =>
          refine ⟨q, ?_⟩
          split at p
          · assumption
          · simp at p
        · simp at p
      rw [if_pos p]
      simp only [ir83, go_sem, reduceIte, Nat.reduceEqDiff, Nat.reduceAdd, Nat.reduceSub, Nat.reduceLeDiff, Nat.reduceLT, reduceCtorEq, Int.reduceLT, Int.reduceLE, Int.reduceEq, Int.reduceBEq, Int.reduceSub, Int.reduceAdd, Int.reduceMul, Int.reduceNeg, Int.reduceToNat, Nat.reduceMul, Nat.reduceBEq, h22, h, h109, p, List.length_map]
      generalize (numbersV v n).1 = s0
      generalize hg : lim (headed pure (run L) true _ lp83_0 _ _) _ _ = o
      obtain ⟨x, en, s, rfl, h2⟩ : ∃ x en s, o = some (x, en, s) ∧ _ := by rw [← hg]; exact loop83 nl n2 n h2 ps (by omega) h4 v hvn.1 (all02 hvn.2) s0 0 (by omega) _ _ (by simp only [go_sem, reduceIte, Nat.reduceEqDiff, Nat.reduceAdd, Nat.reduceSub, Nat.reduceLeDiff, Nat.reduceLT, reduceCtorEq, Int.reduceLT, Int.reduceLE, Int.reduceEq, Int.reduceBEq, Int.reduceSub, Int.reduceAdd, Int.reduceMul, Int.reduceNeg, Int.reduceToNat, Nat.reduceMul, Nat.reduceBEq] <;> rfl)
      clear hg
      rw [List.drop_zero] at h2
      by_cases q : halfOk ps v = true
      · rw [if_pos q] at h2
        obtain ⟨rfl, h3⟩ := h2
        simp only [go_sem, reduceIte, Nat.reduceEqDiff, Nat.reduceAdd, Nat.reduceSub, Nat.reduceLeDiff, Nat.reduceLT, reduceCtorEq, Int.reduceLT, Int.reduceLE, Int.reduceEq, Int.reduceBEq, Int.reduceSub, Int.reduceAdd, Int.reduceMul, Int.reduceNeg, Int.reduceToNat, Nat.reduceMul, Nat.reduceBEq, h3, q]
      · rw [if_neg q] at h2
        obtain ⟨rfl, h3, h4⟩ := h2
        simp only [go_sem, reduceIte, Nat.reduceEqDiff, Nat.reduceAdd, Nat.reduceSub, Nat.reduceLeDiff, Nat.reduceLT, reduceCtorEq, Int.reduceLT, Int.reduceLE, Int.reduceEq, Int.reduceBEq, Int.reduceSub, Int.reduceAdd, Int.reduceMul, Int.reduceNeg, Int.reduceToNat, Nat.reduceMul, Nat.reduceBEq, h3, h4, q]
    · rw [if_neg p]
      simp only [ir83, go_sem, reduceIte, Nat.reduceEqDiff, Nat.reduceAdd, Nat.reduceSub, Nat.reduceLeDiff, Nat.reduceLT, reduceCtorEq, Int.reduceLT, Int.reduceLE, Int.reduceEq, Int.reduceBEq, Int.reduceSub, Int.reduceAdd, Int.reduceMul, Int.reduceNeg, Int.reduceToNat, Nat.reduceMul, Nat.reduceBEq, h22, h, h109, p]
  · rw [if_neg h]
    simp only [ir83, go_sem, reduceIte, Nat.reduceEqDiff, Nat.reduceAdd, Nat.reduceSub, Nat.reduceLeDiff, Nat.reduceLT, reduceCtorEq, Int.reduceLT, Int.reduceLE, Int.reduceEq, Int.reduceBEq, Int.reduceSub, Int.reduceAdd, Int.reduceMul, Int.reduceNeg, Int.reduceToNat, Nat.reduceMul, Nat.reduceBEq, h22, h]
theorem c30 (nl n2 : Bool) (n : Int) (ps : List (Int × Int)) (v : List Int) (hlen : v.length < 1000000) (st : St) :
    run L 30 [bkAV nl n ps, sl 1 n2 (v.map I)] st = some (I (halvedV n ps v).2, st) := by
  rw [run_pure (fn := ir30) rfl rfl]
  have h83 := fun st => c83 nl n2 n ps v hlen st
  simp only [ir30, go_sem, reduceIte, Nat.reduceEqDiff, Nat.reduceAdd, Nat.reduceSub, Nat.reduceLeDiff, Nat.reduceLT, reduceCtorEq, Int.reduceLT, Int.reduceLE, Int.reduceEq, Int.reduceBEq, Int.reduceSub, Int.reduceAdd, Int.reduceMul, Int.reduceNeg, Int.reduceToNat, Nat.reduceMul, Nat.reduceBEq, h83]


/-! ### a book by numbers -/
abbrev B8 (n : Int) : AV := .v (.int .u8 n)
def Byte (n : Int) : Prop := 0 ≤ n ∧ n ≤ 255
abbrev qAV (zs : List Int) : AV := .agg (zs.map B8)
theorem okRefsB (n : Nat) (xs : List Int) : okRefs n (xs.map B8) = true := okRefs_map B8 n (fun _ => rfl) xs
theorem renCellsB (n : Nat) (tips : List Nat) (acc : List (Nat × Nat)) (xs : List Int) : renCells n tips acc (xs.map B8) = (xs.map B8, acc) := renCells_map B8 n tips (fun _ _ => rfl) xs acc
theorem pubsB (xs : List Int) : pubs (xs.map B8) = xs.map B8 := pubs_map B8 (fun _ => rfl) xs
theorem storableB (xs : List Int) : (xs.map B8).all storable = true := by
  rw [List.all_eq_true]; intro x hx; rw [List.mem_map] at hx; obtain ⟨n, _, rfl⟩ := hx; rfl
theorem getB (zs : List Int) (a : Nat) (h : a < zs.length) : (zs.map B8)[a]? = some (B8 (zs.getD a 0)) := by
  rw [getm B8 zs 0 a, if_pos h]
theorem byte_getD {l : List Int} (h : ∀ n ∈ l, Byte n) (i : Nat) : Byte (l.getD i 0) := by
  rw [List.getD_eq_getElem?_getD]
  by_cases hi : i < l.length
  · rw [List.getElem?_eq_getElem hi]; exact h _ (List.getElem_mem hi)
  · rw [List.getElem?_eq_none (by omega)]; exact ⟨by simp, by simp⟩
theorem mod_range (a b : Int) (hb : 0 < b) : 0 ≤ a % b ∧ a % b < b := ⟨Int.emod_nonneg a (by omega), Int.emod_lt_of_pos a hb⟩

/-! ### a list of pairs that grows in a struct -/
def outAV (o : List (Int × Int)) : AV := loc 2 0 (o.map prAV)
def outT (o : List (Int × Int)) : List Nat := locT 0 (o.map prAV)
def outAcc (o : List (Int × Int)) : List (Nat × Nat) := if (o.map prAV).length = 0 then [] else [(0, (o.map prAV).length)]
theorem okRef_out (n : Nat) (o : List (Int × Int)) : okRef n (outAV o) = true := okRef_loc _ _ _ _
theorem storable_out (o : List (Int × Int)) : storable (outAV o) = true := storable_loc _ _ _
theorem shaped_out (o : List (Int × Int)) : (outAV o).shaped = true := shaped_loc _ _ _
theorem cells_out (o : List (Int × Int)) : (outAV o).cells = [outAV o] := cells_loc _ _ _
theorem ren1_out (o : List (Int × Int)) : ren1 0 (outT o) [] (outAV o) = (outAV o, outAcc o) := ren1_loc (k := 0) 2 (o.map prAV)
theorem outAcc_snd (o : List (Int × Int)) : (outAcc o).map (fun x => x.2) = outT o := by
  unfold outAcc outT locT; split <;> rfl
theorem fin_out (st : St) (o : List (Int × Int)) : fin st (outAV o) = sl 2 true (o.map prAV) := fin_loc st 2 0 _
theorem pub_out (o : List (Int × Int)) : pub (outAV o) = sl 2 true (o.map prAV) := pub_loc 2 0 _
theorem append_out (o : List (Int × Int)) (x y : Int) (s : List (List AV)) (h : o.length < 1000) : appendAV 2 (outAV o) [.agg [I x, I y]] ⟨s, outT o⟩ = some (outAV (o ++ [(x, y)]), ⟨s, outT (o ++ [(x, y)])⟩) :=
  append_locm (z := 2) (k := 0) prAV o (x, y) s (by omega) (by unfold maxGrow; omega)
theorem out_start : .v (.slice none 0 0) = outAV [] := rfl
theorem outT_nil : outT [] = [] := rfl
attribute [local go_sem] okRef_out storable_out shaped_out cells_out fin_out pub_out

/-- One more pair, if it is one and not there yet. -/
def mkStep (n : Int) (out : List (Int × Int)) (a b : Int) : List (Int × Int) :=
  if min (a % n) (b % n) ≠ max (a % n) (b % n) ∧ (min (a % n) (b % n), max (a % n) (b % n)) ∉ out then out ++ [(min (a % n) (b % n), max (a % n) (b % n))] else out
def madeTo (n : Int) (zs : List Int) : Nat → List (Int × Int)
  | 0 => []
  | k + 1 => mkStep n (madeTo n zs k) (zs.getD (2 + k * 2) 0) (zs.getD (3 + k * 2) 0)
theorem madeTo_len (n : Int) (zs : List Int) : ∀ k, (madeTo n zs k).length ≤ k
  | 0 => by simp [madeTo]
  | k + 1 => by
    have := madeTo_len n zs k
    simp only [madeTo, mkStep]; split
    · simp; omega
    · omega
theorem tmod8 {a n : Int} (h : 0 ≤ a) : a.tmod n = a % n := Int.tmod_eq_emod_of_nonneg h

theorem loop44 (zs : List Int) (hzl : zs.length = 22) (hz : ∀ a ∈ zs, Byte a) (n : Int) (hn : 1 ≤ n ∧ n ≤ 7) (k : Nat) (hk : k ≤ 10) (i : Nat) (hok : i ≤ k) (env : Env) (st : St)
    (hg : gcAV true 3 0 (canon env [4, 5, 23, 24, 25]) st = ([(4, .ptr 1 0), (5, .ptr 2 0), (23, .rsl 0 2 k 10 2 true), (24, I k), (25, I i)], ⟨[zs.map B8, [I 0, sl 2 true []], [I n, outAV (madeTo n zs i)]], outT (madeTo n zs i)⟩)) :
    ∃ x_1 en s, lim (headed pure (run L) true [4, 5, 23, 24, 25] lp44_0 3 0) env st = some (x_1, en, s) ∧ (x_1 = .exit 0 ∧ en.get 4 = .ptr 1 0 ∧ en.get 5 = .ptr 2 0 ∧ s = ⟨[zs.map B8, [I 0, sl 2 true []], [I n, outAV (madeTo n zs k)]], outT (madeTo n zs k)⟩) := by
  refine loop_wp (α := Nat) (fun i => k - i) (fun i => i ≤ k) (fun i => ([(4, .ptr 1 0), (5, .ptr 2 0), (23, .rsl 0 2 k 10 2 true), (24, I k), (25, I i)], ⟨[zs.map B8, [I 0, sl 2 true []], [I n, outAV (madeTo n zs i)]], outT (madeTo n zs i)⟩)) (fun i x_1 en s => x_1 = .exit 0 ∧ en.get 4 = .ptr 1 0 ∧ en.get 5 = .ptr 2 0 ∧ s = ⟨[zs.map B8, [I 0, sl 2 true []], [I n, outAV (madeTo n zs k)]], outT (madeTo n zs k)⟩) (fun i hok => ?_) i hok env st hg
  by_cases h : i < k
  · have hs := succ64 i (by omega)
    have hlt : ((i : Int) < (k : Int)) = True := eq_true (by omega)
    have hi0 : ((0 : Int) ≤ (i : Int)) = True := eq_true (by omega)
    have hml := madeTo_len n zs i
    have hb1 : (2 + i * 2 + 2 ≤ 22) = True := eq_true (by omega)
    have hpair : ((zs.map B8).drop (2 + i * 2)).take 2 = [B8 (zs.getD (2 + i * 2) 0), B8 (zs.getD (3 + i * 2) 0)] := by
      have h1 : 2 + i * 2 < zs.length := by omega
      have h2 : 2 + i * 2 + 1 < zs.length := by omega
      have hd : zs.drop (2 + i * 2) = zs[2 + i * 2] :: zs[2 + i * 2 + 1] :: zs.drop (2 + i * 2 + 1 + 1) := by
        rw [List.drop_eq_getElem_cons h1, List.drop_eq_getElem_cons h2]
      have e1 : zs.getD (2 + i * 2) 0 = zs[2 + i * 2] := by rw [List.getD_eq_getElem?_getD, List.getElem?_eq_getElem h1]; rfl
      have e2 : zs.getD (3 + i * 2) 0 = zs[2 + i * 2 + 1] := by rw [show 3 + i * 2 = 2 + i * 2 + 1 by omega, List.getD_eq_getElem?_getD, List.getElem?_eq_getElem h2]; rfl
      rw [← List.map_drop, hd, e1, e2]
      rfl
    have ba := byte_getD hz (2 + i * 2)
    have bb := byte_getD hz (3 + i * 2)
    have hsucc : madeTo n zs (i + 1) = mkStep n (madeTo n zs i) (zs.getD (2 + i * 2) 0) (zs.getD (3 + i * 2) 0) := rfl
    generalize zs.getD (2 + i * 2) 0 = a at *
    generalize zs.getD (3 + i * 2) 0 = b at *
    unfold Byte at ba bb
    have wa := wrap64 a (by omega) (by omega)
    have wb := wrap64 b (by omega) (by omega)
    have zn : (n = 0) = False := eq_false (by omega)
    have ta : a.tmod n = a % n := tmod8 (by omega)
    have tb : b.tmod n = b % n := tmod8 (by omega)
    have ra := mod_range a n (by omega)
    have rb := mod_range b n (by omega)
    generalize madeTo n zs i = out at *
    have h76 : ∀ st, run L 76 [outAV out, .agg [I (min (a % n) (b % n)), I (max (a % n) (b % n))]] st = some (B (decide ((min (a % n) (b % n), max (a % n) (b % n)) ∈ out)), st) := fun st => by
      rw [← c76 true out (by omega) (min (a % n) (b % n)) (max (a % n) (b % n)) st]
      exact run_args (fn := ir76) rfl rfl st (by simp only [pubs, pub_out, pub_sl])
    have happ := fun s => append_out out (min (a % n) (b % n)) (max (a % n) (b % n)) s (by omega)
    unfold mkStep at hsucc
    generalize hm1 : min (a % n) (b % n) = x at *
    generalize hm2 : max (a % n) (b % n) = y at *
    by_cases p1 : x = y
    · rw [if_neg (by simp [p1])] at hsucc
      simp only [go_sem, reduceIte, Nat.reduceEqDiff, Nat.reduceAdd, Nat.reduceSub, Nat.reduceLeDiff, Nat.reduceLT, reduceCtorEq, Int.reduceLT, Int.reduceLE, Int.reduceEq, Int.reduceBEq, Int.reduceSub, Int.reduceAdd, Int.reduceMul, Int.reduceNeg, Int.reduceToNat, Nat.reduceMul, Nat.reduceBEq, index_rsl_if, setm, make_ints, condK_dec, wantK_dec, not_dec, and_dec, or_dec, seqK_ite, seqK_none, blockK_ite, blockK_none, opsK_ite, opsK_none, stepK_ite, stepK_none, bodyK_ite, bodyK_none, resK_ite, resK_none, leaveK_ite, leaveK_none, only_ite, only_none, bind_ite, gives_some, gives_none, gives_ite, then_normal, then_ret, then_exit, then_none, then_ite, Option.bind_none, Bool.not_eq_true', decide_eq_false_iff_not, Bool.and_eq_true, Bool.or_eq_true, Option.some.injEq, Int.not_lt, Int.not_le, lp44_0, hlt, hi0, hs, hb1, hpair, hzl, wa, wb, zn, ta, tb, hm1, hm2, p1, List.length_map]
      refine ⟨i + 1, by simp only [go_sem, reduceIte, Nat.reduceEqDiff, Nat.reduceAdd, Nat.reduceSub, Nat.reduceLeDiff, Nat.reduceLT, reduceCtorEq, Int.reduceLT, Int.reduceLE, Int.reduceEq, Int.reduceBEq, Int.reduceSub, Int.reduceAdd, Int.reduceMul, Int.reduceNeg, Int.reduceToNat, Nat.reduceMul, Nat.reduceBEq, ren1_locm, loc_tips, locT_eq, hsucc, ren1_out, outAcc_snd, okRefsB, renCellsB] <;> rfl, ?_, ?_, fun x en s hq => ?_⟩
      · omega
      · omega
      · exact hq
    · by_cases p2 : (x, y) ∈ out
      · rw [if_neg (by simp [p2])] at hsucc
        simp only [go_sem, reduceIte, Nat.reduceEqDiff, Nat.reduceAdd, Nat.reduceSub, Nat.reduceLeDiff, Nat.reduceLT, reduceCtorEq, Int.reduceLT, Int.reduceLE, Int.reduceEq, Int.reduceBEq, Int.reduceSub, Int.reduceAdd, Int.reduceMul, Int.reduceNeg, Int.reduceToNat, Nat.reduceMul, Nat.reduceBEq, index_rsl_if, setm, make_ints, condK_dec, wantK_dec, not_dec, and_dec, or_dec, seqK_ite, seqK_none, blockK_ite, blockK_none, opsK_ite, opsK_none, stepK_ite, stepK_none, bodyK_ite, bodyK_none, resK_ite, resK_none, leaveK_ite, leaveK_none, only_ite, only_none, bind_ite, gives_some, gives_none, gives_ite, then_normal, then_ret, then_exit, then_none, then_ite, Option.bind_none, Bool.not_eq_true', decide_eq_false_iff_not, Bool.and_eq_true, Bool.or_eq_true, Option.some.injEq, Int.not_lt, Int.not_le, lp44_0, hlt, hi0, hs, hb1, hpair, hzl, wa, wb, zn, ta, tb, hm1, hm2, p1, h76, p2, List.length_map]
        refine ⟨i + 1, by simp only [go_sem, reduceIte, Nat.reduceEqDiff, Nat.reduceAdd, Nat.reduceSub, Nat.reduceLeDiff, Nat.reduceLT, reduceCtorEq, Int.reduceLT, Int.reduceLE, Int.reduceEq, Int.reduceBEq, Int.reduceSub, Int.reduceAdd, Int.reduceMul, Int.reduceNeg, Int.reduceToNat, Nat.reduceMul, Nat.reduceBEq, ren1_locm, loc_tips, locT_eq, hsucc, ren1_out, outAcc_snd, okRefsB, renCellsB] <;> rfl, ?_, ?_, fun x en s hq => ?_⟩
        · omega
        · omega
        · exact hq
      · rw [if_pos ⟨p1, p2⟩] at hsucc
        simp only [go_sem, reduceIte, Nat.reduceEqDiff, Nat.reduceAdd, Nat.reduceSub, Nat.reduceLeDiff, Nat.reduceLT, reduceCtorEq, Int.reduceLT, Int.reduceLE, Int.reduceEq, Int.reduceBEq, Int.reduceSub, Int.reduceAdd, Int.reduceMul, Int.reduceNeg, Int.reduceToNat, Nat.reduceMul, Nat.reduceBEq, index_rsl_if, setm, make_ints, condK_dec, wantK_dec, not_dec, and_dec, or_dec, seqK_ite, seqK_none, blockK_ite, blockK_none, opsK_ite, opsK_none, stepK_ite, stepK_none, bodyK_ite, bodyK_none, resK_ite, resK_none, leaveK_ite, leaveK_none, only_ite, only_none, bind_ite, gives_some, gives_none, gives_ite, then_normal, then_ret, then_exit, then_none, then_ite, Option.bind_none, Bool.not_eq_true', decide_eq_false_iff_not, Bool.and_eq_true, Bool.or_eq_true, Option.some.injEq, Int.not_lt, Int.not_le, lp44_0, hlt, hi0, hs, hb1, hpair, hzl, wa, wb, zn, ta, tb, hm1, hm2, p1, h76, p2, happ, List.length_map]
        refine ⟨i + 1, by simp only [go_sem, reduceIte, Nat.reduceEqDiff, Nat.reduceAdd, Nat.reduceSub, Nat.reduceLeDiff, Nat.reduceLT, reduceCtorEq, Int.reduceLT, Int.reduceLE, Int.reduceEq, Int.reduceBEq, Int.reduceSub, Int.reduceAdd, Int.reduceMul, Int.reduceNeg, Int.reduceToNat, Nat.reduceMul, Nat.reduceBEq, ren1_locm, loc_tips, locT_eq, hsucc, ren1_out, outAcc_snd, okRefsB, renCellsB] <;> rfl, ?_, ?_, fun x en s hq => ?_⟩
        · omega
        · omega
        · exact hq
  · obtain rfl : i = k := by omega
    simp only [go_sem, reduceIte, Nat.reduceEqDiff, Nat.reduceAdd, Nat.reduceSub, Nat.reduceLeDiff, Nat.reduceLT, reduceCtorEq, Int.reduceLT, Int.reduceLE, Int.reduceEq, Int.reduceBEq, Int.reduceSub, Int.reduceAdd, Int.reduceMul, Int.reduceNeg, Int.reduceToNat, Nat.reduceMul, Nat.reduceBEq, index_rsl_if, setm, make_ints, condK_dec, wantK_dec, not_dec, and_dec, or_dec, seqK_ite, seqK_none, blockK_ite, blockK_none, opsK_ite, opsK_none, stepK_ite, stepK_none, bodyK_ite, bodyK_none, resK_ite, resK_none, leaveK_ite, leaveK_none, only_ite, only_none, bind_ite, gives_some, gives_none, gives_ite, then_normal, then_ret, then_exit, then_none, then_ite, Option.bind_none, Bool.not_eq_true', decide_eq_false_iff_not, Bool.and_eq_true, Bool.or_eq_true, Option.some.injEq, Int.not_lt, Int.not_le, lp44_0, show ((i : Int) < (i : Int)) = False from eq_false (by omega)]

def madeN (least : Int) (zs : List Int) : Int := least + zs.getD 0 0 % (8 - least)
def madeP (least : Int) (zs : List Int) : List (Int × Int) := madeTo (madeN least zs) zs (zs.getD 1 0 % 11).toNat

theorem c44 (zs : List Int) (hzl : zs.length = 22) (hz : ∀ a ∈ zs, Byte a) (least : Int) (hl : least = 1 ∨ least = 2) (st : St) :
    run L 44 [qAV zs, I least] st = some (bkAV true (madeN least zs) (madeP least zs), st) := by
  rw [run_pure (fn := ir44) rfl rfl]
  have b0 := byte_getD hz 0
  have b1 := byte_getD hz 1
  have g0 := getB zs 0 (by omega)
  have g1 := getB zs 1 (by omega)
  unfold madeP
  have hN : madeN least zs = least + zs.getD 0 0 % (8 - least) := rfl
  generalize zs.getD 0 0 = a at *
  generalize zs.getD 1 0 = b at *
  unfold Byte at b0 b1
  have ra := mod_range a (8 - least) (by omega)
  have rb := mod_range b 11 (by omega)
  have wa := wrap64 a (by omega) (by omega)
  have wb := wrap64 b (by omega) (by omega)
  have w8 := wrap64 (8 - least) (by omega) (by omega)
  have z8 : (8 - least = 0) = False := eq_false (by omega)
  have ta : a.tmod (8 - least) = a % (8 - least) := tmod8 (by omega)
  have tb : b.tmod 11 = b % 11 := tmod8 (by omega)
  have wn : IntKind.i64.wrap (least + a % (8 - least)) = madeN least zs := by rw [hN, wrap64] <;> omega
  have hn : 1 ≤ madeN least zs ∧ madeN least zs ≤ 7 := by omega
  obtain ⟨k, hk⟩ := Int.eq_ofNat_of_zero_le rb.1
  rw [hk, Int.toNat_natCast]
  have hk10 : k ≤ 10 := by omega
  have hsl : sliceaAV 10 2 true (.ptr 0 2) none (some (.v (.int .i64 (k : Int)))) none = some (.rsl 0 2 k 10 2 true) := by
    simp only [sliceaAV, natOr, natOf]
    simp; omega
  generalize madeN least zs = n at *
  simp only [ir44, go_sem, reduceIte, Nat.reduceEqDiff, Nat.reduceAdd, Nat.reduceSub, Nat.reduceLeDiff, Nat.reduceLT, reduceCtorEq, Int.reduceLT, Int.reduceLE, Int.reduceEq, Int.reduceBEq, Int.reduceSub, Int.reduceAdd, Int.reduceMul, Int.reduceNeg, Int.reduceToNat, Nat.reduceMul, Nat.reduceBEq, okRefsB, renCellsB, pubsB, storableB, g0, g1, wa, wb, w8, z8, ta, tb, hk, wn, hsl, hzl, List.length_map]
  generalize hg : lim (headed pure (run L) true _ lp44_0 _ _) _ _ = o
  obtain ⟨x, en, s, rfl, h2⟩ : ∃ x en s, o = some (x, en, s) ∧ _ := by rw [← hg]; exact loop44 zs hzl hz n hn k hk10 0 (by omega) _ _ (by simp only [go_sem, reduceIte, Nat.reduceEqDiff, Nat.reduceAdd, Nat.reduceSub, Nat.reduceLeDiff, Nat.reduceLT, reduceCtorEq, Int.reduceLT, Int.reduceLE, Int.reduceEq, Int.reduceBEq, Int.reduceSub, Int.reduceAdd, Int.reduceMul, Int.reduceNeg, Int.reduceToNat, Nat.reduceMul, Nat.reduceBEq, okRefsB, renCellsB, madeTo, out_start, outT_nil, ren1_out, outAcc_snd, Int.natCast_zero] <;> rfl)
  clear hg
  obtain ⟨rfl, h4, h5, rfl⟩ := h2
  simp only [go_sem, reduceIte, Nat.reduceEqDiff, Nat.reduceAdd, Nat.reduceSub, Nat.reduceLeDiff, Nat.reduceLT, reduceCtorEq, Int.reduceLT, Int.reduceLE, Int.reduceEq, Int.reduceBEq, Int.reduceSub, Int.reduceAdd, Int.reduceMul, Int.reduceNeg, Int.reduceToNat, Nat.reduceMul, Nat.reduceBEq, h4, h5]
end Go.Proofs.YtpmbfgogpcjdlaaDoor.Vm

namespace Go.Proofs.YtpmbfgogpcjdlaaDoor.Vm
open Go Go.Ev Go.ChangeShapes Go.WideShapes Go.ChangeAt Go.RowKit
set_option maxRecDepth 100000
attribute [local go_sem] cells_any storable_any ren1_any shaped_ptr cells_ptr storable_ptr ren1_ptr shaped_eptr cells_eptr storable_eptr ren1_eptr shaped_rsl cells_rsl storable_rsl ren1_rsl shaped_int cells_int storable_int ren1_int shaped_bool cells_bool storable_bool ren1_bool shaped_nils cells_nils storable_nils ren1_nils shaped_lst cells_lst storable_lst shaped_fn cells_fn storable_fn ren1_fn shaped_ifc cells_ifc storable_ifc ren1_ifc shaped_agg cells_agg storable_agg ren1_agg shaped_tup cells_tup storable_tup ren1_tup shaped_nif cells_nif storable_nif ren1_nif ren1_lany ren1_lfull ren1_lown len_lst len_rsl len_nil load_ptr load_eptr isRsl_lst isRsl_nil isRsl_rsl elems_nil elems_lst elems_sl isRsl_sl body_eq bodyK_normal bodyK_ret resK_some leaveK_some only_some code_skip code_exit code_ret code_ops code_seq code_cond code_block seqK_normal seqK_ret seqK_exit condK_true condK_false blockK_normal blockK_ret blockK_exit opsK_some ops_nil ops_cons wantK_true wantK_false stepK_some pubs pub pub_sl params okRef_loc storable_loc shaped_loc cells_loc isRsl_loc elems_loc len_loc untips untip untip_sl wantedAV setElems withO isAgg_v isAgg_agg isAgg_lst isAgg_ptr isAgg_fn isAgg_ifc isAgg_rsl isAgg_sl isAgg_loc List.replicate_succ List.replicate_zero opAV valAV aval avals ofVal Env.get setD canon gcAV renAll renEnv renStore renCells ren1_sl cutSt okEnv okStore okRefs okRef okRef_sl bin_int bin_bool bin_lst bin_rsl bin_nil bin_agg cellsEq cellEq isShift intOp boolOp min_int max_int beq_int bne resAV tupAV leave_eq fin_sl fin_loc fins fin_v fin_lst fin_agg fin_tup fin_fn storeAV readCells putCells cells_sl shaped_sl storable_sl fieldAddrAV len_sl goI List.getElem?_cons_zero List.getElem?_cons_succ List.getElem?_nil Option.bind_some Option.map_some List.length_cons List.length_nil List.all_cons List.all_nil Bool.and_true Bool.true_and Bool.and_false Bool.false_and and_true true_and and_false false_and Bool.false_eq_true List.set_cons_zero List.set_cons_succ List.append_nil List.nil_append List.cons_append List.take_zero List.take_succ_cons List.take_nil List.drop_zero List.drop_succ_cons List.map_cons List.map_nil decide_true decide_false beq_self_eq_true Bool.not_true Bool.not_false or_true true_or or_false false_or Nat.zero_add Nat.add_zero Nat.le_refl Nat.lt_irrefl decide_eq_true_eq eq_self_iff_true not_true_eq_false not_false_eq_true List.getD_cons_zero code_loop Nat.zero_le Nat.not_lt_zero Bool.true_beq Bool.false_beq beq_true beq_false ge_iff_le gt_iff_lt Lpure pus Option.map_none assert_ifc assert_nil idxA_ptr idxA_eptr idxV_agg Int.cast_ofNat_Int Nat.mul_one Nat.zero_mul Int.toNat_natCast Int.toNat_zero setParts withO2 hasKey eqnil_sl nenil_sl eqnil_loc nenil_loc map_nil_iff okRefs_ints renCells_ints

theorem cells5 : Tryd.prog.cellsOf 5 = 1 := by kernel_rfl
theorem cells57 : Tryd.prog.cellsOf 57 = 2 := by kernel_rfl
theorem cells58 : Tryd.prog.cellsOf 58 = 20 := by kernel_rfl
theorem cells60 : Tryd.prog.cellsOf 60 = 22 := by kernel_rfl
theorem cells68 : Tryd.prog.cellsOf 68 = 7 := by kernel_rfl
theorem cells69 : Tryd.prog.cellsOf 69 = 10 := by kernel_rfl
theorem one_byte {d : Nat} {bs : List AV} (h : Sh Tryd.prog (d + 1) 5 bs) : ∃ zs : List Int, bs = zs.map B8 ∧ zs.length = 1 ∧ ∀ n ∈ zs, Byte n := by
  simp only [Sh, Tryd.underlying5] at h
  obtain ⟨n, h1, h2⟩ := h
  exact ⟨[n], h1, rfl, by simp; exact bounds_u8 h2⟩
/-- Parts of bytes. -/
theorem all_parts (z : Nat) : ∀ (k : Nat) (bs : List AV), bs.length = k * z → (∀ i, i < k → ∃ zs : List Int, (bs.drop (i * z)).take z = zs.map B8 ∧ zs.length = z ∧ ∀ n ∈ zs, Byte n) → ∃ zs : List Int, bs = zs.map B8 ∧ zs.length = k * z ∧ ∀ n ∈ zs, Byte n
  | 0, bs, hl, _ => ⟨[], by have : bs.length = 0 := by simpa using hl
                            simpa using this, by simp, by simp⟩
  | k + 1, bs, hl, h => by
    rw [Nat.succ_mul] at hl
    obtain ⟨zs, h1, h2, h3⟩ := h 0 (by omega)
    rw [Nat.zero_mul, List.drop_zero] at h1
    obtain ⟨ys, g1, g2, g3⟩ := all_parts z k (bs.drop z) (by simp; omega) fun i hi => by
      obtain ⟨xs, q1, q2, q3⟩ := h (i + 1) (by omega)
      refine ⟨xs, ?_, q2, q3⟩
      rw [List.drop_drop, ← q1, Nat.succ_mul, Nat.add_comm (i * z) z]
    refine ⟨zs ++ ys, ?_, by rw [List.length_append, h2, g2, Nat.succ_mul]; omega, ?_⟩
    · rw [List.map_append, ← h1, ← g1, List.take_append_drop]
    · intro n hn
      rcases List.mem_append.1 hn with hn | hn
      · exact h3 n hn
      · exact g3 n hn
theorem sh_b57 {d : Nat} {bs : List AV} (h : Sh Tryd.prog (d + 2) 57 bs) : ∃ zs : List Int, bs = zs.map B8 ∧ zs.length = 2 ∧ ∀ n ∈ zs, Byte n := by
  unfold Sh at h
  simp only [Tryd.underlying57, cells57, cells5] at h
  exact all_parts 1 2 bs (by omega) (fun i hi => one_byte (h.2 i hi))
theorem sh_b58 {d : Nat} {bs : List AV} (h : Sh Tryd.prog (d + 3) 58 bs) : ∃ zs : List Int, bs = zs.map B8 ∧ zs.length = 20 ∧ ∀ n ∈ zs, Byte n := by
  unfold Sh at h
  simp only [Tryd.underlying58, cells58, cells57] at h
  exact all_parts 2 10 bs (by omega) (fun i hi => sh_b57 (h.2 i hi))
/-- A book by numbers. -/
theorem sh_quarrel {a : AV} (h : ShV Tryd.prog 8 60 a) : ∃ zs : List Int, a = qAV zs ∧ zs.length = 22 ∧ ∀ n ∈ zs, Byte n := by
  unfold ShV at h
  rw [if_pos (by unfold aggB; rw [Tryd.underlying60])] at h
  obtain ⟨cs, rfl, hs⟩ := h
  unfold Sh at hs
  simp only [Tryd.underlying60, cells60] at hs
  obtain ⟨h1, h2⟩ := hs
  have f0 := h2 0 _ rfl
  have f1 := h2 1 _ rfl
  have f2 := h2 2 _ rfl
  simp only [List.getElem_toArray, List.getElem_cons_zero, List.getElem_cons_succ, cells5, cells58] at f0 f1 f2
  obtain ⟨ar, e0, l0, b0⟩ := one_byte f0
  obtain ⟨bs, e1, l1, b1⟩ := one_byte f1
  obtain ⟨es, e2, l2, b2⟩ := sh_b58 f2
  refine ⟨ar ++ (bs ++ es), ?_, by simp [l0, l1, l2], ?_⟩
  · have s5 : (cs.drop 2).take 20 = cs.drop 2 := List.take_of_length_le (by simp [h1])
    have s2 : (cs.drop 1).take 1 ++ cs.drop 2 = cs.drop 1 := by
      have := List.take_append_drop 1 (cs.drop 1)
      rw [List.drop_drop] at this
      exact this
    have s1 : (cs.drop 0).take 1 ++ cs.drop 1 = cs := by
      have := List.take_append_drop 1 cs
      simpa using this
    show AV.agg cs = AV.agg _
    rw [List.map_append, List.map_append, ← e0, ← e1, ← e2, s5, s2, s1]
  · intro n hn
    rcases List.mem_append.1 hn with hn | hn
    · exact b0 n hn
    · rcases List.mem_append.1 hn with hn | hn
      · exact b1 n hn
      · exact b2 n hn
theorem sh_byte {a : AV} (h : ShV Tryd.prog 8 5 a) : ∃ n, a = B8 n ∧ Byte n := by
  unfold ShV at h
  rw [if_neg (by unfold aggB; rw [Tryd.underlying5]; simp)] at h
  simp only [Sh, Tryd.underlying5, List.cons.injEq, and_true] at h
  obtain ⟨n, h1, h2⟩ := h
  exact ⟨n, h1, bounds_u8 h2⟩
theorem sh_b7 {a : AV} (h : ShV Tryd.prog 8 68 a) : ∃ zs : List Int, a = .agg (zs.map B8) ∧ zs.length = 7 ∧ ∀ n ∈ zs, Byte n := by
  unfold ShV at h
  rw [if_pos (by unfold aggB; rw [Tryd.underlying68])] at h
  obtain ⟨cs, rfl, hs⟩ := h
  unfold Sh at hs
  simp only [Tryd.underlying68, cells68, cells5] at hs
  obtain ⟨zs, h1, h2, h3⟩ := all_parts 1 7 cs (by omega) (fun i hi => one_byte (hs.2 i hi))
  exact ⟨zs, by rw [h1], h2, h3⟩
theorem sh_b10 {a : AV} (h : ShV Tryd.prog 8 69 a) : ∃ zs : List Int, a = .agg (zs.map B8) ∧ zs.length = 10 ∧ ∀ n ∈ zs, Byte n := by
  unfold ShV at h
  rw [if_pos (by unfold aggB; rw [Tryd.underlying69])] at h
  obtain ⟨cs, rfl, hs⟩ := h
  unfold Sh at hs
  simp only [Tryd.underlying69, cells69, cells5] at hs
  obtain ⟨zs, h1, h2, h3⟩ := all_parts 1 10 cs (by omega) (fun i hi => one_byte (hs.2 i hi))
  exact ⟨zs, by rw [h1], h2, h3⟩
end Go.Proofs.YtpmbfgogpcjdlaaDoor.Vm

namespace Go.Proofs.YtpmbfgogpcjdlaaDoor.Vm
open Go Go.Ev
set_option maxRecDepth 100000
attribute [local go_sem] cells_any storable_any ren1_any shaped_ptr cells_ptr storable_ptr ren1_ptr shaped_eptr cells_eptr storable_eptr ren1_eptr shaped_rsl cells_rsl storable_rsl ren1_rsl shaped_int cells_int storable_int ren1_int shaped_bool cells_bool storable_bool ren1_bool shaped_nils cells_nils storable_nils ren1_nils shaped_lst cells_lst storable_lst shaped_fn cells_fn storable_fn ren1_fn shaped_ifc cells_ifc storable_ifc ren1_ifc shaped_agg cells_agg storable_agg ren1_agg shaped_tup cells_tup storable_tup ren1_tup shaped_nif cells_nif storable_nif ren1_nif ren1_lany ren1_lfull ren1_lown len_lst len_rsl len_nil load_ptr load_eptr isRsl_lst isRsl_nil isRsl_rsl elems_nil elems_lst elems_sl isRsl_sl body_eq bodyK_normal bodyK_ret resK_some leaveK_some only_some code_skip code_exit code_ret code_ops code_seq code_cond code_block seqK_normal seqK_ret seqK_exit condK_true condK_false blockK_normal blockK_ret blockK_exit opsK_some ops_nil ops_cons wantK_true wantK_false stepK_some pubs pub pub_sl params okRef_loc storable_loc shaped_loc cells_loc isRsl_loc elems_loc len_loc untips untip untip_sl wantedAV setElems withO isAgg_v isAgg_agg isAgg_lst isAgg_ptr isAgg_fn isAgg_ifc isAgg_rsl isAgg_sl isAgg_loc List.replicate_succ List.replicate_zero opAV valAV aval avals ofVal Env.get setD canon gcAV renAll renEnv renStore renCells ren1_sl cutSt okEnv okStore okRefs okRef okRef_sl bin_int bin_bool bin_lst bin_rsl bin_nil bin_agg cellsEq cellEq isShift intOp boolOp min_int max_int beq_int bne resAV tupAV leave_eq fin_sl fin_loc fins fin_v fin_lst fin_agg fin_tup fin_fn storeAV readCells putCells cells_sl shaped_sl storable_sl fieldAddrAV len_sl goI List.getElem?_cons_zero List.getElem?_cons_succ List.getElem?_nil Option.bind_some Option.map_some List.length_cons List.length_nil List.all_cons List.all_nil Bool.and_true Bool.true_and Bool.and_false Bool.false_and and_true true_and and_false false_and Bool.false_eq_true List.set_cons_zero List.set_cons_succ List.append_nil List.nil_append List.cons_append List.take_zero List.take_succ_cons List.take_nil List.drop_zero List.drop_succ_cons List.map_cons List.map_nil decide_true decide_false beq_self_eq_true Bool.not_true Bool.not_false or_true true_or or_false false_or Nat.zero_add Nat.add_zero Nat.le_refl Nat.lt_irrefl decide_eq_true_eq eq_self_iff_true not_true_eq_false not_false_eq_true List.getD_cons_zero code_loop Nat.zero_le Nat.not_lt_zero Bool.true_beq Bool.false_beq beq_true beq_false ge_iff_le gt_iff_lt Lpure pus Option.map_none assert_ifc assert_nil idxA_ptr idxA_eptr idxV_agg Int.cast_ofNat_Int Nat.mul_one Nat.zero_mul Int.toNat_natCast Int.toNat_zero setParts withO2 hasKey eqnil_sl nenil_sl eqnil_loc nenil_loc map_nil_iff okRefs_ints renCells_ints

/-! ### a book by numbers is a good one -/
theorem prsErr_ok {n : Int} : ∀ (ps seen : List (Int × Int)), (∀ p ∈ ps, 0 ≤ p.1 ∧ p.1 < p.2 ∧ p.2 < n) → (seen ++ ps).Nodup → prsErr n seen ps = 0
  | [], _, _, _ => rfl
  | p :: r, seen, h, hn => by
    have hp := h p (by simp)
    have h1 : p ∉ seen := by
      intro hs
      rw [List.nodup_append] at hn
      exact hn.2.2 p hs p (by simp) rfl
    have e : prErr n seen p = 0 := by
      unfold prErr
      rw [if_neg (by omega), if_neg (by omega), if_neg h1]
    simp only [prsErr, e, if_true]
    exact prsErr_ok r _ (fun q hq => h q (by simp [hq])) (by simpa using hn)
theorem mk_ok {n : Int} (hn : 0 < n) {out : List (Int × Int)} (h : (∀ p ∈ out, 0 ≤ p.1 ∧ p.1 < p.2 ∧ p.2 < n) ∧ out.Nodup) (a b : Int) :
    (∀ p ∈ mkStep n out a b, 0 ≤ p.1 ∧ p.1 < p.2 ∧ p.2 < n) ∧ (mkStep n out a b).Nodup := by
  have ra := mod_range a n hn
  have rb := mod_range b n hn
  unfold mkStep
  split
  · next hc =>
    refine ⟨fun p hp => ?_, ?_⟩
    · rcases List.mem_append.1 hp with hp | hp
      · exact h.1 p hp
      · rw [List.mem_singleton] at hp; subst hp; simp only; omega
    · rw [List.nodup_append]
      refine ⟨h.2, by simp, fun x hx y hy => ?_⟩
      rw [List.mem_singleton] at hy; subst hy
      intro e; subst e; exact hc.2 hx
  · exact h
theorem madeTo_ok {n : Int} (hn : 0 < n) (zs : List Int) : ∀ k, (∀ p ∈ madeTo n zs k, 0 ≤ p.1 ∧ p.1 < p.2 ∧ p.2 < n) ∧ (madeTo n zs k).Nodup
  | 0 => by simp [madeTo]
  | k + 1 => mk_ok hn (madeTo_ok hn zs k) _ _
/-- What is known of a book by numbers. -/
theorem made_ok {least : Int} (hl : least = 1 ∨ least = 2) (zs : List Int) :
    ∃ n : Nat, madeN least zs = n ∧ 1 ≤ n ∧ least ≤ n ∧ n ≤ 7 ∧ (madeP least zs).length ≤ 10 ∧ (∀ p ∈ madeP least zs, 0 ≤ p.1 ∧ p.1 < p.2 ∧ p.2 < (n : Int)) ∧ (∀ p ∈ madeP least zs, okP p) ∧ (madeP least zs).Nodup ∧ chk (n : Int) (madeP least zs) = 0 := by
  have r0 := mod_range (zs.getD 0 0) (8 - least) (by omega)
  have r1 := mod_range (zs.getD 1 0) 11 (by omega)
  have hN : madeN least zs = least + zs.getD 0 0 % (8 - least) := rfl
  obtain ⟨n, hn⟩ := Int.eq_ofNat_of_zero_le (show 0 ≤ madeN least zs by omega)
  have h1 := madeTo_ok (n := madeN least zs) (by omega) zs (zs.getD 1 0 % 11).toNat
  have h2 := madeTo_len (madeN least zs) zs (zs.getD 1 0 % 11).toNat
  have e : madeP least zs = madeTo (madeN least zs) zs (zs.getD 1 0 % 11).toNat := rfl
  rw [← e] at h1 h2
  rw [hn] at h1
  refine ⟨n, hn, by omega, by omega, by omega, by omega, h1.1, fun p hp => ?_, h1.2, ?_⟩
  · have := h1.1 p hp; unfold okP; omega
  · unfold chk
    rw [if_neg (by omega), if_neg (by omega)]
    exact prsErr_ok _ [] h1.1 (by simpa using h1.2)

/-! ### a set and its list -/


/-! ### sets as ints -/
theorem and_i (n : Nat) : binAV .and none (.v (.int .i64 (n : Int))) (.v (.int .i64 1)) = some (.v (.int .i64 ((n % 2 : Nat) : Int))) := by
  have h : (BitVec.ofInt 64 (n : Int) &&& BitVec.ofInt 64 1).toNat = n % 2 := by
    rw [BitVec.toNat_and]
    have : (BitVec.ofInt 64 1).toNat = 1 := by decide
    rw [this, Nat.and_one_is_mod, BitVec.ofInt_natCast, BitVec.toNat_ofNat]
    omega
  show some (AV.v (.int .i64 (IntKind.i64.wrap ((BitVec.ofInt 64 (n : Int) &&& BitVec.ofInt 64 1).toNat : Int)))) = _
  rw [h, wrap64] <;> omega
theorem shr_i (m p : Nat) : binAV .shr none (.v (.int .i64 (m : Int))) (.v (.int .i64 (p : Int))) = some (.v (.int .i64 ((m >>> min p 64 : Nat) : Int))) := by
  have e := shrU m (min p 64)
  show (if (p : Int) < 0 then none else some (AV.v (.int .i64 (Int.fdiv (m : Int) (2 ^ min (Int.toNat (p : Int)) 64))))) = _
  rw [if_neg (by omega), Int.toNat_natCast]
  have e2 : ((2 : Int) ^ (min p 64)) = ((2 ^ (min p 64) : Nat) : Int) := by simp
  rw [e2, Int.fdiv_eq_ediv_of_nonneg _ (Int.natCast_nonneg _), Nat.shiftRight_eq_div_pow]
  simp
def shI (p : Nat) : Int := IntKind.i64.wrap (1 * 2 ^ (min p 64))
theorem shl_i (p : Nat) : binAV .shl none (.v (.int .i64 1)) (.v (.int .i64 (p : Int))) = some (.v (.int .i64 (shI p))) := by
  show (if (p : Int) < 0 then none else some (AV.v (.int .i64 (IntKind.i64.wrap (1 * (2 ^ (min (Int.toNat (p : Int)) 64))))))) = _
  rw [if_neg (by omega), Int.toNat_natCast]; rfl
attribute [local go_sem high] and_i shr_i shl_i


/-! ### the greatest number -/
def maxF (m : Int) : List Int → Int
  | [] => m
  | x :: r => maxF (max m x) r
theorem maxF_gt (t : Int) : ∀ (l : List Int) (m : Int), t < maxF m l ↔ t < m ∨ ∃ x ∈ l, t < x
  | [], m => by simp [maxF]
  | x :: r, m => by
    simp only [maxF]
    rw [maxF_gt t r]
    simp only [List.mem_cons, exists_eq_or_imp]
    have : t < max m x ↔ t < m ∨ t < x := by omega
    rw [this, or_assoc]

theorem loop48 (a : AV) (S0 : List (List AV)) (T0 : List Nat) (xs : List Int) (hxl : xs.length < 1000000) (hlen : lenAV a = some (I xs.length)) (hidx : ∀ (i : Nat) (h : i < xs.length), ∃ p, indexSAV 1 a (.v (.int .i64 (i : Int))) = some p ∧ loadAV 1 false ⟨S0, T0⟩ p = some (I xs[i])) (lo hi : Nat) (i : Nat) (m : Int) (hok : i ≤ xs.length) (env : Env) (st : St)
    (hg : gcAV false lo hi (canon env [0, 3, 4]) st = ([(0, a), (3, I m), (4, I i)], ⟨S0, T0⟩)) :
    ∃ x_1 en s, lim (headed pure (run L) false [0, 3, 4] lp48_0 lo hi) env st = some (x_1, en, s) ∧ (x_1 = .exit 0 ∧ en.get 3 = I (maxF m (xs.drop i)) ∧ s = ⟨S0, T0⟩) := by
  refine loop_wp (α := Nat × Int) (fun ⟨i, m⟩ => xs.length - i) (fun ⟨i, m⟩ => i ≤ xs.length) (fun ⟨i, m⟩ => ([(0, a), (3, I m), (4, I i)], ⟨S0, T0⟩)) (fun ⟨i, m⟩ x_1 en s => x_1 = .exit 0 ∧ en.get 3 = I (maxF m (xs.drop i)) ∧ s = ⟨S0, T0⟩) (fun ⟨i, m⟩ hok => ?_) ⟨i, m⟩ hok env st hg
  simp only at hok
  dsimp only
  by_cases h : i < xs.length
  · obtain ⟨p, h1, h2⟩ := hidx i h
    have hs := succ64 i (by omega)
    have hd : xs.drop i = xs[i] :: xs.drop (i + 1) := List.drop_eq_getElem_cons h
    have hlt : ((i : Int) < (xs.length : Int)) = True := eq_true (by omega)
    rw [hd]
    generalize xs[i] = x at *
    simp only [go_sem, reduceIte, Nat.reduceEqDiff, Nat.reduceAdd, Nat.reduceSub, Nat.reduceLeDiff, Nat.reduceLT, reduceCtorEq, Int.reduceLT, Int.reduceLE, Int.reduceEq, Int.reduceBEq, Int.reduceSub, Int.reduceAdd, Int.reduceMul, Int.reduceNeg, Int.reduceToNat, Nat.reduceMul, Nat.reduceBEq, index_rsl_if, setm, make_ints, condK_dec, wantK_dec, not_dec, and_dec, or_dec, seqK_ite, seqK_none, blockK_ite, blockK_none, opsK_ite, opsK_none, stepK_ite, stepK_none, bodyK_ite, bodyK_none, resK_ite, resK_none, leaveK_ite, leaveK_none, only_ite, only_none, bind_ite, gives_some, gives_none, gives_ite, then_normal, then_ret, then_exit, then_none, then_ite, Option.bind_none, Bool.not_eq_true', decide_eq_false_iff_not, Bool.and_eq_true, Bool.or_eq_true, Option.some.injEq, Int.not_lt, Int.not_le, lp48_0, hlen, hlt, h1, h2, hs]
    refine ⟨(i + 1, max m x), by simp only [go_sem, reduceIte, Nat.reduceEqDiff, Nat.reduceAdd, Nat.reduceSub, Nat.reduceLeDiff, Nat.reduceLT, reduceCtorEq, Int.reduceLT, Int.reduceLE, Int.reduceEq, Int.reduceBEq, Int.reduceSub, Int.reduceAdd, Int.reduceMul, Int.reduceNeg, Int.reduceToNat, Nat.reduceMul, Nat.reduceBEq, ren1_locm, loc_tips, locT_eq] <;> rfl, ?_, ?_, fun x en s hq => ?_⟩
    · omega
    · simp only; omega
    · exact hq
  · have hd : xs.drop i = [] := List.drop_eq_nil_of_le (by omega)
    have hlt : ((i : Int) < (xs.length : Int)) = False := eq_false (by omega)
    simp only [go_sem, reduceIte, Nat.reduceEqDiff, Nat.reduceAdd, Nat.reduceSub, Nat.reduceLeDiff, Nat.reduceLT, reduceCtorEq, Int.reduceLT, Int.reduceLE, Int.reduceEq, Int.reduceBEq, Int.reduceSub, Int.reduceAdd, Int.reduceMul, Int.reduceNeg, Int.reduceToNat, Nat.reduceMul, Nat.reduceBEq, index_rsl_if, setm, make_ints, condK_dec, wantK_dec, not_dec, and_dec, or_dec, seqK_ite, seqK_none, blockK_ite, blockK_none, opsK_ite, opsK_none, stepK_ite, stepK_none, bodyK_ite, bodyK_none, resK_ite, resK_none, leaveK_ite, leaveK_none, only_ite, only_none, bind_ite, gives_some, gives_none, gives_ite, then_normal, then_ret, then_exit, then_none, then_ite, Option.bind_none, Bool.not_eq_true', decide_eq_false_iff_not, Bool.and_eq_true, Bool.or_eq_true, Option.some.injEq, Int.not_lt, Int.not_le, lp48_0, hlen, hlt]
    rw [hd]; rfl

theorem c48 (a : AV) (st : St) (xs : List Int) (hxl : xs.length < 1000000) (h1 : 1 ≤ xs.length) (hlen : lenAV a = some (I xs.length)) (hidx : ∀ (i : Nat) (h : i < xs.length), ∃ p, indexSAV 1 a (.v (.int .i64 (i : Int))) = some p ∧ loadAV 1 false st p = some (I xs[i])) :
    ∃ k : Int, run L 48 [a] st = some (I k, st) ∧ ∀ t, t < k ↔ ∃ x ∈ xs, t < x := by
  obtain ⟨S0, T0⟩ := st
  rw [run_shared (fn := ir48) rfl rfl]
  have q : ((xs.length : Int) < 1) = False := eq_false (by omega)
  obtain ⟨p, g1, g2⟩ := hidx 0 (by omega)
  rw [Int.natCast_zero] at g1
  simp only [ir48, go_sem, reduceIte, Nat.reduceEqDiff, Nat.reduceAdd, Nat.reduceSub, Nat.reduceLeDiff, Nat.reduceLT, reduceCtorEq, Int.reduceLT, Int.reduceLE, Int.reduceEq, Int.reduceBEq, Int.reduceSub, Int.reduceAdd, Int.reduceMul, Int.reduceNeg, Int.reduceToNat, Nat.reduceMul, Nat.reduceBEq, hlen, q, g1, g2]
  generalize hg : lim (headed pure (run L) false _ lp48_0 _ _) _ _ = o
  obtain ⟨x, en, s, rfl, h2⟩ : ∃ x en s, o = some (x, en, s) ∧ _ := by rw [← hg]; exact loop48 a S0 T0 xs hxl hlen hidx S0.length T0.length 1 xs[0] (by omega) _ _ (by simp only [go_sem, reduceIte, Nat.reduceEqDiff, Nat.reduceAdd, Nat.reduceSub, Nat.reduceLeDiff, Nat.reduceLT, reduceCtorEq, Int.reduceLT, Int.reduceLE, Int.reduceEq, Int.reduceBEq, Int.reduceSub, Int.reduceAdd, Int.reduceMul, Int.reduceNeg, Int.reduceToNat, Nat.reduceMul, Nat.reduceBEq, Int.natCast_one] <;> rfl)
  clear hg
  obtain ⟨rfl, h3, rfl⟩ := h2
  refine ⟨maxF xs[0] (xs.drop 1), by simp only [go_sem, reduceIte, Nat.reduceEqDiff, Nat.reduceAdd, Nat.reduceSub, Nat.reduceLeDiff, Nat.reduceLT, reduceCtorEq, Int.reduceLT, Int.reduceLE, Int.reduceEq, Int.reduceBEq, Int.reduceSub, Int.reduceAdd, Int.reduceMul, Int.reduceNeg, Int.reduceToNat, Nat.reduceMul, Nat.reduceBEq, h3], fun t => ?_⟩
  rw [maxF_gt]
  have e : xs = xs[0] :: xs.drop 1 := by
    have := List.drop_eq_getElem_cons (show 0 < xs.length by omega)
    simpa using this
  constructor
  · rintro (h | ⟨x, hx, h⟩)
    · exact ⟨xs[0], List.getElem_mem _, h⟩
    · exact ⟨x, List.mem_of_mem_drop hx, h⟩
  · rintro ⟨x, hx, h⟩
    rw [e] at hx
    rcases List.mem_cons.1 hx with rfl | hx
    · exact .inl h
    · exact .inr ⟨x, hx, h⟩

/-! ### what the pairs of each article have -/
def addAt (o : List Int) (i : Nat) (x : Int) : List Int := o.set i (o.getD i 0 + x)
def has1 (o : List Int) (e : (Int × Int) × Int) : List Int := addAt (addAt o e.1.1.toNat e.2) e.1.2.toNat e.2
theorem addAt_len (o : List Int) (i : Nat) (x : Int) : (addAt o i x).length = o.length := by simp [addAt]
theorem addAt_getD (o : List Int) (i : Nat) (x : Int) (j : Nat) (hi : i < o.length) : (addAt o i x).getD j 0 = if j = i then o.getD j 0 + x else o.getD j 0 := by
  unfold addAt
  simp only [List.getD_eq_getElem?_getD, List.getElem?_set]
  by_cases h : i = j
  · subst h; simp [hi]
  · simp [h, Ne.symm h]
theorem addAt_bd {o : List Int} {B : Int} (h : ∀ x ∈ o, 0 ≤ x ∧ x ≤ B) (i : Nat) {x : Int} (hx : 0 ≤ x ∧ x ≤ 2) : ∀ y ∈ addAt o i x, 0 ≤ y ∧ y ≤ B + 2 := by
  intro y hy
  unfold addAt at hy
  rcases List.mem_or_eq_of_mem_set hy with hy | rfl
  · have := h y hy; omega
  · have hg : 0 ≤ o.getD i 0 ∧ (o.getD i 0 ≤ B ∨ o.getD i 0 = 0) := by
      rw [List.getD_eq_getElem?_getD]
      cases h2 : o[i]?
      · simp
      · have := h _ (List.mem_of_getElem? h2); simp; omega
    by_cases hi : i < o.length
    · have h3 := h o[i] (List.getElem_mem hi)
      rw [List.getD_eq_getElem?_getD, List.getElem?_eq_getElem hi] at hg ⊢
      simp at hg ⊢; omega
    · rw [List.set_eq_of_length_le (by omega)] at hy
      have := h _ hy; omega
theorem getI (o : List Int) (a : Nat) (h : a < o.length) : (o.map I)[a]? = some (I (o.getD a 0)) := by
  rw [getm I o 0 a, if_pos h]
theorem getD_bd {o : List Int} {B : Int} (hB : 0 ≤ B) (h : ∀ x ∈ o, 0 ≤ x ∧ x ≤ B) (a : Nat) : 0 ≤ o.getD a 0 ∧ o.getD a 0 ≤ B := by
  rw [List.getD_eq_getElem?_getD]
  cases h2 : o[a]?
  · simp; omega
  · exact h _ (List.mem_of_getElem? h2)
def hasL (ps : List (Int × Int)) (s : List Int) : List Int := (ps.zip s).foldl has1 (List.replicate 7 0)

set_option maxHeartbeats 1000000 in
theorem loop92 (nl n2 : Bool) (n : Int) (ps : List (Int × Int)) (hlen : ps.length ≤ 10) (h7 : ∀ p ∈ ps, okP p) (s0 : List Int) (hsl : s0.length = ps.length) (hb : ∀ x ∈ s0, 0 ≤ x ∧ x ≤ 2) (tot : Int) (i : Nat) (o : List Int) (hok : i ≤ ps.length ∧ o.length = 7 ∧ ∀ x ∈ o, 0 ≤ x ∧ x ≤ 4 * i) (env : Env) (st : St)
    (hg : gcAV true 2 0 (canon env [1, 7, 9, 29, 30, 31]) st = ([(1, sl 1 n2 (s0.map I)), (7, I tot), (9, .ptr 1 0), (29, sl 2 nl (ps.map prAV)), (30, I ps.length), (31, I i)], ⟨[bkCells nl n ps, o.map I], []⟩)) :
    ∃ x_1 en s, lim (headed pure (run L) true [1, 7, 9, 29, 30, 31] lp92_0 2 0) env st = some (x_1, en, s) ∧ (x_1 = .exit 0 ∧ en.get 7 = I tot ∧ en.get 9 = .ptr 1 0 ∧ s = ⟨[bkCells nl n ps, (((ps.zip s0).drop i).foldl has1 o).map I], []⟩ ∧ (((ps.zip s0).drop i).foldl has1 o).length = 7) := by
  refine loop_wp (α := Nat × List Int) (fun ⟨i, o⟩ => ps.length - i) (fun ⟨i, o⟩ => i ≤ ps.length ∧ o.length = 7 ∧ ∀ x ∈ o, 0 ≤ x ∧ x ≤ 4 * i) (fun ⟨i, o⟩ => ([(1, sl 1 n2 (s0.map I)), (7, I tot), (9, .ptr 1 0), (29, sl 2 nl (ps.map prAV)), (30, I ps.length), (31, I i)], ⟨[bkCells nl n ps, o.map I], []⟩)) (fun ⟨i, o⟩ x_1 en s => x_1 = .exit 0 ∧ en.get 7 = I tot ∧ en.get 9 = .ptr 1 0 ∧ s = ⟨[bkCells nl n ps, (((ps.zip s0).drop i).foldl has1 o).map I], []⟩ ∧ (((ps.zip s0).drop i).foldl has1 o).length = 7) (fun ⟨i, o⟩ hok => ?_) ⟨i, o⟩ hok env st hg
  simp only at hok
  obtain ⟨h1, h2, h3⟩ := hok
  dsimp only
  by_cases h : i < ps.length
  · have hx := index_prs nl ps i h
    have hy := index_ints n2 s0 i (by omega)
    have hs := succ64 i (by omega)
    have hzl : i < (ps.zip s0).length := by rw [List.length_zip]; omega
    have hd : (ps.zip s0).drop i = (ps.zip s0)[i] :: (ps.zip s0).drop (i + 1) := List.drop_eq_getElem_cons hzl
    have hze : (ps.zip s0)[i] = (ps[i], s0[i]) := by simp
    have hp := h7 ps[i] (List.getElem_mem h)
    have hbx := hb s0[i] (List.getElem_mem (by omega))
    rw [hd, hze, List.foldl_cons]
    generalize ps[i] = c at *
    generalize s0[i] = x at *
    obtain ⟨u, v⟩ := c
    obtain ⟨a1, a2, a3, a4⟩ := hp
    simp only at a1 a2 a3 a4 hx
    obtain ⟨u, rfl⟩ := Int.eq_ofNat_of_zero_le a1
    obtain ⟨v, rfl⟩ := Int.eq_ofNat_of_zero_le a3
    have hlt : ((i : Int) < (ps.length : Int)) = True := eq_true (by omega)
    have hs1 := addAt_bd h3 u hbx
    have hl1 := addAt_len o u x
    have hs2 := addAt_bd hs1 v hbx
    have hl2 := addAt_len (addAt o u x) v x
    have k1 := getD_bd (by omega) h3 u
    have k2 := getD_bd (by omega) hs1 v
    have w1 : IntKind.i64.wrap (o.getD u 0 + x) = o.getD u 0 + x := by rw [wrap64] <;> omega
    have w2 : IntKind.i64.wrap ((addAt o u x).getD v 0 + x) = (addAt o u x).getD v 0 + x := by rw [wrap64] <;> omega
    have g1 := getI o u (by omega)
    have g2 := getI (addAt o u x) v (by omega)
    have hset1 : o.set u (o.getD u 0 + x) = addAt o u x := rfl
    have hset2 : (addAt o u x).set v ((addAt o u x).getD v 0 + x) = has1 o (((u : Int), (v : Int)), x) := rfl
    have hadv : has1 o (((u : Int), (v : Int)), x) = addAt (addAt o u x) v x := rfl
    have b1 : ((0 : Int) ≤ (u : Int)) = True := eq_true (by omega)
    have b2 : ((u : Int) < 7) = True := eq_true (by omega)
    have b3 : ((0 : Int) ≤ (v : Int)) = True := eq_true (by omega)
    have b4 : ((v : Int) < 7) = True := eq_true (by omega)
    have b5 : (u + 1 ≤ 7) = True := eq_true (by omega)
    have b6 : (v + 1 ≤ 7) = True := eq_true (by omega)
    rw [h2] at hl1
    rw [hl1] at hl2
    rw [← hadv] at hs2 hl2
    generalize has1 o (((u : Int), (v : Int)), x) = o2 at *
    simp only [go_sem, reduceIte, Nat.reduceEqDiff, Nat.reduceAdd, Nat.reduceSub, Nat.reduceLeDiff, Nat.reduceLT, reduceCtorEq, Int.reduceLT, Int.reduceLE, Int.reduceEq, Int.reduceBEq, Int.reduceSub, Int.reduceAdd, Int.reduceMul, Int.reduceNeg, Int.reduceToNat, Nat.reduceMul, Nat.reduceBEq, index_rsl_if, setm, make_ints, condK_dec, wantK_dec, not_dec, and_dec, or_dec, seqK_ite, seqK_none, blockK_ite, blockK_none, opsK_ite, opsK_none, stepK_ite, stepK_none, bodyK_ite, bodyK_none, resK_ite, resK_none, leaveK_ite, leaveK_none, only_ite, only_none, bind_ite, gives_some, gives_none, gives_ite, then_normal, then_ret, then_exit, then_none, then_ite, Option.bind_none, Bool.not_eq_true', decide_eq_false_iff_not, Bool.and_eq_true, Bool.or_eq_true, Option.some.injEq, Int.not_lt, Int.not_le, lp92_0, hx, hy, hlt, hs, b1, b2, b3, b4, b5, b6, g1, g2, w1, w2, hset1, hset2, h2, hl1, hl2, List.length_map]
    refine ⟨(i + 1, o2), by simp only [go_sem, reduceIte, Nat.reduceEqDiff, Nat.reduceAdd, Nat.reduceSub, Nat.reduceLeDiff, Nat.reduceLT, reduceCtorEq, Int.reduceLT, Int.reduceLE, Int.reduceEq, Int.reduceBEq, Int.reduceSub, Int.reduceAdd, Int.reduceMul, Int.reduceNeg, Int.reduceToNat, Nat.reduceMul, Nat.reduceBEq, ren1_locm, loc_tips, locT_eq] <;> rfl, ?_, ?_, fun x en s hq => ?_⟩
    · dsimp only; exact ⟨by omega, hl2, fun y hy => by have := hs2 y hy; omega⟩
    · simp only; omega
    · exact hq
  · have hd : (ps.zip s0).drop i = [] := List.drop_eq_nil_of_le (by rw [List.length_zip]; omega)
    have hlt : ((i : Int) < (ps.length : Int)) = False := eq_false (by omega)
    simp only [go_sem, reduceIte, Nat.reduceEqDiff, Nat.reduceAdd, Nat.reduceSub, Nat.reduceLeDiff, Nat.reduceLT, reduceCtorEq, Int.reduceLT, Int.reduceLE, Int.reduceEq, Int.reduceBEq, Int.reduceSub, Int.reduceAdd, Int.reduceMul, Int.reduceNeg, Int.reduceToNat, Nat.reduceMul, Nat.reduceBEq, index_rsl_if, setm, make_ints, condK_dec, wantK_dec, not_dec, and_dec, or_dec, seqK_ite, seqK_none, blockK_ite, blockK_none, opsK_ite, opsK_none, stepK_ite, stepK_none, bodyK_ite, bodyK_none, resK_ite, resK_none, leaveK_ite, leaveK_none, only_ite, only_none, bind_ite, gives_some, gives_none, gives_ite, then_normal, then_ret, then_exit, then_none, then_ite, Option.bind_none, Bool.not_eq_true', decide_eq_false_iff_not, Bool.and_eq_true, Bool.or_eq_true, Option.some.injEq, Int.not_lt, Int.not_le, lp92_0, hlt]
    rw [hd]; exact ⟨rfl, h2⟩

/-- Has an article more than 2? -/
def overB (ps : List (Int × Int)) (s : List Int) : Bool := (hasL ps s).any fun x => decide (2 < x)
def sharedV (n : Int) (ps : List (Int × Int)) (s : List Int) : Int × Int :=
  if chk n ps = 0 then (if (numbersV s ps.length).2 = 0 then (if overB ps s = true then (0, 15) else ((numbersV s ps.length).1, 0)) else (0, (numbersV s ps.length).2)) else (0, chk n ps)
theorem numbersV_zero {v : List Int} {n : Int} (p : (numbersV v n).2 = 0) : (v.length : Int) = n ∧ v.all in02 = true ∧ (numbersV v n).1 = sumL v := by
  unfold numbersV at p ⊢
  split at p
  · next q =>
    rw [if_pos q]
    split at p
    · next r => rw [if_pos r]; exact ⟨q, r, rfl⟩
    · simp at p
  · simp at p
theorem c92 (nl n2 : Bool) (n : Int) (ps : List (Int × Int)) (v : List Int) (hlen : v.length < 1000000) (st : St) :
    run L 92 [bkAV nl n ps, sl 1 n2 (v.map I)] st = some (.tup [I (sharedV n ps v).1, I (sharedV n ps v).2], st) := by
  rw [run_pure (fn := ir92) rfl rfl]
  have h22 := fun st => c22 nl n ps st
  have h109 := fun st => c109 n2 v hlen ps.length st
  unfold sharedV
  by_cases h : chk n ps = 0
  · obtain ⟨h1, h2, h3, h4, h5⟩ := chk_zero h
    rw [if_pos h]
    by_cases p : (numbersV v ps.length).2 = 0
    · obtain ⟨q1, q2, q3⟩ := numbersV_zero p
      rw [if_pos p]
      simp only [ir92, go_sem, reduceIte, Nat.reduceEqDiff, Nat.reduceAdd, Nat.reduceSub, Nat.reduceLeDiff, Nat.reduceLT, reduceCtorEq, Int.reduceLT, Int.reduceLE, Int.reduceEq, Int.reduceBEq, Int.reduceSub, Int.reduceAdd, Int.reduceMul, Int.reduceNeg, Int.reduceToNat, Nat.reduceMul, Nat.reduceBEq, h22, h, h109, p, List.length_map]
      generalize (numbersV v ps.length).1 = s0
      generalize hg : lim (headed pure (run L) true _ lp92_0 _ _) _ _ = o
      obtain ⟨x, en, s, rfl, h2⟩ : ∃ x en s, o = some (x, en, s) ∧ _ := by rw [← hg]; exact loop92 nl n2 n ps h3 h5 v (by omega) (all02 q2) s0 0 (List.replicate 7 0) ⟨by omega, by simp, by simp⟩ _ _ (by simp only [go_sem, reduceIte, Nat.reduceEqDiff, Nat.reduceAdd, Nat.reduceSub, Nat.reduceLeDiff, Nat.reduceLT, reduceCtorEq, Int.reduceLT, Int.reduceLE, Int.reduceEq, Int.reduceBEq, Int.reduceSub, Int.reduceAdd, Int.reduceMul, Int.reduceNeg, Int.reduceToNat, Nat.reduceMul, Nat.reduceBEq, List.map_replicate] <;> rfl)
      clear hg
      obtain ⟨rfl, g7, g9, rfl, g5⟩ := h2
      rw [List.drop_zero] at g5 ⊢
      have e : (ps.zip v).foldl has1 (List.replicate 7 0) = hasL ps v := rfl
      rw [e] at g5 ⊢
      unfold overB
      generalize hasL ps v = hs at *
      obtain ⟨k, k1, k2⟩ := c48 (.rsl 1 0 7 7 1 false) ⟨[bkCells nl n ps, hs.map I], []⟩ hs (by omega) (by omega) (by rw [g5]; rfl) (fun i hi => ⟨.ptr 1 i, by
          rw [index_rsl_if, if_pos (by omega)]; simp, by
          simp only [load_ptr, List.getElem?_cons_succ, List.getElem?_cons_zero, Option.bind_some, readCells]
          simp [List.getElem?_eq_getElem hi]⟩)
      have k3 := k2 2
      have hsl : sliceaAV 7 1 false (.ptr 1 0) none none none = some (.rsl 1 0 7 7 1 false) := rfl
      by_cases q : 2 < k
      · have q' : (hs.any fun x => decide (2 < x)) = true := by
          rw [List.any_eq_true]; obtain ⟨x, hx, hx2⟩ := k3.1 q; exact ⟨x, hx, decide_eq_true hx2⟩
        simp only [go_sem, reduceIte, Nat.reduceEqDiff, Nat.reduceAdd, Nat.reduceSub, Nat.reduceLeDiff, Nat.reduceLT, reduceCtorEq, Int.reduceLT, Int.reduceLE, Int.reduceEq, Int.reduceBEq, Int.reduceSub, Int.reduceAdd, Int.reduceMul, Int.reduceNeg, Int.reduceToNat, Nat.reduceMul, Nat.reduceBEq, g7, g9, hsl, k1, q, q']
      · have q' : (hs.any fun x => decide (2 < x)) = false := by
          rw [List.any_eq_false]; intro x hx; have : ¬ 2 < x := fun hx2 => q (k3.2 ⟨x, hx, hx2⟩); simpa using this
        simp only [go_sem, reduceIte, Nat.reduceEqDiff, Nat.reduceAdd, Nat.reduceSub, Nat.reduceLeDiff, Nat.reduceLT, reduceCtorEq, Int.reduceLT, Int.reduceLE, Int.reduceEq, Int.reduceBEq, Int.reduceSub, Int.reduceAdd, Int.reduceMul, Int.reduceNeg, Int.reduceToNat, Nat.reduceMul, Nat.reduceBEq, g7, g9, hsl, k1, q, q']
    · rw [if_neg p]
      simp only [ir92, go_sem, reduceIte, Nat.reduceEqDiff, Nat.reduceAdd, Nat.reduceSub, Nat.reduceLeDiff, Nat.reduceLT, reduceCtorEq, Int.reduceLT, Int.reduceLE, Int.reduceEq, Int.reduceBEq, Int.reduceSub, Int.reduceAdd, Int.reduceMul, Int.reduceNeg, Int.reduceToNat, Nat.reduceMul, Nat.reduceBEq, h22, h, h109, p, List.length_map]
  · rw [if_neg h]
    simp only [ir92, go_sem, reduceIte, Nat.reduceEqDiff, Nat.reduceAdd, Nat.reduceSub, Nat.reduceLeDiff, Nat.reduceLT, reduceCtorEq, Int.reduceLT, Int.reduceLE, Int.reduceEq, Int.reduceBEq, Int.reduceSub, Int.reduceAdd, Int.reduceMul, Int.reduceNeg, Int.reduceToNat, Nat.reduceMul, Nat.reduceBEq, h22, h]
theorem c40 (nl n2 : Bool) (n : Int) (ps : List (Int × Int)) (v : List Int) (hlen : v.length < 1000000) (st : St) :
    run L 40 [bkAV nl n ps, sl 1 n2 (v.map I)] st = some (I (sharedV n ps v).2, st) := by
  rw [run_pure (fn := ir40) rfl rfl]
  have h92 := fun st => c92 nl n2 n ps v hlen st
  simp only [ir40, go_sem, reduceIte, Nat.reduceEqDiff, Nat.reduceAdd, Nat.reduceSub, Nat.reduceLeDiff, Nat.reduceLT, reduceCtorEq, Int.reduceLT, Int.reduceLE, Int.reduceEq, Int.reduceBEq, Int.reduceSub, Int.reduceAdd, Int.reduceMul, Int.reduceNeg, Int.reduceToNat, Nat.reduceMul, Nat.reduceBEq, h92]
/-- Do values prove shares? -/
def provesV (n : Int) (ps : List (Int × Int)) (v s : List Int) : Int :=
  if (halvedV n ps v).2 = 0 then (if (sharedV n ps s).2 = 0 then (if (sharedV n ps s).1 = (halvedV n ps v).1 then 0 else 14) else (sharedV n ps s).2) else (halvedV n ps v).2
theorem c42 (nl n2 n3 : Bool) (n : Int) (ps : List (Int × Int)) (v s : List Int) (hv : v.length < 1000000) (hs : s.length < 1000000) (st : St) :
    run L 42 [bkAV nl n ps, sl 1 n2 (v.map I), sl 1 n3 (s.map I)] st = some (I (provesV n ps v s), st) := by
  rw [run_pure (fn := ir42) rfl rfl]
  have h83 := fun st => c83 nl n2 n ps v hv st
  have h92 := fun st => c92 nl n3 n ps s hs st
  unfold provesV
  by_cases p1 : (halvedV n ps v).2 = 0
  · rw [if_pos p1]
    by_cases p2 : (sharedV n ps s).2 = 0
    · rw [if_pos p2]
      by_cases p3 : (sharedV n ps s).1 = (halvedV n ps v).1
      · rw [if_pos p3]
        simp only [ir42, go_sem, reduceIte, Nat.reduceEqDiff, Nat.reduceAdd, Nat.reduceSub, Nat.reduceLeDiff, Nat.reduceLT, reduceCtorEq, Int.reduceLT, Int.reduceLE, Int.reduceEq, Int.reduceBEq, Int.reduceSub, Int.reduceAdd, Int.reduceMul, Int.reduceNeg, Int.reduceToNat, Nat.reduceMul, Nat.reduceBEq, h83, h92, p1, p2, p3]
      · rw [if_neg p3]
        simp only [ir42, go_sem, reduceIte, Nat.reduceEqDiff, Nat.reduceAdd, Nat.reduceSub, Nat.reduceLeDiff, Nat.reduceLT, reduceCtorEq, Int.reduceLT, Int.reduceLE, Int.reduceEq, Int.reduceBEq, Int.reduceSub, Int.reduceAdd, Int.reduceMul, Int.reduceNeg, Int.reduceToNat, Nat.reduceMul, Nat.reduceBEq, h83, h92, p1, p2, p3]
    · rw [if_neg p2]
      simp only [ir42, go_sem, reduceIte, Nat.reduceEqDiff, Nat.reduceAdd, Nat.reduceSub, Nat.reduceLeDiff, Nat.reduceLT, reduceCtorEq, Int.reduceLT, Int.reduceLE, Int.reduceEq, Int.reduceBEq, Int.reduceSub, Int.reduceAdd, Int.reduceMul, Int.reduceNeg, Int.reduceToNat, Nat.reduceMul, Nat.reduceBEq, h83, h92, p1, p2]
  · rw [if_neg p1]
    simp only [ir42, go_sem, reduceIte, Nat.reduceEqDiff, Nat.reduceAdd, Nat.reduceSub, Nat.reduceLeDiff, Nat.reduceLT, reduceCtorEq, Int.reduceLT, Int.reduceLE, Int.reduceEq, Int.reduceBEq, Int.reduceSub, Int.reduceAdd, Int.reduceMul, Int.reduceNeg, Int.reduceToNat, Nat.reduceMul, Nat.reduceBEq, h83, p1]


/-! ### totals; places in a list -/
def totalV (l : List Int) (many : Int) : Int := if (l.length : Int) = many then (if l.all in02 = true then sumL l else -1) else -1

theorem loop45 (nl : Bool) (l : List Int) (hlen : l.length < 1000000) (i : Nat) (acc : Int) (hok : i ≤ l.length ∧ 0 ≤ acc ∧ acc ≤ 2 * i) (env : Env) (st : St)
    (hg : gcAV true 0 0 (canon env [5, 12, 13, 14]) st = ([(5, I acc), (12, sl 1 nl (l.map I)), (13, I l.length), (14, I i)], ⟨[], []⟩)) :
    ∃ x_1 en s, lim (headed pure (run L) true [5, 12, 13, 14] lp45_0 0 0) env st = some (x_1, en, s) ∧ (if (l.drop i).all in02 = true then x_1 = .exit 0 ∧ en.get 5 = I (acc + sumL (l.drop i)) else x_1 = .ret ∧ en.get 4 = I (-1)) := by
  refine loop_wp (α := Nat × Int) (fun ⟨i, acc⟩ => l.length - i) (fun ⟨i, acc⟩ => i ≤ l.length ∧ 0 ≤ acc ∧ acc ≤ 2 * i) (fun ⟨i, acc⟩ => ([(5, I acc), (12, sl 1 nl (l.map I)), (13, I l.length), (14, I i)], ⟨[], []⟩)) (fun ⟨i, acc⟩ x_1 en s => if (l.drop i).all in02 = true then x_1 = .exit 0 ∧ en.get 5 = I (acc + sumL (l.drop i)) else x_1 = .ret ∧ en.get 4 = I (-1)) (fun ⟨i, acc⟩ hok => ?_) ⟨i, acc⟩ hok env st hg
  simp only at hok
  obtain ⟨h1, h2, h3⟩ := hok
  dsimp only
  by_cases h : i < l.length
  · have hx := index_ints nl l i h
    have hs := succ64 i (by omega)
    have hd : l.drop i = l[i] :: l.drop (i + 1) := List.drop_eq_getElem_cons h
    have hlt : ((i : Int) < (l.length : Int)) = True := eq_true (by omega)
    rw [hd]
    generalize l[i] = a at *
    by_cases p1 : a < 0
    · simp only [go_sem, reduceIte, Nat.reduceEqDiff, Nat.reduceAdd, Nat.reduceSub, Nat.reduceLeDiff, Nat.reduceLT, reduceCtorEq, Int.reduceLT, Int.reduceLE, Int.reduceEq, Int.reduceBEq, Int.reduceSub, Int.reduceAdd, Int.reduceMul, Int.reduceNeg, Int.reduceToNat, Nat.reduceMul, Nat.reduceBEq, index_rsl_if, setm, make_ints, condK_dec, wantK_dec, not_dec, and_dec, or_dec, seqK_ite, seqK_none, blockK_ite, blockK_none, opsK_ite, opsK_none, stepK_ite, stepK_none, bodyK_ite, bodyK_none, resK_ite, resK_none, leaveK_ite, leaveK_none, only_ite, only_none, bind_ite, gives_some, gives_none, gives_ite, then_normal, then_ret, then_exit, then_none, then_ite, Option.bind_none, Bool.not_eq_true', decide_eq_false_iff_not, Bool.and_eq_true, Bool.or_eq_true, Option.some.injEq, Int.not_lt, Int.not_le, lp45_0, hx, hlt, p1]
      rw [if_neg (by simp [in02]; omega)]; trivial
    by_cases p2 : 2 < a
    · simp only [go_sem, reduceIte, Nat.reduceEqDiff, Nat.reduceAdd, Nat.reduceSub, Nat.reduceLeDiff, Nat.reduceLT, reduceCtorEq, Int.reduceLT, Int.reduceLE, Int.reduceEq, Int.reduceBEq, Int.reduceSub, Int.reduceAdd, Int.reduceMul, Int.reduceNeg, Int.reduceToNat, Nat.reduceMul, Nat.reduceBEq, index_rsl_if, setm, make_ints, condK_dec, wantK_dec, not_dec, and_dec, or_dec, seqK_ite, seqK_none, blockK_ite, blockK_none, opsK_ite, opsK_none, stepK_ite, stepK_none, bodyK_ite, bodyK_none, resK_ite, resK_none, leaveK_ite, leaveK_none, only_ite, only_none, bind_ite, gives_some, gives_none, gives_ite, then_normal, then_ret, then_exit, then_none, then_ite, Option.bind_none, Bool.not_eq_true', decide_eq_false_iff_not, Bool.and_eq_true, Bool.or_eq_true, Option.some.injEq, Int.not_lt, Int.not_le, lp45_0, hx, hlt, p1, p2]
      rw [if_neg (by simp [in02]; omega)]; trivial
    have hw : IntKind.i64.wrap (acc + a) = acc + a := by rw [wrap64] <;> omega
    have hin : in02 a = true := decide_eq_true (by omega)
    simp only [go_sem, reduceIte, Nat.reduceEqDiff, Nat.reduceAdd, Nat.reduceSub, Nat.reduceLeDiff, Nat.reduceLT, reduceCtorEq, Int.reduceLT, Int.reduceLE, Int.reduceEq, Int.reduceBEq, Int.reduceSub, Int.reduceAdd, Int.reduceMul, Int.reduceNeg, Int.reduceToNat, Nat.reduceMul, Nat.reduceBEq, index_rsl_if, setm, make_ints, condK_dec, wantK_dec, not_dec, and_dec, or_dec, seqK_ite, seqK_none, blockK_ite, blockK_none, opsK_ite, opsK_none, stepK_ite, stepK_none, bodyK_ite, bodyK_none, resK_ite, resK_none, leaveK_ite, leaveK_none, only_ite, only_none, bind_ite, gives_some, gives_none, gives_ite, then_normal, then_ret, then_exit, then_none, then_ite, Option.bind_none, Bool.not_eq_true', decide_eq_false_iff_not, Bool.and_eq_true, Bool.or_eq_true, Option.some.injEq, Int.not_lt, Int.not_le, lp45_0, hx, hlt, p1, p2, hw, hs]
    refine ⟨(i + 1, acc + a), by simp only [go_sem, reduceIte, Nat.reduceEqDiff, Nat.reduceAdd, Nat.reduceSub, Nat.reduceLeDiff, Nat.reduceLT, reduceCtorEq, Int.reduceLT, Int.reduceLE, Int.reduceEq, Int.reduceBEq, Int.reduceSub, Int.reduceAdd, Int.reduceMul, Int.reduceNeg, Int.reduceToNat, Nat.reduceMul, Nat.reduceBEq, ren1_locm, loc_tips, locT_eq] <;> rfl, ?_, ?_, fun x en s hq => ?_⟩
    · dsimp only; exact ⟨by omega, by omega, by omega⟩
    · simp only; omega
    · simp only [List.all_cons, hin, sumL, Bool.true_and, true_and]; rw [← Int.add_assoc]; simpa using hq
  · have hd : l.drop i = [] := List.drop_eq_nil_of_le (by omega)
    have hlt : ((i : Int) < (l.length : Int)) = False := eq_false (by omega)
    simp only [go_sem, reduceIte, Nat.reduceEqDiff, Nat.reduceAdd, Nat.reduceSub, Nat.reduceLeDiff, Nat.reduceLT, reduceCtorEq, Int.reduceLT, Int.reduceLE, Int.reduceEq, Int.reduceBEq, Int.reduceSub, Int.reduceAdd, Int.reduceMul, Int.reduceNeg, Int.reduceToNat, Nat.reduceMul, Nat.reduceBEq, index_rsl_if, setm, make_ints, condK_dec, wantK_dec, not_dec, and_dec, or_dec, seqK_ite, seqK_none, blockK_ite, blockK_none, opsK_ite, opsK_none, stepK_ite, stepK_none, bodyK_ite, bodyK_none, resK_ite, resK_none, leaveK_ite, leaveK_none, only_ite, only_none, bind_ite, gives_some, gives_none, gives_ite, then_normal, then_ret, then_exit, then_none, then_ite, Option.bind_none, Bool.not_eq_true', decide_eq_false_iff_not, Bool.and_eq_true, Bool.or_eq_true, Option.some.injEq, Int.not_lt, Int.not_le, lp45_0, hlt]
    rw [hd]; simp [sumL]

theorem c45 (nl : Bool) (l : List Int) (hlen : l.length < 1000000) (many : Int) (st : St) : run L 45 [sl 1 nl (l.map I), I many] st = some (I (totalV l many), st) := by
  rw [run_pure (fn := ir45) rfl rfl]
  unfold totalV
  by_cases p : (l.length : Int) = many
  · rw [if_pos p]
    simp only [ir45, go_sem, reduceIte, Nat.reduceEqDiff, Nat.reduceAdd, Nat.reduceSub, Nat.reduceLeDiff, Nat.reduceLT, reduceCtorEq, Int.reduceLT, Int.reduceLE, Int.reduceEq, Int.reduceBEq, Int.reduceSub, Int.reduceAdd, Int.reduceMul, Int.reduceNeg, Int.reduceToNat, Nat.reduceMul, Nat.reduceBEq, List.length_map, p]
    rw [← p]
    generalize hg : lim (headed pure (run L) true _ lp45_0 _ _) _ _ = o
    obtain ⟨x, en, s, rfl, h2⟩ : ∃ x en s, o = some (x, en, s) ∧ _ := by rw [← hg]; exact loop45 nl l hlen 0 0 ⟨by omega, by omega, by omega⟩ _ _ (by simp only [go_sem, reduceIte, Nat.reduceEqDiff, Nat.reduceAdd, Nat.reduceSub, Nat.reduceLeDiff, Nat.reduceLT, reduceCtorEq, Int.reduceLT, Int.reduceLE, Int.reduceEq, Int.reduceBEq, Int.reduceSub, Int.reduceAdd, Int.reduceMul, Int.reduceNeg, Int.reduceToNat, Nat.reduceMul, Nat.reduceBEq] <;> rfl)
    clear hg
    rw [List.drop_zero, Int.zero_add] at h2
    by_cases h : l.all in02 = true
    · rw [if_pos h] at h2
      obtain ⟨rfl, h3⟩ := h2
      simp only [go_sem, reduceIte, Nat.reduceEqDiff, Nat.reduceAdd, Nat.reduceSub, Nat.reduceLeDiff, Nat.reduceLT, reduceCtorEq, Int.reduceLT, Int.reduceLE, Int.reduceEq, Int.reduceBEq, Int.reduceSub, Int.reduceAdd, Int.reduceMul, Int.reduceNeg, Int.reduceToNat, Nat.reduceMul, Nat.reduceBEq, h3, h]
    · rw [if_neg h] at h2
      obtain ⟨rfl, h3⟩ := h2
      simp only [go_sem, reduceIte, Nat.reduceEqDiff, Nat.reduceAdd, Nat.reduceSub, Nat.reduceLeDiff, Nat.reduceLT, reduceCtorEq, Int.reduceLT, Int.reduceLE, Int.reduceEq, Int.reduceBEq, Int.reduceSub, Int.reduceAdd, Int.reduceMul, Int.reduceNeg, Int.reduceToNat, Nat.reduceMul, Nat.reduceBEq, h3, h]
  · rw [if_neg p]
    simp only [ir45, go_sem, reduceIte, Nat.reduceEqDiff, Nat.reduceAdd, Nat.reduceSub, Nat.reduceLeDiff, Nat.reduceLT, reduceCtorEq, Int.reduceLT, Int.reduceLE, Int.reduceEq, Int.reduceBEq, Int.reduceSub, Int.reduceAdd, Int.reduceMul, Int.reduceNeg, Int.reduceToNat, Nat.reduceMul, Nat.reduceBEq, List.length_map, p]

/-- The first place of a number, or -1. -/
def indexOf (a : Int) : List Int → Nat → Int
  | [], _ => -1
  | b :: r, i => if a = b then (i : Int) else indexOf a r (i + 1)
theorem indexOf_nonneg (a : Int) : ∀ (l : List Int) (i : Nat), (0 ≤ indexOf a l i) = (a ∈ l)
  | [], i => by simp [indexOf]
  | b :: r, i => by
    have ih := indexOf_nonneg a r (i + 1)
    simp only [indexOf]
    split
    · next h => simp [h]
    · next h => rw [ih]; simp [h]

theorem loop46 (nl : Bool) (l : List Int) (hlen : l.length < 1000000) (a : Int) (i : Nat) (hok : i ≤ l.length) (env : Env) (st : St)
    (hg : gcAV true 0 0 (canon env [0, 1, 7, 8]) st = ([(0, sl 1 nl (l.map I)), (1, I a), (7, I l.length), (8, I i)], ⟨[], []⟩)) :
    ∃ x_1 en s, lim (headed pure (run L) true [0, 1, 7, 8] lp46_0 0 0) env st = some (x_1, en, s) ∧ (if a ∈ l.drop i then x_1 = .ret ∧ en.get 4 = I (indexOf a (l.drop i) i) else x_1 = .exit 0) := by
  refine loop_wp (α := Nat) (fun i => l.length - i) (fun i => i ≤ l.length) (fun i => ([(0, sl 1 nl (l.map I)), (1, I a), (7, I l.length), (8, I i)], ⟨[], []⟩)) (fun i x_1 en s => if a ∈ l.drop i then x_1 = .ret ∧ en.get 4 = I (indexOf a (l.drop i) i) else x_1 = .exit 0) (fun i hok => ?_) i hok env st hg
  by_cases h : i < l.length
  · have hx := index_ints nl l i h
    have hs := succ64 i (by omega)
    have hd : l.drop i = l[i] :: l.drop (i + 1) := List.drop_eq_getElem_cons h
    have hlt : ((i : Int) < (l.length : Int)) = True := eq_true (by omega)
    rw [hd]
    generalize l[i] = b at *
    by_cases p : a = b
    · simp only [go_sem, reduceIte, Nat.reduceEqDiff, Nat.reduceAdd, Nat.reduceSub, Nat.reduceLeDiff, Nat.reduceLT, reduceCtorEq, Int.reduceLT, Int.reduceLE, Int.reduceEq, Int.reduceBEq, Int.reduceSub, Int.reduceAdd, Int.reduceMul, Int.reduceNeg, Int.reduceToNat, Nat.reduceMul, Nat.reduceBEq, index_rsl_if, setm, make_ints, condK_dec, wantK_dec, not_dec, and_dec, or_dec, seqK_ite, seqK_none, blockK_ite, blockK_none, opsK_ite, opsK_none, stepK_ite, stepK_none, bodyK_ite, bodyK_none, resK_ite, resK_none, leaveK_ite, leaveK_none, only_ite, only_none, bind_ite, gives_some, gives_none, gives_ite, then_normal, then_ret, then_exit, then_none, then_ite, Option.bind_none, Bool.not_eq_true', decide_eq_false_iff_not, Bool.and_eq_true, Bool.or_eq_true, Option.some.injEq, Int.not_lt, Int.not_le, lp46_0, hx, hlt, p]
      rw [if_pos (by simp)]; simp [indexOf]
    · have e : indexOf a (b :: l.drop (i + 1)) i = indexOf a (l.drop (i + 1)) (i + 1) := by simp only [indexOf]; rw [if_neg p]
      simp only [go_sem, reduceIte, Nat.reduceEqDiff, Nat.reduceAdd, Nat.reduceSub, Nat.reduceLeDiff, Nat.reduceLT, reduceCtorEq, Int.reduceLT, Int.reduceLE, Int.reduceEq, Int.reduceBEq, Int.reduceSub, Int.reduceAdd, Int.reduceMul, Int.reduceNeg, Int.reduceToNat, Nat.reduceMul, Nat.reduceBEq, index_rsl_if, setm, make_ints, condK_dec, wantK_dec, not_dec, and_dec, or_dec, seqK_ite, seqK_none, blockK_ite, blockK_none, opsK_ite, opsK_none, stepK_ite, stepK_none, bodyK_ite, bodyK_none, resK_ite, resK_none, leaveK_ite, leaveK_none, only_ite, only_none, bind_ite, gives_some, gives_none, gives_ite, then_normal, then_ret, then_exit, then_none, then_ite, Option.bind_none, Bool.not_eq_true', decide_eq_false_iff_not, Bool.and_eq_true, Bool.or_eq_true, Option.some.injEq, Int.not_lt, Int.not_le, lp46_0, hx, hlt, p, hs]
      refine ⟨i + 1, by simp only [go_sem, reduceIte, Nat.reduceEqDiff, Nat.reduceAdd, Nat.reduceSub, Nat.reduceLeDiff, Nat.reduceLT, reduceCtorEq, Int.reduceLT, Int.reduceLE, Int.reduceEq, Int.reduceBEq, Int.reduceSub, Int.reduceAdd, Int.reduceMul, Int.reduceNeg, Int.reduceToNat, Nat.reduceMul, Nat.reduceBEq, ren1_locm, loc_tips, locT_eq] <;> rfl, ?_, ?_, fun x en s hq => ?_⟩
      · omega
      · omega
      · rw [e]; simp only [List.mem_cons, p, false_or]; exact hq
  · have hd : l.drop i = [] := List.drop_eq_nil_of_le (by omega)
    have hlt : ((i : Int) < (l.length : Int)) = False := eq_false (by omega)
    simp only [go_sem, reduceIte, Nat.reduceEqDiff, Nat.reduceAdd, Nat.reduceSub, Nat.reduceLeDiff, Nat.reduceLT, reduceCtorEq, Int.reduceLT, Int.reduceLE, Int.reduceEq, Int.reduceBEq, Int.reduceSub, Int.reduceAdd, Int.reduceMul, Int.reduceNeg, Int.reduceToNat, Nat.reduceMul, Nat.reduceBEq, index_rsl_if, setm, make_ints, condK_dec, wantK_dec, not_dec, and_dec, or_dec, seqK_ite, seqK_none, blockK_ite, blockK_none, opsK_ite, opsK_none, stepK_ite, stepK_none, bodyK_ite, bodyK_none, resK_ite, resK_none, leaveK_ite, leaveK_none, only_ite, only_none, bind_ite, gives_some, gives_none, gives_ite, then_normal, then_ret, then_exit, then_none, then_ite, Option.bind_none, Bool.not_eq_true', decide_eq_false_iff_not, Bool.and_eq_true, Bool.or_eq_true, Option.some.injEq, Int.not_lt, Int.not_le, lp46_0, hlt]
    rw [hd]; simp

theorem c46 (nl : Bool) (l : List Int) (hlen : l.length < 1000000) (a : Int) (st : St) : run L 46 [sl 1 nl (l.map I), I a] st = some (I (indexOf a l 0), st) := by
  rw [run_pure (fn := ir46) rfl rfl]
  simp only [ir46, go_sem, reduceIte, Nat.reduceEqDiff, Nat.reduceAdd, Nat.reduceSub, Nat.reduceLeDiff, Nat.reduceLT, reduceCtorEq, Int.reduceLT, Int.reduceLE, Int.reduceEq, Int.reduceBEq, Int.reduceSub, Int.reduceAdd, Int.reduceMul, Int.reduceNeg, Int.reduceToNat, Nat.reduceMul, Nat.reduceBEq, List.length_map]
  generalize hg : lim (headed pure (run L) true _ lp46_0 _ _) _ _ = o
  obtain ⟨x, en, s, rfl, h2⟩ : ∃ x en s, o = some (x, en, s) ∧ _ := by rw [← hg]; exact loop46 nl l hlen a 0 (by omega) _ _ (by simp only [go_sem, reduceIte, Nat.reduceEqDiff, Nat.reduceAdd, Nat.reduceSub, Nat.reduceLeDiff, Nat.reduceLT, reduceCtorEq, Int.reduceLT, Int.reduceLE, Int.reduceEq, Int.reduceBEq, Int.reduceSub, Int.reduceAdd, Int.reduceMul, Int.reduceNeg, Int.reduceToNat, Nat.reduceMul, Nat.reduceBEq] <;> rfl)
  clear hg
  rw [List.drop_zero] at h2
  by_cases h : a ∈ l
  · rw [if_pos h] at h2
    obtain ⟨rfl, h3⟩ := h2
    simp only [go_sem, reduceIte, Nat.reduceEqDiff, Nat.reduceAdd, Nat.reduceSub, Nat.reduceLeDiff, Nat.reduceLT, reduceCtorEq, Int.reduceLT, Int.reduceLE, Int.reduceEq, Int.reduceBEq, Int.reduceSub, Int.reduceAdd, Int.reduceMul, Int.reduceNeg, Int.reduceToNat, Nat.reduceMul, Nat.reduceBEq, h3]
  · rw [if_neg h] at h2
    subst h2
    have e : indexOf a l 0 = -1 := by
      have : ∀ (l : List Int) (i : Nat), a ∉ l → indexOf a l i = -1 := by
        intro l
        induction l with
        | nil => intro i _; rfl
        | cons b r ih =>
          intro i hn
          simp only [List.mem_cons, not_or] at hn
          simp only [indexOf]; rw [if_neg hn.1]; exact ih _ hn.2
      exact this l 0 h
    simp only [go_sem, reduceIte, Nat.reduceEqDiff, Nat.reduceAdd, Nat.reduceSub, Nat.reduceLeDiff, Nat.reduceLT, reduceCtorEq, Int.reduceLT, Int.reduceLE, Int.reduceEq, Int.reduceBEq, Int.reduceSub, Int.reduceAdd, Int.reduceMul, Int.reduceNeg, Int.reduceToNat, Nat.reduceMul, Nat.reduceBEq, e]
theorem c49 (nl : Bool) (l : List Int) (hlen : l.length < 1000000) (a : Int) (st : St) : run L 49 [sl 1 nl (l.map I), I a] st = some (B (decide (a ∈ l)), st) := by
  rw [run_pure (fn := ir49) rfl rfl]
  have h46 := fun st => c46 nl l hlen a st
  have hn := indexOf_nonneg a l 0
  simp only [ir49, go_sem, reduceIte, Nat.reduceEqDiff, Nat.reduceAdd, Nat.reduceSub, Nat.reduceLeDiff, Nat.reduceLT, reduceCtorEq, Int.reduceLT, Int.reduceLE, Int.reduceEq, Int.reduceBEq, Int.reduceSub, Int.reduceAdd, Int.reduceMul, Int.reduceNeg, Int.reduceToNat, Nat.reduceMul, Nat.reduceBEq, h46, hn]


/-! ### two lists that grow -/
def vAV (v : List Int) : AV := loc 1 0 (v.map I)
def vT (v : List Int) : List Nat := locT 0 (v.map I)
def vAcc (v : List Int) : List (Nat × Nat) := if (v.map I).length = 0 then [] else [(0, (v.map I).length)]
def sAV (v s : List Int) : AV := if s = [] then .v (.slice none 0 0) else .lst (.own (vT v).length s.length) 1 (s.map I)
def sT (s : List Int) : List Nat := if s = [] then [] else [s.length]
def sAcc (v s : List Int) : List (Nat × Nat) := if s = [] then [] else [((vT v).length, s.length)]
theorem okRef_v (n : Nat) (v : List Int) : okRef n (vAV v) = true := okRef_loc _ _ _ _
theorem pub_v (v : List Int) : pub (vAV v) = sl 1 true (v.map I) := pub_loc 1 0 _
theorem len_v (v : List Int) : lenAV (vAV v) = some (I v.length) := by unfold vAV; rw [len_loc]; simp
theorem ren1_v (v : List Int) : ren1 0 (vT v) [] (vAV v) = (vAV v, vAcc v) := ren1_loc (k := 0) 1 (v.map I)
theorem vAcc_snd (v : List Int) : (vAcc v).map (fun x => x.2) = vT v := by
  unfold vAcc vT locT; split <;> rfl
theorem ren1_vH (v s : List Int) (acc : List (Nat × Nat)) : ren1 (vT v).length (vT v ++ sT s) acc (vAV v) = (vAV v, acc) := by
  unfold vAV vT loc locT
  split
  · rfl
  · simp [ren1]
theorem ren1_vH2 (v s : List Int) (acc : List (Nat × Nat)) : ren1 (vT v ++ sT s).length (vT v ++ sT s) acc (vAV v) = (vAV v, acc) := by
  unfold vAV vT loc locT
  split
  · rfl
  · simp [ren1]
theorem ren1_sH (v s : List Int) : ren1 (vT v).length (vT v ++ sT s) [] (sAV v s) = (sAV v s, sAcc v s) := by
  unfold sAV sT sAcc
  by_cases h : s = []
  · simp [h, ren1]
  · simp [h, ren1]
theorem ren1_sH2 (v s : List Int) (acc : List (Nat × Nat)) : ren1 (vT v ++ sT s).length (vT v ++ sT s) acc (sAV v s) = (sAV v s, acc) := by
  unfold sAV sT
  by_cases h : s = []
  · simp [h, ren1]
  · simp [h, ren1]
theorem sAcc_snd (v s : List Int) : (sAcc v s).map (fun x => x.2) = sT s := by
  unfold sAcc sT; split <;> rfl
theorem take_vT (v s : List Int) : (vT v ++ sT s).take (vT v).length = vT v := List.take_left
theorem okRef_s (n : Nat) (v s : List Int) : okRef n (sAV v s) = true := by unfold sAV; split <;> rfl
theorem pub_s (v s : List Int) : pub (sAV v s) = sl 1 true (s.map I) := by
  unfold sAV
  split
  · next h => subst h; rfl
  · next h => rw [sl_ne (by simpa using h)]; rfl
theorem len_s (v s : List Int) : lenAV (sAV v s) = some (I s.length) := by
  unfold sAV
  split
  · next h => subst h; rfl
  · next h => rw [len_lst]; simp
theorem sT_nil : sT [] = [] := rfl
theorem append_v (v : List Int) (x : Int) (S : List (List AV)) (h : v.length < 1000) : appendAV 1 (vAV v) [I x] ⟨S, vT v⟩ = some (vAV (v ++ [x]), ⟨S, vT (v ++ [x])⟩) :=
  append_locm (z := 1) (k := 0) I v x S (by omega) (by simp [maxGrow]; omega)
theorem append_s (v s : List Int) (x : Int) (S : List (List AV)) (h : s.length < 1000) : appendAV 1 (sAV v s) [I x] ⟨S, vT v ++ sT s⟩ = some (sAV v (s ++ [x]), ⟨S, vT v ++ sT (s ++ [x])⟩) := by
  unfold sAV sT
  by_cases h0 : s = []
  · subst h0; simp [appendAV, maxGrow]
  · have h1 : s.length + 1 ≤ maxGrow := by unfold maxGrow; omega
    simp [h0, appendAV, h1]
theorem index_v (v : List Int) (i : Int) (h : 0 ≤ i) (h2 : i < v.length) : indexSAV 1 (vAV v) (.v (.int .i64 i)) = some (.eptr (I (v.getD i.toNat 0)) 0) := by
  unfold vAV
  rw [index_loc _ _ _ _ _ h (by simp; omega)]
  simp [List.getD_eq_getElem?_getD, List.getElem?_eq_getElem (show i.toNat < v.length by omega)]
theorem index_s (v s : List Int) (i : Nat) (h : i < s.length) : indexSAV 1 (sAV v s) (.v (.int .i64 i)) = some (.eptr (I s[i]) 0) := by
  have hne : s ≠ [] := by intro e; subst e; simp at h
  unfold sAV
  rw [if_neg hne]
  simp [indexSAV, h]
attribute [local go_sem] okRef_v pub_v len_v okRef_s pub_s len_s

def vOf (x : Int) : Int := x % 3 + x / 252
def sOf (x : Int) : Int := x % 3 - x / 252
def vTo (zs : List Int) (k : Nat) : List Int := (List.range k).map fun j => vOf (zs.getD j 0)
def sTo (zs : List Int) (k : Nat) : List Int := (List.range k).map fun j => sOf (zs.getD j 0)
theorem vTo_succ (zs : List Int) (k : Nat) : vTo zs (k + 1) = vTo zs k ++ [vOf (zs.getD k 0)] := by simp [vTo, List.range_succ]
theorem sTo_succ (zs : List Int) (k : Nat) : sTo zs (k + 1) = sTo zs k ++ [sOf (zs.getD k 0)] := by simp [sTo, List.range_succ]
theorem vTo_len (zs : List Int) (k : Nat) : (vTo zs k).length = k := by simp [vTo]
theorem sTo_len (zs : List Int) (k : Nat) : (sTo zs k).length = k := by simp [sTo]
theorem vOf_bd {x : Int} (h : Byte x) : 0 ≤ vOf x ∧ vOf x ≤ 3 := by unfold Byte at h; unfold vOf; omega
theorem sOf_bd {x : Int} (h : Byte x) : -1 ≤ sOf x ∧ sOf x ≤ 2 := by unfold Byte at h; unfold sOf; omega
theorem tdiv8 {a n : Int} (h : 0 ≤ a) : a.tdiv n = a / n := Int.tdiv_eq_ediv_of_nonneg h

theorem loop8_0 (zs vs ss : List Int) (hvl : vs.length = 7) (hvb : ∀ a ∈ vs, Byte a) (n : Int) (ps : List (Int × Int)) (b : Int) (k : Nat) (hk : k ≤ 7) (i : Nat) (hok : i ≤ k) (env : Env) (st : St)
    (hg : gcAV true 4 0 (canon env [3, 6, 9, 10, 11, 38, 39, 40]) st = ([(3, B8 b), (6, .ptr 2 0), (9, .ptr 3 0), (10, vAV (vTo vs i)), (11, .v (.slice none 0 0)), (38, .rsl 1 0 k 7 1 false), (39, I k), (40, I i)], ⟨[zs.map B8, vs.map B8, ss.map B8, bkCells true n ps], vT (vTo vs i)⟩)) :
    ∃ x_1 en s, lim (headed pure (run L) true [3, 6, 9, 10, 11, 38, 39, 40] lp8_0 4 0) env st = some (x_1, en, s) ∧ (x_1 = .exit 0 ∧ en.get 3 = B8 b ∧ en.get 6 = .ptr 2 0 ∧ en.get 9 = .ptr 3 0 ∧ en.get 10 = vAV (vTo vs k) ∧ en.get 11 = .v (.slice none 0 0) ∧ s = ⟨[zs.map B8, vs.map B8, ss.map B8, bkCells true n ps], vT (vTo vs k)⟩) := by
  refine loop_wp (α := Nat) (fun i => k - i) (fun i => i ≤ k) (fun i => ([(3, B8 b), (6, .ptr 2 0), (9, .ptr 3 0), (10, vAV (vTo vs i)), (11, .v (.slice none 0 0)), (38, .rsl 1 0 k 7 1 false), (39, I k), (40, I i)], ⟨[zs.map B8, vs.map B8, ss.map B8, bkCells true n ps], vT (vTo vs i)⟩)) (fun i x_1 en s => x_1 = .exit 0 ∧ en.get 3 = B8 b ∧ en.get 6 = .ptr 2 0 ∧ en.get 9 = .ptr 3 0 ∧ en.get 10 = vAV (vTo vs k) ∧ en.get 11 = .v (.slice none 0 0) ∧ s = ⟨[zs.map B8, vs.map B8, ss.map B8, bkCells true n ps], vT (vTo vs k)⟩) (fun i hok => ?_) i hok env st hg
  by_cases h : i < k
  · have hs := succ64 i (by omega)
    have hlt : ((i : Int) < (k : Int)) = True := eq_true (by omega)
    have hi0 : ((0 : Int) ≤ (i : Int)) = True := eq_true (by omega)
    have hg := getB vs i (by omega)
    have hb := byte_getD hvb i
    have hsu := vTo_succ vs i
    have hbd := vOf_bd hb
    have hvl2 := vTo_len vs i
    unfold Byte at hb
    have happ := fun S => append_v (vTo vs i) (vOf (vs.getD i 0)) S (by omega)
    rw [← hsu] at happ
    have hvo : vs.getD i 0 % 3 + vs.getD i 0 / 252 = vOf (vs.getD i 0) := rfl
    generalize vs.getD i 0 = x at *
    have w1 := wrap64 x (by omega) (by omega)
    have t1 : x.tmod 3 = x % 3 := tmod8 (by omega)
    have t2 : x.tdiv 252 = x / 252 := tdiv8 (by omega)
    have w2 := wrap64 (x / 252) (by omega) (by omega)
    have w3 : IntKind.i64.wrap (x % 3 + x / 252) = vOf x := by rw [wrap64] <;> omega
    simp only [go_sem, reduceIte, Nat.reduceEqDiff, Nat.reduceAdd, Nat.reduceSub, Nat.reduceLeDiff, Nat.reduceLT, reduceCtorEq, Int.reduceLT, Int.reduceLE, Int.reduceEq, Int.reduceBEq, Int.reduceSub, Int.reduceAdd, Int.reduceMul, Int.reduceNeg, Int.reduceToNat, Nat.reduceMul, Nat.reduceBEq, index_rsl_if, setm, make_ints, condK_dec, wantK_dec, not_dec, and_dec, or_dec, seqK_ite, seqK_none, blockK_ite, blockK_none, opsK_ite, opsK_none, stepK_ite, stepK_none, bodyK_ite, bodyK_none, resK_ite, resK_none, leaveK_ite, leaveK_none, only_ite, only_none, bind_ite, gives_some, gives_none, gives_ite, then_normal, then_ret, then_exit, then_none, then_ite, Option.bind_none, Bool.not_eq_true', decide_eq_false_iff_not, Bool.and_eq_true, Bool.or_eq_true, Option.some.injEq, Int.not_lt, Int.not_le, lp8_0, hlt, hi0, hs, hg, w1, t1, t2, w2, w3, happ]
    refine ⟨i + 1, by simp only [go_sem, reduceIte, Nat.reduceEqDiff, Nat.reduceAdd, Nat.reduceSub, Nat.reduceLeDiff, Nat.reduceLT, reduceCtorEq, Int.reduceLT, Int.reduceLE, Int.reduceEq, Int.reduceBEq, Int.reduceSub, Int.reduceAdd, Int.reduceMul, Int.reduceNeg, Int.reduceToNat, Nat.reduceMul, Nat.reduceBEq, ren1_locm, loc_tips, locT_eq, ren1_v, vAcc_snd, okRefsB, renCellsB] <;> rfl, ?_, ?_, fun x en s hq => ?_⟩
    · omega
    · omega
    · exact hq
  · obtain rfl : i = k := by omega
    simp only [go_sem, reduceIte, Nat.reduceEqDiff, Nat.reduceAdd, Nat.reduceSub, Nat.reduceLeDiff, Nat.reduceLT, reduceCtorEq, Int.reduceLT, Int.reduceLE, Int.reduceEq, Int.reduceBEq, Int.reduceSub, Int.reduceAdd, Int.reduceMul, Int.reduceNeg, Int.reduceToNat, Nat.reduceMul, Nat.reduceBEq, index_rsl_if, setm, make_ints, condK_dec, wantK_dec, not_dec, and_dec, or_dec, seqK_ite, seqK_none, blockK_ite, blockK_none, opsK_ite, opsK_none, stepK_ite, stepK_none, bodyK_ite, bodyK_none, resK_ite, resK_none, leaveK_ite, leaveK_none, only_ite, only_none, bind_ite, gives_some, gives_none, gives_ite, then_normal, then_ret, then_exit, then_none, then_ite, Option.bind_none, Bool.not_eq_true', decide_eq_false_iff_not, Bool.and_eq_true, Bool.or_eq_true, Option.some.injEq, Int.not_lt, Int.not_le, lp8_0, show ((i : Int) < (i : Int)) = False from eq_false (by omega)]

theorem loop8_1 (zs vs ss : List Int) (hsl : ss.length = 10) (hsb : ∀ a ∈ ss, Byte a) (n : Int) (ps : List (Int × Int)) (v : List Int) (k : Nat) (hk : k ≤ 10) (th : Nat) (hth : th = (vT v).length) (i : Nat) (hok : i ≤ k) (env : Env) (st : St)
    (hg : gcAV true 4 th (canon env [9, 10, 11, 67, 68, 69]) st = ([(9, .ptr 3 0), (10, vAV v), (11, sAV v (sTo ss i)), (67, .rsl 2 0 k 10 1 false), (68, I k), (69, I i)], ⟨[zs.map B8, vs.map B8, ss.map B8, bkCells true n ps], vT v ++ sT (sTo ss i)⟩)) :
    ∃ x_1 en s, lim (headed pure (run L) true [9, 10, 11, 67, 68, 69] lp8_1 4 th) env st = some (x_1, en, s) ∧ (x_1 = .exit 2 ∧ en.get 9 = .ptr 3 0 ∧ en.get 10 = vAV v ∧ en.get 11 = sAV v (sTo ss k) ∧ s = ⟨[zs.map B8, vs.map B8, ss.map B8, bkCells true n ps], vT v ++ sT (sTo ss k)⟩) := by
  refine loop_wp (α := Nat) (fun i => k - i) (fun i => i ≤ k) (fun i => ([(9, .ptr 3 0), (10, vAV v), (11, sAV v (sTo ss i)), (67, .rsl 2 0 k 10 1 false), (68, I k), (69, I i)], ⟨[zs.map B8, vs.map B8, ss.map B8, bkCells true n ps], vT v ++ sT (sTo ss i)⟩)) (fun i x_1 en s => x_1 = .exit 2 ∧ en.get 9 = .ptr 3 0 ∧ en.get 10 = vAV v ∧ en.get 11 = sAV v (sTo ss k) ∧ s = ⟨[zs.map B8, vs.map B8, ss.map B8, bkCells true n ps], vT v ++ sT (sTo ss k)⟩) (fun i hok => ?_) i hok env st hg
  subst hth
  by_cases h : i < k
  · have hs := succ64 i (by omega)
    have hlt : ((i : Int) < (k : Int)) = True := eq_true (by omega)
    have hi0 : ((0 : Int) ≤ (i : Int)) = True := eq_true (by omega)
    have hg := getB ss i (by omega)
    have hb := byte_getD hsb i
    have hsu := sTo_succ ss i
    have hbd := sOf_bd hb
    have hvl2 := sTo_len ss i
    unfold Byte at hb
    have happ := fun S => append_s v (sTo ss i) (sOf (ss.getD i 0)) S (by omega)
    rw [← hsu] at happ
    generalize hx0 : ss.getD i 0 = x at *
    have w1 := wrap64 x (by omega) (by omega)
    have t1 : x.tmod 3 = x % 3 := tmod8 (by omega)
    have t2 : x.tdiv 252 = x / 252 := tdiv8 (by omega)
    have w2 := wrap64 (x / 252) (by omega) (by omega)
    have hso : x % 3 - x / 252 = sOf x := rfl
    have w3 : IntKind.i64.wrap (x % 3 - x / 252) = sOf x := by rw [wrap64] <;> omega
    simp only [go_sem, reduceIte, Nat.reduceEqDiff, Nat.reduceAdd, Nat.reduceSub, Nat.reduceLeDiff, Nat.reduceLT, reduceCtorEq, Int.reduceLT, Int.reduceLE, Int.reduceEq, Int.reduceBEq, Int.reduceSub, Int.reduceAdd, Int.reduceMul, Int.reduceNeg, Int.reduceToNat, Nat.reduceMul, Nat.reduceBEq, index_rsl_if, setm, make_ints, condK_dec, wantK_dec, not_dec, and_dec, or_dec, seqK_ite, seqK_none, blockK_ite, blockK_none, opsK_ite, opsK_none, stepK_ite, stepK_none, bodyK_ite, bodyK_none, resK_ite, resK_none, leaveK_ite, leaveK_none, only_ite, only_none, bind_ite, gives_some, gives_none, gives_ite, then_normal, then_ret, then_exit, then_none, then_ite, Option.bind_none, Bool.not_eq_true', decide_eq_false_iff_not, Bool.and_eq_true, Bool.or_eq_true, Option.some.injEq, Int.not_lt, Int.not_le, lp8_1, hlt, hi0, hs, hg, w1, t1, t2, w2, w3, happ]
    refine ⟨i + 1, by simp only [go_sem, reduceIte, Nat.reduceEqDiff, Nat.reduceAdd, Nat.reduceSub, Nat.reduceLeDiff, Nat.reduceLT, reduceCtorEq, Int.reduceLT, Int.reduceLE, Int.reduceEq, Int.reduceBEq, Int.reduceSub, Int.reduceAdd, Int.reduceMul, Int.reduceNeg, Int.reduceToNat, Nat.reduceMul, Nat.reduceBEq, ren1_locm, loc_tips, locT_eq, ren1_vH, ren1_sH, sAcc_snd, take_vT, okRefsB, renCellsB] <;> rfl, ?_, ?_, fun x en s hq => ?_⟩
    · omega
    · omega
    · exact hq
  · obtain rfl : i = k := by omega
    simp only [go_sem, reduceIte, Nat.reduceEqDiff, Nat.reduceAdd, Nat.reduceSub, Nat.reduceLeDiff, Nat.reduceLT, reduceCtorEq, Int.reduceLT, Int.reduceLE, Int.reduceEq, Int.reduceBEq, Int.reduceSub, Int.reduceAdd, Int.reduceMul, Int.reduceNeg, Int.reduceToNat, Nat.reduceMul, Nat.reduceBEq, index_rsl_if, setm, make_ints, condK_dec, wantK_dec, not_dec, and_dec, or_dec, seqK_ite, seqK_none, blockK_ite, blockK_none, opsK_ite, opsK_none, stepK_ite, stepK_none, bodyK_ite, bodyK_none, resK_ite, resK_none, leaveK_ite, leaveK_none, only_ite, only_none, bind_ite, gives_some, gives_none, gives_ite, then_normal, then_ret, then_exit, then_none, then_ite, Option.bind_none, Bool.not_eq_true', decide_eq_false_iff_not, Bool.and_eq_true, Bool.or_eq_true, Option.some.injEq, Int.not_lt, Int.not_le, lp8_1, show ((i : Int) < (i : Int)) = False from eq_false (by omega)]

theorem loop8_2 (zs vs ss : List Int) (n : Nat) (hn : n ≤ 7) (ps : List (Int × Int)) (hlen : ps.length ≤ 10) (hps : ∀ p ∈ ps, 0 ≤ p.1 ∧ p.1 < p.2 ∧ p.2 < (n : Int)) (v w : List Int) (hv : v.length = n) (hb : ∀ x ∈ v, 0 ≤ x ∧ x ≤ 2) (th : Nat) (hth : th = (vT v ++ sT w).length) (i : Nat) (e : Int) (hok : i ≤ ps.length) (env : Env) (st : St)
    (hg : gcAV true 4 th (canon env [9, 10, 11, 16, 85, 86, 87]) st = ([(9, .ptr 3 0), (10, vAV v), (11, sAV v w), (16, I e), (85, sl 2 true (ps.map prAV)), (86, I ps.length), (87, I i)], ⟨[zs.map B8, vs.map B8, ss.map B8, bkCells true n ps], vT v ++ sT w⟩)) :
    ∃ x_1 en s, lim (headed pure (run L) true [9, 10, 11, 16, 85, 86, 87] lp8_2 4 th) env st = some (x_1, en, s) ∧ (x_1 = .exit 5 ∧ en.get 9 = .ptr 3 0 ∧ en.get 10 = vAV v ∧ en.get 11 = sAV v w ∧ en.get 16 = I (if halfOk (ps.drop i) v = true then e else 21) ∧ s = ⟨[zs.map B8, vs.map B8, ss.map B8, bkCells true n ps], vT v ++ sT w⟩) := by
  refine loop_wp (α := Nat × Int) (fun ⟨i, e⟩ => ps.length - i) (fun ⟨i, e⟩ => i ≤ ps.length) (fun ⟨i, e⟩ => ([(9, .ptr 3 0), (10, vAV v), (11, sAV v w), (16, I e), (85, sl 2 true (ps.map prAV)), (86, I ps.length), (87, I i)], ⟨[zs.map B8, vs.map B8, ss.map B8, bkCells true n ps], vT v ++ sT w⟩)) (fun ⟨i, e⟩ x_1 en s => x_1 = .exit 5 ∧ en.get 9 = .ptr 3 0 ∧ en.get 10 = vAV v ∧ en.get 11 = sAV v w ∧ en.get 16 = I (if halfOk (ps.drop i) v = true then e else 21) ∧ s = ⟨[zs.map B8, vs.map B8, ss.map B8, bkCells true n ps], vT v ++ sT w⟩) (fun ⟨i, e⟩ hok => ?_) ⟨i, e⟩ hok env st hg
  simp only at hok
  subst hth
  dsimp only
  by_cases h : i < ps.length
  · have hx := index_prs true ps i h
    have hs := succ64 i (by omega)
    have hd : ps.drop i = ps[i] :: ps.drop (i + 1) := List.drop_eq_getElem_cons h
    have hp := hps ps[i] (List.getElem_mem h)
    have hlt : ((i : Int) < (ps.length : Int)) = True := eq_true (by omega)
    rw [hd]
    generalize ps[i] = c at *
    obtain ⟨a, b⟩ := c
    simp only at hx hp
    have hxa := index_v v a (by omega) (by omega)
    have hxb := index_v v b (by omega) (by omega)
    have hba := getD_bd (B := 2) (by omega) hb a.toNat
    have hbb := getD_bd (B := 2) (by omega) hb b.toNat
    have hE : enough v (a, b) = decide (2 ≤ v.getD a.toNat 0 + v.getD b.toNat 0) := rfl
    simp only [halfOk, List.all_cons, hE]
    generalize v.getD a.toNat 0 = x at *
    generalize v.getD b.toNat 0 = y at *
    have hw : IntKind.i64.wrap (x + y) = x + y := by rw [wrap64] <;> omega
    by_cases p : x + y < 2
    · have hdec : decide (2 ≤ x + y) = false := decide_eq_false (by omega)
      simp only [go_sem, reduceIte, Nat.reduceEqDiff, Nat.reduceAdd, Nat.reduceSub, Nat.reduceLeDiff, Nat.reduceLT, reduceCtorEq, Int.reduceLT, Int.reduceLE, Int.reduceEq, Int.reduceBEq, Int.reduceSub, Int.reduceAdd, Int.reduceMul, Int.reduceNeg, Int.reduceToNat, Nat.reduceMul, Nat.reduceBEq, index_rsl_if, setm, make_ints, condK_dec, wantK_dec, not_dec, and_dec, or_dec, seqK_ite, seqK_none, blockK_ite, blockK_none, opsK_ite, opsK_none, stepK_ite, stepK_none, bodyK_ite, bodyK_none, resK_ite, resK_none, leaveK_ite, leaveK_none, only_ite, only_none, bind_ite, gives_some, gives_none, gives_ite, then_normal, then_ret, then_exit, then_none, then_ite, Option.bind_none, Bool.not_eq_true', decide_eq_false_iff_not, Bool.and_eq_true, Bool.or_eq_true, Option.some.injEq, Int.not_lt, Int.not_le, lp8_2, hx, hlt, hxa, hxb, hw, p, hs]
      refine ⟨(i + 1, (21 : Int)), by simp only [go_sem, reduceIte, Nat.reduceEqDiff, Nat.reduceAdd, Nat.reduceSub, Nat.reduceLeDiff, Nat.reduceLT, reduceCtorEq, Int.reduceLT, Int.reduceLE, Int.reduceEq, Int.reduceBEq, Int.reduceSub, Int.reduceAdd, Int.reduceMul, Int.reduceNeg, Int.reduceToNat, Nat.reduceMul, Nat.reduceBEq, ren1_locm, loc_tips, locT_eq, ren1_vH2, ren1_sH2, List.take_length, okRefsB, renCellsB] <;> rfl, ?_, ?_, fun x en s hq => ?_⟩
      · omega
      · simp only; omega
      · rw [if_neg (fun h => absurd h.1 (of_decide_eq_false hdec))]
        refine ⟨hq.1, hq.2.1, hq.2.2.1, hq.2.2.2.1, ?_, hq.2.2.2.2.2⟩
        rw [hq.2.2.2.2.1]
        show I (if ((ps.drop (i + 1)).all (enough v)) = true then 21 else 21) = I 21
        cases (ps.drop (i + 1)).all (enough v) <;> rfl
    · have hdec : decide (2 ≤ x + y) = true := decide_eq_true (by omega)
      simp only [go_sem, reduceIte, Nat.reduceEqDiff, Nat.reduceAdd, Nat.reduceSub, Nat.reduceLeDiff, Nat.reduceLT, reduceCtorEq, Int.reduceLT, Int.reduceLE, Int.reduceEq, Int.reduceBEq, Int.reduceSub, Int.reduceAdd, Int.reduceMul, Int.reduceNeg, Int.reduceToNat, Nat.reduceMul, Nat.reduceBEq, index_rsl_if, setm, make_ints, condK_dec, wantK_dec, not_dec, and_dec, or_dec, seqK_ite, seqK_none, blockK_ite, blockK_none, opsK_ite, opsK_none, stepK_ite, stepK_none, bodyK_ite, bodyK_none, resK_ite, resK_none, leaveK_ite, leaveK_none, only_ite, only_none, bind_ite, gives_some, gives_none, gives_ite, then_normal, then_ret, then_exit, then_none, then_ite, Option.bind_none, Bool.not_eq_true', decide_eq_false_iff_not, Bool.and_eq_true, Bool.or_eq_true, Option.some.injEq, Int.not_lt, Int.not_le, lp8_2, hx, hlt, hxa, hxb, hw, p, hs]
      refine ⟨(i + 1, e), by simp only [go_sem, reduceIte, Nat.reduceEqDiff, Nat.reduceAdd, Nat.reduceSub, Nat.reduceLeDiff, Nat.reduceLT, reduceCtorEq, Int.reduceLT, Int.reduceLE, Int.reduceEq, Int.reduceBEq, Int.reduceSub, Int.reduceAdd, Int.reduceMul, Int.reduceNeg, Int.reduceToNat, Nat.reduceMul, Nat.reduceBEq, ren1_locm, loc_tips, locT_eq, ren1_vH2, ren1_sH2, List.take_length, okRefsB, renCellsB] <;> rfl, ?_, ?_, fun x en s hq => ?_⟩
      · omega
      · simp only; omega
      · simp only [of_decide_eq_true hdec, true_and]; exact hq
  · have hd : ps.drop i = [] := List.drop_eq_nil_of_le (by omega)
    have hlt : ((i : Int) < (ps.length : Int)) = False := eq_false (by omega)
    simp only [go_sem, reduceIte, Nat.reduceEqDiff, Nat.reduceAdd, Nat.reduceSub, Nat.reduceLeDiff, Nat.reduceLT, reduceCtorEq, Int.reduceLT, Int.reduceLE, Int.reduceEq, Int.reduceBEq, Int.reduceSub, Int.reduceAdd, Int.reduceMul, Int.reduceNeg, Int.reduceToNat, Nat.reduceMul, Nat.reduceBEq, index_rsl_if, setm, make_ints, condK_dec, wantK_dec, not_dec, and_dec, or_dec, seqK_ite, seqK_none, blockK_ite, blockK_none, opsK_ite, opsK_none, stepK_ite, stepK_none, bodyK_ite, bodyK_none, resK_ite, resK_none, leaveK_ite, leaveK_none, only_ite, only_none, bind_ite, gives_some, gives_none, gives_ite, then_normal, then_ret, then_exit, then_none, then_ite, Option.bind_none, Bool.not_eq_true', decide_eq_false_iff_not, Bool.and_eq_true, Bool.or_eq_true, Option.some.injEq, Int.not_lt, Int.not_le, lp8_2, hlt]
    rw [hd]; simp [halfOk]

set_option maxHeartbeats 1000000 in
theorem loop8_3 (zs vs ss : List Int) (n : Int) (ps : List (Int × Int)) (hlen : ps.length ≤ 10) (h7 : ∀ p ∈ ps, okP p) (v w : List Int) (hwl : w.length = ps.length) (hb : ∀ x ∈ w, 0 ≤ x ∧ x ≤ 2) (e16 e19 : Int) (th : Nat) (hth : th = (vT v ++ sT w).length) (i : Nat) (o : List Int) (hok : i ≤ ps.length ∧ o.length = 7 ∧ ∀ x ∈ o, 0 ≤ x ∧ x ≤ 4 * i) (env : Env) (st : St)
    (hg : gcAV true 5 th (canon env [9, 10, 11, 16, 19, 20, 115, 116, 117]) st = ([(9, .ptr 3 0), (10, vAV v), (11, sAV v w), (16, I e16), (19, I e19), (20, .ptr 4 0), (115, sl 2 true (ps.map prAV)), (116, I ps.length), (117, I i)], ⟨[zs.map B8, vs.map B8, ss.map B8, bkCells true n ps, o.map I], vT v ++ sT w⟩)) :
    ∃ x_1 en s, lim (headed pure (run L) true [9, 10, 11, 16, 19, 20, 115, 116, 117] lp8_3 5 th) env st = some (x_1, en, s) ∧ (x_1 = .exit 8 ∧ en.get 9 = .ptr 3 0 ∧ en.get 10 = vAV v ∧ en.get 11 = sAV v w ∧ en.get 16 = I e16 ∧ en.get 19 = I e19 ∧ en.get 20 = .ptr 4 0 ∧ s = ⟨[zs.map B8, vs.map B8, ss.map B8, bkCells true n ps, (((ps.zip w).drop i).foldl has1 o).map I], vT v ++ sT w⟩ ∧ (((ps.zip w).drop i).foldl has1 o).length = 7) := by
  refine loop_wp (α := Nat × List Int) (fun ⟨i, o⟩ => ps.length - i) (fun ⟨i, o⟩ => i ≤ ps.length ∧ o.length = 7 ∧ ∀ x ∈ o, 0 ≤ x ∧ x ≤ 4 * i) (fun ⟨i, o⟩ => ([(9, .ptr 3 0), (10, vAV v), (11, sAV v w), (16, I e16), (19, I e19), (20, .ptr 4 0), (115, sl 2 true (ps.map prAV)), (116, I ps.length), (117, I i)], ⟨[zs.map B8, vs.map B8, ss.map B8, bkCells true n ps, o.map I], vT v ++ sT w⟩)) (fun ⟨i, o⟩ x_1 en s => x_1 = .exit 8 ∧ en.get 9 = .ptr 3 0 ∧ en.get 10 = vAV v ∧ en.get 11 = sAV v w ∧ en.get 16 = I e16 ∧ en.get 19 = I e19 ∧ en.get 20 = .ptr 4 0 ∧ s = ⟨[zs.map B8, vs.map B8, ss.map B8, bkCells true n ps, (((ps.zip w).drop i).foldl has1 o).map I], vT v ++ sT w⟩ ∧ (((ps.zip w).drop i).foldl has1 o).length = 7) (fun ⟨i, o⟩ hok => ?_) ⟨i, o⟩ hok env st hg
  simp only at hok
  subst hth
  obtain ⟨h1, h2, h3⟩ := hok
  dsimp only
  by_cases h : i < ps.length
  · have hx := index_prs true ps i h
    have hy := index_s v w i (by omega)
    have hs := succ64 i (by omega)
    have hzl : i < (ps.zip w).length := by rw [List.length_zip]; omega
    have hd : (ps.zip w).drop i = (ps.zip w)[i] :: (ps.zip w).drop (i + 1) := List.drop_eq_getElem_cons hzl
    have hze : (ps.zip w)[i] = (ps[i], w[i]) := by simp
    have hp := h7 ps[i] (List.getElem_mem h)
    have hbx := hb w[i] (List.getElem_mem (by omega))
    rw [hd, hze, List.foldl_cons]
    generalize ps[i] = c at *
    generalize w[i] = x at *
    obtain ⟨u, y⟩ := c
    obtain ⟨a1, a2, a3, a4⟩ := hp
    simp only at a1 a2 a3 a4 hx
    obtain ⟨u, rfl⟩ := Int.eq_ofNat_of_zero_le a1
    obtain ⟨y, rfl⟩ := Int.eq_ofNat_of_zero_le a3
    have hlt : ((i : Int) < (ps.length : Int)) = True := eq_true (by omega)
    have hs1 := addAt_bd h3 u hbx
    have hl1 := addAt_len o u x
    have hs2 := addAt_bd hs1 y hbx
    have hl2 := addAt_len (addAt o u x) y x
    have k1 := getD_bd (by omega) h3 u
    have k2 := getD_bd (by omega) hs1 y
    have w1 : IntKind.i64.wrap (o.getD u 0 + x) = o.getD u 0 + x := by rw [wrap64] <;> omega
    have w2 : IntKind.i64.wrap ((addAt o u x).getD y 0 + x) = (addAt o u x).getD y 0 + x := by rw [wrap64] <;> omega
    have g1 := getI o u (by omega)
    have g2 := getI (addAt o u x) y (by omega)
    have hset1 : o.set u (o.getD u 0 + x) = addAt o u x := rfl
    have hset2 : (addAt o u x).set y ((addAt o u x).getD y 0 + x) = has1 o (((u : Int), (y : Int)), x) := rfl
    have hadv : has1 o (((u : Int), (y : Int)), x) = addAt (addAt o u x) y x := rfl
    have b1 : ((0 : Int) ≤ (u : Int)) = True := eq_true (by omega)
    have b2 : ((u : Int) < 7) = True := eq_true (by omega)
    have b3 : ((0 : Int) ≤ (y : Int)) = True := eq_true (by omega)
    have b4 : ((y : Int) < 7) = True := eq_true (by omega)
    have b5 : (u + 1 ≤ 7) = True := eq_true (by omega)
    have b6 : (y + 1 ≤ 7) = True := eq_true (by omega)
    rw [h2] at hl1
    rw [hl1] at hl2
    rw [← hadv] at hs2 hl2
    generalize has1 o (((u : Int), (y : Int)), x) = o2 at *
    simp only [go_sem, reduceIte, Nat.reduceEqDiff, Nat.reduceAdd, Nat.reduceSub, Nat.reduceLeDiff, Nat.reduceLT, reduceCtorEq, Int.reduceLT, Int.reduceLE, Int.reduceEq, Int.reduceBEq, Int.reduceSub, Int.reduceAdd, Int.reduceMul, Int.reduceNeg, Int.reduceToNat, Nat.reduceMul, Nat.reduceBEq, index_rsl_if, setm, make_ints, condK_dec, wantK_dec, not_dec, and_dec, or_dec, seqK_ite, seqK_none, blockK_ite, blockK_none, opsK_ite, opsK_none, stepK_ite, stepK_none, bodyK_ite, bodyK_none, resK_ite, resK_none, leaveK_ite, leaveK_none, only_ite, only_none, bind_ite, gives_some, gives_none, gives_ite, then_normal, then_ret, then_exit, then_none, then_ite, Option.bind_none, Bool.not_eq_true', decide_eq_false_iff_not, Bool.and_eq_true, Bool.or_eq_true, Option.some.injEq, Int.not_lt, Int.not_le, lp8_3, hx, hy, hlt, hs, b1, b2, b3, b4, b5, b6, g1, g2, w1, w2, hset1, hset2, h2, hl1, hl2, List.length_map]
    refine ⟨(i + 1, o2), by simp only [go_sem, reduceIte, Nat.reduceEqDiff, Nat.reduceAdd, Nat.reduceSub, Nat.reduceLeDiff, Nat.reduceLT, reduceCtorEq, Int.reduceLT, Int.reduceLE, Int.reduceEq, Int.reduceBEq, Int.reduceSub, Int.reduceAdd, Int.reduceMul, Int.reduceNeg, Int.reduceToNat, Nat.reduceMul, Nat.reduceBEq, ren1_locm, loc_tips, locT_eq, ren1_vH2, ren1_sH2, List.take_length, okRefsB, renCellsB] <;> rfl, ?_, ?_, fun x en s hq => ?_⟩
    · dsimp only; exact ⟨by omega, hl2, fun y hy => by have := hs2 y hy; omega⟩
    · simp only; omega
    · exact hq
  · have hd : (ps.zip w).drop i = [] := List.drop_eq_nil_of_le (by rw [List.length_zip]; omega)
    have hlt : ((i : Int) < (ps.length : Int)) = False := eq_false (by omega)
    simp only [go_sem, reduceIte, Nat.reduceEqDiff, Nat.reduceAdd, Nat.reduceSub, Nat.reduceLeDiff, Nat.reduceLT, reduceCtorEq, Int.reduceLT, Int.reduceLE, Int.reduceEq, Int.reduceBEq, Int.reduceSub, Int.reduceAdd, Int.reduceMul, Int.reduceNeg, Int.reduceToNat, Nat.reduceMul, Nat.reduceBEq, index_rsl_if, setm, make_ints, condK_dec, wantK_dec, not_dec, and_dec, or_dec, seqK_ite, seqK_none, blockK_ite, blockK_none, opsK_ite, opsK_none, stepK_ite, stepK_none, bodyK_ite, bodyK_none, resK_ite, resK_none, leaveK_ite, leaveK_none, only_ite, only_none, bind_ite, gives_some, gives_none, gives_ite, then_normal, then_ret, then_exit, then_none, then_ite, Option.bind_none, Bool.not_eq_true', decide_eq_false_iff_not, Bool.and_eq_true, Bool.or_eq_true, Option.some.injEq, Int.not_lt, Int.not_le, lp8_3, hlt]
    rw [hd]; exact ⟨rfl, h2⟩


/-! ### shares are worth no more than values cost -/
theorem sum_upd {f g : Nat → Int} {i : Nat} {d : Int} : ∀ l : List Nat, l.Nodup → i ∈ l → (∀ a ∈ l, a ≠ i → f a = g a) → f i = g i + d → sumL (l.map f) = sumL (l.map g) + d
  | [], _, hi, _, _ => by simp at hi
  | a :: r, hn, hi, h, hd => by
    rw [List.nodup_cons] at hn
    simp only [List.map_cons, sumL]
    by_cases e : a = i
    · subst e
      have : r.map f = r.map g := List.map_congr_left (fun b hb => h b (by simp [hb]) (fun e => hn.1 (e ▸ hb)))
      rw [this, hd]; omega
    · have h1 := sum_upd r hn.2 (by simpa [Ne.symm e] using hi) (fun b hb => h b (by simp [hb])) hd
      rw [h1, h a (by simp) e]; omega
def dot (n : Nat) (v o : List Int) : Int := sumL ((List.range n).map fun a => v.getD a 0 * o.getD a 0)
theorem dot_addAt {n : Nat} (v o : List Int) {i : Nat} (hi : i < n) (ho : i < o.length) (x : Int) : dot n v (addAt o i x) = dot n v o + v.getD i 0 * x := by
  unfold dot
  apply sum_upd (i := i) _ List.nodup_range (List.mem_range.2 hi)
  · intro a _ hne; rw [addAt_getD _ _ _ _ ho, if_neg hne]
  · rw [addAt_getD _ _ _ _ ho, if_pos rfl, Int.mul_add]
def wsum (v : List Int) (l : List ((Int × Int) × Int)) : Int := sumL (l.map fun e => (v.getD e.1.1.toNat 0 + v.getD e.1.2.toNat 0) * e.2)
theorem has1_len (o : List Int) (e : (Int × Int) × Int) : (has1 o e).length = o.length := by simp [has1, addAt_len]
theorem dot_fold {n : Nat} (hn : n ≤ 7) (v : List Int) : ∀ (l : List ((Int × Int) × Int)) (o : List Int), o.length = 7 → (∀ e ∈ l, 0 ≤ e.1.1 ∧ e.1.1 < e.1.2 ∧ e.1.2 < (n : Int)) → dot n v (l.foldl has1 o) = dot n v o + wsum v l
  | [], o, _, _ => by simp [wsum, sumL]
  | e :: r, o, ho, h => by
    have he := h e (by simp)
    rw [List.foldl_cons, dot_fold hn v r _ (by rw [has1_len, ho]) (fun x hx => h x (by simp [hx]))]
    unfold has1
    rw [dot_addAt v _ (by omega) (by rw [addAt_len]; omega), dot_addAt v _ (by omega) (by omega)]
    simp only [wsum, List.map_cons, sumL, Int.add_mul]; omega
theorem sum_le2 {α : Type} {f g : α → Int} : ∀ l : List α, (∀ a ∈ l, f a ≤ g a) → sumL (l.map f) ≤ sumL (l.map g)
  | [], _ => by simp
  | a :: r, h => by
    have h1 := sum_le2 (f := f) (g := g) r (fun x hx => h x (by simp [hx]))
    have h2 := h a (by simp)
    simp only [List.map_cons, sumL]; omega
theorem sum_two {α : Type} (f : α → Int) : ∀ l : List α, sumL (l.map fun a => f a * 2) = 2 * sumL (l.map f)
  | [] => by simp [sumL]
  | a :: r => by
    have := sum_two f r
    simp only [List.map_cons, sumL]; omega
theorem weak {n : Nat} (hn : n ≤ 7) {ps : List (Int × Int)} (hps : ∀ p ∈ ps, 0 ≤ p.1 ∧ p.1 < p.2 ∧ p.2 < (n : Int)) {v s : List Int} (hv : v.length = n) (hvb : ∀ x ∈ v, 0 ≤ x ∧ x ≤ 2) (hs : s.length = ps.length) (hsb : ∀ x ∈ s, 0 ≤ x ∧ x ≤ 2)
    (hh : halfOk ps v = true) (ho : overB ps s = false) : sumL s ≤ sumL v := by
  have hz : ∀ e ∈ ps.zip s, e.1 ∈ ps ∧ e.2 ∈ s := fun e he => ⟨(List.of_mem_zip he).1, (List.of_mem_zip he).2⟩
  have h1 := dot_fold hn v (ps.zip s) (List.replicate 7 0) (by simp) (fun e he => hps _ (hz e he).1)
  have h0 : dot n v (List.replicate 7 0) = 0 := by
    have : ∀ l : List Nat, sumL (l.map fun a => v.getD a 0 * (List.replicate 7 (0 : Int)).getD a 0) = 0 := by
      intro l
      induction l with
      | nil => rfl
      | cons a r ih =>
        simp only [List.map_cons, sumL, ih]
        rw [List.getD_eq_getElem?_getD (l := List.replicate 7 (0 : Int)), List.getElem?_replicate]
        split <;> simp
    exact this _
  have he : (ps.zip s).foldl has1 (List.replicate 7 0) = hasL ps s := rfl
  rw [h0, he, Int.zero_add] at h1
  -- each pair has enough
  have h2 : 2 * sumL s ≤ wsum v (ps.zip s) := by
    have e : sumL s = sumL ((ps.zip s).map fun e => e.2) := by
      have := List.map_snd_zip (l₁ := ps) (l₂ := s) (by omega)
      have e2 : (ps.zip s).map (fun e => e.2) = s := this
      rw [e2]
    rw [e, ← sum_two]
    apply sum_le2
    intro e he
    obtain ⟨m1, m2⟩ := hz e he
    have g1 := List.all_eq_true.1 hh _ m1
    simp only [enough, decide_eq_true_iff] at g1
    have g2 := (hsb _ m2).1
    have := Int.mul_le_mul_of_nonneg_left g1 g2
    rw [Int.mul_comm (v.getD _ 0 + v.getD _ 0)]
    exact this
  -- no article has more than 2
  have h3 : dot n v (hasL ps s) ≤ 2 * sumL v := by
    have e : sumL v = sumL ((List.range n).map fun a => v.getD a 0) := by rw [← list_range v n hv]
    rw [e, ← sum_two]
    unfold dot
    apply sum_le2
    intro a _
    have g1 : 0 ≤ v.getD a 0 := (getD_bd (B := 2) (by omega) hvb a).1
    have g2 : (hasL ps s).getD a 0 ≤ 2 := by
      unfold overB at ho
      rw [List.any_eq_false] at ho
      rw [List.getD_eq_getElem?_getD]
      cases h4 : (hasL ps s)[a]?
      · simp
      · have := ho _ (List.mem_of_getElem? h4); simpa using this
    exact Int.mul_le_mul_of_nonneg_left g2 g1
  omega

/-! ### what is accepted, by the outright words -/
def halvesE (n : Nat) (ps : List (Int × Int)) (v : List Int) : Int := if v.length = n then (if ∃ x ∈ v, 2 < x then 1 else if halfOk ps v = true then 0 else 21) else 5
def sharedE (ps : List (Int × Int)) (s : List Int) : Int := if s.length = ps.length then (if (-1 : Int) ∈ s then 1 else if overB ps s = true then 15 else 0) else 5
theorem halves_eq {n : Nat} {ps : List (Int × Int)} {v : List Int} (hc : chk n ps = 0) (hv : ∀ x ∈ v, 0 ≤ x) : (halvedV n ps v).2 = halvesE n ps v := by
  unfold halvedV halvesE numbersV
  rw [if_pos hc]
  by_cases p : v.length = n
  · have p' : (v.length : Int) = (n : Int) := by omega
    rw [if_pos p, if_pos p']
    by_cases q : ∃ x ∈ v, 2 < x
    · have q' : ¬ v.all in02 = true := by
        intro h; obtain ⟨x, hx, h2⟩ := q; have := all02 h x hx; omega
      rw [if_pos q, if_neg q']; rfl
    · have q' : v.all in02 = true := by
        rw [List.all_eq_true]; intro x hx
        have h1 := hv x hx
        have h2 : ¬ 2 < x := fun h => q ⟨x, hx, h⟩
        exact decide_eq_true (by omega)
      rw [if_neg q, if_pos q']
      by_cases r : halfOk ps v = true
      · simp [r]
      · simp [r]
  · have p' : ¬ (v.length : Int) = (n : Int) := by omega
    rw [if_neg p, if_neg p']; rfl
theorem shared_eq {n : Nat} {ps : List (Int × Int)} {s : List Int} (hc : chk n ps = 0) (hs : ∀ x ∈ s, -1 ≤ x ∧ x ≤ 2) : (sharedV n ps s).2 = sharedE ps s := by
  unfold sharedV sharedE numbersV
  rw [if_pos hc]
  by_cases p : s.length = ps.length
  · have p' : (s.length : Int) = (ps.length : Int) := by omega
    rw [if_pos p, if_pos p']
    by_cases q : (-1 : Int) ∈ s
    · have q' : ¬ s.all in02 = true := by
        intro h; have := all02 h _ q; omega
      rw [if_pos q, if_neg q']; rfl
    · have q' : s.all in02 = true := by
        rw [List.all_eq_true]; intro x hx
        have h1 := hs x hx
        have h2 : x ≠ -1 := fun h => q (h ▸ hx)
        exact decide_eq_true (by omega)
      rw [if_neg q, if_pos q']
      by_cases r : overB ps s = true
      · simp [r]
      · simp [r]
  · have p' : ¬ (s.length : Int) = (ps.length : Int) := by omega
    rw [if_neg p, if_neg p']; rfl
theorem halvesE_zero {n : Nat} {ps : List (Int × Int)} {v : List Int} (hv : ∀ x ∈ v, 0 ≤ x) (h : halvesE n ps v = 0) : v.length = n ∧ (∀ x ∈ v, 0 ≤ x ∧ x ≤ 2) ∧ halfOk ps v = true := by
  unfold halvesE at h
  split at h
  · next h1 =>
    split at h
    · simp at h
    · next h2 =>
      split at h
      · next h3 => exact ⟨h1, fun x hx => ⟨hv x hx, by have : ¬ 2 < x := fun h => h2 ⟨x, hx, h⟩; omega⟩, h3⟩
      · simp at h
  · simp at h
theorem sharedE_zero {ps : List (Int × Int)} {s : List Int} (hs : ∀ x ∈ s, -1 ≤ x ∧ x ≤ 2) (h : sharedE ps s = 0) : s.length = ps.length ∧ (∀ x ∈ s, 0 ≤ x ∧ x ≤ 2) ∧ overB ps s = false := by
  unfold sharedE at h
  split at h
  · next h1 =>
    split at h
    · simp at h
    · next h2 =>
      split at h
      · simp at h
      · next h3 => exact ⟨h1, fun x hx => by have := hs x hx; have : x ≠ -1 := fun e => h2 (e ▸ hx); omega, by simpa using h3⟩
  · simp at h
theorem proves_eq {n : Nat} (hn : n ≤ 7) {ps : List (Int × Int)} (hps : ∀ p ∈ ps, 0 ≤ p.1 ∧ p.1 < p.2 ∧ p.2 < (n : Int)) (hc : chk n ps = 0) {v s : List Int} (hv : ∀ x ∈ v, 0 ≤ x) (hs : ∀ x ∈ s, -1 ≤ x ∧ x ≤ 2) :
    provesV n ps v s = (if halvesE n ps v = 0 then (if sharedE ps s = 0 then (if sumL s < sumL v then 14 else 0) else sharedE ps s) else halvesE n ps v) ∧ (halvesE n ps v = 0 → sharedE ps s = 0 → sumL s ≤ sumL v ∧ v.all in02 = true ∧ s.all in02 = true) := by
  have hw : halvesE n ps v = 0 → sharedE ps s = 0 → sumL s ≤ sumL v ∧ v.all in02 = true ∧ s.all in02 = true := by
    intro h1 h2
    obtain ⟨a1, a2, a3⟩ := halvesE_zero hv h1
    obtain ⟨b1, b2, b3⟩ := sharedE_zero hs h2
    exact ⟨weak hn hps a1 a2 b1 b2 a3 b3, List.all_eq_true.2 (fun x hx => decide_eq_true (a2 x hx)), List.all_eq_true.2 (fun x hx => decide_eq_true (b2 x hx))⟩
  refine ⟨?_, hw⟩
  unfold provesV
  rw [halves_eq hc hv, shared_eq hc hs]
  by_cases p1 : halvesE n ps v = 0
  · rw [if_pos p1, if_pos p1]
    by_cases p2 : sharedE ps s = 0
    · rw [if_pos p2, if_pos p2]
      obtain ⟨w1, w2, w3⟩ := hw p1 p2
      obtain ⟨a1, a2, a3⟩ := halvesE_zero hv p1
      obtain ⟨b1, b2, b3⟩ := sharedE_zero hs p2
      have e1 : (halvedV n ps v).1 = sumL v := by
        unfold halvedV numbersV
        rw [if_pos hc, if_pos (show (v.length : Int) = (n : Int) by omega), if_pos w2, if_pos rfl, if_pos a3]
      have e2 : (sharedV n ps s).1 = sumL s := by
        unfold sharedV numbersV
        rw [if_pos hc, if_pos (show (s.length : Int) = (ps.length : Int) by omega), if_pos w3, if_pos rfl, if_neg (by rw [b3]; simp)]
      rw [e1, e2]
      split <;> split <;> omega
    · rw [if_neg p2, if_neg p2]
  · rw [if_neg p1, if_neg p1]

attribute [local go_sem] okRef_v pub_v len_v okRef_s pub_s len_s

def blk8_4 : IC := (.block 4 (.seq (.ops [⟨(some 105), none, .move (.tmp 10)⟩, ⟨(some 106), none, .len (.tmp 105)⟩, ⟨(some 107), none, .fieldAddr 0 (.tmp 9)⟩, ⟨(some 108), none, .load 1 false (.tmp 107)⟩, ⟨(some 109), none, .bin .neq none (.tmp 106) (.tmp 108)⟩, ⟨(some 104), none, .move (.tmp 109)⟩])
    (.cond (.tmp 104) (.ops [⟨(some 16), none, .move (.const (.int .i64 5))⟩])
    (.seq (.ops [⟨(some 111), none, .move (.tmp 10)⟩, ⟨(some 112), none, .call false 48 [(.tmp 111)]⟩, ⟨(some 113), none, .bin .gtr none (.tmp 112) (.const (.int .i64 2))⟩, ⟨(some 110), none, .move (.tmp 113)⟩])
      (.cond (.tmp 110) (.ops [⟨(some 16), none, .move (.const (.int .i64 1))⟩])
      (.seq (.ops [⟨(some 84), none, .fieldAddr 1 (.tmp 9)⟩, ⟨(some 85), none, .load 1 false (.tmp 84)⟩, ⟨(some 86), none, .len (.tmp 85)⟩, ⟨(some 87), none, .move (.const (.int .i64 0))⟩])
        (.block 5 (.loop true [9, 10, 11, 16, 85, 86, 87] lp8_2))))))))
def blk8_7 : IC := (.block 7 (.seq (.ops [⟨(some 147), none, .move (.tmp 11)⟩, ⟨(some 148), none, .len (.tmp 147)⟩, ⟨(some 149), none, .fieldAddr 1 (.tmp 9)⟩, ⟨(some 150), none, .load 1 false (.tmp 149)⟩, ⟨(some 151), none, .len (.tmp 150)⟩, ⟨(some 152), none, .bin .neq none (.tmp 148) (.tmp 151)⟩, ⟨(some 146), none, .move (.tmp 152)⟩])
    (.cond (.tmp 146) (.ops [⟨(some 19), none, .move (.const (.int .i64 5))⟩])
    (.seq (.ops [⟨(some 154), none, .move (.tmp 11)⟩, ⟨(some 155), none, .call true 49 [(.tmp 154), (.const (.int .i64 (-1)))]⟩, ⟨(some 153), none, .move (.tmp 155)⟩])
      (.cond (.tmp 153) (.ops [⟨(some 19), none, .move (.const (.int .i64 1))⟩])
      (.seq (.ops [⟨(some 20), none, .alloc [(.v (.int .i64 0)), (.v (.int .i64 0)), (.v (.int .i64 0)), (.v (.int .i64 0)), (.v (.int .i64 0)), (.v (.int .i64 0)), (.v (.int .i64 0))]⟩])
        (.seq (.seq (.ops [⟨(some 114), none, .fieldAddr 1 (.tmp 9)⟩, ⟨(some 115), none, .load 1 false (.tmp 114)⟩, ⟨(some 116), none, .len (.tmp 115)⟩, ⟨(some 117), none, .move (.const (.int .i64 0))⟩])
        (.block 8 (.loop true [9, 10, 11, 16, 19, 20, 115, 116, 117] lp8_3)))
        (.seq (.ops [⟨(some 143), none, .slicea 7 1 false (.tmp 20) none none none⟩, ⟨(some 144), none, .call false 48 [(.tmp 143)]⟩, ⟨(some 145), none, .bin .gtr none (.tmp 144) (.const (.int .i64 2))⟩])
        (.cond (.tmp 145) (.ops [⟨(some 19), none, .move (.const (.int .i64 15))⟩])
        .skip)))))))))
def tail8 : IC := (.seq (.ops [⟨(some 156), none, .move (.tmp 16)⟩, ⟨(some 23), none, .move (.tmp 156)⟩])
  (.seq (.seq (.ops [⟨(some 157), none, .move (.tmp 23)⟩, ⟨(some 158), none, .bin .eql none (.tmp 157) (.const (.int .i64 0))⟩])
  (.cond (.tmp 158) (.ops [⟨(some 159), none, .move (.tmp 19)⟩, ⟨(some 23), none, .move (.tmp 159)⟩])
  .skip))
  (.seq (.seq (.ops [⟨(some 160), none, .move (.tmp 23)⟩, ⟨(some 161), none, .bin .eql none (.tmp 160) (.const (.int .i64 0))⟩])
  (.cond (.tmp 161) (.seq (.ops [⟨(some 162), none, .move (.tmp 10)⟩, ⟨(some 163), none, .move (.tmp 10)⟩, ⟨(some 164), none, .len (.tmp 163)⟩, ⟨(some 165), none, .call true 45 [(.tmp 162), (.tmp 164)]⟩, ⟨(some 166), none, .move (.tmp 11)⟩, ⟨(some 167), none, .move (.tmp 11)⟩, ⟨(some 168), none, .len (.tmp 167)⟩, ⟨(some 169), none, .call true 45 [(.tmp 166), (.tmp 168)]⟩, ⟨(some 24), none, .move (.tmp 165)⟩, ⟨(some 25), none, .move (.tmp 169)⟩])
    (.seq (.seq (.ops [⟨(some 170), none, .move (.tmp 24)⟩, ⟨(some 171), none, .move (.tmp 25)⟩, ⟨(some 172), none, .bin .lss none (.tmp 170) (.tmp 171)⟩])
    (.cond (.tmp 172) (.seq (.ops [⟨(some 8), none, .move (.const (.bool false))⟩])
      .ret)
    .skip))
    (.seq (.ops [⟨(some 173), none, .move (.tmp 24)⟩, ⟨(some 174), none, .move (.tmp 25)⟩, ⟨(some 175), none, .bin .gtr none (.tmp 173) (.tmp 174)⟩])
    (.cond (.tmp 175) (.ops [⟨(some 23), none, .move (.const (.int .i64 14))⟩])
    .skip))))
  .skip))
  (.seq (.ops [⟨(some 176), none, .load 2 true (.tmp 9)⟩, ⟨(some 177), none, .move (.tmp 10)⟩, ⟨(some 178), none, .call true 30 [(.tmp 176), (.tmp 177)]⟩, ⟨(some 179), none, .move (.tmp 16)⟩, ⟨(some 180), none, .bin .eql none (.tmp 178) (.tmp 179)⟩, ⟨(some 181), none, .move (.tmp 180)⟩, ⟨(some 182), (some (181, true)), .load 2 true (.tmp 9)⟩, ⟨(some 183), (some (181, true)), .move (.tmp 11)⟩, ⟨(some 184), (some (181, true)), .call true 40 [(.tmp 182), (.tmp 183)]⟩, ⟨(some 185), (some (181, true)), .move (.tmp 19)⟩, ⟨(some 186), (some (181, true)), .bin .eql none (.tmp 184) (.tmp 185)⟩, ⟨(some 187), none, .pick (.tmp 181) (.tmp 186) (.const (.bool false))⟩, ⟨(some 188), none, .move (.tmp 187)⟩, ⟨(some 189), (some (188, true)), .load 2 true (.tmp 9)⟩, ⟨(some 190), (some (188, true)), .move (.tmp 10)⟩, ⟨(some 191), (some (188, true)), .move (.tmp 11)⟩, ⟨(some 192), (some (188, true)), .call true 42 [(.tmp 189), (.tmp 190), (.tmp 191)]⟩, ⟨(some 193), (some (188, true)), .move (.tmp 23)⟩, ⟨(some 194), (some (188, true)), .bin .eql none (.tmp 192) (.tmp 193)⟩, ⟨(some 195), none, .pick (.tmp 188) (.tmp 194) (.const (.bool false))⟩, ⟨(some 196), none, .move (.tmp 195)⟩, ⟨(some 197), (some (196, true)), .call true 16 []⟩, ⟨(some 198), none, .pick (.tmp 196) (.tmp 197) (.const (.bool false))⟩, ⟨(some 8), none, .move (.tmp 198)⟩])
  .ret))))
theorem ir8_eq : ir8 = ⟨(.seq (.ops [⟨(some 4), none, .box (.tmp 0)⟩, ⟨(some 5), none, .box (.tmp 1)⟩, ⟨(some 6), none, .box (.tmp 2)⟩, ⟨(some 8), none, .move (.const (.bool false))⟩])
  (.seq (.ops [⟨(some 26), none, .load 22 true (.tmp 4)⟩, ⟨(some 27), none, .call true 44 [(.tmp 26), (.const (.int .i64 1))]⟩, ⟨(some 9), none, .alloc [(.v (.int .i64 0)), (.v (.slice none 0 0))]⟩, ⟨none, none, .store 2 (.tmp 9) (.tmp 27)⟩])
  (.seq (.ops [⟨(some 10), none, .move (.const (.slice none 0 0))⟩, ⟨(some 11), none, .move (.const (.slice none 0 0))⟩])
  (.seq (.seq (.ops [⟨(some 28), none, .fieldAddr 0 (.tmp 9)⟩, ⟨(some 29), none, .load 1 false (.tmp 28)⟩, ⟨(some 30), none, .fieldAddr 0 (.tmp 9)⟩, ⟨(some 31), none, .load 1 false (.tmp 30)⟩, ⟨(some 32), none, .move (.tmp 3)⟩, ⟨(some 33), none, .bin .rem none (.tmp 32) (.const (.int .u8 16))⟩, ⟨(some 34), none, .conv .i64 (.tmp 33)⟩, ⟨(some 35), none, .bin .quo none (.tmp 34) (.const (.int .i64 15))⟩, ⟨(some 36), none, .min (.tmp 31) (.tmp 35)⟩, ⟨(some 37), none, .bin .sub none (.tmp 29) (.tmp 36)⟩, ⟨(some 38), none, .slicea 7 1 false (.tmp 5) none (some (.tmp 37)) none⟩, ⟨(some 39), none, .len (.tmp 38)⟩, ⟨(some 40), none, .move (.const (.int .i64 0))⟩])
  (.block 0 (.loop true [3, 6, 9, 10, 11, 38, 39, 40] lp8_0)))
  (.seq (.seq (.ops [⟨(some 55), none, .fieldAddr 1 (.tmp 9)⟩, ⟨(some 56), none, .load 1 false (.tmp 55)⟩, ⟨(some 57), none, .len (.tmp 56)⟩, ⟨(some 58), none, .fieldAddr 1 (.tmp 9)⟩, ⟨(some 59), none, .load 1 false (.tmp 58)⟩, ⟨(some 60), none, .len (.tmp 59)⟩, ⟨(some 61), none, .move (.tmp 3)⟩, ⟨(some 62), none, .bin .quo none (.tmp 61) (.const (.int .u8 16))⟩, ⟨(some 63), none, .conv .i64 (.tmp 62)⟩, ⟨(some 64), none, .bin .quo none (.tmp 63) (.const (.int .i64 15))⟩, ⟨(some 65), none, .min (.tmp 60) (.tmp 64)⟩, ⟨(some 66), none, .bin .sub none (.tmp 57) (.tmp 65)⟩, ⟨(some 67), none, .slicea 10 1 false (.tmp 6) none (some (.tmp 66)) none⟩, ⟨(some 68), none, .len (.tmp 67)⟩, ⟨(some 69), none, .move (.const (.int .i64 0))⟩])
  (.block 2 (.loop true [9, 10, 11, 67, 68, 69] lp8_1)))
  (.seq (.ops [⟨(some 16), none, .move (.const (.int .i64 0))⟩])
  (.seq blk8_4
  (.seq (.ops [⟨(some 19), none, .move (.const (.int .i64 0))⟩])
  (.seq blk8_7
  tail8))))))))), [(8, none)]⟩ := rfl

theorem run_args2 {f : FuncId} {fn : IF} (hf : L.fns f = some fn) (hp : L.pure f = true) {args args' : List AV} {r : AV} (h : pubs args = pubs args') (hr : ∀ st, run L f args' st = some (r, st)) (st : St) : run L f args st = some (r, st) := by
  rw [run_args hf hp st h, hr]

theorem sw8_1 (zs vs ss : List Int) (n : Nat) (hn1 : 1 ≤ n) (hn : n ≤ 7) (ps : List (Int × Int)) (hlen : ps.length ≤ 10) (hps : ∀ p ∈ ps, 0 ≤ p.1 ∧ p.1 < p.2 ∧ p.2 < (n : Int)) (v w : List Int) (hvl : v.length ≤ 7) (hv : ∀ x ∈ v, 0 ≤ x) (env : Env)
    (h9 : env.get 9 = .ptr 3 0) (h10 : env.get 10 = vAV v) (h11 : env.get 11 = sAV v w) (h16 : env.get 16 = I 0) :
    ∃ en, codeAV pure (run L) lim blk8_4 env ⟨[zs.map B8, vs.map B8, ss.map B8, bkCells true n ps], vT v ++ sT w⟩ = some (.normal, en, ⟨[zs.map B8, vs.map B8, ss.map B8, bkCells true n ps], vT v ++ sT w⟩) ∧ en.get 9 = .ptr 3 0 ∧ en.get 10 = vAV v ∧ en.get 11 = sAV v w ∧ en.get 16 = I (halvesE n ps v) := by
  unfold halvesE
  by_cases p1 : v.length = n
  · have q1 : ((v.length : Int) = (n : Int)) = True := eq_true (by omega)
    rw [if_pos p1]
    obtain ⟨k, k1, k2⟩ := c48 (vAV v) ⟨[zs.map B8, vs.map B8, ss.map B8, bkCells true n ps], vT v ++ sT w⟩ v (by omega) (by omega) (len_v v) (fun i hi => ⟨.eptr (I v[i]) 0, by
        rw [index_v v i (by omega) (by omega)]; simp [List.getD_eq_getElem?_getD, List.getElem?_eq_getElem hi], rfl⟩)
    have k3 := k2 2
    by_cases p2 : ∃ x ∈ v, 2 < x
    · have q2 : (2 < k) = True := eq_true (k3.2 p2)
      rw [if_pos p2]
      simp only [blk8_4, go_sem, reduceIte, Nat.reduceEqDiff, Nat.reduceAdd, Nat.reduceSub, Nat.reduceLeDiff, Nat.reduceLT, reduceCtorEq, Int.reduceLT, Int.reduceLE, Int.reduceEq, Int.reduceBEq, Int.reduceSub, Int.reduceAdd, Int.reduceMul, Int.reduceNeg, Int.reduceToNat, Nat.reduceMul, Nat.reduceBEq, h9, h10, h11, h16, q1, k1, q2]
      exact ⟨_, rfl, by simp only [go_sem, reduceIte, Nat.reduceEqDiff, Nat.reduceAdd, Nat.reduceSub, Nat.reduceLeDiff, Nat.reduceLT, reduceCtorEq, Int.reduceLT, Int.reduceLE, Int.reduceEq, Int.reduceBEq, Int.reduceSub, Int.reduceAdd, Int.reduceMul, Int.reduceNeg, Int.reduceToNat, Nat.reduceMul, Nat.reduceBEq, h9, h10, h11]⟩
    · have q2 : (2 < k) = False := eq_false (fun h => p2 (k3.1 h))
      rw [if_neg p2]
      have hb : ∀ x ∈ v, 0 ≤ x ∧ x ≤ 2 := fun x hx => ⟨hv x hx, by have : ¬ 2 < x := fun h => p2 ⟨x, hx, h⟩; omega⟩
      simp only [blk8_4, go_sem, reduceIte, Nat.reduceEqDiff, Nat.reduceAdd, Nat.reduceSub, Nat.reduceLeDiff, Nat.reduceLT, reduceCtorEq, Int.reduceLT, Int.reduceLE, Int.reduceEq, Int.reduceBEq, Int.reduceSub, Int.reduceAdd, Int.reduceMul, Int.reduceNeg, Int.reduceToNat, Nat.reduceMul, Nat.reduceBEq, h9, h10, h11, h16, q1, k1, q2, List.length_map]
      generalize hg : lim (headed pure (run L) true _ lp8_2 _ _) _ _ = o
      obtain ⟨x, en, s, rfl, h2⟩ : ∃ x en s, o = some (x, en, s) ∧ _ := by rw [← hg]; exact loop8_2 zs vs ss n hn ps hlen hps v w p1 hb _ rfl 0 0 (by omega) _ _ (by simp only [go_sem, reduceIte, Nat.reduceEqDiff, Nat.reduceAdd, Nat.reduceSub, Nat.reduceLeDiff, Nat.reduceLT, reduceCtorEq, Int.reduceLT, Int.reduceLE, Int.reduceEq, Int.reduceBEq, Int.reduceSub, Int.reduceAdd, Int.reduceMul, Int.reduceNeg, Int.reduceToNat, Nat.reduceMul, Nat.reduceBEq, h9, h10, h11, h16, okRefsB, renCellsB, ren1_vH2, ren1_sH2, List.take_length, Int.natCast_zero] <;> rfl)
      clear hg
      obtain ⟨rfl, f9, f10, f11, f16, rfl⟩ := h2
      rw [List.drop_zero] at f16
      simp only [go_sem, reduceIte, Nat.reduceEqDiff, Nat.reduceAdd, Nat.reduceSub, Nat.reduceLeDiff, Nat.reduceLT, reduceCtorEq, Int.reduceLT, Int.reduceLE, Int.reduceEq, Int.reduceBEq, Int.reduceSub, Int.reduceAdd, Int.reduceMul, Int.reduceNeg, Int.reduceToNat, Nat.reduceMul, Nat.reduceBEq]
      exact ⟨_, rfl, f9, f10, f11, f16⟩
  · have q1 : ((v.length : Int) = (n : Int)) = False := eq_false (by omega)
    rw [if_neg p1]
    simp only [blk8_4, go_sem, reduceIte, Nat.reduceEqDiff, Nat.reduceAdd, Nat.reduceSub, Nat.reduceLeDiff, Nat.reduceLT, reduceCtorEq, Int.reduceLT, Int.reduceLE, Int.reduceEq, Int.reduceBEq, Int.reduceSub, Int.reduceAdd, Int.reduceMul, Int.reduceNeg, Int.reduceToNat, Nat.reduceMul, Nat.reduceBEq, h9, h10, h11, h16, q1]
    exact ⟨_, rfl, by simp only [go_sem, reduceIte, Nat.reduceEqDiff, Nat.reduceAdd, Nat.reduceSub, Nat.reduceLeDiff, Nat.reduceLT, reduceCtorEq, Int.reduceLT, Int.reduceLE, Int.reduceEq, Int.reduceBEq, Int.reduceSub, Int.reduceAdd, Int.reduceMul, Int.reduceNeg, Int.reduceToNat, Nat.reduceMul, Nat.reduceBEq, h9, h10, h11]⟩

theorem sw8_2 (zs vs ss : List Int) (n : Int) (ps : List (Int × Int)) (hlen : ps.length ≤ 10) (h7 : ∀ p ∈ ps, okP p) (v w : List Int) (hwl : w.length ≤ 10) (hw : ∀ x ∈ w, -1 ≤ x ∧ x ≤ 2) (e16 : Int) (env : Env)
    (h9 : env.get 9 = .ptr 3 0) (h10 : env.get 10 = vAV v) (h11 : env.get 11 = sAV v w) (h16 : env.get 16 = I e16) (h19 : env.get 19 = I 0) :
    ∃ en J, codeAV pure (run L) lim blk8_7 env ⟨[zs.map B8, vs.map B8, ss.map B8, bkCells true n ps], vT v ++ sT w⟩ = some (.normal, en, ⟨[zs.map B8, vs.map B8, ss.map B8, bkCells true n ps] ++ J, vT v ++ sT w⟩) ∧ en.get 9 = .ptr 3 0 ∧ en.get 10 = vAV v ∧ en.get 11 = sAV v w ∧ en.get 16 = I e16 ∧ en.get 19 = I (sharedE ps w) := by
  unfold sharedE
  by_cases p1 : w.length = ps.length
  · have q1 : ((w.length : Int) = (ps.length : Int)) = True := eq_true (by omega)
    rw [if_pos p1]
    have h49 : ∀ st, run L 49 [sAV v w, I (-1)] st = some (B (decide ((-1 : Int) ∈ w)), st) :=
      run_args2 (fn := ir49) rfl rfl (by simp only [pubs, pub_s, pub_sl]) (fun st => c49 true w (by omega) (-1) st)
    by_cases p2 : (-1 : Int) ∈ w
    · rw [if_pos p2]
      simp only [blk8_7, go_sem, reduceIte, Nat.reduceEqDiff, Nat.reduceAdd, Nat.reduceSub, Nat.reduceLeDiff, Nat.reduceLT, reduceCtorEq, Int.reduceLT, Int.reduceLE, Int.reduceEq, Int.reduceBEq, Int.reduceSub, Int.reduceAdd, Int.reduceMul, Int.reduceNeg, Int.reduceToNat, Nat.reduceMul, Nat.reduceBEq, h9, h10, h11, h16, h19, q1, h49, p2, List.length_map]
      exact ⟨_, [], rfl, by simp only [go_sem, reduceIte, Nat.reduceEqDiff, Nat.reduceAdd, Nat.reduceSub, Nat.reduceLeDiff, Nat.reduceLT, reduceCtorEq, Int.reduceLT, Int.reduceLE, Int.reduceEq, Int.reduceBEq, Int.reduceSub, Int.reduceAdd, Int.reduceMul, Int.reduceNeg, Int.reduceToNat, Nat.reduceMul, Nat.reduceBEq, h9, h10, h11, h16]⟩
    · rw [if_neg p2]
      have hb : ∀ x ∈ w, 0 ≤ x ∧ x ≤ 2 := fun x hx => by have := hw x hx; have : x ≠ -1 := fun e => p2 (e ▸ hx); omega
      simp only [blk8_7, go_sem, reduceIte, Nat.reduceEqDiff, Nat.reduceAdd, Nat.reduceSub, Nat.reduceLeDiff, Nat.reduceLT, reduceCtorEq, Int.reduceLT, Int.reduceLE, Int.reduceEq, Int.reduceBEq, Int.reduceSub, Int.reduceAdd, Int.reduceMul, Int.reduceNeg, Int.reduceToNat, Nat.reduceMul, Nat.reduceBEq, h9, h10, h11, h16, h19, q1, h49, p2, List.length_map]
      generalize hg : lim (headed pure (run L) true _ lp8_3 _ _) _ _ = o
      obtain ⟨x, en, s, rfl, h2⟩ : ∃ x en s, o = some (x, en, s) ∧ _ := by rw [← hg]; exact loop8_3 zs vs ss n ps hlen h7 v w p1 hb e16 0 _ rfl 0 (List.replicate 7 0) ⟨by omega, by simp, by simp⟩ _ _ (by simp only [go_sem, reduceIte, Nat.reduceEqDiff, Nat.reduceAdd, Nat.reduceSub, Nat.reduceLeDiff, Nat.reduceLT, reduceCtorEq, Int.reduceLT, Int.reduceLE, Int.reduceEq, Int.reduceBEq, Int.reduceSub, Int.reduceAdd, Int.reduceMul, Int.reduceNeg, Int.reduceToNat, Nat.reduceMul, Nat.reduceBEq, h9, h10, h11, h16, h19, okRefsB, renCellsB, ren1_vH2, ren1_sH2, List.take_length, Int.natCast_zero, List.map_replicate] <;> rfl)
      clear hg
      obtain ⟨rfl, f9, f10, f11, f16, f19, f20, rfl, g5⟩ := h2
      rw [List.drop_zero] at g5 ⊢
      have e : (ps.zip w).foldl has1 (List.replicate 7 0) = hasL ps w := rfl
      rw [e] at g5 ⊢
      unfold overB
      generalize hasL ps w = hs at *
      obtain ⟨k, k1, k2⟩ := c48 (.rsl 4 0 7 7 1 false) ⟨[zs.map B8, vs.map B8, ss.map B8, bkCells true n ps, hs.map I], vT v ++ sT w⟩ hs (by omega) (by omega) (by rw [g5]; rfl) (fun i hi => ⟨.ptr 4 i, by
          rw [index_rsl_if, if_pos (by omega)]; simp, by
          simp only [load_ptr, List.getElem?_cons_succ, List.getElem?_cons_zero, Option.bind_some, readCells]
          simp [List.getElem?_eq_getElem hi]⟩)
      have k3 := k2 2
      have hsl : sliceaAV 7 1 false (.ptr 4 0) none none none = some (.rsl 4 0 7 7 1 false) := rfl
      by_cases q : 2 < k
      · have q' : (hs.any fun x => decide (2 < x)) = true := by
          rw [List.any_eq_true]; obtain ⟨x, hx, hx2⟩ := k3.1 q; exact ⟨x, hx, decide_eq_true hx2⟩
        simp only [go_sem, reduceIte, Nat.reduceEqDiff, Nat.reduceAdd, Nat.reduceSub, Nat.reduceLeDiff, Nat.reduceLT, reduceCtorEq, Int.reduceLT, Int.reduceLE, Int.reduceEq, Int.reduceBEq, Int.reduceSub, Int.reduceAdd, Int.reduceMul, Int.reduceNeg, Int.reduceToNat, Nat.reduceMul, Nat.reduceBEq, f9, f10, f11, f16, f19, f20, hsl, k1, q, q']
        exact ⟨_, [hs.map I], rfl, by simp only [go_sem, reduceIte, Nat.reduceEqDiff, Nat.reduceAdd, Nat.reduceSub, Nat.reduceLeDiff, Nat.reduceLT, reduceCtorEq, Int.reduceLT, Int.reduceLE, Int.reduceEq, Int.reduceBEq, Int.reduceSub, Int.reduceAdd, Int.reduceMul, Int.reduceNeg, Int.reduceToNat, Nat.reduceMul, Nat.reduceBEq, f9, f10, f11, f16]⟩
      · have q' : (hs.any fun x => decide (2 < x)) = false := by
          rw [List.any_eq_false]; intro x hx; have : ¬ 2 < x := fun hx2 => q (k3.2 ⟨x, hx, hx2⟩); simpa using this
        simp only [go_sem, reduceIte, Nat.reduceEqDiff, Nat.reduceAdd, Nat.reduceSub, Nat.reduceLeDiff, Nat.reduceLT, reduceCtorEq, Int.reduceLT, Int.reduceLE, Int.reduceEq, Int.reduceBEq, Int.reduceSub, Int.reduceAdd, Int.reduceMul, Int.reduceNeg, Int.reduceToNat, Nat.reduceMul, Nat.reduceBEq, f9, f10, f11, f16, f19, f20, hsl, k1, q, q']
        exact ⟨_, [hs.map I], rfl, by simp only [go_sem, reduceIte, Nat.reduceEqDiff, Nat.reduceAdd, Nat.reduceSub, Nat.reduceLeDiff, Nat.reduceLT, reduceCtorEq, Int.reduceLT, Int.reduceLE, Int.reduceEq, Int.reduceBEq, Int.reduceSub, Int.reduceAdd, Int.reduceMul, Int.reduceNeg, Int.reduceToNat, Nat.reduceMul, Nat.reduceBEq, f9, f10, f11, f16, f19]⟩
  · have q1 : ((w.length : Int) = (ps.length : Int)) = False := eq_false (by omega)
    rw [if_neg p1]
    simp only [blk8_7, go_sem, reduceIte, Nat.reduceEqDiff, Nat.reduceAdd, Nat.reduceSub, Nat.reduceLeDiff, Nat.reduceLT, reduceCtorEq, Int.reduceLT, Int.reduceLE, Int.reduceEq, Int.reduceBEq, Int.reduceSub, Int.reduceAdd, Int.reduceMul, Int.reduceNeg, Int.reduceToNat, Nat.reduceMul, Nat.reduceBEq, h9, h10, h11, h16, h19, q1, List.length_map]
    exact ⟨_, [], rfl, by simp only [go_sem, reduceIte, Nat.reduceEqDiff, Nat.reduceAdd, Nat.reduceSub, Nat.reduceLeDiff, Nat.reduceLT, reduceCtorEq, Int.reduceLT, Int.reduceLE, Int.reduceEq, Int.reduceBEq, Int.reduceSub, Int.reduceAdd, Int.reduceMul, Int.reduceNeg, Int.reduceToNat, Nat.reduceMul, Nat.reduceBEq, h9, h10, h11, h16]⟩

attribute [local go_sem] okRef_v pub_v len_v okRef_s pub_s len_s

set_option maxHeartbeats 1000000 in
theorem fin8 (zs vs ss : List Int) (n : Nat) (hn : n ≤ 7) (ps : List (Int × Int)) (hlen : ps.length ≤ 10) (hps : ∀ p ∈ ps, 0 ≤ p.1 ∧ p.1 < p.2 ∧ p.2 < (n : Int)) (hck : chk n ps = 0) (v w : List Int) (hvl : v.length ≤ 7) (hv : ∀ x ∈ v, 0 ≤ x) (hwl : w.length ≤ 10) (hw : ∀ x ∈ w, -1 ≤ x ∧ x ≤ 2) (J : List (List AV)) (env : Env)
    (h9 : env.get 9 = .ptr 3 0) (h10 : env.get 10 = vAV v) (h11 : env.get 11 = sAV v w) (h16 : env.get 16 = I (halvesE n ps v)) (h19 : env.get 19 = I (sharedE ps w)) :
    ∃ en, codeAV pure (run L) lim tail8 env ⟨[zs.map B8, vs.map B8, ss.map B8, bkCells true n ps] ++ J, vT v ++ sT w⟩ = some (.ret, en, ⟨[zs.map B8, vs.map B8, ss.map B8, bkCells true n ps] ++ J, vT v ++ sT w⟩) ∧ en.get 8 = B true := by
  have hpv := (proves_eq hn hps hck hv hw).1
  have hpw := (proves_eq hn hps hck hv hw).2
  have eh := halves_eq hck hv
  have es := shared_eq hck hw
  have h30 : ∀ st, run L 30 [bkAV true n ps, vAV v] st = some (I (halvesE n ps v), st) := by
    rw [← eh]
    exact run_args2 (fn := ir30) rfl rfl (by simp only [pubs, pub_v, pub_sl]) (fun st => c30 true true n ps v (by omega) st)
  have h40 : ∀ st, run L 40 [bkAV true n ps, sAV v w] st = some (I (sharedE ps w), st) := by
    rw [← es]
    exact run_args2 (fn := ir40) rfl rfl (by simp only [pubs, pub_s, pub_sl]) (fun st => c40 true true n ps w (by omega) st)
  have h42 : ∀ st, run L 42 [bkAV true n ps, vAV v, sAV v w] st = some (I (provesV n ps v w), st) :=
    run_args2 (fn := ir42) rfl rfl (by simp only [pubs, pub_s, pub_v, pub_sl]) (fun st => c42 true true true n ps v w (by omega) (by omega) st)
  have h45v : ∀ st, run L 45 [vAV v, I v.length] st = some (I (totalV v v.length), st) :=
    run_args2 (fn := ir45) rfl rfl (by simp only [pubs, pub_v, pub_sl]) (fun st => c45 true v (by omega) v.length st)
  have h45w : ∀ st, run L 45 [sAV v w, I w.length] st = some (I (totalV w w.length), st) :=
    run_args2 (fn := ir45) rfl rfl (by simp only [pubs, pub_s, pub_sl]) (fun st => c45 true w (by omega) w.length st)
  by_cases p1 : halvesE n ps v = 0
  · rw [if_pos p1] at hpv
    by_cases p2 : sharedE ps w = 0
    · rw [if_pos p2] at hpv
      obtain ⟨g1, g2, g3⟩ := hpw p1 p2
      have t1 : totalV v v.length = sumL v := by unfold totalV; rw [if_pos rfl, if_pos g2]
      have t2 : totalV w w.length = sumL w := by unfold totalV; rw [if_pos rfl, if_pos g3]
      rw [t1] at h45v
      rw [t2] at h45w
      have q1 : (sumL v < sumL w) = False := eq_false (by omega)
      by_cases p3 : sumL w < sumL v
      · rw [if_pos p3] at hpv
        rw [hpv] at h42
        simp only [tail8, go_sem, reduceIte, Nat.reduceEqDiff, Nat.reduceAdd, Nat.reduceSub, Nat.reduceLeDiff, Nat.reduceLT, reduceCtorEq, Int.reduceLT, Int.reduceLE, Int.reduceEq, Int.reduceBEq, Int.reduceSub, Int.reduceAdd, Int.reduceMul, Int.reduceNeg, Int.reduceToNat, Nat.reduceMul, Nat.reduceBEq, h9, h10, h11, h16, h19, p1, p2, p3, q1, h30, h40, h42, h45v, h45w, c16]
        exact ⟨_, rfl, by simp only [go_sem, reduceIte, Nat.reduceEqDiff, Nat.reduceAdd, Nat.reduceSub, Nat.reduceLeDiff, Nat.reduceLT, reduceCtorEq, Int.reduceLT, Int.reduceLE, Int.reduceEq, Int.reduceBEq, Int.reduceSub, Int.reduceAdd, Int.reduceMul, Int.reduceNeg, Int.reduceToNat, Nat.reduceMul, Nat.reduceBEq]⟩
      · rw [if_neg p3] at hpv
        rw [hpv] at h42
        simp only [tail8, go_sem, reduceIte, Nat.reduceEqDiff, Nat.reduceAdd, Nat.reduceSub, Nat.reduceLeDiff, Nat.reduceLT, reduceCtorEq, Int.reduceLT, Int.reduceLE, Int.reduceEq, Int.reduceBEq, Int.reduceSub, Int.reduceAdd, Int.reduceMul, Int.reduceNeg, Int.reduceToNat, Nat.reduceMul, Nat.reduceBEq, h9, h10, h11, h16, h19, p1, p2, p3, q1, h30, h40, h42, h45v, h45w, c16]
        exact ⟨_, rfl, by simp only [go_sem, reduceIte, Nat.reduceEqDiff, Nat.reduceAdd, Nat.reduceSub, Nat.reduceLeDiff, Nat.reduceLT, reduceCtorEq, Int.reduceLT, Int.reduceLE, Int.reduceEq, Int.reduceBEq, Int.reduceSub, Int.reduceAdd, Int.reduceMul, Int.reduceNeg, Int.reduceToNat, Nat.reduceMul, Nat.reduceBEq]⟩
    · rw [if_neg p2] at hpv
      rw [hpv] at h42
      simp only [tail8, go_sem, reduceIte, Nat.reduceEqDiff, Nat.reduceAdd, Nat.reduceSub, Nat.reduceLeDiff, Nat.reduceLT, reduceCtorEq, Int.reduceLT, Int.reduceLE, Int.reduceEq, Int.reduceBEq, Int.reduceSub, Int.reduceAdd, Int.reduceMul, Int.reduceNeg, Int.reduceToNat, Nat.reduceMul, Nat.reduceBEq, h9, h10, h11, h16, h19, p1, p2, h30, h40, h42, c16]
      exact ⟨_, rfl, by simp only [go_sem, reduceIte, Nat.reduceEqDiff, Nat.reduceAdd, Nat.reduceSub, Nat.reduceLeDiff, Nat.reduceLT, reduceCtorEq, Int.reduceLT, Int.reduceLE, Int.reduceEq, Int.reduceBEq, Int.reduceSub, Int.reduceAdd, Int.reduceMul, Int.reduceNeg, Int.reduceToNat, Nat.reduceMul, Nat.reduceBEq]⟩
  · rw [if_neg p1] at hpv
    rw [hpv] at h42
    simp only [tail8, go_sem, reduceIte, Nat.reduceEqDiff, Nat.reduceAdd, Nat.reduceSub, Nat.reduceLeDiff, Nat.reduceLT, reduceCtorEq, Int.reduceLT, Int.reduceLE, Int.reduceEq, Int.reduceBEq, Int.reduceSub, Int.reduceAdd, Int.reduceMul, Int.reduceNeg, Int.reduceToNat, Nat.reduceMul, Nat.reduceBEq, h9, h10, h11, h16, h19, p1, h30, h40, h42, c16]
    exact ⟨_, rfl, by simp only [go_sem, reduceIte, Nat.reduceEqDiff, Nat.reduceAdd, Nat.reduceSub, Nat.reduceLeDiff, Nat.reduceLT, reduceCtorEq, Int.reduceLT, Int.reduceLE, Int.reduceEq, Int.reduceBEq, Int.reduceSub, Int.reduceAdd, Int.reduceMul, Int.reduceNeg, Int.reduceToNat, Nat.reduceMul, Nat.reduceBEq]⟩

set_option maxHeartbeats 1000000 in
theorem c8 (zs vs ss : List Int) (hzl : zs.length = 22) (hz : ∀ a ∈ zs, Byte a) (hvl : vs.length = 7) (hvb : ∀ a ∈ vs, Byte a) (hsl : ss.length = 10) (hsb : ∀ a ∈ ss, Byte a) (b : Int) (hb : Byte b) (st : St) :
    run L 8 [qAV zs, .agg (vs.map B8), .agg (ss.map B8), B8 b] st = some (B true, st) := by
  rw [run_pure (fn := ir8) rfl rfl, ir8_eq]
  have h44 := fun st => c44 zs hzl hz 1 (.inl rfl) st
  obtain ⟨n, hN, hn1, _, hn, hlen, hps, h7, hnd, hck⟩ := made_ok (.inl rfl : (1 : Int) = 1 ∨ (1 : Int) = 2) zs
  rw [hN] at h44
  generalize madeP 1 zs = ps at *
  unfold Byte at hb
  have htk : (zs.map B8).take 22 = zs.map B8 := List.take_of_length_le (by simp [hzl])
  have a1 : b.tmod 16 = b % 16 := tmod8 (by omega)
  have a2 := wrap64 (b % 16) (by omega) (by omega)
  have a3 : (b % 16).tdiv 15 = b % 16 / 15 := tdiv8 (by omega)
  have a4 := wrap64 (b % 16 / 15) (by omega) (by omega)
  have c1 : b.tdiv 16 = b / 16 := tdiv8 (by omega)
  have c2' : IntKind.u8.wrap (b / 16) = b / 16 := by simp [IntKind.wrap, IntKind.bits, IntKind.signed]; omega
  have c3' := wrap64 (b / 16) (by omega) (by omega)
  have c4' : (b / 16).tdiv 15 = b / 16 / 15 := tdiv8 (by omega)
  have c5' := wrap64 (b / 16 / 15) (by omega) (by omega)
  have c6' := wrap64 ((n : Int) - min (n : Int) (b % 16 / 15)) (by omega) (by omega)
  have c7' := wrap64 ((ps.length : Int) - min (ps.length : Int) (b / 16 / 15)) (by omega) (by omega)
  obtain ⟨k1, hk1⟩ := Int.eq_ofNat_of_zero_le (show 0 ≤ (n : Int) - min (n : Int) (b % 16 / 15) by omega)
  obtain ⟨k2, hk2⟩ := Int.eq_ofNat_of_zero_le (show 0 ≤ (ps.length : Int) - min (ps.length : Int) (b / 16 / 15) by omega)
  have hk1' : k1 ≤ 7 := by omega
  have hk2' : k2 ≤ 10 := by omega
  have wk1 := wrap64 (k1 : Int) (by omega) (by omega)
  have wk2 := wrap64 (k2 : Int) (by omega) (by omega)
  have hsl1 : sliceaAV 7 1 false (.ptr 1 0) none (some (.v (.int .i64 (k1 : Int)))) none = some (.rsl 1 0 k1 7 1 false) := by
    simp only [sliceaAV, natOr, natOf]
    simp; omega
  have hsl2 : sliceaAV 10 1 false (.ptr 2 0) none (some (.v (.int .i64 (k2 : Int)))) none = some (.rsl 2 0 k2 10 1 false) := by
    simp only [sliceaAV, natOr, natOf]
    simp; omega
  simp only [go_sem, reduceIte, Nat.reduceEqDiff, Nat.reduceAdd, Nat.reduceSub, Nat.reduceLeDiff, Nat.reduceLT, reduceCtorEq, Int.reduceLT, Int.reduceLE, Int.reduceEq, Int.reduceBEq, Int.reduceSub, Int.reduceAdd, Int.reduceMul, Int.reduceNeg, Int.reduceToNat, Nat.reduceMul, Nat.reduceBEq, okRefsB, pubsB, storableB, htk, hzl, h44, a1, a2, a3, a4, hk1, wk1, hsl1, List.length_map]
  generalize hg : lim (headed pure (run L) true _ lp8_0 _ _) _ _ = o
  obtain ⟨x, en, s, rfl, h2⟩ : ∃ x en s, o = some (x, en, s) ∧ _ := by rw [← hg]; exact loop8_0 zs vs ss hvl hvb n ps b k1 hk1' 0 (by omega) _ _ (by simp only [go_sem, reduceIte, Nat.reduceEqDiff, Nat.reduceAdd, Nat.reduceSub, Nat.reduceLeDiff, Nat.reduceLT, reduceCtorEq, Int.reduceLT, Int.reduceLE, Int.reduceEq, Int.reduceBEq, Int.reduceSub, Int.reduceAdd, Int.reduceMul, Int.reduceNeg, Int.reduceToNat, Nat.reduceMul, Nat.reduceBEq, okRefsB, renCellsB, ren1_v, vAcc_snd, show vAV (vTo vs 0) = .v (.slice none 0 0) from rfl, show vT (vTo vs 0) = [] from rfl, Int.natCast_zero] <;> rfl)
  clear hg
  obtain ⟨rfl, e3, e6, e9, e10, e11, rfl⟩ := h2
  simp only [go_sem, reduceIte, Nat.reduceEqDiff, Nat.reduceAdd, Nat.reduceSub, Nat.reduceLeDiff, Nat.reduceLT, reduceCtorEq, Int.reduceLT, Int.reduceLE, Int.reduceEq, Int.reduceBEq, Int.reduceSub, Int.reduceAdd, Int.reduceMul, Int.reduceNeg, Int.reduceToNat, Nat.reduceMul, Nat.reduceBEq, e3, e6, e9, e10, e11, c1, c2', c3', c4', c5', hk2, wk2, hsl2, List.length_map]
  have hvn : (vTo vs k1).length ≤ 7 := by rw [vTo_len]; omega
  have hvp : ∀ x ∈ vTo vs k1, 0 ≤ x := by
    intro x hx; unfold vTo at hx; rw [List.mem_map] at hx; obtain ⟨j, _, rfl⟩ := hx; exact (vOf_bd (byte_getD hvb j)).1
  generalize vTo vs k1 = v at *
  have hr0 : ∀ acc, ren1 (vT v).length (vT v) acc (vAV v) = (vAV v, acc) := fun acc => by
    have := ren1_vH v [] acc
    rwa [sT_nil, List.append_nil] at this
  generalize hg : lim (headed pure (run L) true _ lp8_1 _ _) _ _ = o
  obtain ⟨x, en, s, rfl, h2⟩ : ∃ x en s, o = some (x, en, s) ∧ _ := by rw [← hg]; exact loop8_1 zs vs ss hsl hsb n ps v k2 hk2' _ rfl 0 (by omega) _ _ (by simp only [go_sem, reduceIte, Nat.reduceEqDiff, Nat.reduceAdd, Nat.reduceSub, Nat.reduceLeDiff, Nat.reduceLT, reduceCtorEq, Int.reduceLT, Int.reduceLE, Int.reduceEq, Int.reduceBEq, Int.reduceSub, Int.reduceAdd, Int.reduceMul, Int.reduceNeg, Int.reduceToNat, Nat.reduceMul, Nat.reduceBEq, e9, e10, e11, okRefsB, renCellsB, hr0, show sAV v (sTo ss 0) = .v (.slice none 0 0) from rfl, show sT (sTo ss 0) = [] from rfl, List.take_length, Int.natCast_zero] <;> rfl)
  clear hg
  obtain ⟨rfl, f9, f10, f11, rfl⟩ := h2
  have hwn : (sTo ss k2).length ≤ 10 := by rw [sTo_len]; omega
  have hwp : ∀ x ∈ sTo ss k2, -1 ≤ x ∧ x ≤ 2 := by
    intro x hx; unfold sTo at hx; rw [List.mem_map] at hx; obtain ⟨j, _, rfl⟩ := hx; exact sOf_bd (byte_getD hsb j)
  generalize sTo ss k2 = w at *
  simp only [go_sem, reduceIte, Nat.reduceEqDiff, Nat.reduceAdd, Nat.reduceSub, Nat.reduceLeDiff, Nat.reduceLT, reduceCtorEq, Int.reduceLT, Int.reduceLE, Int.reduceEq, Int.reduceBEq, Int.reduceSub, Int.reduceAdd, Int.reduceMul, Int.reduceNeg, Int.reduceToNat, Nat.reduceMul, Nat.reduceBEq, f9, f10, f11]
  generalize hE : codeAV pure (run L) lim blk8_4 _ _ = o
  obtain ⟨e1, rfl, g9, g10, g11, g16⟩ : ∃ en, o = some (.normal, en, ⟨[zs.map B8, vs.map B8, ss.map B8, bkCells true n ps], vT v ++ sT w⟩) ∧ en.get 9 = .ptr 3 0 ∧ en.get 10 = vAV v ∧ en.get 11 = sAV v w ∧ en.get 16 = I (halvesE n ps v) := by
    rw [← hE]; exact sw8_1 zs vs ss n hn1 hn ps hlen hps v w hvn hvp _ (by simp only [go_sem, reduceIte, Nat.reduceEqDiff, Nat.reduceAdd, Nat.reduceSub, Nat.reduceLeDiff, Nat.reduceLT, reduceCtorEq, Int.reduceLT, Int.reduceLE, Int.reduceEq, Int.reduceBEq, Int.reduceSub, Int.reduceAdd, Int.reduceMul, Int.reduceNeg, Int.reduceToNat, Nat.reduceMul, Nat.reduceBEq, f9]) (by simp only [go_sem, reduceIte, Nat.reduceEqDiff, Nat.reduceAdd, Nat.reduceSub, Nat.reduceLeDiff, Nat.reduceLT, reduceCtorEq, Int.reduceLT, Int.reduceLE, Int.reduceEq, Int.reduceBEq, Int.reduceSub, Int.reduceAdd, Int.reduceMul, Int.reduceNeg, Int.reduceToNat, Nat.reduceMul, Nat.reduceBEq, f10]) (by simp only [go_sem, reduceIte, Nat.reduceEqDiff, Nat.reduceAdd, Nat.reduceSub, Nat.reduceLeDiff, Nat.reduceLT, reduceCtorEq, Int.reduceLT, Int.reduceLE, Int.reduceEq, Int.reduceBEq, Int.reduceSub, Int.reduceAdd, Int.reduceMul, Int.reduceNeg, Int.reduceToNat, Nat.reduceMul, Nat.reduceBEq, f11]) (by simp only [go_sem, reduceIte, Nat.reduceEqDiff, Nat.reduceAdd, Nat.reduceSub, Nat.reduceLeDiff, Nat.reduceLT, reduceCtorEq, Int.reduceLT, Int.reduceLE, Int.reduceEq, Int.reduceBEq, Int.reduceSub, Int.reduceAdd, Int.reduceMul, Int.reduceNeg, Int.reduceToNat, Nat.reduceMul, Nat.reduceBEq])
  clear hE
  simp only [go_sem, reduceIte, Nat.reduceEqDiff, Nat.reduceAdd, Nat.reduceSub, Nat.reduceLeDiff, Nat.reduceLT, reduceCtorEq, Int.reduceLT, Int.reduceLE, Int.reduceEq, Int.reduceBEq, Int.reduceSub, Int.reduceAdd, Int.reduceMul, Int.reduceNeg, Int.reduceToNat, Nat.reduceMul, Nat.reduceBEq]
  generalize hE : codeAV pure (run L) lim blk8_7 _ _ = o
  obtain ⟨e2, J, rfl, i9, i10, i11, i16, i19⟩ : ∃ en J, o = some (.normal, en, ⟨[zs.map B8, vs.map B8, ss.map B8, bkCells true n ps] ++ J, vT v ++ sT w⟩) ∧ en.get 9 = .ptr 3 0 ∧ en.get 10 = vAV v ∧ en.get 11 = sAV v w ∧ en.get 16 = I (halvesE n ps v) ∧ en.get 19 = I (sharedE ps w) := by
    rw [← hE]; exact sw8_2 zs vs ss n ps hlen h7 v w hwn hwp (halvesE n ps v) _ (by simp only [go_sem, reduceIte, Nat.reduceEqDiff, Nat.reduceAdd, Nat.reduceSub, Nat.reduceLeDiff, Nat.reduceLT, reduceCtorEq, Int.reduceLT, Int.reduceLE, Int.reduceEq, Int.reduceBEq, Int.reduceSub, Int.reduceAdd, Int.reduceMul, Int.reduceNeg, Int.reduceToNat, Nat.reduceMul, Nat.reduceBEq, g9]) (by simp only [go_sem, reduceIte, Nat.reduceEqDiff, Nat.reduceAdd, Nat.reduceSub, Nat.reduceLeDiff, Nat.reduceLT, reduceCtorEq, Int.reduceLT, Int.reduceLE, Int.reduceEq, Int.reduceBEq, Int.reduceSub, Int.reduceAdd, Int.reduceMul, Int.reduceNeg, Int.reduceToNat, Nat.reduceMul, Nat.reduceBEq, g10]) (by simp only [go_sem, reduceIte, Nat.reduceEqDiff, Nat.reduceAdd, Nat.reduceSub, Nat.reduceLeDiff, Nat.reduceLT, reduceCtorEq, Int.reduceLT, Int.reduceLE, Int.reduceEq, Int.reduceBEq, Int.reduceSub, Int.reduceAdd, Int.reduceMul, Int.reduceNeg, Int.reduceToNat, Nat.reduceMul, Nat.reduceBEq, g11]) (by simp only [go_sem, reduceIte, Nat.reduceEqDiff, Nat.reduceAdd, Nat.reduceSub, Nat.reduceLeDiff, Nat.reduceLT, reduceCtorEq, Int.reduceLT, Int.reduceLE, Int.reduceEq, Int.reduceBEq, Int.reduceSub, Int.reduceAdd, Int.reduceMul, Int.reduceNeg, Int.reduceToNat, Nat.reduceMul, Nat.reduceBEq, g16]) (by simp only [go_sem, reduceIte, Nat.reduceEqDiff, Nat.reduceAdd, Nat.reduceSub, Nat.reduceLeDiff, Nat.reduceLT, reduceCtorEq, Int.reduceLT, Int.reduceLE, Int.reduceEq, Int.reduceBEq, Int.reduceSub, Int.reduceAdd, Int.reduceMul, Int.reduceNeg, Int.reduceToNat, Nat.reduceMul, Nat.reduceBEq])
  clear hE
  simp only [seqK_normal]
  generalize hE : codeAV pure (run L) lim tail8 _ _ = o
  obtain ⟨e3, rfl, j8⟩ : ∃ en, o = some (.ret, en, ⟨[zs.map B8, vs.map B8, ss.map B8, bkCells true n ps] ++ J, vT v ++ sT w⟩) ∧ en.get 8 = B true := by
    rw [← hE]; exact fin8 zs vs ss n hn ps hlen hps hck v w hvn hvp hwn hwp J _ i9 i10 i11 i16 i19
  simp only [go_sem, reduceIte, Nat.reduceEqDiff, Nat.reduceAdd, Nat.reduceSub, Nat.reduceLeDiff, Nat.reduceLT, reduceCtorEq, Int.reduceLT, Int.reduceLE, Int.reduceEq, Int.reduceBEq, Int.reduceSub, Int.reduceAdd, Int.reduceMul, Int.reduceNeg, Int.reduceToNat, Nat.reduceMul, Nat.reduceBEq, j8]
end Go.Proofs.YtpmbfgogpcjdlaaDoor.Vm
