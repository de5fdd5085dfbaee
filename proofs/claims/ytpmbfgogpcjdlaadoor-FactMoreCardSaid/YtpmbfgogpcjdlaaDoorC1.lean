/- What is proved: what each function of this program computes, as equations on the evaluator. No condition. -/
import Derived.Test.YtpmbfgogpcjdlaaDoorLib
import Derived.Test.YtpmbfgogpcjdlaaDoorSy
import Derived.KernelRfl
import Derived.WalkKit
import Derived.ProofKit
import Derived.OpenShut
import Derived.Test.YtpmbfgogpcjdlaaDoorFkx
set_option linter.all false
namespace Go.Proofs.YtpmbfgogpcjdlaaDoor.Vm
open Go Go.Ev
set_option maxRecDepth 100000
attribute [local go_sem] cells_any storable_any ren1_any shaped_ptr cells_ptr storable_ptr ren1_ptr shaped_eptr cells_eptr storable_eptr ren1_eptr shaped_rsl cells_rsl storable_rsl ren1_rsl shaped_int cells_int storable_int ren1_int shaped_bool cells_bool storable_bool ren1_bool shaped_nils cells_nils storable_nils ren1_nils shaped_lst cells_lst storable_lst shaped_fn cells_fn storable_fn ren1_fn shaped_ifc cells_ifc storable_ifc ren1_ifc shaped_agg cells_agg storable_agg ren1_agg shaped_tup cells_tup storable_tup ren1_tup shaped_nif cells_nif storable_nif ren1_nif ren1_lany ren1_lfull ren1_lown len_lst len_rsl len_nil load_ptr load_eptr isRsl_lst isRsl_nil isRsl_rsl elems_nil elems_lst elems_sl isRsl_sl body_eq bodyK_normal bodyK_ret resK_some leaveK_some only_some code_skip code_exit code_ret code_ops code_seq code_cond code_block seqK_normal seqK_ret seqK_exit condK_true condK_false blockK_normal blockK_ret blockK_exit opsK_some ops_nil ops_cons wantK_true wantK_false stepK_some pubs pub pub_sl params okRef_loc storable_loc shaped_loc cells_loc isRsl_loc elems_loc len_loc untips untip untip_sl wantedAV setElems withO isAgg_v isAgg_agg isAgg_lst isAgg_ptr isAgg_fn isAgg_ifc isAgg_rsl isAgg_sl isAgg_loc List.replicate_succ List.replicate_zero opAV valAV aval avals ofVal Env.get setD canon gcAV renAll renEnv renStore renCells ren1_sl cutSt okEnv okStore okRefs okRef okRef_sl bin_int bin_bool bin_lst bin_rsl bin_nil bin_agg cellsEq cellEq isShift intOp boolOp min_int max_int beq_int bne resAV tupAV leave_eq fin_sl fin_loc fins fin_v fin_lst fin_agg fin_tup fin_fn storeAV readCells putCells cells_sl shaped_sl storable_sl fieldAddrAV len_sl goI List.getElem?_cons_zero List.getElem?_cons_succ List.getElem?_nil Option.bind_some Option.map_some List.length_cons List.length_nil List.all_cons List.all_nil Bool.and_true Bool.true_and Bool.and_false Bool.false_and and_true true_and and_false false_and Bool.false_eq_true List.set_cons_zero List.set_cons_succ List.append_nil List.nil_append List.cons_append List.take_zero List.take_succ_cons List.take_nil List.drop_zero List.drop_succ_cons List.map_cons List.map_nil decide_true decide_false beq_self_eq_true Bool.not_true Bool.not_false or_true true_or or_false false_or Nat.zero_add Nat.add_zero Nat.le_refl Nat.lt_irrefl decide_eq_true_eq eq_self_iff_true not_true_eq_false not_false_eq_true List.getD_cons_zero code_loop Nat.zero_le Nat.not_lt_zero Bool.true_beq Bool.false_beq beq_true beq_false ge_iff_le gt_iff_lt keepR keepT ownTop Lpure pus Option.map_none assert_ifc assert_nil idxA_ptr idxA_eptr idxV_agg Int.cast_ofNat_Int Nat.mul_one Nat.zero_mul Int.toNat_natCast Int.toNat_zero setParts withO2 hasKey eqnil_sl nenil_sl eqnil_loc nenil_loc map_nil_iff elemsM_nil elemsM_lst elemsM_sl elemsM_loc elemsM_rsl elemsM_agg setElemsR pubR_v pubR_rsl pubE_v pubE_rsl okRefs_ints renCells_ints

abbrev prAV (a : Int × Int) : AV := .agg [I a.1, I a.2]
abbrev bkAV (nl : Bool) (n : Int) (ps : List (Int × Int)) : AV := .agg [I n, sl 2 nl (ps.map prAV)]
abbrev bkCells (nl : Bool) (n : Int) (ps : List (Int × Int)) : List AV := [I n, sl 2 nl (ps.map prAV)]

theorem succ64 (i : Nat) (h : i < 1000000) : IntKind.i64.wrap ((i : Int) + 1) = ((i + 1 : Nat) : Int) := by
  rw [wrap64] <;> omega
theorem index_prs (nl : Bool) (ps : List (Int × Int)) (i : Nat) (h : i < ps.length) : indexSAV 2 (sl 2 nl (ps.map prAV)) (.v (.int .i64 i)) = some (.eptr (.agg [.v (.int .i64 ps[i].1), .v (.int .i64 ps[i].2)]) 0) := by
  rw [index_sl _ _ _ _ _ (by omega) (by simpa using h)]
  simp
theorem index_ints (nl : Bool) (l : List Int) (i : Nat) (h : i < l.length) : indexSAV 1 (sl 1 nl (l.map I)) (.v (.int .i64 i)) = some (.eptr (I l[i]) 0) := by
  rw [index_sl _ _ _ _ _ (by omega) (by simpa using h)]
  simp
theorem slice_prs (nl : Bool) (ps : List (Int × Int)) (i : Nat) (h : i < ps.length) : sliceAV 2 (sl 2 nl (ps.map prAV)) none (some (.v (.int .i64 i))) none = some (sl 2 false ((ps.take i).map prAV)) := by
  have e : sl 2 nl (ps.map prAV) = .lst .any 2 (ps.map prAV) := by
    unfold sl; rw [if_neg]; rintro ⟨_, h2⟩
    simp at h2; subst h2; simp at h
  rw [e]
  simp [sliceAV, natOr, natOf, tagSlice, sl, List.map_take]
  omega

theorem loop106 (nl : Bool) (ps : List (Int × Int)) (hlen : ps.length < 1000000) (p q : Int) (i : Nat) (hok : i ≤ ps.length) (env : Env) (st : St)
    (hg : gcAV true 1 0 (canon env [0, 3, 7, 8]) st = ([(0, sl 2 nl (ps.map prAV)), (3, .ptr 0 0), (7, I ps.length), (8, I i)], ⟨[[I p, I q]], []⟩)) :
    ∃ x_1 en s, lim (headed pure (run L) true [0, 3, 7, 8] lp106_0 1 0) env st = some (x_1, en, s) ∧ (if (p, q) ∈ ps.drop i then x_1 = .ret ∧ ∃ k : Int, 0 ≤ k ∧ en.get 4 = I k else x_1 = .exit 0) := by
  refine loop_wp (α := Nat) (fun i => ps.length - i) (fun i => i ≤ ps.length) (fun i => ([(0, sl 2 nl (ps.map prAV)), (3, .ptr 0 0), (7, I ps.length), (8, I i)], ⟨[[I p, I q]], []⟩)) (fun i x_1 en s => if (p, q) ∈ ps.drop i then x_1 = .ret ∧ ∃ k : Int, 0 ≤ k ∧ en.get 4 = I k else x_1 = .exit 0) (fun i hok => ?_) i hok env st hg
  by_cases h : i < ps.length
  · have hx := index_prs nl ps i h
    have hs := succ64 i (by omega)
    have hd : ps.drop i = ps[i] :: ps.drop (i + 1) := List.drop_eq_getElem_cons h
    rw [hd]
    generalize ps[i] = a at *
    obtain ⟨u, v⟩ := a
    have hlt : ((i : Int) < (ps.length : Int)) = True := eq_true (by omega)
    simp only at hx
    by_cases e1 : p = u
    · by_cases e2 : q = v
      · subst e1; subst e2
        simp only [go_sem, reduceIte, Nat.reduceEqDiff, Nat.reduceAdd, Nat.reduceSub, Nat.reduceLeDiff, Nat.reduceLT, reduceCtorEq, Int.reduceLT, Int.reduceLE, Int.reduceEq, Int.reduceBEq, Int.reduceSub, Int.reduceAdd, Int.reduceMul, Int.reduceNeg, Int.reduceToNat, Nat.reduceMul, Nat.reduceBEq, index_rsl_if, setm, make_ints, condK_dec, wantK_dec, not_dec, and_dec, or_dec, seqK_ite, seqK_none, blockK_ite, blockK_none, opsK_ite, opsK_none, stepK_ite, stepK_none, bodyK_ite, bodyK_none, resK_ite, resK_none, leaveK_ite, leaveK_none, only_ite, only_none, bind_ite, gives_some, gives_none, gives_ite, then_normal, then_ret, then_exit, then_none, then_ite, Option.bind_none, Bool.not_eq_true', decide_eq_false_iff_not, Bool.and_eq_true, Bool.or_eq_true, Option.some.injEq, Int.not_lt, Int.not_le, lp106_0, hx, hlt]
        rw [if_pos (by simp)]
        exact ⟨(i : Int), by omega, rfl⟩
      · simp only [go_sem, reduceIte, Nat.reduceEqDiff, Nat.reduceAdd, Nat.reduceSub, Nat.reduceLeDiff, Nat.reduceLT, reduceCtorEq, Int.reduceLT, Int.reduceLE, Int.reduceEq, Int.reduceBEq, Int.reduceSub, Int.reduceAdd, Int.reduceMul, Int.reduceNeg, Int.reduceToNat, Nat.reduceMul, Nat.reduceBEq, index_rsl_if, setm, make_ints, condK_dec, wantK_dec, not_dec, and_dec, or_dec, seqK_ite, seqK_none, blockK_ite, blockK_none, opsK_ite, opsK_none, stepK_ite, stepK_none, bodyK_ite, bodyK_none, resK_ite, resK_none, leaveK_ite, leaveK_none, only_ite, only_none, bind_ite, gives_some, gives_none, gives_ite, then_normal, then_ret, then_exit, then_none, then_ite, Option.bind_none, Bool.not_eq_true', decide_eq_false_iff_not, Bool.and_eq_true, Bool.or_eq_true, Option.some.injEq, Int.not_lt, Int.not_le, lp106_0, hx, hlt, e1, e2, hs]
        refine ⟨i + 1, by simp only [go_sem, reduceIte, Nat.reduceEqDiff, Nat.reduceAdd, Nat.reduceSub, Nat.reduceLeDiff, Nat.reduceLT, reduceCtorEq, Int.reduceLT, Int.reduceLE, Int.reduceEq, Int.reduceBEq, Int.reduceSub, Int.reduceAdd, Int.reduceMul, Int.reduceNeg, Int.reduceToNat, Nat.reduceMul, Nat.reduceBEq, ren1_locm, loc_tips, locT_eq] <;> rfl, ?_, ?_, fun x en s hq => ?_⟩
        · omega
        · omega
        · simp only [List.mem_cons, Prod.mk.injEq, e2, and_false, false_or]; exact hq
    · simp only [go_sem, reduceIte, Nat.reduceEqDiff, Nat.reduceAdd, Nat.reduceSub, Nat.reduceLeDiff, Nat.reduceLT, reduceCtorEq, Int.reduceLT, Int.reduceLE, Int.reduceEq, Int.reduceBEq, Int.reduceSub, Int.reduceAdd, Int.reduceMul, Int.reduceNeg, Int.reduceToNat, Nat.reduceMul, Nat.reduceBEq, index_rsl_if, setm, make_ints, condK_dec, wantK_dec, not_dec, and_dec, or_dec, seqK_ite, seqK_none, blockK_ite, blockK_none, opsK_ite, opsK_none, stepK_ite, stepK_none, bodyK_ite, bodyK_none, resK_ite, resK_none, leaveK_ite, leaveK_none, only_ite, only_none, bind_ite, gives_some, gives_none, gives_ite, then_normal, then_ret, then_exit, then_none, then_ite, Option.bind_none, Bool.not_eq_true', decide_eq_false_iff_not, Bool.and_eq_true, Bool.or_eq_true, Option.some.injEq, Int.not_lt, Int.not_le, lp106_0, hx, hlt, e1, hs]
      refine ⟨i + 1, by simp only [go_sem, reduceIte, Nat.reduceEqDiff, Nat.reduceAdd, Nat.reduceSub, Nat.reduceLeDiff, Nat.reduceLT, reduceCtorEq, Int.reduceLT, Int.reduceLE, Int.reduceEq, Int.reduceBEq, Int.reduceSub, Int.reduceAdd, Int.reduceMul, Int.reduceNeg, Int.reduceToNat, Nat.reduceMul, Nat.reduceBEq, ren1_locm, loc_tips, locT_eq] <;> rfl, ?_, ?_, fun x en s hq => ?_⟩
      · omega
      · omega
      · simp only [List.mem_cons, Prod.mk.injEq, e1, false_and, false_or]; exact hq
  · have hd : ps.drop i = [] := List.drop_eq_nil_of_le (by omega)
    have hlt : ((i : Int) < (ps.length : Int)) = False := eq_false (by omega)
    simp only [go_sem, reduceIte, Nat.reduceEqDiff, Nat.reduceAdd, Nat.reduceSub, Nat.reduceLeDiff, Nat.reduceLT, reduceCtorEq, Int.reduceLT, Int.reduceLE, Int.reduceEq, Int.reduceBEq, Int.reduceSub, Int.reduceAdd, Int.reduceMul, Int.reduceNeg, Int.reduceToNat, Nat.reduceMul, Nat.reduceBEq, index_rsl_if, setm, make_ints, condK_dec, wantK_dec, not_dec, and_dec, or_dec, seqK_ite, seqK_none, blockK_ite, blockK_none, opsK_ite, opsK_none, stepK_ite, stepK_none, bodyK_ite, bodyK_none, resK_ite, resK_none, leaveK_ite, leaveK_none, only_ite, only_none, bind_ite, gives_some, gives_none, gives_ite, then_normal, then_ret, then_exit, then_none, then_ite, Option.bind_none, Bool.not_eq_true', decide_eq_false_iff_not, Bool.and_eq_true, Bool.or_eq_true, Option.some.injEq, Int.not_lt, Int.not_le, lp106_0, hlt]
    rw [hd]; simp

theorem c76 (nl : Bool) (ps : List (Int × Int)) (hlen : ps.length < 1000000) (p q : Int) (st : St) :
    run L 76 [sl 2 nl (ps.map prAV), .agg [I p, I q]] st = some (B (decide ((p, q) ∈ ps)), st) := by
  have h106 : ∀ st, ∃ k : Int, run L 106 [sl 2 nl (ps.map prAV), .agg [I p, I q]] st = some (I k, st) ∧ (0 ≤ k ↔ (p, q) ∈ ps) := by
    intro st
    rw [run_pure (fn := ir106) rfl rfl]
    simp only [ir106, go_sem, reduceIte, Nat.reduceEqDiff, Nat.reduceAdd, Nat.reduceSub, Nat.reduceLeDiff, Nat.reduceLT, reduceCtorEq, Int.reduceLT, Int.reduceLE, Int.reduceEq, Int.reduceBEq, Int.reduceSub, Int.reduceAdd, Int.reduceMul, Int.reduceNeg, Int.reduceToNat, Nat.reduceMul, Nat.reduceBEq, List.length_map]
    generalize hg : lim (headed pure (run L) true _ lp106_0 _ _) _ _ = o
    obtain ⟨x, en, s, rfl, h2⟩ : ∃ x en s, o = some (x, en, s) ∧ _ := by rw [← hg]; exact loop106 nl ps hlen p q 0 (by omega) _ _ (by simp only [go_sem, reduceIte, Nat.reduceEqDiff, Nat.reduceAdd, Nat.reduceSub, Nat.reduceLeDiff, Nat.reduceLT, reduceCtorEq, Int.reduceLT, Int.reduceLE, Int.reduceEq, Int.reduceBEq, Int.reduceSub, Int.reduceAdd, Int.reduceMul, Int.reduceNeg, Int.reduceToNat, Nat.reduceMul, Nat.reduceBEq] <;> rfl)
    clear hg
    rw [List.drop_zero] at h2
    by_cases h : (p, q) ∈ ps
    · rw [if_pos h] at h2
      obtain ⟨rfl, k, hk, h3⟩ := h2
      exact ⟨k, by simp only [go_sem, reduceIte, Nat.reduceEqDiff, Nat.reduceAdd, Nat.reduceSub, Nat.reduceLeDiff, Nat.reduceLT, reduceCtorEq, Int.reduceLT, Int.reduceLE, Int.reduceEq, Int.reduceBEq, Int.reduceSub, Int.reduceAdd, Int.reduceMul, Int.reduceNeg, Int.reduceToNat, Nat.reduceMul, Nat.reduceBEq, h3], by simp [h, hk]⟩
    · rw [if_neg h] at h2
      subst h2
      exact ⟨-1, by simp only [go_sem, reduceIte, Nat.reduceEqDiff, Nat.reduceAdd, Nat.reduceSub, Nat.reduceLeDiff, Nat.reduceLT, reduceCtorEq, Int.reduceLT, Int.reduceLE, Int.reduceEq, Int.reduceBEq, Int.reduceSub, Int.reduceAdd, Int.reduceMul, Int.reduceNeg, Int.reduceToNat, Nat.reduceMul, Nat.reduceBEq], by simp [h]⟩
  rw [run_pure (fn := ir76) rfl rfl]
  obtain ⟨k, h1, h2⟩ := h106 ⟨[[I p, I q]], []⟩
  simp only [ir76, go_sem, reduceIte, Nat.reduceEqDiff, Nat.reduceAdd, Nat.reduceSub, Nat.reduceLeDiff, Nat.reduceLT, reduceCtorEq, Int.reduceLT, Int.reduceLE, Int.reduceEq, Int.reduceBEq, Int.reduceSub, Int.reduceAdd, Int.reduceMul, Int.reduceNeg, Int.reduceToNat, Nat.reduceMul, Nat.reduceBEq, h1, h2]


/-- What is wrong with a pair behind others; with pairs; with a book. -/
def prErr (n : Int) (seen : List (Int × Int)) (p : Int × Int) : Int := if p.1 < 0 ∨ p.2 < 0 ∨ n ≤ p.1 ∨ n ≤ p.2 then 2 else if p.2 ≤ p.1 then 7 else if p ∈ seen then 6 else 0
def prsErr (n : Int) : List (Int × Int) → List (Int × Int) → Int
  | _, [] => 0
  | seen, p :: r => if prErr n seen p = 0 then prsErr n (seen ++ [p]) r else prErr n seen p
def chk (n : Int) (ps : List (Int × Int)) : Int := if n < 1 ∨ 7 < n then 1 else if 10 < ps.length then 3 else prsErr n [] ps

theorem loop22 (nl : Bool) (n : Int) (hn : 1 ≤ n ∧ n ≤ 7) (ps : List (Int × Int)) (hlen : ps.length ≤ 10) (i : Nat) (hok : i ≤ ps.length) (env : Env) (st : St)
    (hg : gcAV true 1 0 (canon env [1, 20, 21, 22]) st = ([(1, .ptr 0 0), (20, sl 2 nl (ps.map prAV)), (21, I ps.length), (22, I i)], ⟨[bkCells nl n ps], []⟩)) :
    ∃ x_1 en s, lim (headed pure (run L) true [1, 20, 21, 22] lp22_0 1 0) env st = some (x_1, en, s) ∧ (if prsErr n (ps.take i) (ps.drop i) = 0 then x_1 = .exit 1 else x_1 = .ret ∧ en.get 2 = I (prsErr n (ps.take i) (ps.drop i))) := by
  refine loop_wp (α := Nat) (fun i => ps.length - i) (fun i => i ≤ ps.length) (fun i => ([(1, .ptr 0 0), (20, sl 2 nl (ps.map prAV)), (21, I ps.length), (22, I i)], ⟨[bkCells nl n ps], []⟩)) (fun i x_1 en s => if prsErr n (ps.take i) (ps.drop i) = 0 then x_1 = .exit 1 else x_1 = .ret ∧ en.get 2 = I (prsErr n (ps.take i) (ps.drop i))) (fun i hok => ?_) i hok env st hg
  by_cases h : i < ps.length
  · have hx := index_prs nl ps i h
    have hs := succ64 i (by omega)
    have hd : ps.drop i = ps[i] :: ps.drop (i + 1) := List.drop_eq_getElem_cons h
    have ht : ps.take (i + 1) = ps.take i ++ [ps[i]] := by rw [List.take_succ_eq_append_getElem h]
    have hsl := slice_prs nl ps i h
    have h76 := fun p q st => c76 false (ps.take i) (by rw [List.length_take]; omega) p q st
    rw [hd]
    generalize ps[i] = c at *
    obtain ⟨u, v⟩ := c
    have hlt : ((i : Int) < (ps.length : Int)) = True := eq_true (by omega)
    simp only at hx
    have hmn : (if v < u then v else u) = min u v := by rw [Int.min_def]; split <;> split <;> omega
    have hmx : (if u < v then v else u) = max u v := by rw [Int.max_def]; split <;> split <;> omega
    by_cases p1 : min u v < 0
    · have he : prErr n (ps.take i) (u, v) = 2 := by unfold prErr; simp only; rw [if_pos (by omega)]
      simp only [go_sem, reduceIte, Nat.reduceEqDiff, Nat.reduceAdd, Nat.reduceSub, Nat.reduceLeDiff, Nat.reduceLT, reduceCtorEq, Int.reduceLT, Int.reduceLE, Int.reduceEq, Int.reduceBEq, Int.reduceSub, Int.reduceAdd, Int.reduceMul, Int.reduceNeg, Int.reduceToNat, Nat.reduceMul, Nat.reduceBEq, index_rsl_if, setm, make_ints, condK_dec, wantK_dec, not_dec, and_dec, or_dec, seqK_ite, seqK_none, blockK_ite, blockK_none, opsK_ite, opsK_none, stepK_ite, stepK_none, bodyK_ite, bodyK_none, resK_ite, resK_none, leaveK_ite, leaveK_none, only_ite, only_none, bind_ite, gives_some, gives_none, gives_ite, then_normal, then_ret, then_exit, then_none, then_ite, Option.bind_none, Bool.not_eq_true', decide_eq_false_iff_not, Bool.and_eq_true, Bool.or_eq_true, Option.some.injEq, Int.not_lt, Int.not_le, lp22_0, hx, hlt, p1, hmn, hmx, List.length_map]
      simp [prsErr, he]
    by_cases p1b : n ≤ max u v
    · have he : prErr n (ps.take i) (u, v) = 2 := by unfold prErr; simp only; rw [if_pos (by omega)]
      simp only [go_sem, reduceIte, Nat.reduceEqDiff, Nat.reduceAdd, Nat.reduceSub, Nat.reduceLeDiff, Nat.reduceLT, reduceCtorEq, Int.reduceLT, Int.reduceLE, Int.reduceEq, Int.reduceBEq, Int.reduceSub, Int.reduceAdd, Int.reduceMul, Int.reduceNeg, Int.reduceToNat, Nat.reduceMul, Nat.reduceBEq, index_rsl_if, setm, make_ints, condK_dec, wantK_dec, not_dec, and_dec, or_dec, seqK_ite, seqK_none, blockK_ite, blockK_none, opsK_ite, opsK_none, stepK_ite, stepK_none, bodyK_ite, bodyK_none, resK_ite, resK_none, leaveK_ite, leaveK_none, only_ite, only_none, bind_ite, gives_some, gives_none, gives_ite, then_normal, then_ret, then_exit, then_none, then_ite, Option.bind_none, Bool.not_eq_true', decide_eq_false_iff_not, Bool.and_eq_true, Bool.or_eq_true, Option.some.injEq, Int.not_lt, Int.not_le, lp22_0, hx, hlt, p1, p1b, hmn, hmx, List.length_map]
      simp [prsErr, he]
    by_cases p2 : v ≤ u
    · have he : prErr n (ps.take i) (u, v) = 7 := by unfold prErr; simp only; rw [if_neg (by omega), if_pos p2]
      simp only [go_sem, reduceIte, Nat.reduceEqDiff, Nat.reduceAdd, Nat.reduceSub, Nat.reduceLeDiff, Nat.reduceLT, reduceCtorEq, Int.reduceLT, Int.reduceLE, Int.reduceEq, Int.reduceBEq, Int.reduceSub, Int.reduceAdd, Int.reduceMul, Int.reduceNeg, Int.reduceToNat, Nat.reduceMul, Nat.reduceBEq, index_rsl_if, setm, make_ints, condK_dec, wantK_dec, not_dec, and_dec, or_dec, seqK_ite, seqK_none, blockK_ite, blockK_none, opsK_ite, opsK_none, stepK_ite, stepK_none, bodyK_ite, bodyK_none, resK_ite, resK_none, leaveK_ite, leaveK_none, only_ite, only_none, bind_ite, gives_some, gives_none, gives_ite, then_normal, then_ret, then_exit, then_none, then_ite, Option.bind_none, Bool.not_eq_true', decide_eq_false_iff_not, Bool.and_eq_true, Bool.or_eq_true, Option.some.injEq, Int.not_lt, Int.not_le, lp22_0, hx, hlt, p1, p1b, hmn, hmx, p2, List.length_map]
      simp [prsErr, he]
    · by_cases p3 : (u, v) ∈ ps.take i
      · have he : prErr n (ps.take i) (u, v) = 6 := by unfold prErr; simp only; rw [if_neg (by omega), if_neg p2, if_pos p3]
        simp only [go_sem, reduceIte, Nat.reduceEqDiff, Nat.reduceAdd, Nat.reduceSub, Nat.reduceLeDiff, Nat.reduceLT, reduceCtorEq, Int.reduceLT, Int.reduceLE, Int.reduceEq, Int.reduceBEq, Int.reduceSub, Int.reduceAdd, Int.reduceMul, Int.reduceNeg, Int.reduceToNat, Nat.reduceMul, Nat.reduceBEq, index_rsl_if, setm, make_ints, condK_dec, wantK_dec, not_dec, and_dec, or_dec, seqK_ite, seqK_none, blockK_ite, blockK_none, opsK_ite, opsK_none, stepK_ite, stepK_none, bodyK_ite, bodyK_none, resK_ite, resK_none, leaveK_ite, leaveK_none, only_ite, only_none, bind_ite, gives_some, gives_none, gives_ite, then_normal, then_ret, then_exit, then_none, then_ite, Option.bind_none, Bool.not_eq_true', decide_eq_false_iff_not, Bool.and_eq_true, Bool.or_eq_true, Option.some.injEq, Int.not_lt, Int.not_le, lp22_0, hx, hlt, p1, p1b, hmn, hmx, p2, hsl, h76, p3, List.length_map]
        simp [prsErr, he]
      · have he : prErr n (ps.take i) (u, v) = 0 := by unfold prErr; simp only; rw [if_neg (by omega), if_neg p2, if_neg p3]
        simp only [go_sem, reduceIte, Nat.reduceEqDiff, Nat.reduceAdd, Nat.reduceSub, Nat.reduceLeDiff, Nat.reduceLT, reduceCtorEq, Int.reduceLT, Int.reduceLE, Int.reduceEq, Int.reduceBEq, Int.reduceSub, Int.reduceAdd, Int.reduceMul, Int.reduceNeg, Int.reduceToNat, Nat.reduceMul, Nat.reduceBEq, index_rsl_if, setm, make_ints, condK_dec, wantK_dec, not_dec, and_dec, or_dec, seqK_ite, seqK_none, blockK_ite, blockK_none, opsK_ite, opsK_none, stepK_ite, stepK_none, bodyK_ite, bodyK_none, resK_ite, resK_none, leaveK_ite, leaveK_none, only_ite, only_none, bind_ite, gives_some, gives_none, gives_ite, then_normal, then_ret, then_exit, then_none, then_ite, Option.bind_none, Bool.not_eq_true', decide_eq_false_iff_not, Bool.and_eq_true, Bool.or_eq_true, Option.some.injEq, Int.not_lt, Int.not_le, lp22_0, hx, hlt, p1, p1b, hmn, hmx, p2, hsl, h76, p3, hs, List.length_map]
        refine ⟨i + 1, by simp only [go_sem, reduceIte, Nat.reduceEqDiff, Nat.reduceAdd, Nat.reduceSub, Nat.reduceLeDiff, Nat.reduceLT, reduceCtorEq, Int.reduceLT, Int.reduceLE, Int.reduceEq, Int.reduceBEq, Int.reduceSub, Int.reduceAdd, Int.reduceMul, Int.reduceNeg, Int.reduceToNat, Nat.reduceMul, Nat.reduceBEq, ren1_locm, loc_tips, locT_eq] <;> rfl, ?_, ?_, fun x en s hq => ?_⟩
        · omega
        · omega
        · have e2 : prsErr n (ps.take i) ((u, v) :: ps.drop (i + 1)) = prsErr n (ps.take (i + 1)) (ps.drop (i + 1)) := by simp only [prsErr, he, if_true, ht]
          rw [e2]; exact hq
  · have hd : ps.drop i = [] := List.drop_eq_nil_of_le (by omega)
    have hlt : ((i : Int) < (ps.length : Int)) = False := eq_false (by omega)
    simp only [go_sem, reduceIte, Nat.reduceEqDiff, Nat.reduceAdd, Nat.reduceSub, Nat.reduceLeDiff, Nat.reduceLT, reduceCtorEq, Int.reduceLT, Int.reduceLE, Int.reduceEq, Int.reduceBEq, Int.reduceSub, Int.reduceAdd, Int.reduceMul, Int.reduceNeg, Int.reduceToNat, Nat.reduceMul, Nat.reduceBEq, index_rsl_if, setm, make_ints, condK_dec, wantK_dec, not_dec, and_dec, or_dec, seqK_ite, seqK_none, blockK_ite, blockK_none, opsK_ite, opsK_none, stepK_ite, stepK_none, bodyK_ite, bodyK_none, resK_ite, resK_none, leaveK_ite, leaveK_none, only_ite, only_none, bind_ite, gives_some, gives_none, gives_ite, then_normal, then_ret, then_exit, then_none, then_ite, Option.bind_none, Bool.not_eq_true', decide_eq_false_iff_not, Bool.and_eq_true, Bool.or_eq_true, Option.some.injEq, Int.not_lt, Int.not_le, lp22_0, hlt, List.length_map]
    rw [hd]; simp [prsErr]

theorem c22 (nl : Bool) (n : Int) (ps : List (Int × Int)) (st : St) :
    run L 22 [bkAV nl n ps] st = some (I (chk n ps), st) := by
  rw [run_pure (fn := ir22) rfl rfl]
  unfold chk
  by_cases p0 : n < 1 ∨ 7 < n
  · rw [if_pos p0]
    by_cases a : n < 1
    · simp only [ir22, go_sem, reduceIte, Nat.reduceEqDiff, Nat.reduceAdd, Nat.reduceSub, Nat.reduceLeDiff, Nat.reduceLT, reduceCtorEq, Int.reduceLT, Int.reduceLE, Int.reduceEq, Int.reduceBEq, Int.reduceSub, Int.reduceAdd, Int.reduceMul, Int.reduceNeg, Int.reduceToNat, Nat.reduceMul, Nat.reduceBEq, a]
    · simp only [ir22, go_sem, reduceIte, Nat.reduceEqDiff, Nat.reduceAdd, Nat.reduceSub, Nat.reduceLeDiff, Nat.reduceLT, reduceCtorEq, Int.reduceLT, Int.reduceLE, Int.reduceEq, Int.reduceBEq, Int.reduceSub, Int.reduceAdd, Int.reduceMul, Int.reduceNeg, Int.reduceToNat, Nat.reduceMul, Nat.reduceBEq, a, show (7 < n) = True from eq_true (by omega)]
  · rw [if_neg p0]
    by_cases p1 : 10 < ps.length
    · have q1 : ((10 : Int) < (ps.length : Int)) = True := eq_true (by omega)
      rw [if_pos p1]
      simp only [ir22, go_sem, reduceIte, Nat.reduceEqDiff, Nat.reduceAdd, Nat.reduceSub, Nat.reduceLeDiff, Nat.reduceLT, reduceCtorEq, Int.reduceLT, Int.reduceLE, Int.reduceEq, Int.reduceBEq, Int.reduceSub, Int.reduceAdd, Int.reduceMul, Int.reduceNeg, Int.reduceToNat, Nat.reduceMul, Nat.reduceBEq, show (n < 1) = False from eq_false (by omega), show (7 < n) = False from eq_false (by omega), q1, List.length_map]
    · have q1 : ((10 : Int) < (ps.length : Int)) = False := eq_false (by omega)
      rw [if_neg p1]
      simp only [ir22, go_sem, reduceIte, Nat.reduceEqDiff, Nat.reduceAdd, Nat.reduceSub, Nat.reduceLeDiff, Nat.reduceLT, reduceCtorEq, Int.reduceLT, Int.reduceLE, Int.reduceEq, Int.reduceBEq, Int.reduceSub, Int.reduceAdd, Int.reduceMul, Int.reduceNeg, Int.reduceToNat, Nat.reduceMul, Nat.reduceBEq, show (n < 1) = False from eq_false (by omega), show (7 < n) = False from eq_false (by omega), q1, List.length_map]
      generalize hg : lim (headed pure (run L) true _ lp22_0 _ _) _ _ = o
      obtain ⟨x, en, s, rfl, h2⟩ : ∃ x en s, o = some (x, en, s) ∧ _ := by rw [← hg]; exact loop22 nl n (by omega) ps (by omega) 0 (by omega) _ _ (by simp only [go_sem, reduceIte, Nat.reduceEqDiff, Nat.reduceAdd, Nat.reduceSub, Nat.reduceLeDiff, Nat.reduceLT, reduceCtorEq, Int.reduceLT, Int.reduceLE, Int.reduceEq, Int.reduceBEq, Int.reduceSub, Int.reduceAdd, Int.reduceMul, Int.reduceNeg, Int.reduceToNat, Nat.reduceMul, Nat.reduceBEq] <;> rfl)
      clear hg
      simp only [List.drop_zero, List.take_zero] at h2
      by_cases h : prsErr n [] ps = 0
      · rw [if_pos h] at h2
        subst h2
        simp only [go_sem, reduceIte, Nat.reduceEqDiff, Nat.reduceAdd, Nat.reduceSub, Nat.reduceLeDiff, Nat.reduceLT, reduceCtorEq, Int.reduceLT, Int.reduceLE, Int.reduceEq, Int.reduceBEq, Int.reduceSub, Int.reduceAdd, Int.reduceMul, Int.reduceNeg, Int.reduceToNat, Nat.reduceMul, Nat.reduceBEq, h]
      · rw [if_neg h] at h2
        obtain ⟨rfl, h3⟩ := h2
        simp only [go_sem, reduceIte, Nat.reduceEqDiff, Nat.reduceAdd, Nat.reduceSub, Nat.reduceLeDiff, Nat.reduceLT, reduceCtorEq, Int.reduceLT, Int.reduceLE, Int.reduceEq, Int.reduceBEq, Int.reduceSub, Int.reduceAdd, Int.reduceMul, Int.reduceNeg, Int.reduceToNat, Nat.reduceMul, Nat.reduceBEq, h3]


abbrev U (n : Nat) : AV := .v (.int .u64 n)

theorem wrapU (n : Nat) (h : n < 2 ^ 64) : IntKind.u64.wrap (n : Int) = n := by
  simp [IntKind.wrap, IntKind.bits, IntKind.signed]; omega
theorem shrU (m p : Nat) (h : p < 64) : Int.fdiv (m : Int) (2 ^ min p 64) = ((m >>> p : Nat) : Int) := by
  have e : min p 64 = p := by omega
  have e2 : ((2 : Int) ^ p) = ((2 ^ p : Nat) : Int) := by simp
  rw [e, e2, Int.fdiv_eq_ediv_of_nonneg _ (Int.natCast_nonneg _), Nat.shiftRight_eq_div_pow]
  simp
theorem and_one (n : Nat) : binAV .and none (.v (.int .u64 (n : Int))) (.v (.int .u64 1)) = some (.v (.int .u64 ((n % 2 : Nat) : Int))) := by
  have h : (BitVec.ofInt 64 (n : Int) &&& BitVec.ofInt 64 1).toNat = n % 2 := by
    rw [BitVec.toNat_and]
    have : (BitVec.ofInt 64 1).toNat = 1 := by decide
    rw [this, Nat.and_one_is_mod, BitVec.ofInt_natCast, BitVec.toNat_ofNat]
    omega
  show some (AV.v (.int .u64 (IntKind.u64.wrap ((BitVec.ofInt 64 (n : Int) &&& BitVec.ofInt 64 1).toNat : Int)))) = _
  rw [h, wrapU _ (by omega)]
theorem shr_u (m p : Nat) : binAV .shr none (.v (.int .u64 (m : Int))) (.v (.int .i64 (p : Int))) = some (.v (.int .u64 ((m >>> min p 64 : Nat) : Int))) := by
  have e := shrU m (min p 64)
  show (if (p : Int) < 0 then none else some (AV.v (.int .u64 (Int.fdiv (m : Int) (2 ^ min (Int.toNat (p : Int)) 64))))) = _
  rw [if_neg (by omega), Int.toNat_natCast]
  have e2 : ((2 : Int) ^ (min p 64)) = ((2 ^ (min p 64) : Nat) : Int) := by simp
  rw [e2, Int.fdiv_eq_ediv_of_nonneg _ (Int.natCast_nonneg _), Nat.shiftRight_eq_div_pow]
  simp
theorem min64 (p : Nat) (h : p < 64) : min p 64 = p := by omega
attribute [local go_sem high] and_one shr_u
theorem bit_zero (m p : Nat) : ((((m >>> p) % 2 : Nat) : Int) = 0) = (m.testBit p = false) := by
  rw [Nat.testBit_eq_decide_div_mod_eq, Nat.shiftRight_eq_div_pow]
  generalize m / 2 ^ p = k
  have : k % 2 < 2 := Nat.mod_lt _ (by omega)
  rw [decide_eq_false_iff_not]
  exact propext (by omega)

theorem c107 (m u v : Nat) (hm : m < 128) (hu : u < 7) (hv : v < 7) (l : Nat) (st : St) (hl : st.store[l]? = some [U m]) :
    run L 107 [.agg [I u, I v], .ptr l 0] st = some (B (decide (m.testBit u = false ∧ m.testBit v = false)), ⟨st.store ++ [[I u, I v]], st.tips⟩) := by
  rw [run_shared (fn := ir107) rfl rfl]
  have hl2 : (st.store ++ [[I u, I v]])[l]? = some [U m] := by rw [List.getElem?_append_left (by have := List.getElem?_eq_some_iff.1 hl; exact this.1)]; exact hl
  have hs1 := min64 u (by omega)
  have hs2 := min64 v (by omega)
  have z1 := bit_zero m u
  have z2 := bit_zero m v
  have hn : (st.store ++ [[I u, I v]])[st.store.length]? = some [I u, I v] := by simp
  have q1 : ((u : Int) < 0) = False := eq_false (by omega)
  have q2 : ((v : Int) < 0) = False := eq_false (by omega)
  by_cases p : m.testBit u = false
  · simp only [ir107, go_sem, reduceIte, Nat.reduceEqDiff, Nat.reduceAdd, Nat.reduceSub, Nat.reduceLeDiff, Nat.reduceLT, reduceCtorEq, Int.reduceLT, Int.reduceLE, Int.reduceEq, Int.reduceBEq, Int.reduceSub, Int.reduceAdd, Int.reduceMul, Int.reduceNeg, Int.reduceToNat, Nat.reduceMul, Nat.reduceBEq, loadAV, hl2, hn, hs1, hs2, z1, z2, p]
  · simp only [ir107, go_sem, reduceIte, Nat.reduceEqDiff, Nat.reduceAdd, Nat.reduceSub, Nat.reduceLeDiff, Nat.reduceLT, reduceCtorEq, Int.reduceLT, Int.reduceLE, Int.reduceEq, Int.reduceBEq, Int.reduceSub, Int.reduceAdd, Int.reduceMul, Int.reduceNeg, Int.reduceToNat, Nat.reduceMul, Nat.reduceBEq, loadAV, hl2, hn, hs1, hs2, z1, z2, p]

attribute [local go_sem high] and_one shr_u

/-- Both articles of a pair are among the first seven. -/
def okP (p : Int × Int) : Prop := 0 ≤ p.1 ∧ p.1 < 7 ∧ 0 ≤ p.2 ∧ p.2 < 7
/-- No article of a pair is in a set. -/
def openP (m : Nat) (p : Int × Int) : Bool := !(m.testBit p.1.toNat) && !(m.testBit p.2.toNat)

theorem loop95 (nl : Bool) (ps : List (Int × Int)) (hlen : ps.length < 1000000) (hok7 : ∀ p ∈ ps, okP p) (m : Nat) (hm : m < 128) (l : Nat) (S0 : List (List AV)) (T : List Nat) (hl : S0[l]? = some [U m]) (lo hi : Nat) (i : Nat) (junk : List (List AV)) (hok : i ≤ ps.length) (env : Env) (st : St)
    (hg : gcAV false lo hi (canon env [0, 1, 7, 8]) st = ([(0, sl 2 nl (ps.map prAV)), (1, .fn (.func 107) [] [.ptr l 0]), (7, I ps.length), (8, I i)], ⟨S0 ++ junk, T⟩)) :
    ∃ x_1 en s, lim (headed pure (run L) false [0, 1, 7, 8] lp95_0 lo hi) env st = some (x_1, en, s) ∧ ((∃ j, s = ⟨S0 ++ j, T⟩) ∧ (if (ps.drop i).any (openP m) = true then x_1 = .ret ∧ ∃ k : Int, 0 ≤ k ∧ en.get 4 = I k else x_1 = .exit 0)) := by
  refine loop_wp (α := Nat × List (List AV)) (fun ⟨i, junk⟩ => ps.length - i) (fun ⟨i, junk⟩ => i ≤ ps.length) (fun ⟨i, junk⟩ => ([(0, sl 2 nl (ps.map prAV)), (1, .fn (.func 107) [] [.ptr l 0]), (7, I ps.length), (8, I i)], ⟨S0 ++ junk, T⟩)) (fun ⟨i, junk⟩ x_1 en s => (∃ j, s = ⟨S0 ++ j, T⟩) ∧ (if (ps.drop i).any (openP m) = true then x_1 = .ret ∧ ∃ k : Int, 0 ≤ k ∧ en.get 4 = I k else x_1 = .exit 0)) (fun ⟨i, junk⟩ hok => ?_) ⟨i, junk⟩ hok env st hg
  simp only at hok
  have hl2 : (S0 ++ junk)[l]? = some [U m] := by rw [List.getElem?_append_left (List.getElem?_eq_some_iff.1 hl).1]; exact hl
  by_cases h : i < ps.length
  · have hx := index_prs nl ps i h
    have hs := succ64 i (by omega)
    have hd : ps.drop i = ps[i] :: ps.drop (i + 1) := List.drop_eq_getElem_cons h
    have hin : ps[i] ∈ ps := List.getElem_mem h
    have h7 := hok7 _ hin
    dsimp only
    rw [hd]
    generalize ps[i] = c at *
    obtain ⟨u, v⟩ := c
    obtain ⟨a1, a2, a3, a4⟩ := h7
    simp only at a1 a2 a3 a4
    obtain ⟨u, rfl⟩ := Int.eq_ofNat_of_zero_le a1
    obtain ⟨v, rfl⟩ := Int.eq_ofNat_of_zero_le a3
    have hlt : ((i : Int) < (ps.length : Int)) = True := eq_true (by omega)
    have h107 := c107 m u v hm (by omega) (by omega) l ⟨S0 ++ junk, T⟩ hl2
    simp only at hx h107
    by_cases p : m.testBit u = false ∧ m.testBit v = false
    · simp only [go_sem, reduceIte, Nat.reduceEqDiff, Nat.reduceAdd, Nat.reduceSub, Nat.reduceLeDiff, Nat.reduceLT, reduceCtorEq, Int.reduceLT, Int.reduceLE, Int.reduceEq, Int.reduceBEq, Int.reduceSub, Int.reduceAdd, Int.reduceMul, Int.reduceNeg, Int.reduceToNat, Nat.reduceMul, Nat.reduceBEq, index_rsl_if, setm, make_ints, condK_dec, wantK_dec, not_dec, and_dec, or_dec, seqK_ite, seqK_none, blockK_ite, blockK_none, opsK_ite, opsK_none, stepK_ite, stepK_none, bodyK_ite, bodyK_none, resK_ite, resK_none, leaveK_ite, leaveK_none, only_ite, only_none, bind_ite, gives_some, gives_none, gives_ite, then_normal, then_ret, then_exit, then_none, then_ite, Option.bind_none, Bool.not_eq_true', decide_eq_false_iff_not, Bool.and_eq_true, Bool.or_eq_true, Option.some.injEq, Int.not_lt, Int.not_le, lp95_0, hx, hlt, h107, p, show pure 107 = false from rfl, List.append_assoc]
      refine ⟨⟨_, rfl⟩, ?_⟩
      rw [if_pos (by simp [openP, p])]
      exact ⟨(i : Int), by omega, rfl⟩
    · simp only [go_sem, reduceIte, Nat.reduceEqDiff, Nat.reduceAdd, Nat.reduceSub, Nat.reduceLeDiff, Nat.reduceLT, reduceCtorEq, Int.reduceLT, Int.reduceLE, Int.reduceEq, Int.reduceBEq, Int.reduceSub, Int.reduceAdd, Int.reduceMul, Int.reduceNeg, Int.reduceToNat, Nat.reduceMul, Nat.reduceBEq, index_rsl_if, setm, make_ints, condK_dec, wantK_dec, not_dec, and_dec, or_dec, seqK_ite, seqK_none, blockK_ite, blockK_none, opsK_ite, opsK_none, stepK_ite, stepK_none, bodyK_ite, bodyK_none, resK_ite, resK_none, leaveK_ite, leaveK_none, only_ite, only_none, bind_ite, gives_some, gives_none, gives_ite, then_normal, then_ret, then_exit, then_none, then_ite, Option.bind_none, Bool.not_eq_true', decide_eq_false_iff_not, Bool.and_eq_true, Bool.or_eq_true, Option.some.injEq, Int.not_lt, Int.not_le, lp95_0, hx, hlt, h107, p, hs, show pure 107 = false from rfl, List.append_assoc]
      refine ⟨(i + 1, junk ++ [[I u, I v]]), by simp only [go_sem, reduceIte, Nat.reduceEqDiff, Nat.reduceAdd, Nat.reduceSub, Nat.reduceLeDiff, Nat.reduceLT, reduceCtorEq, Int.reduceLT, Int.reduceLE, Int.reduceEq, Int.reduceBEq, Int.reduceSub, Int.reduceAdd, Int.reduceMul, Int.reduceNeg, Int.reduceToNat, Nat.reduceMul, Nat.reduceBEq, ren1_locm, loc_tips, locT_eq] <;> rfl, ?_, ?_, fun x en s hq => ?_⟩
      · omega
      · simp only; omega
      · have hf : openP m (u, v) = false := by
          unfold openP; simp only [Int.toNat_natCast]
          cases h1 : m.testBit u <;> cases h2 : m.testBit v <;> simp_all
        rw [List.any_cons, hf, Bool.false_or]; exact hq
  · have hd : ps.drop i = [] := List.drop_eq_nil_of_le (by omega)
    have hlt : ((i : Int) < (ps.length : Int)) = False := eq_false (by omega)
    simp only [go_sem, reduceIte, Nat.reduceEqDiff, Nat.reduceAdd, Nat.reduceSub, Nat.reduceLeDiff, Nat.reduceLT, reduceCtorEq, Int.reduceLT, Int.reduceLE, Int.reduceEq, Int.reduceBEq, Int.reduceSub, Int.reduceAdd, Int.reduceMul, Int.reduceNeg, Int.reduceToNat, Nat.reduceMul, Nat.reduceBEq, index_rsl_if, setm, make_ints, condK_dec, wantK_dec, not_dec, and_dec, or_dec, seqK_ite, seqK_none, blockK_ite, blockK_none, opsK_ite, opsK_none, stepK_ite, stepK_none, bodyK_ite, bodyK_none, resK_ite, resK_none, leaveK_ite, leaveK_none, only_ite, only_none, bind_ite, gives_some, gives_none, gives_ite, then_normal, then_ret, then_exit, then_none, then_ite, Option.bind_none, Bool.not_eq_true', decide_eq_false_iff_not, Bool.and_eq_true, Bool.or_eq_true, Option.some.injEq, Int.not_lt, Int.not_le, lp95_0, hlt]
    refine ⟨⟨_, rfl⟩, ?_⟩
    rw [hd]; simp

theorem c95e (nl : Bool) (ps : List (Int × Int)) (hlen : ps.length < 1000000) (hok7 : ∀ p ∈ ps, okP p) (m : Nat) (hm : m < 128) (l : Nat) (st : St) (hl : st.store[l]? = some [U m]) :
    ∃ (k : Int) (j : List (List AV)), run L 95 [sl 2 nl (ps.map prAV), .fn (.func 107) [] [.ptr l 0]] st = some (I k, ⟨st.store ++ j, st.tips⟩) ∧ (0 ≤ k ↔ ps.any (openP m) = true) := by
  obtain ⟨S0, T⟩ := st
  rw [run_shared (fn := ir95) rfl rfl]
  simp only [ir95, go_sem, reduceIte, Nat.reduceEqDiff, Nat.reduceAdd, Nat.reduceSub, Nat.reduceLeDiff, Nat.reduceLT, reduceCtorEq, Int.reduceLT, Int.reduceLE, Int.reduceEq, Int.reduceBEq, Int.reduceSub, Int.reduceAdd, Int.reduceMul, Int.reduceNeg, Int.reduceToNat, Nat.reduceMul, Nat.reduceBEq, List.length_map]
  generalize hg : lim (headed pure (run L) false _ lp95_0 _ _) _ _ = o
  obtain ⟨x, en, s, rfl, h2⟩ : ∃ x en s, o = some (x, en, s) ∧ _ := by rw [← hg]; exact loop95 nl ps hlen hok7 m hm l S0 T hl S0.length T.length 0 [] (by omega) _ _ (by simp only [go_sem, reduceIte, Nat.reduceEqDiff, Nat.reduceAdd, Nat.reduceSub, Nat.reduceLeDiff, Nat.reduceLT, reduceCtorEq, Int.reduceLT, Int.reduceLE, Int.reduceEq, Int.reduceBEq, Int.reduceSub, Int.reduceAdd, Int.reduceMul, Int.reduceNeg, Int.reduceToNat, Nat.reduceMul, Nat.reduceBEq, List.append_nil] <;> rfl)
  clear hg
  rw [List.drop_zero] at h2
  obtain ⟨⟨j, rfl⟩, h2⟩ := h2
  by_cases h : ps.any (openP m) = true
  · rw [if_pos h] at h2
    obtain ⟨rfl, k, hk, h3⟩ := h2
    exact ⟨k, j, by simp only [go_sem, reduceIte, Nat.reduceEqDiff, Nat.reduceAdd, Nat.reduceSub, Nat.reduceLeDiff, Nat.reduceLT, reduceCtorEq, Int.reduceLT, Int.reduceLE, Int.reduceEq, Int.reduceBEq, Int.reduceSub, Int.reduceAdd, Int.reduceMul, Int.reduceNeg, Int.reduceToNat, Nat.reduceMul, Nat.reduceBEq, h3], by simp [h, hk]⟩
  · rw [if_neg h] at h2
    subst h2
    exact ⟨-1, j, by simp only [go_sem, reduceIte, Nat.reduceEqDiff, Nat.reduceAdd, Nat.reduceSub, Nat.reduceLeDiff, Nat.reduceLT, reduceCtorEq, Int.reduceLT, Int.reduceLE, Int.reduceEq, Int.reduceBEq, Int.reduceSub, Int.reduceAdd, Int.reduceMul, Int.reduceNeg, Int.reduceToNat, Nat.reduceMul, Nat.reduceBEq], by simp [h]⟩

theorem c98e (nl : Bool) (ps : List (Int × Int)) (hlen : ps.length < 1000000) (hok7 : ∀ p ∈ ps, okP p) (m : Nat) (hm : m < 128) (l : Nat) (st : St) (hl : st.store[l]? = some [U m]) :
    ∃ j : List (List AV), run L 98 [sl 2 nl (ps.map prAV), .fn (.func 107) [] [.ptr l 0]] st = some (B (ps.any (openP m)), ⟨st.store ++ j, st.tips⟩) := by
  obtain ⟨k, j, h1, h2⟩ := c95e nl ps hlen hok7 m hm l st hl
  rw [run_shared (fn := ir98) rfl rfl]
  refine ⟨j, ?_⟩
  have e : decide (0 ≤ k) = ps.any (openP m) := by rw [Bool.eq_iff_iff, decide_eq_true_iff]; exact h2
  obtain ⟨S0, T⟩ := st
  simp only [ir98, go_sem, reduceIte, Nat.reduceEqDiff, Nat.reduceAdd, Nat.reduceSub, Nat.reduceLeDiff, Nat.reduceLT, reduceCtorEq, Int.reduceLT, Int.reduceLE, Int.reduceEq, Int.reduceBEq, Int.reduceSub, Int.reduceAdd, Int.reduceMul, Int.reduceNeg, Int.reduceToNat, Nat.reduceMul, Nat.reduceBEq, h1, e]

theorem c79 (nl : Bool) (n : Int) (ps : List (Int × Int)) (hlen : ps.length < 1000000) (hok7 : ∀ p ∈ ps, okP p) (m : Nat) (hm : m < 128) (st : St) :
    run L 79 [bkAV nl n ps, U m] st = some (B (!ps.any (openP m)), st) := by
  rw [run_pure (fn := ir79) rfl rfl]
  obtain ⟨j, h1⟩ := c98e nl ps hlen hok7 m hm 1 ⟨[bkCells nl n ps, [U m]], []⟩ rfl
  simp only [ir79, go_sem, reduceIte, Nat.reduceEqDiff, Nat.reduceAdd, Nat.reduceSub, Nat.reduceLeDiff, Nat.reduceLT, reduceCtorEq, Int.reduceLT, Int.reduceLE, Int.reduceEq, Int.reduceBEq, Int.reduceSub, Int.reduceAdd, Int.reduceMul, Int.reduceNeg, Int.reduceToNat, Nat.reduceMul, Nat.reduceBEq, h1, show pure 98 = false from rfl]

/-! ### comparing -/
theorem c127 (a : Int) (st : St) : run L 127 [I a] st = some (B false, st) := by
  rw [run_pure (fn := ir127) rfl rfl]
  simp only [ir127, go_sem, reduceIte, Nat.reduceEqDiff, Nat.reduceAdd, Nat.reduceSub, Nat.reduceLeDiff, Nat.reduceLT, reduceCtorEq, Int.reduceLT, Int.reduceLE, Int.reduceEq, Int.reduceBEq, Int.reduceSub, Int.reduceAdd, Int.reduceMul, Int.reduceNeg, Int.reduceToNat, Nat.reduceMul, Nat.reduceBEq]
theorem c102 (a b : Int) (st : St) : run L 102 [I a, I b] st = some (I (if a < b then -1 else if b < a then 1 else 0), st) := by
  rw [run_pure (fn := ir102) rfl rfl]
  by_cases h1 : a < b
  · simp only [ir102, go_sem, reduceIte, Nat.reduceEqDiff, Nat.reduceAdd, Nat.reduceSub, Nat.reduceLeDiff, Nat.reduceLT, reduceCtorEq, Int.reduceLT, Int.reduceLE, Int.reduceEq, Int.reduceBEq, Int.reduceSub, Int.reduceAdd, Int.reduceMul, Int.reduceNeg, Int.reduceToNat, Nat.reduceMul, Nat.reduceBEq, c127, h1]
  · by_cases h2 : b < a <;> simp only [ir102, go_sem, reduceIte, Nat.reduceEqDiff, Nat.reduceAdd, Nat.reduceSub, Nat.reduceLeDiff, Nat.reduceLT, reduceCtorEq, Int.reduceLT, Int.reduceLE, Int.reduceEq, Int.reduceBEq, Int.reduceSub, Int.reduceAdd, Int.reduceMul, Int.reduceNeg, Int.reduceToNat, Nat.reduceMul, Nat.reduceBEq, c127, h1, h2]

/-- Is a list ahead of another one? -/
def lexLt : List Int → List Int → Bool
  | [], [] => false
  | [], _ :: _ => true
  | _ :: _, [] => false
  | a :: r, b :: s => decide (a < b) || (decide (a = b) && lexLt r s)

theorem loop69 (n1 n2 : Bool) (xs ys : List Int) (hlen : xs.length < 1000000) (i : Nat) (hok : i ≤ xs.length ∧ i ≤ ys.length) (env : Env) (st : St)
    (hg : gcAV true 0 0 (canon env [0, 1, 9, 10, 11]) st = ([(0, sl 1 n1 (xs.map I)), (1, sl 1 n2 (ys.map I)), (9, sl 1 n1 (xs.map I)), (10, I xs.length), (11, I i)], ⟨[], []⟩)) :
    ∃ x_1 en s, lim (headed pure (run L) true [0, 1, 9, 10, 11] lp69_0 0 0) env st = some (x_1, en, s) ∧ ((x_1 = .exit 0 ∧ en.get 0 = sl 1 n1 (xs.map I) ∧ en.get 1 = sl 1 n2 (ys.map I) ∧ lexLt (xs.drop i) (ys.drop i) = decide (xs.length < ys.length)) ∨ (x_1 = .ret ∧ ∃ k : Int, en.get 4 = I k ∧ lexLt (xs.drop i) (ys.drop i) = decide (k < 0))) := by
  refine loop_wp (α := Nat) (fun i => xs.length - i) (fun i => i ≤ xs.length ∧ i ≤ ys.length) (fun i => ([(0, sl 1 n1 (xs.map I)), (1, sl 1 n2 (ys.map I)), (9, sl 1 n1 (xs.map I)), (10, I xs.length), (11, I i)], ⟨[], []⟩)) (fun i x_1 en s => (x_1 = .exit 0 ∧ en.get 0 = sl 1 n1 (xs.map I) ∧ en.get 1 = sl 1 n2 (ys.map I) ∧ lexLt (xs.drop i) (ys.drop i) = decide (xs.length < ys.length)) ∨ (x_1 = .ret ∧ ∃ k : Int, en.get 4 = I k ∧ lexLt (xs.drop i) (ys.drop i) = decide (k < 0))) (fun i hok => ?_) i hok env st hg
  obtain ⟨hok1, hok2⟩ := hok
  by_cases h : i < xs.length
  · have hx := index_ints n1 xs i h
    have hs := succ64 i (by omega)
    have hd : xs.drop i = xs[i] :: xs.drop (i + 1) := List.drop_eq_getElem_cons h
    have hlt : ((i : Int) < (xs.length : Int)) = True := eq_true (by omega)
    rw [hd]
    by_cases h2 : i < ys.length
    · have hy := index_ints n2 ys i h2
      have hd2 : ys.drop i = ys[i] :: ys.drop (i + 1) := List.drop_eq_getElem_cons h2
      have hge : ((ys.length : Int) ≤ (i : Int)) = False := eq_false (by omega)
      rw [hd2]
      generalize xs[i] = a at *
      generalize ys[i] = b at *
      by_cases p1 : a < b
      · simp only [go_sem, reduceIte, Nat.reduceEqDiff, Nat.reduceAdd, Nat.reduceSub, Nat.reduceLeDiff, Nat.reduceLT, reduceCtorEq, Int.reduceLT, Int.reduceLE, Int.reduceEq, Int.reduceBEq, Int.reduceSub, Int.reduceAdd, Int.reduceMul, Int.reduceNeg, Int.reduceToNat, Nat.reduceMul, Nat.reduceBEq, index_rsl_if, setm, make_ints, condK_dec, wantK_dec, not_dec, and_dec, or_dec, seqK_ite, seqK_none, blockK_ite, blockK_none, opsK_ite, opsK_none, stepK_ite, stepK_none, bodyK_ite, bodyK_none, resK_ite, resK_none, leaveK_ite, leaveK_none, only_ite, only_none, bind_ite, gives_some, gives_none, gives_ite, then_normal, then_ret, then_exit, then_none, then_ite, Option.bind_none, Bool.not_eq_true', decide_eq_false_iff_not, Bool.and_eq_true, Bool.or_eq_true, Option.some.injEq, Int.not_lt, Int.not_le, lp69_0, hx, hy, hlt, hge, c102, p1, List.length_map]
        refine ⟨-1, rfl, ?_⟩
        simp [lexLt, p1]
      · by_cases p2 : b < a
        · simp only [go_sem, reduceIte, Nat.reduceEqDiff, Nat.reduceAdd, Nat.reduceSub, Nat.reduceLeDiff, Nat.reduceLT, reduceCtorEq, Int.reduceLT, Int.reduceLE, Int.reduceEq, Int.reduceBEq, Int.reduceSub, Int.reduceAdd, Int.reduceMul, Int.reduceNeg, Int.reduceToNat, Nat.reduceMul, Nat.reduceBEq, index_rsl_if, setm, make_ints, condK_dec, wantK_dec, not_dec, and_dec, or_dec, seqK_ite, seqK_none, blockK_ite, blockK_none, opsK_ite, opsK_none, stepK_ite, stepK_none, bodyK_ite, bodyK_none, resK_ite, resK_none, leaveK_ite, leaveK_none, only_ite, only_none, bind_ite, gives_some, gives_none, gives_ite, then_normal, then_ret, then_exit, then_none, then_ite, Option.bind_none, Bool.not_eq_true', decide_eq_false_iff_not, Bool.and_eq_true, Bool.or_eq_true, Option.some.injEq, Int.not_lt, Int.not_le, lp69_0, hx, hy, hlt, hge, c102, p1, p2, List.length_map]
          refine ⟨1, rfl, ?_⟩
          simp [lexLt, p1, show a ≠ b by omega]
        · obtain rfl : a = b := by omega
          simp only [go_sem, reduceIte, Nat.reduceEqDiff, Nat.reduceAdd, Nat.reduceSub, Nat.reduceLeDiff, Nat.reduceLT, reduceCtorEq, Int.reduceLT, Int.reduceLE, Int.reduceEq, Int.reduceBEq, Int.reduceSub, Int.reduceAdd, Int.reduceMul, Int.reduceNeg, Int.reduceToNat, Nat.reduceMul, Nat.reduceBEq, index_rsl_if, setm, make_ints, condK_dec, wantK_dec, not_dec, and_dec, or_dec, seqK_ite, seqK_none, blockK_ite, blockK_none, opsK_ite, opsK_none, stepK_ite, stepK_none, bodyK_ite, bodyK_none, resK_ite, resK_none, leaveK_ite, leaveK_none, only_ite, only_none, bind_ite, gives_some, gives_none, gives_ite, then_normal, then_ret, then_exit, then_none, then_ite, Option.bind_none, Bool.not_eq_true', decide_eq_false_iff_not, Bool.and_eq_true, Bool.or_eq_true, Option.some.injEq, Int.not_lt, Int.not_le, lp69_0, hx, hy, hlt, hge, c102, p1, hs, List.length_map]
          refine ⟨i + 1, by simp only [go_sem, reduceIte, Nat.reduceEqDiff, Nat.reduceAdd, Nat.reduceSub, Nat.reduceLeDiff, Nat.reduceLT, reduceCtorEq, Int.reduceLT, Int.reduceLE, Int.reduceEq, Int.reduceBEq, Int.reduceSub, Int.reduceAdd, Int.reduceMul, Int.reduceNeg, Int.reduceToNat, Nat.reduceMul, Nat.reduceBEq, ren1_locm, loc_tips, locT_eq] <;> rfl, ?_, ?_, fun x en s hq => ?_⟩
          · omega
          · omega
          · have e : lexLt (a :: xs.drop (i + 1)) (a :: ys.drop (i + 1)) = lexLt (xs.drop (i + 1)) (ys.drop (i + 1)) := by simp [lexLt]
            rw [e]; exact hq
    · have hd2 : ys.drop i = [] := List.drop_eq_nil_of_le (by omega)
      have hge : ((ys.length : Int) ≤ (i : Int)) = True := eq_true (by omega)
      rw [hd2]
      generalize xs[i] = a at *
      simp only [go_sem, reduceIte, Nat.reduceEqDiff, Nat.reduceAdd, Nat.reduceSub, Nat.reduceLeDiff, Nat.reduceLT, reduceCtorEq, Int.reduceLT, Int.reduceLE, Int.reduceEq, Int.reduceBEq, Int.reduceSub, Int.reduceAdd, Int.reduceMul, Int.reduceNeg, Int.reduceToNat, Nat.reduceMul, Nat.reduceBEq, index_rsl_if, setm, make_ints, condK_dec, wantK_dec, not_dec, and_dec, or_dec, seqK_ite, seqK_none, blockK_ite, blockK_none, opsK_ite, opsK_none, stepK_ite, stepK_none, bodyK_ite, bodyK_none, resK_ite, resK_none, leaveK_ite, leaveK_none, only_ite, only_none, bind_ite, gives_some, gives_none, gives_ite, then_normal, then_ret, then_exit, then_none, then_ite, Option.bind_none, Bool.not_eq_true', decide_eq_false_iff_not, Bool.and_eq_true, Bool.or_eq_true, Option.some.injEq, Int.not_lt, Int.not_le, lp69_0, hx, hlt, hge, List.length_map]
      refine ⟨1, rfl, ?_⟩
      simp [lexLt]
  · have hd : xs.drop i = [] := List.drop_eq_nil_of_le (by omega)
    have hlt : ((i : Int) < (xs.length : Int)) = False := eq_false (by omega)
    simp only [go_sem, reduceIte, Nat.reduceEqDiff, Nat.reduceAdd, Nat.reduceSub, Nat.reduceLeDiff, Nat.reduceLT, reduceCtorEq, Int.reduceLT, Int.reduceLE, Int.reduceEq, Int.reduceBEq, Int.reduceSub, Int.reduceAdd, Int.reduceMul, Int.reduceNeg, Int.reduceToNat, Nat.reduceMul, Nat.reduceBEq, index_rsl_if, setm, make_ints, condK_dec, wantK_dec, not_dec, and_dec, or_dec, seqK_ite, seqK_none, blockK_ite, blockK_none, opsK_ite, opsK_none, stepK_ite, stepK_none, bodyK_ite, bodyK_none, resK_ite, resK_none, leaveK_ite, leaveK_none, only_ite, only_none, bind_ite, gives_some, gives_none, gives_ite, then_normal, then_ret, then_exit, then_none, then_ite, Option.bind_none, Bool.not_eq_true', decide_eq_false_iff_not, Bool.and_eq_true, Bool.or_eq_true, Option.some.injEq, Int.not_lt, Int.not_le, lp69_0, hlt, List.length_map]
    rw [hd]
    by_cases h2 : i < ys.length
    · rw [List.drop_eq_getElem_cons h2]; simp [lexLt]; omega
    · rw [List.drop_eq_nil_of_le (by omega)]; simp [lexLt]; omega

theorem c69 (n1 n2 : Bool) (xs ys : List Int) (hlen : xs.length < 1000000) (st : St) :
    ∃ k : Int, run L 69 [sl 1 n1 (xs.map I), sl 1 n2 (ys.map I)] st = some (I k, st) ∧ decide (k < 0) = lexLt xs ys := by
  rw [run_pure (fn := ir69) rfl rfl]
  simp only [ir69, go_sem, reduceIte, Nat.reduceEqDiff, Nat.reduceAdd, Nat.reduceSub, Nat.reduceLeDiff, Nat.reduceLT, reduceCtorEq, Int.reduceLT, Int.reduceLE, Int.reduceEq, Int.reduceBEq, Int.reduceSub, Int.reduceAdd, Int.reduceMul, Int.reduceNeg, Int.reduceToNat, Nat.reduceMul, Nat.reduceBEq, List.length_map]
  generalize hg : lim (headed pure (run L) true _ lp69_0 _ _) _ _ = o
  obtain ⟨x, en, s, rfl, h2⟩ : ∃ x en s, o = some (x, en, s) ∧ _ := by rw [← hg]; exact loop69 n1 n2 xs ys hlen 0 ⟨by omega, by omega⟩ _ _ (by simp only [go_sem, reduceIte, Nat.reduceEqDiff, Nat.reduceAdd, Nat.reduceSub, Nat.reduceLeDiff, Nat.reduceLT, reduceCtorEq, Int.reduceLT, Int.reduceLE, Int.reduceEq, Int.reduceBEq, Int.reduceSub, Int.reduceAdd, Int.reduceMul, Int.reduceNeg, Int.reduceToNat, Nat.reduceMul, Nat.reduceBEq] <;> rfl)
  clear hg
  simp only [List.drop_zero] at h2
  rcases h2 with ⟨rfl, h3, h4, h5⟩ | ⟨rfl, k, h3, h5⟩
  · by_cases p : xs.length < ys.length
    · have q : ((xs.length : Int) < (ys.length : Int)) = True := eq_true (by omega)
      exact ⟨-1, by simp only [go_sem, reduceIte, Nat.reduceEqDiff, Nat.reduceAdd, Nat.reduceSub, Nat.reduceLeDiff, Nat.reduceLT, reduceCtorEq, Int.reduceLT, Int.reduceLE, Int.reduceEq, Int.reduceBEq, Int.reduceSub, Int.reduceAdd, Int.reduceMul, Int.reduceNeg, Int.reduceToNat, Nat.reduceMul, Nat.reduceBEq, h3, h4, q, List.length_map], by rw [h5]; simp [p]⟩
    · have q : ((xs.length : Int) < (ys.length : Int)) = False := eq_false (by omega)
      exact ⟨0, by simp only [go_sem, reduceIte, Nat.reduceEqDiff, Nat.reduceAdd, Nat.reduceSub, Nat.reduceLeDiff, Nat.reduceLT, reduceCtorEq, Int.reduceLT, Int.reduceLE, Int.reduceEq, Int.reduceBEq, Int.reduceSub, Int.reduceAdd, Int.reduceMul, Int.reduceNeg, Int.reduceToNat, Nat.reduceMul, Nat.reduceBEq, h3, h4, q, List.length_map], by rw [h5]; simp [p]⟩
  · exact ⟨k, by simp only [go_sem, reduceIte, Nat.reduceEqDiff, Nat.reduceAdd, Nat.reduceSub, Nat.reduceLeDiff, Nat.reduceLT, reduceCtorEq, Int.reduceLT, Int.reduceLE, Int.reduceEq, Int.reduceBEq, Int.reduceSub, Int.reduceAdd, Int.reduceMul, Int.reduceNeg, Int.reduceToNat, Nat.reduceMul, Nat.reduceBEq, h3], h5.symm⟩

attribute [local go_sem high] and_one shr_u

/-- The articles of a set, in ascending order. -/
def memb (m : Nat) : List Int := ((List.range 7).filter m.testBit).map fun (i : Nat) => (i : Int)

theorem run_any' {f : FuncId} {fn : IF} (hf : L.fns f = some fn) (hp : L.pure f = true) {args : List AV} {st0 st1 : St} {r : AV} (h : run L f args st0 = some (r, st1)) (st : St) : run L f args st = some (r, st) := by
  rw [run_pure hf hp] at h ⊢
  unfold leaveK at h ⊢
  split at h
  · simp only [leave, Option.some.injEq, Prod.mk.injEq] at h ⊢
    exact ⟨h.1, trivial⟩
  · simp at h

theorem all_of {α : Type} {f g : Nat → α} {k : Nat} (h : (List.range k).map f = (List.range k).map g) (m : Nat) (hm : m < k) : f m = g m := by
  have := congrArg (fun l : List α => l[m]?) h
  simpa [hm] using this

theorem all104 : (List.range 128).map (fun m => callAV L 60 104 [U m] ⟨[], []⟩) = (List.range 128).map (fun m => some (sl 1 true ((memb m).map I), (⟨[], []⟩ : St))) := by kernel_rfl
theorem c104 (m : Nat) (hm : m < 128) (st : St) : run L 104 [U m] st = some (sl 1 true ((memb m).map I), st) :=
  run_any' (fn := ir104) rfl rfl (callAV_run L 60 _ _ _ _ (all_of all104 m hm)) st
theorem all108 : (List.range 128).map (fun m => callAV L 60 108 [U m] ⟨[], []⟩) = (List.range 128).map (fun m => some (I ((memb m).length : Nat), (⟨[], []⟩ : St))) := by kernel_rfl
theorem c108 (m : Nat) (hm : m < 128) (st : St) : run L 108 [U m] st = some (I (memb m).length, st) :=
  run_any' (fn := ir108) rfl rfl (callAV_run L 60 _ _ _ _ (all_of all108 m hm)) st


/-- The number with one bit. -/
def sh1 (p : Nat) : Nat := 2 ^ min p 64 % 2 ^ 64
theorem sh1_eq (p : Nat) (h : p < 64) : sh1 p = 2 ^ p := by
  unfold sh1; rw [show min p 64 = p by omega]
  exact Nat.mod_eq_of_lt (Nat.pow_lt_pow_right (by omega) h)
theorem shl_one (p : Nat) : binAV .shl none (.v (.int .u64 1)) (.v (.int .i64 (p : Int))) = some (.v (.int .u64 ((sh1 p : Nat) : Int))) := by
  show (if (p : Int) < 0 then none else some (AV.v (.int .u64 (IntKind.u64.wrap (1 * (2 ^ (min (Int.toNat (p : Int)) 64)))))) ) = _
  rw [if_neg (by omega), Int.toNat_natCast]
  have e2 : (1 : Int) * ((2 : Int) ^ (min p 64)) = ((2 ^ (min p 64) : Nat) : Int) := by simp
  rw [e2]
  simp only [sh1, IntKind.wrap, IntKind.bits, IntKind.signed]
  simp
attribute [local go_sem high] and_one shr_u shl_one

theorem succU (m : Nat) (h : m < 1000000) : IntKind.u64.wrap ((m : Int) + 1) = ((m + 1 : Nat) : Int) := by
  have := wrapU (m + 1) (by omega)
  simpa using this

/-- Is there an article of each pair in a set? -/
def expl (ps : List (Int × Int)) (m : Nat) : Bool := !ps.any (openP m)
/-- The first of the shortest lists, and how many there are, of the sets looked at so far, and one more. -/
def shStep (ps : List (Int × Int)) (s : List Int × Nat) (m : Nat) : List Int × Nat :=
  if expl ps m = false ∨ 0 < s.2 ∧ s.1.length < (memb m).length then s
  else if s.2 = 0 ∨ (memb m).length < s.1.length then (memb m, 1)
  else (if lexLt (memb m) s.1 = true then memb m else s.1, s.2 + 1)

theorem memb_len (m : Nat) : (memb m).length ≤ 7 := by
  unfold memb; rw [List.length_map]
  exact Nat.le_trans (List.length_filter_le _ _) (by simp)

set_option maxHeartbeats 1000000 in
theorem loop72 (nl : Bool) (n : Nat) (hn : n ≤ 7) (ps : List (Int × Int)) (hlen : ps.length < 1000000) (hok7 : ∀ p ∈ ps, okP p) (m : Nat) (best : List Int) (many : Nat) (hok : m ≤ 2 ^ n ∧ many ≤ m ∧ best.length ≤ 7) (env : Env) (st : St)
    (hg : gcAV true 1 0 (canon env [1, 4, 5, 10, 11]) st = ([(1, .ptr 0 0), (4, sl 1 true (best.map I)), (5, I many), (10, .v (.int .u64 ((2 ^ n : Nat) : Int))), (11, .v (.int .u64 (m : Int)))], ⟨[bkCells nl n ps], []⟩)) :
    ∃ x_1 en s, lim (headed pure (run L) true [1, 4, 5, 10, 11] lp72_0 1 0) env st = some (x_1, en, s) ∧ (x_1 = .exit 0 ∧ en.get 4 = sl 1 true (((List.range' m (2 ^ n - m)).foldl (shStep ps) (best, many)).1.map I) ∧ en.get 5 = I ((List.range' m (2 ^ n - m)).foldl (shStep ps) (best, many)).2) := by
  refine loop_wp (α := Nat × List Int × Nat) (fun ⟨m, best, many⟩ => 2 ^ n - m) (fun ⟨m, best, many⟩ => m ≤ 2 ^ n ∧ many ≤ m ∧ best.length ≤ 7) (fun ⟨m, best, many⟩ => ([(1, .ptr 0 0), (4, sl 1 true (best.map I)), (5, I many), (10, .v (.int .u64 ((2 ^ n : Nat) : Int))), (11, .v (.int .u64 (m : Int)))], ⟨[bkCells nl n ps], []⟩)) (fun ⟨m, best, many⟩ x_1 en s => x_1 = .exit 0 ∧ en.get 4 = sl 1 true (((List.range' m (2 ^ n - m)).foldl (shStep ps) (best, many)).1.map I) ∧ en.get 5 = I ((List.range' m (2 ^ n - m)).foldl (shStep ps) (best, many)).2) (fun ⟨m, best, many⟩ hok => ?_) ⟨m, best, many⟩ hok env st hg
  simp only at hok
  obtain ⟨h1, h2, h3⟩ := hok
  have h128 : 2 ^ n ≤ 128 := Nat.le_trans (Nat.pow_le_pow_right (by omega) hn) (by decide)
  dsimp only
  by_cases h : m < 2 ^ n
  · have hlt : ((m : Int) < ((2 ^ n : Nat) : Int)) = True := eq_true (by omega)
    have e0 : List.range' m (2 ^ n - m) = m :: List.range' (m + 1) (2 ^ n - (m + 1)) := by
      rw [show 2 ^ n - m = (2 ^ n - (m + 1)) + 1 by omega, List.range'_succ]
    rw [e0, List.foldl_cons]
    have h104 := fun st => c104 m (by omega) st
    have h79 := fun st => c79 nl n ps hlen hok7 m (by omega) st
    have hs := succU m (by omega)
    have hs2 := succ64 many (by omega)
    have hml := memb_len m
    by_cases pe : ps.any (openP m) = true
    · have he : shStep ps (best, many) m = (best, many) := by unfold shStep expl; rw [if_pos (.inl (by simp [pe]))]
      rw [he]
      rw [pe] at h79
      simp only [Bool.not_true] at h79
      simp only [go_sem, reduceIte, Nat.reduceEqDiff, Nat.reduceAdd, Nat.reduceSub, Nat.reduceLeDiff, Nat.reduceLT, reduceCtorEq, Int.reduceLT, Int.reduceLE, Int.reduceEq, Int.reduceBEq, Int.reduceSub, Int.reduceAdd, Int.reduceMul, Int.reduceNeg, Int.reduceToNat, Nat.reduceMul, Nat.reduceBEq, index_rsl_if, setm, make_ints, condK_dec, wantK_dec, not_dec, and_dec, or_dec, seqK_ite, seqK_none, blockK_ite, blockK_none, opsK_ite, opsK_none, stepK_ite, stepK_none, bodyK_ite, bodyK_none, resK_ite, resK_none, leaveK_ite, leaveK_none, only_ite, only_none, bind_ite, gives_some, gives_none, gives_ite, then_normal, then_ret, then_exit, then_none, then_ite, Option.bind_none, Bool.not_eq_true', decide_eq_false_iff_not, Bool.and_eq_true, Bool.or_eq_true, Option.some.injEq, Int.not_lt, Int.not_le, lp72_0, hlt, h104, h79, hs, List.length_map]
      refine ⟨(m + 1, best, many), by simp only [go_sem, reduceIte, Nat.reduceEqDiff, Nat.reduceAdd, Nat.reduceSub, Nat.reduceLeDiff, Nat.reduceLT, reduceCtorEq, Int.reduceLT, Int.reduceLE, Int.reduceEq, Int.reduceBEq, Int.reduceSub, Int.reduceAdd, Int.reduceMul, Int.reduceNeg, Int.reduceToNat, Nat.reduceMul, Nat.reduceBEq, ren1_locm, loc_tips, locT_eq] <;> rfl, ?_, ?_, fun x en s hq => ?_⟩
      · dsimp only; exact ⟨by omega, by omega, h3⟩
      · simp only; omega
      · exact hq
    · have pe' : ps.any (openP m) = false := by simpa using pe
      have hx : expl ps m = true := by unfold expl; rw [pe']; rfl
      rw [pe'] at h79
      simp only [Bool.not_false] at h79
      by_cases p0 : many = 0
      · subst p0
        have he : shStep ps (best, 0) m = (memb m, 1) := by unfold shStep; rw [if_neg (by simp [hx]), if_pos (.inl rfl)]
        rw [he]
        simp only [go_sem, reduceIte, Nat.reduceEqDiff, Nat.reduceAdd, Nat.reduceSub, Nat.reduceLeDiff, Nat.reduceLT, reduceCtorEq, Int.reduceLT, Int.reduceLE, Int.reduceEq, Int.reduceBEq, Int.reduceSub, Int.reduceAdd, Int.reduceMul, Int.reduceNeg, Int.reduceToNat, Nat.reduceMul, Nat.reduceBEq, index_rsl_if, setm, make_ints, condK_dec, wantK_dec, not_dec, and_dec, or_dec, seqK_ite, seqK_none, blockK_ite, blockK_none, opsK_ite, opsK_none, stepK_ite, stepK_none, bodyK_ite, bodyK_none, resK_ite, resK_none, leaveK_ite, leaveK_none, only_ite, only_none, bind_ite, gives_some, gives_none, gives_ite, then_normal, then_ret, then_exit, then_none, then_ite, Option.bind_none, Bool.not_eq_true', decide_eq_false_iff_not, Bool.and_eq_true, Bool.or_eq_true, Option.some.injEq, Int.not_lt, Int.not_le, lp72_0, hlt, h104, h79, hs, List.length_map, Int.natCast_zero]
        refine ⟨(m + 1, memb m, 1), by simp only [go_sem, reduceIte, Nat.reduceEqDiff, Nat.reduceAdd, Nat.reduceSub, Nat.reduceLeDiff, Nat.reduceLT, reduceCtorEq, Int.reduceLT, Int.reduceLE, Int.reduceEq, Int.reduceBEq, Int.reduceSub, Int.reduceAdd, Int.reduceMul, Int.reduceNeg, Int.reduceToNat, Nat.reduceMul, Nat.reduceBEq, ren1_locm, loc_tips, locT_eq] <;> rfl, ?_, ?_, fun x en s hq => ?_⟩
        · dsimp only; exact ⟨by omega, by omega, hml⟩
        · simp only; omega
        · exact hq
      · have q0 : ((0 : Int) < (many : Int)) = True := eq_true (by omega)
        have q0' : ((many : Int) = 0) = False := eq_false (by omega)
        by_cases p1 : best.length < (memb m).length
        · have q1 : ((best.length : Int) < ((memb m).length : Int)) = True := eq_true (by omega)
          have he : shStep ps (best, many) m = (best, many) := by unfold shStep; rw [if_pos (.inr ⟨by simp only; omega, p1⟩)]
          rw [he]
          simp only [go_sem, reduceIte, Nat.reduceEqDiff, Nat.reduceAdd, Nat.reduceSub, Nat.reduceLeDiff, Nat.reduceLT, reduceCtorEq, Int.reduceLT, Int.reduceLE, Int.reduceEq, Int.reduceBEq, Int.reduceSub, Int.reduceAdd, Int.reduceMul, Int.reduceNeg, Int.reduceToNat, Nat.reduceMul, Nat.reduceBEq, index_rsl_if, setm, make_ints, condK_dec, wantK_dec, not_dec, and_dec, or_dec, seqK_ite, seqK_none, blockK_ite, blockK_none, opsK_ite, opsK_none, stepK_ite, stepK_none, bodyK_ite, bodyK_none, resK_ite, resK_none, leaveK_ite, leaveK_none, only_ite, only_none, bind_ite, gives_some, gives_none, gives_ite, then_normal, then_ret, then_exit, then_none, then_ite, Option.bind_none, Bool.not_eq_true', decide_eq_false_iff_not, Bool.and_eq_true, Bool.or_eq_true, Option.some.injEq, Int.not_lt, Int.not_le, lp72_0, hlt, h104, h79, hs, q0, q1, List.length_map]
          refine ⟨(m + 1, best, many), by simp only [go_sem, reduceIte, Nat.reduceEqDiff, Nat.reduceAdd, Nat.reduceSub, Nat.reduceLeDiff, Nat.reduceLT, reduceCtorEq, Int.reduceLT, Int.reduceLE, Int.reduceEq, Int.reduceBEq, Int.reduceSub, Int.reduceAdd, Int.reduceMul, Int.reduceNeg, Int.reduceToNat, Nat.reduceMul, Nat.reduceBEq, ren1_locm, loc_tips, locT_eq] <;> rfl, ?_, ?_, fun x en s hq => ?_⟩
          · dsimp only; exact ⟨by omega, by omega, h3⟩
          · simp only; omega
          · exact hq
        · have q1 : ((best.length : Int) < ((memb m).length : Int)) = False := eq_false (by omega)
          by_cases p2 : (memb m).length < best.length
          · have q2 : (((memb m).length : Int) < (best.length : Int)) = True := eq_true (by omega)
            have he : shStep ps (best, many) m = (memb m, 1) := by unfold shStep; rw [if_neg (by simp [hx, p1]), if_pos (.inr p2)]
            rw [he]
            simp only [go_sem, reduceIte, Nat.reduceEqDiff, Nat.reduceAdd, Nat.reduceSub, Nat.reduceLeDiff, Nat.reduceLT, reduceCtorEq, Int.reduceLT, Int.reduceLE, Int.reduceEq, Int.reduceBEq, Int.reduceSub, Int.reduceAdd, Int.reduceMul, Int.reduceNeg, Int.reduceToNat, Nat.reduceMul, Nat.reduceBEq, index_rsl_if, setm, make_ints, condK_dec, wantK_dec, not_dec, and_dec, or_dec, seqK_ite, seqK_none, blockK_ite, blockK_none, opsK_ite, opsK_none, stepK_ite, stepK_none, bodyK_ite, bodyK_none, resK_ite, resK_none, leaveK_ite, leaveK_none, only_ite, only_none, bind_ite, gives_some, gives_none, gives_ite, then_normal, then_ret, then_exit, then_none, then_ite, Option.bind_none, Bool.not_eq_true', decide_eq_false_iff_not, Bool.and_eq_true, Bool.or_eq_true, Option.some.injEq, Int.not_lt, Int.not_le, lp72_0, hlt, h104, h79, hs, q0, q0', q1, q2, List.length_map]
            refine ⟨(m + 1, memb m, 1), by simp only [go_sem, reduceIte, Nat.reduceEqDiff, Nat.reduceAdd, Nat.reduceSub, Nat.reduceLeDiff, Nat.reduceLT, reduceCtorEq, Int.reduceLT, Int.reduceLE, Int.reduceEq, Int.reduceBEq, Int.reduceSub, Int.reduceAdd, Int.reduceMul, Int.reduceNeg, Int.reduceToNat, Nat.reduceMul, Nat.reduceBEq, ren1_locm, loc_tips, locT_eq] <;> rfl, ?_, ?_, fun x en s hq => ?_⟩
            · dsimp only; exact ⟨by omega, by omega, hml⟩
            · simp only; omega
            · exact hq
          · have q2 : (((memb m).length : Int) < (best.length : Int)) = False := eq_false (by omega)
            have he : shStep ps (best, many) m = (if lexLt (memb m) best = true then memb m else best, many + 1) := by unfold shStep; rw [if_neg (by simp [hx, p1]), if_neg (by simp only; omega)]
            rw [he]
            obtain ⟨k, hk, hk2⟩ := c69 true true (memb m) best (by omega) ⟨[bkCells nl n ps], []⟩
            by_cases p3 : lexLt (memb m) best = true
            · rw [p3] at hk2
              have q3 : (k < 0) = True := eq_true (by simpa using hk2)
              rw [if_pos p3]
              simp only [go_sem, reduceIte, Nat.reduceEqDiff, Nat.reduceAdd, Nat.reduceSub, Nat.reduceLeDiff, Nat.reduceLT, reduceCtorEq, Int.reduceLT, Int.reduceLE, Int.reduceEq, Int.reduceBEq, Int.reduceSub, Int.reduceAdd, Int.reduceMul, Int.reduceNeg, Int.reduceToNat, Nat.reduceMul, Nat.reduceBEq, index_rsl_if, setm, make_ints, condK_dec, wantK_dec, not_dec, and_dec, or_dec, seqK_ite, seqK_none, blockK_ite, blockK_none, opsK_ite, opsK_none, stepK_ite, stepK_none, bodyK_ite, bodyK_none, resK_ite, resK_none, leaveK_ite, leaveK_none, only_ite, only_none, bind_ite, gives_some, gives_none, gives_ite, then_normal, then_ret, then_exit, then_none, then_ite, Option.bind_none, Bool.not_eq_true', decide_eq_false_iff_not, Bool.and_eq_true, Bool.or_eq_true, Option.some.injEq, Int.not_lt, Int.not_le, lp72_0, hlt, h104, h79, hs, hs2, q0, q0', q1, q2, hk, q3, List.length_map]
              refine ⟨(m + 1, memb m, many + 1), by simp only [go_sem, reduceIte, Nat.reduceEqDiff, Nat.reduceAdd, Nat.reduceSub, Nat.reduceLeDiff, Nat.reduceLT, reduceCtorEq, Int.reduceLT, Int.reduceLE, Int.reduceEq, Int.reduceBEq, Int.reduceSub, Int.reduceAdd, Int.reduceMul, Int.reduceNeg, Int.reduceToNat, Nat.reduceMul, Nat.reduceBEq, ren1_locm, loc_tips, locT_eq] <;> rfl, ?_, ?_, fun x en s hq => ?_⟩
              · dsimp only; exact ⟨by omega, by omega, hml⟩
              · simp only; omega
              · exact hq
            · have p3' : lexLt (memb m) best = false := by simpa using p3
              rw [p3'] at hk2
              have q3 : (k < 0) = False := eq_false (by simpa using hk2)
              rw [if_neg p3]
              simp only [go_sem, reduceIte, Nat.reduceEqDiff, Nat.reduceAdd, Nat.reduceSub, Nat.reduceLeDiff, Nat.reduceLT, reduceCtorEq, Int.reduceLT, Int.reduceLE, Int.reduceEq, Int.reduceBEq, Int.reduceSub, Int.reduceAdd, Int.reduceMul, Int.reduceNeg, Int.reduceToNat, Nat.reduceMul, Nat.reduceBEq, index_rsl_if, setm, make_ints, condK_dec, wantK_dec, not_dec, and_dec, or_dec, seqK_ite, seqK_none, blockK_ite, blockK_none, opsK_ite, opsK_none, stepK_ite, stepK_none, bodyK_ite, bodyK_none, resK_ite, resK_none, leaveK_ite, leaveK_none, only_ite, only_none, bind_ite, gives_some, gives_none, gives_ite, then_normal, then_ret, then_exit, then_none, then_ite, Option.bind_none, Bool.not_eq_true', decide_eq_false_iff_not, Bool.and_eq_true, Bool.or_eq_true, Option.some.injEq, Int.not_lt, Int.not_le, lp72_0, hlt, h104, h79, hs, hs2, q0, q0', q1, q2, hk, q3, List.length_map]
              refine ⟨(m + 1, best, many + 1), by simp only [go_sem, reduceIte, Nat.reduceEqDiff, Nat.reduceAdd, Nat.reduceSub, Nat.reduceLeDiff, Nat.reduceLT, reduceCtorEq, Int.reduceLT, Int.reduceLE, Int.reduceEq, Int.reduceBEq, Int.reduceSub, Int.reduceAdd, Int.reduceMul, Int.reduceNeg, Int.reduceToNat, Nat.reduceMul, Nat.reduceBEq, ren1_locm, loc_tips, locT_eq] <;> rfl, ?_, ?_, fun x en s hq => ?_⟩
              · dsimp only; exact ⟨by omega, by omega, h3⟩
              · simp only; omega
              · exact hq
  · have hlt : ((m : Int) < ((2 ^ n : Nat) : Int)) = False := eq_false (by omega)
    have e0 : 2 ^ n - m = 0 := by omega
    rw [e0]
    simp only [go_sem, reduceIte, Nat.reduceEqDiff, Nat.reduceAdd, Nat.reduceSub, Nat.reduceLeDiff, Nat.reduceLT, reduceCtorEq, Int.reduceLT, Int.reduceLE, Int.reduceEq, Int.reduceBEq, Int.reduceSub, Int.reduceAdd, Int.reduceMul, Int.reduceNeg, Int.reduceToNat, Nat.reduceMul, Nat.reduceBEq, index_rsl_if, setm, make_ints, condK_dec, wantK_dec, not_dec, and_dec, or_dec, seqK_ite, seqK_none, blockK_ite, blockK_none, opsK_ite, opsK_none, stepK_ite, stepK_none, bodyK_ite, bodyK_none, resK_ite, resK_none, leaveK_ite, leaveK_none, only_ite, only_none, bind_ite, gives_some, gives_none, gives_ite, then_normal, then_ret, then_exit, then_none, then_ite, Option.bind_none, Bool.not_eq_true', decide_eq_false_iff_not, Bool.and_eq_true, Bool.or_eq_true, Option.some.injEq, Int.not_lt, Int.not_le, lp72_0, hlt]
    exact ⟨rfl, rfl⟩

def shAll (n : Nat) (ps : List (Int × Int)) : List Int × Nat := (List.range (2 ^ n)).foldl (shStep ps) ([], 0)

theorem c72 (nl : Bool) (n : Nat) (hn : n ≤ 7) (ps : List (Int × Int)) (hlen : ps.length < 1000000) (hok7 : ∀ p ∈ ps, okP p) (st : St) :
    run L 72 [bkAV nl n ps] st = some (.tup [sl 1 true ((shAll n ps).1.map I), I (shAll n ps).2], st) := by
  rw [run_pure (fn := ir72) rfl rfl]
  have hsh := sh1_eq n (by omega)
  simp only [ir72, go_sem, reduceIte, Nat.reduceEqDiff, Nat.reduceAdd, Nat.reduceSub, Nat.reduceLeDiff, Nat.reduceLT, reduceCtorEq, Int.reduceLT, Int.reduceLE, Int.reduceEq, Int.reduceBEq, Int.reduceSub, Int.reduceAdd, Int.reduceMul, Int.reduceNeg, Int.reduceToNat, Nat.reduceMul, Nat.reduceBEq, hsh]
  generalize hg : lim (headed pure (run L) true _ lp72_0 _ _) _ _ = o
  obtain ⟨x, en, s, rfl, h2⟩ : ∃ x en s, o = some (x, en, s) ∧ _ := by rw [← hg]; exact loop72 nl n hn ps hlen hok7 0 [] 0 ⟨by omega, by omega, by simp⟩ _ _ (by simp only [go_sem, reduceIte, Nat.reduceEqDiff, Nat.reduceAdd, Nat.reduceSub, Nat.reduceLeDiff, Nat.reduceLT, reduceCtorEq, Int.reduceLT, Int.reduceLE, Int.reduceEq, Int.reduceBEq, Int.reduceSub, Int.reduceAdd, Int.reduceMul, Int.reduceNeg, Int.reduceToNat, Nat.reduceMul, Nat.reduceBEq, sl_nil, List.map_nil, Int.natCast_zero] <;> rfl)
  clear hg
  obtain ⟨rfl, h3, h4⟩ := h2
  rw [Nat.sub_zero, ← List.range_eq_range'] at h3 h4
  simp only [go_sem, reduceIte, Nat.reduceEqDiff, Nat.reduceAdd, Nat.reduceSub, Nat.reduceLeDiff, Nat.reduceLT, reduceCtorEq, Int.reduceLT, Int.reduceLE, Int.reduceEq, Int.reduceBEq, Int.reduceSub, Int.reduceAdd, Int.reduceMul, Int.reduceNeg, Int.reduceToNat, Nat.reduceMul, Nat.reduceBEq, h3, h4]
  rfl


def orU (a b : Nat) : Nat := a % 2 ^ 64 ||| b % 2 ^ 64
theorem or_u (a b : Nat) : binAV .or none (.v (.int .u64 (a : Int))) (.v (.int .u64 (b : Int))) = some (.v (.int .u64 ((orU a b : Nat) : Int))) := by
  have h : (BitVec.ofInt 64 (a : Int) ||| BitVec.ofInt 64 (b : Int)).toNat = orU a b := by
    rw [BitVec.toNat_or]; simp [BitVec.ofInt_natCast, orU]
  show some (AV.v (.int .u64 (IntKind.u64.wrap ((BitVec.ofInt 64 (a : Int) ||| BitVec.ofInt 64 (b : Int)).toNat : Int)))) = _
  rw [h, wrapU]
  unfold orU
  exact Nat.or_lt_two_pow (Nat.mod_lt _ (by decide)) (Nat.mod_lt _ (by decide))
theorem orU_eq (a b : Nat) (ha : a < 128) (hb : b < 128) : orU a b = a ||| b := by
  unfold orU; rw [Nat.mod_eq_of_lt (by omega), Nat.mod_eq_of_lt (by omega)]
attribute [local go_sem high] and_one shr_u shl_one or_u

theorem prsErr_zero {n : Int} : ∀ {ps seen : List (Int × Int)}, prsErr n seen ps = 0 → ∀ p ∈ ps, 0 ≤ p.1 ∧ p.1 < p.2 ∧ p.2 < n
  | [], _, _, p, hp => by simp at hp
  | a :: r, seen, h, p, hp => by
    simp only [prsErr] at h
    split at h
    · next h0 =>
      unfold prErr at h0
      split at h0
      · omega
      · split at h0
        · omega
        · rcases List.mem_cons.1 hp with rfl | hp
          · exact ⟨by omega, by omega, by omega⟩
          · exact prsErr_zero h p hp
    · next h0 => exact absurd h h0
/-- What a good book is like. -/
theorem chk_zero {n : Int} {ps : List (Int × Int)} (h : chk n ps = 0) : 1 ≤ n ∧ n ≤ 7 ∧ ps.length ≤ 10 ∧ (∀ p ∈ ps, 0 ≤ p.1 ∧ p.1 < p.2 ∧ p.2 < n) ∧ ∀ p ∈ ps, okP p := by
  unfold chk at h
  split at h
  · omega
  · split at h
    · omega
    · have := prsErr_zero h
      exact ⟨by omega, by omega, by omega, this, fun p hp => by have := this p hp; unfold okP; omega⟩

/-- A list and an error: nil with an error. -/
def firstV (n : Int) (ps : List (Int × Int)) : List Int × Int := if chk n ps = 0 then ((shAll n.toNat ps).1, 0) else ([], chk n ps)
theorem c17 (nl : Bool) (n : Int) (ps : List (Int × Int)) (st : St) : run L 17 [bkAV nl n ps] st = some (.tup [sl 1 true ((firstV n ps).1.map I), I (firstV n ps).2], st) := by
  rw [run_pure (fn := ir17) rfl rfl]
  have h22 := fun st => c22 nl n ps st
  unfold firstV
  by_cases h : chk n ps = 0
  · obtain ⟨h1, h2, h3, h4, h5⟩ := chk_zero h
    obtain ⟨k, rfl⟩ := Int.eq_ofNat_of_zero_le (show 0 ≤ n by omega)
    have h72 := fun st => c72 nl k (by omega) ps (by omega) h5 st
    rw [if_pos h]
    simp only [Int.toNat_natCast]
    simp only [ir17, go_sem, reduceIte, Nat.reduceEqDiff, Nat.reduceAdd, Nat.reduceSub, Nat.reduceLeDiff, Nat.reduceLT, reduceCtorEq, Int.reduceLT, Int.reduceLE, Int.reduceEq, Int.reduceBEq, Int.reduceSub, Int.reduceAdd, Int.reduceMul, Int.reduceNeg, Int.reduceToNat, Nat.reduceMul, Nat.reduceBEq, h22, h, h72]
  · rw [if_neg h]
    simp only [ir17, go_sem, reduceIte, Nat.reduceEqDiff, Nat.reduceAdd, Nat.reduceSub, Nat.reduceLeDiff, Nat.reduceLT, reduceCtorEq, Int.reduceLT, Int.reduceLE, Int.reduceEq, Int.reduceBEq, Int.reduceSub, Int.reduceAdd, Int.reduceMul, Int.reduceNeg, Int.reduceToNat, Nat.reduceMul, Nat.reduceBEq, h22, h]
    rfl
def setOf (l : List Int) (m : Nat) : Nat := l.foldl (fun m a => m ||| 2 ^ a.toNat) m


abbrev listAV (l : List Int) : AV := sl 1 false (l.map I)
/-- The numbers from 0 to 2, or 0 and 2; those from one on. -/
def vals (s : Nat) : List Nat := if s = 2 then [0, 2] else [0, 1, 2]
/-- All lists of so many such numbers, in ascending order. -/
def allL (s : Nat) : Nat → List (List Int)
  | 0 => [[]]
  | k + 1 => (vals s).flatMap fun (v : Nat) => (allL s k).map ((v : Int) :: ·)
theorem vals_le {s v : Nat} (hv : v ∈ vals s) : v ≤ 2 := by
  unfold vals at hv
  split at hv <;> simp at hv <;> omega
theorem allL_in {s : Nat} : ∀ k, ∀ l ∈ allL s k, l.length = k ∧ ∀ x ∈ l, 0 ≤ x ∧ x ≤ 2 := by
  intro k
  induction k with
  | zero => intro l hl; simp [allL] at hl; subst hl; simp
  | succ k ih =>
    intro l hl
    simp only [allL, List.mem_flatMap, List.mem_map] at hl
    obtain ⟨v, hv, r, hr, rfl⟩ := hl
    have h1 := ih r hr
    have h2 := vals_le hv
    refine ⟨by simp [h1.1], fun x hx => ?_⟩
    rcases List.mem_cons.1 hx with rfl | hx
    · omega
    · exact h1.2 x hx


def sumL : List Int → Int
  | [] => 0
  | a :: r => a + sumL r
/-- Are values enough for each pair? -/
def enough (v : List Int) (p : Int × Int) : Bool := decide (2 ≤ v.getD p.1.toNat 0 + v.getD p.2.toNat 0)
def halfOk (ps : List (Int × Int)) (v : List Int) : Bool := ps.all (enough v)

/-- The places of a value. -/
def withL (x : Int) : List Int → Nat → List Int
  | [], _ => []
  | a :: r, i => if a = x then (i : Int) :: withL x r (i + 1) else withL x r (i + 1)
theorem withL_len (x : Int) : ∀ l i, (withL x l i).length ≤ l.length
  | [], i => by simp [withL]
  | a :: r, i => by
    have := withL_len x r (i + 1)
    simp only [withL]; split <;> simp <;> omega


/-- The cheapest lists so far, and one more. -/
def cStep (ps : List (Int × Int)) (out : List (List Int)) (l : List Int) : List (List Int) :=
  if halfOk ps l = true then
    match out with
    | [] => [l]
    | x :: r => if sumL l < sumL x then [l] else if sumL l = sumL x then (x :: r) ++ [l] else x :: r
  else out
/-- A list of small numbers, so many. -/
def okL (n : Int) (l : List Int) : Prop := (l.length : Int) = n ∧ ∀ x ∈ l, 0 ≤ x ∧ x ≤ 2

def cheap (n : Nat) (s : Nat) (ps : List (Int × Int)) : List (List Int) := (allL s n).foldl (cStep ps) []


/-! ### the least of a list, kept in order -/
def keepF {α : Type} (f : α → Int) (out : List α) (a : α) : List α :=
  match out with
  | [] => [a]
  | x :: r => if f a < f x then [a] else if f a = f x then (x :: r) ++ [a] else x :: r
def leastOf {α : Type} (f : α → Int) (Y : List α) : List α := Y.filter fun a => Y.all fun y => decide (f a ≤ f y)

theorem mem_least {α : Type} {f : α → Int} {Y : List α} {a : α} : a ∈ leastOf f Y ↔ a ∈ Y ∧ ∀ y ∈ Y, f a ≤ f y := by
  simp [leastOf]
theorem rev_ind {α : Type} {P : List α → Prop} (h0 : P []) (h1 : ∀ l a, P l → P (l ++ [a])) : ∀ l, P l := by
  intro l
  have : ∀ l : List α, P l.reverse := by
    intro l
    induction l with
    | nil => exact h0
    | cons a l ih => rw [List.reverse_cons]; exact h1 _ _ ih
  have h := this l.reverse
  rwa [List.reverse_reverse] at h
theorem least_of_min {α : Type} {f : α → Int} {Y : List α} {x : α} (hx : x ∈ Y) (h : ∀ y ∈ Y, f x ≤ f y) : leastOf f Y = Y.filter fun a => decide (f a = f x) := by
  unfold leastOf
  apply List.filter_congr
  intro a ha
  rw [Bool.eq_iff_iff, List.all_eq_true, decide_eq_true_iff]
  constructor
  · intro h2
    have := of_decide_eq_true (h2 x hx)
    have := h a ha
    omega
  · intro h2 y hy
    have := h y hy
    exact decide_eq_true (by omega)
theorem keepF_inv {α : Type} (f : α → Int) : ∀ Y : List α, (Y = [] → Y.foldl (keepF f) [] = []) ∧ (Y ≠ [] → ∃ x r, Y.foldl (keepF f) [] = x :: r ∧ x ∈ Y ∧ (∀ y ∈ Y, f x ≤ f y) ∧ Y.foldl (keepF f) [] = Y.filter fun a => decide (f a = f x)) := by
  apply rev_ind
  · simp
  · intro Z a ih
    refine ⟨by simp, fun _ => ?_⟩
    rw [List.foldl_append, List.foldl_cons, List.foldl_nil]
    by_cases hz : Z = []
    · subst hz
      refine ⟨a, [], rfl, by simp, by simp, ?_⟩
      simp [keepF]
    · obtain ⟨x, r, h1, h2, h3, h4⟩ := ih.2 hz
      generalize hW : Z.foldl (keepF f) [] = W at *
      subst h1
      by_cases p1 : f a < f x
      · refine ⟨a, [], by simp [keepF, p1], by simp, ?_, ?_⟩
        · intro y hy
          rcases List.mem_append.1 hy with hy | hy
          · have := h3 y hy; omega
          · simp at hy; subst hy; omega
        · have e : Z.filter (fun y => decide (f y = f a)) = [] := by
            rw [List.filter_eq_nil_iff]; intro y hy; have := h3 y hy; simp; omega
          rw [List.filter_append, e]; simp [keepF, p1]
      · by_cases p2 : f a = f x
        · refine ⟨x, r ++ [a], by simp only [keepF]; rw [if_neg p1, if_pos p2]; rfl, by simp [h2], ?_, ?_⟩
          · intro y hy
            rcases List.mem_append.1 hy with hy | hy
            · exact h3 y hy
            · simp at hy; subst hy; omega
          · rw [List.filter_append, ← h4]; simp only [keepF]; rw [if_neg p1, if_pos p2]; simp [p2]
        · refine ⟨x, r, by simp only [keepF]; rw [if_neg p1, if_neg p2], by simp [h2], ?_, ?_⟩
          · intro y hy
            rcases List.mem_append.1 hy with hy | hy
            · exact h3 y hy
            · simp at hy; subst hy; omega
          · rw [List.filter_append, ← h4]; simp only [keepF]; rw [if_neg p1, if_neg p2]; simp [p2]
theorem keepF_spec {α : Type} (f : α → Int) (Y : List α) : Y.foldl (keepF f) [] = leastOf f Y := by
  by_cases h : Y = []
  · subst h; rfl
  · obtain ⟨x, r, h1, h2, h3, h4⟩ := (keepF_inv f Y).2 h
    rw [h4, least_of_min h2 h3]
theorem least_ne {α : Type} (f : α → Int) (Y : List α) (h : Y ≠ []) : leastOf f Y ≠ [] := by
  obtain ⟨x, r, h1, h2, h3, h4⟩ := (keepF_inv f Y).2 h
  rw [← keepF_spec, h1]; simp
theorem least_map {α β : Type} {f : α → Int} {g : β → Int} (W : α → β) (Y : List α) (h : ∀ a ∈ Y, ∀ b ∈ Y, f a ≤ f b ↔ g (W a) ≤ g (W b)) : (leastOf f Y).map W = leastOf g (Y.map W) := by
  unfold leastOf
  rw [List.filter_map]
  congr 1
  apply List.filter_congr
  intro a ha
  rw [Bool.eq_iff_iff]
  simp only [Function.comp, List.all_eq_true, decide_eq_true_iff, List.mem_map]
  constructor
  · rintro h2 _ ⟨b, hb, rfl⟩; exact (h a ha b hb).1 (h2 b hb)
  · intro h2 b hb; exact (h a ha b hb).2 (h2 _ ⟨b, hb, rfl⟩)
theorem least_perm {α : Type} (f : α → Int) {A B : List α} (h : A.Perm B) : (leastOf f A).Perm (leastOf f B) := by
  unfold leastOf
  have e : (fun a => A.all fun y => decide (f a ≤ f y)) = fun a => B.all fun y => decide (f a ≤ f y) := by
    funext a
    rw [Bool.eq_iff_iff]
    simp only [List.all_eq_true]
    constructor
    · intro h2 y hy; exact h2 y (h.mem_iff.2 hy)
    · intro h2 y hy; exact h2 y (h.mem_iff.1 hy)
  rw [e]
  exact h.filter _

/-! ### the order of lists -/
theorem lex_irrefl : ∀ a, lexLt a a = false
  | [] => rfl
  | a :: r => by simp [lexLt, lex_irrefl r]
theorem lex_total : ∀ a b, lexLt a b = false → lexLt b a = false → a = b
  | [], [], _, _ => rfl
  | [], b :: s, h, _ => by simp [lexLt] at h
  | a :: r, [], _, h => by simp [lexLt] at h
  | a :: r, b :: s, h1, h2 => by
    simp only [lexLt, Bool.or_eq_false_iff, Bool.and_eq_false_iff, decide_eq_false_iff_not] at h1 h2
    have e : a = b := by omega
    subst e
    simp at h1 h2
    rw [lex_total r s h1 h2]
theorem lex_trans : ∀ a b c, lexLt a b = true → lexLt b c = true → lexLt a c = true
  | a, [], c, h, _ => by cases a <;> simp [lexLt] at h
  | a, b :: s, [], _, h => by simp [lexLt] at h
  | [], b :: s, c :: t, _, _ => rfl
  | a :: r, b :: s, c :: t, h1, h2 => by
    simp only [lexLt, Bool.or_eq_true, Bool.and_eq_true, decide_eq_true_iff] at h1 h2 ⊢
    rcases h1 with h1 | ⟨rfl, h1⟩
    · rcases h2 with h2 | ⟨rfl, h2⟩
      · left; omega
      · left; exact h1
    · rcases h2 with h2 | ⟨rfl, h2⟩
      · left; exact h2
      · right; exact ⟨rfl, lex_trans r s t h1 h2⟩
theorem lex_asymm {a b : List Int} (h : lexLt a b = true) : lexLt b a = false := by
  cases h2 : lexLt b a
  · rfl
  · have := lex_trans _ _ _ h h2; rw [lex_irrefl] at this; simp at this
/-- not behind: transitive. -/
theorem lex_le {a b c : List Int} (h1 : lexLt b a = false) (h2 : lexLt c b = false) : lexLt c a = false := by
  cases h : lexLt c a
  · rfl
  · cases h3 : lexLt a b
    · have := lex_total _ _ h3 h1; subst this; rw [h2] at h; simp at h
    · have := lex_trans _ _ _ h h3; rw [h2] at this; simp at this

/-- The first one in this order. -/
def pickL (best c : List Int) : List Int := if lexLt c best = true then c else best
theorem pickL_spec : ∀ (r : List (List Int)) (b : List Int), r.foldl pickL b ∈ b :: r ∧ ∀ c ∈ b :: r, lexLt c (r.foldl pickL b) = false
  | [], b => by simp [lex_irrefl]
  | a :: r, b => by
    rw [List.foldl_cons]
    obtain ⟨h1, h2⟩ := pickL_spec r (pickL b a)
    have hp : pickL b a = a ∨ pickL b a = b := by unfold pickL; split <;> simp
    have ha : lexLt a (pickL b a) = false := by
      unfold pickL; split
      · exact lex_irrefl _
      · next h => simpa using h
    have hb : lexLt b (pickL b a) = false := by
      unfold pickL; split
      · next h => exact lex_asymm h
      · exact lex_irrefl _
    refine ⟨?_, ?_⟩
    · rcases List.mem_cons.1 h1 with h | h
      · rw [h]; rcases hp with h | h <;> simp [h]
      · simp [h]
    · intro c hc
      have hk := h2 _ (List.mem_cons_self)
      rcases List.mem_cons.1 hc with rfl | hc
      · exact lex_le hk hb
      · rcases List.mem_cons.1 hc with rfl | hc
        · exact lex_le hk ha
        · exact h2 c (List.mem_cons_of_mem _ hc)

/-! ### the first of the shortest ones, and how many there are -/
def shG (s : List Int × Nat) (c : List Int) : List Int × Nat :=
  if 0 < s.2 ∧ s.1.length < c.length then s
  else if s.2 = 0 ∨ c.length < s.1.length then (c, 1)
  else (if lexLt c s.1 = true then c else s.1, s.2 + 1)
def lenI (l : List Int) : Int := l.length
theorem shG_inv : ∀ Y : List (List Int), Y ≠ [] → 0 < (Y.foldl shG ([], 0)).2 ∧ (Y.foldl shG ([], 0)).1 ∈ Y ∧ (∀ y ∈ Y, lenI (Y.foldl shG ([], 0)).1 ≤ lenI y) ∧
    (∀ y ∈ Y, lenI y = lenI (Y.foldl shG ([], 0)).1 → lexLt y (Y.foldl shG ([], 0)).1 = false) ∧ (Y.foldl shG ([], 0)).2 = (Y.filter fun a => decide (lenI a = lenI (Y.foldl shG ([], 0)).1)).length := by
  apply rev_ind
  · simp
  · intro Z a ih _
    rw [List.foldl_append, List.foldl_cons, List.foldl_nil]
    by_cases hz : Z = []
    · subst hz
      have e : shG ([], 0) a = (a, 1) := by simp [shG]
      simp only [List.foldl_nil, e, List.nil_append]
      refine ⟨by simp, by simp, by simp, by simp [lex_irrefl], by simp⟩
    · obtain ⟨h1, h2, h3, h4, h5⟩ := ih hz
      generalize hW : Z.foldl shG ([], 0) = W at *
      obtain ⟨x, k⟩ := W
      simp only at h1 h2 h3 h4 h5
      by_cases p0 : x.length < a.length
      · have e : shG (x, k) a = (x, k) := by unfold shG; rw [if_pos ⟨h1, p0⟩]
        have q : ¬ lenI a = lenI x := by unfold lenI; omega
        rw [e]; simp only
        refine ⟨h1, by simp [h2], ?_, ?_, ?_⟩
        · intro y hy
          rcases List.mem_append.1 hy with hy | hy
          · exact h3 y hy
          · simp at hy; subst hy; unfold lenI; omega
        · intro y hy
          rcases List.mem_append.1 hy with hy | hy
          · exact h4 y hy
          · simp at hy; subst hy; intro h; exact absurd h q
        · rw [List.filter_append, List.length_append, ← h5]; simp [q]
      · by_cases p1 : a.length < x.length
        · have e : shG (x, k) a = (a, 1) := by unfold shG; rw [if_neg (by simp only; omega), if_pos (.inr p1)]
          have e2 : Z.filter (fun y => decide (lenI y = lenI a)) = [] := by
            rw [List.filter_eq_nil_iff]; intro y hy; have := h3 y hy; unfold lenI at this ⊢; simp; omega
          rw [e]; simp only
          refine ⟨by omega, by simp, ?_, ?_, ?_⟩
          · intro y hy
            rcases List.mem_append.1 hy with hy | hy
            · have := h3 y hy; unfold lenI at this ⊢; omega
            · simp at hy; subst hy; omega
          · intro y hy
            rcases List.mem_append.1 hy with hy | hy
            · have := h3 y hy; unfold lenI at this ⊢; omega
            · simp at hy; subst hy; intro _; exact lex_irrefl _
          · rw [List.filter_append, e2]; simp
        · have e : shG (x, k) a = (pickL x a, k + 1) := by unfold shG pickL; rw [if_neg (by simp only; omega), if_neg (by simp only; omega)]
          have q : lenI a = lenI x := by unfold lenI; omega
          have hp : pickL x a = a ∨ pickL x a = x := by unfold pickL; split <;> simp
          have q2 : lenI (pickL x a) = lenI x := by rcases hp with h | h <;> rw [h]; exact q
          obtain ⟨g1, g2⟩ := pickL_spec [a] x
          simp only [List.foldl_cons, List.foldl_nil] at g1 g2
          have ga := g2 a (by simp)
          have gx := g2 x (by simp)
          rw [e]; simp only
          refine ⟨by omega, ?_, ?_, ?_, ?_⟩
          · rcases hp with h | h <;> rw [h] <;> simp [h2]
          · intro y hy
            rw [q2]
            rcases List.mem_append.1 hy with hy | hy
            · exact h3 y hy
            · simp at hy; subst hy; omega
          · intro y hy
            rw [q2]
            rcases List.mem_append.1 hy with hy | hy
            · intro h; exact lex_le gx (h4 y hy h)
            · simp at hy; subst hy; intro _; exact ga
          · rw [q2, List.filter_append, List.length_append, ← h5]; simp [q]
theorem shG_spec (Y : List (List Int)) (h : Y ≠ []) : (Y.foldl shG ([], 0)).1 ∈ leastOf lenI Y ∧ (∀ c ∈ leastOf lenI Y, lexLt c (Y.foldl shG ([], 0)).1 = false) ∧ (Y.foldl shG ([], 0)).2 = (leastOf lenI Y).length := by
  obtain ⟨h1, h2, h3, h4, h5⟩ := shG_inv Y h
  rw [least_of_min h2 h3]
  refine ⟨?_, ?_, h5⟩
  · rw [List.mem_filter]; exact ⟨h2, by simp⟩
  · intro c hc
    rw [List.mem_filter] at hc
    exact h4 c hc.1 (of_decide_eq_true hc.2)


theorem shAll_eq (n : Nat) (ps : List (Int × Int)) : shAll n ps = (((List.range (2 ^ n)).filter (expl ps)).map memb).foldl shG ([], 0) := by
  unfold shAll
  rw [List.foldl_map, List.foldl_filter]
  congr 1
  funext s m
  cases h : expl ps m
  · simp [shStep, h]
  · simp [shStep, shG, h]
theorem cheap_eq (n t : Nat) (ps : List (Int × Int)) : cheap n t ps = leastOf sumL ((allL t n).filter (halfOk ps)) := by
  unfold cheap
  rw [← keepF_spec, List.foldl_filter]
  congr 1
  funext out l
  unfold cStep keepF
  cases out <;> rfl

/-- The articles of values that have 2. -/
def twos (l : List Int) : List Int := withL 2 l 0
theorem perms : (List.range 8).all (fun n => ((List.range (2 ^ n)).map memb).isPerm ((allL 2 n).map twos)) = true := by kernel_rfl
theorem perm_of (n : Nat) (hn : n ≤ 7) : ((List.range (2 ^ n)).map memb).Perm ((allL 2 n).map twos) := by
  have h := List.all_eq_true.1 perms n (List.mem_range.2 (by omega))
  exact List.isPerm_iff.1 h

/-- Does a list meet each pair? -/
def meets (ps : List (Int × Int)) (s : List Int) : Bool := ps.all fun p => decide (p.1 ∈ s) || decide (p.2 ∈ s)
theorem mem_memb (m u : Nat) : (u : Int) ∈ memb m ↔ u < 7 ∧ m.testBit u = true := by
  unfold memb
  simp only [List.mem_map, List.mem_filter, List.mem_range]
  constructor
  · rintro ⟨a, h, e⟩
    have : a = u := by omega
    subst this; exact h
  · intro h; exact ⟨u, h, rfl⟩
theorem expl_meets {ps : List (Int × Int)} (h7 : ∀ p ∈ ps, okP p) (m : Nat) : expl ps m = meets ps (memb m) := by
  unfold expl meets
  rw [Bool.eq_iff_iff]
  simp only [Bool.not_eq_true', List.any_eq_false, List.all_eq_true, Bool.or_eq_true, decide_eq_true_iff]
  apply forall_congr'; intro p
  apply forall_congr'; intro hp
  obtain ⟨u, v⟩ := p
  obtain ⟨a1, a2, a3, a4⟩ := h7 _ hp
  simp only at a1 a2 a3 a4
  obtain ⟨u, rfl⟩ := Int.eq_ofNat_of_zero_le a1
  obtain ⟨v, rfl⟩ := Int.eq_ofNat_of_zero_le a3
  rw [mem_memb, mem_memb]
  unfold openP
  simp only [Int.toNat_natCast]
  have b1 : u < 7 := by omega
  have b2 : v < 7 := by omega
  cases m.testBit u <;> cases m.testBit v <;> simp [b1, b2]
theorem mem_withL (x a : Int) : ∀ (l : List Int) (i : Nat), a ∈ withL x l i ↔ ∃ k : Nat, l[k]? = some x ∧ a = ((i + k : Nat) : Int)
  | [], i => by simp [withL]
  | b :: r, i => by
    have ih := mem_withL x a r (i + 1)
    have hk : (∃ k : Nat, (b :: r)[k]? = some x ∧ a = ((i + k : Nat) : Int)) ↔ (b = x ∧ a = (i : Int)) ∨ ∃ k : Nat, r[k]? = some x ∧ a = ((i + 1 + k : Nat) : Int) := by
      constructor
      · rintro ⟨k, h1, h2⟩
        cases k with
        | zero => left; exact ⟨by simpa using h1, by simpa using h2⟩
        | succ k => right; exact ⟨k, by simpa using h1, by rw [h2]; congr 1; omega⟩
      · rintro (⟨h1, h2⟩ | ⟨k, h1, h2⟩)
        · exact ⟨0, by simp [h1], by simp [h2]⟩
        · exact ⟨k + 1, by simpa using h1, by rw [h2]; congr 1; omega⟩
    rw [hk, ← ih]
    simp only [withL]
    split
    · next h => rw [List.mem_cons]; simp [h]
    · next h => simp [h]
theorem mem_twos (l : List Int) (u : Nat) : (u : Int) ∈ twos l ↔ l.getD u 0 = 2 := by
  unfold twos
  rw [mem_withL, List.getD_eq_getElem?_getD]
  constructor
  · rintro ⟨k, h1, h2⟩
    have : k = u := by omega
    subst this; rw [h1]; rfl
  · intro h
    refine ⟨u, ?_, by simp⟩
    cases h2 : l[u]?
    · rw [h2] at h; simp at h
    · rw [h2] at h; simp at h; rw [h]
theorem allL2_val : ∀ k, ∀ l ∈ allL 2 k, ∀ x ∈ l, x = 0 ∨ x = 2 := by
  intro k
  induction k with
  | zero => intro l hl x hx; simp [allL] at hl; subst hl; simp at hx
  | succ k ih =>
    intro l hl x hx
    simp only [allL, List.mem_flatMap, List.mem_map] at hl
    obtain ⟨v, hv, r, hr, rfl⟩ := hl
    rcases List.mem_cons.1 hx with rfl | hx
    · have : v = 0 ∨ v = 2 := by simpa [vals] using hv
      omega
    · exact ih r hr x hx
theorem getD2 {l : List Int} (h : ∀ x ∈ l, x = 0 ∨ x = 2) (u : Nat) : l.getD u 0 = 0 ∨ l.getD u 0 = 2 := by
  rw [List.getD_eq_getElem?_getD]
  cases h2 : l[u]?
  · simp
  · exact h _ (List.mem_of_getElem? h2)
theorem half_meets {ps : List (Int × Int)} (h7 : ∀ p ∈ ps, okP p) {l : List Int} (h : ∀ x ∈ l, x = 0 ∨ x = 2) : halfOk ps l = meets ps (twos l) := by
  unfold halfOk meets
  rw [Bool.eq_iff_iff]
  simp only [List.all_eq_true, Bool.or_eq_true, decide_eq_true_iff]
  apply forall_congr'; intro p
  apply forall_congr'; intro hp
  obtain ⟨u, v⟩ := p
  obtain ⟨a1, a2, a3, a4⟩ := h7 _ hp
  simp only at a1 a2 a3 a4
  obtain ⟨u, rfl⟩ := Int.eq_ofNat_of_zero_le a1
  obtain ⟨v, rfl⟩ := Int.eq_ofNat_of_zero_le a3
  rw [mem_twos, mem_twos]
  unfold enough
  simp only [Int.toNat_natCast, decide_eq_true_iff]
  rcases getD2 h u with e1 | e1 <;> rcases getD2 h v with e2 | e2 <;> rw [e1, e2] <;> simp
theorem two_sum : ∀ (l : List Int) (i : Nat), (∀ x ∈ l, x = 0 ∨ x = 2) → sumL l = 2 * ((withL 2 l i).length : Int)
  | [], i, _ => by simp [sumL, withL]
  | a :: r, i, h => by
    have ih := two_sum r (i + 1) (fun x hx => h x (by simp [hx]))
    rcases h a (by simp) with rfl | rfl
    · simp only [sumL, withL]; rw [if_neg (by omega), ih]; omega
    · simp only [sumL, withL, if_true]; rw [ih, List.length_cons]; omega
theorem full_mem (t : Nat) : ∀ k, List.replicate k (2 : Int) ∈ allL t k := by
  intro k
  induction k with
  | zero => simp [allL]
  | succ k ih =>
    simp only [allL, List.mem_flatMap, List.mem_map]
    refine ⟨2, ?_, _, ih, ?_⟩
    · unfold vals; split <;> simp
    · rfl
theorem full_ok {n : Nat} {ps : List (Int × Int)} (hps : ∀ p ∈ ps, 0 ≤ p.1 ∧ p.1 < p.2 ∧ p.2 < (n : Int)) : halfOk ps (List.replicate n 2) = true := by
  unfold halfOk
  rw [List.all_eq_true]
  intro p hp
  have := hps p hp
  have h1 : p.1.toNat < n := by omega
  have h2 : p.2.toNat < n := by omega
  simp [enough, List.getD_eq_getElem?_getD, List.getElem?_replicate, h1, h2]
theorem half_ne {n : Nat} (t : Nat) {ps : List (Int × Int)} (hps : ∀ p ∈ ps, 0 ≤ p.1 ∧ p.1 < p.2 ∧ p.2 < (n : Int)) : (allL t n).filter (halfOk ps) ≠ [] :=
  List.ne_nil_of_mem (List.mem_filter.2 ⟨full_mem t n, full_ok hps⟩)
theorem cheap_ne {n : Nat} (t : Nat) {ps : List (Int × Int)} (hps : ∀ p ∈ ps, 0 ≤ p.1 ∧ p.1 < p.2 ∧ p.2 < (n : Int)) : cheap n t ps ≠ [] := by
  rw [cheap_eq]; exact least_ne _ _ (half_ne t hps)
theorem cheap_mem {n t : Nat} {ps : List (Int × Int)} {l : List Int} : l ∈ cheap n t ps ↔ (l ∈ allL t n ∧ halfOk ps l = true) ∧ ∀ y ∈ allL t n, halfOk ps y = true → sumL l ≤ sumL y := by
  rw [cheap_eq, mem_least, List.mem_filter]
  simp only [List.mem_filter, and_imp]
theorem cheap_in {n t : Nat} {ps : List (Int × Int)} {l : List Int} (h : l ∈ cheap n t ps) : okL n l := by
  have := allL_in n l (cheap_mem.1 h).1.1
  exact ⟨by omega, this.2⟩
/-- All lists that meet each pair, in the two orders. -/
theorem short_perm {n : Nat} (hn : n ≤ 7) {ps : List (Int × Int)} (h7 : ∀ p ∈ ps, okP p) : (((List.range (2 ^ n)).filter (expl ps)).map memb).Perm (((allL 2 n).filter (halfOk ps)).map twos) := by
  have e1 : ((List.range (2 ^ n)).filter (expl ps)).map memb = ((List.range (2 ^ n)).map memb).filter (meets ps) := by
    rw [List.filter_map]; congr 1
    apply List.filter_congr; intro m _; exact expl_meets h7 m
  have e2 : ((allL 2 n).filter (halfOk ps)).map twos = ((allL 2 n).map twos).filter (meets ps) := by
    rw [List.filter_map]; congr 1
    apply List.filter_congr; intro l hl; exact half_meets h7 (allL2_val n l hl)
  rw [e1, e2]
  exact (perm_of n hn).filter _
theorem cheap_twos (n : Nat) (ps : List (Int × Int)) : (cheap n 2 ps).map twos = leastOf lenI (((allL 2 n).filter (halfOk ps)).map twos) := by
  rw [cheap_eq]
  apply least_map
  intro a ha b hb
  have h1 := two_sum a 0 (allL2_val n a (List.mem_filter.1 ha).1)
  have h2 := two_sum b 0 (allL2_val n b (List.mem_filter.1 hb).1)
  rw [h1, h2]; unfold lenI twos; omega
/-- The program's first of the shortest lists, and their number, are those of all lists. -/
theorem short_spec {n : Nat} (hn : n ≤ 7) {ps : List (Int × Int)} (hps : ∀ p ∈ ps, 0 ≤ p.1 ∧ p.1 < p.2 ∧ p.2 < (n : Int)) (h7 : ∀ p ∈ ps, okP p) :
    (shAll n ps).1 ∈ (cheap n 2 ps).map twos ∧ (∀ c ∈ (cheap n 2 ps).map twos, lexLt c (shAll n ps).1 = false) ∧ (shAll n ps).2 = (cheap n 2 ps).length := by
  have hp := short_perm hn h7
  have hl := least_perm lenI hp
  have hne : ((List.range (2 ^ n)).filter (expl ps)).map memb ≠ [] := by
    intro h; rw [h] at hp
    have := hp.length_eq
    rw [List.length_map, List.length_nil] at this
    exact half_ne 2 hps (List.length_eq_zero_iff.1 this.symm)
  obtain ⟨h1, h2, h3⟩ := shG_spec _ hne
  rw [← shAll_eq] at h1 h2 h3
  rw [cheap_twos]
  refine ⟨hl.mem_iff.1 h1, fun c hc => h2 c (hl.mem_iff.2 hc), ?_⟩
  rw [h3, hl.length_eq, ← cheap_twos, List.length_map]
theorem pick_unique {X : List (List Int)} {a b : List Int} (ha : a ∈ X) (hb : b ∈ X) (h1 : ∀ c ∈ X, lexLt c a = false) (h2 : ∀ c ∈ X, lexLt c b = false) : a = b :=
  lex_total _ _ (h2 a ha) (h1 b hb)

/-- The reference's first of the shortest lists. -/
def bestL (X : List (List Int)) : List Int := match X with | [] => [] | b :: r => r.foldl pickL b
def firstR (n : Int) (ps : List (Int × Int)) : List Int × Int := if chk n ps = 0 then (bestL ((cheap n.toNat 2 ps).map twos), 0) else ([], chk n ps)
theorem first_eq (n : Int) (ps : List (Int × Int)) : firstV n ps = firstR n ps := by
  unfold firstV firstR
  by_cases h : chk n ps = 0
  · rw [if_pos h, if_pos h]
    obtain ⟨h1, h2, h3, h4, h5⟩ := chk_zero h
    obtain ⟨k, rfl⟩ := Int.eq_ofNat_of_zero_le (show 0 ≤ n by omega)
    simp only [Int.toNat_natCast]
    obtain ⟨g1, g2, g3⟩ := short_spec (by omega) h4 h5
    have hne := cheap_ne (n := k) 2 h4
    have : (shAll k ps).1 = bestL ((cheap k 2 ps).map twos) := by
      generalize hX : (cheap k 2 ps).map twos = X at *
      cases X with
      | nil => rw [List.map_eq_nil_iff] at hX; exact absurd hX hne
      | cons b r =>
        obtain ⟨k1, k2⟩ := pickL_spec r b
        exact pick_unique g1 k1 g2 k2
    rw [this]
  · rw [if_neg h, if_neg h]
/-! ### the set of a list -/
theorem setOf_testBit : ∀ (l : List Int) (m u : Nat), (∀ x ∈ l, 0 ≤ x) → ((setOf l m).testBit u = true ↔ m.testBit u = true ∨ (u : Int) ∈ l)
  | [], m, u, _ => by simp [setOf]
  | a :: r, m, u, h => by
    have e : setOf (a :: r) m = setOf r (m ||| 2 ^ a.toNat) := rfl
    have ha := h a (by simp)
    rw [e, setOf_testBit r _ u (fun x hx => h x (by simp [hx])), Nat.testBit_or, Nat.testBit_two_pow, Bool.or_eq_true, decide_eq_true_iff, List.mem_cons]
    have : a.toNat = u ↔ (u : Int) = a := by omega
    rw [this, or_assoc]


/-! ### who contradicts whom -/
def orAt (o : List Nat) (i b : Nat) : List Nat := o.set i (o.getD i 0 ||| 2 ^ b)
def adv1 (o : List Nat) (p : Int × Int) : List Nat := orAt (orAt o p.1.toNat p.2.toNat) p.2.toNat p.1.toNat
def advL (ps : List (Int × Int)) : List Nat := ps.foldl adv1 (List.replicate 7 0)
/-- Two articles contradict each other. -/
def nb (ps : List (Int × Int)) (u v : Nat) : Prop := ((u : Int), (v : Int)) ∈ ps ∨ ((v : Int), (u : Int)) ∈ ps
theorem nb_symm {ps : List (Int × Int)} {u v : Nat} (h : nb ps u v) : nb ps v u := h.symm

theorem orAt_len (o : List Nat) (i b : Nat) : (orAt o i b).length = o.length := by simp [orAt]
theorem orAt_bit (o : List Nat) (i b j k : Nat) (hi : i < o.length) : ((orAt o i b).getD j 0).testBit k = true ↔ (o.getD j 0).testBit k = true ∨ (j = i ∧ k = b) := by
  unfold orAt
  simp only [List.getD_eq_getElem?_getD, List.getElem?_set]
  by_cases h : i = j
  · subst h
    simp only [hi, if_true, Option.getD_some, Nat.testBit_or, Nat.testBit_two_pow, Bool.or_eq_true, decide_eq_true_iff]
    constructor <;> rintro (h | h) <;> simp_all
  · simp only [if_neg h]
    constructor
    · exact .inl
    · rintro (h2 | h2)
      · exact h2
      · exact absurd h2.1.symm h
theorem adv_bit : ∀ (ps : List (Int × Int)) (o : List Nat), o.length = 7 → (∀ p ∈ ps, okP p) → ((ps.foldl adv1 o).length = 7 ∧ ∀ u v : Nat, ((ps.foldl adv1 o).getD u 0).testBit v = true ↔ (o.getD u 0).testBit v = true ∨ nb ps u v)
  | [], o, h, _ => by simp [h, nb]
  | p :: r, o, h, h7 => by
    have hp := h7 p (by simp)
    obtain ⟨a, b⟩ := p
    obtain ⟨a1, a2, a3, a4⟩ := hp
    simp only at a1 a2 a3 a4
    obtain ⟨a, rfl⟩ := Int.eq_ofNat_of_zero_le a1
    obtain ⟨b, rfl⟩ := Int.eq_ofNat_of_zero_le a3
    rw [List.foldl_cons]
    have e : adv1 o ((a : Int), (b : Int)) = orAt (orAt o a b) b a := rfl
    have hl : (adv1 o ((a : Int), (b : Int))).length = 7 := by rw [e, orAt_len, orAt_len, h]
    obtain ⟨g1, g2⟩ := adv_bit r _ hl (fun q hq => h7 q (by simp [hq]))
    refine ⟨g1, fun u v => ?_⟩
    rw [g2 u v, e, orAt_bit _ _ _ _ _ (by rw [orAt_len]; omega), orAt_bit _ _ _ _ _ (by omega)]
    unfold nb
    simp only [List.mem_cons, Prod.mk.injEq, Int.natCast_inj]
    generalize (o.getD u 0).testBit v = X
    constructor
    · rintro (((h | h) | h) | h | h) <;> simp [h]
    · rintro (h | (h | h) | (h | h)) <;> simp [h]
theorem advL_len {ps : List (Int × Int)} (h7 : ∀ p ∈ ps, okP p) : (advL ps).length = 7 := (adv_bit ps _ (by simp) h7).1
theorem advL_bit {ps : List (Int × Int)} (h7 : ∀ p ∈ ps, okP p) (u v : Nat) : ((advL ps).getD u 0).testBit v = true ↔ nb ps u v := by
  have := (adv_bit ps (List.replicate 7 0) (by simp) h7).2 u v
  unfold advL
  rw [this, List.getD_eq_getElem?_getD, List.getElem?_replicate]
  split <;> simp

/-- The articles that contradict some of a set. -/
def twoOf (ps : List (Int × Int)) (z : Nat) : Nat := (memb z).foldl (fun (t : Nat) (a : Int) => t ||| (advL ps).getD a.toNat 0) 0
theorem two_fold (g : Nat → Nat) (v : Nat) : ∀ (l : List Int) (t : Nat), ((l.foldl (fun (t : Nat) (a : Int) => t ||| g a.toNat) t).testBit v = true ↔ t.testBit v = true ∨ ∃ a ∈ l, (g a.toNat).testBit v = true)
  | [], t => by simp
  | a :: r, t => by
    rw [List.foldl_cons, two_fold g v r]
    rw [Nat.testBit_or, Bool.or_eq_true, or_assoc]
    simp
theorem two_bit {ps : List (Int × Int)} (h7 : ∀ p ∈ ps, okP p) (z v : Nat) (hz : z < 128) : (twoOf ps z).testBit v = true ↔ ∃ u, z.testBit u = true ∧ nb ps u v := by
  have := two_fold (fun a => (advL ps).getD a 0) v (memb z) 0
  unfold twoOf
  rw [this, Nat.zero_testBit]
  simp only [Bool.false_eq_true, false_or]
  constructor
  · rintro ⟨a, h1, h2⟩
    have h3 := h1
    unfold memb at h3
    rw [List.mem_map] at h3
    obtain ⟨u, _, rfl⟩ := h3
    rw [Int.toNat_natCast, advL_bit h7] at h2
    exact ⟨u, ((mem_memb z u).1 h1).2, h2⟩
  · rintro ⟨u, h1, h2⟩
    refine ⟨(u : Int), (mem_memb z u).2 ⟨?_, h1⟩, by rw [Int.toNat_natCast, advL_bit h7]; exact h2⟩
    rcases Nat.lt_or_ge u 7 with h | h
    · exact h
    · have : z.testBit u = false := Nat.testBit_lt_two_pow (Nat.lt_of_lt_of_le (show z < 2 ^ 7 from hz) (Nat.pow_le_pow_right (by omega) h))
      rw [this] at h1; simp at h1

/-! ### values by a set of articles that have 0 -/
def bitI (m a : Nat) : Int := (((m >>> a) % 2 : Nat) : Int)
theorem bitI_eq (m a : Nat) : bitI m a = if m.testBit a = true then 1 else 0 := by
  unfold bitI
  have h := bit_zero m a
  have h2 : (m >>> a) % 2 < 2 := Nat.mod_lt _ (by omega)
  by_cases p : m.testBit a = true
  · rw [if_pos p]
    have : ¬ ((((m >>> a) % 2 : Nat) : Int) = 0) := by rw [h]; simp [p]
    omega
  · rw [if_neg p]
    rw [h]; simpa using p
def valsOf (n two z : Nat) : List Int := (List.range n).map fun a => 1 + bitI two a - bitI z a
def costOf (n two z : Nat) : Int := (n : Int) + (memb two).length - (memb z).length
theorem sum_map {α : Type} (f g h : α → Int) : ∀ l : List α, sumL (l.map fun a => 1 + f a - g a) = l.length + sumL (l.map f) - sumL (l.map g)
  | [] => by simp [sumL]
  | a :: r => by
    have := sum_map f g h r
    simp only [List.map_cons, sumL, List.length_cons, this]; omega
theorem bit_sums : (List.range 8).all (fun n => (List.range (2 ^ n)).all fun m => decide (sumL ((List.range n).map (bitI m)) = ((memb m).length : Int))) = true := by kernel_rfl
theorem bit_sum {n m : Nat} (hn : n ≤ 7) (hm : m < 2 ^ n) : sumL ((List.range n).map (bitI m)) = ((memb m).length : Int) := by
  have h := List.all_eq_true.1 bit_sums n (List.mem_range.2 (by omega))
  exact of_decide_eq_true (List.all_eq_true.1 h m (List.mem_range.2 hm))
theorem cost_sum {n two z : Nat} (hn : n ≤ 7) (h1 : two < 2 ^ n) (h2 : z < 2 ^ n) : sumL (valsOf n two z) = costOf n two z := by
  unfold valsOf costOf
  rw [sum_map (bitI two) (bitI z) (bitI z), bit_sum hn h1, bit_sum hn h2, List.length_range]
theorem lt_two {n x : Nat} (h : ∀ i, x.testBit i = true → i < n) : x < 2 ^ n := by
  apply Nat.lt_pow_two_of_testBit
  intro i hi
  cases h2 : x.testBit i
  · rfl
  · have := h i h2; omega
/-- The values so far, what they cost, and one more set. -/
def hStep (n : Nat) (ps : List (Int × Int)) (s : List Int × Int) (z : Nat) : List Int × Int :=
  if twoOf ps z &&& z = 0 then
    (if s.1 = [] ∨ costOf n (twoOf ps z) z < s.2 ∨ costOf n (twoOf ps z) z = s.2 ∧ lexLt (valsOf n (twoOf ps z) z) s.1 = true then (valsOf n (twoOf ps z) z, costOf n (twoOf ps z) z) else s)
  else s
def halvesV (n : Nat) (ps : List (Int × Int)) : List Int := ((List.range (2 ^ n)).foldl (hStep n ps) ([], 0)).1

/-! ### the cheapest, and the first of these -/
def hG (s : List Int × Int) (c : List Int) : List Int × Int := if s.1 = [] ∨ sumL c < s.2 ∨ sumL c = s.2 ∧ lexLt c s.1 = true then (c, sumL c) else s
theorem hG_inv : ∀ Y : List (List Int), (∀ y ∈ Y, y ≠ []) → Y ≠ [] → (Y.foldl hG ([], 0)).1 ∈ Y ∧ (Y.foldl hG ([], 0)).2 = sumL (Y.foldl hG ([], 0)).1 ∧
    ∀ y ∈ Y, sumL (Y.foldl hG ([], 0)).1 ≤ sumL y ∧ (sumL y = sumL (Y.foldl hG ([], 0)).1 → lexLt y (Y.foldl hG ([], 0)).1 = false) := by
  apply rev_ind
  · simp
  · intro Z a ih hne _
    rw [List.foldl_append, List.foldl_cons, List.foldl_nil]
    have hZ : ∀ y ∈ Z, y ≠ [] := fun y hy => hne y (by simp [hy])
    have ha : a ≠ [] := hne a (by simp)
    by_cases hz : Z = []
    · subst hz
      have e : hG ([], 0) a = (a, sumL a) := by simp [hG]
      simp only [List.foldl_nil, e, List.nil_append]
      refine ⟨by simp, trivial, ?_⟩
      intro y hy; simp at hy; subst hy; exact ⟨Int.le_refl _, fun _ => lex_irrefl _⟩
    · obtain ⟨h1, h2, h3⟩ := ih hZ hz
      generalize Z.foldl hG ([], 0) = W at *
      obtain ⟨x, k⟩ := W
      simp only at h1 h2 h3
      subst h2
      have hx := hZ x h1
      by_cases p : sumL a < sumL x ∨ sumL a = sumL x ∧ lexLt a x = true
      · have e : hG (x, sumL x) a = (a, sumL a) := by unfold hG; rw [if_pos (.inr p)]
        rw [e]; simp only
        refine ⟨by simp, trivial, ?_⟩
        intro y hy
        rcases List.mem_append.1 hy with hy | hy
        · obtain ⟨g1, g2⟩ := h3 y hy
          rcases p with p | ⟨p, p2⟩
          · exact ⟨by omega, fun h => by omega⟩
          · refine ⟨by omega, fun h => lex_le (lex_asymm p2) (g2 (by omega))⟩
        · simp at hy; subst hy; exact ⟨Int.le_refl _, fun _ => lex_irrefl _⟩
      · have e : hG (x, sumL x) a = (x, sumL x) := by unfold hG; rw [if_neg (by simp only [hx, false_or]; exact p)]
        rw [e]; simp only
        refine ⟨by simp [h1], trivial, ?_⟩
        intro y hy
        rcases List.mem_append.1 hy with hy | hy
        · exact h3 y hy
        · simp at hy; subst hy
          rw [not_or] at p
          refine ⟨by omega, fun h => ?_⟩
          have := p.2
          cases q : lexLt y x
          · rfl
          · exact absurd ⟨h, q⟩ this

theorem allL1_mem : ∀ (v : List Int), (∀ x ∈ v, 0 ≤ x ∧ x ≤ 2) → v ∈ allL 1 v.length
  | [], _ => by simp [allL]
  | a :: r, h => by
    have ih := allL1_mem r (fun x hx => h x (by simp [hx]))
    have ha := h a (by simp)
    simp only [List.length_cons, allL, List.mem_flatMap, List.mem_map]
    refine ⟨a.toNat, ?_, r, ih, by rw [Int.toNat_of_nonneg ha.1]⟩
    have : a = 0 ∨ a = 1 ∨ a = 2 := by omega
    rcases this with rfl | rfl | rfl <;> decide
theorem list_range (v : List Int) (n : Nat) (h : v.length = n) : v = (List.range n).map (fun a => v.getD a 0) := by
  apply List.ext_getElem
  · simp [h]
  · intro i h1 h2
    simp [List.getD_eq_getElem?_getD, List.getElem?_eq_getElem h1]
theorem sum_le {f g : Nat → Int} : ∀ l : List Nat, (∀ a ∈ l, f a ≤ g a) → sumL (l.map f) ≤ sumL (l.map g) ∧ (sumL (l.map f) = sumL (l.map g) → l.map f = l.map g)
  | [], _ => by simp
  | a :: r, h => by
    obtain ⟨h1, h2⟩ := sum_le (f := f) (g := g) r (fun x hx => h x (by simp [hx]))
    have ha := h a (by simp)
    simp only [List.map_cons, sumL]
    refine ⟨by omega, fun h3 => ?_⟩
    rw [h2 (by omega), show f a = g a by omega]

/-- The articles that have 0. -/
def zerosOf (v : List Int) : Nat := setOf (withL 0 v 0) 0
theorem zeros_bit (v : List Int) (u : Nat) : (zerosOf v).testBit u = true ↔ v[u]? = some 0 := by
  unfold zerosOf
  rw [setOf_testBit _ _ _ (fun x hx => by obtain ⟨k, _, h⟩ := (mem_withL _ _ _ _).1 hx; omega), Nat.zero_testBit, mem_withL]
  simp only [Bool.false_eq_true, false_or]
  constructor
  · rintro ⟨k, h1, h2⟩
    have : k = u := by omega
    subst this; exact h1
  · intro h; exact ⟨u, h, by simp⟩

section
variable {n : Nat} {ps : List (Int × Int)} (hn1 : 1 ≤ n) (hn : n ≤ 7) (hps : ∀ p ∈ ps, 0 ≤ p.1 ∧ p.1 < p.2 ∧ p.2 < (n : Int)) (h7 : ∀ p ∈ ps, okP p)
include hps
theorem nb_lt {u v : Nat} (h : nb ps u v) : u < n ∧ v < n ∧ u ≠ v := by
  rcases h with h | h
  · have := hps _ h; simp only at this; omega
  · have := hps _ h; simp only at this; omega
/-- Values are enough just if those of two articles that contradict each other are. -/
theorem half_nb (v : List Int) : halfOk ps v = true ↔ ∀ a b : Nat, nb ps a b → 2 ≤ v.getD a 0 + v.getD b 0 := by
  unfold halfOk
  rw [List.all_eq_true]
  constructor
  · intro h a b hab
    rcases hab with hab | hab
    · have := h _ hab; simpa [enough] using this
    · have := h _ hab
      simp only [enough, Int.toNat_natCast, decide_eq_true_iff] at this
      omega
  · intro h p hp
    have := hps p hp
    obtain ⟨u, v⟩ := p
    simp only at this
    obtain ⟨u, rfl⟩ := Int.eq_ofNat_of_zero_le this.1
    obtain ⟨v, rfl⟩ := Int.eq_ofNat_of_zero_le (show 0 ≤ v by omega)
    simp only [enough, Int.toNat_natCast, decide_eq_true_iff]
    exact h u v (.inl hp)
include hn h7
theorem two_lt {z : Nat} (hz : z < 2 ^ n) : twoOf ps z < 2 ^ n := by
  have h128 : z < 128 := Nat.lt_of_lt_of_le hz (Nat.le_trans (Nat.pow_le_pow_right (by omega) hn) (by decide))
  apply lt_two
  intro i hi
  obtain ⟨u, _, h⟩ := (two_bit h7 z i h128).1 hi
  exact (nb_lt hps h).2.1
theorem indep_iff {z : Nat} (hz : z < 2 ^ n) : twoOf ps z &&& z = 0 ↔ ∀ a b, nb ps a b → ¬(z.testBit a = true ∧ z.testBit b = true) := by
  have h128 : z < 128 := Nat.lt_of_lt_of_le hz (Nat.le_trans (Nat.pow_le_pow_right (by omega) hn) (by decide))
  constructor
  · rintro h a b hab ⟨h1, h2⟩
    have h3 := (two_bit h7 z b h128).2 ⟨a, h1, hab⟩
    have h4 : (twoOf ps z &&& z).testBit b = true := by rw [Nat.testBit_and, h3, h2]; rfl
    rw [h, Nat.zero_testBit] at h4; simp at h4
  · intro h
    apply Nat.eq_of_testBit_eq
    intro b
    rw [Nat.zero_testBit, Nat.testBit_and, Bool.and_eq_false_iff]
    cases h1 : (twoOf ps z).testBit b
    · exact .inl rfl
    · right
      obtain ⟨u, h2, h3⟩ := (two_bit h7 z b h128).1 h1
      have := h u b h3
      cases h4 : z.testBit b
      · rfl
      · exact absurd ⟨h2, h4⟩ this
theorem vals_getD (two z : Nat) {a : Nat} (ha : a < n) : (valsOf n two z).getD a 0 = 1 + bitI two a - bitI z a := by
  unfold valsOf
  rw [List.getD_eq_getElem?_getD, List.getElem?_map, List.getElem?_range ha]; rfl
theorem vals_ok {z : Nat} (hz : z < 2 ^ n) (hi : twoOf ps z &&& z = 0) : halfOk ps (valsOf n (twoOf ps z) z) = true ∧ valsOf n (twoOf ps z) z ∈ allL 1 n := by
  have h128 : z < 128 := Nat.lt_of_lt_of_le hz (Nat.le_trans (Nat.pow_le_pow_right (by omega) hn) (by decide))
  have hi2 := (indep_iff hn hps h7 hz).1 hi
  have hdis : ∀ a, ¬((twoOf ps z).testBit a = true ∧ z.testBit a = true) := by
    rintro a ⟨h1, h2⟩
    obtain ⟨u, h3, h4⟩ := (two_bit h7 z a h128).1 h1
    exact hi2 u a h4 ⟨h3, h2⟩
  refine ⟨?_, ?_⟩
  · rw [half_nb hps]
    intro a b hab
    have hl := nb_lt hps hab
    rw [vals_getD hn hps h7 _ _ hl.1, vals_getD hn hps h7 _ _ hl.2.1]
    simp only [bitI_eq]
    have t1 : z.testBit a = true → (twoOf ps z).testBit b = true := fun h => (two_bit h7 z b h128).2 ⟨a, h, hab⟩
    have t2 : z.testBit b = true → (twoOf ps z).testBit a = true := fun h => (two_bit h7 z a h128).2 ⟨b, h, nb_symm hab⟩
    have t3 := hi2 a b hab
    cases h1 : z.testBit a <;> cases h2 : z.testBit b <;> simp only [h1, h2, true_implies, Bool.false_eq_true, false_implies, and_self, not_true_eq_false] at t1 t2 t3
    · simp; split <;> split <;> omega
    · simp [t2]; split <;> omega
    · simp [t1]; split <;> omega
  · have hm := allL1_mem (valsOf n (twoOf ps z) z) (by
      intro x hx
      unfold valsOf at hx
      rw [List.mem_map] at hx
      obtain ⟨a, _, rfl⟩ := hx
      simp only [bitI_eq]
      split <;> split <;> omega)
    have hl : (valsOf n (twoOf ps z) z).length = n := by simp [valsOf]
    rwa [hl] at hm
/-- Values that are enough cost at least what those by their zeros cost; if as much they are these. -/
theorem vals_least {v : List Int} (hv : v ∈ allL 1 n) (hok : halfOk ps v = true) :
    zerosOf v < 2 ^ n ∧ twoOf ps (zerosOf v) &&& zerosOf v = 0 ∧ sumL (valsOf n (twoOf ps (zerosOf v)) (zerosOf v)) ≤ sumL v ∧ (sumL (valsOf n (twoOf ps (zerosOf v)) (zerosOf v)) = sumL v → valsOf n (twoOf ps (zerosOf v)) (zerosOf v) = v) := by
  obtain ⟨hl, hb⟩ := allL_in n v hv
  have hz : zerosOf v < 2 ^ n := by
    apply lt_two; intro i hi
    have h1 := (zeros_bit v i).1 hi
    have := (List.getElem?_eq_some_iff.1 h1).1
    omega
  have h128 : zerosOf v < 128 := Nat.lt_of_lt_of_le hz (Nat.le_trans (Nat.pow_le_pow_right (by omega) hn) (by decide))
  have hok2 := (half_nb hps v).1 hok
  have hgd : ∀ a, (zerosOf v).testBit a = true → v.getD a 0 = 0 := by
    intro a ha
    rw [List.getD_eq_getElem?_getD, (zeros_bit v a).1 ha]; rfl
  have hi : twoOf ps (zerosOf v) &&& zerosOf v = 0 := by
    rw [indep_iff hn hps h7 hz]
    rintro a b hab ⟨h1, h2⟩
    have := hok2 a b hab
    rw [hgd a h1, hgd b h2] at this
    omega
  have hle := sum_le (f := fun a => 1 + bitI (twoOf ps (zerosOf v)) a - bitI (zerosOf v) a) (g := fun a => v.getD a 0) (List.range n) (by
    intro a ha
    rw [List.mem_range] at ha
    simp only [bitI_eq]
    have hba : 0 ≤ v.getD a 0 := by
      rw [List.getD_eq_getElem?_getD, List.getElem?_eq_getElem (show a < v.length by omega)]; exact (hb _ (List.getElem_mem _)).1
    have hnz : (zerosOf v).testBit a = false → 1 ≤ v.getD a 0 := by
      intro h
      have h2 : ¬ v[a]? = some 0 := by rw [← zeros_bit, h]; simp
      rw [List.getElem?_eq_getElem (show a < v.length by omega)] at h2
      rw [List.getD_eq_getElem?_getD, List.getElem?_eq_getElem (show a < v.length by omega)] at hba ⊢
      simp at h2 hba ⊢
      omega
    have h2two : (twoOf ps (zerosOf v)).testBit a = true → 2 ≤ v.getD a 0 := by
      intro h
      obtain ⟨u, h3, h4⟩ := (two_bit h7 _ a h128).1 h
      have := hok2 u a h4
      rw [hgd u h3] at this; omega
    generalize v.getD a 0 = w at *
    cases h1 : (zerosOf v).testBit a
    · have := hnz h1
      cases h2 : (twoOf ps (zerosOf v)).testBit a
      · simp; omega
      · have := h2two h2; simp; omega
    · cases h2 : (twoOf ps (zerosOf v)).testBit a
      · simp; omega
      · have := h2two h2; simp; omega)
  refine ⟨hz, hi, ?_, ?_⟩
  · have := hle.1
    rwa [← list_range v n hl] at this
  · intro h
    have e := hle.2 (by rw [← list_range v n hl]; exact h)
    rw [← list_range v n hl] at e
    exact e
include hn1
theorem halves_spec : halvesV n ps ∈ cheap n 1 ps ∧ ∀ c ∈ cheap n 1 ps, lexLt c (halvesV n ps) = false := by
  have hfold : ∀ (l : List Nat) (s : List Int × Int), (∀ z ∈ l, z < 2 ^ n) → l.foldl (hStep n ps) s = ((l.filter fun z => decide (twoOf ps z &&& z = 0)).map fun z => valsOf n (twoOf ps z) z).foldl hG s := by
    intro l
    induction l with
    | nil => intro s _; rfl
    | cons z r ih =>
      intro s h
      rw [List.foldl_cons, ih _ (fun y hy => h y (by simp [hy]))]
      have hz := h z (by simp)
      by_cases p : twoOf ps z &&& z = 0
      · rw [List.filter_cons, if_pos (by simp [p]), List.map_cons, List.foldl_cons]
        congr 1
        unfold hStep hG
        rw [if_pos p, cost_sum hn (two_lt hn hps h7 hz) hz]
      · rw [List.filter_cons, if_neg (by simp [p])]
        congr 1
        unfold hStep
        rw [if_neg p]
  unfold halvesV
  rw [hfold _ _ (fun z hz => List.mem_range.1 hz)]
  generalize hY : ((List.range (2 ^ n)).filter fun z => decide (twoOf ps z &&& z = 0)).map (fun z => valsOf n (twoOf ps z) z) = Y
  have hmem : ∀ y, y ∈ Y ↔ ∃ z, z < 2 ^ n ∧ twoOf ps z &&& z = 0 ∧ valsOf n (twoOf ps z) z = y := by
    intro y; rw [← hY]; simp [and_assoc]
  have hok : ∀ y ∈ Y, halfOk ps y = true ∧ y ∈ allL 1 n := by
    intro y hy
    obtain ⟨z, h1, h2, rfl⟩ := (hmem y).1 hy
    exact vals_ok hn hps h7 h1 h2
  have hne : ∀ y ∈ Y, y ≠ [] := by
    intro y hy h
    have := (allL_in n y (hok y hy).2).1
    rw [h] at this; simp at this; omega
  have hY0 : Y ≠ [] := by
    have h0 := (half_ne (n := n) 1 hps)
    obtain ⟨v, hv⟩ := List.exists_mem_of_ne_nil _ h0
    rw [List.mem_filter] at hv
    obtain ⟨g1, g2, _⟩ := vals_least hn hps h7 hv.1 hv.2
    exact List.ne_nil_of_mem ((hmem _).2 ⟨_, g1, g2, rfl⟩)
  obtain ⟨k1, _, k3⟩ := hG_inv Y hne hY0
  generalize (Y.foldl hG ([], 0)).1 = r at *
  have hr := hok r k1
  refine ⟨?_, ?_⟩
  · rw [cheap_mem]
    refine ⟨⟨hr.2, hr.1⟩, fun y hy1 hy2 => ?_⟩
    obtain ⟨g1, g2, g3, _⟩ := vals_least hn hps h7 hy1 hy2
    have := (k3 _ ((hmem _).2 ⟨_, g1, g2, rfl⟩)).1
    omega
  · intro c hc
    obtain ⟨⟨c1, c2⟩, c3⟩ := cheap_mem.1 hc
    obtain ⟨g1, g2, g3, g4⟩ := vals_least hn hps h7 c1 c2
    have hin := (hmem _).2 ⟨_, g1, g2, rfl⟩
    have k := k3 _ hin
    have c4 := c3 r hr.2 hr.1
    have e := g4 (by omega)
    rw [e] at k
    exact k.2 (by omega)
end

attribute [local go_sem high] and_one shr_u shl_one or_u

/-! ### arrays of sets -/
theorem okRefsU (n : Nat) (xs : List Nat) : okRefs n (xs.map U) = true := okRefs_map U n (fun _ => rfl) xs
theorem renCellsU (n : Nat) (tips : List Nat) (acc : List (Nat × Nat)) (xs : List Nat) : renCells n tips acc (xs.map U) = (xs.map U, acc) := renCells_map U n tips (fun _ _ => rfl) xs acc
theorem getU (o : List Nat) (a : Nat) (h : a < o.length) : (o.map U)[a]? = some (U (o.getD a 0)) := by
  rw [getm U o 0 a, if_pos h]
theorem frzV_v (l : Nat) (cs : List AV) (x : Value) : frzV l cs (.v x) = .v x := by simp only [frzV]
theorem frzV_ptr (l : Nat) (cs : List AV) (i o : Nat) : frzV l cs (.ptr i o) = .ptr i o := by simp only [frzV]
theorem frzV_any (l : Nat) (cs : List AV) : frzV l cs .any = .any := by simp only [frzV]
theorem frzVs_kind (l : Nat) (cs : List AV) {β : Type} (f : β → Value) (xs : List β) : frzVs l cs (xs.map fun b => .v (f b)) = xs.map fun b => .v (f b) := by
  induction xs with
  | nil => rfl
  | cons x r ih => simp only [List.map_cons, frzVs, frzV, ih]
theorem frzVs_U (l : Nat) (cs : List AV) (xs : List Nat) : frzVs l cs (xs.map U) = xs.map U := frzVs_kind l cs (fun (n : Nat) => Value.int .u64 (n : Int)) xs
theorem frzV_sl (l : Nat) (cs : List AV) (z : Nat) (nl : Bool) (xs : List AV) : frzV l cs (sl z nl xs) = sl z nl xs := by
  cases xs with
  | nil => cases nl <;> rfl
  | cons x r => rw [sl_ne (by simp)]; simp only [frzV]
theorem refsV_sl (n : Nat) (acc : List Nat) (z : Nat) (nl : Bool) (xs : List AV) : refsV n acc (sl z nl xs) = acc := by
  cases xs with
  | nil => cases nl <;> rfl
  | cons x r => rw [sl_ne (by simp)]; simp only [refsV]
theorem mapL_sl (n : Nat) (M : List Nat) (z : Nat) (nl : Bool) (xs : List AV) : mapL n M (sl z nl xs) = sl z nl xs := by
  cases xs with
  | nil => cases nl <;> rfl
  | cons x r => rw [sl_ne (by simp)]; simp only [mapL]
theorem refsL_kind (n : Nat) {β : Type} (f : β → Value) : ∀ (xs : List β) (acc : List Nat), refsL n acc (xs.map fun b => .v (f b)) = acc
  | [], acc => rfl
  | x :: r, acc => by simp only [List.map_cons, refsL, refsV, refsL_kind n f r]
theorem mapLs_kind (n : Nat) (M : List Nat) {β : Type} (f : β → Value) : ∀ (xs : List β), mapLs n M (xs.map fun b => .v (f b)) = xs.map fun b => .v (f b)
  | [] => rfl
  | x :: r => by simp only [List.map_cons, mapLs, mapL, mapLs_kind n M f r]
theorem refsL_U (n : Nat) (xs : List Nat) (acc : List Nat) : refsL n acc (xs.map U) = acc := refsL_kind n (fun (n : Nat) => Value.int .u64 (n : Int)) xs acc
theorem mapLs_U (n : Nat) (M : List Nat) (xs : List Nat) : mapLs n M (xs.map U) = xs.map U := mapLs_kind n M (fun (n : Nat) => Value.int .u64 (n : Int)) xs
theorem len_seven {α : Type} {l : List α} (h : l.length = 7) : ∃ a b c d e f g, l = [a, b, c, d, e, f, g] := by
  match l, h with
  | [a, b, c, d, e, f, g], _ => exact ⟨a, b, c, d, e, f, g, rfl⟩
theorem sh1_lt (b : Nat) (h : b < 7) : sh1 b = 2 ^ b ∧ 2 ^ b < 128 := ⟨sh1_eq b (by omega), Nat.pow_lt_pow_right (by omega) (show b < 7 from h)⟩
theorem small_getD {o : List Nat} (h : ∀ x ∈ o, x < 128) (a : Nat) : o.getD a 0 < 128 := by
  rw [List.getD_eq_getElem?_getD]
  cases h2 : o[a]?
  · simp
  · exact h _ (List.mem_of_getElem? h2)
theorem orAt_small {o : List Nat} (h : ∀ x ∈ o, x < 128) {a b : Nat} (hb : b < 7) : ∀ x ∈ orAt o a b, x < 128 := by
  intro x hx
  unfold orAt at hx
  rcases List.mem_or_eq_of_mem_set hx with hx | rfl
  · exact h x hx
  · exact Nat.or_lt_two_pow (n := 7) (small_getD h a) (sh1_lt b hb).2

def z7 : List AV := [U 0, U 0, U 0, U 0, U 0, U 0, U 0]

theorem loop89 (nl : Bool) (n : Int) (ps : List (Int × Int)) (hlen : ps.length < 1000000) (h7 : ∀ p ∈ ps, okP p) (i : Nat) (o : List Nat) (hok : i ≤ ps.length ∧ o.length = 7 ∧ ∀ x ∈ o, x < 128) (env : Env) (st : St)
    (hg : gcAV true 3 0 (canon env [2, 3, 7, 8, 9]) st = ([(2, .ptr 1 0), (3, .ptr 2 0), (7, sl 2 nl (ps.map prAV)), (8, I ps.length), (9, I i)], ⟨[bkCells nl n ps, z7, o.map U], []⟩)) :
    ∃ x_1 en s, lim (headed pure (run L) true [2, 3, 7, 8, 9] lp89_0 3 0) env st = some (x_1, en, s) ∧ (x_1 = .exit 0 ∧ en.get 2 = .ptr 1 0 ∧ en.get 3 = .ptr 2 0 ∧ s = ⟨[bkCells nl n ps, z7, ((ps.drop i).foldl adv1 o).map U], []⟩ ∧ ((ps.drop i).foldl adv1 o).length = 7) := by
  refine loop_wp (α := Nat × List Nat) (fun ⟨i, o⟩ => ps.length - i) (fun ⟨i, o⟩ => i ≤ ps.length ∧ o.length = 7 ∧ ∀ x ∈ o, x < 128) (fun ⟨i, o⟩ => ([(2, .ptr 1 0), (3, .ptr 2 0), (7, sl 2 nl (ps.map prAV)), (8, I ps.length), (9, I i)], ⟨[bkCells nl n ps, z7, o.map U], []⟩)) (fun ⟨i, o⟩ x_1 en s => x_1 = .exit 0 ∧ en.get 2 = .ptr 1 0 ∧ en.get 3 = .ptr 2 0 ∧ s = ⟨[bkCells nl n ps, z7, ((ps.drop i).foldl adv1 o).map U], []⟩ ∧ ((ps.drop i).foldl adv1 o).length = 7) (fun ⟨i, o⟩ hok => ?_) ⟨i, o⟩ hok env st hg
  simp only at hok
  obtain ⟨h1, h2, h3⟩ := hok
  dsimp only
  by_cases h : i < ps.length
  · have hx := index_prs nl ps i h
    have hs := succ64 i (by omega)
    have hd : ps.drop i = ps[i] :: ps.drop (i + 1) := List.drop_eq_getElem_cons h
    have hp := h7 ps[i] (List.getElem_mem h)
    rw [hd, List.foldl_cons]
    generalize ps[i] = c at *
    obtain ⟨u, v⟩ := c
    obtain ⟨a1, a2, a3, a4⟩ := hp
    simp only at a1 a2 a3 a4 hx
    obtain ⟨u, rfl⟩ := Int.eq_ofNat_of_zero_le a1
    obtain ⟨v, rfl⟩ := Int.eq_ofNat_of_zero_le a3
    have hlt : ((i : Int) < (ps.length : Int)) = True := eq_true (by omega)
    have hu : u < 7 := by omega
    have hv : v < 7 := by omega
    have e1 : orU (o.getD u 0) (sh1 v) = o.getD u 0 ||| 2 ^ v := by rw [(sh1_lt v hv).1, orU_eq _ _ (small_getD h3 u) (sh1_lt v hv).2]
    have hs1 := orAt_small h3 (a := u) hv
    have hl1 := orAt_len o u v
    have e2 : orU ((orAt o u v).getD v 0) (sh1 u) = (orAt o u v).getD v 0 ||| 2 ^ u := by rw [(sh1_lt u hu).1, orU_eq _ _ (small_getD hs1 v) (sh1_lt u hu).2]
    have hs2 := orAt_small hs1 (a := v) hu
    have hl2 := orAt_len (orAt o u v) v u
    have g1 := getU o u (by omega)
    have g2 := getU (orAt o u v) v (by omega)
    have hset1 : o.set u (o.getD u 0 ||| 2 ^ v) = orAt o u v := rfl
    have hset2 : (orAt o u v).set v ((orAt o u v).getD v 0 ||| 2 ^ u) = adv1 o ((u : Int), (v : Int)) := rfl
    have hadv : adv1 o ((u : Int), (v : Int)) = orAt (orAt o u v) v u := rfl
    have b1 : ((0 : Int) ≤ (u : Int)) = True := eq_true (by omega)
    have b2 : ((u : Int) < 7) = True := eq_true (by omega)
    have b3 : ((0 : Int) ≤ (v : Int)) = True := eq_true (by omega)
    have b4 : ((v : Int) < 7) = True := eq_true (by omega)
    have b5 : (u + 1 ≤ 7) = True := eq_true (by omega)
    have b6 : (v + 1 ≤ 7) = True := eq_true (by omega)
    rw [h2] at hl1
    rw [hl1] at hl2
    rw [← hadv] at hs2 hl2
    generalize adv1 o ((u : Int), (v : Int)) = o2 at *
    simp only [go_sem, reduceIte, Nat.reduceEqDiff, Nat.reduceAdd, Nat.reduceSub, Nat.reduceLeDiff, Nat.reduceLT, reduceCtorEq, Int.reduceLT, Int.reduceLE, Int.reduceEq, Int.reduceBEq, Int.reduceSub, Int.reduceAdd, Int.reduceMul, Int.reduceNeg, Int.reduceToNat, Nat.reduceMul, Nat.reduceBEq, index_rsl_if, setm, make_ints, condK_dec, wantK_dec, not_dec, and_dec, or_dec, seqK_ite, seqK_none, blockK_ite, blockK_none, opsK_ite, opsK_none, stepK_ite, stepK_none, bodyK_ite, bodyK_none, resK_ite, resK_none, leaveK_ite, leaveK_none, only_ite, only_none, bind_ite, gives_some, gives_none, gives_ite, then_normal, then_ret, then_exit, then_none, then_ite, Option.bind_none, Bool.not_eq_true', decide_eq_false_iff_not, Bool.and_eq_true, Bool.or_eq_true, Option.some.injEq, Int.not_lt, Int.not_le, lp89_0, hx, hlt, hs, b1, b2, b3, b4, b5, b6, g1, g2, e1, e2, hset1, hset2, h2, hl1, hl2, List.length_map]
    refine ⟨(i + 1, o2), by simp only [go_sem, reduceIte, Nat.reduceEqDiff, Nat.reduceAdd, Nat.reduceSub, Nat.reduceLeDiff, Nat.reduceLT, reduceCtorEq, Int.reduceLT, Int.reduceLE, Int.reduceEq, Int.reduceBEq, Int.reduceSub, Int.reduceAdd, Int.reduceMul, Int.reduceNeg, Int.reduceToNat, Nat.reduceMul, Nat.reduceBEq, ren1_locm, loc_tips, locT_eq, okRefsU, renCellsU, z7] <;> rfl, ?_, ?_, fun x en s hq => ?_⟩
    · dsimp only; exact ⟨by omega, hl2, hs2⟩
    · simp only; omega
    · exact hq
  · have hd : ps.drop i = [] := List.drop_eq_nil_of_le (by omega)
    have hlt : ((i : Int) < (ps.length : Int)) = False := eq_false (by omega)
    simp only [go_sem, reduceIte, Nat.reduceEqDiff, Nat.reduceAdd, Nat.reduceSub, Nat.reduceLeDiff, Nat.reduceLT, reduceCtorEq, Int.reduceLT, Int.reduceLE, Int.reduceEq, Int.reduceBEq, Int.reduceSub, Int.reduceAdd, Int.reduceMul, Int.reduceNeg, Int.reduceToNat, Nat.reduceMul, Nat.reduceBEq, index_rsl_if, setm, make_ints, condK_dec, wantK_dec, not_dec, and_dec, or_dec, seqK_ite, seqK_none, blockK_ite, blockK_none, opsK_ite, opsK_none, stepK_ite, stepK_none, bodyK_ite, bodyK_none, resK_ite, resK_none, leaveK_ite, leaveK_none, only_ite, only_none, bind_ite, gives_some, gives_none, gives_ite, then_normal, then_ret, then_exit, then_none, then_ite, Option.bind_none, Bool.not_eq_true', decide_eq_false_iff_not, Bool.and_eq_true, Bool.or_eq_true, Option.some.injEq, Int.not_lt, Int.not_le, lp89_0, hlt, List.length_map]
    rw [hd]; exact ⟨rfl, h2⟩

theorem c89 (nl : Bool) (n : Int) (ps : List (Int × Int)) (hlen : ps.length < 1000000) (h7 : ∀ p ∈ ps, okP p) (st : St) :
    run L 89 [bkAV nl n ps] st = some (.agg ((advL ps).map U), st) := by
  rw [run_pure (fn := ir89) rfl rfl]
  simp only [ir89, go_sem, reduceIte, Nat.reduceEqDiff, Nat.reduceAdd, Nat.reduceSub, Nat.reduceLeDiff, Nat.reduceLT, reduceCtorEq, Int.reduceLT, Int.reduceLE, Int.reduceEq, Int.reduceBEq, Int.reduceSub, Int.reduceAdd, Int.reduceMul, Int.reduceNeg, Int.reduceToNat, Nat.reduceMul, Nat.reduceBEq, List.length_map]
  generalize hg : lim (headed pure (run L) true _ lp89_0 _ _) _ _ = o
  obtain ⟨x, en, s, rfl, h2⟩ : ∃ x en s, o = some (x, en, s) ∧ _ := by rw [← hg]; exact loop89 nl n ps hlen h7 0 (List.replicate 7 0) ⟨by omega, by simp, by simp⟩ _ _ (by simp only [go_sem, reduceIte, Nat.reduceEqDiff, Nat.reduceAdd, Nat.reduceSub, Nat.reduceLeDiff, Nat.reduceLT, reduceCtorEq, Int.reduceLT, Int.reduceLE, Int.reduceEq, Int.reduceBEq, Int.reduceSub, Int.reduceAdd, Int.reduceMul, Int.reduceNeg, Int.reduceToNat, Nat.reduceMul, Nat.reduceBEq, z7, List.map_replicate] <;> rfl)
  clear hg
  obtain ⟨rfl, h3, h4, rfl, h5⟩ := h2
  rw [List.drop_zero] at h5 ⊢
  have e : ps.foldl adv1 (List.replicate 7 0) = advL ps := rfl
  rw [e] at h5 ⊢
  obtain ⟨a, b, c, d, f, g, k, h6⟩ := len_seven h5
  rw [h6]
  simp only [go_sem, reduceIte, Nat.reduceEqDiff, Nat.reduceAdd, Nat.reduceSub, Nat.reduceLeDiff, Nat.reduceLT, reduceCtorEq, Int.reduceLT, Int.reduceLE, Int.reduceEq, Int.reduceBEq, Int.reduceSub, Int.reduceAdd, Int.reduceMul, Int.reduceNeg, Int.reduceToNat, Nat.reduceMul, Nat.reduceBEq, h3, h4, z7]

attribute [local go_sem high] and_one shr_u shl_one or_u

/-- The union of sets. -/
def unionOf (adj : List Nat) (t : Nat) (a : Int) : Nat := t ||| adj.getD a.toNat 0

theorem loop81_0 (nl : Bool) (n : Nat) (ps : List (Int × Int)) (adj : List Nat) (hadj : adj.length = 7) (hsm : ∀ x ∈ adj, x < 128) (z N : Nat) (best : List Int) (least : Int) (l : List Int) (hlen : l.length < 1000) (hl : ∀ a ∈ l, 0 ≤ a ∧ a < 7) (i : Nat) (t : Nat) (hok : i ≤ l.length ∧ t < 128) (env : Env) (st : St)
    (hg : gcAV true 2 0 (canon env [1, 3, 4, 5, 6, 7, 17, 18, 22, 23, 24]) st = ([(1, .ptr 0 0), (3, .ptr 1 0), (4, sl 1 true (best.map I)), (5, I least), (6, U z), (7, .v (.int .u64 (t : Int))), (17, U N), (18, U z), (22, sl 1 true (l.map I)), (23, I l.length), (24, I i)], ⟨[bkCells nl n ps, adj.map U], []⟩)) :
    ∃ x_1 en s, lim (headed pure (run L) true [1, 3, 4, 5, 6, 7, 17, 18, 22, 23, 24] lp81_0 2 0) env st = some (x_1, en, s) ∧ (x_1 = .exit 2 ∧ en.get 1 = .ptr 0 0 ∧ en.get 3 = .ptr 1 0 ∧ en.get 4 = sl 1 true (best.map I) ∧ en.get 5 = I least ∧ en.get 6 = U z ∧ en.get 7 = U ((l.drop i).foldl (unionOf adj) t) ∧ en.get 17 = U N ∧ en.get 18 = U z ∧ en.get 3000000 = .any ∧ s = ⟨[bkCells nl n ps, adj.map U], []⟩) := by
  refine loop_wp (α := Nat × Nat) (fun ⟨i, t⟩ => l.length - i) (fun ⟨i, t⟩ => i ≤ l.length ∧ t < 128) (fun ⟨i, t⟩ => ([(1, .ptr 0 0), (3, .ptr 1 0), (4, sl 1 true (best.map I)), (5, I least), (6, U z), (7, .v (.int .u64 (t : Int))), (17, U N), (18, U z), (22, sl 1 true (l.map I)), (23, I l.length), (24, I i)], ⟨[bkCells nl n ps, adj.map U], []⟩)) (fun ⟨i, t⟩ x_1 en s => x_1 = .exit 2 ∧ en.get 1 = .ptr 0 0 ∧ en.get 3 = .ptr 1 0 ∧ en.get 4 = sl 1 true (best.map I) ∧ en.get 5 = I least ∧ en.get 6 = U z ∧ en.get 7 = U ((l.drop i).foldl (unionOf adj) t) ∧ en.get 17 = U N ∧ en.get 18 = U z ∧ en.get 3000000 = .any ∧ s = ⟨[bkCells nl n ps, adj.map U], []⟩) (fun ⟨i, t⟩ hok => ?_) ⟨i, t⟩ hok env st hg
  simp only at hok
  obtain ⟨h1, h2⟩ := hok
  dsimp only
  by_cases h : i < l.length
  · have hx := index_ints true l i h
    have hs := succ64 i (by omega)
    have hd : l.drop i = l[i] :: l.drop (i + 1) := List.drop_eq_getElem_cons h
    have hlt : ((i : Int) < (l.length : Int)) = True := eq_true (by omega)
    have ha := hl l[i] (List.getElem_mem h)
    rw [hd, List.foldl_cons]
    generalize l[i] = a at *
    obtain ⟨a, rfl⟩ := Int.eq_ofNat_of_zero_le ha.1
    have g1 := getU adj a (by omega)
    have b1 : ((0 : Int) ≤ (a : Int)) = True := eq_true ha.1
    have b2 : ((a : Int) < 7) = True := eq_true ha.2
    have e1 := orU_eq t (adj.getD a 0) h2 (small_getD hsm a)
    have e2 : unionOf adj t (a : Int) = t ||| adj.getD a 0 := rfl
    have e3 : t ||| adj.getD a 0 < 128 := Nat.or_lt_two_pow (n := 7) h2 (small_getD hsm a)
    rw [e2]
    generalize adj.getD a 0 = w at *
    generalize t ||| w = t2 at *
    simp only [go_sem, reduceIte, Nat.reduceEqDiff, Nat.reduceAdd, Nat.reduceSub, Nat.reduceLeDiff, Nat.reduceLT, reduceCtorEq, Int.reduceLT, Int.reduceLE, Int.reduceEq, Int.reduceBEq, Int.reduceSub, Int.reduceAdd, Int.reduceMul, Int.reduceNeg, Int.reduceToNat, Nat.reduceMul, Nat.reduceBEq, index_rsl_if, setm, make_ints, condK_dec, wantK_dec, not_dec, and_dec, or_dec, seqK_ite, seqK_none, blockK_ite, blockK_none, opsK_ite, opsK_none, stepK_ite, stepK_none, bodyK_ite, bodyK_none, resK_ite, resK_none, leaveK_ite, leaveK_none, only_ite, only_none, bind_ite, gives_some, gives_none, gives_ite, then_normal, then_ret, then_exit, then_none, then_ite, Option.bind_none, Bool.not_eq_true', decide_eq_false_iff_not, Bool.and_eq_true, Bool.or_eq_true, Option.some.injEq, Int.not_lt, Int.not_le, lp81_0, hx, hlt, hs, g1, b1, b2, e1]
    refine ⟨(i + 1, t2), by simp only [go_sem, reduceIte, Nat.reduceEqDiff, Nat.reduceAdd, Nat.reduceSub, Nat.reduceLeDiff, Nat.reduceLT, reduceCtorEq, Int.reduceLT, Int.reduceLE, Int.reduceEq, Int.reduceBEq, Int.reduceSub, Int.reduceAdd, Int.reduceMul, Int.reduceNeg, Int.reduceToNat, Nat.reduceMul, Nat.reduceBEq, ren1_locm, loc_tips, locT_eq, okRefsU, renCellsU] <;> rfl, ?_, ?_, fun x en s hq => ?_⟩
    · dsimp only; exact ⟨by omega, e3⟩
    · simp only; omega
    · exact hq
  · have hd : l.drop i = [] := List.drop_eq_nil_of_le (by omega)
    have hlt : ((i : Int) < (l.length : Int)) = False := eq_false (by omega)
    simp only [go_sem, reduceIte, Nat.reduceEqDiff, Nat.reduceAdd, Nat.reduceSub, Nat.reduceLeDiff, Nat.reduceLT, reduceCtorEq, Int.reduceLT, Int.reduceLE, Int.reduceEq, Int.reduceBEq, Int.reduceSub, Int.reduceAdd, Int.reduceMul, Int.reduceNeg, Int.reduceToNat, Nat.reduceMul, Nat.reduceBEq, index_rsl_if, setm, make_ints, condK_dec, wantK_dec, not_dec, and_dec, or_dec, seqK_ite, seqK_none, blockK_ite, blockK_none, opsK_ite, opsK_none, stepK_ite, stepK_none, bodyK_ite, bodyK_none, resK_ite, resK_none, leaveK_ite, leaveK_none, only_ite, only_none, bind_ite, gives_some, gives_none, gives_ite, then_normal, then_ret, then_exit, then_none, then_ite, Option.bind_none, Bool.not_eq_true', decide_eq_false_iff_not, Bool.and_eq_true, Bool.or_eq_true, Option.some.injEq, Int.not_lt, Int.not_le, lp81_0, hlt]
    rw [hd]; rfl

/-- The values so far. -/
def valsTo (two z : Nat) (n k : Nat) : List Int := (List.range k).map (fun a => 1 + bitI two a - bitI z a) ++ List.replicate (n - k) 0
theorem valsTo_len (two z n k : Nat) (h : k ≤ n) : (valsTo two z n k).length = n := by simp [valsTo]; omega
theorem valsTo_zero (two z n : Nat) : valsTo two z n 0 = List.replicate n 0 := by simp [valsTo]
theorem valsTo_full (two z n : Nat) : valsTo two z n n = valsOf n two z := by simp [valsTo, valsOf]
theorem valsTo_set (two z n k : Nat) (h : k < n) : (valsTo two z n k).set k (1 + bitI two k - bitI z k) = valsTo two z n (k + 1) := by
  unfold valsTo
  obtain ⟨m, hm⟩ : ∃ m, n - k = m + 1 := ⟨n - k - 1, by omega⟩
  rw [hm, show n - (k + 1) = m by omega, List.range_succ, List.map_append, List.replicate_succ, List.set_append]
  rw [if_neg (by simp)]
  simp

theorem loop81_1 (nl : Bool) (n : Nat) (hn : n ≤ 7) (ps : List (Int × Int)) (adj : List Nat) (z two N : Nat) (best : List Int) (least cost : Int) (i : Nat) (hok : i ≤ n) (env : Env) (st : St)
    (hg : gcAV true 3 0 (canon env [1, 3, 4, 5, 6, 7, 10, 11, 17, 18, 50, 51]) st = ([(1, .ptr 0 0), (3, .ptr 1 0), (4, sl 1 true (best.map I)), (5, I least), (6, U z), (7, U two), (10, I cost), (11, .rsl 2 0 n n 1 false), (17, U N), (18, U z), (50, I n), (51, I i)], ⟨[bkCells nl n ps, adj.map U, (valsTo two z n i).map I], []⟩)) :
    ∃ x_1 en s, lim (headed pure (run L) true [1, 3, 4, 5, 6, 7, 10, 11, 17, 18, 50, 51] lp81_1 3 0) env st = some (x_1, en, s) ∧ (x_1 = .exit 4 ∧ en.get 1 = .ptr 0 0 ∧ en.get 3 = .ptr 1 0 ∧ en.get 4 = sl 1 true (best.map I) ∧ en.get 5 = I least ∧ en.get 10 = I cost ∧ en.get 11 = .rsl 2 0 n n 1 false ∧ en.get 17 = U N ∧ en.get 18 = U z ∧ en.get 3000000 = .any ∧ s = ⟨[bkCells nl n ps, adj.map U, (valsOf n two z).map I], []⟩) := by
  refine loop_wp (α := Nat) (fun i => n - i) (fun i => i ≤ n) (fun i => ([(1, .ptr 0 0), (3, .ptr 1 0), (4, sl 1 true (best.map I)), (5, I least), (6, U z), (7, U two), (10, I cost), (11, .rsl 2 0 n n 1 false), (17, U N), (18, U z), (50, I n), (51, I i)], ⟨[bkCells nl n ps, adj.map U, (valsTo two z n i).map I], []⟩)) (fun i x_1 en s => x_1 = .exit 4 ∧ en.get 1 = .ptr 0 0 ∧ en.get 3 = .ptr 1 0 ∧ en.get 4 = sl 1 true (best.map I) ∧ en.get 5 = I least ∧ en.get 10 = I cost ∧ en.get 11 = .rsl 2 0 n n 1 false ∧ en.get 17 = U N ∧ en.get 18 = U z ∧ en.get 3000000 = .any ∧ s = ⟨[bkCells nl n ps, adj.map U, (valsOf n two z).map I], []⟩) (fun i hok => ?_) i hok env st hg
  by_cases h : i < n
  · have hs := succ64 i (by omega)
    have hlt : ((i : Int) < (n : Int)) = True := eq_true (by omega)
    have hm1 := min64 i (by omega)
    have hb : ∀ m, IntKind.i64.wrap (((m >>> i) % 2 : Nat) : Int) = bitI m i := fun m => by unfold bitI; rw [wrap64] <;> omega
    have b1 : bitI two i = 0 ∨ bitI two i = 1 := by rw [bitI_eq]; split <;> simp
    have b2 : bitI z i = 0 ∨ bitI z i = 1 := by rw [bitI_eq]; split <;> simp
    have w1 : IntKind.i64.wrap (1 + bitI two i) = 1 + bitI two i := by rw [wrap64] <;> omega
    have w2 : IntKind.i64.wrap (1 + bitI two i - bitI z i) = 1 + bitI two i - bitI z i := by rw [wrap64] <;> omega
    have hset := valsTo_set two z n i h
    have hl := valsTo_len two z n i (by omega)
    have hi0 : ((0 : Int) ≤ (i : Int)) = True := eq_true (by omega)
    have hi1 : (i + 1 ≤ n) = True := eq_true (by omega)
    simp only [go_sem, reduceIte, Nat.reduceEqDiff, Nat.reduceAdd, Nat.reduceSub, Nat.reduceLeDiff, Nat.reduceLT, reduceCtorEq, Int.reduceLT, Int.reduceLE, Int.reduceEq, Int.reduceBEq, Int.reduceSub, Int.reduceAdd, Int.reduceMul, Int.reduceNeg, Int.reduceToNat, Nat.reduceMul, Nat.reduceBEq, index_rsl_if, setm, make_ints, condK_dec, wantK_dec, not_dec, and_dec, or_dec, seqK_ite, seqK_none, blockK_ite, blockK_none, opsK_ite, opsK_none, stepK_ite, stepK_none, bodyK_ite, bodyK_none, resK_ite, resK_none, leaveK_ite, leaveK_none, only_ite, only_none, bind_ite, gives_some, gives_none, gives_ite, then_normal, then_ret, then_exit, then_none, then_ite, Option.bind_none, Bool.not_eq_true', decide_eq_false_iff_not, Bool.and_eq_true, Bool.or_eq_true, Option.some.injEq, Int.not_lt, Int.not_le, lp81_1, hlt, hs, hm1, hb, w1, w2, hset, hl, hi0, hi1, List.length_map]
    refine ⟨i + 1, by simp only [go_sem, reduceIte, Nat.reduceEqDiff, Nat.reduceAdd, Nat.reduceSub, Nat.reduceLeDiff, Nat.reduceLT, reduceCtorEq, Int.reduceLT, Int.reduceLE, Int.reduceEq, Int.reduceBEq, Int.reduceSub, Int.reduceAdd, Int.reduceMul, Int.reduceNeg, Int.reduceToNat, Nat.reduceMul, Nat.reduceBEq, ren1_locm, loc_tips, locT_eq, okRefsU, renCellsU] <;> rfl, ?_, ?_, fun x en s hq => ?_⟩
    · omega
    · omega
    · exact hq
  · obtain rfl : i = n := by omega
    have hlt : ((i : Int) < (i : Int)) = False := eq_false (by omega)
    simp only [go_sem, reduceIte, Nat.reduceEqDiff, Nat.reduceAdd, Nat.reduceSub, Nat.reduceLeDiff, Nat.reduceLT, reduceCtorEq, Int.reduceLT, Int.reduceLE, Int.reduceEq, Int.reduceBEq, Int.reduceSub, Int.reduceAdd, Int.reduceMul, Int.reduceNeg, Int.reduceToNat, Nat.reduceMul, Nat.reduceBEq, index_rsl_if, setm, make_ints, condK_dec, wantK_dec, not_dec, and_dec, or_dec, seqK_ite, seqK_none, blockK_ite, blockK_none, opsK_ite, opsK_none, stepK_ite, stepK_none, bodyK_ite, bodyK_none, resK_ite, resK_none, leaveK_ite, leaveK_none, only_ite, only_none, bind_ite, gives_some, gives_none, gives_ite, then_normal, then_ret, then_exit, then_none, then_ite, Option.bind_none, Bool.not_eq_true', decide_eq_false_iff_not, Bool.and_eq_true, Bool.or_eq_true, Option.some.injEq, Int.not_lt, Int.not_le, lp81_1, hlt]
    rw [valsTo_full]


def andN (a b : Nat) : Nat := a % 2 ^ 64 &&& b % 2 ^ 64
theorem and_u (a b : Nat) : binAV .and none (.v (.int .u64 (a : Int))) (.v (.int .u64 (b : Int))) = some (.v (.int .u64 ((andN a b : Nat) : Int))) := by
  have h : (BitVec.ofInt 64 (a : Int) &&& BitVec.ofInt 64 (b : Int)).toNat = andN a b := by
    rw [BitVec.toNat_and]; simp [BitVec.ofInt_natCast, andN]
  show some (AV.v (.int .u64 (IntKind.u64.wrap ((BitVec.ofInt 64 (a : Int) &&& BitVec.ofInt 64 (b : Int)).toNat : Int)))) = _
  rw [h, wrapU]
  unfold andN
  exact Nat.lt_of_le_of_lt Nat.and_le_left (Nat.mod_lt _ (by decide))
theorem andN_eq (a b : Nat) (ha : a < 128) (hb : b < 128) : andN a b = a &&& b := by
  unfold andN; rw [Nat.mod_eq_of_lt (by omega), Nat.mod_eq_of_lt (by omega)]
attribute [local go_sem high] and_one shr_u shl_one or_u and_u

theorem frzL2 {a b cs : List AV} (hne : cs ≠ []) (r : List (List AV)) (T : List Nat) (env : Env) :
    frzL 2 env ⟨a :: b :: cs :: r, T⟩ = (frzEnv 2 cs env, ⟨frzVs 2 cs a :: frzVs 2 cs b :: [] :: frzStore 2 cs r, T⟩) := by
  cases cs with
  | nil => exact absurd rfl hne
  | cons c cs => rfl
theorem cell1_I (x : Int) : cell1 (I x) = I x := rfl
theorem frzV_made (l : Nat) (xs : List Int) (h : xs ≠ []) : frzV l (xs.map I) (.rsl l 0 xs.length xs.length 1 false) = sl 1 true (xs.map I) := by
  simp only [frzV, List.length_map, List.drop_zero]
  rw [if_pos ⟨trivial, by omega, .inr trivial, Nat.le_refl _⟩, pubs_map I (fun _ => rfl), groupm_one I cell1_I, sl_ne (by simpa using h)]

theorem memb_in (m : Nat) : ∀ a ∈ memb m, 0 ≤ a ∧ a < 7 := by
  intro a ha
  unfold memb at ha
  simp only [List.mem_map, List.mem_filter, List.mem_range] at ha
  obtain ⟨k, ⟨h1, _⟩, rfl⟩ := ha
  omega

set_option maxHeartbeats 4000000 in
theorem loop81 (nl : Bool) (n : Nat) (hn1 : 1 ≤ n) (hn : n ≤ 7) (ps : List (Int × Int)) (hps : ∀ p ∈ ps, 0 ≤ p.1 ∧ p.1 < p.2 ∧ p.2 < (n : Int)) (h7 : ∀ p ∈ ps, okP p) (hadj : (advL ps).length = 7) (hsm : ∀ x ∈ advL ps, x < 128) (z : Nat) (best : List Int) (least : Int) (hok : z ≤ 2 ^ n) (env : Env) (st : St)
    (hg : gcAV true 2 0 (canon env [1, 3, 4, 5, 17, 18, 3000000]) st = ([(1, .ptr 0 0), (3, .ptr 1 0), (4, sl 1 true (best.map I)), (5, I least), (17, .v (.int .u64 ((2 ^ n : Nat) : Int))), (18, .v (.int .u64 (z : Int))), (3000000, .any)], ⟨[bkCells nl n ps, (advL ps).map U], []⟩)) :
    ∃ x_1 en s, lim (headed pure (run L) true [1, 3, 4, 5, 17, 18, 3000000] lp81_2 2 0) env st = some (x_1, en, s) ∧ (x_1 = .exit 0 ∧ en.get 4 = sl 1 true (((List.range' z (2 ^ n - z)).foldl (hStep n ps) (best, least)).1.map I)) := by
  refine loop_wp (α := Nat × List Int × Int) (fun ⟨z, best, least⟩ => 2 ^ n - z) (fun ⟨z, best, least⟩ => z ≤ 2 ^ n) (fun ⟨z, best, least⟩ => ([(1, .ptr 0 0), (3, .ptr 1 0), (4, sl 1 true (best.map I)), (5, I least), (17, .v (.int .u64 ((2 ^ n : Nat) : Int))), (18, .v (.int .u64 (z : Int))), (3000000, .any)], ⟨[bkCells nl n ps, (advL ps).map U], []⟩)) (fun ⟨z, best, least⟩ x_1 en s => x_1 = .exit 0 ∧ en.get 4 = sl 1 true (((List.range' z (2 ^ n - z)).foldl (hStep n ps) (best, least)).1.map I)) (fun ⟨z, best, least⟩ hok => ?_) ⟨z, best, least⟩ hok env st hg
  simp only at hok
  have h128 : 2 ^ n ≤ 128 := Nat.le_trans (Nat.pow_le_pow_right (by omega) hn) (by decide)
  dsimp only
  by_cases h : z < 2 ^ n
  · have hlt : ((z : Int) < ((2 ^ n : Nat) : Int)) = True := eq_true (by omega)
    have e0 : List.range' z (2 ^ n - z) = z :: List.range' (z + 1) (2 ^ n - (z + 1)) := by
      rw [show 2 ^ n - z = (2 ^ n - (z + 1)) + 1 by omega, List.range'_succ]
    rw [e0, List.foldl_cons]
    have hz : z < 128 := by omega
    have h104 := fun st => c104 z hz st
    have h108z := fun st => c108 z hz st
    have hs := succU z (by omega)
    have hlm := memb_len z
    have htwo : ((memb z).drop 0).foldl (unionOf (advL ps)) 0 = twoOf ps z := rfl
    have ht2 : twoOf ps z < 2 ^ n := two_lt hn hps h7 h
    have ht : twoOf ps z < 128 := by omega
    have h108t := fun st => c108 (twoOf ps z) ht st
    have hlt2 := memb_len (twoOf ps z)
    have hand := andN_eq (twoOf ps z) z ht hz
    simp only [go_sem, reduceIte, Nat.reduceEqDiff, Nat.reduceAdd, Nat.reduceSub, Nat.reduceLeDiff, Nat.reduceLT, reduceCtorEq, Int.reduceLT, Int.reduceLE, Int.reduceEq, Int.reduceBEq, Int.reduceSub, Int.reduceAdd, Int.reduceMul, Int.reduceNeg, Int.reduceToNat, Nat.reduceMul, Nat.reduceBEq, index_rsl_if, setm, make_ints, condK_dec, wantK_dec, not_dec, and_dec, or_dec, seqK_ite, seqK_none, blockK_ite, blockK_none, opsK_ite, opsK_none, stepK_ite, stepK_none, bodyK_ite, bodyK_none, resK_ite, resK_none, leaveK_ite, leaveK_none, only_ite, only_none, bind_ite, gives_some, gives_none, gives_ite, then_normal, then_ret, then_exit, then_none, then_ite, Option.bind_none, Bool.not_eq_true', decide_eq_false_iff_not, Bool.and_eq_true, Bool.or_eq_true, Option.some.injEq, Int.not_lt, Int.not_le, lp81_2, hlt, h104, List.length_map]
    generalize hg : lim (headed pure (run L) true _ lp81_0 _ _) _ _ = o
    obtain ⟨x, en, s, rfl, h2⟩ : ∃ x en s, o = some (x, en, s) ∧ _ := by rw [← hg]; exact loop81_0 nl n ps (advL ps) hadj hsm z (2 ^ n) best least (memb z) (by omega) (memb_in z) 0 0 ⟨by omega, by omega⟩ _ _ (by simp only [go_sem, reduceIte, Nat.reduceEqDiff, Nat.reduceAdd, Nat.reduceSub, Nat.reduceLeDiff, Nat.reduceLT, reduceCtorEq, Int.reduceLT, Int.reduceLE, Int.reduceEq, Int.reduceBEq, Int.reduceSub, Int.reduceAdd, Int.reduceMul, Int.reduceNeg, Int.reduceToNat, Nat.reduceMul, Nat.reduceBEq, okRefsU, renCellsU, Int.natCast_zero] <;> rfl)
    clear hg
    obtain ⟨rfl, e1, e3, e4, e5, e6, e7, e17, e18, eK, rfl⟩ := h2
    rw [htwo] at e7
    by_cases pi : twoOf ps z &&& z = 0
    · have qi : (((twoOf ps z &&& z : Nat) : Int) = 0) = True := eq_true (by rw [pi]; rfl)
      have wn : IntKind.i64.wrap ((n : Int) + ((memb (twoOf ps z)).length : Int)) = (n : Int) + ((memb (twoOf ps z)).length : Int) := by rw [wrap64] <;> omega
      have wc : IntKind.i64.wrap ((n : Int) + ((memb (twoOf ps z)).length : Int) - ((memb z).length : Int)) = costOf n (twoOf ps z) z := by rw [wrap64] <;> (try unfold costOf) <;> omega
      have hmk : ((0 : Int) ≤ (n : Int) ∧ (n : Int) ≤ (maxGrow : Int)) = True := eq_true (by unfold maxGrow; omega)
      have hv0 := (valsTo_zero (twoOf ps z) z n).symm
      have hvl : (valsOf n (twoOf ps z) z).length = n := by simp [valsOf]
      have hvne : valsOf n (twoOf ps z) z ≠ [] := by intro h; rw [h] at hvl; simp at hvl; omega
      have hfz := fun r T env => frzL2 (a := bkCells nl n ps) (b := (advL ps).map U) (cs := (valsOf n (twoOf ps z) z).map I) (by simpa using hvne) r T env
      have hfv := frzV_made 2 (valsOf n (twoOf ps z) z) hvne
      rw [hvl] at hfv
      obtain ⟨k, hk, hk2⟩ := c69 true true (valsOf n (twoOf ps z) z) best (by omega) ⟨[bkCells nl n ps, (advL ps).map U, []], []⟩
      simp only [go_sem, reduceIte, Nat.reduceEqDiff, Nat.reduceAdd, Nat.reduceSub, Nat.reduceLeDiff, Nat.reduceLT, reduceCtorEq, Int.reduceLT, Int.reduceLE, Int.reduceEq, Int.reduceBEq, Int.reduceSub, Int.reduceAdd, Int.reduceMul, Int.reduceNeg, Int.reduceToNat, Nat.reduceMul, Nat.reduceBEq, index_rsl_if, setm, make_ints, condK_dec, wantK_dec, not_dec, and_dec, or_dec, seqK_ite, seqK_none, blockK_ite, blockK_none, opsK_ite, opsK_none, stepK_ite, stepK_none, bodyK_ite, bodyK_none, resK_ite, resK_none, leaveK_ite, leaveK_none, only_ite, only_none, bind_ite, gives_some, gives_none, gives_ite, then_normal, then_ret, then_exit, then_none, then_ite, Option.bind_none, Bool.not_eq_true', decide_eq_false_iff_not, Bool.and_eq_true, Bool.or_eq_true, Option.some.injEq, Int.not_lt, Int.not_le, lp81_2, e1, e3, e4, e5, e6, e7, e17, e18, hand, qi, h108t, h108z, wn, wc, hmk, hv0, List.length_map]
      generalize hg : lim (headed pure (run L) true _ lp81_1 _ _) _ _ = o
      obtain ⟨x, en, s, rfl, h2⟩ : ∃ x en s, o = some (x, en, s) ∧ _ := by rw [← hg]; exact loop81_1 nl n hn ps (advL ps) z (twoOf ps z) (2 ^ n) best least (costOf n (twoOf ps z) z) 0 (by omega) _ _ (by simp only [go_sem, reduceIte, Nat.reduceEqDiff, Nat.reduceAdd, Nat.reduceSub, Nat.reduceLeDiff, Nat.reduceLT, reduceCtorEq, Int.reduceLT, Int.reduceLE, Int.reduceEq, Int.reduceBEq, Int.reduceSub, Int.reduceAdd, Int.reduceMul, Int.reduceNeg, Int.reduceToNat, Nat.reduceMul, Nat.reduceBEq, e1, e3, e4, e5, e6, e7, e17, e18, okRefsU, renCellsU, Int.natCast_zero] <;> rfl)
      clear hg
      obtain ⟨rfl, f1, f3, f4, f5, f10, f11, f17, f18, fK, rfl⟩ := h2
      have hstep : hStep n ps (best, least) z = (if best = [] ∨ costOf n (twoOf ps z) z < least ∨ costOf n (twoOf ps z) z = least ∧ lexLt (valsOf n (twoOf ps z) z) best = true then (valsOf n (twoOf ps z) z, costOf n (twoOf ps z) z) else (best, least)) := by unfold hStep; rw [if_pos pi]
      rw [hstep]
      generalize costOf n (twoOf ps z) z = cost at *
      generalize valsOf n (twoOf ps z) z = vs at *
      by_cases p1 : best = []
      · rw [if_pos (.inl p1)]
        subst p1
        simp only [List.map_nil] at *
        simp only [go_sem, reduceIte, Nat.reduceEqDiff, Nat.reduceAdd, Nat.reduceSub, Nat.reduceLeDiff, Nat.reduceLT, reduceCtorEq, Int.reduceLT, Int.reduceLE, Int.reduceEq, Int.reduceBEq, Int.reduceSub, Int.reduceAdd, Int.reduceMul, Int.reduceNeg, Int.reduceToNat, Nat.reduceMul, Nat.reduceBEq, index_rsl_if, setm, make_ints, condK_dec, wantK_dec, not_dec, and_dec, or_dec, seqK_ite, seqK_none, blockK_ite, blockK_none, opsK_ite, opsK_none, stepK_ite, stepK_none, bodyK_ite, bodyK_none, resK_ite, resK_none, leaveK_ite, leaveK_none, only_ite, only_none, bind_ite, gives_some, gives_none, gives_ite, then_normal, then_ret, then_exit, then_none, then_ite, Option.bind_none, Bool.not_eq_true', decide_eq_false_iff_not, Bool.and_eq_true, Bool.or_eq_true, Option.some.injEq, Int.not_lt, Int.not_le, lp81_2, f1, f3, f4, f5, f10, f11, f17, f18, fK, code_frz, frzAV, frzW, frzT, frzLs, rslsOf, hfz, frzEnv, frzEnv_get, frzStore, frzVs, frzV_v, frzV_ptr, frzV_sl, frzVs_U, hfv, hs]
        refine ⟨(z + 1, vs, cost), by simp only [go_sem, reduceIte, Nat.reduceEqDiff, Nat.reduceAdd, Nat.reduceSub, Nat.reduceLeDiff, Nat.reduceLT, reduceCtorEq, Int.reduceLT, Int.reduceLE, Int.reduceEq, Int.reduceBEq, Int.reduceSub, Int.reduceAdd, Int.reduceMul, Int.reduceNeg, Int.reduceToNat, Nat.reduceMul, Nat.reduceBEq, ren1_locm, loc_tips, locT_eq, okRefsU, renCellsU, f1, f3, f4, f5, f17, f18, fK, frzEnv_get, frzV_v, frzV_ptr, frzV_sl, frzV_any, hfv, compact, compactW, refsEnv, refsV, refsL, refsStore, refsAt, mapEnv, mapL, mapLs, newName, posOf, mapStore, pickStore, namesOk, refsV_sl, mapL_sl, refsL_U, mapLs_U, List.contains_nil, List.contains_cons, Option.getD_some, hasKey] <;> rfl, ?_, ?_, fun x en s hq => ?_⟩
        · omega
        · simp only; omega
        · exact hq
      · by_cases p2 : cost < least
        · rw [if_pos (.inr (.inl p2))]
          simp only [go_sem, reduceIte, Nat.reduceEqDiff, Nat.reduceAdd, Nat.reduceSub, Nat.reduceLeDiff, Nat.reduceLT, reduceCtorEq, Int.reduceLT, Int.reduceLE, Int.reduceEq, Int.reduceBEq, Int.reduceSub, Int.reduceAdd, Int.reduceMul, Int.reduceNeg, Int.reduceToNat, Nat.reduceMul, Nat.reduceBEq, index_rsl_if, setm, make_ints, condK_dec, wantK_dec, not_dec, and_dec, or_dec, seqK_ite, seqK_none, blockK_ite, blockK_none, opsK_ite, opsK_none, stepK_ite, stepK_none, bodyK_ite, bodyK_none, resK_ite, resK_none, leaveK_ite, leaveK_none, only_ite, only_none, bind_ite, gives_some, gives_none, gives_ite, then_normal, then_ret, then_exit, then_none, then_ite, Option.bind_none, Bool.not_eq_true', decide_eq_false_iff_not, Bool.and_eq_true, Bool.or_eq_true, Option.some.injEq, Int.not_lt, Int.not_le, lp81_2, f1, f3, f4, f5, f10, f11, f17, f18, fK, code_frz, frzAV, frzW, frzT, frzLs, rslsOf, hfz, frzEnv, frzEnv_get, frzStore, frzVs, frzV_v, frzV_ptr, frzV_sl, frzVs_U, hfv, hs, p1, p2]
          refine ⟨(z + 1, vs, cost), by simp only [go_sem, reduceIte, Nat.reduceEqDiff, Nat.reduceAdd, Nat.reduceSub, Nat.reduceLeDiff, Nat.reduceLT, reduceCtorEq, Int.reduceLT, Int.reduceLE, Int.reduceEq, Int.reduceBEq, Int.reduceSub, Int.reduceAdd, Int.reduceMul, Int.reduceNeg, Int.reduceToNat, Nat.reduceMul, Nat.reduceBEq, ren1_locm, loc_tips, locT_eq, okRefsU, renCellsU, f1, f3, f4, f5, f17, f18, fK, frzEnv_get, frzV_v, frzV_ptr, frzV_sl, frzV_any, hfv, compact, compactW, refsEnv, refsV, refsL, refsStore, refsAt, mapEnv, mapL, mapLs, newName, posOf, mapStore, pickStore, namesOk, refsV_sl, mapL_sl, refsL_U, mapLs_U, List.contains_nil, List.contains_cons, Option.getD_some, hasKey] <;> rfl, ?_, ?_, fun x en s hq => ?_⟩
          · omega
          · simp only; omega
          · exact hq
        · by_cases p3 : cost = least
          · subst p3
            by_cases p4 : lexLt vs best = true
            · rw [p4] at hk2
              have q4 : (k < 0) = True := eq_true (by simpa using hk2)
              rw [if_pos (.inr (.inr ⟨rfl, p4⟩))]
              simp only [go_sem, reduceIte, Nat.reduceEqDiff, Nat.reduceAdd, Nat.reduceSub, Nat.reduceLeDiff, Nat.reduceLT, reduceCtorEq, Int.reduceLT, Int.reduceLE, Int.reduceEq, Int.reduceBEq, Int.reduceSub, Int.reduceAdd, Int.reduceMul, Int.reduceNeg, Int.reduceToNat, Nat.reduceMul, Nat.reduceBEq, index_rsl_if, setm, make_ints, condK_dec, wantK_dec, not_dec, and_dec, or_dec, seqK_ite, seqK_none, blockK_ite, blockK_none, opsK_ite, opsK_none, stepK_ite, stepK_none, bodyK_ite, bodyK_none, resK_ite, resK_none, leaveK_ite, leaveK_none, only_ite, only_none, bind_ite, gives_some, gives_none, gives_ite, then_normal, then_ret, then_exit, then_none, then_ite, Option.bind_none, Bool.not_eq_true', decide_eq_false_iff_not, Bool.and_eq_true, Bool.or_eq_true, Option.some.injEq, Int.not_lt, Int.not_le, lp81_2, f1, f3, f4, f5, f10, f11, f17, f18, fK, code_frz, frzAV, frzW, frzT, frzLs, rslsOf, hfz, frzEnv, frzEnv_get, frzStore, frzVs, frzV_v, frzV_ptr, frzV_sl, frzVs_U, hfv, hs, p1, hk, q4, Int.lt_irrefl]
              refine ⟨(z + 1, vs, cost), by simp only [go_sem, reduceIte, Nat.reduceEqDiff, Nat.reduceAdd, Nat.reduceSub, Nat.reduceLeDiff, Nat.reduceLT, reduceCtorEq, Int.reduceLT, Int.reduceLE, Int.reduceEq, Int.reduceBEq, Int.reduceSub, Int.reduceAdd, Int.reduceMul, Int.reduceNeg, Int.reduceToNat, Nat.reduceMul, Nat.reduceBEq, ren1_locm, loc_tips, locT_eq, okRefsU, renCellsU, f1, f3, f4, f5, f17, f18, fK, frzEnv_get, frzV_v, frzV_ptr, frzV_sl, frzV_any, hfv, compact, compactW, refsEnv, refsV, refsL, refsStore, refsAt, mapEnv, mapL, mapLs, newName, posOf, mapStore, pickStore, namesOk, refsV_sl, mapL_sl, refsL_U, mapLs_U, List.contains_nil, List.contains_cons, Option.getD_some, hasKey] <;> rfl, ?_, ?_, fun x en s hq => ?_⟩
              · omega
              · simp only; omega
              · exact hq
            · have p4' : lexLt vs best = false := by simpa using p4
              rw [p4'] at hk2
              have q4 : (k < 0) = False := eq_false (by simpa using hk2)
              rw [if_neg (by simp [p1, p2, p4'])]
              simp only [go_sem, reduceIte, Nat.reduceEqDiff, Nat.reduceAdd, Nat.reduceSub, Nat.reduceLeDiff, Nat.reduceLT, reduceCtorEq, Int.reduceLT, Int.reduceLE, Int.reduceEq, Int.reduceBEq, Int.reduceSub, Int.reduceAdd, Int.reduceMul, Int.reduceNeg, Int.reduceToNat, Nat.reduceMul, Nat.reduceBEq, index_rsl_if, setm, make_ints, condK_dec, wantK_dec, not_dec, and_dec, or_dec, seqK_ite, seqK_none, blockK_ite, blockK_none, opsK_ite, opsK_none, stepK_ite, stepK_none, bodyK_ite, bodyK_none, resK_ite, resK_none, leaveK_ite, leaveK_none, only_ite, only_none, bind_ite, gives_some, gives_none, gives_ite, then_normal, then_ret, then_exit, then_none, then_ite, Option.bind_none, Bool.not_eq_true', decide_eq_false_iff_not, Bool.and_eq_true, Bool.or_eq_true, Option.some.injEq, Int.not_lt, Int.not_le, lp81_2, f1, f3, f4, f5, f10, f11, f17, f18, fK, code_frz, frzAV, frzW, frzT, frzLs, rslsOf, hfz, frzEnv, frzEnv_get, frzStore, frzVs, frzV_v, frzV_ptr, frzV_sl, frzVs_U, hfv, hs, p1, hk, q4, Int.lt_irrefl]
              refine ⟨(z + 1, best, cost), by simp only [go_sem, reduceIte, Nat.reduceEqDiff, Nat.reduceAdd, Nat.reduceSub, Nat.reduceLeDiff, Nat.reduceLT, reduceCtorEq, Int.reduceLT, Int.reduceLE, Int.reduceEq, Int.reduceBEq, Int.reduceSub, Int.reduceAdd, Int.reduceMul, Int.reduceNeg, Int.reduceToNat, Nat.reduceMul, Nat.reduceBEq, ren1_locm, loc_tips, locT_eq, okRefsU, renCellsU, f1, f3, f4, f5, f17, f18, fK, frzEnv_get, frzV_v, frzV_ptr, frzV_sl, frzV_any, hfv, compact, compactW, refsEnv, refsV, refsL, refsStore, refsAt, mapEnv, mapL, mapLs, newName, posOf, mapStore, pickStore, namesOk, refsV_sl, mapL_sl, refsL_U, mapLs_U, List.contains_nil, List.contains_cons, Option.getD_some, hasKey] <;> rfl, ?_, ?_, fun x en s hq => ?_⟩
              · omega
              · simp only; omega
              · exact hq
          · rw [if_neg (by simp [p1, p2, p3])]
            simp only [go_sem, reduceIte, Nat.reduceEqDiff, Nat.reduceAdd, Nat.reduceSub, Nat.reduceLeDiff, Nat.reduceLT, reduceCtorEq, Int.reduceLT, Int.reduceLE, Int.reduceEq, Int.reduceBEq, Int.reduceSub, Int.reduceAdd, Int.reduceMul, Int.reduceNeg, Int.reduceToNat, Nat.reduceMul, Nat.reduceBEq, index_rsl_if, setm, make_ints, condK_dec, wantK_dec, not_dec, and_dec, or_dec, seqK_ite, seqK_none, blockK_ite, blockK_none, opsK_ite, opsK_none, stepK_ite, stepK_none, bodyK_ite, bodyK_none, resK_ite, resK_none, leaveK_ite, leaveK_none, only_ite, only_none, bind_ite, gives_some, gives_none, gives_ite, then_normal, then_ret, then_exit, then_none, then_ite, Option.bind_none, Bool.not_eq_true', decide_eq_false_iff_not, Bool.and_eq_true, Bool.or_eq_true, Option.some.injEq, Int.not_lt, Int.not_le, lp81_2, f1, f3, f4, f5, f10, f11, f17, f18, fK, code_frz, frzAV, frzW, frzT, frzLs, rslsOf, hfz, frzEnv, frzEnv_get, frzStore, frzVs, frzV_v, frzV_ptr, frzV_sl, frzVs_U, hfv, hs, p1, p2, p3]
            refine ⟨(z + 1, best, least), by simp only [go_sem, reduceIte, Nat.reduceEqDiff, Nat.reduceAdd, Nat.reduceSub, Nat.reduceLeDiff, Nat.reduceLT, reduceCtorEq, Int.reduceLT, Int.reduceLE, Int.reduceEq, Int.reduceBEq, Int.reduceSub, Int.reduceAdd, Int.reduceMul, Int.reduceNeg, Int.reduceToNat, Nat.reduceMul, Nat.reduceBEq, ren1_locm, loc_tips, locT_eq, okRefsU, renCellsU, f1, f3, f4, f5, f17, f18, fK, frzEnv_get, frzV_v, frzV_ptr, frzV_sl, frzV_any, hfv, compact, compactW, refsEnv, refsV, refsL, refsStore, refsAt, mapEnv, mapL, mapLs, newName, posOf, mapStore, pickStore, namesOk, refsV_sl, mapL_sl, refsL_U, mapLs_U, List.contains_nil, List.contains_cons, Option.getD_some, hasKey] <;> rfl, ?_, ?_, fun x en s hq => ?_⟩
            · omega
            · simp only; omega
            · exact hq
    · have qi : (((twoOf ps z &&& z : Nat) : Int) = 0) = False := eq_false (by omega)
      have he : hStep n ps (best, least) z = (best, least) := by unfold hStep; rw [if_neg pi]
      rw [he]
      simp only [go_sem, reduceIte, Nat.reduceEqDiff, Nat.reduceAdd, Nat.reduceSub, Nat.reduceLeDiff, Nat.reduceLT, reduceCtorEq, Int.reduceLT, Int.reduceLE, Int.reduceEq, Int.reduceBEq, Int.reduceSub, Int.reduceAdd, Int.reduceMul, Int.reduceNeg, Int.reduceToNat, Nat.reduceMul, Nat.reduceBEq, index_rsl_if, setm, make_ints, condK_dec, wantK_dec, not_dec, and_dec, or_dec, seqK_ite, seqK_none, blockK_ite, blockK_none, opsK_ite, opsK_none, stepK_ite, stepK_none, bodyK_ite, bodyK_none, resK_ite, resK_none, leaveK_ite, leaveK_none, only_ite, only_none, bind_ite, gives_some, gives_none, gives_ite, then_normal, then_ret, then_exit, then_none, then_ite, Option.bind_none, Bool.not_eq_true', decide_eq_false_iff_not, Bool.and_eq_true, Bool.or_eq_true, Option.some.injEq, Int.not_lt, Int.not_le, lp81_2, e1, e3, e4, e5, e6, e7, e17, e18, hand, qi, hs]
      refine ⟨(z + 1, best, least), by simp only [go_sem, reduceIte, Nat.reduceEqDiff, Nat.reduceAdd, Nat.reduceSub, Nat.reduceLeDiff, Nat.reduceLT, reduceCtorEq, Int.reduceLT, Int.reduceLE, Int.reduceEq, Int.reduceBEq, Int.reduceSub, Int.reduceAdd, Int.reduceMul, Int.reduceNeg, Int.reduceToNat, Nat.reduceMul, Nat.reduceBEq, ren1_locm, loc_tips, locT_eq, okRefsU, renCellsU, e1, e3, e4, e5, e17, e18, eK, compact, compactW, refsEnv, refsV, refsL, refsStore, refsAt, mapEnv, mapL, mapLs, newName, posOf, mapStore, pickStore, namesOk, refsV_sl, mapL_sl, refsL_U, mapLs_U, List.contains_nil, List.contains_cons, Option.getD_some, hasKey] <;> rfl, ?_, ?_, fun x en s hq => ?_⟩
      · omega
      · simp only; omega
      · exact hq
  · have hlt : ((z : Int) < ((2 ^ n : Nat) : Int)) = False := eq_false (by omega)
    have e0 : 2 ^ n - z = 0 := by omega
    rw [e0]
    simp only [go_sem, reduceIte, Nat.reduceEqDiff, Nat.reduceAdd, Nat.reduceSub, Nat.reduceLeDiff, Nat.reduceLT, reduceCtorEq, Int.reduceLT, Int.reduceLE, Int.reduceEq, Int.reduceBEq, Int.reduceSub, Int.reduceAdd, Int.reduceMul, Int.reduceNeg, Int.reduceToNat, Nat.reduceMul, Nat.reduceBEq, index_rsl_if, setm, make_ints, condK_dec, wantK_dec, not_dec, and_dec, or_dec, seqK_ite, seqK_none, blockK_ite, blockK_none, opsK_ite, opsK_none, stepK_ite, stepK_none, bodyK_ite, bodyK_none, resK_ite, resK_none, leaveK_ite, leaveK_none, only_ite, only_none, bind_ite, gives_some, gives_none, gives_ite, then_normal, then_ret, then_exit, then_none, then_ite, Option.bind_none, Bool.not_eq_true', decide_eq_false_iff_not, Bool.and_eq_true, Bool.or_eq_true, Option.some.injEq, Int.not_lt, Int.not_le, lp81_2, hlt]
    rfl

theorem advL_small {ps : List (Int × Int)} (h7 : ∀ p ∈ ps, okP p) : ∀ x ∈ advL ps, x < 128 := by
  have : ∀ (ps : List (Int × Int)) (o : List Nat), (∀ p ∈ ps, okP p) → (∀ x ∈ o, x < 128) → ∀ x ∈ ps.foldl adv1 o, x < 128 := by
    intro ps
    induction ps with
    | nil => intro o _ h; exact h
    | cons p r ih =>
      intro o h7 h
      rw [List.foldl_cons]
      apply ih _ (fun q hq => h7 q (by simp [hq]))
      obtain ⟨a1, a2, a3, a4⟩ := h7 p (by simp)
      exact orAt_small (orAt_small h (by omega)) (by omega)
  exact this ps _ h7 (by simp)

theorem c81 (nl : Bool) (n : Nat) (hn1 : 1 ≤ n) (hn : n ≤ 7) (ps : List (Int × Int)) (hlen : ps.length < 1000000) (hps : ∀ p ∈ ps, 0 ≤ p.1 ∧ p.1 < p.2 ∧ p.2 < (n : Int)) (h7 : ∀ p ∈ ps, okP p) (st : St) :
    run L 81 [bkAV nl n ps] st = some (sl 1 true ((halvesV n ps).map I), st) := by
  rw [run_pure (fn := ir81) rfl rfl]
  have h89 := fun st => c89 nl n ps hlen h7 st
  have hal := advL_len h7
  have has := advL_small h7
  have hsh := sh1_eq n (by omega)
  have hput : putCells z7 0 ((advL ps).map U) = (advL ps).map U ∧ ((advL ps).map U).all storable = true := by
    obtain ⟨a, b, c, d, f, g, k, h6⟩ := len_seven hal
    rw [h6]
    exact ⟨rfl, rfl⟩
  have hz : z7 = [.v (.int .u64 0), .v (.int .u64 0), .v (.int .u64 0), .v (.int .u64 0), .v (.int .u64 0), .v (.int .u64 0), .v (.int .u64 0)] := rfl
  rw [hz] at hput
  simp only [ir81, go_sem, reduceIte, Nat.reduceEqDiff, Nat.reduceAdd, Nat.reduceSub, Nat.reduceLeDiff, Nat.reduceLT, reduceCtorEq, Int.reduceLT, Int.reduceLE, Int.reduceEq, Int.reduceBEq, Int.reduceSub, Int.reduceAdd, Int.reduceMul, Int.reduceNeg, Int.reduceToNat, Nat.reduceMul, Nat.reduceBEq, h89, hsh, hput.1, hput.2, hal, List.length_map]
  generalize hg : lim (headed pure (run L) true _ lp81_2 _ _) _ _ = o
  obtain ⟨x, en, s, rfl, h2⟩ : ∃ x en s, o = some (x, en, s) ∧ _ := by rw [← hg]; exact loop81 nl n hn1 hn ps hps h7 hal has 0 [] 0 (by omega) _ _ (by simp only [go_sem, reduceIte, Nat.reduceEqDiff, Nat.reduceAdd, Nat.reduceSub, Nat.reduceLeDiff, Nat.reduceLT, reduceCtorEq, Int.reduceLT, Int.reduceLE, Int.reduceEq, Int.reduceBEq, Int.reduceSub, Int.reduceAdd, Int.reduceMul, Int.reduceNeg, Int.reduceToNat, Nat.reduceMul, Nat.reduceBEq, okRefsU, renCellsU, sl_nil, List.map_nil, compact, compactW, refsEnv, refsV, refsL, refsStore, refsAt, mapEnv, mapL, mapLs, newName, posOf, mapStore, pickStore, namesOk, refsV_sl, mapL_sl, refsL_U, mapLs_U, List.contains_nil, List.contains_cons, Option.getD_some, hasKey, Int.natCast_zero] <;> rfl)
  clear hg
  obtain ⟨rfl, h3⟩ := h2
  rw [Nat.sub_zero, ← List.range_eq_range'] at h3
  simp only [go_sem, reduceIte, Nat.reduceEqDiff, Nat.reduceAdd, Nat.reduceSub, Nat.reduceLeDiff, Nat.reduceLT, reduceCtorEq, Int.reduceLT, Int.reduceLE, Int.reduceEq, Int.reduceBEq, Int.reduceSub, Int.reduceAdd, Int.reduceMul, Int.reduceNeg, Int.reduceToNat, Nat.reduceMul, Nat.reduceBEq, h3]
  rfl


/-! ### the cheapest values -/
def hv (n : Int) (ps : List (Int × Int)) : List Int × Int := if chk n ps = 0 then (halvesV n.toNat ps, 0) else ([], chk n ps)
theorem c26 (nl : Bool) (n : Int) (ps : List (Int × Int)) (st : St) : run L 26 [bkAV nl n ps] st = some (.tup [sl 1 true ((hv n ps).1.map I), I (hv n ps).2], st) := by
  rw [run_pure (fn := ir26) rfl rfl]
  have h22 := fun st => c22 nl n ps st
  unfold hv
  by_cases h : chk n ps = 0
  · obtain ⟨h1, h2, h3, h4, h5⟩ := chk_zero h
    obtain ⟨k, rfl⟩ := Int.eq_ofNat_of_zero_le (show 0 ≤ n by omega)
    have h81 := fun st => c81 nl k (by omega) (by omega) ps (by omega) h4 h5 st
    rw [if_pos h]
    simp only [Int.toNat_natCast]
    simp only [ir26, go_sem, reduceIte, Nat.reduceEqDiff, Nat.reduceAdd, Nat.reduceSub, Nat.reduceLeDiff, Nat.reduceLT, reduceCtorEq, Int.reduceLT, Int.reduceLE, Int.reduceEq, Int.reduceBEq, Int.reduceSub, Int.reduceAdd, Int.reduceMul, Int.reduceNeg, Int.reduceToNat, Nat.reduceMul, Nat.reduceBEq, h22, h, h81]
  · rw [if_neg h]
    simp only [ir26, go_sem, reduceIte, Nat.reduceEqDiff, Nat.reduceAdd, Nat.reduceSub, Nat.reduceLeDiff, Nat.reduceLT, reduceCtorEq, Int.reduceLT, Int.reduceLE, Int.reduceEq, Int.reduceBEq, Int.reduceSub, Int.reduceAdd, Int.reduceMul, Int.reduceNeg, Int.reduceToNat, Nat.reduceMul, Nat.reduceBEq, h22, h]
    rfl
/-! ### values that are given -/
def in02 (x : Int) : Bool := decide (0 ≤ x ∧ x ≤ 2)


/-! ### a book by numbers -/
abbrev B8 (n : Int) : AV := .v (.int .u8 n)
def Byte (n : Int) : Prop := 0 ≤ n ∧ n ≤ 255
abbrev qAV (zs : List Int) : AV := .agg (zs.map B8)
theorem okRefsB (n : Nat) (xs : List Int) : okRefs n (xs.map B8) = true := okRefs_map B8 n (fun _ => rfl) xs
theorem renCellsB (n : Nat) (tips : List Nat) (acc : List (Nat × Nat)) (xs : List Int) : renCells n tips acc (xs.map B8) = (xs.map B8, acc) := renCells_map B8 n tips (fun _ _ => rfl) xs acc
theorem pubsB (xs : List Int) : pubs (xs.map B8) = xs.map B8 := pubs_map B8 (fun _ => rfl) xs
theorem storableB (xs : List Int) : (xs.map B8).all storable = true := by
  rw [List.all_eq_true]; intro x hx; rw [List.mem_map] at hx; obtain ⟨n, _, rfl⟩ := hx; rfl
theorem getB (zs : List Int) (a : Nat) (h : a < zs.length) : (zs.map B8)[a]? = some (B8 (zs.getD a 0)) := by
  rw [getm B8 zs 0 a, if_pos h]
theorem byte_getD {l : List Int} (h : ∀ n ∈ l, Byte n) (i : Nat) : Byte (l.getD i 0) := by
  rw [List.getD_eq_getElem?_getD]
  by_cases hi : i < l.length
  · rw [List.getElem?_eq_getElem hi]; exact h _ (List.getElem_mem hi)
  · rw [List.getElem?_eq_none (by omega)]; exact ⟨by simp, by simp⟩
theorem mod_range (a b : Int) (hb : 0 < b) : 0 ≤ a % b ∧ a % b < b := ⟨Int.emod_nonneg a (by omega), Int.emod_lt_of_pos a hb⟩

/-! ### a list of pairs that grows in a struct -/
def outAV (o : List (Int × Int)) : AV := loc 2 0 (o.map prAV)
theorem okRef_out (n : Nat) (o : List (Int × Int)) : okRef n (outAV o) = true := okRef_loc _ _ _ _
theorem storable_out (o : List (Int × Int)) : storable (outAV o) = true := storable_loc _ _ _
theorem shaped_out (o : List (Int × Int)) : (outAV o).shaped = true := shaped_loc _ _ _
theorem cells_out (o : List (Int × Int)) : (outAV o).cells = [outAV o] := cells_loc _ _ _
theorem fin_out (st : St) (o : List (Int × Int)) : fin st (outAV o) = sl 2 true (o.map prAV) := fin_loc st 2 0 _
theorem pub_out (o : List (Int × Int)) : pub (outAV o) = sl 2 true (o.map prAV) := pub_loc 2 0 _
attribute [local go_sem] okRef_out storable_out shaped_out cells_out fin_out pub_out

/-- One more pair, if it is one and not there yet. -/
def mkStep (n : Int) (out : List (Int × Int)) (a b : Int) : List (Int × Int) :=
  if min (a % n) (b % n) ≠ max (a % n) (b % n) ∧ (min (a % n) (b % n), max (a % n) (b % n)) ∉ out then out ++ [(min (a % n) (b % n), max (a % n) (b % n))] else out
def madeTo (n : Int) (zs : List Int) : Nat → List (Int × Int)
  | 0 => []
  | k + 1 => mkStep n (madeTo n zs k) (zs.getD (2 + k * 2) 0) (zs.getD (3 + k * 2) 0)
theorem madeTo_len (n : Int) (zs : List Int) : ∀ k, (madeTo n zs k).length ≤ k
  | 0 => by simp [madeTo]
  | k + 1 => by
    have := madeTo_len n zs k
    simp only [madeTo, mkStep]; split
    · simp; omega
    · omega
theorem tmod8 {a n : Int} (h : 0 ≤ a) : a.tmod n = a % n := Int.tmod_eq_emod_of_nonneg h

def madeN (least : Int) (zs : List Int) : Int := least + zs.getD 0 0 % (8 - least)
def madeP (least : Int) (zs : List Int) : List (Int × Int) := madeTo (madeN least zs) zs (zs.getD 1 0 % 11).toNat

end Go.Proofs.YtpmbfgogpcjdlaaDoor.Vm

namespace Go.Proofs.YtpmbfgogpcjdlaaDoor.Vm
open Go Go.Ev Go.ChangeShapes Go.WideShapes Go.ChangeAt Go.RowKit
set_option maxRecDepth 100000
attribute [local go_sem] cells_any storable_any ren1_any shaped_ptr cells_ptr storable_ptr ren1_ptr shaped_eptr cells_eptr storable_eptr ren1_eptr shaped_rsl cells_rsl storable_rsl ren1_rsl shaped_int cells_int storable_int ren1_int shaped_bool cells_bool storable_bool ren1_bool shaped_nils cells_nils storable_nils ren1_nils shaped_lst cells_lst storable_lst shaped_fn cells_fn storable_fn ren1_fn shaped_ifc cells_ifc storable_ifc ren1_ifc shaped_agg cells_agg storable_agg ren1_agg shaped_tup cells_tup storable_tup ren1_tup shaped_nif cells_nif storable_nif ren1_nif ren1_lany ren1_lfull ren1_lown len_lst len_rsl len_nil load_ptr load_eptr isRsl_lst isRsl_nil isRsl_rsl elems_nil elems_lst elems_sl isRsl_sl body_eq bodyK_normal bodyK_ret resK_some leaveK_some only_some code_skip code_exit code_ret code_ops code_seq code_cond code_block seqK_normal seqK_ret seqK_exit condK_true condK_false blockK_normal blockK_ret blockK_exit opsK_some ops_nil ops_cons wantK_true wantK_false stepK_some pubs pub pub_sl params okRef_loc storable_loc shaped_loc cells_loc isRsl_loc elems_loc len_loc untips untip untip_sl wantedAV setElems withO isAgg_v isAgg_agg isAgg_lst isAgg_ptr isAgg_fn isAgg_ifc isAgg_rsl isAgg_sl isAgg_loc List.replicate_succ List.replicate_zero opAV valAV aval avals ofVal Env.get setD canon gcAV renAll renEnv renStore renCells ren1_sl cutSt okEnv okStore okRefs okRef okRef_sl bin_int bin_bool bin_lst bin_rsl bin_nil bin_agg cellsEq cellEq isShift intOp boolOp min_int max_int beq_int bne resAV tupAV leave_eq fin_sl fin_loc fins fin_v fin_lst fin_agg fin_tup fin_fn storeAV readCells putCells cells_sl shaped_sl storable_sl fieldAddrAV len_sl goI List.getElem?_cons_zero List.getElem?_cons_succ List.getElem?_nil Option.bind_some Option.map_some List.length_cons List.length_nil List.all_cons List.all_nil Bool.and_true Bool.true_and Bool.and_false Bool.false_and and_true true_and and_false false_and Bool.false_eq_true List.set_cons_zero List.set_cons_succ List.append_nil List.nil_append List.cons_append List.take_zero List.take_succ_cons List.take_nil List.drop_zero List.drop_succ_cons List.map_cons List.map_nil decide_true decide_false beq_self_eq_true Bool.not_true Bool.not_false or_true true_or or_false false_or Nat.zero_add Nat.add_zero Nat.le_refl Nat.lt_irrefl decide_eq_true_eq eq_self_iff_true not_true_eq_false not_false_eq_true List.getD_cons_zero code_loop Nat.zero_le Nat.not_lt_zero Bool.true_beq Bool.false_beq beq_true beq_false ge_iff_le gt_iff_lt keepR keepT ownTop Lpure pus Option.map_none assert_ifc assert_nil idxA_ptr idxA_eptr idxV_agg Int.cast_ofNat_Int Nat.mul_one Nat.zero_mul Int.toNat_natCast Int.toNat_zero setParts withO2 hasKey eqnil_sl nenil_sl eqnil_loc nenil_loc map_nil_iff elemsM_nil elemsM_lst elemsM_sl elemsM_loc elemsM_rsl elemsM_agg setElemsR pubR_v pubR_rsl pubE_v pubE_rsl okRefs_ints renCells_ints

theorem cells5 : Tryd.prog.cellsOf 5 = 1 := by kernel_rfl
theorem cells57 : Tryd.prog.cellsOf 57 = 2 := by kernel_rfl
theorem cells58 : Tryd.prog.cellsOf 58 = 20 := by kernel_rfl
theorem cells60 : Tryd.prog.cellsOf 60 = 22 := by kernel_rfl
theorem one_byte {d : Nat} {bs : List AV} (h : Sh Tryd.prog (d + 1) 5 bs) : ∃ zs : List Int, bs = zs.map B8 ∧ zs.length = 1 ∧ ∀ n ∈ zs, Byte n := by
  simp only [Sh, Tryd.underlying5] at h
  obtain ⟨n, h1, h2⟩ := h
  exact ⟨[n], h1, rfl, by simp; exact bounds_u8 h2⟩
/-- Parts of bytes. -/
theorem all_parts (z : Nat) : ∀ (k : Nat) (bs : List AV), bs.length = k * z → (∀ i, i < k → ∃ zs : List Int, (bs.drop (i * z)).take z = zs.map B8 ∧ zs.length = z ∧ ∀ n ∈ zs, Byte n) → ∃ zs : List Int, bs = zs.map B8 ∧ zs.length = k * z ∧ ∀ n ∈ zs, Byte n
  | 0, bs, hl, _ => ⟨[], by have : bs.length = 0 := by simpa using hl
                            simpa using this, by simp, by simp⟩
  | k + 1, bs, hl, h => by
    rw [Nat.succ_mul] at hl
    obtain ⟨zs, h1, h2, h3⟩ := h 0 (by omega)
    rw [Nat.zero_mul, List.drop_zero] at h1
    obtain ⟨ys, g1, g2, g3⟩ := all_parts z k (bs.drop z) (by simp; omega) fun i hi => by
      obtain ⟨xs, q1, q2, q3⟩ := h (i + 1) (by omega)
      refine ⟨xs, ?_, q2, q3⟩
      rw [List.drop_drop, ← q1, Nat.succ_mul, Nat.add_comm (i * z) z]
    refine ⟨zs ++ ys, ?_, by rw [List.length_append, h2, g2, Nat.succ_mul]; omega, ?_⟩
    · rw [List.map_append, ← h1, ← g1, List.take_append_drop]
    · intro n hn
      rcases List.mem_append.1 hn with hn | hn
      · exact h3 n hn
      · exact g3 n hn
theorem sh_b57 {d : Nat} {bs : List AV} (h : Sh Tryd.prog (d + 2) 57 bs) : ∃ zs : List Int, bs = zs.map B8 ∧ zs.length = 2 ∧ ∀ n ∈ zs, Byte n := by
  unfold Sh at h
  simp only [Tryd.underlying57, cells57, cells5] at h
  exact all_parts 1 2 bs (by omega) (fun i hi => one_byte (h.2 i hi))
theorem sh_b58 {d : Nat} {bs : List AV} (h : Sh Tryd.prog (d + 3) 58 bs) : ∃ zs : List Int, bs = zs.map B8 ∧ zs.length = 20 ∧ ∀ n ∈ zs, Byte n := by
  unfold Sh at h
  simp only [Tryd.underlying58, cells58, cells57] at h
  exact all_parts 2 10 bs (by omega) (fun i hi => sh_b57 (h.2 i hi))
/-- A book by numbers. -/
theorem sh_quarrel {a : AV} (h : ShV Tryd.prog 8 60 a) : ∃ zs : List Int, a = qAV zs ∧ zs.length = 22 ∧ ∀ n ∈ zs, Byte n := by
  unfold ShV at h
  rw [if_pos (by unfold aggB; rw [Tryd.underlying60])] at h
  obtain ⟨cs, rfl, hs⟩ := h
  unfold Sh at hs
  simp only [Tryd.underlying60, cells60] at hs
  obtain ⟨h1, h2⟩ := hs
  have f0 := h2 0 _ rfl
  have f1 := h2 1 _ rfl
  have f2 := h2 2 _ rfl
  simp only [List.getElem_toArray, List.getElem_cons_zero, List.getElem_cons_succ, cells5, cells58] at f0 f1 f2
  obtain ⟨ar, e0, l0, b0⟩ := one_byte f0
  obtain ⟨bs, e1, l1, b1⟩ := one_byte f1
  obtain ⟨es, e2, l2, b2⟩ := sh_b58 f2
  refine ⟨ar ++ (bs ++ es), ?_, by simp [l0, l1, l2], ?_⟩
  · have s5 : (cs.drop 2).take 20 = cs.drop 2 := List.take_of_length_le (by simp [h1])
    have s2 : (cs.drop 1).take 1 ++ cs.drop 2 = cs.drop 1 := by
      have := List.take_append_drop 1 (cs.drop 1)
      rw [List.drop_drop] at this
      exact this
    have s1 : (cs.drop 0).take 1 ++ cs.drop 1 = cs := by
      have := List.take_append_drop 1 cs
      simpa using this
    show AV.agg cs = AV.agg _
    rw [List.map_append, List.map_append, ← e0, ← e1, ← e2, s5, s2, s1]
  · intro n hn
    rcases List.mem_append.1 hn with hn | hn
    · exact b0 n hn
    · rcases List.mem_append.1 hn with hn | hn
      · exact b1 n hn
      · exact b2 n hn
theorem sh_byte {a : AV} (h : ShV Tryd.prog 8 5 a) : ∃ n, a = B8 n ∧ Byte n := by
  unfold ShV at h
  rw [if_neg (by unfold aggB; rw [Tryd.underlying5]; simp)] at h
  simp only [Sh, Tryd.underlying5, List.cons.injEq, and_true] at h
  obtain ⟨n, h1, h2⟩ := h
  exact ⟨n, h1, bounds_u8 h2⟩
end Go.Proofs.YtpmbfgogpcjdlaaDoor.Vm

namespace Go.Proofs.YtpmbfgogpcjdlaaDoor.Vm
open Go Go.Ev
set_option maxRecDepth 100000
attribute [local go_sem] cells_any storable_any ren1_any shaped_ptr cells_ptr storable_ptr ren1_ptr shaped_eptr cells_eptr storable_eptr ren1_eptr shaped_rsl cells_rsl storable_rsl ren1_rsl shaped_int cells_int storable_int ren1_int shaped_bool cells_bool storable_bool ren1_bool shaped_nils cells_nils storable_nils ren1_nils shaped_lst cells_lst storable_lst shaped_fn cells_fn storable_fn ren1_fn shaped_ifc cells_ifc storable_ifc ren1_ifc shaped_agg cells_agg storable_agg ren1_agg shaped_tup cells_tup storable_tup ren1_tup shaped_nif cells_nif storable_nif ren1_nif ren1_lany ren1_lfull ren1_lown len_lst len_rsl len_nil load_ptr load_eptr isRsl_lst isRsl_nil isRsl_rsl elems_nil elems_lst elems_sl isRsl_sl body_eq bodyK_normal bodyK_ret resK_some leaveK_some only_some code_skip code_exit code_ret code_ops code_seq code_cond code_block seqK_normal seqK_ret seqK_exit condK_true condK_false blockK_normal blockK_ret blockK_exit opsK_some ops_nil ops_cons wantK_true wantK_false stepK_some pubs pub pub_sl params okRef_loc storable_loc shaped_loc cells_loc isRsl_loc elems_loc len_loc untips untip untip_sl wantedAV setElems withO isAgg_v isAgg_agg isAgg_lst isAgg_ptr isAgg_fn isAgg_ifc isAgg_rsl isAgg_sl isAgg_loc List.replicate_succ List.replicate_zero opAV valAV aval avals ofVal Env.get setD canon gcAV renAll renEnv renStore renCells ren1_sl cutSt okEnv okStore okRefs okRef okRef_sl bin_int bin_bool bin_lst bin_rsl bin_nil bin_agg cellsEq cellEq isShift intOp boolOp min_int max_int beq_int bne resAV tupAV leave_eq fin_sl fin_loc fins fin_v fin_lst fin_agg fin_tup fin_fn storeAV readCells putCells cells_sl shaped_sl storable_sl fieldAddrAV len_sl goI List.getElem?_cons_zero List.getElem?_cons_succ List.getElem?_nil Option.bind_some Option.map_some List.length_cons List.length_nil List.all_cons List.all_nil Bool.and_true Bool.true_and Bool.and_false Bool.false_and and_true true_and and_false false_and Bool.false_eq_true List.set_cons_zero List.set_cons_succ List.append_nil List.nil_append List.cons_append List.take_zero List.take_succ_cons List.take_nil List.drop_zero List.drop_succ_cons List.map_cons List.map_nil decide_true decide_false beq_self_eq_true Bool.not_true Bool.not_false or_true true_or or_false false_or Nat.zero_add Nat.add_zero Nat.le_refl Nat.lt_irrefl decide_eq_true_eq eq_self_iff_true not_true_eq_false not_false_eq_true List.getD_cons_zero code_loop Nat.zero_le Nat.not_lt_zero Bool.true_beq Bool.false_beq beq_true beq_false ge_iff_le gt_iff_lt keepR keepT ownTop Lpure pus Option.map_none assert_ifc assert_nil idxA_ptr idxA_eptr idxV_agg Int.cast_ofNat_Int Nat.mul_one Nat.zero_mul Int.toNat_natCast Int.toNat_zero setParts withO2 hasKey eqnil_sl nenil_sl eqnil_loc nenil_loc map_nil_iff elemsM_nil elemsM_lst elemsM_sl elemsM_loc elemsM_rsl elemsM_agg setElemsR pubR_v pubR_rsl pubE_v pubE_rsl okRefs_ints renCells_ints

/-! ### a book by numbers is a good one -/
theorem prsErr_ok {n : Int} : ∀ (ps seen : List (Int × Int)), (∀ p ∈ ps, 0 ≤ p.1 ∧ p.1 < p.2 ∧ p.2 < n) → (seen ++ ps).Nodup → prsErr n seen ps = 0
  | [], _, _, _ => rfl
  | p :: r, seen, h, hn => by
    have hp := h p (by simp)
    have h1 : p ∉ seen := by
      intro hs
      rw [List.nodup_append] at hn
      exact hn.2.2 p hs p (by simp) rfl
    have e : prErr n seen p = 0 := by
      unfold prErr
      rw [if_neg (by omega), if_neg (by omega), if_neg h1]
    simp only [prsErr, e, if_true]
    exact prsErr_ok r _ (fun q hq => h q (by simp [hq])) (by simpa using hn)
theorem mk_ok {n : Int} (hn : 0 < n) {out : List (Int × Int)} (h : (∀ p ∈ out, 0 ≤ p.1 ∧ p.1 < p.2 ∧ p.2 < n) ∧ out.Nodup) (a b : Int) :
    (∀ p ∈ mkStep n out a b, 0 ≤ p.1 ∧ p.1 < p.2 ∧ p.2 < n) ∧ (mkStep n out a b).Nodup := by
  have ra := mod_range a n hn
  have rb := mod_range b n hn
  unfold mkStep
  split
  · next hc =>
    refine ⟨fun p hp => ?_, ?_⟩
    · rcases List.mem_append.1 hp with hp | hp
      · exact h.1 p hp
      · rw [List.mem_singleton] at hp; subst hp; simp only; omega
    · rw [List.nodup_append]
      refine ⟨h.2, by simp, fun x hx y hy => ?_⟩
      rw [List.mem_singleton] at hy; subst hy
      intro e; subst e; exact hc.2 hx
  · exact h
theorem madeTo_ok {n : Int} (hn : 0 < n) (zs : List Int) : ∀ k, (∀ p ∈ madeTo n zs k, 0 ≤ p.1 ∧ p.1 < p.2 ∧ p.2 < n) ∧ (madeTo n zs k).Nodup
  | 0 => by simp [madeTo]
  | k + 1 => mk_ok hn (madeTo_ok hn zs k) _ _
/-- What is known of a book by numbers. -/
theorem made_ok {least : Int} (hl : least = 1 ∨ least = 2) (zs : List Int) :
    ∃ n : Nat, madeN least zs = n ∧ 1 ≤ n ∧ least ≤ n ∧ n ≤ 7 ∧ (madeP least zs).length ≤ 10 ∧ (∀ p ∈ madeP least zs, 0 ≤ p.1 ∧ p.1 < p.2 ∧ p.2 < (n : Int)) ∧ (∀ p ∈ madeP least zs, okP p) ∧ (madeP least zs).Nodup ∧ chk (n : Int) (madeP least zs) = 0 := by
  have r0 := mod_range (zs.getD 0 0) (8 - least) (by omega)
  have r1 := mod_range (zs.getD 1 0) 11 (by omega)
  have hN : madeN least zs = least + zs.getD 0 0 % (8 - least) := rfl
  obtain ⟨n, hn⟩ := Int.eq_ofNat_of_zero_le (show 0 ≤ madeN least zs by omega)
  have h1 := madeTo_ok (n := madeN least zs) (by omega) zs (zs.getD 1 0 % 11).toNat
  have h2 := madeTo_len (madeN least zs) zs (zs.getD 1 0 % 11).toNat
  have e : madeP least zs = madeTo (madeN least zs) zs (zs.getD 1 0 % 11).toNat := rfl
  rw [← e] at h1 h2
  rw [hn] at h1
  refine ⟨n, hn, by omega, by omega, by omega, by omega, h1.1, fun p hp => ?_, h1.2, ?_⟩
  · have := h1.1 p hp; unfold okP; omega
  · unfold chk
    rw [if_neg (by omega), if_neg (by omega)]
    exact prsErr_ok _ [] h1.1 (by simpa using h1.2)

/-! ### a set and its list -/


/-! ### sets as ints -/
theorem and_i (n : Nat) : binAV .and none (.v (.int .i64 (n : Int))) (.v (.int .i64 1)) = some (.v (.int .i64 ((n % 2 : Nat) : Int))) := by
  have h : (BitVec.ofInt 64 (n : Int) &&& BitVec.ofInt 64 1).toNat = n % 2 := by
    rw [BitVec.toNat_and]
    have : (BitVec.ofInt 64 1).toNat = 1 := by decide
    rw [this, Nat.and_one_is_mod, BitVec.ofInt_natCast, BitVec.toNat_ofNat]
    omega
  show some (AV.v (.int .i64 (IntKind.i64.wrap ((BitVec.ofInt 64 (n : Int) &&& BitVec.ofInt 64 1).toNat : Int)))) = _
  rw [h, wrap64] <;> omega
theorem shr_i (m p : Nat) : binAV .shr none (.v (.int .i64 (m : Int))) (.v (.int .i64 (p : Int))) = some (.v (.int .i64 ((m >>> min p 64 : Nat) : Int))) := by
  have e := shrU m (min p 64)
  show (if (p : Int) < 0 then none else some (AV.v (.int .i64 (Int.fdiv (m : Int) (2 ^ min (Int.toNat (p : Int)) 64))))) = _
  rw [if_neg (by omega), Int.toNat_natCast]
  have e2 : ((2 : Int) ^ (min p 64)) = ((2 ^ (min p 64) : Nat) : Int) := by simp
  rw [e2, Int.fdiv_eq_ediv_of_nonneg _ (Int.natCast_nonneg _), Nat.shiftRight_eq_div_pow]
  simp
def shI (p : Nat) : Int := IntKind.i64.wrap (1 * 2 ^ (min p 64))
theorem shl_i (p : Nat) : binAV .shl none (.v (.int .i64 1)) (.v (.int .i64 (p : Int))) = some (.v (.int .i64 (shI p))) := by
  show (if (p : Int) < 0 then none else some (AV.v (.int .i64 (IntKind.i64.wrap (1 * (2 ^ (min (Int.toNat (p : Int)) 64))))))) = _
  rw [if_neg (by omega), Int.toNat_natCast]; rfl
attribute [local go_sem high] and_i shr_i shl_i


/-! ### the greatest number -/
/-! ### what the pairs of each article have -/
theorem getD_bd {o : List Int} {B : Int} (hB : 0 ≤ B) (h : ∀ x ∈ o, 0 ≤ x ∧ x ≤ B) (a : Nat) : 0 ≤ o.getD a 0 ∧ o.getD a 0 ≤ B := by
  rw [List.getD_eq_getElem?_getD]
  cases h2 : o[a]?
  · simp; omega
  · exact h _ (List.mem_of_getElem? h2)


/-! ### totals; places in a list -/
def totalV (l : List Int) (many : Int) : Int := if (l.length : Int) = many then (if l.all in02 = true then sumL l else -1) else -1

theorem loop45 (nl : Bool) (l : List Int) (hlen : l.length < 1000000) (i : Nat) (acc : Int) (hok : i ≤ l.length ∧ 0 ≤ acc ∧ acc ≤ 2 * i) (env : Env) (st : St)
    (hg : gcAV true 0 0 (canon env [5, 12, 13, 14]) st = ([(5, I acc), (12, sl 1 nl (l.map I)), (13, I l.length), (14, I i)], ⟨[], []⟩)) :
    ∃ x_1 en s, lim (headed pure (run L) true [5, 12, 13, 14] lp45_0 0 0) env st = some (x_1, en, s) ∧ (if (l.drop i).all in02 = true then x_1 = .exit 0 ∧ en.get 5 = I (acc + sumL (l.drop i)) else x_1 = .ret ∧ en.get 4 = I (-1)) := by
  refine loop_wp (α := Nat × Int) (fun ⟨i, acc⟩ => l.length - i) (fun ⟨i, acc⟩ => i ≤ l.length ∧ 0 ≤ acc ∧ acc ≤ 2 * i) (fun ⟨i, acc⟩ => ([(5, I acc), (12, sl 1 nl (l.map I)), (13, I l.length), (14, I i)], ⟨[], []⟩)) (fun ⟨i, acc⟩ x_1 en s => if (l.drop i).all in02 = true then x_1 = .exit 0 ∧ en.get 5 = I (acc + sumL (l.drop i)) else x_1 = .ret ∧ en.get 4 = I (-1)) (fun ⟨i, acc⟩ hok => ?_) ⟨i, acc⟩ hok env st hg
  simp only at hok
  obtain ⟨h1, h2, h3⟩ := hok
  dsimp only
  by_cases h : i < l.length
  · have hx := index_ints nl l i h
    have hs := succ64 i (by omega)
    have hd : l.drop i = l[i] :: l.drop (i + 1) := List.drop_eq_getElem_cons h
    have hlt : ((i : Int) < (l.length : Int)) = True := eq_true (by omega)
    rw [hd]
    generalize l[i] = a at *
    by_cases p1 : a < 0
    · simp only [go_sem, reduceIte, Nat.reduceEqDiff, Nat.reduceAdd, Nat.reduceSub, Nat.reduceLeDiff, Nat.reduceLT, reduceCtorEq, Int.reduceLT, Int.reduceLE, Int.reduceEq, Int.reduceBEq, Int.reduceSub, Int.reduceAdd, Int.reduceMul, Int.reduceNeg, Int.reduceToNat, Nat.reduceMul, Nat.reduceBEq, index_rsl_if, setm, make_ints, condK_dec, wantK_dec, not_dec, and_dec, or_dec, seqK_ite, seqK_none, blockK_ite, blockK_none, opsK_ite, opsK_none, stepK_ite, stepK_none, bodyK_ite, bodyK_none, resK_ite, resK_none, leaveK_ite, leaveK_none, only_ite, only_none, bind_ite, gives_some, gives_none, gives_ite, then_normal, then_ret, then_exit, then_none, then_ite, Option.bind_none, Bool.not_eq_true', decide_eq_false_iff_not, Bool.and_eq_true, Bool.or_eq_true, Option.some.injEq, Int.not_lt, Int.not_le, lp45_0, hx, hlt, p1]
      rw [if_neg (by simp [in02]; omega)]; trivial
    by_cases p2 : 2 < a
    · simp only [go_sem, reduceIte, Nat.reduceEqDiff, Nat.reduceAdd, Nat.reduceSub, Nat.reduceLeDiff, Nat.reduceLT, reduceCtorEq, Int.reduceLT, Int.reduceLE, Int.reduceEq, Int.reduceBEq, Int.reduceSub, Int.reduceAdd, Int.reduceMul, Int.reduceNeg, Int.reduceToNat, Nat.reduceMul, Nat.reduceBEq, index_rsl_if, setm, make_ints, condK_dec, wantK_dec, not_dec, and_dec, or_dec, seqK_ite, seqK_none, blockK_ite, blockK_none, opsK_ite, opsK_none, stepK_ite, stepK_none, bodyK_ite, bodyK_none, resK_ite, resK_none, leaveK_ite, leaveK_none, only_ite, only_none, bind_ite, gives_some, gives_none, gives_ite, then_normal, then_ret, then_exit, then_none, then_ite, Option.bind_none, Bool.not_eq_true', decide_eq_false_iff_not, Bool.and_eq_true, Bool.or_eq_true, Option.some.injEq, Int.not_lt, Int.not_le, lp45_0, hx, hlt, p1, p2]
      rw [if_neg (by simp [in02]; omega)]; trivial
    have hw : IntKind.i64.wrap (acc + a) = acc + a := by rw [wrap64] <;> omega
    have hin : in02 a = true := decide_eq_true (by omega)
    simp only [go_sem, reduceIte, Nat.reduceEqDiff, Nat.reduceAdd, Nat.reduceSub, Nat.reduceLeDiff, Nat.reduceLT, reduceCtorEq, Int.reduceLT, Int.reduceLE, Int.reduceEq, Int.reduceBEq, Int.reduceSub, Int.reduceAdd, Int.reduceMul, Int.reduceNeg, Int.reduceToNat, Nat.reduceMul, Nat.reduceBEq, index_rsl_if, setm, make_ints, condK_dec, wantK_dec, not_dec, and_dec, or_dec, seqK_ite, seqK_none, blockK_ite, blockK_none, opsK_ite, opsK_none, stepK_ite, stepK_none, bodyK_ite, bodyK_none, resK_ite, resK_none, leaveK_ite, leaveK_none, only_ite, only_none, bind_ite, gives_some, gives_none, gives_ite, then_normal, then_ret, then_exit, then_none, then_ite, Option.bind_none, Bool.not_eq_true', decide_eq_false_iff_not, Bool.and_eq_true, Bool.or_eq_true, Option.some.injEq, Int.not_lt, Int.not_le, lp45_0, hx, hlt, p1, p2, hw, hs]
    refine ⟨(i + 1, acc + a), by simp only [go_sem, reduceIte, Nat.reduceEqDiff, Nat.reduceAdd, Nat.reduceSub, Nat.reduceLeDiff, Nat.reduceLT, reduceCtorEq, Int.reduceLT, Int.reduceLE, Int.reduceEq, Int.reduceBEq, Int.reduceSub, Int.reduceAdd, Int.reduceMul, Int.reduceNeg, Int.reduceToNat, Nat.reduceMul, Nat.reduceBEq, ren1_locm, loc_tips, locT_eq] <;> rfl, ?_, ?_, fun x en s hq => ?_⟩
    · dsimp only; exact ⟨by omega, by omega, by omega⟩
    · simp only; omega
    · simp only [List.all_cons, hin, sumL, Bool.true_and, true_and]; rw [← Int.add_assoc]; simpa using hq
  · have hd : l.drop i = [] := List.drop_eq_nil_of_le (by omega)
    have hlt : ((i : Int) < (l.length : Int)) = False := eq_false (by omega)
    simp only [go_sem, reduceIte, Nat.reduceEqDiff, Nat.reduceAdd, Nat.reduceSub, Nat.reduceLeDiff, Nat.reduceLT, reduceCtorEq, Int.reduceLT, Int.reduceLE, Int.reduceEq, Int.reduceBEq, Int.reduceSub, Int.reduceAdd, Int.reduceMul, Int.reduceNeg, Int.reduceToNat, Nat.reduceMul, Nat.reduceBEq, index_rsl_if, setm, make_ints, condK_dec, wantK_dec, not_dec, and_dec, or_dec, seqK_ite, seqK_none, blockK_ite, blockK_none, opsK_ite, opsK_none, stepK_ite, stepK_none, bodyK_ite, bodyK_none, resK_ite, resK_none, leaveK_ite, leaveK_none, only_ite, only_none, bind_ite, gives_some, gives_none, gives_ite, then_normal, then_ret, then_exit, then_none, then_ite, Option.bind_none, Bool.not_eq_true', decide_eq_false_iff_not, Bool.and_eq_true, Bool.or_eq_true, Option.some.injEq, Int.not_lt, Int.not_le, lp45_0, hlt]
    rw [hd]; simp [sumL]

theorem c45 (nl : Bool) (l : List Int) (hlen : l.length < 1000000) (many : Int) (st : St) : run L 45 [sl 1 nl (l.map I), I many] st = some (I (totalV l many), st) := by
  rw [run_pure (fn := ir45) rfl rfl]
  unfold totalV
  by_cases p : (l.length : Int) = many
  · rw [if_pos p]
    simp only [ir45, go_sem, reduceIte, Nat.reduceEqDiff, Nat.reduceAdd, Nat.reduceSub, Nat.reduceLeDiff, Nat.reduceLT, reduceCtorEq, Int.reduceLT, Int.reduceLE, Int.reduceEq, Int.reduceBEq, Int.reduceSub, Int.reduceAdd, Int.reduceMul, Int.reduceNeg, Int.reduceToNat, Nat.reduceMul, Nat.reduceBEq, List.length_map, p]
    rw [← p]
    generalize hg : lim (headed pure (run L) true _ lp45_0 _ _) _ _ = o
    obtain ⟨x, en, s, rfl, h2⟩ : ∃ x en s, o = some (x, en, s) ∧ _ := by rw [← hg]; exact loop45 nl l hlen 0 0 ⟨by omega, by omega, by omega⟩ _ _ (by simp only [go_sem, reduceIte, Nat.reduceEqDiff, Nat.reduceAdd, Nat.reduceSub, Nat.reduceLeDiff, Nat.reduceLT, reduceCtorEq, Int.reduceLT, Int.reduceLE, Int.reduceEq, Int.reduceBEq, Int.reduceSub, Int.reduceAdd, Int.reduceMul, Int.reduceNeg, Int.reduceToNat, Nat.reduceMul, Nat.reduceBEq] <;> rfl)
    clear hg
    rw [List.drop_zero, Int.zero_add] at h2
    by_cases h : l.all in02 = true
    · rw [if_pos h] at h2
      obtain ⟨rfl, h3⟩ := h2
      simp only [go_sem, reduceIte, Nat.reduceEqDiff, Nat.reduceAdd, Nat.reduceSub, Nat.reduceLeDiff, Nat.reduceLT, reduceCtorEq, Int.reduceLT, Int.reduceLE, Int.reduceEq, Int.reduceBEq, Int.reduceSub, Int.reduceAdd, Int.reduceMul, Int.reduceNeg, Int.reduceToNat, Nat.reduceMul, Nat.reduceBEq, h3, h]
    · rw [if_neg h] at h2
      obtain ⟨rfl, h3⟩ := h2
      simp only [go_sem, reduceIte, Nat.reduceEqDiff, Nat.reduceAdd, Nat.reduceSub, Nat.reduceLeDiff, Nat.reduceLT, reduceCtorEq, Int.reduceLT, Int.reduceLE, Int.reduceEq, Int.reduceBEq, Int.reduceSub, Int.reduceAdd, Int.reduceMul, Int.reduceNeg, Int.reduceToNat, Nat.reduceMul, Nat.reduceBEq, h3, h]
  · rw [if_neg p]
    simp only [ir45, go_sem, reduceIte, Nat.reduceEqDiff, Nat.reduceAdd, Nat.reduceSub, Nat.reduceLeDiff, Nat.reduceLT, reduceCtorEq, Int.reduceLT, Int.reduceLE, Int.reduceEq, Int.reduceBEq, Int.reduceSub, Int.reduceAdd, Int.reduceMul, Int.reduceNeg, Int.reduceToNat, Nat.reduceMul, Nat.reduceBEq, List.length_map, p]


/-! ### two lists that grow -/
def vAV (v : List Int) : AV := loc 1 0 (v.map I)
def vT (v : List Int) : List Nat := locT 0 (v.map I)
def sAV (v s : List Int) : AV := if s = [] then .v (.slice none 0 0) else .lst (.own (vT v).length s.length) 1 (s.map I)
theorem okRef_v (n : Nat) (v : List Int) : okRef n (vAV v) = true := okRef_loc _ _ _ _
theorem pub_v (v : List Int) : pub (vAV v) = sl 1 true (v.map I) := pub_loc 1 0 _
theorem len_v (v : List Int) : lenAV (vAV v) = some (I v.length) := by unfold vAV; rw [len_loc]; simp
theorem okRef_s (n : Nat) (v s : List Int) : okRef n (sAV v s) = true := by unfold sAV; split <;> rfl
theorem pub_s (v s : List Int) : pub (sAV v s) = sl 1 true (s.map I) := by
  unfold sAV
  split
  · next h => subst h; rfl
  · next h => rw [sl_ne (by simpa using h)]; rfl
theorem len_s (v s : List Int) : lenAV (sAV v s) = some (I s.length) := by
  unfold sAV
  split
  · next h => subst h; rfl
  · next h => rw [len_lst]; simp
attribute [local go_sem] okRef_v pub_v len_v okRef_s pub_s len_s


/-! ### shares are worth no more than values cost -/
theorem sum_upd {f g : Nat → Int} {i : Nat} {d : Int} : ∀ l : List Nat, l.Nodup → i ∈ l → (∀ a ∈ l, a ≠ i → f a = g a) → f i = g i + d → sumL (l.map f) = sumL (l.map g) + d
  | [], _, hi, _, _ => by simp at hi
  | a :: r, hn, hi, h, hd => by
    rw [List.nodup_cons] at hn
    simp only [List.map_cons, sumL]
    by_cases e : a = i
    · subst e
      have : r.map f = r.map g := List.map_congr_left (fun b hb => h b (by simp [hb]) (fun e => hn.1 (e ▸ hb)))
      rw [this, hd]; omega
    · have h1 := sum_upd r hn.2 (by simpa [Ne.symm e] using hi) (fun b hb => h b (by simp [hb])) hd
      rw [h1, h a (by simp) e]; omega
/-! ### what is accepted, by the outright words -/


/-! ### three lists that grow in an array -/
def n1 (xs : List Int) : Nat := if xs = [] then 0 else 1


/-! ### a list of pairs that grows behind other lists -/
def pN (k : Nat) (o : List (Int × Int)) : AV := if o = [] then .v (.slice none 0 0) else .lst (.own k o.length) 2 (o.map prAV)
theorem okRef_pN (n k : Nat) (o : List (Int × Int)) : okRef n (pN k o) = true := by unfold pN; split <;> rfl
theorem pub_pN (k : Nat) (o : List (Int × Int)) : pub (pN k o) = sl 2 true (o.map prAV) := by
  unfold pN
  split
  · next h => subst h; rfl
  · next h => rw [sl_ne (by simpa using h)]; rfl
attribute [local go_sem] okRef_pN pub_pN


/-! ### a list of lists that grows -/
def lAV (o : List (List Int)) : AV := loc 1 0 (o.map listAV)
theorem okRef_l (n : Nat) (o : List (List Int)) : okRef n (lAV o) = true := okRef_loc _ _ _ _
theorem fin_l (st : St) (o : List (List Int)) : fin st (lAV o) = sl 1 true (o.map listAV) := fin_loc st 1 0 _
attribute [local go_sem] okRef_l fin_l


/-! ### Hall's theorem -/
/-- What some have to do with, of the first m. -/
def nbrs (m : Nat) (r : Nat → Nat → Bool) (S : List Nat) : List Nat := (List.range m).filter fun y => S.any fun x => r x y
theorem mem_nbrs {m : Nat} {r : Nat → Nat → Bool} {S : List Nat} {y : Nat} : y ∈ nbrs m r S ↔ y < m ∧ ∃ x ∈ S, r x y = true := by simp [nbrs]
theorem filter_or_len {α : Type} (p q : α → Bool) : ∀ l : List α, (∀ x ∈ l, ¬(p x = true ∧ q x = true)) → (l.filter fun x => p x || q x).length = (l.filter p).length + (l.filter q).length
  | [], _ => rfl
  | a :: l, h => by
    have ih := filter_or_len p q l (fun x hx => h x (by simp [hx]))
    have ha := h a (by simp)
    cases h1 : p a <;> cases h2 : q a <;> simp_all <;> omega
theorem filter_le_len {α : Type} (p q : α → Bool) : ∀ l : List α, (∀ x ∈ l, p x = true → q x = true) → (l.filter p).length ≤ (l.filter q).length
  | [], _ => by simp
  | a :: l, h => by
    have ih := filter_le_len p q l (fun x hx => h x (by simp [hx]))
    have ha := h a (by simp)
    cases h1 : p a <;> cases h2 : q a <;> simp_all <;> omega
theorem filter_lt {α : Type} (p : α → Bool) : ∀ l : List α, (l.filter p).length + (l.filter fun x => !p x).length = l.length
  | [] => rfl
  | a :: l => by
    have ih := filter_lt p l
    cases h : p a <;> simp [h] <;> omega

theorem hall (m : Nat) : ∀ (k : Nat) (A : List Nat) (r : Nat → Nat → Bool), A.length = k → A.Nodup → (∀ p : Nat → Bool, (A.filter p).length ≤ (nbrs m r (A.filter p)).length) →
    ∃ f : Nat → Nat, (∀ a ∈ A, f a < m ∧ r a (f a) = true) ∧ ∀ a ∈ A, ∀ b ∈ A, f a = f b → a = b := by
  intro k
  induction k using Nat.strongRecOn with
  | ind k ih =>
    intro A r hk hnd hall
    by_cases hcase : ∃ p : Nat → Bool, 0 < (A.filter p).length ∧ (A.filter p).length < A.length ∧ (nbrs m r (A.filter p)).length = (A.filter p).length
    · -- a part that has just as many: it, and the rest without what it has to do with
      obtain ⟨p, h1, h2, h3⟩ := hcase
      have hsum := filter_lt p A
      have hp1 : ∀ q : Nat → Bool, ((A.filter p).filter q).length ≤ (nbrs m r ((A.filter p).filter q)).length := by
        intro q; rw [List.filter_filter]; exact hall _
      obtain ⟨f1, g1, g2⟩ := ih _ (by omega) (A.filter p) r rfl (hnd.filter _) hp1
      let r2 : Nat → Nat → Bool := fun x y => r x y && !(nbrs m r (A.filter p)).contains y
      have hp2 : ∀ q : Nat → Bool, ((A.filter fun x => !p x).filter q).length ≤ (nbrs m r2 ((A.filter fun x => !p x).filter q)).length := by
        intro q
        rw [List.filter_filter]
        have e1 := filter_or_len p (fun x => q x && !p x) A (by intro x _ ⟨h4, h5⟩; simp [h4] at h5)
        have e2 := hall fun x => p x || (q x && !p x)
        rw [e1] at e2
        have e3 : (nbrs m r (A.filter fun x => p x || (q x && !p x))).length ≤ (nbrs m r (A.filter p)).length + (nbrs m r2 (A.filter fun x => q x && !p x)).length := by
          have e4 : (nbrs m r (A.filter fun x => p x || (q x && !p x))).length ≤ ((List.range m).filter fun y => ((A.filter p).any fun x => r x y) || ((A.filter fun x => q x && !p x).any fun x => r2 x y)).length := by
            apply filter_le_len
            intro y hy h
            rw [List.any_eq_true] at h
            obtain ⟨x, hx, hr⟩ := h
            rw [List.mem_filter] at hx
            by_cases h6 : ((A.filter p).any fun x => r x y) = true
            · simp [h6]
            · have h7 : p x = false := by
                cases h8 : p x
                · rfl
                · exact absurd (List.any_eq_true.2 ⟨x, List.mem_filter.2 ⟨hx.1, h8⟩, hr⟩) h6
              have h9 : (q x && !p x) = true := by rw [h7] at hx; simp only [Bool.false_or] at hx; rw [h7]; exact hx.2
              have h10 : ((A.filter fun x => q x && !p x).any fun x => r2 x y) = true := by
                refine List.any_eq_true.2 ⟨x, List.mem_filter.2 ⟨hx.1, h9⟩, ?_⟩
                show (r x y && !(nbrs m r (A.filter p)).contains y) = true
                have h11 : y ∉ nbrs m r (A.filter p) := by
                  intro h12
                  obtain ⟨_, z, hz, hzr⟩ := mem_nbrs.1 h12
                  exact h6 (List.any_eq_true.2 ⟨z, hz, hzr⟩)
                rw [hr]; simp [h11]
              rw [h10, Bool.or_true]
          refine Nat.le_trans e4 ?_
          rw [filter_or_len]
          · exact Nat.le_refl _
          · intro y hy ⟨h4, h5⟩
            rw [List.any_eq_true] at h5
            obtain ⟨x, _, hx⟩ := h5
            have hx2 : (!(nbrs m r (A.filter p)).contains y) = true := by
              have : (r x y && !(nbrs m r (A.filter p)).contains y) = true := hx
              rw [Bool.and_eq_true] at this; exact this.2
            have hm : y ∈ nbrs m r (A.filter p) := by
              obtain ⟨z, hz, hzr⟩ := List.any_eq_true.1 h4
              exact mem_nbrs.2 ⟨List.mem_range.1 hy, z, hz, hzr⟩
            simp [hm] at hx2
        omega
      obtain ⟨f2, k1, k2⟩ := ih _ (by omega) (A.filter fun x => !p x) r2 rfl (hnd.filter _) hp2
      have k1' : ∀ a ∈ A, p a = false → f2 a < m ∧ r a (f2 a) = true ∧ f2 a ∉ nbrs m r (A.filter p) := by
        intro a ha hpa
        obtain ⟨h4, h5⟩ := k1 a (List.mem_filter.2 ⟨ha, by simp [hpa]⟩)
        have h6 : (r a (f2 a) && !(nbrs m r (A.filter p)).contains (f2 a)) = true := h5
        rw [Bool.and_eq_true] at h6
        refine ⟨h4, h6.1, fun h7 => ?_⟩
        have := h6.2; simp [h7] at this
      have g1' : ∀ a ∈ A, p a = true → f1 a < m ∧ r a (f1 a) = true ∧ f1 a ∈ nbrs m r (A.filter p) := by
        intro a ha hpa
        obtain ⟨h4, h5⟩ := g1 a (List.mem_filter.2 ⟨ha, hpa⟩)
        exact ⟨h4, h5, mem_nbrs.2 ⟨h4, a, List.mem_filter.2 ⟨ha, hpa⟩, h5⟩⟩
      refine ⟨fun a => if p a = true then f1 a else f2 a, ?_, ?_⟩
      · intro a ha
        dsimp only
        cases hpa : p a
        · have := k1' a ha hpa; simpa using ⟨this.1, this.2.1⟩
        · have := g1' a ha hpa; simpa using ⟨this.1, this.2.1⟩
      · intro a ha b hb
        dsimp only
        cases hpa : p a <;> cases hpb : p b
        · simp only [Bool.false_eq_true, if_false]
          exact k2 a (List.mem_filter.2 ⟨ha, by simp [hpa]⟩) b (List.mem_filter.2 ⟨hb, by simp [hpb]⟩)
        · simp only [Bool.false_eq_true, if_false, if_true]
          intro e
          have h4 := (k1' a ha hpa).2.2
          rw [e] at h4
          exact absurd (g1' b hb hpb).2.2 h4
        · simp only [Bool.false_eq_true, if_false, if_true]
          intro e
          have h4 := (k1' b hb hpb).2.2
          rw [← e] at h4
          exact absurd (g1' a ha hpa).2.2 h4
        · simp only [if_true]
          exact g2 a (List.mem_filter.2 ⟨ha, hpa⟩) b (List.mem_filter.2 ⟨hb, hpb⟩)
    · -- each proper part has one more: any choice for the first
      cases A with
      | nil => exact ⟨fun _ => 0, by simp, by simp⟩
      | cons a A =>
        rw [List.nodup_cons] at hnd
        obtain ⟨hna, hnd⟩ := hnd
        have h0 := hall fun x => x == a
        have hf : (a :: A).filter (fun x => x == a) = [a] := by
          rw [List.filter_cons, if_pos (by simp)]
          congr 1
          rw [List.filter_eq_nil_iff]; intro x hx h; simp at h; subst h; exact hna hx
        rw [hf] at h0
        obtain ⟨b, hb⟩ := List.exists_mem_of_ne_nil (nbrs m r [a]) (by intro h; rw [h] at h0; simp at h0)
        obtain ⟨hbm, x, hx, hrb⟩ := mem_nbrs.1 hb
        rw [List.mem_singleton] at hx; subst hx
        let r2 : Nat → Nat → Bool := fun z y => r z y && !(y == b)
        have hp2 : ∀ q : Nat → Bool, (A.filter q).length ≤ (nbrs m r2 (A.filter q)).length := by
          intro q
          by_cases hz : (A.filter q).length = 0
          · omega
          have e1 : (x :: A).filter (fun z => q z && !(z == x)) = A.filter q := by
            rw [List.filter_cons, if_neg (by simp)]
            apply List.filter_congr
            intro z hz
            have : z ≠ x := fun e => hna (e ▸ hz)
            simp [this]
          have e2 : (A.filter q).length < (nbrs m r (A.filter q)).length := by
            have e3 := hall fun z => q z && !(z == x)
            rw [e1] at e3
            rcases Nat.lt_or_ge (A.filter q).length (nbrs m r (A.filter q)).length with h4 | h4
            · exact h4
            · exact absurd ⟨fun z => q z && !(z == x), by rw [e1]; omega, by rw [e1]; have := List.length_filter_le q A; simp; omega, by rw [e1]; omega⟩ hcase
          have e4 : (nbrs m r (A.filter q)).length ≤ (nbrs m r2 (A.filter q)).length + 1 := by
            have e5 : (nbrs m r (A.filter q)).length ≤ ((List.range m).filter fun y => ((A.filter q).any fun z => r2 z y) || (y == b)).length := by
              apply filter_le_len
              intro y hy h
              by_cases h6 : y = b
              · simp [h6]
              · obtain ⟨z, hz, hzr⟩ := List.any_eq_true.1 h
                have h7 : ((A.filter q).any fun z => r2 z y) = true := List.any_eq_true.2 ⟨z, hz, by show (r z y && !(y == b)) = true; rw [hzr]; simp [h6]⟩
                rw [h7, Bool.true_or]
            rw [filter_or_len] at e5
            · have e6 : ((List.range m).filter fun y => y == b).length ≤ 1 := by
                have : ∀ l : List Nat, l.Nodup → (l.filter fun y => y == b).length ≤ 1 := by
                  intro l
                  induction l with
                  | nil => intro _; simp
                  | cons c l ih =>
                    intro hn
                    rw [List.nodup_cons] at hn
                    rw [List.filter_cons]
                    split
                    · next h =>
                      have hc : c = b := by simpa using h
                      have : l.filter (fun y => y == b) = [] := by
                        rw [List.filter_eq_nil_iff]; intro y hy h2; simp at h2; subst h2; subst hc; exact hn.1 hy
                      rw [this]; simp
                    · exact ih hn.2
                exact this _ List.nodup_range
              exact Nat.le_trans e5 (by unfold nbrs; omega)
            · intro y _ ⟨h4, h5⟩
              obtain ⟨z, _, hz⟩ := List.any_eq_true.1 h4
              have : (r z y && !(y == b)) = true := hz
              rw [h5] at this; simp at this
          omega
        obtain ⟨f, k1, k2⟩ := ih A.length (by simp at hk; omega) A r2 rfl hnd hp2
        have k1' : ∀ z ∈ A, f z < m ∧ r z (f z) = true ∧ f z ≠ b := by
          intro z hz
          obtain ⟨h4, h5⟩ := k1 z hz
          have h6 : (r z (f z) && !(f z == b)) = true := h5
          rw [Bool.and_eq_true] at h6
          exact ⟨h4, h6.1, by have := h6.2; simpa using this⟩
        refine ⟨fun z => if z = x then b else f z, ?_, ?_⟩
        · intro z hz
          by_cases e : z = x
          · subst e; simp [hbm, hrb]
          · have hz2 : z ∈ A := by simpa [e] using hz
            have := k1' z hz2
            simp only [if_neg e]; exact ⟨this.1, this.2.1⟩
        · intro z hz w hw
          by_cases e : z = x <;> by_cases e2 : w = x
          · intro _; rw [e, e2]
          · simp only [if_pos e, if_neg e2]
            intro h; exact absurd h.symm (k1' w (by simpa [e2] using hw)).2.2
          · simp only [if_neg e, if_pos e2]
            intro h; exact absurd h (k1' z (by simpa [e] using hz)).2.2
          · simp only [if_neg e, if_neg e2]
            exact k2 z (by simpa [e] using hz) w (by simpa [e2] using hw)


/-! ### counting -/
theorem nodup_len_le {α : Type} [DecidableEq α] : ∀ (l k : List α), l.Nodup → (∀ x ∈ l, x ∈ k) → l.length ≤ k.length
  | [], _, _, _ => by simp
  | a :: l, k, hn, h => by
    rw [List.nodup_cons] at hn
    have ha := h a (by simp)
    have h1 := nodup_len_le l (k.erase a) hn.2 (fun x hx => by
      have hne : x ≠ a := fun e => hn.1 (e ▸ hx)
      exact (List.mem_erase_of_ne hne).2 (h x (by simp [hx])))
    rw [List.length_erase_of_mem ha] at h1
    have := List.length_pos_of_mem ha
    simp only [List.length_cons]; omega


/-! ### a list of numbers that may be written, in a block behind the first four -/
def Rep (J : List (List AV)) (o : List Int) (v : AV) : Prop :=
  (o = [] ∧ v = .v (.slice none 0 0)) ∨ ∃ (l c : Nat) (cs : List AV), v = .rsl (l + 4) 0 o.length c 1 false ∧ J[l]? = some cs ∧ cs.take o.length = o.map I ∧ o.length ≤ c ∧ c = cs.length ∧ 0 < c
def NotAt (q : Nat) (v : AV) : Prop := ∀ n c : Nat, v ≠ .rsl (q + 4) 0 n c 1 false
def Frame (J0 : List (List AV)) (v0 : AV) (J : List (List AV)) (v : AV) : Prop := ∀ (q : Nat) (c : List AV), J0[q]? = some c → NotAt q v0 → J[q]? = some c ∧ NotAt q v
theorem Frame.refl (J : List (List AV)) (v : AV) : Frame J v J v := fun _ _ h1 h2 => ⟨h1, h2⟩
theorem Frame.trans {J0 J1 J2 : List (List AV)} {v0 v1 v2 : AV} (h : Frame J0 v0 J1 v1) (h' : Frame J1 v1 J2 v2) : Frame J0 v0 J2 v2 := fun q c h1 h2 => by
  obtain ⟨h3, h4⟩ := h q c h1 h2
  exact h' q c h3 h4


/-! ### the search for shares -/
def takeR (room : List Int) (p : Int × Int) (x : Int) : List Int := (room.set p.1.toNat (room.getD p.1.toNat 0 - x)).set p.2.toNat (room.getD p.2.toNat 0 - x)
def mxR (room : List Int) (p : Int × Int) (left : Int) : Nat := (min (min (room.getD p.1.toNat 0) (room.getD p.2.toNat 0)) left).toNat
def findL (n : Nat) : List (Int × Int) → List Int → Int → Option (List Int)
  | [], _, left => if left = 0 then some [] else none
  | p :: q, room, left => if sumL (room.take n) < 2 * left then none else (List.range' 0 (mxR room p left + 1)).findSome? fun (x : Nat) => (findL n q (takeR room p x) (left - x)).map ((x : Int) :: ·)
abbrev fnPut : AV := .fn (.func 112) [] [.ptr 0 0, .ptr 2 0, .ptr 1 0, .ptr 3 0]
abbrev S4 (B0 : List AV) (v : AV) (room : List Int) (J : List (List AV)) : St := ⟨B0 :: [v] :: room.map I :: [fnPut] :: J, []⟩


/-- What the search answers, and how it leaves the memory. -/
def Does (nl : Bool) (n : Nat) (ps : List (Int × Int)) (k : Nat) : Prop := ∀ (i : Nat), i + k = ps.length → ∀ (room : List Int), room.length = 7 → (∀ x ∈ room, 0 ≤ x ∧ x ≤ 2) → ∀ left : Int, 0 ≤ left → left ≤ 14 → ∀ (o : List Int), o.length ≤ i → ∀ (v : AV) (J : List (List AV)), Rep J o v →
  ∃ (b : Bool) (room' : List Int) (v' : AV) (J' : List (List AV)), run L 112 [I i, I left, .ptr 0 0, .ptr 2 0, .ptr 1 0, .ptr 3 0] (S4 (bkCells nl n ps) v room J) = some (B b, S4 (bkCells nl n ps) v' room' J') ∧ Frame J v J' v' ∧
    match findL n (ps.drop i) room left with
    | some l => b = true ∧ Rep J' (o ++ l) v' ∧ room'.length = 7
    | none => b = false ∧ Rep J' o v' ∧ room' = room


theorem firstV_len (n : Int) (ps : List (Int × Int)) : (firstV n ps).1.length ≤ 7 := by
  unfold firstV
  split
  · next h =>
    obtain ⟨h1, h2, h3, h4, h5⟩ := chk_zero h
    obtain ⟨k, rfl⟩ := Int.eq_ofNat_of_zero_le (show 0 ≤ n by omega)
    obtain ⟨g1, g2, g3⟩ := short_spec (n := k) (by omega) h4 h5
    rw [List.mem_map] at g1
    obtain ⟨l, g1, g4⟩ := g1
    have := withL_len 2 l 0
    have h6 := (cheap_in g1).1
    simp only [Int.toNat_natCast]
    rw [← g4]; unfold twos; omega
  · simp

attribute [local go_sem high] and_one shr_u shl_one or_u

/-! ### a walk along pairs: always to the first that is free -/
/-! ### the lists of rings, and the ring that grows -/
def rwAV (l : List Int) : AV := sl 1 true (l.map I)
def rAV (k : Nat) (rows : List (List Int)) : AV := if rows = [] then .v (.slice none 0 0) else .lst (.own k rows.length) 1 (rows.map rwAV)
/-- A ring of one is a fresh list. -/
def wAV (k : Nat) (row : List Int) : AV := if row.length = 1 then .lst .full 1 (row.map I) else .lst (.own k row.length) 1 (row.map I)
def wT (row : List Int) : List Nat := if row.length = 1 then [] else [row.length]
def rXAV (T0 : List Nat) (rows : List (List Int)) (row : List Int) : AV := if rows = [] then .lst (.own (T0 ++ wT row).length 1) 1 [rwAV row] else .lst (.own T0.length (rows.length + 1)) 1 ((rows ++ [row]).map rwAV)
theorem shaped_w (k : Nat) (row : List Int) : (wAV k row).shaped = true := by unfold wAV; split <;> rfl
theorem cells_w (k : Nat) (row : List Int) : (wAV k row).cells = [wAV k row] := by unfold wAV; split <;> rfl
theorem isAgg_w (k : Nat) (row : List Int) : Ev.isAgg (wAV k row) = false := by unfold wAV; split <;> rfl
theorem storable_w (k : Nat) (row : List Int) : storable (wAV k row) = true := by unfold wAV; split <;> rfl
theorem okRef_w (n k : Nat) (row : List Int) : okRef n (wAV k row) = true := by unfold wAV; split <;> rfl
theorem okRef_r (n k : Nat) (rows : List (List Int)) : okRef n (rAV k rows) = true := by unfold rAV; split <;> rfl
theorem okRef_rX (n : Nat) (T0 : List Nat) (rows : List (List Int)) (row : List Int) : okRef n (rXAV T0 rows row) = true := by unfold rXAV; split <;> rfl
attribute [local go_sem] shaped_w cells_w isAgg_w storable_w okRef_w okRef_r okRef_rX okRef_out storable_out shaped_out cells_out fin_out pub_out

attribute [local go_sem] okRef_out storable_out shaped_out cells_out fin_out pub_out okRef_w okRef_r okRef_rX

/-! ### the rings, by the program -/
theorem fin_r (st : St) (k : Nat) (rows : List (List Int)) : fin st (rAV k rows) = sl 1 true (rows.map rwAV) := by
  unfold rAV
  by_cases h : rows = []
  · subst h; rfl
  · rw [if_neg h, sl_ne (by simpa using h)]; rfl
attribute [local go_sem] fin_r


/-! ### how many sets of articles there are that nothing can be added to (Moon and Moser) -/
def gM (k : Nat) : Nat := [1, 1, 2, 3, 4, 6, 9, 12].getD k 0
theorem gM_step : (List.range 8).all (fun k => (List.range 8).all fun d => Nat.ble 1 d && Nat.ble d k → decide (d * gM (k - d) ≤ gM k)) = true := by decide
theorem gM_mono : (List.range 8).all (fun a => (List.range 8).all fun b => Nat.ble a b → decide (gM a ≤ gM b)) = true := by decide
theorem gM_step' {k d : Nat} (hk : k ≤ 7) (h1 : 1 ≤ d) (h2 : d ≤ k) : d * gM (k - d) ≤ gM k := by
  have h := List.all_eq_true.1 (List.all_eq_true.1 gM_step k (List.mem_range.2 (by omega))) d (List.mem_range.2 (by omega))
  rw [decide_eq_true_iff] at h
  exact of_decide_eq_true (h (by rw [Nat.ble_eq_true_of_le h1, Nat.ble_eq_true_of_le h2]; rfl))
theorem gM_mono' {a b : Nat} (hb : b ≤ 7) (h : a ≤ b) : gM a ≤ gM b := by
  have h2 := List.all_eq_true.1 (List.all_eq_true.1 gM_mono a (List.mem_range.2 (by omega))) b (List.mem_range.2 (by omega))
  rw [decide_eq_true_iff] at h2
  exact of_decide_eq_true (h2 (Nat.ble_eq_true_of_le h))
theorem union_len {p : Nat → Nat → Bool} {B : Nat} : ∀ (K L : List Nat), (∀ z ∈ L, ∃ w ∈ K, p w z = true) → (∀ w ∈ K, (L.filter (p w)).length ≤ B) → L.length ≤ K.length * B
  | [], L, h, _ => by
    cases L with
    | nil => simp
    | cons z L => obtain ⟨w, hw, _⟩ := h z (by simp); simp at hw
  | w :: K, L, h, hB => by
    have h1 := hB w (by simp)
    have h2 := filter_lt (p w) L
    have h3 := union_len (p := p) (B := B) K (L.filter fun z => !p w z) (by
      intro z hz
      rw [List.mem_filter] at hz
      obtain ⟨u, hu, h4⟩ := h z hz.1
      rcases List.mem_cons.1 hu with rfl | hu
      · rw [h4] at hz; simp at hz
      · exact ⟨u, hu, h4⟩) (by
      intro u hu
      rw [List.filter_filter]
      have h4 := hB u (by simp [hu])
      have h5 := filter_le_len (fun z => p u z && !p w z) (p u) L (fun x _ hx => by rw [Bool.and_eq_true] at hx; exact hx.1)
      omega)
    rw [List.length_cons, Nat.add_mul]; omega
/-- Articles that do not contradict each other, to which none can be added. -/
def Mx (J : Nat → Nat → Bool) (V : Nat → Bool) (z : Nat) : Prop :=
  z < 128 ∧ (∀ u, z.testBit u = true → V u = true) ∧ (∀ u w, z.testBit u = true → z.testBit w = true → J u w = false) ∧ ∀ u, u < 7 → V u = true → z.testBit u = true ∨ ∃ w, w < 7 ∧ z.testBit w = true ∧ J u w = true
def sizeV (V : Nat → Bool) : Nat := ((List.range 7).filter V).length
def nbV (J : Nat → Nat → Bool) (V : Nat → Bool) (v : Nat) : List Nat := (List.range 7).filter fun u => V u && (u == v || J v u)
def offV (J : Nat → Nat → Bool) (V : Nat → Bool) (v : Nat) : Nat → Bool := fun u => V u && !(u == v || J v u)
theorem off_size (J : Nat → Nat → Bool) (V : Nat → Bool) (v : Nat) : sizeV (offV J V v) + (nbV J V v).length = sizeV V := by
  unfold sizeV nbV offV
  have h := filter_lt (fun u => u == v || J v u) ((List.range 7).filter V)
  rw [List.filter_filter, List.filter_filter] at h
  have e1 : (List.range 7).filter (fun u => V u && (u == v || J v u)) = (List.range 7).filter fun u => (u == v || J v u) && V u := by
    congr 1; funext u; exact Bool.and_comm _ _
  have e2 : (List.range 7).filter (fun u => V u && !(u == v || J v u)) = (List.range 7).filter fun u => !(u == v || J v u) && V u := by
    congr 1; funext u; exact Bool.and_comm _ _
  rw [e1, e2]; omega
theorem xor_bit (z w u : Nat) : (z ^^^ 2 ^ w).testBit u = (z.testBit u ^^ decide (w = u)) := by rw [Nat.testBit_xor, Nat.testBit_two_pow]
theorem xor_back (z w : Nat) : (z ^^^ 2 ^ w) ^^^ 2 ^ w = z := by
  apply Nat.eq_of_testBit_eq
  intro u
  rw [xor_bit, xor_bit, Bool.xor_assoc, Bool.xor_self, Bool.xor_false]
theorem nodup_map_inj {α β : Type} {f : α → β} : ∀ {l : List α}, l.Nodup → (∀ a ∈ l, ∀ b ∈ l, f a = f b → a = b) → (l.map f).Nodup
  | [], _, _ => by simp
  | a :: l, h, hi => by
    rw [List.nodup_cons] at h
    rw [List.map_cons, List.nodup_cons]
    refine ⟨?_, nodup_map_inj h.2 (fun x hx y hy => hi x (by simp [hx]) y (by simp [hy]))⟩
    intro hm
    obtain ⟨b, hb, e⟩ := List.mem_map.1 hm
    have := hi b (by simp [hb]) a (by simp) e
    subst this; exact h.1 hb
theorem mm {J : Nat → Nat → Bool} (hs : ∀ a b, J a b = J b a) (hr : ∀ a, J a a = false) : ∀ (k : Nat), k ≤ 7 → ∀ V : Nat → Bool, (∀ u, V u = true → u < 7) → sizeV V = k → ∀ L : List Nat, L.Nodup → (∀ z ∈ L, Mx J V z) → L.length ≤ gM k := by
  intro k
  induction k using Nat.strongRecOn with
  | ind k ih =>
    intro hk V hV7 hV L hnd hL
    by_cases h0 : k = 0
    · subst h0
      have hno : ∀ u, V u = false := by
        intro u
        cases e : V u
        · rfl
        · have : u ∈ (List.range 7).filter V := List.mem_filter.2 ⟨List.mem_range.2 (hV7 u e), e⟩
          have := List.length_pos_of_mem this
          unfold sizeV at hV; omega
      have := nodup_len_le L [0] hnd (by
        intro z hz
        have hz2 := hL z hz
        have : z = 0 := by
          apply Nat.eq_of_testBit_eq
          intro u
          rw [Nat.zero_testBit]
          cases e : z.testBit u
          · rfl
          · have := hz2.2.1 u e; rw [hno u] at this; simp at this
        simp [this])
      simpa [gM] using this
    · have hne : (List.range 7).filter V ≠ [] := by
        intro e; unfold sizeV at hV; rw [e] at hV; simp at hV; omega
      have hne2 := least_ne (fun u => ((nbV J V u).length : Int)) _ hne
      obtain ⟨v, hv⟩ := List.exists_mem_of_ne_nil _ hne2
      rw [mem_least] at hv
      obtain ⟨hv1, hv2⟩ := hv
      obtain ⟨hv7, hvV⟩ := List.mem_filter.1 hv1
      rw [List.mem_range] at hv7
      have hd1 : 1 ≤ (nbV J V v).length := List.length_pos_of_mem (a := v) (List.mem_filter.2 ⟨List.mem_range.2 hv7, by simp [hvV]⟩)
      have hsz := off_size J V v
      have hB : ∀ w ∈ nbV J V v, (L.filter fun z => z.testBit w).length ≤ gM (k - (nbV J V v).length) := by
        intro w hw
        obtain ⟨hw7, hw2⟩ := List.mem_filter.1 hw
        rw [List.mem_range] at hw7
        rw [Bool.and_eq_true] at hw2
        have hwV := hw2.1
        have hmin := hv2 w (List.mem_filter.2 ⟨List.mem_range.2 hw7, hwV⟩)
        have hw1 : 1 ≤ (nbV J V w).length := List.length_pos_of_mem (a := w) (List.mem_filter.2 ⟨List.mem_range.2 hw7, by simp [hwV]⟩)
        have hszw := off_size J V w
        have hi := ih (sizeV (offV J V w)) (by omega) (by omega) (offV J V w) (by
          intro u hu; unfold offV at hu; rw [Bool.and_eq_true] at hu; exact hV7 u hu.1) rfl ((L.filter fun z => z.testBit w).map fun z => z ^^^ 2 ^ w) (by
          apply nodup_map_inj (hnd.filter _)
          intro a _ b _ e
          have := congrArg (fun z => z ^^^ 2 ^ w) e
          simp only [xor_back] at this
          exact this) (by
          intro z' hz'
          obtain ⟨z, hz, rfl⟩ := List.mem_map.1 hz'
          obtain ⟨hz, hzw⟩ := List.mem_filter.1 hz
          obtain ⟨m1, m2, m3, m4⟩ := hL z hz
          have hbit : ∀ u, (z ^^^ 2 ^ w).testBit u = true ↔ z.testBit u = true ∧ u ≠ w := by
            intro u
            rw [xor_bit]
            by_cases e : w = u
            · subst e; rw [hzw]; simp
            · have : decide (w = u) = false := by simp [e]
              rw [this, Bool.xor_false]
              constructor
              · intro h; exact ⟨h, fun h2 => e h2.symm⟩
              · exact fun h => h.1
          refine ⟨?_, ?_, ?_, ?_⟩
          · exact Nat.xor_lt_two_pow (n := 7) m1 (Nat.pow_lt_pow_right (by omega) hw7)
          · intro u hu
            obtain ⟨h1, h2⟩ := (hbit u).1 hu
            have h3 := m3 w u hzw h1
            unfold offV
            rw [m2 u h1, h3]; simp [h2]
          · intro a b ha hb
            exact m3 a b ((hbit a).1 ha).1 ((hbit b).1 hb).1
          · intro u hu hVu
            unfold offV at hVu
            rw [Bool.and_eq_true] at hVu
            obtain ⟨g1, g2⟩ := hVu
            have g3 : u ≠ w ∧ J w u = false := by
              rw [Bool.not_eq_true', Bool.or_eq_false_iff] at g2
              exact ⟨by simpa using g2.1, g2.2⟩
            rcases m4 u hu g1 with h1 | ⟨x, h1, h2, h3⟩
            · exact .inl ((hbit u).2 ⟨h1, g3.1⟩)
            · refine .inr ⟨x, h1, (hbit x).2 ⟨h2, ?_⟩, h3⟩
              rintro rfl
              rw [hs] at h3; rw [h3] at g3; simp at g3)
        rw [List.length_map] at hi
        have := gM_mono' (a := sizeV (offV J V w)) (b := k - (nbV J V v).length) (by omega) (by omega)
        omega
      have hU := union_len (p := fun w z => z.testBit w) (B := gM (k - (nbV J V v).length)) (nbV J V v) L (by
        intro z hz
        obtain ⟨m1, m2, m3, m4⟩ := hL z hz
        rcases m4 v hv7 hvV with h1 | ⟨w, h1, h2, h3⟩
        · exact ⟨v, List.mem_filter.2 ⟨List.mem_range.2 hv7, by simp [hvV]⟩, h1⟩
        · exact ⟨w, List.mem_filter.2 ⟨List.mem_range.2 h1, by rw [m2 w h2, h3]; simp⟩, h2⟩) hB
      have := gM_step' hk hd1 (by omega)
      omega

/-! ### the shortest lists -/


/-! ### values by a rule -/
theorem allL2_mem : ∀ (v : List Int), (∀ x ∈ v, x = 0 ∨ x = 2) → v ∈ allL 2 v.length
  | [], _ => by simp [allL]
  | a :: r, h => by
    have ih := allL2_mem r (fun x hx => h x (by simp [hx]))
    have ha := h a (by simp)
    simp only [List.length_cons, allL, List.mem_flatMap, List.mem_map]
    refine ⟨a.toNat, ?_, r, ih, by rcases ha with rfl | rfl <;> rfl⟩
    rcases ha with rfl | rfl <;> decide
def byF (n : Nat) (f : Nat → Int) : List Int := (List.range n).map f
theorem byF_len (n : Nat) (f : Nat → Int) : (byF n f).length = n := by simp [byF]
theorem byF_getD {n : Nat} (f : Nat → Int) {a : Nat} (ha : a < n) : (byF n f).getD a 0 = f a := by
  unfold byF; rw [List.getD_eq_getElem?_getD, List.getElem?_map, List.getElem?_range ha]; rfl
theorem byF_all2 {n : Nat} {f : Nat → Int} (h : ∀ a, a < n → f a = 0 ∨ f a = 2) : byF n f ∈ allL 2 n := by
  have := allL2_mem (byF n f) (by
    intro x hx; unfold byF at hx; obtain ⟨a, ha, rfl⟩ := List.mem_map.1 hx; exact h a (List.mem_range.1 ha))
  rwa [byF_len] at this
theorem byF_all1 {n : Nat} {f : Nat → Int} (h : ∀ a, a < n → 0 ≤ f a ∧ f a ≤ 2) : byF n f ∈ allL 1 n := by
  have := allL1_mem (byF n f) (by
    intro x hx; unfold byF at hx; obtain ⟨a, ha, rfl⟩ := List.mem_map.1 hx; exact h a (List.mem_range.1 ha))
  rwa [byF_len] at this
theorem byF_half {n : Nat} {ps : List (Int × Int)} (hps : ∀ p ∈ ps, 0 ≤ p.1 ∧ p.1 < p.2 ∧ p.2 < (n : Int)) {f : Nat → Int} (h : ∀ a b, a < n → b < n → nb ps a b → 2 ≤ f a + f b) : halfOk ps (byF n f) = true := by
  rw [half_nb hps]
  intro a b hab
  have hl := nb_lt hps hab
  rw [byF_getD f hl.1, byF_getD f hl.2.1]
  exact h a b hl.1 hl.2.1 hab
theorem val_range {v : List Int} {n : Nat} (h : v.length = n) : sumL v = sumL ((List.range n).map fun a => v.getD a 0) := by rw [← list_range v n h]
theorem bestL_in {X : List (List Int)} (h : X ≠ []) : bestL X ∈ X ∧ ∀ c ∈ X, lexLt c (bestL X) = false := by
  cases X with
  | nil => exact absurd rfl h
  | cons b r => exact pickL_spec r b
theorem cheap_two_sum {n : Nat} {ps : List (Int × Int)} {y : List Int} (h : y ∈ cheap n 2 ps) : sumL y = 2 * ((twos y).length : Int) :=
  two_sum y 0 (allL2_val n y (cheap_mem.1 h).1.1)
theorem first_cheap {n : Nat} {ps : List (Int × Int)} (hps : ∀ p ∈ ps, 0 ≤ p.1 ∧ p.1 < p.2 ∧ p.2 < (n : Int)) : ∃ y ∈ cheap n 2 ps, bestL ((cheap n 2 ps).map twos) = twos y := by
  have hne : (cheap n 2 ps).map twos ≠ [] := by
    intro e; rw [List.map_eq_nil_iff] at e; exact cheap_ne 2 hps e
  obtain ⟨y, h1, h2⟩ := List.mem_map.1 (bestL_in hne).1
  exact ⟨y, h1, h2.symm⟩


/-! ### lists of lists are equal -/
/-! ### a list of lists that grows, above other tips -/
def nAV (k : Nat) (o : List (List Int)) : AV := if o = [] then .v (.slice none 0 0) else .lst (.own k o.length) 1 (o.map listAV)
theorem okRef_n (n k : Nat) (o : List (List Int)) : okRef n (nAV k o) = true := by unfold nAV; split <;> rfl
theorem fin_n (st : St) (k : Nat) (o : List (List Int)) : fin st (nAV k o) = sl 1 true (o.map listAV) := by
  unfold nAV
  by_cases h : o = []
  · subst h; rfl
  · rw [if_neg h, sl_ne (by simpa using h)]; rfl
attribute [local go_sem] okRef_out storable_out shaped_out cells_out fin_out pub_out okRef_n fin_n


/-! ### sorting lists -/
def tAV (l : List Int) : AV := sl 1 true (l.map I)
theorem shaped_t (l : List Int) : (tAV l).shaped = true := by unfold tAV sl; split <;> rfl
theorem cells_t (l : List Int) : (tAV l).cells = [tAV l] := by unfold tAV sl; split <;> rfl
theorem isAgg_t (l : List Int) : Ev.isAgg (tAV l) = false := by unfold tAV sl; split <;> rfl
theorem storable_t (l : List Int) : storable (tAV l) = true := by unfold tAV sl; split <;> rfl
theorem okRef_t (n : Nat) (l : List Int) : okRef n (tAV l) = true := by unfold tAV sl; split <;> rfl
theorem pub_t (l : List Int) : pub (tAV l) = tAV l := pub_sl _ _ _
attribute [local go_sem] shaped_t cells_t isAgg_t storable_t okRef_t

attribute [local go_sem] shaped_t cells_t isAgg_t storable_t okRef_t pub_t

/-! ### good values and shares -/
theorem totalV_ok {l : List Int} {n : Nat} (h : l.length = n) (hb : ∀ x ∈ l, 0 ≤ x ∧ x ≤ 2) : totalV l n = sumL l := by
  unfold totalV
  have ha : l.all in02 = true := List.all_eq_true.2 fun x hx => decide_eq_true (hb x hx)
  rw [if_pos (by omega), if_pos ha]
theorem sum_nn : ∀ l : List Int, (∀ x ∈ l, 0 ≤ x) → 0 ≤ sumL l
  | [], _ => by simp [sumL]
  | a :: r, h => by
    have h1 := h a (by simp)
    have h2 := sum_nn r (fun x hx => h x (by simp [hx]))
    simp only [sumL]; omega
/-! ### a shortest list that does as halves say -/

attribute [local go_sem] shaped_t cells_t isAgg_t storable_t okRef_t pub_t

theorem halves_total {n : Nat} {ps : List (Int × Int)} (hn1 : 1 ≤ n) (hn : n ≤ 7) (hps : ∀ p ∈ ps, 0 ≤ p.1 ∧ p.1 < p.2 ∧ p.2 < (n : Int)) (h7 : ∀ p ∈ ps, okP p) : (halvesV n ps).length = n ∧ totalV (halvesV n ps) n = sumL (halvesV n ps) ∧ 0 ≤ sumL (halvesV n ps) := by
  obtain ⟨h1, h2⟩ := allL_in n _ (cheap_mem.1 (halves_spec hn1 hn hps h7).1).1.1
  exact ⟨h1, totalV_ok h1 h2, sum_nn _ fun x hx => (h2 x hx).1⟩


/-! ### one pair more -/
section
variable {n : Nat} {qs : List (Int × Int)} {p : Int × Int} (hqs : ∀ p ∈ qs, 0 ≤ p.1 ∧ p.1 < p.2 ∧ p.2 < (n : Int)) (hp : 0 ≤ p.1 ∧ p.1 < p.2 ∧ p.2 < (n : Int))
include hqs hp
theorem more_ok : ∀ q ∈ qs ++ [p], 0 ≤ q.1 ∧ q.1 < q.2 ∧ q.2 < (n : Int) := by
  intro q hq
  rcases List.mem_append.1 hq with h | h
  · exact hqs q h
  · rw [List.mem_singleton.1 h]; exact hp
theorem half_more (v : List Int) : halfOk (qs ++ [p]) v = true ↔ halfOk qs v = true ∧ enough v p = true := by
  unfold halfOk
  rw [List.all_append, Bool.and_eq_true]
  simp
theorem more_le {t : Nat} (ht : t = 1 ∨ t = 2) {a b : List Int} (ha : a ∈ cheap n t qs) (hb : b ∈ cheap n t (qs ++ [p])) : sumL a ≤ sumL b ∧ sumL b ≤ sumL a + 2 := by
  obtain ⟨⟨a1, a2⟩, a3⟩ := cheap_mem.1 ha
  obtain ⟨⟨b1, b2⟩, b3⟩ := cheap_mem.1 hb
  refine ⟨a3 b b1 ((half_more hqs hp b).1 b2).1, ?_⟩
  obtain ⟨al, ab⟩ := allL_in n a a1
  have hbd := fun x => getD_bd (B := 2) (by omega) ab x
  have hf0 : ∀ x : Nat, a.getD x 0 ≤ (if x = p.1.toNat then 2 else a.getD x 0) := by
    intro x; have := hbd x; split <;> omega
  have hh : halfOk (qs ++ [p]) (byF n fun x => if x = p.1.toNat then 2 else a.getD x 0) = true := by
    apply byF_half (more_ok hqs hp)
    intro x y hx hy hxy
    have h0 := (half_nb hqs a).1 a2
    have d : nb qs x y ∨ (x = p.1.toNat ∨ y = p.1.toNat) := by
      rcases hxy with h | h <;> rcases List.mem_append.1 h with h | h
      · exact .inl (.inl h)
      · have e := List.mem_singleton.1 h
        right; left; rw [← e]; simp
      · exact .inl (.inr h)
      · have e := List.mem_singleton.1 h
        right; right; rw [← e]; simp
    have hx2 := hf0 x
    have hy2 := hf0 y
    have hx3 := hbd x
    have hy3 := hbd y
    rcases d with d | d | d
    · have := h0 x y d
      omega
    · rw [if_pos d]; omega
    · rw [if_pos d]; omega
  have hall : (byF n fun x => if x = p.1.toNat then 2 else a.getD x 0) ∈ allL t n := by
    rcases ht with rfl | rfl
    · apply byF_all1
      intro x _
      have := hbd x
      split <;> omega
    · apply byF_all2
      intro x hx
      split
      · exact .inr rfl
      · have := allL2_val n a a1 (a.getD x 0) (by
          rw [List.getD_eq_getElem?_getD, List.getElem?_eq_getElem (by omega : x < a.length)]; exact List.getElem_mem _)
        exact this
  have h1 := b3 _ hall hh
  have h2 : sumL (byF n fun x => if x = p.1.toNat then 2 else a.getD x 0) = sumL ((List.range n).map fun x => a.getD x 0) + (2 - a.getD p.1.toNat 0) := by
    refine sum_upd (i := p.1.toNat) (List.range n) List.nodup_range (List.mem_range.2 (by omega)) ?_ ?_
    · intro x _ hx; rw [if_neg hx]
    · rw [if_pos rfl]; omega
  rw [← val_range al] at h2
  have := hbd p.1.toNat
  omega
theorem more_first : (bestL ((cheap n 2 qs).map twos)).length ≤ (bestL ((cheap n 2 (qs ++ [p])).map twos)).length ∧ (bestL ((cheap n 2 (qs ++ [p])).map twos)).length ≤ (bestL ((cheap n 2 qs).map twos)).length + 1 := by
  obtain ⟨y, hy, e⟩ := first_cheap hqs
  obtain ⟨z, hz, e2⟩ := first_cheap (more_ok hqs hp)
  have h1 := cheap_two_sum hy
  have h2 := cheap_two_sum hz
  have h3 := more_le hqs hp (.inr rfl) hy hz
  rw [e, e2]
  omega
theorem more_halves (hn1 : 1 ≤ n) (hn : n ≤ 7) (h7 : ∀ q ∈ qs ++ [p], okP q) : sumL (halvesV n qs) ≤ sumL (halvesV n (qs ++ [p])) ∧ sumL (halvesV n (qs ++ [p])) ≤ sumL (halvesV n qs) + 2 :=
  more_le hqs hp (.inl rfl) (halves_spec hn1 hn hqs (fun q hq => h7 q (List.mem_append_left _ hq))).1 (halves_spec hn1 hn (more_ok hqs hp) h7).1
end


/-! ### sorting numbers -/
theorem set_same {α : Type} (S : List α) (l : Nat) (c : α) (h : S[l]? = some c) : S.set l c = S := by
  apply List.ext_getElem?
  intro i
  rw [List.getElem?_set]
  split
  · next e => subst e; rw [h]; split <;> simp_all
  · rfl


/-! ### pairs in a block that may be written -/
def prC (ps : List (Int × Int)) : List AV := ps.flatMap fun p => [I p.1, I p.2]
theorem prC_cons (p : Int × Int) (ps : List (Int × Int)) : prC (p :: ps) = I p.1 :: I p.2 :: prC ps := rfl
theorem prC_append (a b : List (Int × Int)) : prC (a ++ b) = prC a ++ prC b := List.flatMap_append
theorem prC_len : ∀ ps : List (Int × Int), (prC ps).length = ps.length * 2
  | [] => rfl
  | p :: r => by rw [prC_cons, List.length_cons, List.length_cons, prC_len r, List.length_cons]; omega
theorem prC_at : ∀ (ps : List (Int × Int)) (i : Nat) (p : Int × Int), ps[i]? = some p → ((prC ps).drop (i * 2)).take 2 = [I p.1, I p.2]
  | [], i, p, h => by simp at h
  | q :: r, 0, p, h => by
    have : q = p := by simpa using h
    subst this; rfl
  | q :: r, i + 1, p, h => by
    rw [prC_cons, show (i + 1) * 2 = i * 2 + 1 + 1 by omega, List.drop_succ_cons, List.drop_succ_cons]
    exact prC_at r i p (by simpa using h)
theorem prC_put : ∀ (ps : List (Int × Int)) (i : Nat) (a b : Int), i < ps.length → ((prC ps).set (i * 2) (I a)).set (i * 2 + 1) (I b) = prC (ps.set i (a, b))
  | [], i, a, b, h => by simp at h
  | q :: r, 0, a, b, h => rfl
  | q :: r, i + 1, a, b, h => by
    rw [prC_cons, show (i + 1) * 2 = i * 2 + 1 + 1 by omega, List.set_cons_succ, List.set_cons_succ, List.set_cons_succ, List.set_cons_succ, prC_put r i a b (by simpa using h), List.set_cons_succ, prC_cons]


/-! ### blocks that name nothing -/
def Calm (a : AV) : Prop := (∀ n acc, refsV n acc a = acc) ∧ (∀ n M, mapL n M a = a) ∧ (∀ n, okRef n a = true) ∧ (∀ n T acc, ren1 n T acc a = (a, acc)) ∧ ∀ l cs, frzV l cs a = a
theorem calm_v (x : Value) : Calm (.v x) := ⟨fun _ _ => by simp only [refsV], fun _ _ => by simp only [mapL], fun _ => by simp only [okRef], fun _ _ _ => by simp only [ren1], fun _ _ => by simp only [frzV]⟩
def Inert (Q : List AV) : Prop := (∀ n acc, refsL n acc Q = acc) ∧ (∀ n M, mapLs n M Q = Q) ∧ (∀ n, okRefs n Q = true) ∧ (∀ n T acc, renCells n T acc Q = (Q, acc)) ∧ ∀ l cs, frzVs l cs Q = Q
theorem inert_of : ∀ (Q : List AV), (∀ a ∈ Q, Calm a) → Inert Q
  | [], _ => ⟨fun _ _ => by simp only [refsL], fun _ _ => by simp only [mapLs], fun _ => by simp only [okRefs], fun _ _ _ => by simp only [renCells], fun _ _ => by simp only [frzVs]⟩
  | a :: Q, h => by
    obtain ⟨h1, h2, h3, h4, h5⟩ := h a (by simp)
    obtain ⟨g1, g2, g3, g4, g5⟩ := inert_of Q fun b hb => h b (by simp [hb])
    exact ⟨fun n acc => by simp only [refsL, h1, g1], fun n M => by simp only [mapLs, h2, g2], fun n => by simp only [okRefs, h3, g3, Bool.and_self], fun n T acc => by simp only [renCells, h4, g4], fun l cs => by simp only [frzVs, h5, g5]⟩
theorem inert_map {α : Type} (f : α → Value) (xs : List α) : Inert (xs.map fun x => .v (f x)) := inert_of _ fun a ha => by
  obtain ⟨x, _, rfl⟩ := List.mem_map.1 ha
  exact calm_v _
theorem inert_prC (ps : List (Int × Int)) : Inert (prC ps) := inert_of _ fun a ha => by
  unfold prC at ha
  obtain ⟨p, _, h⟩ := List.mem_flatMap.1 ha
  simp only [List.mem_cons, List.not_mem_nil, or_false] at h
  rcases h with rfl | rfl <;> exact calm_v _
/-! ### the numbers of articles -/


/-- A list of pairs that may be written, in block l. -/
def wpA (l : Nat) (o : List (Int × Int)) : AV := if o = [] then .v (.slice none 0 0) else .rsl l 0 o.length o.length 2 true
def wpS (o : List (Int × Int)) : List (List AV) := if o = [] then [] else [prC o]
theorem wpA_ne {l : Nat} {o : List (Int × Int)} (h : o ≠ []) : wpA l o = .rsl l 0 o.length o.length 2 true := by unfold wpA; rw [if_neg h]
theorem wpS_ne {o : List (Int × Int)} (h : o ≠ []) : wpS o = [prC o] := by unfold wpS; rw [if_neg h]
theorem wp_nil (x y : Int) (S : List (List AV)) (T : List Nat) : appendmAV 2 true (.v (.slice none 0 0)) [.agg [I x, I y]] ⟨S, T⟩ = some (.rsl S.length 0 1 1 2 true, ⟨S ++ [prC [(x, y)]], T⟩) := by
  simp [appendmAV, newM, maxGrow, flatAV, AV.cells, prC]
theorem wp_at (S : List (List AV)) (T : List Nat) (l : Nat) (o : List (Int × Int)) (x y : Int) (h : S[l]? = some (prC o)) (h1 : 1 ≤ o.length) (h2 : o.length ≤ 1000) : appendmAV 2 true (.rsl l 0 o.length o.length 2 true) [.agg [I x, I y]] ⟨S, T⟩ = some (.rsl S.length 0 (o.length + 1) (o.length + 1) 2 true, ⟨S.set l [] ++ [prC (o ++ [(x, y)])], T⟩) := by
  have hl := prC_len o
  simp only [appendmAV, h]
  rw [if_pos ⟨trivial, trivial, Nat.le_refl _, by omega, by omega⟩, if_neg (by simp), if_pos ⟨trivial, by unfold maxGrow; simp; omega, by simp⟩]
  rw [List.take_of_length_le (by omega), prC_append]
  simp [flatAV, AV.cells, prC]


theorem prC_ne {o : List (Int × Int)} (h : o ≠ []) : prC o ≠ [] := by
  cases o with
  | nil => exact absurd rfl h
  | cons p r => simp [prC_cons]


/-! ### one pair more: the plain law -/
def moreX (n a : Int) : Int := a % n
def moreY (n a b : Int) : Int := (a % n + 1 + b % (n - 1)) % n
def moreP (n a b : Int) : Int × Int := (min (moreX n a) (moreY n a b), max (moreX n a) (moreY n a b))
/-- A list without a pair, which it has at most once. -/
def delP (ps : List (Int × Int)) (p : Int × Int) : List (Int × Int) := match ps.findIdx? (fun q => decide (q = p)) with
  | some i => ps.eraseIdx i
  | none => ps
theorem moreP_ok {n a b : Int} (hn : 2 ≤ n) (ha : 0 ≤ a) (hb : 0 ≤ b) : 0 ≤ (moreP n a b).1 ∧ (moreP n a b).1 < (moreP n a b).2 ∧ (moreP n a b).2 < n := by
  have r1 := mod_range a n (by omega)
  have r2 := mod_range b (n - 1) (by omega)
  have r3 := mod_range (a % n + 1 + b % (n - 1)) n (by omega)
  have hne : a % n ≠ (a % n + 1 + b % (n - 1)) % n := by
    by_cases h : a % n + 1 + b % (n - 1) < n
    · rw [Int.emod_eq_of_lt (by omega) h]; omega
    · have e : (a % n + 1 + b % (n - 1)) % n = a % n + 1 + b % (n - 1) - n := by
        rw [← Int.sub_emod_right, Int.emod_eq_of_lt (by omega) (by omega)]
      rw [e]; omega
  unfold moreP moreX moreY
  simp only
  omega
theorem delP_sub (ps : List (Int × Int)) (p : Int × Int) : (delP ps p).Sublist ps := by
  unfold delP
  split
  · exact List.eraseIdx_sublist _ _
  · exact List.Sublist.refl _
theorem delP_not {ps : List (Int × Int)} {p : Int × Int} (h : ps.Nodup) : p ∉ delP ps p := by
  unfold delP
  cases e : ps.findIdx? (fun q => decide (q = p)) with
  | none =>
    simp only
    rw [List.findIdx?_eq_none_iff] at e
    intro hm
    have := e p hm
    simp at this
  | some i =>
    simp only
    rw [List.findIdx?_eq_some_iff_getElem] at e
    obtain ⟨hi, h1, _⟩ := e
    rw [decide_eq_true_eq] at h1
    rw [List.eraseIdx_eq_take_drop_succ]
    have hd : ps = ps.take i ++ ps[i] :: ps.drop (i + 1) := by
      rw [← List.drop_eq_getElem_cons hi, List.take_append_drop]
    rw [h1] at hd
    rw [hd] at h
    rw [List.nodup_append, List.nodup_cons] at h
    intro hm
    rcases List.mem_append.1 hm with hm | hm
    · exact h.2.2 p hm p (by simp) rfl
    · exact h.2.1.1 hm
/-- The book that is left. -/
def keptQ (ps : List (Int × Int)) (p : Int × Int) : List (Int × Int) := (delP ps p).take 9
theorem kept_sub (ps : List (Int × Int)) (p : Int × Int) : (keptQ ps p).Sublist ps := (List.take_sublist _ _).trans (delP_sub ps p)
theorem kept_len (ps : List (Int × Int)) (p : Int × Int) : (keptQ ps p).length ≤ 9 := by unfold keptQ; rw [List.length_take]; omega
theorem kept_not {ps : List (Int × Int)} {p : Int × Int} (h : ps.Nodup) : p ∉ keptQ ps p := fun hm => delP_not h (List.take_subset _ _ hm)
theorem chk_of {n : Nat} {ps : List (Int × Int)} (h1 : 1 ≤ n) (h7 : n ≤ 7) (hl : ps.length ≤ 10) (hps : ∀ p ∈ ps, 0 ≤ p.1 ∧ p.1 < p.2 ∧ p.2 < (n : Int)) (hnd : ps.Nodup) : chk (n : Int) ps = 0 := by
  unfold chk
  rw [if_neg (by omega), if_neg (by omega)]
  exact prsErr_ok ps [] hps (by simpa using hnd)
theorem first_ofM {n : Nat} {ps : List (Int × Int)} (hck : chk (n : Int) ps = 0) : firstV (n : Int) ps = (bestL ((cheap n 2 ps).map twos), 0) := by
  rw [first_eq]; unfold firstR; rw [if_pos hck, Int.toNat_natCast]
theorem hv_of {n : Nat} {ps : List (Int × Int)} (hck : chk (n : Int) ps = 0) : hv (n : Int) ps = (halvesV n ps, 0) := by
  unfold hv; rw [if_pos hck, Int.toNat_natCast]
theorem sumL_le2 : ∀ l : List Int, (∀ x ∈ l, x ≤ 2) → sumL l ≤ 2 * (l.length : Int)
  | [], _ => by simp [sumL]
  | a :: r, h => by
    have h1 := h a (by simp)
    have h2 := sumL_le2 r (fun x hx => h x (by simp [hx]))
    simp only [sumL, List.length_cons]
    omega
theorem more_law {n : Nat} (h2 : 2 ≤ n) (h7 : n ≤ 7) {qs : List (Int × Int)} (hl : qs.length ≤ 9) (hqs : ∀ p ∈ qs, 0 ≤ p.1 ∧ p.1 < p.2 ∧ p.2 < (n : Int)) (hnd : qs.Nodup) {p : Int × Int} (hp : 0 ≤ p.1 ∧ p.1 < p.2 ∧ p.2 < (n : Int)) (hpn : p ∉ qs) :
    ∃ l m v w : List Int, firstV (n : Int) qs = (l, 0) ∧ firstV (n : Int) (qs ++ [p]) = (m, 0) ∧ hv (n : Int) qs = (v, 0) ∧ hv (n : Int) (qs ++ [p]) = (w, 0) ∧
      l.length ≤ m.length ∧ m.length ≤ l.length + 1 ∧ m.length ≤ 7 ∧ v.length = n ∧ w.length = n ∧ totalV v n = sumL v ∧ totalV w n = sumL w ∧ 0 ≤ sumL v ∧ sumL v ≤ sumL w ∧ sumL w ≤ sumL v + 2 ∧ sumL w ≤ 14 := by
  have hmo := more_ok hqs hp
  have hnm : (qs ++ [p]).Nodup := by
    rw [List.nodup_append]
    refine ⟨hnd, by simp, fun x hx y hy => ?_⟩
    rw [List.mem_singleton] at hy; subst hy
    intro e; subst e; exact hpn hx
  have c1 := chk_of (by omega) h7 (by omega : qs.length ≤ 10) hqs hnd
  have c2 := chk_of (by omega) h7 (by rw [List.length_append, List.length_singleton]; omega : (qs ++ [p]).length ≤ 10) hmo hnm
  have k1 : ∀ q ∈ qs, okP q := fun q hq => by have := hqs q hq; unfold okP; omega
  have k2 : ∀ q ∈ qs ++ [p], okP q := fun q hq => by have := hmo q hq; unfold okP; omega
  obtain ⟨f1, f2⟩ := more_first hqs hp
  obtain ⟨g1, g2⟩ := more_halves hqs hp (by omega) h7 k2
  obtain ⟨t1, t2, t3⟩ := halves_total (by omega) h7 hqs k1
  obtain ⟨u1, u2, u3⟩ := halves_total (by omega) h7 hmo k2
  have hlen := firstV_len n (qs ++ [p])
  rw [first_ofM c2] at hlen
  refine ⟨_, _, _, _, first_ofM c1, first_ofM c2, hv_of c1, hv_of c2, f1, f2, hlen, t1, u1, t2, u2, t3, g1, g2, ?_⟩
  have h14 := sumL_le2 (halvesV n (qs ++ [p])) (fun x hx => ((allL_in n _ (cheap_mem.1 (halves_spec (by omega) h7 hmo k2).1).1.1).2 x hx).2)
  omega
end Go.Proofs.YtpmbfgogpcjdlaaDoor.Vm
