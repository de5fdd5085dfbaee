/- What is proved: what each function of this program computes, as equations on the evaluator. No condition. -/
import Derived.Test.YtgohohiaaiogcaaDoorLib
import Derived.Test.YtgohohiaaiogcaaDoorSy
import Derived.KernelRfl
import Derived.WalkKit
import Derived.ProofKit
import Derived.OpenShut
import Derived.Test.YtgohohiaaiogcaaDoorS0
set_option linter.all false
namespace Go.Proofs.YtgohohiaaiogcaaDoor.Vm
open Go Go.Ev
set_option maxRecDepth 100000
attribute [local go_sem] cells_any storable_any ren1_any shaped_ptr cells_ptr storable_ptr ren1_ptr shaped_eptr cells_eptr storable_eptr ren1_eptr shaped_rsl cells_rsl storable_rsl ren1_rsl shaped_int cells_int storable_int ren1_int shaped_bool cells_bool storable_bool ren1_bool shaped_nils cells_nils storable_nils ren1_nils shaped_lst cells_lst storable_lst shaped_fn cells_fn storable_fn ren1_fn shaped_ifc cells_ifc storable_ifc ren1_ifc shaped_agg cells_agg storable_agg ren1_agg shaped_tup cells_tup storable_tup ren1_tup shaped_nif cells_nif storable_nif ren1_nif ren1_lany ren1_lfull ren1_lown len_lst len_rsl len_nil load_ptr load_eptr isRsl_lst isRsl_nil isRsl_rsl elems_nil elems_lst elems_sl isRsl_sl body_eq bodyK_normal bodyK_ret resK_some leaveK_some only_some code_skip code_exit code_ret code_ops code_seq code_cond code_block seqK_normal seqK_ret seqK_exit condK_true condK_false blockK_normal blockK_ret blockK_exit opsK_some ops_nil ops_cons wantK_true wantK_false stepK_some pubs pub pub_sl params okRef_loc storable_loc shaped_loc cells_loc isRsl_loc elems_loc len_loc untips untip untip_sl wantedAV setElems withO isAgg_v isAgg_agg isAgg_lst isAgg_ptr isAgg_fn isAgg_ifc isAgg_rsl isAgg_sl isAgg_loc List.replicate_succ List.replicate_zero opAV valAV aval avals ofVal Env.get setD canon gcAV renAll renEnv renStore renCells ren1_sl cutSt okEnv okStore okRefs okRef okRef_sl bin_int bin_bool bin_lst bin_rsl bin_nil bin_agg cellsEq cellEq isShift intOp boolOp min_int max_int beq_int bne resAV tupAV leave_eq fin_sl fin_loc fins fin_v fin_lst fin_agg fin_tup fin_fn storeAV readCells putCells cells_sl shaped_sl storable_sl fieldAddrAV len_sl goI List.getElem?_cons_zero List.getElem?_cons_succ List.getElem?_nil Option.bind_some Option.map_some List.length_cons List.length_nil List.all_cons List.all_nil Bool.and_true Bool.true_and Bool.and_false Bool.false_and and_true true_and and_false false_and Bool.false_eq_true List.set_cons_zero List.set_cons_succ List.append_nil List.nil_append List.cons_append List.take_zero List.take_succ_cons List.take_nil List.drop_zero List.drop_succ_cons List.map_cons List.map_nil decide_true decide_false beq_self_eq_true Bool.not_true Bool.not_false or_true true_or or_false false_or Nat.zero_add Nat.add_zero Nat.le_refl Nat.lt_irrefl decide_eq_true_eq eq_self_iff_true not_true_eq_false not_false_eq_true List.getD_cons_zero code_loop Nat.zero_le Nat.not_lt_zero Bool.true_beq Bool.false_beq beq_true beq_false ge_iff_le gt_iff_lt keepR keepT ownTop Lpure pus Option.map_none assert_ifc assert_nil idxA_ptr idxA_eptr idxV_agg Int.cast_ofNat_Int Nat.mul_one Nat.zero_mul Int.toNat_natCast Int.toNat_zero setParts withO2 hasKey eqnil_sl nenil_sl eqnil_loc nenil_loc map_nil_iff okRefs_ints renCells_ints

abbrev prAV (a : Int × Int) : AV := .agg [I a.1, I a.2]
abbrev bkAV (nl : Bool) (n : Int) (ps : List (Int × Int)) : AV := .agg [I n, sl 2 nl (ps.map prAV)]
abbrev bkCells (nl : Bool) (n : Int) (ps : List (Int × Int)) : List AV := [I n, sl 2 nl (ps.map prAV)]

theorem succ64 (i : Nat) (h : i < 1000000) : IntKind.i64.wrap ((i : Int) + 1) = ((i + 1 : Nat) : Int) := by
  rw [wrap64] <;> omega
theorem index_prs (nl : Bool) (ps : List (Int × Int)) (i : Nat) (h : i < ps.length) : indexSAV 2 (sl 2 nl (ps.map prAV)) (.v (.int .i64 i)) = some (.eptr (.agg [.v (.int .i64 ps[i].1), .v (.int .i64 ps[i].2)]) 0) := by
  rw [index_sl _ _ _ _ _ (by omega) (by simpa using h)]
  simp
theorem index_ints (nl : Bool) (l : List Int) (i : Nat) (h : i < l.length) : indexSAV 1 (sl 1 nl (l.map I)) (.v (.int .i64 i)) = some (.eptr (I l[i]) 0) := by
  rw [index_sl _ _ _ _ _ (by omega) (by simpa using h)]
  simp
theorem slice_prs (nl : Bool) (ps : List (Int × Int)) (i : Nat) (h : i < ps.length) : sliceAV 2 (sl 2 nl (ps.map prAV)) none (some (.v (.int .i64 i))) none = some (sl 2 false ((ps.take i).map prAV)) := by
  have e : sl 2 nl (ps.map prAV) = .lst .any 2 (ps.map prAV) := by
    unfold sl; rw [if_neg]; rintro ⟨_, h2⟩
    simp at h2; subst h2; simp at h
  rw [e]
  simp [sliceAV, natOr, natOf, tagSlice, sl, List.map_take]
  omega

theorem loop87 (nl : Bool) (ps : List (Int × Int)) (hlen : ps.length < 1000000) (p q : Int) (i : Nat) (hok : i ≤ ps.length) (env : Env) (st : St)
    (hg : gcAV true 1 0 (canon env [0, 3, 7, 8]) st = ([(0, sl 2 nl (ps.map prAV)), (3, .ptr 0 0), (7, I ps.length), (8, I i)], ⟨[[I p, I q]], []⟩)) :
    ∃ x_1 en s, lim (headed pure (run L) true [0, 3, 7, 8] lp87_0 1 0) env st = some (x_1, en, s) ∧ (if (p, q) ∈ ps.drop i then x_1 = .ret ∧ ∃ k : Int, 0 ≤ k ∧ en.get 4 = I k else x_1 = .exit 0) := by
  refine loop_wp (α := Nat) (fun i => ps.length - i) (fun i => i ≤ ps.length) (fun i => ([(0, sl 2 nl (ps.map prAV)), (3, .ptr 0 0), (7, I ps.length), (8, I i)], ⟨[[I p, I q]], []⟩)) (fun i x_1 en s => if (p, q) ∈ ps.drop i then x_1 = .ret ∧ ∃ k : Int, 0 ≤ k ∧ en.get 4 = I k else x_1 = .exit 0) (fun i hok => ?_) i hok env st hg
  by_cases h : i < ps.length
  · have hx := index_prs nl ps i h
    have hs := succ64 i (by omega)
    have hd : ps.drop i = ps[i] :: ps.drop (i + 1) := List.drop_eq_getElem_cons h
    rw [hd]
    generalize ps[i] = a at *
    obtain ⟨u, v⟩ := a
    have hlt : ((i : Int) < (ps.length : Int)) = True := eq_true (by omega)
    simp only at hx
    by_cases e1 : p = u
    · by_cases e2 : q = v
      · subst e1; subst e2
        simp only [go_sem, reduceIte, Nat.reduceEqDiff, Nat.reduceAdd, Nat.reduceSub, Nat.reduceLeDiff, Nat.reduceLT, reduceCtorEq, Int.reduceLT, Int.reduceLE, Int.reduceEq, Int.reduceBEq, Int.reduceSub, Int.reduceAdd, Int.reduceMul, Int.reduceNeg, Int.reduceToNat, Nat.reduceMul, Nat.reduceBEq, index_rsl_if, setm, make_ints, condK_dec, wantK_dec, not_dec, and_dec, or_dec, seqK_ite, seqK_none, blockK_ite, blockK_none, opsK_ite, opsK_none, stepK_ite, stepK_none, bodyK_ite, bodyK_none, resK_ite, resK_none, leaveK_ite, leaveK_none, only_ite, only_none, bind_ite, gives_some, gives_none, gives_ite, then_normal, then_ret, then_exit, then_none, then_ite, Option.bind_none, Bool.not_eq_true', decide_eq_false_iff_not, Bool.and_eq_true, Bool.or_eq_true, Option.some.injEq, Int.not_lt, Int.not_le, lp87_0, hx, hlt]
        rw [if_pos (by simp)]
        exact ⟨(i : Int), by omega, rfl⟩
      · simp only [go_sem, reduceIte, Nat.reduceEqDiff, Nat.reduceAdd, Nat.reduceSub, Nat.reduceLeDiff, Nat.reduceLT, reduceCtorEq, Int.reduceLT, Int.reduceLE, Int.reduceEq, Int.reduceBEq, Int.reduceSub, Int.reduceAdd, Int.reduceMul, Int.reduceNeg, Int.reduceToNat, Nat.reduceMul, Nat.reduceBEq, index_rsl_if, setm, make_ints, condK_dec, wantK_dec, not_dec, and_dec, or_dec, seqK_ite, seqK_none, blockK_ite, blockK_none, opsK_ite, opsK_none, stepK_ite, stepK_none, bodyK_ite, bodyK_none, resK_ite, resK_none, leaveK_ite, leaveK_none, only_ite, only_none, bind_ite, gives_some, gives_none, gives_ite, then_normal, then_ret, then_exit, then_none, then_ite, Option.bind_none, Bool.not_eq_true', decide_eq_false_iff_not, Bool.and_eq_true, Bool.or_eq_true, Option.some.injEq, Int.not_lt, Int.not_le, lp87_0, hx, hlt, e1, e2, hs]
        refine ⟨i + 1, by simp only [go_sem, reduceIte, Nat.reduceEqDiff, Nat.reduceAdd, Nat.reduceSub, Nat.reduceLeDiff, Nat.reduceLT, reduceCtorEq, Int.reduceLT, Int.reduceLE, Int.reduceEq, Int.reduceBEq, Int.reduceSub, Int.reduceAdd, Int.reduceMul, Int.reduceNeg, Int.reduceToNat, Nat.reduceMul, Nat.reduceBEq, ren1_locm, loc_tips, locT_eq] <;> rfl, ?_, ?_, fun x en s hq => ?_⟩
        · omega
        · omega
        · simp only [List.mem_cons, Prod.mk.injEq, e2, and_false, false_or]; exact hq
    · simp only [go_sem, reduceIte, Nat.reduceEqDiff, Nat.reduceAdd, Nat.reduceSub, Nat.reduceLeDiff, Nat.reduceLT, reduceCtorEq, Int.reduceLT, Int.reduceLE, Int.reduceEq, Int.reduceBEq, Int.reduceSub, Int.reduceAdd, Int.reduceMul, Int.reduceNeg, Int.reduceToNat, Nat.reduceMul, Nat.reduceBEq, index_rsl_if, setm, make_ints, condK_dec, wantK_dec, not_dec, and_dec, or_dec, seqK_ite, seqK_none, blockK_ite, blockK_none, opsK_ite, opsK_none, stepK_ite, stepK_none, bodyK_ite, bodyK_none, resK_ite, resK_none, leaveK_ite, leaveK_none, only_ite, only_none, bind_ite, gives_some, gives_none, gives_ite, then_normal, then_ret, then_exit, then_none, then_ite, Option.bind_none, Bool.not_eq_true', decide_eq_false_iff_not, Bool.and_eq_true, Bool.or_eq_true, Option.some.injEq, Int.not_lt, Int.not_le, lp87_0, hx, hlt, e1, hs]
      refine ⟨i + 1, by simp only [go_sem, reduceIte, Nat.reduceEqDiff, Nat.reduceAdd, Nat.reduceSub, Nat.reduceLeDiff, Nat.reduceLT, reduceCtorEq, Int.reduceLT, Int.reduceLE, Int.reduceEq, Int.reduceBEq, Int.reduceSub, Int.reduceAdd, Int.reduceMul, Int.reduceNeg, Int.reduceToNat, Nat.reduceMul, Nat.reduceBEq, ren1_locm, loc_tips, locT_eq] <;> rfl, ?_, ?_, fun x en s hq => ?_⟩
      · omega
      · omega
      · simp only [List.mem_cons, Prod.mk.injEq, e1, false_and, false_or]; exact hq
  · have hd : ps.drop i = [] := List.drop_eq_nil_of_le (by omega)
    have hlt : ((i : Int) < (ps.length : Int)) = False := eq_false (by omega)
    simp only [go_sem, reduceIte, Nat.reduceEqDiff, Nat.reduceAdd, Nat.reduceSub, Nat.reduceLeDiff, Nat.reduceLT, reduceCtorEq, Int.reduceLT, Int.reduceLE, Int.reduceEq, Int.reduceBEq, Int.reduceSub, Int.reduceAdd, Int.reduceMul, Int.reduceNeg, Int.reduceToNat, Nat.reduceMul, Nat.reduceBEq, index_rsl_if, setm, make_ints, condK_dec, wantK_dec, not_dec, and_dec, or_dec, seqK_ite, seqK_none, blockK_ite, blockK_none, opsK_ite, opsK_none, stepK_ite, stepK_none, bodyK_ite, bodyK_none, resK_ite, resK_none, leaveK_ite, leaveK_none, only_ite, only_none, bind_ite, gives_some, gives_none, gives_ite, then_normal, then_ret, then_exit, then_none, then_ite, Option.bind_none, Bool.not_eq_true', decide_eq_false_iff_not, Bool.and_eq_true, Bool.or_eq_true, Option.some.injEq, Int.not_lt, Int.not_le, lp87_0, hlt]
    rw [hd]; simp

theorem c49 (nl : Bool) (ps : List (Int × Int)) (hlen : ps.length < 1000000) (p q : Int) (st : St) :
    run L 49 [sl 2 nl (ps.map prAV), .agg [I p, I q]] st = some (B (decide ((p, q) ∈ ps)), st) := by
  have h106 : ∀ st, ∃ k : Int, run L 87 [sl 2 nl (ps.map prAV), .agg [I p, I q]] st = some (I k, st) ∧ (0 ≤ k ↔ (p, q) ∈ ps) := by
    intro st
    rw [run_pure (fn := ir87) rfl rfl]
    simp only [ir87, go_sem, reduceIte, Nat.reduceEqDiff, Nat.reduceAdd, Nat.reduceSub, Nat.reduceLeDiff, Nat.reduceLT, reduceCtorEq, Int.reduceLT, Int.reduceLE, Int.reduceEq, Int.reduceBEq, Int.reduceSub, Int.reduceAdd, Int.reduceMul, Int.reduceNeg, Int.reduceToNat, Nat.reduceMul, Nat.reduceBEq, List.length_map]
    generalize hg : lim (headed pure (run L) true _ lp87_0 _ _) _ _ = o
    obtain ⟨x, en, s, rfl, h2⟩ : ∃ x en s, o = some (x, en, s) ∧ _ := by rw [← hg]; exact loop87 nl ps hlen p q 0 (by omega) _ _ (by simp only [go_sem, reduceIte, Nat.reduceEqDiff, Nat.reduceAdd, Nat.reduceSub, Nat.reduceLeDiff, Nat.reduceLT, reduceCtorEq, Int.reduceLT, Int.reduceLE, Int.reduceEq, Int.reduceBEq, Int.reduceSub, Int.reduceAdd, Int.reduceMul, Int.reduceNeg, Int.reduceToNat, Nat.reduceMul, Nat.reduceBEq] <;> rfl)
    clear hg
    rw [List.drop_zero] at h2
    by_cases h : (p, q) ∈ ps
    · rw [if_pos h] at h2
      obtain ⟨rfl, k, hk, h3⟩ := h2
      exact ⟨k, by simp only [go_sem, reduceIte, Nat.reduceEqDiff, Nat.reduceAdd, Nat.reduceSub, Nat.reduceLeDiff, Nat.reduceLT, reduceCtorEq, Int.reduceLT, Int.reduceLE, Int.reduceEq, Int.reduceBEq, Int.reduceSub, Int.reduceAdd, Int.reduceMul, Int.reduceNeg, Int.reduceToNat, Nat.reduceMul, Nat.reduceBEq, h3], by simp [h, hk]⟩
    · rw [if_neg h] at h2
      subst h2
      exact ⟨-1, by simp only [go_sem, reduceIte, Nat.reduceEqDiff, Nat.reduceAdd, Nat.reduceSub, Nat.reduceLeDiff, Nat.reduceLT, reduceCtorEq, Int.reduceLT, Int.reduceLE, Int.reduceEq, Int.reduceBEq, Int.reduceSub, Int.reduceAdd, Int.reduceMul, Int.reduceNeg, Int.reduceToNat, Nat.reduceMul, Nat.reduceBEq], by simp [h]⟩
  rw [run_pure (fn := ir49) rfl rfl]
  obtain ⟨k, h1, h2⟩ := h106 ⟨[[I p, I q]], []⟩
  simp only [ir49, go_sem, reduceIte, Nat.reduceEqDiff, Nat.reduceAdd, Nat.reduceSub, Nat.reduceLeDiff, Nat.reduceLT, reduceCtorEq, Int.reduceLT, Int.reduceLE, Int.reduceEq, Int.reduceBEq, Int.reduceSub, Int.reduceAdd, Int.reduceMul, Int.reduceNeg, Int.reduceToNat, Nat.reduceMul, Nat.reduceBEq, h1, h2]

def indexOf (a : Int) : List Int → Nat → Int
  | [], _ => -1
  | b :: r, i => if a = b then (i : Int) else indexOf a r (i + 1)
theorem indexOf_nonneg (a : Int) : ∀ (l : List Int) (i : Nat), (0 ≤ indexOf a l i) = (a ∈ l)
  | [], i => by simp [indexOf]
  | b :: r, i => by
    have ih := indexOf_nonneg a r (i + 1)
    simp only [indexOf]
    split
    · next h => simp [h]
    · next h => rw [ih]; simp [h]

theorem loop92 (nl : Bool) (l : List Int) (hlen : l.length < 1000000) (a : Int) (i : Nat) (hok : i ≤ l.length) (env : Env) (st : St)
    (hg : gcAV true 0 0 (canon env [0, 1, 7, 8]) st = ([(0, sl 1 nl (l.map I)), (1, I a), (7, I l.length), (8, I i)], ⟨[], []⟩)) :
    ∃ x_1 en s, lim (headed pure (run L) true [0, 1, 7, 8] lp92_0 0 0) env st = some (x_1, en, s) ∧ (if a ∈ l.drop i then x_1 = .ret ∧ en.get 4 = I (indexOf a (l.drop i) i) else x_1 = .exit 0) := by
  refine loop_wp (α := Nat) (fun i => l.length - i) (fun i => i ≤ l.length) (fun i => ([(0, sl 1 nl (l.map I)), (1, I a), (7, I l.length), (8, I i)], ⟨[], []⟩)) (fun i x_1 en s => if a ∈ l.drop i then x_1 = .ret ∧ en.get 4 = I (indexOf a (l.drop i) i) else x_1 = .exit 0) (fun i hok => ?_) i hok env st hg
  by_cases h : i < l.length
  · have hx := index_ints nl l i h
    have hs := succ64 i (by omega)
    have hd : l.drop i = l[i] :: l.drop (i + 1) := List.drop_eq_getElem_cons h
    have hlt : ((i : Int) < (l.length : Int)) = True := eq_true (by omega)
    rw [hd]
    generalize l[i] = b at *
    by_cases p : a = b
    · simp only [go_sem, reduceIte, Nat.reduceEqDiff, Nat.reduceAdd, Nat.reduceSub, Nat.reduceLeDiff, Nat.reduceLT, reduceCtorEq, Int.reduceLT, Int.reduceLE, Int.reduceEq, Int.reduceBEq, Int.reduceSub, Int.reduceAdd, Int.reduceMul, Int.reduceNeg, Int.reduceToNat, Nat.reduceMul, Nat.reduceBEq, index_rsl_if, setm, make_ints, condK_dec, wantK_dec, not_dec, and_dec, or_dec, seqK_ite, seqK_none, blockK_ite, blockK_none, opsK_ite, opsK_none, stepK_ite, stepK_none, bodyK_ite, bodyK_none, resK_ite, resK_none, leaveK_ite, leaveK_none, only_ite, only_none, bind_ite, gives_some, gives_none, gives_ite, then_normal, then_ret, then_exit, then_none, then_ite, Option.bind_none, Bool.not_eq_true', decide_eq_false_iff_not, Bool.and_eq_true, Bool.or_eq_true, Option.some.injEq, Int.not_lt, Int.not_le, lp92_0, hx, hlt, p]
      rw [if_pos (by simp)]; simp [indexOf]
    · have e : indexOf a (b :: l.drop (i + 1)) i = indexOf a (l.drop (i + 1)) (i + 1) := by simp only [indexOf]; rw [if_neg p]
      simp only [go_sem, reduceIte, Nat.reduceEqDiff, Nat.reduceAdd, Nat.reduceSub, Nat.reduceLeDiff, Nat.reduceLT, reduceCtorEq, Int.reduceLT, Int.reduceLE, Int.reduceEq, Int.reduceBEq, Int.reduceSub, Int.reduceAdd, Int.reduceMul, Int.reduceNeg, Int.reduceToNat, Nat.reduceMul, Nat.reduceBEq, index_rsl_if, setm, make_ints, condK_dec, wantK_dec, not_dec, and_dec, or_dec, seqK_ite, seqK_none, blockK_ite, blockK_none, opsK_ite, opsK_none, stepK_ite, stepK_none, bodyK_ite, bodyK_none, resK_ite, resK_none, leaveK_ite, leaveK_none, only_ite, only_none, bind_ite, gives_some, gives_none, gives_ite, then_normal, then_ret, then_exit, then_none, then_ite, Option.bind_none, Bool.not_eq_true', decide_eq_false_iff_not, Bool.and_eq_true, Bool.or_eq_true, Option.some.injEq, Int.not_lt, Int.not_le, lp92_0, hx, hlt, p, hs]
      refine ⟨i + 1, by simp only [go_sem, reduceIte, Nat.reduceEqDiff, Nat.reduceAdd, Nat.reduceSub, Nat.reduceLeDiff, Nat.reduceLT, reduceCtorEq, Int.reduceLT, Int.reduceLE, Int.reduceEq, Int.reduceBEq, Int.reduceSub, Int.reduceAdd, Int.reduceMul, Int.reduceNeg, Int.reduceToNat, Nat.reduceMul, Nat.reduceBEq, ren1_locm, loc_tips, locT_eq] <;> rfl, ?_, ?_, fun x en s hq => ?_⟩
      · omega
      · omega
      · rw [e]; simp only [List.mem_cons, p, false_or]; exact hq
  · have hd : l.drop i = [] := List.drop_eq_nil_of_le (by omega)
    have hlt : ((i : Int) < (l.length : Int)) = False := eq_false (by omega)
    simp only [go_sem, reduceIte, Nat.reduceEqDiff, Nat.reduceAdd, Nat.reduceSub, Nat.reduceLeDiff, Nat.reduceLT, reduceCtorEq, Int.reduceLT, Int.reduceLE, Int.reduceEq, Int.reduceBEq, Int.reduceSub, Int.reduceAdd, Int.reduceMul, Int.reduceNeg, Int.reduceToNat, Nat.reduceMul, Nat.reduceBEq, index_rsl_if, setm, make_ints, condK_dec, wantK_dec, not_dec, and_dec, or_dec, seqK_ite, seqK_none, blockK_ite, blockK_none, opsK_ite, opsK_none, stepK_ite, stepK_none, bodyK_ite, bodyK_none, resK_ite, resK_none, leaveK_ite, leaveK_none, only_ite, only_none, bind_ite, gives_some, gives_none, gives_ite, then_normal, then_ret, then_exit, then_none, then_ite, Option.bind_none, Bool.not_eq_true', decide_eq_false_iff_not, Bool.and_eq_true, Bool.or_eq_true, Option.some.injEq, Int.not_lt, Int.not_le, lp92_0, hlt]
    rw [hd]; simp

theorem c92 (nl : Bool) (l : List Int) (hlen : l.length < 1000000) (a : Int) (st : St) : run L 92 [sl 1 nl (l.map I), I a] st = some (I (indexOf a l 0), st) := by
  rw [run_pure (fn := ir92) rfl rfl]
  simp only [ir92, go_sem, reduceIte, Nat.reduceEqDiff, Nat.reduceAdd, Nat.reduceSub, Nat.reduceLeDiff, Nat.reduceLT, reduceCtorEq, Int.reduceLT, Int.reduceLE, Int.reduceEq, Int.reduceBEq, Int.reduceSub, Int.reduceAdd, Int.reduceMul, Int.reduceNeg, Int.reduceToNat, Nat.reduceMul, Nat.reduceBEq, List.length_map]
  generalize hg : lim (headed pure (run L) true _ lp92_0 _ _) _ _ = o
  obtain ⟨x, en, s, rfl, h2⟩ : ∃ x en s, o = some (x, en, s) ∧ _ := by rw [← hg]; exact loop92 nl l hlen a 0 (by omega) _ _ (by simp only [go_sem, reduceIte, Nat.reduceEqDiff, Nat.reduceAdd, Nat.reduceSub, Nat.reduceLeDiff, Nat.reduceLT, reduceCtorEq, Int.reduceLT, Int.reduceLE, Int.reduceEq, Int.reduceBEq, Int.reduceSub, Int.reduceAdd, Int.reduceMul, Int.reduceNeg, Int.reduceToNat, Nat.reduceMul, Nat.reduceBEq] <;> rfl)
  clear hg
  rw [List.drop_zero] at h2
  by_cases h : a ∈ l
  · rw [if_pos h] at h2
    obtain ⟨rfl, h3⟩ := h2
    simp only [go_sem, reduceIte, Nat.reduceEqDiff, Nat.reduceAdd, Nat.reduceSub, Nat.reduceLeDiff, Nat.reduceLT, reduceCtorEq, Int.reduceLT, Int.reduceLE, Int.reduceEq, Int.reduceBEq, Int.reduceSub, Int.reduceAdd, Int.reduceMul, Int.reduceNeg, Int.reduceToNat, Nat.reduceMul, Nat.reduceBEq, h3]
  · rw [if_neg h] at h2
    subst h2
    have e : indexOf a l 0 = -1 := by
      have : ∀ (l : List Int) (i : Nat), a ∉ l → indexOf a l i = -1 := by
        intro l
        induction l with
        | nil => intro i _; rfl
        | cons b r ih =>
          intro i hn
          simp only [List.mem_cons, not_or] at hn
          simp only [indexOf]; rw [if_neg hn.1]; exact ih _ hn.2
      exact this l 0 h
    simp only [go_sem, reduceIte, Nat.reduceEqDiff, Nat.reduceAdd, Nat.reduceSub, Nat.reduceLeDiff, Nat.reduceLT, reduceCtorEq, Int.reduceLT, Int.reduceLE, Int.reduceEq, Int.reduceBEq, Int.reduceSub, Int.reduceAdd, Int.reduceMul, Int.reduceNeg, Int.reduceToNat, Nat.reduceMul, Nat.reduceBEq, e]
theorem c57 (nl : Bool) (l : List Int) (hlen : l.length < 1000000) (a : Int) (st : St) : run L 57 [sl 1 nl (l.map I), I a] st = some (B (decide (a ∈ l)), st) := by
  rw [run_pure (fn := ir57) rfl rfl]
  have h46 := fun st => c92 nl l hlen a st
  have hn := indexOf_nonneg a l 0
  simp only [ir57, go_sem, reduceIte, Nat.reduceEqDiff, Nat.reduceAdd, Nat.reduceSub, Nat.reduceLeDiff, Nat.reduceLT, reduceCtorEq, Int.reduceLT, Int.reduceLE, Int.reduceEq, Int.reduceBEq, Int.reduceSub, Int.reduceAdd, Int.reduceMul, Int.reduceNeg, Int.reduceToNat, Nat.reduceMul, Nat.reduceBEq, h46, hn]


/-- What is wrong with a pair behind others; with pairs; with a book. -/
def prErr (n : Int) (seen : List (Int × Int)) (p : Int × Int) : Int := if p.1 < 0 ∨ p.2 < 0 ∨ n ≤ p.1 ∨ n ≤ p.2 then 2 else if p.1 = p.2 then 5 else if p ∈ seen then 6 else 0
def prsErr (n : Int) : List (Int × Int) → List (Int × Int) → Int
  | _, [] => 0
  | seen, p :: r => if prErr n seen p = 0 then prsErr n (seen ++ [p]) r else prErr n seen p
def chk (n : Int) (ps : List (Int × Int)) : Int := if n < 1 ∨ 7 < n then 1 else if 16 < ps.length then 3 else prsErr n [] ps

theorem loop24 (nl : Bool) (n : Int) (hn : 1 ≤ n ∧ n ≤ 7) (ps : List (Int × Int)) (hlen : ps.length ≤ 16) (i : Nat) (hok : i ≤ ps.length) (env : Env) (st : St)
    (hg : gcAV true 1 0 (canon env [1, 20, 21, 22]) st = ([(1, .ptr 0 0), (20, sl 2 nl (ps.map prAV)), (21, I ps.length), (22, I i)], ⟨[bkCells nl n ps], []⟩)) :
    ∃ x_1 en s, lim (headed pure (run L) true [1, 20, 21, 22] lp24_0 1 0) env st = some (x_1, en, s) ∧ (if prsErr n (ps.take i) (ps.drop i) = 0 then x_1 = .exit 1 else x_1 = .ret ∧ en.get 2 = I (prsErr n (ps.take i) (ps.drop i))) := by
  refine loop_wp (α := Nat) (fun i => ps.length - i) (fun i => i ≤ ps.length) (fun i => ([(1, .ptr 0 0), (20, sl 2 nl (ps.map prAV)), (21, I ps.length), (22, I i)], ⟨[bkCells nl n ps], []⟩)) (fun i x_1 en s => if prsErr n (ps.take i) (ps.drop i) = 0 then x_1 = .exit 1 else x_1 = .ret ∧ en.get 2 = I (prsErr n (ps.take i) (ps.drop i))) (fun i hok => ?_) i hok env st hg
  by_cases h : i < ps.length
  · have hx := index_prs nl ps i h
    have hs := succ64 i (by omega)
    have hd : ps.drop i = ps[i] :: ps.drop (i + 1) := List.drop_eq_getElem_cons h
    have ht : ps.take (i + 1) = ps.take i ++ [ps[i]] := by rw [List.take_succ_eq_append_getElem h]
    have hsl := slice_prs nl ps i h
    have h76 := fun p q st => c49 false (ps.take i) (by rw [List.length_take]; omega) p q st
    rw [hd]
    generalize ps[i] = c at *
    obtain ⟨u, v⟩ := c
    have hlt : ((i : Int) < (ps.length : Int)) = True := eq_true (by omega)
    simp only at hx
    have hmn : (if v < u then v else u) = min u v := by rw [Int.min_def]; split <;> split <;> omega
    have hmx : (if u < v then v else u) = max u v := by rw [Int.max_def]; split <;> split <;> omega
    by_cases p1 : min u v < 0
    · have he : prErr n (ps.take i) (u, v) = 2 := by unfold prErr; simp only; rw [if_pos (by omega)]
      simp only [go_sem, reduceIte, Nat.reduceEqDiff, Nat.reduceAdd, Nat.reduceSub, Nat.reduceLeDiff, Nat.reduceLT, reduceCtorEq, Int.reduceLT, Int.reduceLE, Int.reduceEq, Int.reduceBEq, Int.reduceSub, Int.reduceAdd, Int.reduceMul, Int.reduceNeg, Int.reduceToNat, Nat.reduceMul, Nat.reduceBEq, index_rsl_if, setm, make_ints, condK_dec, wantK_dec, not_dec, and_dec, or_dec, seqK_ite, seqK_none, blockK_ite, blockK_none, opsK_ite, opsK_none, stepK_ite, stepK_none, bodyK_ite, bodyK_none, resK_ite, resK_none, leaveK_ite, leaveK_none, only_ite, only_none, bind_ite, gives_some, gives_none, gives_ite, then_normal, then_ret, then_exit, then_none, then_ite, Option.bind_none, Bool.not_eq_true', decide_eq_false_iff_not, Bool.and_eq_true, Bool.or_eq_true, Option.some.injEq, Int.not_lt, Int.not_le, lp24_0, hx, hlt, p1, hmn, hmx, List.length_map]
      simp [prsErr, he]
    by_cases p1b : n ≤ max u v
    · have he : prErr n (ps.take i) (u, v) = 2 := by unfold prErr; simp only; rw [if_pos (by omega)]
      simp only [go_sem, reduceIte, Nat.reduceEqDiff, Nat.reduceAdd, Nat.reduceSub, Nat.reduceLeDiff, Nat.reduceLT, reduceCtorEq, Int.reduceLT, Int.reduceLE, Int.reduceEq, Int.reduceBEq, Int.reduceSub, Int.reduceAdd, Int.reduceMul, Int.reduceNeg, Int.reduceToNat, Nat.reduceMul, Nat.reduceBEq, index_rsl_if, setm, make_ints, condK_dec, wantK_dec, not_dec, and_dec, or_dec, seqK_ite, seqK_none, blockK_ite, blockK_none, opsK_ite, opsK_none, stepK_ite, stepK_none, bodyK_ite, bodyK_none, resK_ite, resK_none, leaveK_ite, leaveK_none, only_ite, only_none, bind_ite, gives_some, gives_none, gives_ite, then_normal, then_ret, then_exit, then_none, then_ite, Option.bind_none, Bool.not_eq_true', decide_eq_false_iff_not, Bool.and_eq_true, Bool.or_eq_true, Option.some.injEq, Int.not_lt, Int.not_le, lp24_0, hx, hlt, p1, p1b, hmn, hmx, List.length_map]
      simp [prsErr, he]
    by_cases p2 : u = v
    · have he : prErr n (ps.take i) (u, v) = 5 := by unfold prErr; simp only; rw [if_neg (by omega), if_pos p2]
      have p2' : (u = v) = True := eq_true p2
      simp only [go_sem, reduceIte, Nat.reduceEqDiff, Nat.reduceAdd, Nat.reduceSub, Nat.reduceLeDiff, Nat.reduceLT, reduceCtorEq, Int.reduceLT, Int.reduceLE, Int.reduceEq, Int.reduceBEq, Int.reduceSub, Int.reduceAdd, Int.reduceMul, Int.reduceNeg, Int.reduceToNat, Nat.reduceMul, Nat.reduceBEq, index_rsl_if, setm, make_ints, condK_dec, wantK_dec, not_dec, and_dec, or_dec, seqK_ite, seqK_none, blockK_ite, blockK_none, opsK_ite, opsK_none, stepK_ite, stepK_none, bodyK_ite, bodyK_none, resK_ite, resK_none, leaveK_ite, leaveK_none, only_ite, only_none, bind_ite, gives_some, gives_none, gives_ite, then_normal, then_ret, then_exit, then_none, then_ite, Option.bind_none, Bool.not_eq_true', decide_eq_false_iff_not, Bool.and_eq_true, Bool.or_eq_true, Option.some.injEq, Int.not_lt, Int.not_le, lp24_0, hx, hlt, p1, p1b, hmn, hmx, p2', List.length_map]
      simp [prsErr, he]
    · by_cases p3 : (u, v) ∈ ps.take i
      · have he : prErr n (ps.take i) (u, v) = 6 := by unfold prErr; simp only; rw [if_neg (by omega), if_neg p2, if_pos p3]
        simp only [go_sem, reduceIte, Nat.reduceEqDiff, Nat.reduceAdd, Nat.reduceSub, Nat.reduceLeDiff, Nat.reduceLT, reduceCtorEq, Int.reduceLT, Int.reduceLE, Int.reduceEq, Int.reduceBEq, Int.reduceSub, Int.reduceAdd, Int.reduceMul, Int.reduceNeg, Int.reduceToNat, Nat.reduceMul, Nat.reduceBEq, index_rsl_if, setm, make_ints, condK_dec, wantK_dec, not_dec, and_dec, or_dec, seqK_ite, seqK_none, blockK_ite, blockK_none, opsK_ite, opsK_none, stepK_ite, stepK_none, bodyK_ite, bodyK_none, resK_ite, resK_none, leaveK_ite, leaveK_none, only_ite, only_none, bind_ite, gives_some, gives_none, gives_ite, then_normal, then_ret, then_exit, then_none, then_ite, Option.bind_none, Bool.not_eq_true', decide_eq_false_iff_not, Bool.and_eq_true, Bool.or_eq_true, Option.some.injEq, Int.not_lt, Int.not_le, lp24_0, hx, hlt, p1, p1b, hmn, hmx, p2, hsl, h76, p3, List.length_map]
        simp [prsErr, he]
      · have he : prErr n (ps.take i) (u, v) = 0 := by unfold prErr; simp only; rw [if_neg (by omega), if_neg p2, if_neg p3]
        simp only [go_sem, reduceIte, Nat.reduceEqDiff, Nat.reduceAdd, Nat.reduceSub, Nat.reduceLeDiff, Nat.reduceLT, reduceCtorEq, Int.reduceLT, Int.reduceLE, Int.reduceEq, Int.reduceBEq, Int.reduceSub, Int.reduceAdd, Int.reduceMul, Int.reduceNeg, Int.reduceToNat, Nat.reduceMul, Nat.reduceBEq, index_rsl_if, setm, make_ints, condK_dec, wantK_dec, not_dec, and_dec, or_dec, seqK_ite, seqK_none, blockK_ite, blockK_none, opsK_ite, opsK_none, stepK_ite, stepK_none, bodyK_ite, bodyK_none, resK_ite, resK_none, leaveK_ite, leaveK_none, only_ite, only_none, bind_ite, gives_some, gives_none, gives_ite, then_normal, then_ret, then_exit, then_none, then_ite, Option.bind_none, Bool.not_eq_true', decide_eq_false_iff_not, Bool.and_eq_true, Bool.or_eq_true, Option.some.injEq, Int.not_lt, Int.not_le, lp24_0, hx, hlt, p1, p1b, hmn, hmx, p2, hsl, h76, p3, hs, List.length_map]
        refine ⟨i + 1, by simp only [go_sem, reduceIte, Nat.reduceEqDiff, Nat.reduceAdd, Nat.reduceSub, Nat.reduceLeDiff, Nat.reduceLT, reduceCtorEq, Int.reduceLT, Int.reduceLE, Int.reduceEq, Int.reduceBEq, Int.reduceSub, Int.reduceAdd, Int.reduceMul, Int.reduceNeg, Int.reduceToNat, Nat.reduceMul, Nat.reduceBEq, ren1_locm, loc_tips, locT_eq] <;> rfl, ?_, ?_, fun x en s hq => ?_⟩
        · omega
        · omega
        · have e2 : prsErr n (ps.take i) ((u, v) :: ps.drop (i + 1)) = prsErr n (ps.take (i + 1)) (ps.drop (i + 1)) := by simp only [prsErr, he, if_true, ht]
          rw [e2]; exact hq
  · have hd : ps.drop i = [] := List.drop_eq_nil_of_le (by omega)
    have hlt : ((i : Int) < (ps.length : Int)) = False := eq_false (by omega)
    simp only [go_sem, reduceIte, Nat.reduceEqDiff, Nat.reduceAdd, Nat.reduceSub, Nat.reduceLeDiff, Nat.reduceLT, reduceCtorEq, Int.reduceLT, Int.reduceLE, Int.reduceEq, Int.reduceBEq, Int.reduceSub, Int.reduceAdd, Int.reduceMul, Int.reduceNeg, Int.reduceToNat, Nat.reduceMul, Nat.reduceBEq, index_rsl_if, setm, make_ints, condK_dec, wantK_dec, not_dec, and_dec, or_dec, seqK_ite, seqK_none, blockK_ite, blockK_none, opsK_ite, opsK_none, stepK_ite, stepK_none, bodyK_ite, bodyK_none, resK_ite, resK_none, leaveK_ite, leaveK_none, only_ite, only_none, bind_ite, gives_some, gives_none, gives_ite, then_normal, then_ret, then_exit, then_none, then_ite, Option.bind_none, Bool.not_eq_true', decide_eq_false_iff_not, Bool.and_eq_true, Bool.or_eq_true, Option.some.injEq, Int.not_lt, Int.not_le, lp24_0, hlt, List.length_map]
    rw [hd]; simp [prsErr]

theorem c24 (nl : Bool) (n : Int) (ps : List (Int × Int)) (st : St) :
    run L 24 [bkAV nl n ps] st = some (I (chk n ps), st) := by
  rw [run_pure (fn := ir24) rfl rfl]
  unfold chk
  by_cases p0 : n < 1 ∨ 7 < n
  · rw [if_pos p0]
    by_cases a : n < 1
    · simp only [ir24, go_sem, reduceIte, Nat.reduceEqDiff, Nat.reduceAdd, Nat.reduceSub, Nat.reduceLeDiff, Nat.reduceLT, reduceCtorEq, Int.reduceLT, Int.reduceLE, Int.reduceEq, Int.reduceBEq, Int.reduceSub, Int.reduceAdd, Int.reduceMul, Int.reduceNeg, Int.reduceToNat, Nat.reduceMul, Nat.reduceBEq, a]
    · simp only [ir24, go_sem, reduceIte, Nat.reduceEqDiff, Nat.reduceAdd, Nat.reduceSub, Nat.reduceLeDiff, Nat.reduceLT, reduceCtorEq, Int.reduceLT, Int.reduceLE, Int.reduceEq, Int.reduceBEq, Int.reduceSub, Int.reduceAdd, Int.reduceMul, Int.reduceNeg, Int.reduceToNat, Nat.reduceMul, Nat.reduceBEq, a, show (7 < n) = True from eq_true (by omega)]
  · rw [if_neg p0]
    by_cases p1 : 16 < ps.length
    · have q1 : ((16 : Int) < (ps.length : Int)) = True := eq_true (by omega)
      rw [if_pos p1]
      simp only [ir24, go_sem, reduceIte, Nat.reduceEqDiff, Nat.reduceAdd, Nat.reduceSub, Nat.reduceLeDiff, Nat.reduceLT, reduceCtorEq, Int.reduceLT, Int.reduceLE, Int.reduceEq, Int.reduceBEq, Int.reduceSub, Int.reduceAdd, Int.reduceMul, Int.reduceNeg, Int.reduceToNat, Nat.reduceMul, Nat.reduceBEq, show (n < 1) = False from eq_false (by omega), show (7 < n) = False from eq_false (by omega), q1, List.length_map]
    · have q1 : ((16 : Int) < (ps.length : Int)) = False := eq_false (by omega)
      rw [if_neg p1]
      simp only [ir24, go_sem, reduceIte, Nat.reduceEqDiff, Nat.reduceAdd, Nat.reduceSub, Nat.reduceLeDiff, Nat.reduceLT, reduceCtorEq, Int.reduceLT, Int.reduceLE, Int.reduceEq, Int.reduceBEq, Int.reduceSub, Int.reduceAdd, Int.reduceMul, Int.reduceNeg, Int.reduceToNat, Nat.reduceMul, Nat.reduceBEq, show (n < 1) = False from eq_false (by omega), show (7 < n) = False from eq_false (by omega), q1, List.length_map]
      generalize hg : lim (headed pure (run L) true _ lp24_0 _ _) _ _ = o
      obtain ⟨x, en, s, rfl, h2⟩ : ∃ x en s, o = some (x, en, s) ∧ _ := by rw [← hg]; exact loop24 nl n (by omega) ps (by omega) 0 (by omega) _ _ (by simp only [go_sem, reduceIte, Nat.reduceEqDiff, Nat.reduceAdd, Nat.reduceSub, Nat.reduceLeDiff, Nat.reduceLT, reduceCtorEq, Int.reduceLT, Int.reduceLE, Int.reduceEq, Int.reduceBEq, Int.reduceSub, Int.reduceAdd, Int.reduceMul, Int.reduceNeg, Int.reduceToNat, Nat.reduceMul, Nat.reduceBEq] <;> rfl)
      clear hg
      simp only [List.drop_zero, List.take_zero] at h2
      by_cases h : prsErr n [] ps = 0
      · rw [if_pos h] at h2
        subst h2
        simp only [go_sem, reduceIte, Nat.reduceEqDiff, Nat.reduceAdd, Nat.reduceSub, Nat.reduceLeDiff, Nat.reduceLT, reduceCtorEq, Int.reduceLT, Int.reduceLE, Int.reduceEq, Int.reduceBEq, Int.reduceSub, Int.reduceAdd, Int.reduceMul, Int.reduceNeg, Int.reduceToNat, Nat.reduceMul, Nat.reduceBEq, h]
      · rw [if_neg h] at h2
        obtain ⟨rfl, h3⟩ := h2
        simp only [go_sem, reduceIte, Nat.reduceEqDiff, Nat.reduceAdd, Nat.reduceSub, Nat.reduceLeDiff, Nat.reduceLT, reduceCtorEq, Int.reduceLT, Int.reduceLE, Int.reduceEq, Int.reduceBEq, Int.reduceSub, Int.reduceAdd, Int.reduceMul, Int.reduceNeg, Int.reduceToNat, Nat.reduceMul, Nat.reduceBEq, h3]


theorem run_args {f : FuncId} {fn : IF} (hf : L.fns f = some fn) (hp : L.pure f = true) {args args' : List AV} (st : St) (h : pubs args = pubs args') : run L f args st = run L f args' st := by
  rw [run_pure hf hp, run_pure hf hp, h]
/-! ### a book by numbers -/
abbrev B8 (n : Int) : AV := .v (.int .u8 n)
def Byte (n : Int) : Prop := 0 ≤ n ∧ n ≤ 255
abbrev qAV (zs : List Int) : AV := .agg (zs.map B8)
theorem okRefsB (n : Nat) (xs : List Int) : okRefs n (xs.map B8) = true := okRefs_map B8 n (fun _ => rfl) xs
theorem renCellsB (n : Nat) (tips : List Nat) (acc : List (Nat × Nat)) (xs : List Int) : renCells n tips acc (xs.map B8) = (xs.map B8, acc) := renCells_map B8 n tips (fun _ _ => rfl) xs acc
theorem pubsB (xs : List Int) : pubs (xs.map B8) = xs.map B8 := pubs_map B8 (fun _ => rfl) xs
theorem storableB (xs : List Int) : (xs.map B8).all storable = true := by
  rw [List.all_eq_true]; intro x hx; rw [List.mem_map] at hx; obtain ⟨n, _, rfl⟩ := hx; rfl
theorem getB (zs : List Int) (a : Nat) (h : a < zs.length) : (zs.map B8)[a]? = some (B8 (zs.getD a 0)) := by
  rw [getm B8 zs 0 a, if_pos h]
theorem byte_getD {l : List Int} (h : ∀ n ∈ l, Byte n) (i : Nat) : Byte (l.getD i 0) := by
  rw [List.getD_eq_getElem?_getD]
  by_cases hi : i < l.length
  · rw [List.getElem?_eq_getElem hi]; exact h _ (List.getElem_mem hi)
  · rw [List.getElem?_eq_none (by omega)]; exact ⟨by simp, by simp⟩
theorem mod_range (a b : Int) (hb : 0 < b) : 0 ≤ a % b ∧ a % b < b := ⟨Int.emod_nonneg a (by omega), Int.emod_lt_of_pos a hb⟩

/-! ### a list of pairs that grows in a struct -/
def outAV (o : List (Int × Int)) : AV := loc 2 0 (o.map prAV)
def outT (o : List (Int × Int)) : List Nat := locT 0 (o.map prAV)
def outAcc (o : List (Int × Int)) : List (Nat × Nat) := if (o.map prAV).length = 0 then [] else [(0, (o.map prAV).length)]
theorem okRef_out (n : Nat) (o : List (Int × Int)) : okRef n (outAV o) = true := okRef_loc _ _ _ _
theorem storable_out (o : List (Int × Int)) : storable (outAV o) = true := storable_loc _ _ _
theorem shaped_out (o : List (Int × Int)) : (outAV o).shaped = true := shaped_loc _ _ _
theorem cells_out (o : List (Int × Int)) : (outAV o).cells = [outAV o] := cells_loc _ _ _
theorem ren1_out (o : List (Int × Int)) : ren1 0 (outT o) [] (outAV o) = (outAV o, outAcc o) := ren1_loc (k := 0) 2 (o.map prAV)
theorem outAcc_snd (o : List (Int × Int)) : (outAcc o).map (fun x => x.2) = outT o := by
  unfold outAcc outT locT; split <;> rfl
theorem fin_out (st : St) (o : List (Int × Int)) : fin st (outAV o) = sl 2 true (o.map prAV) := fin_loc st 2 0 _
theorem pub_out (o : List (Int × Int)) : pub (outAV o) = sl 2 true (o.map prAV) := pub_loc 2 0 _
theorem append_out (o : List (Int × Int)) (x y : Int) (s : List (List AV)) (h : o.length < 1000) : appendAV 2 (outAV o) [.agg [I x, I y]] ⟨s, outT o⟩ = some (outAV (o ++ [(x, y)]), ⟨s, outT (o ++ [(x, y)])⟩) :=
  append_locm (z := 2) (k := 0) prAV o (x, y) s (by omega) (by unfold maxGrow; omega)
theorem out_start : .v (.slice none 0 0) = outAV [] := rfl
theorem outT_nil : outT [] = [] := rfl
attribute [local go_sem] okRef_out storable_out shaped_out cells_out fin_out pub_out

/-- One more pair, if it is one and not there yet. -/
def mkStep (n : Int) (out : List (Int × Int)) (a b : Int) : List (Int × Int) :=
  if a % n ≠ b % n ∧ (a % n, b % n) ∉ out then out ++ [(a % n, b % n)] else out
def madeTo (n : Int) (zs : List Int) : Nat → List (Int × Int)
  | 0 => []
  | k + 1 => mkStep n (madeTo n zs k) (zs.getD (2 + k * 2) 0) (zs.getD (3 + k * 2) 0)
theorem madeTo_len (n : Int) (zs : List Int) : ∀ k, (madeTo n zs k).length ≤ k
  | 0 => by simp [madeTo]
  | k + 1 => by
    have := madeTo_len n zs k
    simp only [madeTo, mkStep]; split
    · simp; omega
    · omega
theorem tmod8 {a n : Int} (h : 0 ≤ a) : a.tmod n = a % n := Int.tmod_eq_emod_of_nonneg h

theorem loop45 (zs : List Int) (hzl : zs.length = 34) (hz : ∀ a ∈ zs, Byte a) (n : Int) (hn : 1 ≤ n ∧ n ≤ 7) (k : Nat) (hk : k ≤ 16) (i : Nat) (hok : i ≤ k) (env : Env) (st : St)
    (hg : gcAV true 3 0 (canon env [4, 5, 21, 22, 23]) st = ([(4, .ptr 1 0), (5, .ptr 2 0), (21, .rsl 0 2 k 16 2 true), (22, I k), (23, I i)], ⟨[zs.map B8, [I 0, sl 2 true []], [I n, outAV (madeTo n zs i)]], outT (madeTo n zs i)⟩)) :
    ∃ x_1 en s, lim (headed pure (run L) true [4, 5, 21, 22, 23] lp45_0 3 0) env st = some (x_1, en, s) ∧ (x_1 = .exit 0 ∧ en.get 4 = .ptr 1 0 ∧ en.get 5 = .ptr 2 0 ∧ s = ⟨[zs.map B8, [I 0, sl 2 true []], [I n, outAV (madeTo n zs k)]], outT (madeTo n zs k)⟩) := by
  refine loop_wp (α := Nat) (fun i => k - i) (fun i => i ≤ k) (fun i => ([(4, .ptr 1 0), (5, .ptr 2 0), (21, .rsl 0 2 k 16 2 true), (22, I k), (23, I i)], ⟨[zs.map B8, [I 0, sl 2 true []], [I n, outAV (madeTo n zs i)]], outT (madeTo n zs i)⟩)) (fun i x_1 en s => x_1 = .exit 0 ∧ en.get 4 = .ptr 1 0 ∧ en.get 5 = .ptr 2 0 ∧ s = ⟨[zs.map B8, [I 0, sl 2 true []], [I n, outAV (madeTo n zs k)]], outT (madeTo n zs k)⟩) (fun i hok => ?_) i hok env st hg
  by_cases h : i < k
  · have hs := succ64 i (by omega)
    have hlt : ((i : Int) < (k : Int)) = True := eq_true (by omega)
    have hi0 : ((0 : Int) ≤ (i : Int)) = True := eq_true (by omega)
    have hml := madeTo_len n zs i
    have hb1 : (2 + i * 2 + 2 ≤ 34) = True := eq_true (by omega)
    have hpair : ((zs.map B8).drop (2 + i * 2)).take 2 = [B8 (zs.getD (2 + i * 2) 0), B8 (zs.getD (3 + i * 2) 0)] := by
      have h1 : 2 + i * 2 < zs.length := by omega
      have h2 : 2 + i * 2 + 1 < zs.length := by omega
      have hd : zs.drop (2 + i * 2) = zs[2 + i * 2] :: zs[2 + i * 2 + 1] :: zs.drop (2 + i * 2 + 1 + 1) := by
        rw [List.drop_eq_getElem_cons h1, List.drop_eq_getElem_cons h2]
      have e1 : zs.getD (2 + i * 2) 0 = zs[2 + i * 2] := by rw [List.getD_eq_getElem?_getD, List.getElem?_eq_getElem h1]; rfl
      have e2 : zs.getD (3 + i * 2) 0 = zs[2 + i * 2 + 1] := by rw [show 3 + i * 2 = 2 + i * 2 + 1 by omega, List.getD_eq_getElem?_getD, List.getElem?_eq_getElem h2]; rfl
      rw [← List.map_drop, hd, e1, e2]
      rfl
    have ba := byte_getD hz (2 + i * 2)
    have bb := byte_getD hz (3 + i * 2)
    have hsucc : madeTo n zs (i + 1) = mkStep n (madeTo n zs i) (zs.getD (2 + i * 2) 0) (zs.getD (3 + i * 2) 0) := rfl
    generalize zs.getD (2 + i * 2) 0 = a at *
    generalize zs.getD (3 + i * 2) 0 = b at *
    unfold Byte at ba bb
    have wa := wrap64 a (by omega) (by omega)
    have wb := wrap64 b (by omega) (by omega)
    have zn : (n = 0) = False := eq_false (by omega)
    have ta : a.tmod n = a % n := tmod8 (by omega)
    have tb : b.tmod n = b % n := tmod8 (by omega)
    have ra := mod_range a n (by omega)
    have rb := mod_range b n (by omega)
    generalize madeTo n zs i = out at *
    have h49 : ∀ st, run L 49 [outAV out, .agg [I (a % n), I (b % n)]] st = some (B (decide ((a % n, b % n) ∈ out)), st) := fun st => by
      rw [← c49 true out (by omega) (a % n) (b % n) st]
      exact run_args (fn := ir49) rfl rfl st (by simp only [pubs, pub_out, pub_sl])
    have happ := fun s => append_out out (a % n) (b % n) s (by omega)
    unfold mkStep at hsucc
    generalize a % n = x at *
    generalize b % n = y at *
    by_cases p1 : x = y
    · rw [if_neg (by simp [p1])] at hsucc
      have p1' : (x = y) = True := eq_true p1
      simp only [go_sem, reduceIte, Nat.reduceEqDiff, Nat.reduceAdd, Nat.reduceSub, Nat.reduceLeDiff, Nat.reduceLT, reduceCtorEq, Int.reduceLT, Int.reduceLE, Int.reduceEq, Int.reduceBEq, Int.reduceSub, Int.reduceAdd, Int.reduceMul, Int.reduceNeg, Int.reduceToNat, Nat.reduceMul, Nat.reduceBEq, index_rsl_if, setm, make_ints, condK_dec, wantK_dec, not_dec, and_dec, or_dec, seqK_ite, seqK_none, blockK_ite, blockK_none, opsK_ite, opsK_none, stepK_ite, stepK_none, bodyK_ite, bodyK_none, resK_ite, resK_none, leaveK_ite, leaveK_none, only_ite, only_none, bind_ite, gives_some, gives_none, gives_ite, then_normal, then_ret, then_exit, then_none, then_ite, Option.bind_none, Bool.not_eq_true', decide_eq_false_iff_not, Bool.and_eq_true, Bool.or_eq_true, Option.some.injEq, Int.not_lt, Int.not_le, lp45_0, hlt, hi0, hs, hb1, hpair, hzl, wa, wb, zn, ta, tb, p1', List.length_map]
      refine ⟨i + 1, by simp only [go_sem, reduceIte, Nat.reduceEqDiff, Nat.reduceAdd, Nat.reduceSub, Nat.reduceLeDiff, Nat.reduceLT, reduceCtorEq, Int.reduceLT, Int.reduceLE, Int.reduceEq, Int.reduceBEq, Int.reduceSub, Int.reduceAdd, Int.reduceMul, Int.reduceNeg, Int.reduceToNat, Nat.reduceMul, Nat.reduceBEq, ren1_locm, loc_tips, locT_eq, hsucc, ren1_out, outAcc_snd, okRefsB, renCellsB] <;> rfl, ?_, ?_, fun x en s hq => ?_⟩
      · omega
      · omega
      · exact hq
    · by_cases p2 : (x, y) ∈ out
      · rw [if_neg (by simp [p2])] at hsucc
        simp only [go_sem, reduceIte, Nat.reduceEqDiff, Nat.reduceAdd, Nat.reduceSub, Nat.reduceLeDiff, Nat.reduceLT, reduceCtorEq, Int.reduceLT, Int.reduceLE, Int.reduceEq, Int.reduceBEq, Int.reduceSub, Int.reduceAdd, Int.reduceMul, Int.reduceNeg, Int.reduceToNat, Nat.reduceMul, Nat.reduceBEq, index_rsl_if, setm, make_ints, condK_dec, wantK_dec, not_dec, and_dec, or_dec, seqK_ite, seqK_none, blockK_ite, blockK_none, opsK_ite, opsK_none, stepK_ite, stepK_none, bodyK_ite, bodyK_none, resK_ite, resK_none, leaveK_ite, leaveK_none, only_ite, only_none, bind_ite, gives_some, gives_none, gives_ite, then_normal, then_ret, then_exit, then_none, then_ite, Option.bind_none, Bool.not_eq_true', decide_eq_false_iff_not, Bool.and_eq_true, Bool.or_eq_true, Option.some.injEq, Int.not_lt, Int.not_le, lp45_0, hlt, hi0, hs, hb1, hpair, hzl, wa, wb, zn, ta, tb, p1, h49, p2, List.length_map]
        refine ⟨i + 1, by simp only [go_sem, reduceIte, Nat.reduceEqDiff, Nat.reduceAdd, Nat.reduceSub, Nat.reduceLeDiff, Nat.reduceLT, reduceCtorEq, Int.reduceLT, Int.reduceLE, Int.reduceEq, Int.reduceBEq, Int.reduceSub, Int.reduceAdd, Int.reduceMul, Int.reduceNeg, Int.reduceToNat, Nat.reduceMul, Nat.reduceBEq, ren1_locm, loc_tips, locT_eq, hsucc, ren1_out, outAcc_snd, okRefsB, renCellsB] <;> rfl, ?_, ?_, fun x en s hq => ?_⟩
        · omega
        · omega
        · exact hq
      · rw [if_pos ⟨p1, p2⟩] at hsucc
        simp only [go_sem, reduceIte, Nat.reduceEqDiff, Nat.reduceAdd, Nat.reduceSub, Nat.reduceLeDiff, Nat.reduceLT, reduceCtorEq, Int.reduceLT, Int.reduceLE, Int.reduceEq, Int.reduceBEq, Int.reduceSub, Int.reduceAdd, Int.reduceMul, Int.reduceNeg, Int.reduceToNat, Nat.reduceMul, Nat.reduceBEq, index_rsl_if, setm, make_ints, condK_dec, wantK_dec, not_dec, and_dec, or_dec, seqK_ite, seqK_none, blockK_ite, blockK_none, opsK_ite, opsK_none, stepK_ite, stepK_none, bodyK_ite, bodyK_none, resK_ite, resK_none, leaveK_ite, leaveK_none, only_ite, only_none, bind_ite, gives_some, gives_none, gives_ite, then_normal, then_ret, then_exit, then_none, then_ite, Option.bind_none, Bool.not_eq_true', decide_eq_false_iff_not, Bool.and_eq_true, Bool.or_eq_true, Option.some.injEq, Int.not_lt, Int.not_le, lp45_0, hlt, hi0, hs, hb1, hpair, hzl, wa, wb, zn, ta, tb, p1, h49, p2, happ, List.length_map]
        refine ⟨i + 1, by simp only [go_sem, reduceIte, Nat.reduceEqDiff, Nat.reduceAdd, Nat.reduceSub, Nat.reduceLeDiff, Nat.reduceLT, reduceCtorEq, Int.reduceLT, Int.reduceLE, Int.reduceEq, Int.reduceBEq, Int.reduceSub, Int.reduceAdd, Int.reduceMul, Int.reduceNeg, Int.reduceToNat, Nat.reduceMul, Nat.reduceBEq, ren1_locm, loc_tips, locT_eq, hsucc, ren1_out, outAcc_snd, okRefsB, renCellsB] <;> rfl, ?_, ?_, fun x en s hq => ?_⟩
        · omega
        · omega
        · exact hq
  · obtain rfl : i = k := by omega
    simp only [go_sem, reduceIte, Nat.reduceEqDiff, Nat.reduceAdd, Nat.reduceSub, Nat.reduceLeDiff, Nat.reduceLT, reduceCtorEq, Int.reduceLT, Int.reduceLE, Int.reduceEq, Int.reduceBEq, Int.reduceSub, Int.reduceAdd, Int.reduceMul, Int.reduceNeg, Int.reduceToNat, Nat.reduceMul, Nat.reduceBEq, index_rsl_if, setm, make_ints, condK_dec, wantK_dec, not_dec, and_dec, or_dec, seqK_ite, seqK_none, blockK_ite, blockK_none, opsK_ite, opsK_none, stepK_ite, stepK_none, bodyK_ite, bodyK_none, resK_ite, resK_none, leaveK_ite, leaveK_none, only_ite, only_none, bind_ite, gives_some, gives_none, gives_ite, then_normal, then_ret, then_exit, then_none, then_ite, Option.bind_none, Bool.not_eq_true', decide_eq_false_iff_not, Bool.and_eq_true, Bool.or_eq_true, Option.some.injEq, Int.not_lt, Int.not_le, lp45_0, show ((i : Int) < (i : Int)) = False from eq_false (by omega)]

def madeN (most : Int) (zs : List Int) : Int := 1 + zs.getD 0 0 % most
def madeP (most : Int) (zs : List Int) : List (Int × Int) := madeTo (madeN most zs) zs (zs.getD 1 0 % 17).toNat

theorem c45 (zs : List Int) (hzl : zs.length = 34) (hz : ∀ a ∈ zs, Byte a) (most : Int) (hl : most = 6 ∨ most = 7) (st : St) :
    run L 45 [qAV zs, I most] st = some (bkAV true (madeN most zs) (madeP most zs), st) := by
  rw [run_pure (fn := ir45) rfl rfl]
  have b0 := byte_getD hz 0
  have b1 := byte_getD hz 1
  have g0 := getB zs 0 (by omega)
  have g1 := getB zs 1 (by omega)
  unfold madeP
  have hN : madeN most zs = 1 + zs.getD 0 0 % most := rfl
  generalize zs.getD 0 0 = a at *
  generalize zs.getD 1 0 = b at *
  unfold Byte at b0 b1
  have ra := mod_range a most (by omega)
  have rb := mod_range b 17 (by omega)
  have wa := wrap64 a (by omega) (by omega)
  have wb := wrap64 b (by omega) (by omega)
  have z8 : (most = 0) = False := eq_false (by omega)
  have ta : a.tmod most = a % most := tmod8 (by omega)
  have tb : b.tmod 17 = b % 17 := tmod8 (by omega)
  have wn : IntKind.i64.wrap (1 + a % most) = madeN most zs := by rw [hN, wrap64] <;> omega
  have hn : 1 ≤ madeN most zs ∧ madeN most zs ≤ 7 := by omega
  obtain ⟨k, hk⟩ := Int.eq_ofNat_of_zero_le rb.1
  rw [hk, Int.toNat_natCast]
  have hk10 : k ≤ 16 := by omega
  have hsl : sliceaAV 16 2 true (.ptr 0 2) none (some (.v (.int .i64 (k : Int)))) none = some (.rsl 0 2 k 16 2 true) := by
    simp only [sliceaAV, natOr, natOf]
    simp; omega
  generalize madeN most zs = n at *
  simp only [ir45, go_sem, reduceIte, Nat.reduceEqDiff, Nat.reduceAdd, Nat.reduceSub, Nat.reduceLeDiff, Nat.reduceLT, reduceCtorEq, Int.reduceLT, Int.reduceLE, Int.reduceEq, Int.reduceBEq, Int.reduceSub, Int.reduceAdd, Int.reduceMul, Int.reduceNeg, Int.reduceToNat, Nat.reduceMul, Nat.reduceBEq, okRefsB, renCellsB, pubsB, storableB, g0, g1, wa, wb, z8, ta, tb, hk, wn, hsl, hzl, List.length_map]
  generalize hg : lim (headed pure (run L) true _ lp45_0 _ _) _ _ = o
  obtain ⟨x, en, s, rfl, h2⟩ : ∃ x en s, o = some (x, en, s) ∧ _ := by rw [← hg]; exact loop45 zs hzl hz n hn k hk10 0 (by omega) _ _ (by simp only [go_sem, reduceIte, Nat.reduceEqDiff, Nat.reduceAdd, Nat.reduceSub, Nat.reduceLeDiff, Nat.reduceLT, reduceCtorEq, Int.reduceLT, Int.reduceLE, Int.reduceEq, Int.reduceBEq, Int.reduceSub, Int.reduceAdd, Int.reduceMul, Int.reduceNeg, Int.reduceToNat, Nat.reduceMul, Nat.reduceBEq, okRefsB, renCellsB, madeTo, out_start, outT_nil, ren1_out, outAcc_snd, Int.natCast_zero] <;> rfl)
  clear hg
  obtain ⟨rfl, h4, h5, rfl⟩ := h2
  simp only [go_sem, reduceIte, Nat.reduceEqDiff, Nat.reduceAdd, Nat.reduceSub, Nat.reduceLeDiff, Nat.reduceLT, reduceCtorEq, Int.reduceLT, Int.reduceLE, Int.reduceEq, Int.reduceBEq, Int.reduceSub, Int.reduceAdd, Int.reduceMul, Int.reduceNeg, Int.reduceToNat, Nat.reduceMul, Nat.reduceBEq, h4, h5]


abbrev U (n : Nat) : AV := .v (.int .u64 n)
theorem wrapU (n : Nat) (h : n < 2 ^ 64) : IntKind.u64.wrap (n : Int) = n := by
  simp [IntKind.wrap, IntKind.bits, IntKind.signed]; omega
theorem shrU (m p : Nat) (h : p < 64) : Int.fdiv (m : Int) (2 ^ min p 64) = ((m >>> p : Nat) : Int) := by
  have e : min p 64 = p := by omega
  have e2 : ((2 : Int) ^ p) = ((2 ^ p : Nat) : Int) := by simp
  rw [e, e2, Int.fdiv_eq_ediv_of_nonneg _ (Int.natCast_nonneg _), Nat.shiftRight_eq_div_pow]
  simp
theorem and_one (n : Nat) : binAV .and none (.v (.int .u64 (n : Int))) (.v (.int .u64 1)) = some (.v (.int .u64 ((n % 2 : Nat) : Int))) := by
  have h : (BitVec.ofInt 64 (n : Int) &&& BitVec.ofInt 64 1).toNat = n % 2 := by
    rw [BitVec.toNat_and]
    have : (BitVec.ofInt 64 1).toNat = 1 := by decide
    rw [this, Nat.and_one_is_mod, BitVec.ofInt_natCast, BitVec.toNat_ofNat]
    omega
  show some (AV.v (.int .u64 (IntKind.u64.wrap ((BitVec.ofInt 64 (n : Int) &&& BitVec.ofInt 64 1).toNat : Int)))) = _
  rw [h, wrapU _ (by omega)]
theorem shr_u (m p : Nat) : binAV .shr none (.v (.int .u64 (m : Int))) (.v (.int .i64 (p : Int))) = some (.v (.int .u64 ((m >>> min p 64 : Nat) : Int))) := by
  have e := shrU m (min p 64)
  show (if (p : Int) < 0 then none else some (AV.v (.int .u64 (Int.fdiv (m : Int) (2 ^ min (Int.toNat (p : Int)) 64))))) = _
  rw [if_neg (by omega), Int.toNat_natCast]
  have e2 : ((2 : Int) ^ (min p 64)) = ((2 ^ (min p 64) : Nat) : Int) := by simp
  rw [e2, Int.fdiv_eq_ediv_of_nonneg _ (Int.natCast_nonneg _), Nat.shiftRight_eq_div_pow]
  simp
theorem min64 (p : Nat) (h : p < 64) : min p 64 = p := by omega
attribute [local go_sem high] and_one shr_u
def okP (p : Int × Int) : Prop := 0 ≤ p.1 ∧ p.1 < 7 ∧ 0 ≤ p.2 ∧ p.2 < 7
theorem run_any' {f : FuncId} {fn : IF} (hf : L.fns f = some fn) (hp : L.pure f = true) {args : List AV} {st0 st1 : St} {r : AV} (h : run L f args st0 = some (r, st1)) (st : St) : run L f args st = some (r, st) := by
  rw [run_pure hf hp] at h ⊢
  unfold leaveK at h ⊢
  split at h
  · simp only [leave, Option.some.injEq, Prod.mk.injEq] at h ⊢
    exact ⟨h.1, trivial⟩
  · simp at h
theorem all_of {α : Type} {f g : Nat → α} {k : Nat} (h : (List.range k).map f = (List.range k).map g) (m : Nat) (hm : m < k) : f m = g m := by
  have := congrArg (fun l : List α => l[m]?) h
  simpa [hm] using this
def sh1 (p : Nat) : Nat := 2 ^ min p 64 % 2 ^ 64
theorem sh1_eq (p : Nat) (h : p < 64) : sh1 p = 2 ^ p := by
  unfold sh1; rw [show min p 64 = p by omega]
  exact Nat.mod_eq_of_lt (Nat.pow_lt_pow_right (by omega) h)
theorem shl_one (p : Nat) : binAV .shl none (.v (.int .u64 1)) (.v (.int .i64 (p : Int))) = some (.v (.int .u64 ((sh1 p : Nat) : Int))) := by
  show (if (p : Int) < 0 then none else some (AV.v (.int .u64 (IntKind.u64.wrap (1 * (2 ^ (min (Int.toNat (p : Int)) 64)))))) ) = _
  rw [if_neg (by omega), Int.toNat_natCast]
  have e2 : (1 : Int) * ((2 : Int) ^ (min p 64)) = ((2 ^ (min p 64) : Nat) : Int) := by simp
  rw [e2]
  simp only [sh1, IntKind.wrap, IntKind.bits, IntKind.signed]
  simp
def orU (a b : Nat) : Nat := a % 2 ^ 64 ||| b % 2 ^ 64
theorem or_u (a b : Nat) : binAV .or none (.v (.int .u64 (a : Int))) (.v (.int .u64 (b : Int))) = some (.v (.int .u64 ((orU a b : Nat) : Int))) := by
  have h : (BitVec.ofInt 64 (a : Int) ||| BitVec.ofInt 64 (b : Int)).toNat = orU a b := by
    rw [BitVec.toNat_or]; simp [BitVec.ofInt_natCast, orU]
  show some (AV.v (.int .u64 (IntKind.u64.wrap ((BitVec.ofInt 64 (a : Int) ||| BitVec.ofInt 64 (b : Int)).toNat : Int)))) = _
  rw [h, wrapU]
  unfold orU
  exact Nat.or_lt_two_pow (Nat.mod_lt _ (by decide)) (Nat.mod_lt _ (by decide))
theorem orU_eq (a b : Nat) (ha : a < 128) (hb : b < 128) : orU a b = a ||| b := by
  unfold orU; rw [Nat.mod_eq_of_lt (by omega), Nat.mod_eq_of_lt (by omega)]
def andN (a b : Nat) : Nat := a % 2 ^ 64 &&& b % 2 ^ 64
theorem and_u (a b : Nat) : binAV .and none (.v (.int .u64 (a : Int))) (.v (.int .u64 (b : Int))) = some (.v (.int .u64 ((andN a b : Nat) : Int))) := by
  have h : (BitVec.ofInt 64 (a : Int) &&& BitVec.ofInt 64 (b : Int)).toNat = andN a b := by
    rw [BitVec.toNat_and]; simp [BitVec.ofInt_natCast, andN]
  show some (AV.v (.int .u64 (IntKind.u64.wrap ((BitVec.ofInt 64 (a : Int) &&& BitVec.ofInt 64 (b : Int)).toNat : Int)))) = _
  rw [h, wrapU]
  unfold andN
  exact Nat.lt_of_le_of_lt Nat.and_le_left (Nat.mod_lt _ (by decide))
theorem andN_eq (a b : Nat) (ha : a < 128) (hb : b < 128) : andN a b = a &&& b := by
  unfold andN; rw [Nat.mod_eq_of_lt (by omega), Nat.mod_eq_of_lt (by omega)]
def orAt (o : List Nat) (i b : Nat) : List Nat := o.set i (o.getD i 0 ||| 2 ^ b)
theorem orAt_len (o : List Nat) (i b : Nat) : (orAt o i b).length = o.length := by simp [orAt]
def tzN (m : Nat) : Nat := ((List.range 7).find? m.testBit).getD 64
def dfN (a b : Nat) : Nat := a &&& (127 - b)
theorem dfN_bit {a b : Nat} (hb : b < 128) (i : Nat) : (dfN a b).testBit i = (a.testBit i && (decide (i < 7) && !b.testBit i)) := by
  unfold dfN
  rw [Nat.testBit_and, show 127 - b = 2 ^ 7 - (b + 1) from by omega, Nat.testBit_two_pow_sub_succ hb]
theorem dfN_lt {a b : Nat} (ha : a < 128) : dfN a b < 128 := Nat.lt_of_le_of_lt Nat.and_le_left ha
theorem tz_spec {m : Nat} (hm : m < 128) (h : m ≠ 0) : tzN m < 7 ∧ m.testBit (tzN m) = true := by
  have hk : ∀ k : Fin 128, k.val ≠ 0 → tzN k.val < 7 ∧ k.val.testBit (tzN k.val) = true := by decide
  exact hk ⟨m, hm⟩ h
theorem dfU_eq (a b : Nat) (ha : a < 128) (hb : b < 128) : binAV .andNot none (.v (.int .u64 (a : Int))) (.v (.int .u64 (b : Int))) = some (.v (.int .u64 ((dfN a b : Nat) : Int))) := by
  have e : (BitVec.ofInt IntKind.u64.bits (a : Int) &&& ~~~BitVec.ofInt IntKind.u64.bits (b : Int)).toNat = dfN a b := by
    show (BitVec.ofInt 64 (a : Int) &&& ~~~BitVec.ofInt 64 (b : Int)).toNat = dfN a b
    rw [BitVec.toNat_and, BitVec.toNat_not, BitVec.toNat_ofInt, BitVec.toNat_ofInt]
    have ea : ((a : Int) % ((2 ^ 64 : Nat) : Int)).toNat = a := by omega
    have eb : ((b : Int) % ((2 ^ 64 : Nat) : Int)).toNat = b := by omega
    rw [ea, eb]
    apply Nat.eq_of_testBit_eq
    intro i
    rw [dfN_bit hb, Nat.testBit_and, show 2 ^ 64 - 1 - b = 2 ^ 64 - (b + 1) from by omega, Nat.testBit_two_pow_sub_succ (by omega : b < 2 ^ 64)]
    by_cases h : i < 7
    · simp [h, show i < 64 by omega]
    · have : a.testBit i = false := Nat.testBit_lt_two_pow (Nat.lt_of_lt_of_le ha (Nat.pow_le_pow_right (n := 2) (by decide) (Nat.le_of_not_lt h)))
      rw [this]; simp
  show some (AV.v (.int .u64 (IntKind.u64.wrap ((BitVec.ofInt IntKind.u64.bits (a : Int) &&& ~~~BitVec.ofInt IntKind.u64.bits (b : Int)).toNat : Int)))) = _
  rw [e, wrapU _ (by have := dfN_lt (a := a) (b := b) ha; omega)]
theorem okRefsU (n : Nat) (xs : List Nat) : okRefs n (xs.map U) = true := okRefs_map U n (fun _ => rfl) xs
theorem renCellsU (n : Nat) (tips : List Nat) (acc : List (Nat × Nat)) (xs : List Nat) : renCells n tips acc (xs.map U) = (xs.map U, acc) := renCells_map U n tips (fun _ _ => rfl) xs acc
theorem pubsU (xs : List Nat) : pubs (xs.map U) = xs.map U := pubs_map U (fun _ => rfl) xs
theorem getU (o : List Nat) (a : Nat) (h : a < o.length) : (o.map U)[a]? = some (U (o.getD a 0)) := by
  rw [getm U o 0 a, if_pos h]
theorem frzV_v (l : Nat) (cs : List AV) (x : Value) : frzV l cs (.v x) = .v x := by simp only [frzV]
theorem frzV_ptr (l : Nat) (cs : List AV) (i o : Nat) : frzV l cs (.ptr i o) = .ptr i o := by simp only [frzV]
theorem frzV_sl (l : Nat) (cs : List AV) (z : Nat) (nl : Bool) (xs : List AV) : frzV l cs (sl z nl xs) = sl z nl xs := by
  cases xs with
  | nil => cases nl <;> rfl
  | cons x r => rw [sl_ne (by simp)]; simp only [frzV]
theorem len_seven {α : Type} {l : List α} (h : l.length = 7) : ∃ a b c d e f g, l = [a, b, c, d, e, f, g] := by
  match l, h with
  | [a, b, c, d, e, f, g], _ => exact ⟨a, b, c, d, e, f, g, rfl⟩
theorem sh1_lt (b : Nat) (h : b < 7) : sh1 b = 2 ^ b ∧ 2 ^ b < 128 := ⟨sh1_eq b (by omega), Nat.pow_lt_pow_right (by omega) (show b < 7 from h)⟩
theorem small_getD {o : List Nat} (h : ∀ x ∈ o, x < 128) (a : Nat) : o.getD a 0 < 128 := by
  rw [List.getD_eq_getElem?_getD]
  cases h2 : o[a]?
  · simp
  · exact h _ (List.mem_of_getElem? h2)
theorem orAt_small {o : List Nat} (h : ∀ x ∈ o, x < 128) {a b : Nat} (hb : b < 7) : ∀ x ∈ orAt o a b, x < 128 := by
  intro x hx
  unfold orAt at hx
  rcases List.mem_or_eq_of_mem_set hx with hx | rfl
  · exact h x hx
  · exact Nat.or_lt_two_pow (n := 7) (small_getD h a) (sh1_lt b hb).2
theorem storableU (xs : List Nat) : (xs.map U).all storable = true := by
  rw [List.all_eq_true]; intro x hx; rw [List.mem_map] at hx; obtain ⟨n, _, rfl⟩ := hx; rfl

/-! ### sets as signed numbers -/
theorem shl_i (p : Nat) (h : p < 62) : binAV .shl none (.v (.int .i64 1)) (.v (.int .i64 (p : Int))) = some (I ((2 ^ p : Nat) : Int)) := by
  show (if (p : Int) < 0 then none else some (AV.v (.int .i64 (IntKind.i64.wrap (1 * (2 ^ (min (Int.toNat (p : Int)) 64))))))) = _
  rw [if_neg (by omega), Int.toNat_natCast, show min p 64 = p by omega]
  have e2 : (1 : Int) * ((2 : Int) ^ p) = ((2 ^ p : Nat) : Int) := by simp
  rw [e2]
  have h1 : 2 ^ p < 2 ^ 62 := Nat.pow_lt_pow_right (by omega) h
  generalize 2 ^ p = q at *
  rw [wrap64] <;> omega
theorem or_i (a b : Nat) (ha : a < 2 ^ 62) (hb : b < 2 ^ 62) : binAV .or none (.v (.int .i64 (a : Int))) (.v (.int .i64 (b : Int))) = some (I ((a ||| b : Nat) : Int)) := by
  have h : (BitVec.ofInt 64 (a : Int) ||| BitVec.ofInt 64 (b : Int)).toNat = a ||| b := by
    rw [BitVec.toNat_or]; simp [BitVec.ofInt_natCast, Nat.mod_eq_of_lt (show a < 2 ^ 64 by omega), Nat.mod_eq_of_lt (show b < 2 ^ 64 by omega)]
  show some (AV.v (.int .i64 (IntKind.i64.wrap ((BitVec.ofInt 64 (a : Int) ||| BitVec.ofInt 64 (b : Int)).toNat : Int)))) = _
  have := Nat.or_lt_two_pow ha hb
  rw [h, wrap64] <;> omega
theorem and_i (a b : Nat) (ha : a < 2 ^ 62) (hb : b < 2 ^ 62) : binAV .and none (.v (.int .i64 (a : Int))) (.v (.int .i64 (b : Int))) = some (I ((a &&& b : Nat) : Int)) := by
  have h : (BitVec.ofInt 64 (a : Int) &&& BitVec.ofInt 64 (b : Int)).toNat = a &&& b := by
    rw [BitVec.toNat_and]; simp [BitVec.ofInt_natCast, Nat.mod_eq_of_lt (show a < 2 ^ 64 by omega), Nat.mod_eq_of_lt (show b < 2 ^ 64 by omega)]
  show some (AV.v (.int .i64 (IntKind.i64.wrap ((BitVec.ofInt 64 (a : Int) &&& BitVec.ofInt 64 (b : Int)).toNat : Int)))) = _
  have : a &&& b ≤ a := Nat.and_le_left
  rw [h, wrap64] <;> omega
theorem shr_i (m p : Nat) (h : p < 62) : binAV .shr none (.v (.int .i64 (m : Int))) (.v (.int .i64 (p : Int))) = some (I ((m >>> p : Nat) : Int)) := by
  show (if (p : Int) < 0 then none else some (AV.v (.int .i64 (Int.fdiv (m : Int) (2 ^ min (Int.toNat (p : Int)) 64))))) = _
  rw [if_neg (by omega), Int.toNat_natCast, shrU m p (by omega)]
theorem and_one_i (n : Nat) (h : n < 2 ^ 62) : binAV .and none (.v (.int .i64 (n : Int))) (.v (.int .i64 1)) = some (I ((n % 2 : Nat) : Int)) := by
  have := and_i n 1 h (by decide)
  rw [Nat.and_one_is_mod] at this
  exact this
theorem bit_one (m p : Nat) : ((((m >>> p) % 2 : Nat) : Int) = 1) = (m.testBit p = true) := by
  rw [Nat.testBit_eq_decide_div_mod_eq, Nat.shiftRight_eq_div_pow]
  generalize m / 2 ^ p = k
  have : k % 2 < 2 := Nat.mod_lt _ (by omega)
  rw [decide_eq_true_iff]
  exact propext (by omega)


/-! ### what each word sees -/
abbrev J (n : Nat) : AV := .v (.int .i64 (n : Int))
theorem okRefsJ (n : Nat) (xs : List Nat) : okRefs n (xs.map J) = true := okRefs_map J n (fun _ => rfl) xs
theorem renCellsJ (n : Nat) (tips : List Nat) (acc : List (Nat × Nat)) (xs : List Nat) : renCells n tips acc (xs.map J) = (xs.map J, acc) := renCells_map J n tips (fun _ _ => rfl) xs acc
theorem pubsJ (xs : List Nat) : pubs (xs.map J) = xs.map J := pubs_map J (fun _ => rfl) xs
theorem getJ (o : List Nat) (a : Nat) (h : a < o.length) : (o.map J)[a]? = some (J (o.getD a 0)) := by
  rw [getm J o 0 a, if_pos h]
theorem storableJ (xs : List Nat) : (xs.map J).all storable = true := by
  rw [List.all_eq_true]; intro x hx; rw [List.mem_map] at hx; obtain ⟨n, _, rfl⟩ := hx; rfl
def see1 (o : List Nat) (p : Int × Int) : List Nat := orAt o p.1.toNat p.2.toNat
def seeL (z : Nat) (ps : List (Int × Int)) : List Nat := ps.foldl see1 (List.replicate z 0)
theorem foldl_see_len : ∀ (ps : List (Int × Int)) (o : List Nat), (ps.foldl see1 o).length = o.length
  | [], o => rfl
  | p :: r, o => by rw [List.foldl_cons, foldl_see_len r]; exact orAt_len _ _ _
theorem foldl_see_small : ∀ (ps : List (Int × Int)) (o : List Nat), (∀ p ∈ ps, okP p) → (∀ x ∈ o, x < 128) → ∀ x ∈ ps.foldl see1 o, x < 128
  | [], o, _, h => h
  | p :: r, o, hp, h => by
    rw [List.foldl_cons]
    have h1 := hp p (by simp)
    unfold okP at h1
    exact foldl_see_small r _ (fun q hq => hp q (by simp [hq])) (orAt_small h (by omega))
theorem seeL_len (z : Nat) (ps : List (Int × Int)) : (seeL z ps).length = z := by unfold seeL; rw [foldl_see_len]; simp
theorem seeL_small (z : Nat) {ps : List (Int × Int)} (h : ∀ p ∈ ps, okP p) : ∀ x ∈ seeL z ps, x < 128 := foldl_see_small ps _ h (by simp)
theorem len_eight {α : Type} {l : List α} (h : l.length = 8) : ∃ a b c d e f g k, l = [a, b, c, d, e, f, g, k] := by
  match l, h with
  | [a, b, c, d, e, f, g, k], _ => exact ⟨a, b, c, d, e, f, g, k, rfl⟩
def y8 : List AV := [I 0, I 0, I 0, I 0, I 0, I 0, I 0, I 0]

theorem loop50 (nl : Bool) (n : Int) (ps : List (Int × Int)) (hlen : ps.length < 1000000) (h7 : ∀ p ∈ ps, okP p) (i : Nat) (o : List Nat) (hok : i ≤ ps.length ∧ o.length = 8 ∧ ∀ x ∈ o, x < 128) (env : Env) (st : St)
    (hg : gcAV true 3 0 (canon env [2, 3, 7, 8, 9]) st = ([(2, .ptr 1 0), (3, .ptr 2 0), (7, sl 2 nl (ps.map prAV)), (8, I ps.length), (9, I i)], ⟨[bkCells nl n ps, y8, o.map J], []⟩)) :
    ∃ x_1 en s, lim (headed pure (run L) true [2, 3, 7, 8, 9] lp50_0 3 0) env st = some (x_1, en, s) ∧ (x_1 = .exit 0 ∧ en.get 2 = .ptr 1 0 ∧ en.get 3 = .ptr 2 0 ∧ s = ⟨[bkCells nl n ps, y8, ((ps.drop i).foldl see1 o).map J], []⟩ ∧ ((ps.drop i).foldl see1 o).length = 8) := by
  refine loop_wp (α := Nat × List Nat) (fun ⟨i, o⟩ => ps.length - i) (fun ⟨i, o⟩ => i ≤ ps.length ∧ o.length = 8 ∧ ∀ x ∈ o, x < 128) (fun ⟨i, o⟩ => ([(2, .ptr 1 0), (3, .ptr 2 0), (7, sl 2 nl (ps.map prAV)), (8, I ps.length), (9, I i)], ⟨[bkCells nl n ps, y8, o.map J], []⟩)) (fun ⟨i, o⟩ x_1 en s => x_1 = .exit 0 ∧ en.get 2 = .ptr 1 0 ∧ en.get 3 = .ptr 2 0 ∧ s = ⟨[bkCells nl n ps, y8, ((ps.drop i).foldl see1 o).map J], []⟩ ∧ ((ps.drop i).foldl see1 o).length = 8) (fun ⟨i, o⟩ hok => ?_) ⟨i, o⟩ hok env st hg
  simp only at hok
  obtain ⟨h1, h2, h3⟩ := hok
  dsimp only
  by_cases h : i < ps.length
  · have hx := index_prs nl ps i h
    have hs := succ64 i (by omega)
    have hd : ps.drop i = ps[i] :: ps.drop (i + 1) := List.drop_eq_getElem_cons h
    have hp := h7 ps[i] (List.getElem_mem h)
    rw [hd, List.foldl_cons]
    generalize ps[i] = c at *
    obtain ⟨u, v⟩ := c
    obtain ⟨a1, a2, a3, a4⟩ := hp
    simp only at a1 a2 a3 a4 hx
    obtain ⟨u, rfl⟩ := Int.eq_ofNat_of_zero_le a1
    obtain ⟨v, rfl⟩ := Int.eq_ofNat_of_zero_le a3
    have hlt : ((i : Int) < (ps.length : Int)) = True := eq_true (by omega)
    have hu : u < 7 := by omega
    have hv : v < 7 := by omega
    have q1 := shl_i v (by omega)
    have q2 := or_i (o.getD u 0) (2 ^ v) (by have := small_getD h3 u; omega) (by have := (sh1_lt v hv).2; omega)
    have hs1 := orAt_small h3 (a := u) hv
    have hl1 := orAt_len o u v
    have g1 := getJ o u (by omega)
    have hset1 : o.set u (o.getD u 0 ||| 2 ^ v) = see1 o ((u : Int), (v : Int)) := rfl
    have hadv : see1 o ((u : Int), (v : Int)) = orAt o u v := rfl
    have b1 : ((0 : Int) ≤ (u : Int)) = True := eq_true (by omega)
    have b2 : ((u : Int) < 8) = True := eq_true (by omega)
    have b5 : (u + 1 ≤ 8) = True := eq_true (by omega)
    rw [h2] at hl1
    rw [← hadv] at hs1 hl1
    generalize see1 o ((u : Int), (v : Int)) = o2 at *
    simp only [go_sem, reduceIte, Nat.reduceEqDiff, Nat.reduceAdd, Nat.reduceSub, Nat.reduceLeDiff, Nat.reduceLT, reduceCtorEq, Int.reduceLT, Int.reduceLE, Int.reduceEq, Int.reduceBEq, Int.reduceSub, Int.reduceAdd, Int.reduceMul, Int.reduceNeg, Int.reduceToNat, Nat.reduceMul, Nat.reduceBEq, index_rsl_if, setm, make_ints, condK_dec, wantK_dec, not_dec, and_dec, or_dec, seqK_ite, seqK_none, blockK_ite, blockK_none, opsK_ite, opsK_none, stepK_ite, stepK_none, bodyK_ite, bodyK_none, resK_ite, resK_none, leaveK_ite, leaveK_none, only_ite, only_none, bind_ite, gives_some, gives_none, gives_ite, then_normal, then_ret, then_exit, then_none, then_ite, Option.bind_none, Bool.not_eq_true', decide_eq_false_iff_not, Bool.and_eq_true, Bool.or_eq_true, Option.some.injEq, Int.not_lt, Int.not_le, lp50_0, hx, hlt, hs, b1, b2, b5, g1, q1, q2, hset1, h2, hl1, List.length_map]
    refine ⟨(i + 1, o2), by simp only [go_sem, reduceIte, Nat.reduceEqDiff, Nat.reduceAdd, Nat.reduceSub, Nat.reduceLeDiff, Nat.reduceLT, reduceCtorEq, Int.reduceLT, Int.reduceLE, Int.reduceEq, Int.reduceBEq, Int.reduceSub, Int.reduceAdd, Int.reduceMul, Int.reduceNeg, Int.reduceToNat, Nat.reduceMul, Nat.reduceBEq, ren1_locm, loc_tips, locT_eq, okRefsJ, renCellsJ, y8] <;> rfl, ?_, ?_, fun x en s hq => ?_⟩
    · dsimp only; exact ⟨by omega, hl1, hs1⟩
    · simp only; omega
    · exact hq
  · have hd : ps.drop i = [] := List.drop_eq_nil_of_le (by omega)
    have hlt : ((i : Int) < (ps.length : Int)) = False := eq_false (by omega)
    simp only [go_sem, reduceIte, Nat.reduceEqDiff, Nat.reduceAdd, Nat.reduceSub, Nat.reduceLeDiff, Nat.reduceLT, reduceCtorEq, Int.reduceLT, Int.reduceLE, Int.reduceEq, Int.reduceBEq, Int.reduceSub, Int.reduceAdd, Int.reduceMul, Int.reduceNeg, Int.reduceToNat, Nat.reduceMul, Nat.reduceBEq, index_rsl_if, setm, make_ints, condK_dec, wantK_dec, not_dec, and_dec, or_dec, seqK_ite, seqK_none, blockK_ite, blockK_none, opsK_ite, opsK_none, stepK_ite, stepK_none, bodyK_ite, bodyK_none, resK_ite, resK_none, leaveK_ite, leaveK_none, only_ite, only_none, bind_ite, gives_some, gives_none, gives_ite, then_normal, then_ret, then_exit, then_none, then_ite, Option.bind_none, Bool.not_eq_true', decide_eq_false_iff_not, Bool.and_eq_true, Bool.or_eq_true, Option.some.injEq, Int.not_lt, Int.not_le, lp50_0, hlt, List.length_map]
    rw [hd]; exact ⟨rfl, h2⟩

theorem c50 (nl : Bool) (n : Int) (ps : List (Int × Int)) (hlen : ps.length < 1000000) (h7 : ∀ p ∈ ps, okP p) (st : St) :
    run L 50 [bkAV nl n ps] st = some (.agg ((seeL 8 ps).map J), st) := by
  rw [run_pure (fn := ir50) rfl rfl]
  simp only [ir50, go_sem, reduceIte, Nat.reduceEqDiff, Nat.reduceAdd, Nat.reduceSub, Nat.reduceLeDiff, Nat.reduceLT, reduceCtorEq, Int.reduceLT, Int.reduceLE, Int.reduceEq, Int.reduceBEq, Int.reduceSub, Int.reduceAdd, Int.reduceMul, Int.reduceNeg, Int.reduceToNat, Nat.reduceMul, Nat.reduceBEq, List.length_map]
  generalize hg : lim (headed pure (run L) true _ lp50_0 _ _) _ _ = o
  obtain ⟨x, en, s, rfl, h2⟩ : ∃ x en s, o = some (x, en, s) ∧ _ := by rw [← hg]; exact loop50 nl n ps hlen h7 0 (List.replicate 8 0) ⟨by omega, by simp, by simp⟩ _ _ (by simp only [go_sem, reduceIte, Nat.reduceEqDiff, Nat.reduceAdd, Nat.reduceSub, Nat.reduceLeDiff, Nat.reduceLT, reduceCtorEq, Int.reduceLT, Int.reduceLE, Int.reduceEq, Int.reduceBEq, Int.reduceSub, Int.reduceAdd, Int.reduceMul, Int.reduceNeg, Int.reduceToNat, Nat.reduceMul, Nat.reduceBEq, y8, List.map_replicate] <;> rfl)
  clear hg
  obtain ⟨rfl, h3, h4, rfl, h5⟩ := h2
  rw [List.drop_zero] at h5 ⊢
  have e : ps.foldl see1 (List.replicate 8 0) = seeL 8 ps := rfl
  rw [e] at h5 ⊢
  obtain ⟨a, b, c, d, f, g, k, k2, h6⟩ := len_eight h5
  rw [h6]
  simp only [go_sem, reduceIte, Nat.reduceEqDiff, Nat.reduceAdd, Nat.reduceSub, Nat.reduceLeDiff, Nat.reduceLT, reduceCtorEq, Int.reduceLT, Int.reduceLE, Int.reduceEq, Int.reduceBEq, Int.reduceSub, Int.reduceAdd, Int.reduceMul, Int.reduceNeg, Int.reduceToNat, Nat.reduceMul, Nat.reduceBEq, h3, h4, y8]

attribute [local go_sem high] and_one shr_u shl_one or_u

def webC (n : Int) (o : List Nat) : List AV := I n :: o.map U
abbrev webAV (n : Int) (o : List Nat) : AV := .agg (webC n o)
theorem okRefsW (k : Nat) (n : Int) (o : List Nat) : okRefs k (webC n o) = true := by unfold webC; simp only [okRefs, okRefsU]; rfl
theorem renCellsW (k : Nat) (tips : List Nat) (acc : List (Nat × Nat)) (n : Int) (o : List Nat) : renCells k tips acc (webC n o) = (webC n o, acc) := by
  unfold webC; simp only [renCells, ren1, renCellsU]
theorem pubsW (n : Int) (o : List Nat) : pubs (webC n o) = webC n o := by unfold webC; simp only [pubs, pub, pubsU]
theorem storableW (n : Int) (o : List Nat) : (webC n o).all storable = true := by unfold webC; rw [List.all_cons, storableU]; rfl
theorem lenW (n : Int) (o : List Nat) : (webC n o).length = 1 + o.length := by simp [webC]; omega
theorem getW (n : Int) (o : List Nat) (a : Nat) (h : a < o.length) : (webC n o)[1 + a]? = some (U (o.getD a 0)) := by
  unfold webC; rw [Nat.add_comm, List.getElem?_cons_succ]; exact getU o a h
theorem getW0 (n : Int) (o : List Nat) : (webC n o)[0]? = some (I n) := rfl
theorem setW (n : Int) (o : List Nat) (a : Nat) (m : Nat) : (webC n o).set (1 + a) (U m) = webC n (o.set a m) := by
  unfold webC; rw [Nat.add_comm, List.set_cons_succ, List.map_set]
def w8 : List AV := [I 0, U 0, U 0, U 0, U 0, U 0, U 0, U 0]

theorem loop65 (nl : Bool) (n : Int) (ps : List (Int × Int)) (hlen : ps.length < 1000000) (h7 : ∀ p ∈ ps, okP p) (i : Nat) (o : List Nat) (hok : i ≤ ps.length ∧ o.length = 7 ∧ ∀ x ∈ o, x < 128) (env : Env) (st : St)
    (hg : gcAV true 3 0 (canon env [2, 4, 18, 19, 20]) st = ([(2, .ptr 1 0), (4, .ptr 2 0), (18, sl 2 nl (ps.map prAV)), (19, I ps.length), (20, I i)], ⟨[bkCells nl n ps, w8, webC n o], []⟩)) :
    ∃ x_1 en s, lim (headed pure (run L) true [2, 4, 18, 19, 20] lp65_0 3 0) env st = some (x_1, en, s) ∧ (x_1 = .exit 0 ∧ en.get 2 = .ptr 1 0 ∧ en.get 4 = .ptr 2 0 ∧ s = ⟨[bkCells nl n ps, w8, webC n ((ps.drop i).foldl see1 o)], []⟩ ∧ ((ps.drop i).foldl see1 o).length = 7) := by
  refine loop_wp (α := Nat × List Nat) (fun ⟨i, o⟩ => ps.length - i) (fun ⟨i, o⟩ => i ≤ ps.length ∧ o.length = 7 ∧ ∀ x ∈ o, x < 128) (fun ⟨i, o⟩ => ([(2, .ptr 1 0), (4, .ptr 2 0), (18, sl 2 nl (ps.map prAV)), (19, I ps.length), (20, I i)], ⟨[bkCells nl n ps, w8, webC n o], []⟩)) (fun ⟨i, o⟩ x_1 en s => x_1 = .exit 0 ∧ en.get 2 = .ptr 1 0 ∧ en.get 4 = .ptr 2 0 ∧ s = ⟨[bkCells nl n ps, w8, webC n ((ps.drop i).foldl see1 o)], []⟩ ∧ ((ps.drop i).foldl see1 o).length = 7) (fun ⟨i, o⟩ hok => ?_) ⟨i, o⟩ hok env st hg
  simp only at hok
  obtain ⟨h1, h2, h3⟩ := hok
  dsimp only
  by_cases h : i < ps.length
  · have hx := index_prs nl ps i h
    have hs := succ64 i (by omega)
    have hd : ps.drop i = ps[i] :: ps.drop (i + 1) := List.drop_eq_getElem_cons h
    have hp := h7 ps[i] (List.getElem_mem h)
    rw [hd, List.foldl_cons]
    generalize ps[i] = c at *
    obtain ⟨u, v⟩ := c
    obtain ⟨a1, a2, a3, a4⟩ := hp
    simp only at a1 a2 a3 a4 hx
    obtain ⟨u, rfl⟩ := Int.eq_ofNat_of_zero_le a1
    obtain ⟨v, rfl⟩ := Int.eq_ofNat_of_zero_le a3
    have hlt : ((i : Int) < (ps.length : Int)) = True := eq_true (by omega)
    have hu : u < 7 := by omega
    have hv : v < 7 := by omega
    have e1 : orU (o.getD u 0) (sh1 v) = o.getD u 0 ||| 2 ^ v := by rw [(sh1_lt v hv).1, orU_eq _ _ (small_getD h3 u) (sh1_lt v hv).2]
    have hs1 := orAt_small h3 (a := u) hv
    have hl1 := orAt_len o u v
    have g1 := getW n o u (by omega)
    have hset1 : (webC n o).set (1 + u) (U (o.getD u 0 ||| 2 ^ v)) = webC n (see1 o ((u : Int), (v : Int))) := setW n o u _
    have hadv : see1 o ((u : Int), (v : Int)) = orAt o u v := rfl
    have b1 : ((0 : Int) ≤ (u : Int)) = True := eq_true (by omega)
    have b2 : ((u : Int) < 7) = True := eq_true (by omega)
    have b5 : (1 + u + 1 ≤ 8) = True := eq_true (by omega)
    have hlw := lenW n o
    rw [h2] at hl1 hlw
    rw [← hadv] at hs1 hl1
    generalize see1 o ((u : Int), (v : Int)) = o2 at *
    simp only [go_sem, reduceIte, Nat.reduceEqDiff, Nat.reduceAdd, Nat.reduceSub, Nat.reduceLeDiff, Nat.reduceLT, reduceCtorEq, Int.reduceLT, Int.reduceLE, Int.reduceEq, Int.reduceBEq, Int.reduceSub, Int.reduceAdd, Int.reduceMul, Int.reduceNeg, Int.reduceToNat, Nat.reduceMul, Nat.reduceBEq, index_rsl_if, setm, make_ints, condK_dec, wantK_dec, not_dec, and_dec, or_dec, seqK_ite, seqK_none, blockK_ite, blockK_none, opsK_ite, opsK_none, stepK_ite, stepK_none, bodyK_ite, bodyK_none, resK_ite, resK_none, leaveK_ite, leaveK_none, only_ite, only_none, bind_ite, gives_some, gives_none, gives_ite, then_normal, then_ret, then_exit, then_none, then_ite, Option.bind_none, Bool.not_eq_true', decide_eq_false_iff_not, Bool.and_eq_true, Bool.or_eq_true, Option.some.injEq, Int.not_lt, Int.not_le, lp65_0, hx, hlt, hs, b1, b2, b5, g1, e1, hset1, h2, hl1, hlw, List.length_map]
    refine ⟨(i + 1, o2), by simp only [go_sem, reduceIte, Nat.reduceEqDiff, Nat.reduceAdd, Nat.reduceSub, Nat.reduceLeDiff, Nat.reduceLT, reduceCtorEq, Int.reduceLT, Int.reduceLE, Int.reduceEq, Int.reduceBEq, Int.reduceSub, Int.reduceAdd, Int.reduceMul, Int.reduceNeg, Int.reduceToNat, Nat.reduceMul, Nat.reduceBEq, ren1_locm, loc_tips, locT_eq, okRefsW, renCellsW, w8] <;> rfl, ?_, ?_, fun x en s hq => ?_⟩
    · dsimp only; exact ⟨by omega, hl1, hs1⟩
    · simp only; omega
    · exact hq
  · have hd : ps.drop i = [] := List.drop_eq_nil_of_le (by omega)
    have hlt : ((i : Int) < (ps.length : Int)) = False := eq_false (by omega)
    simp only [go_sem, reduceIte, Nat.reduceEqDiff, Nat.reduceAdd, Nat.reduceSub, Nat.reduceLeDiff, Nat.reduceLT, reduceCtorEq, Int.reduceLT, Int.reduceLE, Int.reduceEq, Int.reduceBEq, Int.reduceSub, Int.reduceAdd, Int.reduceMul, Int.reduceNeg, Int.reduceToNat, Nat.reduceMul, Nat.reduceBEq, index_rsl_if, setm, make_ints, condK_dec, wantK_dec, not_dec, and_dec, or_dec, seqK_ite, seqK_none, blockK_ite, blockK_none, opsK_ite, opsK_none, stepK_ite, stepK_none, bodyK_ite, bodyK_none, resK_ite, resK_none, leaveK_ite, leaveK_none, only_ite, only_none, bind_ite, gives_some, gives_none, gives_ite, then_normal, then_ret, then_exit, then_none, then_ite, Option.bind_none, Bool.not_eq_true', decide_eq_false_iff_not, Bool.and_eq_true, Bool.or_eq_true, Option.some.injEq, Int.not_lt, Int.not_le, lp65_0, hlt, List.length_map]
    rw [hd]; exact ⟨rfl, h2⟩

/-! ### what a book that is checked has -/
theorem prsErr_zero {n : Int} : ∀ {ps seen : List (Int × Int)}, prsErr n seen ps = 0 → ∀ p ∈ ps, 0 ≤ p.1 ∧ p.1 < n ∧ 0 ≤ p.2 ∧ p.2 < n ∧ p.1 ≠ p.2 ∧ p ∉ seen
  | [], _, _, p, hp => by simp at hp
  | a :: r, seen, h, p, hp => by
    simp only [prsErr] at h
    split at h
    · next h0 =>
      unfold prErr at h0
      split at h0
      · omega
      · split at h0
        · omega
        · split at h0
          · omega
          · next q1 q2 q3 =>
            rcases List.mem_cons.1 hp with rfl | hp
            · exact ⟨by omega, by omega, by omega, by omega, q2, q3⟩
            · obtain ⟨g1, g2, g3, g4, g5, g6⟩ := prsErr_zero h p hp
              exact ⟨g1, g2, g3, g4, g5, fun hh => g6 (by simp [hh])⟩
    · next h0 => exact absurd h h0
theorem prsErr_nodup {n : Int} : ∀ {ps seen : List (Int × Int)}, prsErr n seen ps = 0 → ps.Nodup
  | [], _, _ => List.nodup_nil
  | a :: r, seen, h => by
    simp only [prsErr] at h
    split at h
    · refine List.nodup_cons.2 ⟨fun hm => ?_, prsErr_nodup h⟩
      exact (prsErr_zero h a hm).2.2.2.2.2 (by simp)
    · next h0 => exact absurd h h0
theorem chk_zero {n : Int} {ps : List (Int × Int)} (h : chk n ps = 0) : (1 ≤ n ∧ n ≤ 7) ∧ ps.length ≤ 16 ∧ (∀ p ∈ ps, 0 ≤ p.1 ∧ p.1 < n ∧ 0 ≤ p.2 ∧ p.2 < n ∧ p.1 ≠ p.2) ∧ (∀ p ∈ ps, okP p) ∧ ps.Nodup := by
  unfold chk at h
  split at h
  · omega
  · split at h
    · omega
    · have h3 := fun p hp => prsErr_zero h p hp
      exact ⟨by omega, by omega, fun p hp => by have := h3 p hp; exact ⟨by omega, by omega, by omega, by omega, this.2.2.2.2.1⟩, fun p hp => by have := h3 p hp; unfold okP; omega, prsErr_nodup h⟩
def wovL (n : Int) (ps : List (Int × Int)) : List Nat := if chk n ps = 0 then seeL 7 ps else List.replicate 7 0
theorem c65 (nl : Bool) (n : Int) (ps : List (Int × Int)) (st : St) :
    run L 65 [bkAV nl n ps] st = some (.tup [webAV n (wovL n ps), I (chk n ps)], st) := by
  rw [run_pure (fn := ir65) rfl rfl]
  have h24 := fun st => c24 nl n ps st
  unfold wovL
  by_cases h : chk n ps = 0
  · obtain ⟨h1, h2, h3, h4, h5⟩ := chk_zero h
    rw [if_pos h]
    simp only [ir65, go_sem, reduceIte, Nat.reduceEqDiff, Nat.reduceAdd, Nat.reduceSub, Nat.reduceLeDiff, Nat.reduceLT, reduceCtorEq, Int.reduceLT, Int.reduceLE, Int.reduceEq, Int.reduceBEq, Int.reduceSub, Int.reduceAdd, Int.reduceMul, Int.reduceNeg, Int.reduceToNat, Nat.reduceMul, Nat.reduceBEq, h24, h, List.length_map]
    generalize hg : lim (headed pure (run L) true _ lp65_0 _ _) _ _ = o
    obtain ⟨x, en, s, rfl, h2⟩ : ∃ x en s, o = some (x, en, s) ∧ _ := by rw [← hg]; exact loop65 nl n ps (by omega) h4 0 (List.replicate 7 0) ⟨by omega, by simp, by simp⟩ _ _ (by simp only [go_sem, reduceIte, Nat.reduceEqDiff, Nat.reduceAdd, Nat.reduceSub, Nat.reduceLeDiff, Nat.reduceLT, reduceCtorEq, Int.reduceLT, Int.reduceLE, Int.reduceEq, Int.reduceBEq, Int.reduceSub, Int.reduceAdd, Int.reduceMul, Int.reduceNeg, Int.reduceToNat, Nat.reduceMul, Nat.reduceBEq, w8, webC, List.map_replicate, h24, h] <;> rfl)
    clear hg
    obtain ⟨rfl, g1, g2, rfl, g3⟩ := h2
    rw [List.drop_zero] at g3 ⊢
    have e : ps.foldl see1 (List.replicate 7 0) = seeL 7 ps := rfl
    rw [e] at g3 ⊢
    obtain ⟨a, b, c, d, f, g, k, g4⟩ := len_seven g3
    rw [g4]
    simp only [go_sem, reduceIte, Nat.reduceEqDiff, Nat.reduceAdd, Nat.reduceSub, Nat.reduceLeDiff, Nat.reduceLT, reduceCtorEq, Int.reduceLT, Int.reduceLE, Int.reduceEq, Int.reduceBEq, Int.reduceSub, Int.reduceAdd, Int.reduceMul, Int.reduceNeg, Int.reduceToNat, Nat.reduceMul, Nat.reduceBEq, g1, g2, w8, webC, h]
    rfl
  · rw [if_neg h]
    simp only [ir65, go_sem, reduceIte, Nat.reduceEqDiff, Nat.reduceAdd, Nat.reduceSub, Nat.reduceLeDiff, Nat.reduceLT, reduceCtorEq, Int.reduceLT, Int.reduceLE, Int.reduceEq, Int.reduceBEq, Int.reduceSub, Int.reduceAdd, Int.reduceMul, Int.reduceNeg, Int.reduceToNat, Nat.reduceMul, Nat.reduceBEq, h24, h, webC]
    rfl

/-! ### the bits -/
theorem orAt_bit (o : List Nat) (u v a b : Nat) (hu : u < o.length) : ((orAt o u v).getD a 0).testBit b = ((o.getD a 0).testBit b || (decide (a = u) && decide (b = v))) := by
  unfold orAt
  by_cases e : a = u
  · subst e
    rw [List.getD_eq_getElem?_getD, List.getElem?_set_self (by omega)]
    simp only [Option.getD_some, Nat.testBit_or, Nat.testBit_two_pow, decide_true, Bool.true_and]
    congr 1
    by_cases h : v = b
    · simp [h]
    · simp [h, Ne.symm h]
  · rw [List.getD_eq_getElem?_getD, List.getElem?_set_ne (Ne.symm e), ← List.getD_eq_getElem?_getD]
    simp [e]
theorem foldl_see_bit (a b : Nat) : ∀ (ps : List (Int × Int)) (o : List Nat), (∀ p ∈ ps, okP p) → 7 ≤ o.length → ((ps.foldl see1 o).getD a 0).testBit b = ((o.getD a 0).testBit b || decide (((a : Int), (b : Int)) ∈ ps))
  | [], o, _, _ => by simp
  | p :: r, o, hp, hl => by
    have h1 := hp p (by simp)
    unfold okP at h1
    rw [List.foldl_cons, foldl_see_bit a b r _ (fun q hq => hp q (by simp [hq])) (by unfold see1; rw [orAt_len]; exact hl)]
    unfold see1
    rw [orAt_bit _ _ _ _ _ (by omega), Bool.or_assoc]
    congr 1
    obtain ⟨u, v⟩ := p
    simp only at h1 ⊢
    rw [Bool.eq_iff_iff]
    simp only [Bool.or_eq_true, Bool.and_eq_true, decide_eq_true_eq, List.mem_cons, Prod.mk.injEq]
    constructor
    · rintro (⟨h, h'⟩ | h)
      · exact .inl ⟨by omega, by omega⟩
      · exact .inr h
    · rintro (⟨h, h'⟩ | h)
      · exact .inl ⟨by omega, by omega⟩
      · exact .inr h
theorem seeL_bit {z : Nat} (hz : 7 ≤ z) {ps : List (Int × Int)} (h : ∀ p ∈ ps, okP p) (a b : Nat) : ((seeL z ps).getD a 0).testBit b = decide (((a : Int), (b : Int)) ∈ ps) := by
  unfold seeL
  rw [foldl_see_bit a b ps _ h (by simpa using hz)]
  have : (List.replicate z 0).getD a 0 = 0 := by
    rw [List.getD_eq_getElem?_getD, List.getElem?_replicate]; split <;> rfl
  rw [this]; simp

attribute [local go_sem high] and_one shr_u shl_one or_u

theorem tmod_nat (a b : Nat) : (a : Int).tmod (b : Int) = ((a % b : Nat) : Int) := by
  rw [Int.tmod_eq_emod_of_nonneg (by omega)]; simp
theorem putW (n : Int) (o : List Nat) (h : o.length = 7) : putCells [.v (.int .i64 0), .v (.int .u64 0), .v (.int .u64 0), .v (.int .u64 0), .v (.int .u64 0), .v (.int .u64 0), .v (.int .u64 0), .v (.int .u64 0)] 0 (webC n o) = webC n o := by
  obtain ⟨a, b, c, d, e, f, g, rfl⟩ := len_seven h
  rfl


/-! ### a book by numbers is a good one -/
def goodP (n : Int) (p : Int × Int) : Prop := 0 ≤ p.1 ∧ p.1 < n ∧ 0 ≤ p.2 ∧ p.2 < n ∧ p.1 ≠ p.2
theorem prsErr_ok {n : Int} : ∀ (ps seen : List (Int × Int)), (∀ p ∈ ps, goodP n p) → (seen ++ ps).Nodup → prsErr n seen ps = 0
  | [], _, _, _ => rfl
  | p :: r, seen, h, hn => by
    have hp := h p (by simp)
    unfold goodP at hp
    have h1 : p ∉ seen := by
      intro hs
      rw [List.nodup_append] at hn
      exact hn.2.2 p hs p (by simp) rfl
    have e : prErr n seen p = 0 := by
      unfold prErr
      rw [if_neg (by omega), if_neg (by omega), if_neg h1]
    simp only [prsErr, e, if_true]
    exact prsErr_ok r _ (fun q hq => h q (by simp [hq])) (by simpa using hn)
theorem mk_ok {n : Int} (hn : 0 < n) {out : List (Int × Int)} (h : (∀ p ∈ out, goodP n p) ∧ out.Nodup) (a b : Int) :
    (∀ p ∈ mkStep n out a b, goodP n p) ∧ (mkStep n out a b).Nodup := by
  have ra := mod_range a n hn
  have rb := mod_range b n hn
  unfold mkStep
  split
  · next hc =>
    refine ⟨fun p hp => ?_, ?_⟩
    · rcases List.mem_append.1 hp with hp | hp
      · exact h.1 p hp
      · rw [List.mem_singleton] at hp; subst hp; exact ⟨ra.1, ra.2, rb.1, rb.2, hc.1⟩
    · rw [List.nodup_append]
      refine ⟨h.2, by simp, fun x hx y hy => ?_⟩
      rw [List.mem_singleton] at hy; subst hy
      intro e; subst e; exact hc.2 hx
  · exact h
theorem madeTo_ok {n : Int} (hn : 0 < n) (zs : List Int) : ∀ k, (∀ p ∈ madeTo n zs k, goodP n p) ∧ (madeTo n zs k).Nodup
  | 0 => by simp [madeTo]
  | k + 1 => mk_ok hn (madeTo_ok hn zs k) _ _
/-- What is known of a book by numbers. -/
theorem made_ok {most : Int} (hl : most = 6 ∨ most = 7) (zs : List Int) :
    ∃ n : Nat, madeN most zs = n ∧ 1 ≤ n ∧ (n : Int) ≤ most ∧ n ≤ 7 ∧ (madeP most zs).length ≤ 16 ∧ (∀ p ∈ madeP most zs, goodP n p) ∧ (∀ p ∈ madeP most zs, okP p) ∧ (madeP most zs).Nodup ∧ chk (n : Int) (madeP most zs) = 0 := by
  have r0 := mod_range (zs.getD 0 0) most (by omega)
  have r1 := mod_range (zs.getD 1 0) 17 (by omega)
  have hN : madeN most zs = 1 + zs.getD 0 0 % most := rfl
  obtain ⟨n, hn⟩ := Int.eq_ofNat_of_zero_le (show 0 ≤ madeN most zs by omega)
  have h1 := madeTo_ok (n := madeN most zs) (by omega) zs (zs.getD 1 0 % 17).toNat
  have h2 := madeTo_len (madeN most zs) zs (zs.getD 1 0 % 17).toNat
  have e : madeP most zs = madeTo (madeN most zs) zs (zs.getD 1 0 % 17).toNat := rfl
  rw [← e] at h1 h2
  rw [hn] at h1
  refine ⟨n, hn, by omega, by omega, by omega, by omega, h1.1, fun p hp => ?_, h1.2, ?_⟩
  · have := h1.1 p hp; unfold goodP at this; unfold okP; omega
  · unfold chk
    rw [if_neg (by omega), if_neg (by omega)]
    exact prsErr_ok _ [] h1.1 (by simpa using h1.2)

/-! ### each sees the next one -/
/-! ### a list of numbers that grows -/
def vAV (v : List Int) : AV := loc 1 0 (v.map I)
theorem okRef_v (n : Nat) (v : List Int) : okRef n (vAV v) = true := okRef_loc _ _ _ _
theorem pub_v (v : List Int) : pub (vAV v) = sl 1 true (v.map I) := pub_loc 1 0 _
theorem len_v (v : List Int) : lenAV (vAV v) = some (I v.length) := by unfold vAV; rw [len_loc]; simp
end Go.Proofs.YtgohohiaaiogcaaDoor.Vm

namespace Go.Proofs.YtgohohiaaiogcaaDoor.Vm
open Go Go.Ev Go.ChangeShapes Go.WideShapes Go.ChangeAt Go.RowKit
set_option maxRecDepth 100000
attribute [local go_sem] cells_any storable_any ren1_any shaped_ptr cells_ptr storable_ptr ren1_ptr shaped_eptr cells_eptr storable_eptr ren1_eptr shaped_rsl cells_rsl storable_rsl ren1_rsl shaped_int cells_int storable_int ren1_int shaped_bool cells_bool storable_bool ren1_bool shaped_nils cells_nils storable_nils ren1_nils shaped_lst cells_lst storable_lst shaped_fn cells_fn storable_fn ren1_fn shaped_ifc cells_ifc storable_ifc ren1_ifc shaped_agg cells_agg storable_agg ren1_agg shaped_tup cells_tup storable_tup ren1_tup shaped_nif cells_nif storable_nif ren1_nif ren1_lany ren1_lfull ren1_lown len_lst len_rsl len_nil load_ptr load_eptr isRsl_lst isRsl_nil isRsl_rsl elems_nil elems_lst elems_sl isRsl_sl body_eq bodyK_normal bodyK_ret resK_some leaveK_some only_some code_skip code_exit code_ret code_ops code_seq code_cond code_block seqK_normal seqK_ret seqK_exit condK_true condK_false blockK_normal blockK_ret blockK_exit opsK_some ops_nil ops_cons wantK_true wantK_false stepK_some pubs pub pub_sl params okRef_loc storable_loc shaped_loc cells_loc isRsl_loc elems_loc len_loc untips untip untip_sl wantedAV setElems withO isAgg_v isAgg_agg isAgg_lst isAgg_ptr isAgg_fn isAgg_ifc isAgg_rsl isAgg_sl isAgg_loc List.replicate_succ List.replicate_zero opAV valAV aval avals ofVal Env.get setD canon gcAV renAll renEnv renStore renCells ren1_sl cutSt okEnv okStore okRefs okRef okRef_sl bin_int bin_bool bin_lst bin_rsl bin_nil bin_agg cellsEq cellEq isShift intOp boolOp min_int max_int beq_int bne resAV tupAV leave_eq fin_sl fin_loc fins fin_v fin_lst fin_agg fin_tup fin_fn storeAV readCells putCells cells_sl shaped_sl storable_sl fieldAddrAV len_sl goI List.getElem?_cons_zero List.getElem?_cons_succ List.getElem?_nil Option.bind_some Option.map_some List.length_cons List.length_nil List.all_cons List.all_nil Bool.and_true Bool.true_and Bool.and_false Bool.false_and and_true true_and and_false false_and Bool.false_eq_true List.set_cons_zero List.set_cons_succ List.append_nil List.nil_append List.cons_append List.take_zero List.take_succ_cons List.take_nil List.drop_zero List.drop_succ_cons List.map_cons List.map_nil decide_true decide_false beq_self_eq_true Bool.not_true Bool.not_false or_true true_or or_false false_or Nat.zero_add Nat.add_zero Nat.le_refl Nat.lt_irrefl decide_eq_true_eq eq_self_iff_true not_true_eq_false not_false_eq_true List.getD_cons_zero code_loop Nat.zero_le Nat.not_lt_zero Bool.true_beq Bool.false_beq beq_true beq_false ge_iff_le gt_iff_lt keepR keepT ownTop Lpure pus Option.map_none assert_ifc assert_nil idxA_ptr idxA_eptr idxV_agg Int.cast_ofNat_Int Nat.mul_one Nat.zero_mul Int.toNat_natCast Int.toNat_zero setParts withO2 hasKey eqnil_sl nenil_sl eqnil_loc nenil_loc map_nil_iff okRefs_ints renCells_ints

theorem cells5 : Tryd.prog.cellsOf 5 = 1 := by kernel_rfl
theorem cells57 : Tryd.prog.cellsOf 57 = 2 := by kernel_rfl
theorem cells58 : Tryd.prog.cellsOf 58 = 32 := by kernel_rfl
theorem cells60 : Tryd.prog.cellsOf 60 = 34 := by kernel_rfl
theorem one_byte {d : Nat} {bs : List AV} (h : Sh Tryd.prog (d + 1) 5 bs) : ∃ zs : List Int, bs = zs.map B8 ∧ zs.length = 1 ∧ ∀ n ∈ zs, Byte n := by
  simp only [Sh, Tryd.underlying5] at h
  obtain ⟨n, h1, h2⟩ := h
  exact ⟨[n], h1, rfl, by simp; exact bounds_u8 h2⟩
/-- Parts of bytes. -/
theorem all_parts (z : Nat) : ∀ (k : Nat) (bs : List AV), bs.length = k * z → (∀ i, i < k → ∃ zs : List Int, (bs.drop (i * z)).take z = zs.map B8 ∧ zs.length = z ∧ ∀ n ∈ zs, Byte n) → ∃ zs : List Int, bs = zs.map B8 ∧ zs.length = k * z ∧ ∀ n ∈ zs, Byte n
  | 0, bs, hl, _ => ⟨[], by have : bs.length = 0 := by simpa using hl
                            simpa using this, by simp, by simp⟩
  | k + 1, bs, hl, h => by
    rw [Nat.succ_mul] at hl
    obtain ⟨zs, h1, h2, h3⟩ := h 0 (by omega)
    rw [Nat.zero_mul, List.drop_zero] at h1
    obtain ⟨ys, g1, g2, g3⟩ := all_parts z k (bs.drop z) (by simp; omega) fun i hi => by
      obtain ⟨xs, q1, q2, q3⟩ := h (i + 1) (by omega)
      refine ⟨xs, ?_, q2, q3⟩
      rw [List.drop_drop, ← q1, Nat.succ_mul, Nat.add_comm (i * z) z]
    refine ⟨zs ++ ys, ?_, by rw [List.length_append, h2, g2, Nat.succ_mul]; omega, ?_⟩
    · rw [List.map_append, ← h1, ← g1, List.take_append_drop]
    · intro n hn
      rcases List.mem_append.1 hn with hn | hn
      · exact h3 n hn
      · exact g3 n hn
theorem sh_b57 {d : Nat} {bs : List AV} (h : Sh Tryd.prog (d + 2) 57 bs) : ∃ zs : List Int, bs = zs.map B8 ∧ zs.length = 2 ∧ ∀ n ∈ zs, Byte n := by
  unfold Sh at h
  simp only [Tryd.underlying57, cells57, cells5] at h
  exact all_parts 1 2 bs (by omega) (fun i hi => one_byte (h.2 i hi))
theorem sh_b58 {d : Nat} {bs : List AV} (h : Sh Tryd.prog (d + 3) 58 bs) : ∃ zs : List Int, bs = zs.map B8 ∧ zs.length = 32 ∧ ∀ n ∈ zs, Byte n := by
  unfold Sh at h
  simp only [Tryd.underlying58, cells58, cells57] at h
  exact all_parts 2 16 bs (by omega) (fun i hi => sh_b57 (h.2 i hi))
/-- A book by numbers. -/
theorem sh_quarrel {a : AV} (h : ShV Tryd.prog 8 60 a) : ∃ zs : List Int, a = qAV zs ∧ zs.length = 34 ∧ ∀ n ∈ zs, Byte n := by
  unfold ShV at h
  rw [if_pos (by unfold aggB; rw [Tryd.underlying60])] at h
  obtain ⟨cs, rfl, hs⟩ := h
  unfold Sh at hs
  simp only [Tryd.underlying60, cells60] at hs
  obtain ⟨h1, h2⟩ := hs
  have f0 := h2 0 _ rfl
  have f1 := h2 1 _ rfl
  have f2 := h2 2 _ rfl
  simp only [List.getElem_toArray, List.getElem_cons_zero, List.getElem_cons_succ, cells5, cells58] at f0 f1 f2
  obtain ⟨ar, e0, l0, b0⟩ := one_byte f0
  obtain ⟨bs, e1, l1, b1⟩ := one_byte f1
  obtain ⟨es, e2, l2, b2⟩ := sh_b58 f2
  refine ⟨ar ++ (bs ++ es), ?_, by simp [l0, l1, l2], ?_⟩
  · have s5 : (cs.drop 2).take 32 = cs.drop 2 := List.take_of_length_le (by simp [h1])
    have s2 : (cs.drop 1).take 1 ++ cs.drop 2 = cs.drop 1 := by
      have := List.take_append_drop 1 (cs.drop 1)
      rw [List.drop_drop] at this
      exact this
    have s1 : (cs.drop 0).take 1 ++ cs.drop 1 = cs := by
      have := List.take_append_drop 1 cs
      simpa using this
    show AV.agg cs = AV.agg _
    rw [List.map_append, List.map_append, ← e0, ← e1, ← e2, s5, s2, s1]
  · intro n hn
    rcases List.mem_append.1 hn with hn | hn
    · exact b0 n hn
    · rcases List.mem_append.1 hn with hn | hn
      · exact b1 n hn
      · exact b2 n hn
theorem sh_byte {a : AV} (h : ShV Tryd.prog 8 5 a) : ∃ n, a = B8 n ∧ Byte n := by
  unfold ShV at h
  rw [if_neg (by unfold aggB; rw [Tryd.underlying5]; simp)] at h
  simp only [Sh, Tryd.underlying5, List.cons.injEq, and_true] at h
  obtain ⟨n, h1, h2⟩ := h
  exact ⟨n, h1, bounds_u8 h2⟩
end Go.Proofs.YtgohohiaaiogcaaDoor.Vm

namespace Go.Proofs.YtgohohiaaiogcaaDoor.Vm
open Go Go.Ev
set_option maxRecDepth 100000
attribute [local go_sem] cells_any storable_any ren1_any shaped_ptr cells_ptr storable_ptr ren1_ptr shaped_eptr cells_eptr storable_eptr ren1_eptr shaped_rsl cells_rsl storable_rsl ren1_rsl shaped_int cells_int storable_int ren1_int shaped_bool cells_bool storable_bool ren1_bool shaped_nils cells_nils storable_nils ren1_nils shaped_lst cells_lst storable_lst shaped_fn cells_fn storable_fn ren1_fn shaped_ifc cells_ifc storable_ifc ren1_ifc shaped_agg cells_agg storable_agg ren1_agg shaped_tup cells_tup storable_tup ren1_tup shaped_nif cells_nif storable_nif ren1_nif ren1_lany ren1_lfull ren1_lown len_lst len_rsl len_nil load_ptr load_eptr isRsl_lst isRsl_nil isRsl_rsl elems_nil elems_lst elems_sl isRsl_sl body_eq bodyK_normal bodyK_ret resK_some leaveK_some only_some code_skip code_exit code_ret code_ops code_seq code_cond code_block seqK_normal seqK_ret seqK_exit condK_true condK_false blockK_normal blockK_ret blockK_exit opsK_some ops_nil ops_cons wantK_true wantK_false stepK_some pubs pub pub_sl params okRef_loc storable_loc shaped_loc cells_loc isRsl_loc elems_loc len_loc untips untip untip_sl wantedAV setElems withO isAgg_v isAgg_agg isAgg_lst isAgg_ptr isAgg_fn isAgg_ifc isAgg_rsl isAgg_sl isAgg_loc List.replicate_succ List.replicate_zero opAV valAV aval avals ofVal Env.get setD canon gcAV renAll renEnv renStore renCells ren1_sl cutSt okEnv okStore okRefs okRef okRef_sl bin_int bin_bool bin_lst bin_rsl bin_nil bin_agg cellsEq cellEq isShift intOp boolOp min_int max_int beq_int bne resAV tupAV leave_eq fin_sl fin_loc fins fin_v fin_lst fin_agg fin_tup fin_fn storeAV readCells putCells cells_sl shaped_sl storable_sl fieldAddrAV len_sl goI List.getElem?_cons_zero List.getElem?_cons_succ List.getElem?_nil Option.bind_some Option.map_some List.length_cons List.length_nil List.all_cons List.all_nil Bool.and_true Bool.true_and Bool.and_false Bool.false_and and_true true_and and_false false_and Bool.false_eq_true List.set_cons_zero List.set_cons_succ List.append_nil List.nil_append List.cons_append List.take_zero List.take_succ_cons List.take_nil List.drop_zero List.drop_succ_cons List.map_cons List.map_nil decide_true decide_false beq_self_eq_true Bool.not_true Bool.not_false or_true true_or or_false false_or Nat.zero_add Nat.add_zero Nat.le_refl Nat.lt_irrefl decide_eq_true_eq eq_self_iff_true not_true_eq_false not_false_eq_true List.getD_cons_zero code_loop Nat.zero_le Nat.not_lt_zero Bool.true_beq Bool.false_beq beq_true beq_false ge_iff_le gt_iff_lt keepR keepT ownTop Lpure pus Option.map_none assert_ifc assert_nil idxA_ptr idxA_eptr idxV_agg Int.cast_ofNat_Int Nat.mul_one Nat.zero_mul Int.toNat_natCast Int.toNat_zero setParts withO2 hasKey eqnil_sl nenil_sl eqnil_loc nenil_loc map_nil_iff okRefs_ints renCells_ints
attribute [local go_sem] okRef_v pub_v len_v

theorem putJ (o : List Nat) (h : o.length = 8) : putCells [.v (.int .i64 0), .v (.int .i64 0), .v (.int .i64 0), .v (.int .i64 0), .v (.int .i64 0), .v (.int .i64 0), .v (.int .i64 0), .v (.int .i64 0)] 0 (o.map J) = o.map J := by
  obtain ⟨a, b, c, d, e, f, g, k, rfl⟩ := len_eight h
  rfl


/-- Is a list ahead of another one? -/
def lexLt : List Int → List Int → Bool
  | [], [] => false
  | [], _ :: _ => true
  | _ :: _, [] => false
  | a :: r, b :: s => decide (a < b) || (decide (a = b) && lexLt r s)
theorem lex_irrefl : ∀ a, lexLt a a = false
  | [] => rfl
  | a :: r => by simp [lexLt, lex_irrefl r]
/-! ### sorting by insertion -/


/-! ### comparing lists -/
/-! ### sorting lists -/
def tAV (l : List Int) : AV := sl 1 true (l.map I)
theorem shaped_t (l : List Int) : (tAV l).shaped = true := by unfold tAV sl; split <;> rfl
theorem cells_t (l : List Int) : (tAV l).cells = [tAV l] := by unfold tAV sl; split <;> rfl
theorem isAgg_t (l : List Int) : Ev.isAgg (tAV l) = false := by unfold tAV sl; split <;> rfl
theorem storable_t (l : List Int) : storable (tAV l) = true := by unfold tAV sl; split <;> rfl
theorem okRef_t (n : Nat) (l : List Int) : okRef n (tAV l) = true := by unfold tAV sl; split <;> rfl
theorem pub_t (l : List Int) : pub (tAV l) = tAV l := pub_sl _ _ _
attribute [local go_sem] shaped_t cells_t isAgg_t storable_t okRef_t

attribute [local go_sem high] and_one shr_u shl_one or_u and_u

/-! ### sets as lists -/
theorem all52 : (List.range 128).map (fun m => callAV L 60 52 [U m] ⟨[], []⟩) = (List.range 128).map (fun m => some (I (tzN m : Nat), (⟨[], []⟩ : St))) := by kernel_rfl
theorem c52 (m : Nat) (hm : m < 128) (st : St) : run L 52 [U m] st = some (I (tzN m : Nat), st) :=
  run_any' (fn := ir52) rfl rfl (callAV_run L 60 _ _ _ _ (all_of all52 m hm)) st


theorem filter_le_len {α : Type} (p q : α → Bool) : ∀ l : List α, (∀ x ∈ l, p x = true → q x = true) → (l.filter p).length ≤ (l.filter q).length
  | [], _ => by simp
  | a :: l, h => by
    have ih := filter_le_len p q l (fun x hx => h x (by simp [hx]))
    have ha := h a (by simp)
    cases h1 : p a <;> cases h2 : q a <;> simp_all <;> omega
theorem nodup_len_le {α : Type} [DecidableEq α] : ∀ (l k : List α), l.Nodup → (∀ x ∈ l, x ∈ k) → l.length ≤ k.length
  | [], _, _, _ => by simp
  | a :: l, k, hn, h => by
    rw [List.nodup_cons] at hn
    have ha := h a (by simp)
    have h1 := nodup_len_le l (k.erase a) hn.2 (fun x hx => by
      have hne : x ≠ a := fun e => hn.1 (e ▸ hx)
      exact (List.mem_erase_of_ne hne).2 (h x (by simp [hx])))
    rw [List.length_erase_of_mem ha] at h1
    have := List.length_pos_of_mem ha
    simp only [List.length_cons]; omega
theorem bit_lt {n x i : Nat} (h : x < 2 ^ n) (h2 : x.testBit i = true) : i < n := by
  rcases Nat.lt_or_ge i n with h3 | h3
  · exact h3
  · have : x.testBit i = false := Nat.testBit_lt_two_pow (Nat.lt_of_lt_of_le h (Nat.pow_le_pow_right (by omega) h3))
    rw [this] at h2; simp at h2
/-! ### how many sets of articles there are that nothing can be added to (Moon and Moser) -/
theorem filter_len_lt {α : Type} {p q : α → Bool} : ∀ l : List α, (∀ x ∈ l, p x = true → q x = true) → (∃ x ∈ l, q x = true ∧ p x = false) → (l.filter p).length < (l.filter q).length
  | [], _, h => by obtain ⟨x, hx, _⟩ := h; simp at hx
  | a :: l, h1, h2 => by
    have ih := fun h => filter_len_lt (p := p) (q := q) l (fun x hx => h1 x (by simp [hx])) h
    have hle := filter_le_len p q l (fun x hx => h1 x (by simp [hx]))
    have ha := h1 a (by simp)
    obtain ⟨x, hx, h3, h4⟩ := h2
    rcases List.mem_cons.1 hx with rfl | hx
    · rw [List.filter_cons_of_neg (by simp [h4]), List.filter_cons_of_pos h3, List.length_cons]; omega
    · have := ih ⟨x, hx, h3, h4⟩
      cases e1 : p a
      · rw [List.filter_cons_of_neg (by simp [e1])]
        cases e2 : q a
        · rw [List.filter_cons_of_neg (by simp [e2])]; exact this
        · rw [List.filter_cons_of_pos e2, List.length_cons]; omega
      · rw [List.filter_cons_of_pos e1, List.filter_cons_of_pos (ha e1), List.length_cons, List.length_cons]; omega
theorem bit_lt7 {z u : Nat} (hz : z < 128) (h : z.testBit u = true) : u < 7 := bit_lt (n := 7) hz h
/-! ### there are at most twelve choices -/
theorem and_zero (a b : Nat) : a &&& b = 0 ↔ ∀ i, ¬(a.testBit i = true ∧ b.testBit i = true) := by
  constructor
  · intro h i ⟨h1, h2⟩
    have := congrArg (fun z => z.testBit i) h
    simp only [Nat.testBit_and, h1, h2, Nat.zero_testBit, Bool.and_self] at this
    exact absurd this (by simp)
  · intro h
    apply Nat.eq_of_testBit_eq
    intro i
    rw [Nat.testBit_and, Nat.zero_testBit]
    have := h i
    cases h1 : a.testBit i <;> cases h2 : b.testBit i <;> simp_all


/-! ### a list of lists that grows -/
def oAV (X : List (List Int)) : AV := loc 1 0 (X.map tAV)
theorem okRef_o (n : Nat) (X : List (List Int)) : okRef n (oAV X) = true := okRef_loc _ _ _ _
theorem fin_o (st : St) (X : List (List Int)) : fin st (oAV X) = sl 1 true (X.map tAV) := fin_loc st 1 0 _
attribute [local go_sem] shaped_t cells_t isAgg_t storable_t okRef_t pub_t okRef_o fin_o

attribute [local go_sem high] and_one shr_u shl_one or_u and_u

/-! ### a list of sets that grows -/
def qA (X : List Nat) : AV := loc 1 1 (X.map U)
def qT (X : List Nat) : List Nat := locT 1 (X.map U)
theorem okRef_q (n : Nat) (X : List Nat) : okRef n (qA X) = true := okRef_loc _ _ _ _
theorem len_q (X : List Nat) : lenAV (qA X) = some (I X.length) := by unfold qA; rw [len_loc]; simp
/-! ### how wide it gets -/

attribute [local go_sem high] and_one shr_u shl_one or_u and_u
attribute [local go_sem] okRef_q len_q

/-! ### the way, above the sets -/
def pA (X : List Nat) (o : List Int) : AV := if o.length = 1 then .lst .full 1 (o.map I) else .lst (.own (qT X).length o.length) 1 (o.map I)
theorem okRef_p (n : Nat) (X : List Nat) (o : List Int) : okRef n (pA X o) = true := by unfold pA; split <;> rfl


/-! ### how far each word has to go, without the program -/
/-! ### the law's numbers -/
theorem getD_set (F : List Nat) (x v z : Nat) (hx : x < F.length) : (F.set x v).getD z 0 = if z = x then v else F.getD z 0 := by
  split
  · next h => subst h; rw [List.getD_eq_getElem?_getD, List.getElem?_set_self hx]; rfl
  · next h => rw [List.getD_eq_getElem?_getD, List.getElem?_set_ne (Ne.symm h), ← List.getD_eq_getElem?_getD]
def bitsL (m : Nat) : List Nat := (List.range 7).filter m.testBit

attribute [local go_sem] shaped_t cells_t isAgg_t storable_t okRef_t pub_t

theorem bits_len (m : Nat) : (bitsL m).length ≤ 7 := by
  have := List.length_filter_le m.testBit (List.range 7)
  simpa [bitsL] using this

attribute [local go_sem] shaped_t cells_t isAgg_t storable_t okRef_t pub_t

theorem c56 (x : AV) (st : St) : run L 56 [x] st = some (x, st) := by
  rw [run_shared (fn := ir56) rfl rfl]
  simp only [ir56, go_sem, reduceIte, Nat.reduceEqDiff, Nat.reduceAdd, Nat.reduceSub, Nat.reduceLeDiff, Nat.reduceLT, reduceCtorEq, Int.reduceLT, Int.reduceLE, Int.reduceEq, Int.reduceBEq, Int.reduceSub, Int.reduceAdd, Int.reduceMul, Int.reduceNeg, Int.reduceToNat, Nat.reduceMul, Nat.reduceBEq]

/-! ### the law's way grows -/
def rA (o : List Int) : AV := loc 1 1 (o.map I)
theorem okRef_r (n : Nat) (o : List Int) : okRef n (rA o) = true := okRef_loc _ _ _ _


/-! ### the law's numbers in the beginning -/
/-! ### what hangs on the web's sets alone -/
theorem seeL_87 {ps : List (Int × Int)} (h7 : ∀ p ∈ ps, okP p) (a : Nat) : (seeL 8 ps).getD a 0 = (seeL 7 ps).getD a 0 := by
  apply Nat.eq_of_testBit_eq
  intro b
  rw [seeL_bit (by omega) h7, seeL_bit (by omega) h7]


/-! ### all circles, without the program -/
def lastW (c : List Nat) : Nat := c.getD (c.length - 1) 0
def hdR (w : List Nat) (c : List Nat) : List (List Nat) := if 1 < c.length ∧ (w.getD (lastW c) 0).testBit (c.getD 0 0) = true then [c] else []
/-- The circles that begin with some words, of those and the free ones. -/
def rg (w : List Nat) : Nat → List Nat → Nat → List (List Nat)
  | 0, c, _ => hdR w c
  | k + 1, c, free => hdR w c ++ (bitsL (w.getD (lastW c) 0 &&& free)).flatMap fun x => rg w k (c ++ [x]) (dfN free (2 ^ x))
theorem bits_step_all : (List.range 128).all (fun m => m == 0 || (decide (bitsL m = tzN m :: bitsL (m &&& (m - 1))))) = true := by kernel_rfl
theorem bits_step {m : Nat} (hm : m < 128) (h : m ≠ 0) : bitsL m = tzN m :: bitsL (m &&& (m - 1)) := by
  have := List.all_eq_true.1 bits_step_all m (List.mem_range.2 hm)
  rw [Bool.or_eq_true, beq_iff_eq, decide_eq_true_iff] at this
  exact this.resolve_left h
theorem bits_zero : bitsL 0 = [] := rfl
theorem bits_mem {m : Nat} (hm : m < 128) (x : Nat) : x ∈ bitsL m ↔ m.testBit x = true :=
  ⟨fun h => (List.mem_filter.1 h).2, fun h => List.mem_filter.2 ⟨List.mem_range.2 (bit_lt7 hm h), h⟩⟩
theorem bits_nil {m : Nat} (hm : m < 128) (h : (bitsL m).length = 0) : m = 0 := by
  apply Nat.eq_of_testBit_eq
  intro i
  rw [Nat.zero_testBit]
  cases e : m.testBit i
  · rfl
  · have := (bits_mem hm i).2 e
    rw [List.eq_nil_of_length_eq_zero h] at this; simp at this
theorem df_card {free x : Nat} (hf : free < 128) (hx : free.testBit x = true) : (bitsL (dfN free (2 ^ x))).length < (bitsL free).length := by
  have hx7 := bit_lt7 hf hx
  have h2 : 2 ^ x < 128 := (sh1_lt x hx7).2
  unfold bitsL
  refine filter_len_lt _ (fun y _ h => ?_) ⟨x, List.mem_range.2 hx7, hx, ?_⟩
  · rw [dfN_bit h2, Bool.and_eq_true] at h; exact h.1
  · rw [dfN_bit h2, Nat.testBit_two_pow_self]; simp

/-! ### what lies ahead of the goal in the store -/
def hid (x : List AV) : List AV := if visB x = true then x else []
/-- Blocks with lists, or with plain values alone. -/
def Dk (D : List (List AV)) : Prop := ∀ x ∈ D, visB x = true → ∀ v ∈ x, ∃ y, v = .v y
theorem dk_hid {D : List (List AV)} (h : Dk D) : Dk (D.map hid) := by
  intro x hx
  obtain ⟨y, hy, rfl⟩ := List.mem_map.1 hx
  unfold hid
  split
  · exact h y hy
  · exact fun h => by simp [visB] at h
theorem visR_v (st : St) (y : Value) : visR st (.v y) = true := by simp only [visR]
theorem hideC_D {D : List (List AV)} (h : Dk D) (st : St) : D.map (hideC st) = D.map hid := by
  apply List.map_congr_left
  intro x hx
  unfold hideC hid
  split
  · next hv =>
    have := h x hx hv
    have h2 : x.map (hideV st) = x.map id := List.map_congr_left fun v hv => by
      obtain ⟨y, rfl⟩ := this v hv
      unfold hideV; rw [if_pos (visR_v st y)]; rfl
    rw [h2, List.map_id]
  · rfl
theorem hideC_id {st : St} {x : List AV} (hv : visB x = true) (h : ∀ v ∈ x, visR st v = true) : hideC st x = x := by
  unfold hideC
  rw [if_pos hv]
  have h2 : x.map (hideV st) = x.map id := List.map_congr_left fun v hv => by unfold hideV; rw [if_pos (h v hv)]; rfl
  rw [h2, List.map_id]
theorem merge_D {A : List (List AV)} (hA : ∀ x ∈ A, visB x = true) : ∀ (D : List (List AV)) (B : List (List AV)), A.length ≤ B.length → mergeS (D ++ A) (D.map hid ++ B) = D ++ B
  | [], B, hl => by
    simp only [List.nil_append, List.map_nil]
    induction A generalizing B with
    | nil => cases B <;> rfl
    | cons x A ih =>
      cases B with
      | nil => simp at hl
      | cons y B =>
        simp only [mergeS, hA x (by simp), if_true]
        rw [ih (fun z hz => hA z (by simp [hz])) B (by simpa using hl)]
  | x :: D, B, hl => by
    simp only [List.cons_append, List.map_cons, mergeS]
    rw [merge_D hA D B hl]
    unfold hid
    split <;> rfl
theorem noLB_append : ∀ A B : List (List AV), noLB (A ++ B) = (noLB A && noLB B)
  | [], B => rfl
  | a :: A, B => by simp only [List.cons_append, noLB, noLB_append A B, Bool.and_assoc]
theorem noLB_hid : ∀ D : List (List AV), noLB (D.map hid) = true
  | [] => rfl
  | x :: D => by
    simp only [List.map_cons, noLB, noLB_hid D, Bool.and_true]
    unfold hid
    split
    · next h => unfold visB at h; rw [Bool.and_eq_true] at h; exact h.2
    · rfl
theorem noLB_vis : ∀ A : List (List AV), (∀ x ∈ A, visB x = true) → noLB A = true
  | [], _ => rfl
  | x :: A, h => by
    have hx := h x (by simp)
    unfold visB at hx
    rw [Bool.and_eq_true] at hx
    simp only [noLB, hx.2, noLB_vis A (fun z hz => h z (by simp [hz])), Bool.and_true]

attribute [local go_sem high] and_one shr_u shl_one or_u and_u

/-! ### what the search over circles holds in the store: the goal, the web, and itself -/
structure Goal where
  tt : TypeId
  ft : FuncId
  ob : Nat → List (List Nat) → List AV
  gar : Nat → List (List Nat) → List (List AV)
def fromV (d : Nat) : AV := .fn (.func 94) [] [.ptr (d + 1) 0, .ptr (d + 2) 0, .ptr (d + 3) 0]
def layG (G : Goal) (d : Nat) (n : Int) (w : List Nat) (cs : List (List Nat)) : List (List AV) :=
  G.ob d cs :: webC n w :: [.ifc G.tt (.ptr d 0)] :: [fromV d] :: G.gar d cs
structure GoalOk (G : Goal) (d : Nat) (n : Int) (w : List Nat) : Prop where
  inv : findT G.tt [(101, 145), (111, 146)] = some G.ft
  np : pure G.ft = false
  vis : ∀ cs D T, D.length = d → ∀ x ∈ layG G d n w cs, visB x = true ∧ ∀ v ∈ x, visR ⟨D ++ layG G d n w cs, T⟩ v = true
  take : ∀ cs c g T D, D.length = d → 2 ≤ c.length → c.length ≤ 7 → (∀ x ∈ c, x < 7) → run L G.ft [.ptr d 0, .lst g 1 (c.map J)] ⟨D ++ layG G d n w cs, T⟩ = some (.tup [], ⟨D ++ layG G d n w (cs ++ [c]), T⟩)
  mono : ∀ cs cs', (layG G d n w cs).length ≤ (layG G d n w (cs ++ cs')).length
theorem lay_get {G : Goal} {d : Nat} {n : Int} {w : List Nat} {cs : List (List Nat)} {D : List (List AV)} (hD : D.length = d) (k : Nat) : (D ++ layG G d n w cs)[d + k]? = (layG G d n w cs)[k]? := by
  rw [List.getElem?_append_right (by omega)]
  congr 1; omega

def tagOk (g : Tag) (c : List Nat) (T : List Nat) : Prop := g = .full ∨ ∃ t, g = .own t c.length ∧ T[t]? = some c.length
theorem append_tag {g : Tag} {c T : List Nat} (h : tagOk g c T) (hc : c.length ≤ 7) (x : Nat) :
    ∃ g' T', (∀ S, appendAV 1 (.lst g 1 (c.map J)) [J x] ⟨S, T⟩ = some (.lst g' 1 ((c ++ [x]).map J), ⟨S, T'⟩)) ∧ tagOk g' (c ++ [x]) T' := by
  have hm : c.length + 1 ≤ maxGrow := by unfold maxGrow; omega
  rcases h with rfl | ⟨t, rfl, ht⟩
  · refine ⟨.own T.length (c.length + 1), T ++ [c.length + 1], fun S => ?_, .inr ⟨T.length, by simp, by simp⟩⟩
    simp [appendAV, hm]
  · have hlt : t < T.length := (List.getElem?_eq_some_iff.1 ht).1
    refine ⟨.own t (c.length + 1), T.set t (c.length + 1), fun S => ?_, .inr ⟨t, by simp, by simp [hlt]⟩⟩
    simp [appendAV, hm, ht]
theorem index_lstJ (g : Tag) (c : List Nat) (i : Nat) (h : i < c.length) : indexSAV 1 (.lst g 1 (c.map J)) (.v (.int .i64 (i : Int))) = some (.eptr (J (c.getD i 0)) 0) := by
  simp [indexSAV, h]
theorem hideV_v (st : St) (y : Value) : hideV st (.v y) = .v y := by unfold hideV; rw [if_pos (visR_v st y)]
theorem hideV_lst (st : St) (g : Tag) (z : Nat) (xs : List AV) : hideV st (.lst g z xs) = .lst g z xs := by unfold hideV; rw [if_pos (by simp only [visR])]
theorem hideV_ptr (st : St) (l o : Nat) : hideV st (.ptr l o) = if visN st l = true then .ptr l o else .any := by unfold hideV; simp only [visR] <;> rfl
theorem hide_lay {G : Goal} {d : Nat} {n : Int} {w : List Nat} (hG : GoalOk G d n w) {D : List (List AV)} (hD : D.length = d) (hk : Dk D) (cs : List (List Nat)) (T : List Nat) :
    hideSt ⟨D ++ layG G d n w cs, T⟩ = ⟨D.map hid ++ layG G d n w cs, T⟩ := by
  unfold hideSt
  rw [List.map_append, hideC_D hk]
  congr 2
  have : ∀ x ∈ layG G d n w cs, hideC ⟨D ++ layG G d n w cs, T⟩ x = id x := fun x hx => hideC_id (hG.vis cs D T hD x hx).1 (hG.vis cs D T hD x hx).2
  rw [List.map_congr_left this, List.map_id]
theorem vis_lay {G : Goal} {d : Nat} {n : Int} {w : List Nat} (hG : GoalOk G d n w) (cs : List (List Nat)) : ∀ x ∈ layG G d n w cs, visB x = true :=
  fun x hx => (hG.vis cs (List.replicate d []) [] (by simp) x hx).1
theorem visN_lay {G : Goal} {d : Nat} {n : Int} {w : List Nat} (hG : GoalOk G d n w) {D : List (List AV)} (hD : D.length = d) (cs : List (List Nat)) (T : List Nat) (k : Nat) (hk : k < 4) : visN ⟨D ++ layG G d n w cs, T⟩ (d + k) = true := by
  unfold visN
  simp only
  rw [lay_get hD]
  have hl : k < (layG G d n w cs).length := by simp [layG]; omega
  rw [List.getElem?_eq_getElem hl]
  exact vis_lay hG cs _ (List.getElem_mem hl)
theorem subU (m : Nat) (h : 1 ≤ m) (h2 : m < 128) : IntKind.u64.wrap ((m : Int) - 1) = ((m - 1 : Nat) : Int) := by
  rw [show ((m : Int) - 1) = ((m - 1 : Nat) : Int) by omega]
  exact wrapU _ (by omega)

set_option maxHeartbeats 1000000 in
theorem loop94_0 (G : Goal) (d : Nat) (n : Int) (w : List Nat) (hG : GoalOk G d n w) (c : List Nat) (hc : c.length ≤ 7) (g : Tag) (T : List Nat) (htag : tagOk g c T) (D : List (List AV)) (hD : D.length = d) (hDk : Dk D) (free : Nat) (hf : free < 128) (R : Nat → List (List Nat)) (hrec : ∀ x, free.testBit x = true → ∀ cs g' T' D', D'.length = d → Dk D' → tagOk g' (c ++ [x]) T' → run L 94 [.lst g' 1 ((c ++ [x]).map J), U (dfN free (2 ^ x)), .ptr (d + 1) 0, .ptr (d + 2) 0, .ptr (d + 3) 0] ⟨D' ++ layG G d n w cs, T'⟩ = some (.tup [], ⟨D' ++ layG G d n w (cs ++ R x), T'⟩)) (lo hi : Nat) (m : Nat) (cs : List (List Nat)) (hok : m < 128 ∧ (∀ x, m.testBit x = true → free.testBit x = true)) (env : Env) (st : St)
    (hg : gcAV false lo hi (canon env [0, 1, 4, 8]) st = ([(0, .lst g 1 (c.map J)), (1, U free), (4, .ptr (d + 3) 0), (8, U m)], ⟨D ++ layG G d n w cs, T⟩)) :
    ∃ x_1 en s, lim (headed pure (run L) false [0, 1, 4, 8] lp94_0 lo hi) env st = some (x_1, en, s) ∧ (x_1 = .exit 0 ∧ s = ⟨D ++ layG G d n w (cs ++ (bitsL m).flatMap R), T⟩) := by
  refine loop_wp (α := Nat × List (List Nat)) (fun ⟨m, cs⟩ => m) (fun ⟨m, cs⟩ => m < 128 ∧ (∀ x, m.testBit x = true → free.testBit x = true)) (fun ⟨m, cs⟩ => ([(0, .lst g 1 (c.map J)), (1, U free), (4, .ptr (d + 3) 0), (8, U m)], ⟨D ++ layG G d n w cs, T⟩)) (fun ⟨m, cs⟩ x_1 en s => x_1 = .exit 0 ∧ s = ⟨D ++ layG G d n w (cs ++ (bitsL m).flatMap R), T⟩) (fun ⟨m, cs⟩ hok => ?_) ⟨m, cs⟩ hok env st hg
  simp only at hok
  obtain ⟨h1, h2⟩ := hok
  dsimp only at h1 h2 ⊢
  by_cases h : m = 0
  · subst h
    rw [bits_zero, List.flatMap_nil, List.append_nil]
    have h0 : (((0 : Nat) : Int) = 0) = True := eq_true rfl
    simp only [go_sem, reduceIte, Nat.reduceEqDiff, Nat.reduceAdd, Nat.reduceSub, Nat.reduceLeDiff, Nat.reduceLT, reduceCtorEq, Int.reduceLT, Int.reduceLE, Int.reduceEq, Int.reduceBEq, Int.reduceSub, Int.reduceAdd, Int.reduceMul, Int.reduceNeg, Int.reduceToNat, Nat.reduceMul, Nat.reduceBEq, index_rsl_if, setm, make_ints, condK_dec, wantK_dec, not_dec, and_dec, or_dec, seqK_ite, seqK_none, blockK_ite, blockK_none, opsK_ite, opsK_none, stepK_ite, stepK_none, bodyK_ite, bodyK_none, resK_ite, resK_none, leaveK_ite, leaveK_none, only_ite, only_none, bind_ite, gives_some, gives_none, gives_ite, then_normal, then_ret, then_exit, then_none, then_ite, Option.bind_none, Bool.not_eq_true', decide_eq_false_iff_not, Bool.and_eq_true, Bool.or_eq_true, Option.some.injEq, Int.not_lt, Int.not_le, lp94_0, h0]
  · have h0 : ((m : Int) = 0) = False := eq_false (by omega)
    have hs := subU m (by omega) h1
    have hand := andN_eq m (m - 1) h1 (by omega)
    have hlt : m &&& (m - 1) ≤ m - 1 := Nat.and_le_right
    have hbs := bits_step h1 h
    obtain ⟨t1, t2⟩ := tz_spec h1 h
    have h52 := fun st => c52 m h1 st
    have hsub : ∀ x, (m &&& (m - 1)).testBit x = true → free.testBit x = true := fun x hx => by
      rw [Nat.testBit_and, Bool.and_eq_true] at hx; exact h2 x hx.1
    have hfx := h2 _ t2
    rw [hbs, List.flatMap_cons, ← List.append_assoc]
    generalize tzN m = x at *
    generalize m &&& (m - 1) = m2 at *
    obtain ⟨g', T', happ, htag'⟩ := append_tag htag hc x
    have e1 := (sh1_lt x t1).1
    have e2 := (sh1_lt x t1).2
    have hdf := dfU_eq free (2 ^ x) hf e2
    have hcall := fun cs => hrec x hfx cs g' T' (D.map hid) (by rw [List.length_map]; exact hD) (dk_hid hDk) htag'
    simp only [List.map_append, List.map_cons, List.map_nil] at hcall
    have hhide := hide_lay hG hD hDk cs T
    have hvn := visN_lay hG hD cs T 3 (by omega)
    have hg3' : (D.map hid ++ layG G d n w cs)[d + 3]? = some [fromV d] := by rw [lay_get (by rw [List.length_map]; exact hD)]; rfl
    have hnl : noLB (D.map hid ++ layG G d n w (cs ++ R x)) = true := by rw [noLB_append, noLB_hid, noLB_vis _ (vis_lay hG _)]; rfl
    have hmg := merge_D (A := layG G d n w cs) (vis_lay hG cs) D (layG G d n w (cs ++ R x)) (hG.mono cs (R x))
    have hfv : fromV d = .fn (.func 94) [] [.ptr (d + 1) 0, .ptr (d + 2) 0, .ptr (d + 3) 0] := rfl
    simp only [go_sem, reduceIte, Nat.reduceEqDiff, Nat.reduceAdd, Nat.reduceSub, Nat.reduceLeDiff, Nat.reduceLT, reduceCtorEq, Int.reduceLT, Int.reduceLE, Int.reduceEq, Int.reduceBEq, Int.reduceSub, Int.reduceAdd, Int.reduceMul, Int.reduceNeg, Int.reduceToNat, Nat.reduceMul, Nat.reduceBEq, index_rsl_if, setm, make_ints, condK_dec, wantK_dec, not_dec, and_dec, or_dec, seqK_ite, seqK_none, blockK_ite, blockK_none, opsK_ite, opsK_none, stepK_ite, stepK_none, bodyK_ite, bodyK_none, resK_ite, resK_none, leaveK_ite, leaveK_none, only_ite, only_none, bind_ite, gives_some, gives_none, gives_ite, then_normal, then_ret, then_exit, then_none, then_ite, Option.bind_none, Bool.not_eq_true', decide_eq_false_iff_not, Bool.and_eq_true, Bool.or_eq_true, Option.some.injEq, Int.not_lt, Int.not_le, lp94_0, h0, h52, hs, hand, code_lost, hhide, hideEnv, hideV_v, hideV_lst, hideV_ptr, hvn, hg3', hfv, e1, hdf, happ, hcall, show pure 94 = false from rfl, List.map_append, scopeK_some, hnl, hmg, forgot]
    refine ⟨(m2, cs ++ R x), by simp only [go_sem, reduceIte, Nat.reduceEqDiff, Nat.reduceAdd, Nat.reduceSub, Nat.reduceLeDiff, Nat.reduceLT, reduceCtorEq, Int.reduceLT, Int.reduceLE, Int.reduceEq, Int.reduceBEq, Int.reduceSub, Int.reduceAdd, Int.reduceMul, Int.reduceNeg, Int.reduceToNat, Nat.reduceMul, Nat.reduceBEq, ren1_locm, loc_tips, locT_eq] <;> rfl, ?_, ?_, fun x en s hq => ?_⟩
    · dsimp only; exact ⟨by omega, hsub⟩
    · dsimp only; omega
    · exact hq

attribute [local go_sem high] and_one shr_u shl_one or_u and_u

theorem getD_lt {c : List Nat} (h : ∀ x ∈ c, x < 7) (i : Nat) (hi : i < c.length) : c.getD i 0 < 7 := by
  rw [List.getD_eq_getElem?_getD, List.getElem?_eq_getElem hi]
  exact h _ (List.getElem_mem hi)
/-- One call, if those inside do what they should. -/
theorem c94s (G : Goal) (d : Nat) (n : Int) (w : List Nat) (ho : w.length = 7) (hsm : ∀ x ∈ w, x < 128) (hG : GoalOk G d n w) (c : List Nat) (free : Nat) (hf : free < 128) (h1 : 1 ≤ c.length) (h7 : c.length ≤ 7) (hc : ∀ x ∈ c, x < 7)
    (R : Nat → List (List Nat)) (hrec : ∀ x, free.testBit x = true → ∀ cs g' T' D', D'.length = d → Dk D' → tagOk g' (c ++ [x]) T' → run L 94 [.lst g' 1 ((c ++ [x]).map J), U (dfN free (2 ^ x)), .ptr (d + 1) 0, .ptr (d + 2) 0, .ptr (d + 3) 0] ⟨D' ++ layG G d n w cs, T'⟩ = some (.tup [], ⟨D' ++ layG G d n w (cs ++ R x), T'⟩))
    (cs : List (List Nat)) (g : Tag) (T : List Nat) (D : List (List AV)) (hD : D.length = d) (hDk : Dk D) (htag : tagOk g c T) :
    run L 94 [.lst g 1 (c.map J), U free, .ptr (d + 1) 0, .ptr (d + 2) 0, .ptr (d + 3) 0] ⟨D ++ layG G d n w cs, T⟩ = some (.tup [], ⟨D ++ layG G d n w (cs ++ (hdR w c ++ (bitsL (w.getD (lastW c) 0 &&& free)).flatMap R)), T⟩) := by
  rw [run_shared (fn := ir94) rfl rfl]
  have hl1 : IntKind.i64.wrap ((c.length : Int) - 1) = ((c.length - 1 : Nat) : Int) := by rw [wrap64] <;> omega
  have hx1 := index_lstJ g c (c.length - 1) (by omega)
  have hx0 := index_lstJ g c 0 (by omega)
  simp only [Int.natCast_zero] at hx0
  have hlw : c.getD (c.length - 1) 0 = lastW c := rfl
  have hl7 := getD_lt hc (c.length - 1) (by omega)
  have h07 := getD_lt hc 0 (by omega)
  rw [hlw] at hx1 hl7
  have b1 : ((0 : Int) ≤ (lastW c : Int)) = True := eq_true (by omega)
  have b2 : ((lastW c : Int) < 7) = True := eq_true (by omega)
  have g1 : (D ++ layG G d n w cs)[d + 1]? = some (webC n w) := by rw [lay_get hD]; rfl
  have g2 : (D ++ layG G d n w cs)[d + 2]? = some [.ifc G.tt (.ptr d 0)] := by rw [lay_get hD]; rfl
  have gw := getW n w (lastW c) (by omega)
  have hbit := bit_one (w.getD (lastW c) 0) (c.getD 0 0)
  have hmk := min64 (c.getD 0 0) (by omega)
  have hand := andN_eq (w.getD (lastW c) 0) free (small_getD hsm _) hf
  have hlt : w.getD (lastW c) 0 &&& free < 128 := Nat.lt_of_le_of_lt Nat.and_le_right hf
  have hsub : ∀ x, (w.getD (lastW c) 0 &&& free).testBit x = true → free.testBit x = true := fun x hx => by
    rw [Nat.testBit_and, Bool.and_eq_true] at hx; exact hx.2
  have hdr : hdR w c = if 1 < c.length ∧ (w.getD (lastW c) 0).testBit (c.getD 0 0) = true then [c] else [] := rfl
  have hinv := hG.inv
  have hnp := hG.np
  have htake := hG.take cs c g T D hD
  generalize w.getD (lastW c) 0 = v at *
  generalize v &&& free = m at *
  by_cases p1 : 1 < c.length
  · have q1 : ((1 : Int) < (c.length : Int)) = True := eq_true (by omega)
    by_cases p2 : v.testBit (c.getD 0 0) = true
    · rw [hdr, if_pos ⟨p1, p2⟩]
      have ht := htake p1 h7 hc
      simp only [ir94, go_sem, reduceIte, Nat.reduceEqDiff, Nat.reduceAdd, Nat.reduceSub, Nat.reduceLeDiff, Nat.reduceLT, reduceCtorEq, Int.reduceLT, Int.reduceLE, Int.reduceEq, Int.reduceBEq, Int.reduceSub, Int.reduceAdd, Int.reduceMul, Int.reduceNeg, Int.reduceToNat, Nat.reduceMul, Nat.reduceBEq, hl1, hx1, hx0, b1, b2, g1, g2, gw, hmk, hbit, p2, q1, hinv, hnp, ht, hand, List.length_map]
      generalize hg : lim (headed pure (run L) false _ lp94_0 _ _) _ _ = o
      obtain ⟨x, en, s, rfl, h2⟩ : ∃ x en s, o = some (x, en, s) ∧ _ := by rw [← hg]; exact loop94_0 G d n w hG c h7 g T htag D hD hDk free hf R hrec _ _ m (cs ++ [c]) ⟨hlt, hsub⟩ _ _ (by simp only [go_sem, reduceIte, Nat.reduceEqDiff, Nat.reduceAdd, Nat.reduceSub, Nat.reduceLeDiff, Nat.reduceLT, reduceCtorEq, Int.reduceLT, Int.reduceLE, Int.reduceEq, Int.reduceBEq, Int.reduceSub, Int.reduceAdd, Int.reduceMul, Int.reduceNeg, Int.reduceToNat, Nat.reduceMul, Nat.reduceBEq] <;> rfl)
      clear hg
      obtain ⟨rfl, rfl⟩ := h2
      simp only [go_sem, reduceIte, Nat.reduceEqDiff, Nat.reduceAdd, Nat.reduceSub, Nat.reduceLeDiff, Nat.reduceLT, reduceCtorEq, Int.reduceLT, Int.reduceLE, Int.reduceEq, Int.reduceBEq, Int.reduceSub, Int.reduceAdd, Int.reduceMul, Int.reduceNeg, Int.reduceToNat, Nat.reduceMul, Nat.reduceBEq, List.append_assoc]
    · have p2' : (v.testBit (c.getD 0 0) = true) = False := eq_false p2
      rw [hdr, if_neg (fun h => p2 h.2)]
      simp only [ir94, go_sem, reduceIte, Nat.reduceEqDiff, Nat.reduceAdd, Nat.reduceSub, Nat.reduceLeDiff, Nat.reduceLT, reduceCtorEq, Int.reduceLT, Int.reduceLE, Int.reduceEq, Int.reduceBEq, Int.reduceSub, Int.reduceAdd, Int.reduceMul, Int.reduceNeg, Int.reduceToNat, Nat.reduceMul, Nat.reduceBEq, hl1, hx1, hx0, b1, b2, g1, g2, gw, hmk, hbit, p2', q1, hand, List.length_map]
      generalize hg : lim (headed pure (run L) false _ lp94_0 _ _) _ _ = o
      obtain ⟨x, en, s, rfl, h2⟩ : ∃ x en s, o = some (x, en, s) ∧ _ := by rw [← hg]; exact loop94_0 G d n w hG c h7 g T htag D hD hDk free hf R hrec _ _ m cs ⟨hlt, hsub⟩ _ _ (by simp only [go_sem, reduceIte, Nat.reduceEqDiff, Nat.reduceAdd, Nat.reduceSub, Nat.reduceLeDiff, Nat.reduceLT, reduceCtorEq, Int.reduceLT, Int.reduceLE, Int.reduceEq, Int.reduceBEq, Int.reduceSub, Int.reduceAdd, Int.reduceMul, Int.reduceNeg, Int.reduceToNat, Nat.reduceMul, Nat.reduceBEq] <;> rfl)
      clear hg
      obtain ⟨rfl, rfl⟩ := h2
      simp only [go_sem, reduceIte, Nat.reduceEqDiff, Nat.reduceAdd, Nat.reduceSub, Nat.reduceLeDiff, Nat.reduceLT, reduceCtorEq, Int.reduceLT, Int.reduceLE, Int.reduceEq, Int.reduceBEq, Int.reduceSub, Int.reduceAdd, Int.reduceMul, Int.reduceNeg, Int.reduceToNat, Nat.reduceMul, Nat.reduceBEq]
  · have q1 : ((1 : Int) < (c.length : Int)) = False := eq_false (by omega)
    rw [hdr, if_neg (fun h => p1 h.1)]
    simp only [ir94, go_sem, reduceIte, Nat.reduceEqDiff, Nat.reduceAdd, Nat.reduceSub, Nat.reduceLeDiff, Nat.reduceLT, reduceCtorEq, Int.reduceLT, Int.reduceLE, Int.reduceEq, Int.reduceBEq, Int.reduceSub, Int.reduceAdd, Int.reduceMul, Int.reduceNeg, Int.reduceToNat, Nat.reduceMul, Nat.reduceBEq, hl1, hx1, hx0, b1, b2, g1, g2, gw, hmk, q1, hand, List.length_map]
    generalize hg : lim (headed pure (run L) false _ lp94_0 _ _) _ _ = o
    obtain ⟨x, en, s, rfl, h2⟩ : ∃ x en s, o = some (x, en, s) ∧ _ := by rw [← hg]; exact loop94_0 G d n w hG c h7 g T htag D hD hDk free hf R hrec _ _ m cs ⟨hlt, hsub⟩ _ _ (by simp only [go_sem, reduceIte, Nat.reduceEqDiff, Nat.reduceAdd, Nat.reduceSub, Nat.reduceLeDiff, Nat.reduceLT, reduceCtorEq, Int.reduceLT, Int.reduceLE, Int.reduceEq, Int.reduceBEq, Int.reduceSub, Int.reduceAdd, Int.reduceMul, Int.reduceNeg, Int.reduceToNat, Nat.reduceMul, Nat.reduceBEq] <;> rfl)
    clear hg
    obtain ⟨rfl, rfl⟩ := h2
    simp only [go_sem, reduceIte, Nat.reduceEqDiff, Nat.reduceAdd, Nat.reduceSub, Nat.reduceLeDiff, Nat.reduceLT, reduceCtorEq, Int.reduceLT, Int.reduceLE, Int.reduceEq, Int.reduceBEq, Int.reduceSub, Int.reduceAdd, Int.reduceMul, Int.reduceNeg, Int.reduceToNat, Nat.reduceMul, Nat.reduceBEq]
theorem c94 (G : Goal) (d : Nat) (n : Int) (w : List Nat) (ho : w.length = 7) (hsm : ∀ x ∈ w, x < 128) (hG : GoalOk G d n w) :
    ∀ (k : Nat) (c : List Nat) (free : Nat), (bitsL free).length ≤ k → free < 128 → 1 ≤ c.length → c.length + (bitsL free).length ≤ 7 → (∀ x ∈ c, x < 7) →
      ∀ cs g T D, D.length = d → Dk D → tagOk g c T → run L 94 [.lst g 1 (c.map J), U free, .ptr (d + 1) 0, .ptr (d + 2) 0, .ptr (d + 3) 0] ⟨D ++ layG G d n w cs, T⟩ = some (.tup [], ⟨D ++ layG G d n w (cs ++ rg w k c free), T⟩) := by
  intro k
  induction k with
  | zero =>
    intro c free hk hf h1 h7 hc cs g T D hD hDk htag
    have h0 := bits_nil hf (by omega)
    subst h0
    have := c94s G d n w ho hsm hG c 0 hf h1 (by omega) hc (fun _ => []) (fun x hx => by simp at hx) cs g T D hD hDk htag
    rw [Nat.and_zero, bits_zero, List.flatMap_nil, List.append_nil] at this
    exact this
  | succ k ih =>
    intro c free hk hf h1 h7 hc cs g T D hD hDk htag
    exact c94s G d n w ho hsm hG c free hf h1 (by omega) hc (fun x => rg w k (c ++ [x]) (dfN free (2 ^ x))) (fun x hx cs g' T' D' hD' hDk' ht' => by
      have hcard := df_card hf hx
      have hx7 := bit_lt7 hf hx
      exact ih (c ++ [x]) (dfN free (2 ^ x)) (by omega) (dfN_lt hf) (by simp) (by simp; omega) (fun y hy => by
        rcases List.mem_append.1 hy with hy | hy
        · exact hc y hy
        · simp at hy; omega) cs g' T' D' hD' hDk' ht') cs g T D hD hDk htag

attribute [local go_sem high] and_one shr_u shl_one or_u and_u

/-- The words that are free after the first one. -/
def frN (n x : Nat) : Nat := dfN (2 ^ n - 1) (2 ^ (x + 1) - 1)
theorem pow_lt {n : Nat} (hn : n ≤ 7) : 2 ^ n - 1 < 128 := by
  have : 2 ^ n ≤ 128 := Nat.pow_le_pow_right (n := 2) (by omega) hn
  have h1 : 1 ≤ 2 ^ n := Nat.one_le_two_pow
  omega
theorem frN_bit {n x : Nat} (hn : n ≤ 7) (hx : x < n) (y : Nat) : (frN n x).testBit y = (decide (y < n) && decide (x < y)) := by
  unfold frN
  rw [dfN_bit (pow_lt (by omega)), Nat.testBit_two_pow_sub_one, Nat.testBit_two_pow_sub_one]
  rw [Bool.eq_iff_iff]
  simp only [Bool.and_eq_true, decide_eq_true_eq, Bool.not_eq_true', decide_eq_false_iff_not]
  omega
theorem frN_lt {n x : Nat} (hn : n ≤ 7) : frN n x < 128 := dfN_lt (pow_lt hn)
theorem frN_card {n x : Nat} (hn : n ≤ 7) (hx : x < n) : (bitsL (frN n x)).length ≤ 6 := by
  have h := filter_len_lt (p := (frN n x).testBit) (q := fun _ => true) (List.range 7) (fun _ _ _ => rfl) ⟨x, List.mem_range.2 (by omega), rfl, by rw [frN_bit hn hx]; simp⟩
  have h2 : ((List.range 7).filter fun _ => true).length = 7 := rfl
  unfold bitsL; omega
/-- All circles, by their smallest words. -/
def circL (n : Nat) (w : List Nat) : List (List Nat) := (List.range' 0 n).flatMap fun x => rg w 7 [x] (frN n x)

theorem loop74_0 (G : Goal) (d : Nat) (n : Nat) (hn : n ≤ 7) (w : List Nat) (ho : w.length = 7) (hsm : ∀ x ∈ w, x < 128) (hG : GoalOk G d (n : Int) w) (T : List Nat) (D : List (List AV)) (hD : D.length = d) (hDk : Dk D) (lo hi : Nat) (x : Nat) (cs : List (List Nat)) (hok : x ≤ n) (env : Env) (st : St)
    (hg : gcAV false lo hi (canon env [2, 4, 8, 9]) st = ([(2, .ptr (d + 1) 0), (4, .ptr (d + 3) 0), (8, I n), (9, I x)], ⟨D ++ layG G d (n : Int) w cs, T⟩)) :
    ∃ x_1 en s, lim (headed pure (run L) false [2, 4, 8, 9] lp74_0 lo hi) env st = some (x_1, en, s) ∧ (x_1 = .exit 0 ∧ s = ⟨D ++ layG G d (n : Int) w (cs ++ (List.range' x (n - x)).flatMap fun x => rg w 7 [x] (frN n x)), T⟩) := by
  refine loop_wp (α := Nat × List (List Nat)) (fun ⟨x, cs⟩ => n - x) (fun ⟨x, cs⟩ => x ≤ n) (fun ⟨x, cs⟩ => ([(2, .ptr (d + 1) 0), (4, .ptr (d + 3) 0), (8, I n), (9, I x)], ⟨D ++ layG G d (n : Int) w cs, T⟩)) (fun ⟨x, cs⟩ x_1 en s => x_1 = .exit 0 ∧ s = ⟨D ++ layG G d (n : Int) w (cs ++ (List.range' x (n - x)).flatMap fun x => rg w 7 [x] (frN n x)), T⟩) (fun ⟨x, cs⟩ hok => ?_) ⟨x, cs⟩ hok env st hg
  simp only at hok
  dsimp only at hok ⊢
  by_cases h : x < n
  · have hs := succ64 x (by omega)
    have hlt : ((x : Int) < (n : Int)) = True := eq_true (by omega)
    have hr : List.range' x (n - x) = x :: List.range' (x + 1) (n - (x + 1)) := by
      rw [show n - x = (n - (x + 1)) + 1 by omega, List.range'_succ]
    have g1 : (D ++ layG G d (n : Int) w cs)[d + 1]? = some (webC (n : Int) w) := by rw [lay_get hD]; rfl
    have g3 : (D ++ layG G d (n : Int) w cs)[d + 3]? = some [fromV d] := by rw [lay_get hD]; rfl
    have gw0 := getW0 (n : Int) w
    have hfv : fromV d = .fn (.func 94) [] [.ptr (d + 1) 0, .ptr (d + 2) 0, .ptr (d + 3) 0] := rfl
    have e1 := sh1_eq n (by omega)
    have e2 := sh1_eq (x + 1) (by omega)
    have p1 : 1 ≤ 2 ^ n := Nat.one_le_two_pow
    have p2 : 2 ^ n ≤ 128 := Nat.pow_le_pow_right (n := 2) (by omega) hn
    have p3 : 1 ≤ 2 ^ (x + 1) := Nat.one_le_two_pow
    have p4 : 2 ^ (x + 1) ≤ 2 ^ 7 := Nat.pow_le_pow_right (n := 2) (by omega) (by omega)
    have hdf := dfU_eq (2 ^ n - 1) (2 ^ (x + 1) - 1) (by omega) (by omega)
    have hfr : dfN (2 ^ n - 1) (2 ^ (x + 1) - 1) = frN n x := rfl
    rw [hfr] at hdf
    have hc := frN_card hn h
    have hcall := fun cs => c94 G d (n : Int) w ho hsm hG 7 [x] (frN n x) (by omega) (frN_lt hn) (by simp) (by simp; omega) (by simp; omega) cs .full T D hD hDk (.inl rfl)
    simp only [List.map_cons, List.map_nil] at hcall
    have s1 : IntKind.u64.wrap (((2 ^ n : Nat) : Int) - 1) = ((2 ^ n - 1 : Nat) : Int) := by
      rw [show (((2 ^ n : Nat) : Int) - 1) = ((2 ^ n - 1 : Nat) : Int) by omega]; exact wrapU _ (by omega)
    have s2 : IntKind.u64.wrap (((2 ^ (x + 1) : Nat) : Int) - 1) = ((2 ^ (x + 1) - 1 : Nat) : Int) := by
      rw [show (((2 ^ (x + 1) : Nat) : Int) - 1) = ((2 ^ (x + 1) - 1 : Nat) : Int) by omega]; exact wrapU _ (by omega)
    rw [hr, List.flatMap_cons, ← List.append_assoc]
    generalize frN n x = fr at *
    generalize 2 ^ n - 1 = a1 at *
    generalize 2 ^ (x + 1) - 1 = a2 at *
    simp only [go_sem, reduceIte, Nat.reduceEqDiff, Nat.reduceAdd, Nat.reduceSub, Nat.reduceLeDiff, Nat.reduceLT, reduceCtorEq, Int.reduceLT, Int.reduceLE, Int.reduceEq, Int.reduceBEq, Int.reduceSub, Int.reduceAdd, Int.reduceMul, Int.reduceNeg, Int.reduceToNat, Nat.reduceMul, Nat.reduceBEq, index_rsl_if, setm, make_ints, condK_dec, wantK_dec, not_dec, and_dec, or_dec, seqK_ite, seqK_none, blockK_ite, blockK_none, opsK_ite, opsK_none, stepK_ite, stepK_none, bodyK_ite, bodyK_none, resK_ite, resK_none, leaveK_ite, leaveK_none, only_ite, only_none, bind_ite, gives_some, gives_none, gives_ite, then_normal, then_ret, then_exit, then_none, then_ite, Option.bind_none, Bool.not_eq_true', decide_eq_false_iff_not, Bool.and_eq_true, Bool.or_eq_true, Option.some.injEq, Int.not_lt, Int.not_le, lp74_0, hlt, hs, g1, g3, gw0, hfv, e1, e2, s1, s2, hdf, hcall, show pure 94 = false from rfl]
    refine ⟨(x + 1, cs ++ rg w 7 [x] fr), by simp only [go_sem, reduceIte, Nat.reduceEqDiff, Nat.reduceAdd, Nat.reduceSub, Nat.reduceLeDiff, Nat.reduceLT, reduceCtorEq, Int.reduceLT, Int.reduceLE, Int.reduceEq, Int.reduceBEq, Int.reduceSub, Int.reduceAdd, Int.reduceMul, Int.reduceNeg, Int.reduceToNat, Nat.reduceMul, Nat.reduceBEq, ren1_locm, loc_tips, locT_eq] <;> rfl, ?_, ?_, fun x en s hq => ?_⟩
    · dsimp only; omega
    · dsimp only; omega
    · exact hq
  · have hr : n - x = 0 := by omega
    have hlt : ((x : Int) < (n : Int)) = False := eq_false (by omega)
    rw [hr]
    simp only [go_sem, reduceIte, Nat.reduceEqDiff, Nat.reduceAdd, Nat.reduceSub, Nat.reduceLeDiff, Nat.reduceLT, reduceCtorEq, Int.reduceLT, Int.reduceLE, Int.reduceEq, Int.reduceBEq, Int.reduceSub, Int.reduceAdd, Int.reduceMul, Int.reduceNeg, Int.reduceToNat, Nat.reduceMul, Nat.reduceBEq, index_rsl_if, setm, make_ints, condK_dec, wantK_dec, not_dec, and_dec, or_dec, seqK_ite, seqK_none, blockK_ite, blockK_none, opsK_ite, opsK_none, stepK_ite, stepK_none, bodyK_ite, bodyK_none, resK_ite, resK_none, leaveK_ite, leaveK_none, only_ite, only_none, bind_ite, gives_some, gives_none, gives_ite, then_normal, then_ret, then_exit, then_none, then_ite, Option.bind_none, Bool.not_eq_true', decide_eq_false_iff_not, Bool.and_eq_true, Bool.or_eq_true, Option.some.injEq, Int.not_lt, Int.not_le, lp74_0, hlt]
    simp

theorem len_app {D : List (List AV)} {d : Nat} (hD : D.length = d) (A : List (List AV)) : (D ++ A).length = d + A.length := by rw [List.length_append, hD]
theorem set_app {D : List (List AV)} {d : Nat} (hD : D.length = d) (A : List (List AV)) (k : Nat) (x : List AV) : (D ++ A).set (d + k) x = D ++ A.set k x := by
  rw [List.set_append_right _ _ (by omega)]
  congr 2; omega
theorem get_app {D : List (List AV)} {d : Nat} (hD : D.length = d) (A : List (List AV)) (k : Nat) : (D ++ A)[d + k]? = A[k]? := by
  rw [List.getElem?_append_right (by omega)]
  congr 1; omega
/-- Nothing is held beside the goal in the beginning. -/
theorem c74 (G : Goal) (d : Nat) (n : Nat) (hn : n ≤ 7) (w : List Nat) (ho : w.length = 7) (hsm : ∀ x ∈ w, x < 128) (hG : GoalOk G d (n : Int) w) (h0 : G.gar d [] = []) (T : List Nat) (D : List (List AV)) (hD : D.length = d) (hDk : Dk D) :
    run L 74 [webAV (n : Int) w, .ifc G.tt (.ptr d 0)] ⟨D ++ [G.ob d []], T⟩ = some (.tup [], ⟨D ++ layG G d (n : Int) w (circL n w), T⟩) := by
  rw [run_shared (fn := ir74) rfl rfl]
  have l1 := len_app hD [G.ob d []]
  have l2 := len_app hD [G.ob d [], webC (n : Int) w]
  have l3 := len_app hD [G.ob d [], webC (n : Int) w, [.ifc G.tt (.ptr d 0)]]
  simp only [List.length_cons, List.length_nil, Nat.zero_add, Nat.reduceAdd] at l1 l2 l3
  have gf := get_app hD [G.ob d [], webC (n : Int) w, [.ifc G.tt (.ptr d 0)], [.v .nilFunc]] 3
  have sf := set_app hD [G.ob d [], webC (n : Int) w, [.ifc G.tt (.ptr d 0)], [.v .nilFunc]] 3 [.fn (.func 94) [] [.ptr (d + 1) 0, .ptr (d + 2) 0, .ptr (d + 3) 0]]
  have gw := get_app hD [G.ob d [], webC (n : Int) w, [.ifc G.tt (.ptr d 0)], [.fn (.func 94) [] [.ptr (d + 1) 0, .ptr (d + 2) 0, .ptr (d + 3) 0]]] 1
  have gw0 := getW0 (n : Int) w
  have hlay : D ++ [G.ob d [], webC (n : Int) w, [.ifc G.tt (.ptr d 0)], [.fn (.func 94) [] [.ptr (d + 1) 0, .ptr (d + 2) 0, .ptr (d + 3) 0]]] = D ++ layG G d (n : Int) w [] := by
    unfold layG; rw [h0]; rfl
  simp only [ir74, go_sem, reduceIte, Nat.reduceEqDiff, Nat.reduceAdd, Nat.reduceSub, Nat.reduceLeDiff, Nat.reduceLT, reduceCtorEq, Int.reduceLT, Int.reduceLE, Int.reduceEq, Int.reduceBEq, Int.reduceSub, Int.reduceAdd, Int.reduceMul, Int.reduceNeg, Int.reduceToNat, Nat.reduceMul, Nat.reduceBEq, storableW, List.append_assoc, l1, l2, l3, gf, sf, gw, gw0]
  simp only [hlay]
  generalize hg : lim (headed pure (run L) false _ lp74_0 _ _) _ _ = o
  obtain ⟨x, en, s, rfl, h2⟩ : ∃ x en s, o = some (x, en, s) ∧ _ := by rw [← hg]; exact loop74_0 G d n hn w ho hsm hG T D hD hDk _ _ 0 [] (by omega) _ _ (by simp only [go_sem, reduceIte, Nat.reduceEqDiff, Nat.reduceAdd, Nat.reduceSub, Nat.reduceLeDiff, Nat.reduceLT, reduceCtorEq, Int.reduceLT, Int.reduceLE, Int.reduceEq, Int.reduceBEq, Int.reduceSub, Int.reduceAdd, Int.reduceMul, Int.reduceNeg, Int.reduceToNat, Nat.reduceMul, Nat.reduceBEq] <;> rfl)
  clear hg
  rw [Nat.sub_zero, List.nil_append] at h2
  obtain ⟨rfl, rfl⟩ := h2
  simp only [go_sem, reduceIte, Nat.reduceEqDiff, Nat.reduceAdd, Nat.reduceSub, Nat.reduceLeDiff, Nat.reduceLT, reduceCtorEq, Int.reduceLT, Int.reduceLE, Int.reduceEq, Int.reduceBEq, Int.reduceSub, Int.reduceAdd, Int.reduceMul, Int.reduceNeg, Int.reduceToNat, Nat.reduceMul, Nat.reduceBEq]
  rfl


/-! ### the first goal: the first shortest odd circle -/
def up (c : List Nat) : List Int := c.map fun (x : Nat) => (x : Int)
theorem up_len (c : List Nat) : (up c).length = c.length := by simp [up]
theorem up_J (c : List Nat) : (up c).map I = c.map J := by simp [up, List.map_map, Function.comp]
theorem noLs_U : ∀ c : List Nat, noLs (c.map U) = true
  | [] => rfl
  | x :: r => by simp only [List.map_cons, noLs, noL, noLs_U r, Bool.and_true]
theorem visB_web (n : Int) (w : List Nat) : visB (webC n w) = true := by
  unfold visB webC
  simp only [noLs, noL, noLs_U]
  rfl
theorem visR_web (st : St) (n : Int) (w : List Nat) : ∀ v ∈ webC n w, visR st v = true := by
  intro v hv
  unfold webC at hv
  rcases List.mem_cons.1 hv with rfl | hv
  · exact visR_v _ _
  · obtain ⟨x, _, rfl⟩ := List.mem_map.1 hv
    exact visR_v _ _
theorem visN_at {A D : List (List AV)} {d : Nat} (hD : D.length = d) (hA : ∀ x ∈ A, visB x = true) (k : Nat) (hk : k < A.length) (T : List Nat) : visN ⟨D ++ A, T⟩ (d + k) = true := by
  unfold visN
  simp only
  rw [get_app hD, List.getElem?_eq_getElem hk]
  exact hA _ (List.getElem_mem hk)
theorem from_vis {A D : List (List AV)} {d : Nat} (hD : D.length = d) (hA : ∀ x ∈ A, visB x = true) (hk : 4 ≤ A.length) (T : List Nat) : visR ⟨D ++ A, T⟩ (fromV d) = true := by
  unfold fromV
  simp only [visR, visRs, visN_at hD hA 1 (by omega), visN_at hD hA 2 (by omega), visN_at hD hA 3 (by omega), Bool.and_true]


/-! ### the second goal: how many circles, and how many on each reference -/
def wr : Nat → Int
  | 0 => 0
  | k + 1 => IntKind.i64.wrap (wr k + 1)
theorem wr_eq : ∀ k : Nat, k < 2 ^ 62 → wr k = k
  | 0, _ => rfl
  | k + 1, h => by
    show IntKind.i64.wrap (wr k + 1) = _
    rw [wr_eq k (by omega), wrap64] <;> omega
def tallyC (tot : Nat) (O : List Nat) : List AV := I (wr tot) :: O.map fun k => I (wr k)
theorem tally_get (tot : Nat) (O : List Nat) (p : Nat) (h : p < O.length) : (tallyC tot O)[1 + p]? = some (I (wr (O.getD p 0))) := by
  unfold tallyC
  rw [Nat.add_comm, List.getElem?_cons_succ, List.getElem?_map, List.getElem?_eq_getElem h, List.getD_eq_getElem?_getD, List.getElem?_eq_getElem h]
  rfl
theorem tally_set (tot : Nat) (O : List Nat) (p k : Nat) : (tallyC tot O).set (1 + p) (I (wr k)) = tallyC tot (O.set p k) := by
  unfold tallyC
  rw [Nat.add_comm, List.set_cons_succ, List.map_set]
theorem tally_len (tot : Nat) (O : List Nat) : (tallyC tot O).length = 1 + O.length := by simp [tallyC]; omega
def atP (c : List Nat) (i : Nat) : Nat := c.getD i 0 * 7 + c.getD ((i + 1) % c.length) 0
def ovS (c : List Nat) (O : List Nat) (i : Nat) : List Nat := O.set (atP c i) (O.getD (atP c i) 0 + 1)
def ovC (O : List Nat) (c : List Nat) : List Nat := (List.range' 0 c.length).foldl (ovS c) O
def ovL (cs : List (List Nat)) : List Nat := cs.foldl ovC (List.replicate 49 0)
theorem ovS_len (c : List Nat) : ∀ (l : List Nat) (O : List Nat), (l.foldl (ovS c) O).length = O.length
  | [], _ => rfl
  | i :: r, O => by rw [List.foldl_cons, ovS_len c r]; simp [ovS]
theorem ovC_len : ∀ (cs : List (List Nat)) (O : List Nat), (cs.foldl ovC O).length = O.length
  | [], _ => rfl
  | c :: r, O => by rw [List.foldl_cons, ovC_len r]; exact ovS_len c _ _
theorem ovL_len (cs : List (List Nat)) : (ovL cs).length = 49 := by unfold ovL; rw [ovC_len]; simp
theorem ovL_snoc (cs : List (List Nat)) (c : List Nat) : ovL (cs ++ [c]) = ovC (ovL cs) c := by simp [ovL]
def goalT : Goal := ⟨111, 146, fun _ cs => tallyC cs.length (ovL cs), fun _ _ => []⟩
def layT (d : Nat) (n : Int) (w : List Nat) (tot : Nat) (O : List Nat) : List (List AV) := tallyC tot O :: webC n w :: [.ifc 111 (.ptr d 0)] :: [fromV d] :: []
theorem layT_eq (d : Nat) (n : Int) (w : List Nat) (cs : List (List Nat)) : layG goalT d n w cs = layT d n w cs.length (ovL cs) := rfl

theorem loop146_0 (d : Nat) (n : Int) (w : List Nat) (tot : Nat) (c : List Nat) (g : Tag) (T : List Nat) (D : List (List AV)) (hD : D.length = d) (h7 : c.length ≤ 7) (hc : ∀ x ∈ c, x < 7) (lo hi : Nat) (i : Nat) (O : List Nat) (hok : i ≤ c.length ∧ O.length = 49) (env : Env) (st : St)
    (hg : gcAV false lo hi (canon env [0, 1, 13, 14, 15]) st = ([(0, .ptr d 0), (1, .lst g 1 (c.map J)), (13, .lst g 1 (c.map J)), (14, I c.length), (15, I i)], ⟨D ++ layT d n w tot O, T⟩)) :
    ∃ x_1 en s, lim (headed pure (run L) false [0, 1, 13, 14, 15] lp146_0 lo hi) env st = some (x_1, en, s) ∧ (x_1 = .exit 0 ∧ s = ⟨D ++ layT d n w tot ((List.range' i (c.length - i)).foldl (ovS c) O), T⟩) := by
  refine loop_wp (α := Nat × List Nat) (fun ⟨i, O⟩ => c.length - i) (fun ⟨i, O⟩ => i ≤ c.length ∧ O.length = 49) (fun ⟨i, O⟩ => ([(0, .ptr d 0), (1, .lst g 1 (c.map J)), (13, .lst g 1 (c.map J)), (14, I c.length), (15, I i)], ⟨D ++ layT d n w tot O, T⟩)) (fun ⟨i, O⟩ x_1 en s => x_1 = .exit 0 ∧ s = ⟨D ++ layT d n w tot ((List.range' i (c.length - i)).foldl (ovS c) O), T⟩) (fun ⟨i, O⟩ hok => ?_) ⟨i, O⟩ hok env st hg
  simp only at hok
  obtain ⟨h1, h2⟩ := hok
  dsimp only at h1 h2 ⊢
  by_cases h : i < c.length
  · have hs := succ64 i (by omega)
    have hlt : ((i : Int) < (c.length : Int)) = True := eq_true (by omega)
    have hr : List.range' i (c.length - i) = i :: List.range' (i + 1) (c.length - (i + 1)) := by
      rw [show c.length - i = (c.length - (i + 1)) + 1 by omega, List.range'_succ]
    have hmod : (i + 1) % c.length < c.length := Nat.mod_lt _ (by omega)
    have hx1 := index_lstJ g c i h
    have hx2 := index_lstJ g c ((i + 1) % c.length) hmod
    have hx7 := getD_lt hc i h
    have hy7 := getD_lt hc _ hmod
    have htm : (((i + 1 : Nat) : Int)).tmod (c.length : Int) = (((i + 1) % c.length : Nat) : Int) := tmod_nat _ _
    have hz : ((c.length : Int) = 0) = False := eq_false (by omega)
    have hos : ovS c O i = O.set (atP c i) (O.getD (atP c i) 0 + 1) := rfl
    have hat : atP c i = c.getD i 0 * 7 + c.getD ((i + 1) % c.length) 0 := rfl
    have hl2 : (ovS c O i).length = 49 := by rw [hos]; simp [h2]
    generalize c.getD ((i + 1) % c.length) 0 = y at *
    generalize c.getD i 0 = x at *
    have g0 := get_app hD (layT d n w tot O) 0
    rw [Nat.add_zero, show (layT d n w tot O)[0]? = some (tallyC tot O) from rfl] at g0
    have gt := tally_get tot O (atP c i) (by omega)
    have st := tally_set tot O (atP c i) (O.getD (atP c i) 0 + 1)
    rw [← hos] at st
    have hwr : IntKind.i64.wrap (wr (O.getD (atP c i) 0) + 1) = wr (O.getD (atP c i) 0 + 1) := rfl
    have s0 := set_app hD (layT d n w tot O) 0 (tallyC tot (ovS c O i))
    rw [Nat.add_zero, show (layT d n w tot O).set 0 (tallyC tot (ovS c O i)) = layT d n w tot (ovS c O i) from rfl] at s0
    have htl := tally_len tot O
    rw [h2] at htl
    have a1 : 1 + x * 7 + y = 1 + atP c i := by rw [hat]; omega
    have b1 : ((0 : Int) ≤ (x : Int)) = True := eq_true (by omega)
    have b2 : ((x : Int) < 7) = True := eq_true (by omega)
    have b3 : ((0 : Int) ≤ (y : Int)) = True := eq_true (by omega)
    have b4 : ((y : Int) < 7) = True := eq_true (by omega)
    have b5 : (1 + atP c i + 1 ≤ 50) = True := eq_true (by rw [hat]; omega)
    rw [hr, List.foldl_cons]
    generalize ovS c O i = O2 at *
    generalize atP c i = p at *
    generalize O.getD p 0 = q at *
    simp only [go_sem, reduceIte, Nat.reduceEqDiff, Nat.reduceAdd, Nat.reduceSub, Nat.reduceLeDiff, Nat.reduceLT, reduceCtorEq, Int.reduceLT, Int.reduceLE, Int.reduceEq, Int.reduceBEq, Int.reduceSub, Int.reduceAdd, Int.reduceMul, Int.reduceNeg, Int.reduceToNat, Nat.reduceMul, Nat.reduceBEq, index_rsl_if, setm, make_ints, condK_dec, wantK_dec, not_dec, and_dec, or_dec, seqK_ite, seqK_none, blockK_ite, blockK_none, opsK_ite, opsK_none, stepK_ite, stepK_none, bodyK_ite, bodyK_none, resK_ite, resK_none, leaveK_ite, leaveK_none, only_ite, only_none, bind_ite, gives_some, gives_none, gives_ite, then_normal, then_ret, then_exit, then_none, then_ite, Option.bind_none, Bool.not_eq_true', decide_eq_false_iff_not, Bool.and_eq_true, Bool.or_eq_true, Option.some.injEq, Int.not_lt, Int.not_le, lp146_0, hlt, hs, hx1, hx2, htm, hz, g0, gt, st, s0, hwr, htl, a1, b1, b2, b3, b4, b5, List.length_map]
    refine ⟨(i + 1, O2), by simp only [go_sem, reduceIte, Nat.reduceEqDiff, Nat.reduceAdd, Nat.reduceSub, Nat.reduceLeDiff, Nat.reduceLT, reduceCtorEq, Int.reduceLT, Int.reduceLE, Int.reduceEq, Int.reduceBEq, Int.reduceSub, Int.reduceAdd, Int.reduceMul, Int.reduceNeg, Int.reduceToNat, Nat.reduceMul, Nat.reduceBEq, ren1_locm, loc_tips, locT_eq] <;> rfl, ?_, ?_, fun x en s hq => ?_⟩
    · dsimp only; exact ⟨by omega, hl2⟩
    · dsimp only; omega
    · exact hq
  · have hr : c.length - i = 0 := by omega
    have hlt : ((i : Int) < (c.length : Int)) = False := eq_false (by omega)
    rw [hr]
    simp only [go_sem, reduceIte, Nat.reduceEqDiff, Nat.reduceAdd, Nat.reduceSub, Nat.reduceLeDiff, Nat.reduceLT, reduceCtorEq, Int.reduceLT, Int.reduceLE, Int.reduceEq, Int.reduceBEq, Int.reduceSub, Int.reduceAdd, Int.reduceMul, Int.reduceNeg, Int.reduceToNat, Nat.reduceMul, Nat.reduceBEq, index_rsl_if, setm, make_ints, condK_dec, wantK_dec, not_dec, and_dec, or_dec, seqK_ite, seqK_none, blockK_ite, blockK_none, opsK_ite, opsK_none, stepK_ite, stepK_none, bodyK_ite, bodyK_none, resK_ite, resK_none, leaveK_ite, leaveK_none, only_ite, only_none, bind_ite, gives_some, gives_none, gives_ite, then_normal, then_ret, then_exit, then_none, then_ite, Option.bind_none, Bool.not_eq_true', decide_eq_false_iff_not, Bool.and_eq_true, Bool.or_eq_true, Option.some.injEq, Int.not_lt, Int.not_le, lp146_0, hlt]
    rfl

theorem c146 (d : Nat) (n : Int) (w : List Nat) (cs : List (List Nat)) (c : List Nat) (g : Tag) (T : List Nat) (D : List (List AV)) (hD : D.length = d) (h7 : c.length ≤ 7) (hc : ∀ x ∈ c, x < 7) :
    run L 146 [.ptr d 0, .lst g 1 (c.map J)] ⟨D ++ layG goalT d n w cs, T⟩ = some (.tup [], ⟨D ++ layG goalT d n w (cs ++ [c]), T⟩) := by
  rw [run_shared (fn := ir146) rfl rfl, layT_eq, layT_eq, ovL_snoc, List.length_append, List.length_singleton]
  have hol := ovL_len cs
  generalize ovL cs = O at *
  generalize cs.length = k at *
  have g0 := get_app hD (layT d n w k O) 0
  rw [Nat.add_zero, show (layT d n w k O)[0]? = some (I (wr k) :: O.map fun k => I (wr k)) from rfl] at g0
  have s0 := set_app hD (layT d n w k O) 0 (I (wr (k + 1)) :: O.map fun k => I (wr k))
  rw [Nat.add_zero, show (layT d n w k O).set 0 (I (wr (k + 1)) :: O.map fun k => I (wr k)) = layT d n w (k + 1) O from rfl] at s0
  have hwr : IntKind.i64.wrap (wr k + 1) = wr (k + 1) := rfl
  have b1 : (1 ≤ O.length + 1) = True := eq_true (by omega)
  simp only [ir146, go_sem, reduceIte, Nat.reduceEqDiff, Nat.reduceAdd, Nat.reduceSub, Nat.reduceLeDiff, Nat.reduceLT, reduceCtorEq, Int.reduceLT, Int.reduceLE, Int.reduceEq, Int.reduceBEq, Int.reduceSub, Int.reduceAdd, Int.reduceMul, Int.reduceNeg, Int.reduceToNat, Nat.reduceMul, Nat.reduceBEq, g0, s0, hwr, b1, List.length_map]
  generalize hg : lim (headed pure (run L) false _ lp146_0 _ _) _ _ = o
  obtain ⟨x, en, s, rfl, h2⟩ : ∃ x en s, o = some (x, en, s) ∧ _ := by rw [← hg]; exact loop146_0 d n w (k + 1) c g T D hD h7 hc _ _ 0 O ⟨by omega, hol⟩ _ _ (by simp only [go_sem, reduceIte, Nat.reduceEqDiff, Nat.reduceAdd, Nat.reduceSub, Nat.reduceLeDiff, Nat.reduceLT, reduceCtorEq, Int.reduceLT, Int.reduceLE, Int.reduceEq, Int.reduceBEq, Int.reduceSub, Int.reduceAdd, Int.reduceMul, Int.reduceNeg, Int.reduceToNat, Nat.reduceMul, Nat.reduceBEq] <;> rfl)
  clear hg
  rw [Nat.sub_zero] at h2
  obtain ⟨rfl, rfl⟩ := h2
  simp only [go_sem, reduceIte, Nat.reduceEqDiff, Nat.reduceAdd, Nat.reduceSub, Nat.reduceLeDiff, Nat.reduceLT, reduceCtorEq, Int.reduceLT, Int.reduceLE, Int.reduceEq, Int.reduceBEq, Int.reduceSub, Int.reduceAdd, Int.reduceMul, Int.reduceNeg, Int.reduceToNat, Nat.reduceMul, Nat.reduceBEq]
  rfl

attribute [local go_sem] shaped_t cells_t isAgg_t storable_t okRef_t pub_t

theorem noLs_v : ∀ xs : List AV, (∀ v ∈ xs, ∃ y, v = .v y) → noLs xs = true
  | [], _ => rfl
  | x :: r, h => by
    obtain ⟨y, rfl⟩ := h x (by simp)
    simp only [noLs, noL, noLs_v r (fun v hv => h v (by simp [hv])), Bool.and_true]
theorem tally_v (tot : Nat) (O : List Nat) : ∀ v ∈ tallyC tot O, ∃ y, v = .v y := by
  intro v hv
  unfold tallyC at hv
  rcases List.mem_cons.1 hv with rfl | hv
  · exact ⟨_, rfl⟩
  · obtain ⟨k, _, rfl⟩ := List.mem_map.1 hv
    exact ⟨_, rfl⟩
theorem web_v (n : Int) (w : List Nat) : ∀ v ∈ webC n w, ∃ y, v = .v y := by
  intro v hv
  unfold webC at hv
  rcases List.mem_cons.1 hv with rfl | hv
  · exact ⟨_, rfl⟩
  · obtain ⟨k, _, rfl⟩ := List.mem_map.1 hv
    exact ⟨_, rfl⟩
theorem visB_v {xs : List AV} (hne : xs ≠ []) (h : ∀ v ∈ xs, ∃ y, v = .v y) : visB xs = true := by
  unfold visB
  rw [noLs_v xs h]
  cases xs with
  | nil => exact absurd rfl hne
  | cons x r => rfl
theorem visR_vs {xs : List AV} (h : ∀ v ∈ xs, ∃ y, v = .v y) (st : St) : ∀ v ∈ xs, visR st v = true := fun v hv => by
  obtain ⟨y, rfl⟩ := h v hv; exact visR_v _ _
theorem visT (d : Nat) (n : Int) (w : List Nat) (cs : List (List Nat)) (D : List (List AV)) (T : List Nat) (hD : D.length = d) : ∀ x ∈ layG goalT d n w cs, visB x = true ∧ ∀ v ∈ x, visR ⟨D ++ layG goalT d n w cs, T⟩ v = true := by
  have hA : ∀ x ∈ layG goalT d n w cs, visB x = true := by
    intro x hx
    unfold layG goalT at hx
    simp only [List.mem_cons, List.not_mem_nil, or_false] at hx
    rcases hx with rfl | rfl | rfl | rfl
    · exact visB_v (by unfold tallyC; simp) (tally_v _ _)
    · exact visB_web n w
    · rfl
    · rfl
  have hlen : (layG goalT d n w cs).length = 4 := rfl
  intro x hx
  refine ⟨hA x hx, ?_⟩
  have hx' := hx
  unfold layG at hx'
  simp only [List.mem_cons] at hx'
  intro v hv
  rcases hx' with rfl | rfl | rfl | rfl | hx'
  · exact visR_vs (tally_v _ _) _ v hv
  · exact visR_web _ _ _ v hv
  · simp at hv; subst hv
    simp only [visR]
    exact visN_at hD hA 0 (by omega) T
  · simp at hv; subst hv
    exact from_vis hD hA (by omega) T
  · exact absurd hx' (by simp [goalT])
theorem goalT_ok (d : Nat) (n : Int) (w : List Nat) : GoalOk goalT d n w where
  inv := rfl
  np := rfl
  vis := fun cs D T hD => visT d n w cs D T hD
  take := fun cs c g T D hD _ h2 h3 => c146 d n w cs c g T D hD h2 h3
  mono := fun cs cs' => Nat.le_refl _

/-! ### books ahead of the goal -/
theorem bk_vis (nl : Bool) (n : Int) (ps : List (Int × Int)) : visB (bkCells nl n ps) = true → ∀ v ∈ bkCells nl n ps, ∃ y, v = .v y := by
  intro h v hv
  unfold bkCells at h hv
  rcases List.mem_cons.1 hv with rfl | hv
  · exact ⟨_, rfl⟩
  · simp at hv; subst hv
    unfold sl at h ⊢
    split
    · exact ⟨_, rfl⟩
    · next hn => rw [if_neg hn] at h; simp [visB, noLs, noL] at h
theorem dk_cons {x : List AV} {D : List (List AV)} (h : visB x = true → ∀ v ∈ x, ∃ y, v = .v y) (hD : Dk D) : Dk (x :: D) := by
  intro y hy
  rcases List.mem_cons.1 hy with rfl | hy
  · exact h
  · exact hD y hy
theorem dk_nil : Dk [] := fun x hx => by simp at hx

/-! ### the first odd circle -/

attribute [local go_sem] shaped_t cells_t isAgg_t storable_t okRef_t pub_t

/-! ### the law's circles: a list of lists that grows, with a tip anywhere -/
def oA (c : List Nat) : AV := .lst .any 1 (c.map J)
theorem shaped_oA (c : List Nat) : (oA c).shaped = true := rfl
theorem cells_oA (c : List Nat) : (oA c).cells = [oA c] := rfl
theorem storable_oA (c : List Nat) : storable (oA c) = true := rfl
def outOk (X : List (List Nat)) (a : AV) (T : List Nat) : Prop := (X = [] ∧ a = .v (.slice none 0 0)) ∨ (X ≠ [] ∧ ∃ t, a = .lst (.own t X.length) 1 (X.map oA) ∧ T[t]? = some X.length)
theorem outOk_app {X : List (List Nat)} {a : AV} {T : List Nat} (h : outOk X a T) (hl : X.length < 100000000) (c : List Nat) :
    ∃ a' T', (∀ S, appendAV 1 a [oA c] ⟨S, T⟩ = some (a', ⟨S, T'⟩)) ∧ outOk (X ++ [c]) a' T' := by
  have hm : X.length + 1 ≤ maxGrow := by unfold maxGrow; omega
  rcases h with ⟨rfl, rfl⟩ | ⟨hne, t, rfl, ht⟩
  · refine ⟨.lst (.own T.length 1) 1 [oA c], T ++ [1], fun S => ?_, .inr ⟨by simp, T.length, rfl, by simp⟩⟩
    simp [appendAV, maxGrow]
  · have hlt : t < T.length := (List.getElem?_eq_some_iff.1 ht).1
    refine ⟨.lst (.own t (X.length + 1)) 1 ((X ++ [c]).map oA), T.set t (X.length + 1), fun S => ?_, .inr ⟨by simp, t, by simp, by simp [hlt]⟩⟩
    simp [appendAV, hm, ht]
theorem outOk_ext {X : List (List Nat)} {a : AV} {T : List Nat} (h : outOk X a T) (m : Nat) : outOk X a (T ++ [m]) := by
  rcases h with h | ⟨hne, t, rfl, ht⟩
  · exact .inl h
  · refine .inr ⟨hne, t, rfl, ?_⟩
    rw [List.getElem?_append_left (List.getElem?_eq_some_iff.1 ht).1]; exact ht
theorem outOk_st {X : List (List Nat)} {a : AV} {T : List Nat} (h : outOk X a T) : a.shaped = true ∧ a.cells = [a] ∧ storable a = true := by
  rcases h with ⟨_, rfl⟩ | ⟨_, t, rfl, _⟩ <;> exact ⟨rfl, rfl, rfl⟩
def putV : AV := .fn (.func 85) [] [.ptr 1 0, .ptr 2 0, .ptr 0 0, .ptr 3 0]
/-- The words that a circle goes on with. -/
def goOn (v : Nat) (c : List Nat) (R : Nat → List (List Nat)) (y : Nat) : List (List Nat) := if v.testBit y = true ∧ y ∉ c then R y else []
theorem has_c57 (g : Tag) (c : List Nat) (hc : c.length ≤ 7) (x : Nat) (st : St) : run L 57 [.lst g 1 (c.map J), J x] st = some (B (decide (x ∈ c)), st) := by
  have := c57 false (up c) (by rw [up_len]; omega) (x : Int) st
  rw [up_J, ← sl_false] at this
  have e : decide (((x : Nat) : Int) ∈ up c) = decide (x ∈ c) := by
    rw [decide_eq_decide]
    unfold up
    rw [List.mem_map]
    constructor
    · rintro ⟨y, hy, e⟩
      obtain rfl : y = x := by omega
      exact hy
    · intro h; exact ⟨x, h, rfl⟩
  rw [e] at this
  rw [← this]
  exact run_args (fn := ir57) rfl rfl st rfl

set_option maxHeartbeats 1000000 in
theorem loop85_0 (nl : Bool) (n : Nat) (hn : n ≤ 7) (ps : List (Int × Int)) (w : List Nat) (c : List Nat) (hc1 : 1 ≤ c.length) (hc : c.length ≤ 7) (g : Tag) (v : Nat) (hv : v < 128) (R : Nat → List (List Nat)) (hR : ∀ x, (R x).length ≤ 6000000) (hrec : ∀ x, x < n → c.getD 0 0 < x → v.testBit x = true → x ∉ c → ∀ X a T g', outOk X a T → X.length + (R x).length < 100000000 → ∃ a' T', outOk (X ++ R x) a' T' ∧ run L 85 [.lst g' 1 ((c ++ [x]).map J), .ptr 1 0, .ptr 2 0, .ptr 0 0, .ptr 3 0] ⟨[bkCells nl (n : Int) ps, w.map J, [a], [putV]], T⟩ = some (.tup [], ⟨[bkCells nl (n : Int) ps, w.map J, [a'], [putV]], T'⟩)) (lo hi : Nat) (x : Nat) (X : List (List Nat)) (a : AV) (T : List Nat) (hok : c.getD 0 0 < x ∧ outOk X a T ∧ X.length + ((List.range' x (n - x)).flatMap (goOn v c R)).length < 100000000) (env : Env) (st : St)
    (hg : gcAV false lo hi (canon env [0, 3, 4, 6, 7]) st = ([(0, .lst g 1 (c.map J)), (3, .ptr 0 0), (4, .ptr 3 0), (6, J v), (7, I x)], ⟨[bkCells nl (n : Int) ps, w.map J, [a], [putV]], T⟩)) :
    ∃ x_1 en s, lim (headed pure (run L) false [0, 3, 4, 6, 7] lp85_0 lo hi) env st = some (x_1, en, s) ∧ (x_1 = .exit 0 ∧ ∃ a' T', outOk (X ++ (List.range' x (n - x)).flatMap (goOn v c R)) a' T' ∧ s = ⟨[bkCells nl (n : Int) ps, w.map J, [a'], [putV]], T'⟩) := by
  refine loop_wp (α := Nat × List (List Nat) × AV × List Nat) (fun ⟨x, X, a, T⟩ => n - x) (fun ⟨x, X, a, T⟩ => c.getD 0 0 < x ∧ outOk X a T ∧ X.length + ((List.range' x (n - x)).flatMap (goOn v c R)).length < 100000000) (fun ⟨x, X, a, T⟩ => ([(0, .lst g 1 (c.map J)), (3, .ptr 0 0), (4, .ptr 3 0), (6, J v), (7, I x)], ⟨[bkCells nl (n : Int) ps, w.map J, [a], [putV]], T⟩)) (fun ⟨x, X, a, T⟩ x_1 en s => x_1 = .exit 0 ∧ ∃ a' T', outOk (X ++ (List.range' x (n - x)).flatMap (goOn v c R)) a' T' ∧ s = ⟨[bkCells nl (n : Int) ps, w.map J, [a'], [putV]], T'⟩) (fun ⟨x, X, a, T⟩ hok => ?_) ⟨x, X, a, T⟩ hok env st hg
  simp only at hok
  obtain ⟨h0, h1, h2⟩ := hok
  dsimp only at h0 h1 h2 ⊢
  have hb0 : (bkCells nl (n : Int) ps)[0]? = some (I (n : Int)) := rfl
  have hbl : (bkCells nl (n : Int) ps).length = 2 := rfl
  by_cases h : x < n
  · have hs := succ64 x (by omega)
    have hlt : ((x : Int) < (n : Int)) = True := eq_true (by omega)
    have hr : List.range' x (n - x) = x :: List.range' (x + 1) (n - (x + 1)) := by
      rw [show n - x = (n - (x + 1)) + 1 by omega, List.range'_succ]
    rw [hr, List.flatMap_cons] at h2 ⊢
    rw [List.length_append] at h2
    rw [← List.append_assoc]
    have q1 := shr_i v x (by omega)
    have q2 := and_one_i (v >>> x) (by have := Nat.shiftRight_le v x; omega)
    have hb := bit_one v x
    have h57 := fun st => has_c57 g c hc x st
    have hgo : goOn v c R x = if v.testBit x = true ∧ x ∉ c then R x else [] := rfl
    by_cases p1 : v.testBit x = true
    · by_cases p2 : x ∈ c
      · rw [hgo, if_neg (fun hh => hh.2 p2)] at h2 ⊢
        rw [List.append_nil]
        simp only [go_sem, reduceIte, Nat.reduceEqDiff, Nat.reduceAdd, Nat.reduceSub, Nat.reduceLeDiff, Nat.reduceLT, reduceCtorEq, Int.reduceLT, Int.reduceLE, Int.reduceEq, Int.reduceBEq, Int.reduceSub, Int.reduceAdd, Int.reduceMul, Int.reduceNeg, Int.reduceToNat, Nat.reduceMul, Nat.reduceBEq, index_rsl_if, setm, make_ints, condK_dec, wantK_dec, not_dec, and_dec, or_dec, seqK_ite, seqK_none, blockK_ite, blockK_none, opsK_ite, opsK_none, stepK_ite, stepK_none, bodyK_ite, bodyK_none, resK_ite, resK_none, leaveK_ite, leaveK_none, only_ite, only_none, bind_ite, gives_some, gives_none, gives_ite, then_normal, then_ret, then_exit, then_none, then_ite, Option.bind_none, Bool.not_eq_true', decide_eq_false_iff_not, Bool.and_eq_true, Bool.or_eq_true, Option.some.injEq, Int.not_lt, Int.not_le, lp85_0, hb0, hbl, hlt, hs, q1, q2, hb, p1, p2, h57]
        refine ⟨(x + 1, X, a, T), by simp only [go_sem, reduceIte, Nat.reduceEqDiff, Nat.reduceAdd, Nat.reduceSub, Nat.reduceLeDiff, Nat.reduceLT, reduceCtorEq, Int.reduceLT, Int.reduceLE, Int.reduceEq, Int.reduceBEq, Int.reduceSub, Int.reduceAdd, Int.reduceMul, Int.reduceNeg, Int.reduceToNat, Nat.reduceMul, Nat.reduceBEq, ren1_locm, loc_tips, locT_eq] <;> rfl, ?_, ?_, fun x en s hq => ?_⟩
        · dsimp only; exact ⟨by omega, h1, by rw [List.length_nil] at h2; omega⟩
        · dsimp only; omega
        · exact hq
      · rw [hgo, if_pos ⟨p1, p2⟩] at h2 ⊢
        have hsl : sliceAV 1 (.lst g 1 (c.map J)) none (some (I (c.length : Int))) (some (I (c.length : Int))) = some (.lst .full 1 (c.map J)) := by
          simp [sliceAV, natOr, natOf, List.take_of_length_le]
        obtain ⟨g', T1, happ, htag⟩ := append_tag (g := .full) (c := c) (T := T) (.inl rfl) hc x
        have h1' : outOk X a T1 := by
          have e : T1 = T ++ [c.length + 1] := by
            have := happ []
            simp [appendAV, show c.length + 1 ≤ maxGrow by unfold maxGrow; omega] at this
            exact this.2.symm
          rw [e]; exact outOk_ext h1 _
        obtain ⟨a', T', ho, hcall⟩ := hrec x h h0 p1 p2 X a T1 g' h1' (by omega)
        simp only [List.map_append, List.map_cons, List.map_nil] at hcall happ
        have hpv : putV = .fn (.func 85) [] [.ptr 1 0, .ptr 2 0, .ptr 0 0, .ptr 3 0] := rfl
        simp only [hpv] at hcall
        simp only [go_sem, reduceIte, Nat.reduceEqDiff, Nat.reduceAdd, Nat.reduceSub, Nat.reduceLeDiff, Nat.reduceLT, reduceCtorEq, Int.reduceLT, Int.reduceLE, Int.reduceEq, Int.reduceBEq, Int.reduceSub, Int.reduceAdd, Int.reduceMul, Int.reduceNeg, Int.reduceToNat, Nat.reduceMul, Nat.reduceBEq, index_rsl_if, setm, make_ints, condK_dec, wantK_dec, not_dec, and_dec, or_dec, seqK_ite, seqK_none, blockK_ite, blockK_none, opsK_ite, opsK_none, stepK_ite, stepK_none, bodyK_ite, bodyK_none, resK_ite, resK_none, leaveK_ite, leaveK_none, only_ite, only_none, bind_ite, gives_some, gives_none, gives_ite, then_normal, then_ret, then_exit, then_none, then_ite, Option.bind_none, Bool.not_eq_true', decide_eq_false_iff_not, Bool.and_eq_true, Bool.or_eq_true, Option.some.injEq, Int.not_lt, Int.not_le, lp85_0, hb0, hbl, hlt, hs, q1, q2, hb, p1, p2, h57, hsl, happ, hcall, hpv, show pure 85 = false from rfl, List.length_map]
        refine ⟨(x + 1, X ++ R x, a', T'), by simp only [go_sem, reduceIte, Nat.reduceEqDiff, Nat.reduceAdd, Nat.reduceSub, Nat.reduceLeDiff, Nat.reduceLT, reduceCtorEq, Int.reduceLT, Int.reduceLE, Int.reduceEq, Int.reduceBEq, Int.reduceSub, Int.reduceAdd, Int.reduceMul, Int.reduceNeg, Int.reduceToNat, Nat.reduceMul, Nat.reduceBEq, ren1_locm, loc_tips, locT_eq] <;> rfl, ?_, ?_, fun x en s hq => ?_⟩
        · dsimp only; exact ⟨by omega, ho, by rw [List.length_append]; omega⟩
        · dsimp only; omega
        · exact hq
    · rw [hgo, if_neg (fun hh => p1 hh.1)] at h2 ⊢
      rw [List.append_nil]
      simp only [go_sem, reduceIte, Nat.reduceEqDiff, Nat.reduceAdd, Nat.reduceSub, Nat.reduceLeDiff, Nat.reduceLT, reduceCtorEq, Int.reduceLT, Int.reduceLE, Int.reduceEq, Int.reduceBEq, Int.reduceSub, Int.reduceAdd, Int.reduceMul, Int.reduceNeg, Int.reduceToNat, Nat.reduceMul, Nat.reduceBEq, index_rsl_if, setm, make_ints, condK_dec, wantK_dec, not_dec, and_dec, or_dec, seqK_ite, seqK_none, blockK_ite, blockK_none, opsK_ite, opsK_none, stepK_ite, stepK_none, bodyK_ite, bodyK_none, resK_ite, resK_none, leaveK_ite, leaveK_none, only_ite, only_none, bind_ite, gives_some, gives_none, gives_ite, then_normal, then_ret, then_exit, then_none, then_ite, Option.bind_none, Bool.not_eq_true', decide_eq_false_iff_not, Bool.and_eq_true, Bool.or_eq_true, Option.some.injEq, Int.not_lt, Int.not_le, lp85_0, hb0, hbl, hlt, hs, q1, q2, hb, p1]
      refine ⟨(x + 1, X, a, T), by simp only [go_sem, reduceIte, Nat.reduceEqDiff, Nat.reduceAdd, Nat.reduceSub, Nat.reduceLeDiff, Nat.reduceLT, reduceCtorEq, Int.reduceLT, Int.reduceLE, Int.reduceEq, Int.reduceBEq, Int.reduceSub, Int.reduceAdd, Int.reduceMul, Int.reduceNeg, Int.reduceToNat, Nat.reduceMul, Nat.reduceBEq, ren1_locm, loc_tips, locT_eq] <;> rfl, ?_, ?_, fun x en s hq => ?_⟩
      · dsimp only; exact ⟨by omega, h1, by rw [List.length_nil] at h2; omega⟩
      · dsimp only; omega
      · exact hq
  · have hr : n - x = 0 := by omega
    have hlt : ((x : Int) < (n : Int)) = False := eq_false (by omega)
    rw [hr]
    simp only [go_sem, reduceIte, Nat.reduceEqDiff, Nat.reduceAdd, Nat.reduceSub, Nat.reduceLeDiff, Nat.reduceLT, reduceCtorEq, Int.reduceLT, Int.reduceLE, Int.reduceEq, Int.reduceBEq, Int.reduceSub, Int.reduceAdd, Int.reduceMul, Int.reduceNeg, Int.reduceToNat, Nat.reduceMul, Nat.reduceBEq, index_rsl_if, setm, make_ints, condK_dec, wantK_dec, not_dec, and_dec, or_dec, seqK_ite, seqK_none, blockK_ite, blockK_none, opsK_ite, opsK_none, stepK_ite, stepK_none, bodyK_ite, bodyK_none, resK_ite, resK_none, leaveK_ite, leaveK_none, only_ite, only_none, bind_ite, gives_some, gives_none, gives_ite, then_normal, then_ret, then_exit, then_none, then_ite, Option.bind_none, Bool.not_eq_true', decide_eq_false_iff_not, Bool.and_eq_true, Bool.or_eq_true, Option.some.injEq, Int.not_lt, Int.not_le, lp85_0, hb0, hbl, hlt]
    exact ⟨a, T, by simpa using h1, rfl⟩

attribute [local go_sem] shaped_t cells_t isAgg_t storable_t okRef_t pub_t

theorem rg_len (w : List Nat) : ∀ (k : Nat) (c : List Nat) (free : Nat), (rg w k c free).length ≤ 8 ^ k
  | 0, c, _ => by unfold rg hdR; split <;> simp
  | k + 1, c, free => by
    have h1 : (hdR w c).length ≤ 1 := by unfold hdR; split <;> simp
    have hsum : ∀ l : List Nat, (l.flatMap fun x => rg w k (c ++ [x]) (dfN free (2 ^ x))).length ≤ l.length * 8 ^ k := by
      intro l
      induction l with
      | nil => simp
      | cons x r ih =>
        have := rg_len w k (c ++ [x]) (dfN free (2 ^ x))
        rw [List.flatMap_cons, List.length_append, List.length_cons, Nat.add_mul]
        omega
    have h2 := hsum (bitsL (w.getD (lastW c) 0 &&& free))
    have h3 := bits_len (w.getD (lastW c) 0 &&& free)
    have h4 : (bitsL (w.getD (lastW c) 0 &&& free)).length * 8 ^ k ≤ 7 * 8 ^ k := Nat.mul_le_mul_right _ h3
    have h5 : 1 ≤ 8 ^ k := Nat.one_le_pow _ _ (by omega)
    show (hdR w c ++ _).length ≤ _
    rw [List.length_append, Nat.pow_succ]
    omega
theorem filter_nil_of {α : Type} {p : α → Bool} {l : List α} (h : ∀ x ∈ l, p x = false) : l.filter p = [] := by
  rw [List.filter_eq_nil_iff]
  intro x hx
  rw [h x hx]; simp
/-- The bits of a set between two numbers. -/
theorem bits_range {m a n : Nat} (hn : n ≤ 7) (ha : a ≤ n) (h : ∀ y, m.testBit y = true → a ≤ y ∧ y < n) : bitsL m = (List.range' a (n - a)).filter m.testBit := by
  unfold bitsL
  have e : List.range 7 = List.range' 0 a ++ (List.range' a (n - a) ++ List.range' n (7 - n)) := by
    rw [List.range_eq_range']
    have e1 := List.range'_append (s := a) (m := n - a) (n := 7 - n) (step := 1)
    have e2 := List.range'_append (s := 0) (m := a) (n := n - a + (7 - n)) (step := 1)
    simp only [Nat.one_mul, Nat.zero_add] at e1 e2
    rw [show a + (n - a) = n by omega] at e1
    rw [e1, e2]
    congr 1
    omega
  rw [e, List.filter_append, List.filter_append, filter_nil_of (l := List.range' 0 a), filter_nil_of (l := List.range' n (7 - n)), List.append_nil, List.nil_append]
  · intro x hx
    rw [List.mem_range'_1] at hx
    cases hb : m.testBit x
    · rfl
    · have := h x hb; omega
  · intro x hx
    rw [List.mem_range'_1] at hx
    cases hb : m.testBit x
    · rfl
    · have := h x hb; omega
theorem flatMap_filter {α β : Type} (p : α → Bool) (f : α → List β) : ∀ l : List α, (l.filter p).flatMap f = l.flatMap fun x => if p x = true then f x else []
  | [] => rfl
  | x :: r => by
    rw [List.flatMap_cons, ← flatMap_filter p f r]
    cases h : p x
    · rw [List.filter_cons_of_neg (by simp [h])]; simp
    · rw [List.filter_cons_of_pos h, List.flatMap_cons]; simp
theorem flatMap_congr' {α β : Type} {f g : α → List β} : ∀ {l : List α}, (∀ x ∈ l, f x = g x) → l.flatMap f = l.flatMap g
  | [], _ => rfl
  | x :: r, h => by rw [List.flatMap_cons, List.flatMap_cons, h x (by simp), flatMap_congr' (fun y hy => h y (by simp [hy]))]
/-- The free words: those after the first one that do not lie on the circle. -/
def isFree (n : Nat) (c : List Nat) (free : Nat) : Prop := ∀ y, free.testBit y = true ↔ c.getD 0 0 < y ∧ y < n ∧ y ∉ c
theorem go_bits {n : Nat} (hn : n ≤ 7) {c : List Nat} {free : Nat} (hc : c.getD 0 0 < n) (hf : isFree n c free) (v : Nat) (R : Nat → List (List Nat)) :
    (List.range' (c.getD 0 0 + 1) (n - (c.getD 0 0 + 1))).flatMap (goOn v c R) = (bitsL (v &&& free)).flatMap R := by
  rw [bits_range hn (a := c.getD 0 0 + 1) (by omega) (fun y hy => by
    rw [Nat.testBit_and, Bool.and_eq_true] at hy
    have := (hf y).1 hy.2; omega), flatMap_filter]
  refine flatMap_congr' fun y hy => ?_
  rw [List.mem_range'_1] at hy
  unfold goOn
  have : (v &&& free).testBit y = true ↔ v.testBit y = true ∧ y ∉ c := by
    rw [Nat.testBit_and, Bool.and_eq_true, hf y]
    exact ⟨fun h => ⟨h.1, h.2.2.2⟩, fun h => ⟨h.1, by omega, by omega, h.2⟩⟩
  by_cases h : v.testBit y = true ∧ y ∉ c
  · rw [if_pos h, if_pos (this.2 h)]
  · rw [if_neg h, if_neg (fun h2 => h (this.1 h2))]
theorem free_snoc {n : Nat} {c : List Nat} {free x : Nat} (hf : isFree n c free) (hfl : free < 128) (hc : 1 ≤ c.length) (hx : free.testBit x = true) : isFree n (c ++ [x]) (dfN free (2 ^ x)) := by
  intro y
  have hx7 := bit_lt7 hfl hx
  have e : (c ++ [x]).getD 0 0 = c.getD 0 0 := by
    rw [List.getD_eq_getElem?_getD, List.getElem?_append_left (by omega), ← List.getD_eq_getElem?_getD]
  rw [dfN_bit (sh1_lt x hx7).2, Bool.and_eq_true, hf y, e, Bool.and_eq_true, decide_eq_true_iff, Bool.not_eq_true', Nat.testBit_two_pow, decide_eq_false_iff_not, List.mem_append, List.mem_singleton, not_or]
  constructor
  · rintro ⟨⟨h1, h2, h3⟩, h4, h5⟩; exact ⟨h1, h2, h3, fun h => h5 h.symm⟩
  · rintro ⟨h1, h2, h3, h4⟩
    exact ⟨⟨h1, h2, h3⟩, bit_lt7 hfl ((hf y).2 ⟨h1, h2, h3⟩), fun h => h4 h.symm⟩

set_option maxHeartbeats 1000000 in
theorem c85s (nl : Bool) (n : Nat) (hn : n ≤ 7) (ps : List (Int × Int)) (w : List Nat) (ho : w.length = 8) (hsm : ∀ x ∈ w, x < 128) (c : List Nat) (hc1 : 1 ≤ c.length) (hc : c.length ≤ 7) (hc7 : ∀ x ∈ c, x < n) (free : Nat) (hf : isFree n c free) (hfl : free < 128)
    (R : Nat → List (List Nat)) (hR : ∀ x, (R x).length ≤ 6000000)
    (hrec : ∀ x, free.testBit x = true → ∀ X a T g', outOk X a T → X.length + (R x).length < 100000000 → ∃ a' T', outOk (X ++ R x) a' T' ∧ run L 85 [.lst g' 1 ((c ++ [x]).map J), .ptr 1 0, .ptr 2 0, .ptr 0 0, .ptr 3 0] ⟨[bkCells nl (n : Int) ps, w.map J, [a], [putV]], T⟩ = some (.tup [], ⟨[bkCells nl (n : Int) ps, w.map J, [a'], [putV]], T'⟩))
    (X : List (List Nat)) (a : AV) (T : List Nat) (g : Tag) (ha : outOk X a T) (hl : X.length + (hdR w c ++ (bitsL (w.getD (lastW c) 0 &&& free)).flatMap R).length < 100000000) :
    ∃ a' T', outOk (X ++ (hdR w c ++ (bitsL (w.getD (lastW c) 0 &&& free)).flatMap R)) a' T' ∧ run L 85 [.lst g 1 (c.map J), .ptr 1 0, .ptr 2 0, .ptr 0 0, .ptr 3 0] ⟨[bkCells nl (n : Int) ps, w.map J, [a], [putV]], T⟩ = some (.tup [], ⟨[bkCells nl (n : Int) ps, w.map J, [a'], [putV]], T'⟩) := by
  rw [run_shared (fn := ir85) rfl rfl]
  have hl1 : IntKind.i64.wrap ((c.length : Int) - 1) = ((c.length - 1 : Nat) : Int) := by rw [wrap64] <;> omega
  have hx1 := index_lstJ g c (c.length - 1) (by omega)
  have hx0 := index_lstJ g c 0 (by omega)
  simp only [Int.natCast_zero] at hx0
  have hlw : c.getD (c.length - 1) 0 = lastW c := rfl
  have hl7 := getD_lt (c := c) (fun x hx => by have := hc7 x hx; omega) (c.length - 1) (by omega)
  have h07 : c.getD 0 0 < n := by
    rw [List.getD_eq_getElem?_getD, List.getElem?_eq_getElem (by omega)]
    exact hc7 _ (List.getElem_mem (by omega))
  rw [hlw] at hx1 hl7
  have b1 : ((0 : Int) ≤ (lastW c : Int)) = True := eq_true (by omega)
  have b2 : ((lastW c : Int) < 8) = True := eq_true (by omega)
  have b5 : (lastW c + 1 ≤ 8) = True := eq_true (by omega)
  have gw := getJ w (lastW c) (by omega)
  have hs0 := succ64 (c.getD 0 0) (by omega)
  have hv := small_getD hsm (lastW c)
  have q1 := shr_i (w.getD (lastW c) 0) (c.getD 0 0) (by omega)
  have q2 := and_one_i (w.getD (lastW c) 0 >>> c.getD 0 0) (by have := Nat.shiftRight_le (w.getD (lastW c) 0) (c.getD 0 0); omega)
  have hbit := bit_one (w.getD (lastW c) 0) (c.getD 0 0)
  have hdr : hdR w c = if 1 < c.length ∧ (w.getD (lastW c) 0).testBit (c.getD 0 0) = true then [c] else [] := rfl
  have hgb := go_bits hn h07 hf (w.getD (lastW c) 0) R
  have hrec' : ∀ x, x < n → c.getD 0 0 < x → (w.getD (lastW c) 0).testBit x = true → x ∉ c → ∀ X a T g', outOk X a T → X.length + (R x).length < 100000000 → ∃ a' T', outOk (X ++ R x) a' T' ∧ run L 85 [.lst g' 1 ((c ++ [x]).map J), .ptr 1 0, .ptr 2 0, .ptr 0 0, .ptr 3 0] ⟨[bkCells nl (n : Int) ps, w.map J, [a], [putV]], T⟩ = some (.tup [], ⟨[bkCells nl (n : Int) ps, w.map J, [a'], [putV]], T'⟩) :=
    fun x h1 h2 _ h4 => hrec x ((hf x).2 ⟨h2, h1, h4⟩)
  generalize w.getD (lastW c) 0 = v at *
  rw [List.length_append] at hl
  rw [← hgb] at hl ⊢
  by_cases p1 : 1 < c.length
  · have qq : ((1 : Int) < (c.length : Int)) = True := eq_true (by omega)
    by_cases p2 : v.testBit (c.getD 0 0) = true
    · rw [if_pos ⟨p1, p2⟩] at hdr
      rw [hdr] at hl ⊢
      rw [List.length_singleton] at hl
      obtain ⟨a1, T1, happ, hok1⟩ := outOk_app ha (by omega) c
      have ho : oA c = .lst .any 1 (c.map J) := rfl
      obtain ⟨z1, z2, z3⟩ := outOk_st hok1
      simp only [ho] at happ
      simp only [ir85, go_sem, reduceIte, Nat.reduceEqDiff, Nat.reduceAdd, Nat.reduceSub, Nat.reduceLeDiff, Nat.reduceLT, reduceCtorEq, Int.reduceLT, Int.reduceLE, Int.reduceEq, Int.reduceBEq, Int.reduceSub, Int.reduceAdd, Int.reduceMul, Int.reduceNeg, Int.reduceToNat, Nat.reduceMul, Nat.reduceBEq, hl1, hx1, hx0, b1, b2, b5, gw, q1, q2, hbit, p2, qq, hs0, happ, z1, z2, z3, ho, List.length_map]
      generalize hg : lim (headed pure (run L) false _ lp85_0 _ _) _ _ = o
      obtain ⟨x, en, s, rfl, h2⟩ : ∃ x en s, o = some (x, en, s) ∧ _ := by rw [← hg]; exact loop85_0 nl n hn ps w c hc1 hc g v hv R hR hrec' _ _ (c.getD 0 0 + 1) (X ++ [c]) a1 T1 ⟨by omega, hok1, by rw [List.length_append, List.length_singleton]; omega⟩ _ _ (by simp only [go_sem, reduceIte, Nat.reduceEqDiff, Nat.reduceAdd, Nat.reduceSub, Nat.reduceLeDiff, Nat.reduceLT, reduceCtorEq, Int.reduceLT, Int.reduceLE, Int.reduceEq, Int.reduceBEq, Int.reduceSub, Int.reduceAdd, Int.reduceMul, Int.reduceNeg, Int.reduceToNat, Nat.reduceMul, Nat.reduceBEq] <;> rfl)
      clear hg
      obtain ⟨rfl, a', T', hok', rfl⟩ := h2
      refine ⟨a', T', by simpa using hok', ?_⟩
      simp only [go_sem, reduceIte, Nat.reduceEqDiff, Nat.reduceAdd, Nat.reduceSub, Nat.reduceLeDiff, Nat.reduceLT, reduceCtorEq, Int.reduceLT, Int.reduceLE, Int.reduceEq, Int.reduceBEq, Int.reduceSub, Int.reduceAdd, Int.reduceMul, Int.reduceNeg, Int.reduceToNat, Nat.reduceMul, Nat.reduceBEq]
    · have p2' : (v.testBit (c.getD 0 0) = true) = False := eq_false p2
      rw [if_neg (fun h => p2 h.2)] at hdr
      rw [hdr] at hl ⊢
      rw [List.length_nil] at hl
      simp only [ir85, go_sem, reduceIte, Nat.reduceEqDiff, Nat.reduceAdd, Nat.reduceSub, Nat.reduceLeDiff, Nat.reduceLT, reduceCtorEq, Int.reduceLT, Int.reduceLE, Int.reduceEq, Int.reduceBEq, Int.reduceSub, Int.reduceAdd, Int.reduceMul, Int.reduceNeg, Int.reduceToNat, Nat.reduceMul, Nat.reduceBEq, hl1, hx1, hx0, b1, b2, b5, gw, q1, q2, hbit, p2', qq, hs0, List.length_map]
      generalize hg : lim (headed pure (run L) false _ lp85_0 _ _) _ _ = o
      obtain ⟨x, en, s, rfl, h2⟩ : ∃ x en s, o = some (x, en, s) ∧ _ := by rw [← hg]; exact loop85_0 nl n hn ps w c hc1 hc g v hv R hR hrec' _ _ (c.getD 0 0 + 1) X a T ⟨by omega, ha, by omega⟩ _ _ (by simp only [go_sem, reduceIte, Nat.reduceEqDiff, Nat.reduceAdd, Nat.reduceSub, Nat.reduceLeDiff, Nat.reduceLT, reduceCtorEq, Int.reduceLT, Int.reduceLE, Int.reduceEq, Int.reduceBEq, Int.reduceSub, Int.reduceAdd, Int.reduceMul, Int.reduceNeg, Int.reduceToNat, Nat.reduceMul, Nat.reduceBEq] <;> rfl)
      clear hg
      obtain ⟨rfl, a', T', hok', rfl⟩ := h2
      refine ⟨a', T', by simpa using hok', ?_⟩
      simp only [go_sem, reduceIte, Nat.reduceEqDiff, Nat.reduceAdd, Nat.reduceSub, Nat.reduceLeDiff, Nat.reduceLT, reduceCtorEq, Int.reduceLT, Int.reduceLE, Int.reduceEq, Int.reduceBEq, Int.reduceSub, Int.reduceAdd, Int.reduceMul, Int.reduceNeg, Int.reduceToNat, Nat.reduceMul, Nat.reduceBEq]
  · have qq : ((1 : Int) < (c.length : Int)) = False := eq_false (by omega)
    rw [if_neg (fun h => p1 h.1)] at hdr
    rw [hdr] at hl ⊢
    rw [List.length_nil] at hl
    simp only [ir85, go_sem, reduceIte, Nat.reduceEqDiff, Nat.reduceAdd, Nat.reduceSub, Nat.reduceLeDiff, Nat.reduceLT, reduceCtorEq, Int.reduceLT, Int.reduceLE, Int.reduceEq, Int.reduceBEq, Int.reduceSub, Int.reduceAdd, Int.reduceMul, Int.reduceNeg, Int.reduceToNat, Nat.reduceMul, Nat.reduceBEq, hl1, hx1, hx0, b1, b2, b5, gw, qq, hs0, List.length_map]
    generalize hg : lim (headed pure (run L) false _ lp85_0 _ _) _ _ = o
    obtain ⟨x, en, s, rfl, h2⟩ : ∃ x en s, o = some (x, en, s) ∧ _ := by rw [← hg]; exact loop85_0 nl n hn ps w c hc1 hc g v hv R hR hrec' _ _ (c.getD 0 0 + 1) X a T ⟨by omega, ha, by omega⟩ _ _ (by simp only [go_sem, reduceIte, Nat.reduceEqDiff, Nat.reduceAdd, Nat.reduceSub, Nat.reduceLeDiff, Nat.reduceLT, reduceCtorEq, Int.reduceLT, Int.reduceLE, Int.reduceEq, Int.reduceBEq, Int.reduceSub, Int.reduceAdd, Int.reduceMul, Int.reduceNeg, Int.reduceToNat, Nat.reduceMul, Nat.reduceBEq] <;> rfl)
    clear hg
    obtain ⟨rfl, a', T', hok', rfl⟩ := h2
    refine ⟨a', T', by simpa using hok', ?_⟩
    simp only [go_sem, reduceIte, Nat.reduceEqDiff, Nat.reduceAdd, Nat.reduceSub, Nat.reduceLeDiff, Nat.reduceLT, reduceCtorEq, Int.reduceLT, Int.reduceLE, Int.reduceEq, Int.reduceBEq, Int.reduceSub, Int.reduceAdd, Int.reduceMul, Int.reduceNeg, Int.reduceToNat, Nat.reduceMul, Nat.reduceBEq]
theorem c85 (nl : Bool) (n : Nat) (hn : n ≤ 7) (ps : List (Int × Int)) (w : List Nat) (ho : w.length = 8) (hsm : ∀ x ∈ w, x < 128) :
    ∀ (k : Nat) (c : List Nat) (free : Nat), k ≤ 7 → (bitsL free).length ≤ k → free < 128 → isFree n c free → 1 ≤ c.length → c.length + (bitsL free).length ≤ 7 → (∀ x ∈ c, x < n) →
      ∀ X a T g, outOk X a T → X.length + (rg w k c free).length < 100000000 → ∃ a' T', outOk (X ++ rg w k c free) a' T' ∧ run L 85 [.lst g 1 (c.map J), .ptr 1 0, .ptr 2 0, .ptr 0 0, .ptr 3 0] ⟨[bkCells nl (n : Int) ps, w.map J, [a], [putV]], T⟩ = some (.tup [], ⟨[bkCells nl (n : Int) ps, w.map J, [a'], [putV]], T'⟩) := by
  intro k
  induction k with
  | zero =>
    intro c free _ hk hfl hf h1 h7 hc X a T g ha hl
    have h0 := bits_nil hfl (by omega)
    subst h0
    have e : rg w 0 c 0 = hdR w c ++ (bitsL (w.getD (lastW c) 0 &&& 0)).flatMap fun _ => [] := by
      rw [Nat.and_zero, bits_zero, List.flatMap_nil, List.append_nil]; rfl
    rw [e] at hl ⊢
    exact c85s nl n hn ps w ho hsm c h1 (by omega) hc 0 hf hfl (fun _ => []) (fun _ => by simp) (fun x hx => by simp at hx) X a T g ha hl
  | succ k ih =>
    intro c free hk7 hk hfl hf h1 h7 hc X a T g ha hl
    refine c85s nl n hn ps w ho hsm c h1 (by omega) hc free hf hfl (fun x => rg w k (c ++ [x]) (dfN free (2 ^ x))) (fun x => ?_) (fun x hx X a T g' ha' hl' => ?_) X a T g ha hl
    · have h2 := rg_len w k (c ++ [x]) (dfN free (2 ^ x))
      have h3 : 8 ^ k ≤ 8 ^ 6 := Nat.pow_le_pow_right (by omega) (by omega)
      have h4 : 8 ^ 6 = 262144 := rfl
      omega
    · have hcard := df_card hfl hx
      have hx7 := bit_lt7 hfl hx
      have hxf := (hf x).1 hx
      exact ih (c ++ [x]) (dfN free (2 ^ x)) (by omega) (by omega) (dfN_lt hfl) (free_snoc hf hfl h1 hx) (by simp) (by simp; omega) (fun y hy => by
        rcases List.mem_append.1 hy with hy | hy
        · exact hc y hy
        · simp at hy; omega) X a T g' ha' hl'
theorem fr_free {n x : Nat} (hn : n ≤ 7) (hx : x < n) : isFree n [x] (frN n x) := by
  intro y
  rw [frN_bit hn hx, Bool.and_eq_true, decide_eq_true_iff, decide_eq_true_iff]
  show _ ↔ x < y ∧ y < n ∧ y ∉ [x]
  rw [List.mem_singleton]
  omega
/-- What is laid at the loop's head. -/
def ooA (X : List (List Nat)) : AV := loc 1 0 (X.map oA)
def ooT (X : List (List Nat)) : List Nat := locT 0 (X.map oA)
theorem ooA_ok (X : List (List Nat)) : outOk X (ooA X) (ooT X) := by
  by_cases h : X = []
  · subst h; exact .inl ⟨rfl, rfl⟩
  · have hl : (X.map oA).length ≠ 0 := by simpa using h
    right
    refine ⟨h, 0, ?_, ?_⟩
    · unfold ooA loc; rw [if_neg hl, List.length_map]
    · unfold ooT locT; rw [if_neg hl, List.length_map]; rfl
theorem outOk_ren {X : List (List Nat)} {a : AV} {T : List Nat} (h : outOk X a T) : ∃ q, ren1 0 T [] a = (ooA X, q) ∧ q.map (fun x => x.2) = ooT X := by
  rcases h with ⟨rfl, rfl⟩ | ⟨hne, t, rfl, ht⟩
  · exact ⟨[], rfl, rfl⟩
  · have hl : (X.map oA).length ≠ 0 := by simpa using hne
    refine ⟨[(t, X.length)], ?_, ?_⟩
    · rw [ren1_lown, if_neg (by omega), if_pos ⟨ht, rfl⟩]
      unfold ooA loc
      rw [if_neg hl]
      simp
    · unfold ooT locT
      rw [if_neg hl]; simp
theorem circ_len (n : Nat) (hn : n ≤ 7) (w : List Nat) : (circL n w).length ≤ 14680064 := by
  have : ∀ l : List Nat, (l.flatMap fun x => rg w 7 [x] (frN n x)).length ≤ l.length * 2097152 := by
    intro l
    induction l with
    | nil => simp
    | cons x r ih =>
      have h1 := rg_len w 7 [x] (frN n x)
      have h2 : 8 ^ 7 = 2097152 := rfl
      rw [List.flatMap_cons, List.length_append, List.length_cons, Nat.add_mul]
      omega
  have h := this (List.range' 0 n)
  rw [List.length_range'] at h
  unfold circL
  have : n * 2097152 ≤ 7 * 2097152 := Nat.mul_le_mul_right _ hn
  omega

theorem loop47_0 (nl : Bool) (n : Nat) (hn : n ≤ 7) (ps : List (Int × Int)) (w : List Nat) (ho : w.length = 8) (hsm : ∀ x ∈ w, x < 128) (x : Nat) (X : List (List Nat)) (hok : x ≤ n ∧ X.length + ((List.range' x (n - x)).flatMap fun x => rg w 7 [x] (frN n x)).length < 100000000) (env : Env) (st : St)
    (hg : gcAV true 4 0 (canon env [4, 5, 11, 12]) st = ([(4, .ptr 2 0), (5, .ptr 3 0), (11, I n), (12, I x)], ⟨[bkCells nl (n : Int) ps, w.map J, [ooA X], [putV]], ooT X⟩)) :
    ∃ x_1 en s, lim (headed pure (run L) true [4, 5, 11, 12] lp47_0 4 0) env st = some (x_1, en, s) ∧ (x_1 = .exit 0 ∧ en.get 4 = .ptr 2 0 ∧ ∃ a' T', outOk (X ++ (List.range' x (n - x)).flatMap fun x => rg w 7 [x] (frN n x)) a' T' ∧ s = ⟨[bkCells nl (n : Int) ps, w.map J, [a'], [putV]], T'⟩) := by
  refine loop_wp (α := Nat × List (List Nat)) (fun ⟨x, X⟩ => n - x) (fun ⟨x, X⟩ => x ≤ n ∧ X.length + ((List.range' x (n - x)).flatMap fun x => rg w 7 [x] (frN n x)).length < 100000000) (fun ⟨x, X⟩ => ([(4, .ptr 2 0), (5, .ptr 3 0), (11, I n), (12, I x)], ⟨[bkCells nl (n : Int) ps, w.map J, [ooA X], [putV]], ooT X⟩)) (fun ⟨x, X⟩ x_1 en s => x_1 = .exit 0 ∧ en.get 4 = .ptr 2 0 ∧ ∃ a' T', outOk (X ++ (List.range' x (n - x)).flatMap fun x => rg w 7 [x] (frN n x)) a' T' ∧ s = ⟨[bkCells nl (n : Int) ps, w.map J, [a'], [putV]], T'⟩) (fun ⟨x, X⟩ hok => ?_) ⟨x, X⟩ hok env st hg
  simp only at hok
  obtain ⟨h1, h2⟩ := hok
  dsimp only at h1 h2 ⊢
  by_cases h : x < n
  · have hs := succ64 x (by omega)
    have hlt : ((x : Int) < (n : Int)) = True := eq_true (by omega)
    have hr : List.range' x (n - x) = x :: List.range' (x + 1) (n - (x + 1)) := by
      rw [show n - x = (n - (x + 1)) + 1 by omega, List.range'_succ]
    rw [hr, List.flatMap_cons] at h2 ⊢
    rw [List.length_append] at h2
    rw [← List.append_assoc]
    have hcard := frN_card hn h
    obtain ⟨a', T', hok', hcall⟩ := c85 nl n hn ps w ho hsm 7 [x] (frN n x) (by omega) (by omega) (frN_lt hn) (fr_free hn h) (by simp) (by simp; omega) (by simp; omega) X (ooA X) (ooT X) .any (ooA_ok X) (by omega)
    have hpv : putV = .fn (.func 85) [] [.ptr 1 0, .ptr 2 0, .ptr 0 0, .ptr 3 0] := rfl
    obtain ⟨q, hq1, hq2⟩ := outOk_ren hok'
    have h56 := c56 (.lst .any 1 [J x]) ⟨[], []⟩
    have hor : okRef 4 a' = true := by
      rcases hok' with ⟨_, rfl⟩ | ⟨_, t, rfl, _⟩ <;> rfl
    simp only [List.map_cons, List.map_nil, hpv] at hcall
    generalize rg w 7 [x] (frN n x) = Y at *
    simp only [go_sem, reduceIte, Nat.reduceEqDiff, Nat.reduceAdd, Nat.reduceSub, Nat.reduceLeDiff, Nat.reduceLT, reduceCtorEq, Int.reduceLT, Int.reduceLE, Int.reduceEq, Int.reduceBEq, Int.reduceSub, Int.reduceAdd, Int.reduceMul, Int.reduceNeg, Int.reduceToNat, Nat.reduceMul, Nat.reduceBEq, index_rsl_if, setm, make_ints, condK_dec, wantK_dec, not_dec, and_dec, or_dec, seqK_ite, seqK_none, blockK_ite, blockK_none, opsK_ite, opsK_none, stepK_ite, stepK_none, bodyK_ite, bodyK_none, resK_ite, resK_none, leaveK_ite, leaveK_none, only_ite, only_none, bind_ite, gives_some, gives_none, gives_ite, then_normal, then_ret, then_exit, then_none, then_ite, Option.bind_none, Bool.not_eq_true', decide_eq_false_iff_not, Bool.and_eq_true, Bool.or_eq_true, Option.some.injEq, Int.not_lt, Int.not_le, lp47_0, hlt, hs, hpv, h56, shV, shStore, List.append_nil, hcall, show pure 56 = false from rfl, show pure 85 = false from rfl]
    refine ⟨(x + 1, X ++ Y), by simp only [go_sem, reduceIte, Nat.reduceEqDiff, Nat.reduceAdd, Nat.reduceSub, Nat.reduceLeDiff, Nat.reduceLT, reduceCtorEq, Int.reduceLT, Int.reduceLE, Int.reduceEq, Int.reduceBEq, Int.reduceSub, Int.reduceAdd, Int.reduceMul, Int.reduceNeg, Int.reduceToNat, Nat.reduceMul, Nat.reduceBEq, ren1_locm, loc_tips, locT_eq, okRefsJ, renCellsJ, hq1, hq2, hor, hpv] <;> rfl, ?_, ?_, fun x en s hq => ?_⟩
    · dsimp only; exact ⟨by omega, by rw [List.length_append]; omega⟩
    · dsimp only; omega
    · exact hq
  · have hr : n - x = 0 := by omega
    have hlt : ((x : Int) < (n : Int)) = False := eq_false (by omega)
    rw [hr]
    simp only [go_sem, reduceIte, Nat.reduceEqDiff, Nat.reduceAdd, Nat.reduceSub, Nat.reduceLeDiff, Nat.reduceLT, reduceCtorEq, Int.reduceLT, Int.reduceLE, Int.reduceEq, Int.reduceBEq, Int.reduceSub, Int.reduceAdd, Int.reduceMul, Int.reduceNeg, Int.reduceToNat, Nat.reduceMul, Nat.reduceBEq, index_rsl_if, setm, make_ints, condK_dec, wantK_dec, not_dec, and_dec, or_dec, seqK_ite, seqK_none, blockK_ite, blockK_none, opsK_ite, opsK_none, stepK_ite, stepK_none, bodyK_ite, bodyK_none, resK_ite, resK_none, leaveK_ite, leaveK_none, only_ite, only_none, bind_ite, gives_some, gives_none, gives_ite, then_normal, then_ret, then_exit, then_none, then_ite, Option.bind_none, Bool.not_eq_true', decide_eq_false_iff_not, Bool.and_eq_true, Bool.or_eq_true, Option.some.injEq, Int.not_lt, Int.not_le, lp47_0, hlt]
    exact ⟨ooA X, ooT X, by simpa using ooA_ok X, rfl⟩

attribute [local go_sem] shaped_t cells_t isAgg_t storable_t okRef_t pub_t

theorem rg_congr {w w' : List Nat} (h : ∀ a, w.getD a 0 = w'.getD a 0) : ∀ (k : Nat) (c : List Nat) (free : Nat), rg w k c free = rg w' k c free
  | 0, c, _ => by unfold rg hdR; rw [h]
  | k + 1, c, free => by
    show hdR w c ++ _ = hdR w' c ++ _
    have : hdR w c = hdR w' c := by unfold hdR; rw [h]
    rw [this, h]
    congr 1
    exact flatMap_congr' fun x _ => rg_congr h k _ _
theorem circL_congr {w w' : List Nat} (h : ∀ a, w.getD a 0 = w'.getD a 0) (n : Nat) : circL n w = circL n w' := by
  unfold circL
  exact flatMap_congr' fun x _ => rg_congr h 7 _ _
theorem rg_ne (w : List Nat) : ∀ (k : Nat) (c : List Nat) (free : Nat), ∀ x ∈ rg w k c free, 2 ≤ x.length
  | 0, c, _, x, hx => by
    unfold rg hdR at hx
    split at hx
    · next h => simp at hx; subst hx; omega
    · simp at hx
  | k + 1, c, free, x, hx => by
    have hx' : x ∈ hdR w c ++ (bitsL (w.getD (lastW c) 0 &&& free)).flatMap fun x => rg w k (c ++ [x]) (dfN free (2 ^ x)) := hx
    rcases List.mem_append.1 hx' with h | h
    · unfold hdR at h
      split at h
      · next h2 => simp at h; subst h; omega
      · simp at h
    · obtain ⟨y, _, h⟩ := List.mem_flatMap.1 h
      exact rg_ne w k _ _ x h
theorem circ_ne {n : Nat} {w : List Nat} : ∀ x ∈ circL n w, 2 ≤ x.length := by
  intro x hx
  obtain ⟨y, _, h⟩ := List.mem_flatMap.1 hx
  exact rg_ne w 7 _ _ x h
theorem oA_t {X : List (List Nat)} (h : ∀ x ∈ X, 2 ≤ x.length) : X.map oA = (X.map up).map tAV := by
  rw [List.map_map]
  refine List.map_congr_left fun c hc => ?_
  have := h c hc
  show oA c = tAV (up c)
  unfold oA tAV
  rw [up_J, sl_ne (by intro e; have : c = [] := by simpa using e
                      subst this; simp at this)]
theorem c47 (nl : Bool) (n : Nat) (ps : List (Int × Int)) (h : chk (n : Int) ps = 0) (st : St) : run L 47 [bkAV nl (n : Int) ps] st = some (sl 1 true (((circL n (seeL 7 ps)).map up).map tAV), st) := by
  rw [run_pure (fn := ir47) rfl rfl]
  obtain ⟨h1, hl16, h3, h4, h5⟩ := chk_zero h
  have h50 := fun st => c50 nl (n : Int) ps (by omega) h4 st
  have hpj := putJ (seeL 8 ps) (seeL_len 8 ps)
  have hlj := seeL_len 8 ps
  have hcl := circ_len n (by omega) (seeL 8 ps)
  have hcg := circL_congr (seeL_87 h4) n
  have hpv : putV = .fn (.func 85) [] [.ptr 1 0, .ptr 2 0, .ptr 0 0, .ptr 3 0] := rfl
  simp only [ir47, go_sem, reduceIte, Nat.reduceEqDiff, Nat.reduceAdd, Nat.reduceSub, Nat.reduceLeDiff, Nat.reduceLT, reduceCtorEq, Int.reduceLT, Int.reduceLE, Int.reduceEq, Int.reduceBEq, Int.reduceSub, Int.reduceAdd, Int.reduceMul, Int.reduceNeg, Int.reduceToNat, Nat.reduceMul, Nat.reduceBEq, h50, hpj, hlj, pubsJ, storableJ, List.length_map]
  generalize hg : lim (headed pure (run L) true _ lp47_0 _ _) _ _ = o
  obtain ⟨x, en, s, rfl, h2⟩ : ∃ x en s, o = some (x, en, s) ∧ _ := by rw [← hg]; exact loop47_0 nl n (by omega) ps (seeL 8 ps) (seeL_len 8 ps) (seeL_small 8 h4) 0 [] ⟨by omega, by rw [Nat.sub_zero]; unfold circL at hcl; simp only [List.length_nil]; omega⟩ _ _ (by simp only [go_sem, reduceIte, Nat.reduceEqDiff, Nat.reduceAdd, Nat.reduceSub, Nat.reduceLeDiff, Nat.reduceLT, reduceCtorEq, Int.reduceLT, Int.reduceLE, Int.reduceEq, Int.reduceBEq, Int.reduceSub, Int.reduceAdd, Int.reduceMul, Int.reduceNeg, Int.reduceToNat, Nat.reduceMul, Nat.reduceBEq, okRefsJ, renCellsJ, hpv, show ooA [] = .v (.slice none 0 0) from rfl, show ooT [] = [] from rfl, Int.natCast_zero] <;> rfl)
  clear hg
  rw [Nat.sub_zero, List.nil_append] at h2
  obtain ⟨rfl, e4, a', T', hok, rfl⟩ := h2
  have hcc : ((List.range' 0 n).flatMap fun x => rg (seeL 8 ps) 7 [x] (frN n x)) = circL n (seeL 8 ps) := rfl
  rw [hcc, hcg] at hok
  have hne := circ_ne (n := n) (w := seeL 7 ps)
  rw [← oA_t hne]
  generalize circL n (seeL 7 ps) = X at *
  rcases hok with ⟨rfl, rfl⟩ | ⟨hX, t, rfl, ht⟩
  · simp only [go_sem, reduceIte, Nat.reduceEqDiff, Nat.reduceAdd, Nat.reduceSub, Nat.reduceLeDiff, Nat.reduceLT, reduceCtorEq, Int.reduceLT, Int.reduceLE, Int.reduceEq, Int.reduceBEq, Int.reduceSub, Int.reduceAdd, Int.reduceMul, Int.reduceNeg, Int.reduceToNat, Nat.reduceMul, Nat.reduceBEq, e4]
    rfl
  · have : sl 1 true (X.map oA) = .lst .any 1 (X.map oA) := sl_ne (by simpa using hX)
    rw [this]
    simp only [go_sem, reduceIte, Nat.reduceEqDiff, Nat.reduceAdd, Nat.reduceSub, Nat.reduceLeDiff, Nat.reduceLT, reduceCtorEq, Int.reduceLT, Int.reduceLE, Int.reduceEq, Int.reduceBEq, Int.reduceSub, Int.reduceAdd, Int.reduceMul, Int.reduceNeg, Int.reduceToNat, Nat.reduceMul, Nat.reduceBEq, e4]


/-! ### ways and circles in a web -/
def Ch (J : Nat → Nat → Prop) : List Nat → Prop
  | [] => True
  | [_] => True
  | a :: b :: r => J a b ∧ Ch J (b :: r)


/-! ### which lists are circles -/
/-- A word sees another one. -/
def Jw (w : List Nat) (a b : Nat) : Prop := (w.getD a 0).testBit b = true
theorem lastW_snoc (c : List Nat) (x : Nat) : lastW (c ++ [x]) = x := by
  unfold lastW
  rw [List.length_append, List.length_singleton, Nat.add_sub_cancel, List.getD_eq_getElem?_getD, List.getElem?_append_right (by omega)]
  simp
theorem mem_hdR {w : List Nat} {c x : List Nat} : x ∈ hdR w c ↔ x = c ∧ 1 < c.length ∧ Jw w (lastW c) (c.getD 0 0) := by
  unfold hdR Jw
  split
  · next h => simp only [List.mem_singleton]; exact ⟨fun e => ⟨e, h⟩, fun e => e.1⟩
  · next h => simp only [List.not_mem_nil, false_iff]; exact fun e => h e.2
/-- What is found from some words on. -/
theorem rg_iff (w : List Nat) : ∀ (k : Nat) (c : List Nat) (free : Nat), (bitsL free).length ≤ k → free < 128 → c ≠ [] → ∀ x, x ∈ rg w k c free ↔ ∃ s, x = c ++ s ∧ Ch (Jw w) (lastW c :: s) ∧ (∀ y ∈ s, free.testBit y = true) ∧ s.Nodup ∧ 1 < x.length ∧ Jw w (lastW x) (x.getD 0 0) := by
  have head : ∀ (c x : List Nat), (x ∈ hdR w c ↔ ∃ s, s = [] ∧ x = c ++ s ∧ 1 < x.length ∧ Jw w (lastW x) (x.getD 0 0)) := by
    intro c x
    rw [mem_hdR]
    constructor
    · rintro ⟨rfl, h1, h2⟩; exact ⟨[], rfl, by simp, h1, h2⟩
    · rintro ⟨s, rfl, e, h1, h2⟩
      rw [List.append_nil] at e; subst e
      exact ⟨rfl, h1, h2⟩
  intro k
  induction k with
  | zero =>
    intro c free hk hf hc x
    have h0 := bits_nil hf (by omega)
    subst h0
    show x ∈ hdR w c ↔ _
    rw [head]
    constructor
    · rintro ⟨s, rfl, e, h1, h2⟩; exact ⟨[], e, trivial, by simp, List.nodup_nil, h1, h2⟩
    · rintro ⟨s, e, _, h3, _, h1, h2⟩
      have : s = [] := by
        cases s with
        | nil => rfl
        | cons y r => have := h3 y (by simp); simp at this
      exact ⟨s, this, e, h1, h2⟩
  | succ k ih =>
    intro c free hk hf hc x
    show x ∈ hdR w c ++ _ ↔ _
    rw [List.mem_append, head, List.mem_flatMap]
    have hlt : w.getD (lastW c) 0 &&& free < 128 := Nat.lt_of_le_of_lt Nat.and_le_right hf
    constructor
    · rintro (⟨s, rfl, e, h1, h2⟩ | ⟨y, hy, hx⟩)
      · exact ⟨[], e, trivial, by simp, List.nodup_nil, h1, h2⟩
      · rw [bits_mem hlt, Nat.testBit_and, Bool.and_eq_true] at hy
        have hcard := df_card hf hy.2
        have hy7 := bit_lt7 hf hy.2
        obtain ⟨s, e, h1, h2, h3, h4, h5⟩ := (ih (c ++ [y]) (dfN free (2 ^ y)) (by omega) (dfN_lt hf) (by simp) x).1 hx
        rw [lastW_snoc] at h1
        have h2' : ∀ z ∈ s, free.testBit z = true ∧ z ≠ y := fun z hz => by
          have := h2 z hz
          rw [dfN_bit (sh1_lt y hy7).2, Bool.and_eq_true, Bool.and_eq_true, Bool.not_eq_true', Nat.testBit_two_pow, decide_eq_false_iff_not] at this
          exact ⟨this.1, fun e => this.2.2 e.symm⟩
        refine ⟨y :: s, by rw [e]; simp, ⟨hy.1, h1⟩, fun z hz => ?_, List.nodup_cons.2 ⟨fun hm => (h2' y hm).2 rfl, h3⟩, h4, h5⟩
        rcases List.mem_cons.1 hz with rfl | hz
        · exact hy.2
        · exact (h2' z hz).1
    · rintro ⟨s, e, h1, h2, h3, h4, h5⟩
      cases s with
      | nil => exact .inl ⟨[], rfl, e, h4, h5⟩
      | cons y s =>
        right
        have hy := h2 y (by simp)
        have hy7 := bit_lt7 hf hy
        have hcard := df_card hf hy
        rw [List.nodup_cons] at h3
        refine ⟨y, (bits_mem hlt y).2 (by rw [Nat.testBit_and, Bool.and_eq_true]; exact ⟨h1.1, hy⟩), (ih (c ++ [y]) (dfN free (2 ^ y)) (by omega) (dfN_lt hf) (by simp) x).2 ⟨s, by rw [e]; simp, by rw [lastW_snoc]; exact h1.2, fun z hz => ?_, h3.2, h4, h5⟩⟩
        rw [dfN_bit (sh1_lt y hy7).2, Bool.and_eq_true, Bool.and_eq_true, Bool.not_eq_true', Nat.testBit_two_pow, decide_eq_false_iff_not]
        have hz2 := h2 z (by simp [hz])
        exact ⟨hz2, decide_eq_true (bit_lt7 hf hz2), fun e => h3.1 (by rw [e]; exact hz)⟩
/-- A circle whose first word is its smallest one. -/
theorem circ_iff {n : Nat} (hn : n ≤ 7) (w : List Nat) (x : List Nat) : x ∈ circL n w ↔ ∃ a s, x = a :: s ∧ a < n ∧ (∀ y ∈ s, a < y ∧ y < n) ∧ x.Nodup ∧ 1 < x.length ∧ Ch (Jw w) x ∧ Jw w (lastW x) a := by
  unfold circL
  rw [List.mem_flatMap]
  constructor
  · rintro ⟨a, ha, hx⟩
    rw [List.mem_range'_1] at ha
    have hcard := frN_card hn (show a < n by omega)
    obtain ⟨s, e, h1, h2, h3, h4, h5⟩ := (rg_iff w 7 [a] (frN n a) (by omega) (frN_lt hn) (by simp) x).1 hx
    have h2' : ∀ y ∈ s, a < y ∧ y < n := fun y hy => by
      have := h2 y hy
      rw [frN_bit hn (by omega), Bool.and_eq_true, decide_eq_true_iff, decide_eq_true_iff] at this
      omega
    subst e
    refine ⟨a, s, rfl, by omega, h2', List.nodup_cons.2 ⟨fun hm => by have := h2' a hm; omega, h3⟩, h4, h1, h5⟩
  · rintro ⟨a, s, rfl, ha, h2, h3, h4, h5, h6⟩
    have hcard := frN_card hn ha
    refine ⟨a, by rw [List.mem_range'_1]; omega, (rg_iff w 7 [a] (frN n a) (by omega) (frN_lt hn) (by simp) _).2 ⟨s, rfl, h5, fun y hy => ?_, (List.nodup_cons.1 h3).2, h4, h6⟩⟩
    rw [frN_bit hn ha, Bool.and_eq_true, decide_eq_true_iff, decide_eq_true_iff]
    have := h2 y hy; omega

attribute [local go_sem] shaped_t cells_t isAgg_t storable_t okRef_t pub_t

theorem circ_lt {n : Nat} (hn : n ≤ 7) {w : List Nat} : ∀ c ∈ circL n w, 2 ≤ c.length ∧ c.length ≤ 7 ∧ (∀ x ∈ c, x < n) ∧ c.Nodup := by
  intro c hc
  obtain ⟨a, s, e, ha, h2, h3, h4, _, _⟩ := (circ_iff hn _ c).1 hc
  have hm : ∀ x ∈ c, x < n := fun x hx => by
    rw [e] at hx
    rcases List.mem_cons.1 hx with rfl | hx
    · exact ha
    · exact (h2 x hx).2
  have := nodup_len_le c (List.range n) h3 (fun x hx => List.mem_range.2 (hm x hx))
  rw [List.length_range] at this
  exact ⟨h4, by omega, hm, h3⟩

attribute [local go_sem] shaped_t cells_t isAgg_t storable_t okRef_t pub_t

/-! ### how many circles, and how many on each reference -/
theorem z50 : tallyC 0 (List.replicate 49 0) = [I 0, I 0, I 0, I 0, I 0, I 0, I 0, I 0, I 0, I 0, I 0, I 0, I 0, I 0, I 0, I 0, I 0, I 0, I 0, I 0, I 0, I 0, I 0, I 0, I 0, I 0, I 0, I 0, I 0, I 0, I 0, I 0, I 0, I 0, I 0, I 0, I 0, I 0, I 0, I 0, I 0, I 0, I 0, I 0, I 0, I 0, I 0, I 0, I 0, I 0] := rfl
def bk81 (nl : Bool) (n : Int) (ps : List (Int × Int)) : List (List AV) := [bkCells nl n ps, bkCells nl n ps, webC n (wovL n ps)]
set_option maxHeartbeats 1000000 in
theorem c81 (nl : Bool) (n : Int) (ps : List (Int × Int)) (T : List Nat) :
    run L 81 [bkAV nl n ps] ⟨[bkCells nl n ps], T⟩ = if chk n ps = 0 then some (.tup [.ptr 3 0, I 0], ⟨bk81 nl n ps ++ layT 3 n (seeL 7 ps) (circL n.toNat (seeL 7 ps)).length (ovL (circL n.toNat (seeL 7 ps))), T⟩) else some (.tup [.v (.pointer none), I (chk n ps)], ⟨bk81 nl n ps, T⟩) := by
  rw [run_shared (fn := ir81) rfl rfl]
  have h65 := fun st => c65 nl n ps st
  unfold bk81
  by_cases h : chk n ps = 0
  · obtain ⟨h1, hl16, h3, h4, h5⟩ := chk_zero h
    obtain ⟨k, rfl⟩ := Int.eq_ofNat_of_zero_le (show 0 ≤ n by omega)
    have hw : wovL (k : Int) ps = seeL 7 ps := by unfold wovL; rw [if_pos h]
    rw [hw] at h65 ⊢
    rw [if_pos h, Int.toNat_natCast]
    have hlw := lenW (k : Int) (seeL 7 ps)
    rw [seeL_len] at hlw
    have hpw := putW (k : Int) (seeL 7 ps) (seeL_len 7 ps)
    have htkw : (webC (k : Int) (seeL 7 ps)).take 8 = webC (k : Int) (seeL 7 ps) := List.take_of_length_le (by omega)
    have h74 := c74 goalT 3 k (by omega) (seeL 7 ps) (seeL_len 7 ps) (seeL_small 7 h4) (goalT_ok 3 k _) rfl T [bkCells nl (k : Int) ps, bkCells nl (k : Int) ps, webC (k : Int) (seeL 7 ps)] rfl (dk_cons (bk_vis nl _ ps) (dk_cons (bk_vis nl _ ps) (dk_cons (fun _ => web_v _ _) dk_nil)))
    have e0 : goalT.ob 3 [] = tallyC 0 (List.replicate 49 0) := rfl
    have e1 : goalT.tt = 111 := rfl
    rw [e0, e1, layT_eq, z50] at h74
    simp only [List.cons_append, List.nil_append] at h74
    simp only [ir81, go_sem, reduceIte, Nat.reduceEqDiff, Nat.reduceAdd, Nat.reduceSub, Nat.reduceLeDiff, Nat.reduceLT, reduceCtorEq, Int.reduceLT, Int.reduceLE, Int.reduceEq, Int.reduceBEq, Int.reduceSub, Int.reduceAdd, Int.reduceMul, Int.reduceNeg, Int.reduceToNat, Nat.reduceMul, Nat.reduceBEq, h65, h, hlw, hpw, htkw, pubsW, storableW, h74, show pure 74 = false from rfl]
  · rw [if_neg h]
    have hl7 : (wovL n ps).length = 7 := by unfold wovL; rw [if_neg h]; simp
    have hlw := lenW n (wovL n ps)
    rw [hl7] at hlw
    have hpw := putW n (wovL n ps) hl7
    simp only [ir81, go_sem, reduceIte, Nat.reduceEqDiff, Nat.reduceAdd, Nat.reduceSub, Nat.reduceLeDiff, Nat.reduceLT, reduceCtorEq, Int.reduceLT, Int.reduceLE, Int.reduceEq, Int.reduceBEq, Int.reduceSub, Int.reduceAdd, Int.reduceMul, Int.reduceNeg, Int.reduceToNat, Nat.reduceMul, Nat.reduceBEq, h65, h, hlw, hpw, pubsW, storableW]
theorem c75t (tot : Nat) (O : List Nat) (d : Nat) (n : Int) (w : List Nat) (nl : Bool) (ps : List (Int × Int)) (T : List Nat) : run L 75 [.ifc 111 (.ptr 3 0)] ⟨bk81 nl n ps ++ layT d n w tot O, T⟩ = some (I (wr tot), ⟨bk81 nl n ps ++ layT d n w tot O, T⟩) := by
  rw [run_shared (fn := ir75) rfl rfl]
  unfold bk81 layT tallyC
  simp only [ir75, go_sem, reduceIte, Nat.reduceEqDiff, Nat.reduceAdd, Nat.reduceSub, Nat.reduceLeDiff, Nat.reduceLT, reduceCtorEq, Int.reduceLT, Int.reduceLE, Int.reduceEq, Int.reduceBEq, Int.reduceSub, Int.reduceAdd, Int.reduceMul, Int.reduceNeg, Int.reduceToNat, Nat.reduceMul, Nat.reduceBEq, List.cons_append, List.nil_append]
def allN (n : Int) (ps : List (Int × Int)) : List (List Nat) := circL n.toNat (seeL 7 ps)
/-- How many circles there are. -/
def circV (n : Int) (ps : List (Int × Int)) : Int := if chk n ps = 0 then ((allN n ps).length : Int) else 0
theorem c36 (nl : Bool) (n : Int) (ps : List (Int × Int)) (st : St) : run L 36 [bkAV nl n ps] st = some (.tup [I (circV n ps), I (chk n ps)], st) := by
  rw [run_pure (fn := ir36) rfl rfl]
  have h81 := c81 nl n ps []
  unfold circV allN
  by_cases h : chk n ps = 0
  · obtain ⟨h1, hl16, h3, h4, h5⟩ := chk_zero h
    rw [if_pos h] at h81 ⊢
    have hb := circ_len n.toNat (by omega) (seeL 7 ps)
    have hwr := wr_eq (circL n.toNat (seeL 7 ps)).length (by omega)
    have h75 := c75t (circL n.toNat (seeL 7 ps)).length (ovL (circL n.toNat (seeL 7 ps))) 3 n (seeL 7 ps) nl ps []
    rw [hwr] at h75
    simp only [ir36, go_sem, reduceIte, Nat.reduceEqDiff, Nat.reduceAdd, Nat.reduceSub, Nat.reduceLeDiff, Nat.reduceLT, reduceCtorEq, Int.reduceLT, Int.reduceLE, Int.reduceEq, Int.reduceBEq, Int.reduceSub, Int.reduceAdd, Int.reduceMul, Int.reduceNeg, Int.reduceToNat, Nat.reduceMul, Nat.reduceBEq, h81, h, h75, show pure 81 = false from rfl, show pure 75 = false from rfl]
  · rw [if_neg h] at h81 ⊢
    simp only [ir36, go_sem, reduceIte, Nat.reduceEqDiff, Nat.reduceAdd, Nat.reduceSub, Nat.reduceLeDiff, Nat.reduceLT, reduceCtorEq, Int.reduceLT, Int.reduceLE, Int.reduceEq, Int.reduceBEq, Int.reduceSub, Int.reduceAdd, Int.reduceMul, Int.reduceNeg, Int.reduceToNat, Nat.reduceMul, Nat.reduceBEq, h81, h, show pure 81 = false from rfl]

attribute [local go_sem] shaped_t cells_t isAgg_t storable_t okRef_t pub_t

/-! ### on how many circles a reference lies -/
def cntC (c : List Nat) (p : Nat) : Nat := ((List.range' 0 c.length).filter fun i => atP c i == p).length
def thN (cs : List (List Nat)) (p : Nat) : Nat := (cs.map fun c => cntC c p).sum
theorem atP_lt {c : List Nat} (hc : ∀ x ∈ c, x < 7) {i : Nat} (hi : i < c.length) : atP c i < 49 := by
  have h1 := getD_lt hc i hi
  have h2 := getD_lt hc ((i + 1) % c.length) (Nat.mod_lt _ (by omega))
  unfold atP; omega
theorem ovS_get {c : List Nat} (p : Nat) : ∀ (l : List Nat) (O : List Nat), (∀ i ∈ l, atP c i < O.length) → (l.foldl (ovS c) O).getD p 0 = O.getD p 0 + (l.filter fun i => atP c i == p).length
  | [], O, _ => by simp
  | i :: r, O, h => by
    have hi := h i (by simp)
    rw [List.foldl_cons, ovS_get p r _ (fun j hj => by unfold ovS; rw [List.length_set]; exact h j (by simp [hj]))]
    unfold ovS
    rw [getD_set O _ _ p hi]
    by_cases e : atP c i = p
    · rw [if_pos e.symm, List.filter_cons_of_pos (by simpa using e), List.length_cons, e]; omega
    · rw [if_neg (Ne.symm e), List.filter_cons_of_neg (by simpa using e)]
theorem ovC_get (p : Nat) : ∀ (cs : List (List Nat)) (O : List Nat), O.length = 49 → (∀ c ∈ cs, ∀ x ∈ c, x < 7) → (cs.foldl ovC O).getD p 0 = O.getD p 0 + thN cs p
  | [], O, _, _ => by simp [thN]
  | c :: r, O, hO, h => by
    have hc := h c (by simp)
    rw [List.foldl_cons, ovC_get p r _ (by unfold ovC; rw [ovS_len]; exact hO) (fun d hd => h d (by simp [hd]))]
    have := ovS_get (c := c) p (List.range' 0 c.length) O (fun i hi => by rw [List.mem_range'_1] at hi; rw [hO]; exact atP_lt hc (by omega))
    unfold ovC thN cntC at *
    rw [this, List.map_cons, List.sum_cons]; omega
theorem ovL_get {cs : List (List Nat)} (h : ∀ c ∈ cs, ∀ x ∈ c, x < 7) (p : Nat) : (ovL cs).getD p 0 = thN cs p := by
  unfold ovL
  rw [ovC_get p cs _ (by simp) h]
  have : (List.replicate 49 0).getD p 0 = 0 := by
    rw [List.getD_eq_getElem?_getD, List.getElem?_replicate]; split <;> rfl
  omega
theorem thN_le : ∀ (cs : List (List Nat)) (p : Nat), (∀ c ∈ cs, c.length ≤ 7) → thN cs p ≤ 7 * cs.length
  | [], _, _ => by simp [thN]
  | c :: r, p, h => by
    have h1 := thN_le r p (fun d hd => h d (by simp [hd]))
    have h2 : cntC c p ≤ 7 := by
      have := List.length_filter_le (fun i => atP c i == p) (List.range' 0 c.length)
      rw [List.length_range'] at this
      have := h c (by simp)
      unfold cntC; omega
    unfold thN at *
    rw [List.map_cons, List.sum_cons, List.length_cons]; omega
/-- What is known of all circles of a book that is checked. -/
theorem allN_ok {n : Int} {ps : List (Int × Int)} (h : chk n ps = 0) : (allN n ps).length ≤ 14680064 ∧ ∀ c ∈ allN n ps, 2 ≤ c.length ∧ c.length ≤ 7 ∧ (∀ x ∈ c, x < 7) ∧ (∀ x ∈ c, (x : Int) < n) ∧ c.Nodup := by
  obtain ⟨h1, _, _, _, _⟩ := chk_zero h
  refine ⟨circ_len n.toNat (by omega) _, fun c hc => ?_⟩
  obtain ⟨a1, a2, a3, a4⟩ := circ_lt (n := n.toNat) (by omega) c hc
  exact ⟨a1, a2, fun x hx => by have := a3 x hx; omega, fun x hx => by have := a3 x hx; omega, a4⟩
theorem over_wr {n : Int} {ps : List (Int × Int)} (h : chk n ps = 0) (p : Nat) : wr ((ovL (allN n ps)).getD p 0) = (thN (allN n ps) p : Int) := by
  obtain ⟨h1, h2⟩ := allN_ok h
  rw [ovL_get (fun c hc => (h2 c hc).2.2.1) p]
  have := thN_le (allN n ps) p (fun c hc => (h2 c hc).2.1)
  exact wr_eq _ (by omega)
def refP (ps : List (Int × Int)) (r : Nat) : Nat := (ps.getD r (0, 0)).1.toNat * 7 + (ps.getD r (0, 0)).2.toNat
/-- What Through answers. -/
def thrV (n : Int) (ps : List (Int × Int)) (r : Int) : Int := if chk n ps = 0 then if r < 0 ∨ (ps.length : Int) ≤ r then 0 else (thN (allN n ps) (refP ps r.toNat) : Int) else 0
def thrE (n : Int) (ps : List (Int × Int)) (r : Int) : Int := if chk n ps = 0 then if r < 0 ∨ (ps.length : Int) ≤ r then 2 else 0 else chk n ps
theorem c38 (nl : Bool) (n : Int) (ps : List (Int × Int)) (r : Int) (st : St) : run L 38 [bkAV nl n ps, I r] st = some (.tup [I (thrV n ps r), I (thrE n ps r)], st) := by
  rw [run_pure (fn := ir38) rfl rfl]
  have h81 := c81 nl n ps []
  unfold thrV thrE
  by_cases h : chk n ps = 0
  · obtain ⟨h1, hl16, h3, h4, h5⟩ := chk_zero h
    rw [if_pos h] at h81 ⊢
    rw [if_pos h]
    have hall : circL n.toNat (seeL 7 ps) = allN n ps := rfl
    rw [hall] at h81
    unfold bk81 layT at h81
    simp only [List.cons_append, List.nil_append] at h81
    by_cases p1 : r < 0
    · simp only [if_pos (Or.inl p1 : r < 0 ∨ (ps.length : Int) ≤ r)]
      simp only [ir38, go_sem, reduceIte, Nat.reduceEqDiff, Nat.reduceAdd, Nat.reduceSub, Nat.reduceLeDiff, Nat.reduceLT, reduceCtorEq, Int.reduceLT, Int.reduceLE, Int.reduceEq, Int.reduceBEq, Int.reduceSub, Int.reduceAdd, Int.reduceMul, Int.reduceNeg, Int.reduceToNat, Nat.reduceMul, Nat.reduceBEq, h81, h, p1, show pure 81 = false from rfl, List.length_map]
    · by_cases p2 : (ps.length : Int) ≤ r
      · simp only [if_pos (Or.inr p2 : r < 0 ∨ (ps.length : Int) ≤ r)]
        simp only [ir38, go_sem, reduceIte, Nat.reduceEqDiff, Nat.reduceAdd, Nat.reduceSub, Nat.reduceLeDiff, Nat.reduceLT, reduceCtorEq, Int.reduceLT, Int.reduceLE, Int.reduceEq, Int.reduceBEq, Int.reduceSub, Int.reduceAdd, Int.reduceMul, Int.reduceNeg, Int.reduceToNat, Nat.reduceMul, Nat.reduceBEq, h81, h, p1, p2, show pure 81 = false from rfl, List.length_map]
      · obtain ⟨k, rfl⟩ := Int.eq_ofNat_of_zero_le (show 0 ≤ r by omega)
        simp only [if_neg (show ¬((k : Int) < 0 ∨ (ps.length : Int) ≤ (k : Int)) by omega), Int.toNat_natCast]
        have hk : k < ps.length := by omega
        have hx := index_prs nl ps k hk
        have hp := h4 ps[k] (List.getElem_mem hk)
        have hrf : refP ps k = ps[k].1.toNat * 7 + ps[k].2.toNat := by
          unfold refP
          rw [List.getD_eq_getElem?_getD, List.getElem?_eq_getElem hk]; rfl
        rw [hrf]
        generalize ps[k] = c at *
        obtain ⟨u, v⟩ := c
        obtain ⟨a1, a2, a3, a4⟩ := hp
        simp only at a1 a2 a3 a4 hx
        obtain ⟨u, rfl⟩ := Int.eq_ofNat_of_zero_le a1
        obtain ⟨v, rfl⟩ := Int.eq_ofNat_of_zero_le a3
        simp only [Int.toNat_natCast]
        have hg := tally_get (allN n ps).length (ovL (allN n ps)) (u * 7 + v) (by rw [ovL_len]; omega)
        rw [over_wr h] at hg
        have e1 : 1 + u * 7 + v = 1 + (u * 7 + v) := by omega
        have b1 : ((0 : Int) ≤ (u : Int)) = True := eq_true (by omega)
        have b2 : ((u : Int) < 7) = True := eq_true (by omega)
        have b3 : ((0 : Int) ≤ (v : Int)) = True := eq_true (by omega)
        have b4 : ((v : Int) < 7) = True := eq_true (by omega)
        simp only [ir38, go_sem, reduceIte, Nat.reduceEqDiff, Nat.reduceAdd, Nat.reduceSub, Nat.reduceLeDiff, Nat.reduceLT, reduceCtorEq, Int.reduceLT, Int.reduceLE, Int.reduceEq, Int.reduceBEq, Int.reduceSub, Int.reduceAdd, Int.reduceMul, Int.reduceNeg, Int.reduceToNat, Nat.reduceMul, Nat.reduceBEq, h81, h, p1, p2, hx, e1, hg, b1, b2, b3, b4, show pure 81 = false from rfl, List.length_map]
  · rw [if_neg h] at h81 ⊢
    rw [if_neg h]
    unfold bk81 at h81
    simp only [ir38, go_sem, reduceIte, Nat.reduceEqDiff, Nat.reduceAdd, Nat.reduceSub, Nat.reduceLeDiff, Nat.reduceLT, reduceCtorEq, Int.reduceLT, Int.reduceLE, Int.reduceEq, Int.reduceBEq, Int.reduceSub, Int.reduceAdd, Int.reduceMul, Int.reduceNeg, Int.reduceToNat, Nat.reduceMul, Nat.reduceBEq, h81, h, show pure 81 = false from rfl]

attribute [local go_sem] shaped_t cells_t isAgg_t storable_t okRef_t pub_t

/-! ### the worst reference -/
theorem okRefsTal (k tot : Nat) (O : List Nat) : okRefs k (tallyC tot O) = true := by
  unfold tallyC
  have : ∀ O : List Nat, okRefs k (O.map fun k => I (wr k)) = true := by
    intro O
    induction O with
    | nil => rfl
    | cons x r ih => simp only [List.map_cons, okRefs, ih]; rfl
  simp only [okRefs, this]; rfl
theorem renCellsTal (k : Nat) (T : List Nat) (acc : List (Nat × Nat)) (tot : Nat) (O : List Nat) : renCells k T acc (tallyC tot O) = (tallyC tot O, acc) := by
  unfold tallyC
  have : ∀ (O : List Nat) acc, renCells k T acc (O.map fun k => I (wr k)) = (O.map fun k => I (wr k), acc) := by
    intro O
    induction O with
    | nil => intro acc; rfl
    | cons x r ih => intro acc; simp only [List.map_cons, renCells, ren1, ih]
  simp only [renCells, ren1, this]
def wstep (f : Nat → Nat) (q : Int × Int) (i : Nat) : Int × Int := if q.2 < (f i : Int) then ((i : Int), (f i : Int)) else q

theorem loop40_0 (nl : Bool) (n : Int) (ps : List (Int × Int)) (hl : ps.length ≤ 16) (h4 : ∀ p ∈ ps, okP p) (w : List Nat) (tot : Nat) (O : List Nat) (hO : O.length = 49) (f : Nat → Nat) (hf : ∀ i, i < ps.length → wr (O.getD (refP ps i) 0) = (f i : Int)) (i : Nat) (wo : Int) (mo : Int) (hok : i ≤ ps.length) (env : Env) (st : St)
    (hg : gcAV true 7 0 (canon env [4, 6, 7, 20, 21, 22]) st = ([(4, .ptr 3 0), (6, I wo), (7, I mo), (20, sl 2 nl (ps.map prAV)), (21, I ps.length), (22, I i)], ⟨[bkCells nl n ps, bkCells nl n ps, webC n w, tallyC tot O, webC n w, [.ifc 111 (.ptr 3 0)], [fromV 3]], []⟩)) :
    ∃ x_1 en s, lim (headed pure (run L) true [4, 6, 7, 20, 21, 22] lp40_0 7 0) env st = some (x_1, en, s) ∧ (x_1 = .exit 0 ∧ en.get 6 = I ((List.range' i (ps.length - i)).foldl (wstep f) (wo, mo)).1) := by
  refine loop_wp (α := Nat × Int × Int) (fun ⟨i, wo, mo⟩ => ps.length - i) (fun ⟨i, wo, mo⟩ => i ≤ ps.length) (fun ⟨i, wo, mo⟩ => ([(4, .ptr 3 0), (6, I wo), (7, I mo), (20, sl 2 nl (ps.map prAV)), (21, I ps.length), (22, I i)], ⟨[bkCells nl n ps, bkCells nl n ps, webC n w, tallyC tot O, webC n w, [.ifc 111 (.ptr 3 0)], [fromV 3]], []⟩)) (fun ⟨i, wo, mo⟩ x_1 en s => x_1 = .exit 0 ∧ en.get 6 = I ((List.range' i (ps.length - i)).foldl (wstep f) (wo, mo)).1) (fun ⟨i, wo, mo⟩ hok => ?_) ⟨i, wo, mo⟩ hok env st hg
  simp only at hok
  dsimp only at hok ⊢
  by_cases h : i < ps.length
  · have hx := index_prs nl ps i h
    have hs := succ64 i (by omega)
    have hlt : ((i : Int) < (ps.length : Int)) = True := eq_true (by omega)
    have hr : List.range' i (ps.length - i) = i :: List.range' (i + 1) (ps.length - (i + 1)) := by
      rw [show ps.length - i = (ps.length - (i + 1)) + 1 by omega, List.range'_succ]
    have hp := h4 ps[i] (List.getElem_mem h)
    have hrf : refP ps i = ps[i].1.toNat * 7 + ps[i].2.toNat := by
      unfold refP
      rw [List.getD_eq_getElem?_getD, List.getElem?_eq_getElem h]; rfl
    have hfi := hf i h
    rw [hrf] at hfi
    have hw : wstep f (wo, mo) i = if mo < (f i : Int) then ((i : Int), (f i : Int)) else (wo, mo) := rfl
    rw [hr, List.foldl_cons, hw]
    generalize ps[i] = c at *
    obtain ⟨u, v⟩ := c
    obtain ⟨a1, a2, a3, a4⟩ := hp
    simp only at a1 a2 a3 a4 hx hfi
    obtain ⟨u, rfl⟩ := Int.eq_ofNat_of_zero_le a1
    obtain ⟨v, rfl⟩ := Int.eq_ofNat_of_zero_le a3
    simp only [Int.toNat_natCast] at hfi
    have hg := tally_get tot O (u * 7 + v) (by omega)
    rw [hfi] at hg
    have e1 : 1 + u * 7 + v = 1 + (u * 7 + v) := by omega
    have b1 : ((0 : Int) ≤ (u : Int)) = True := eq_true (by omega)
    have b2 : ((u : Int) < 7) = True := eq_true (by omega)
    have b3 : ((0 : Int) ≤ (v : Int)) = True := eq_true (by omega)
    have b4 : ((v : Int) < 7) = True := eq_true (by omega)
    have hfv : fromV 3 = .fn (.func 94) [] [.ptr 4 0, .ptr 5 0, .ptr 6 0] := rfl
    by_cases p : mo < (f i : Int)
    · rw [if_pos p]
      simp only [go_sem, reduceIte, Nat.reduceEqDiff, Nat.reduceAdd, Nat.reduceSub, Nat.reduceLeDiff, Nat.reduceLT, reduceCtorEq, Int.reduceLT, Int.reduceLE, Int.reduceEq, Int.reduceBEq, Int.reduceSub, Int.reduceAdd, Int.reduceMul, Int.reduceNeg, Int.reduceToNat, Nat.reduceMul, Nat.reduceBEq, index_rsl_if, setm, make_ints, condK_dec, wantK_dec, not_dec, and_dec, or_dec, seqK_ite, seqK_none, blockK_ite, blockK_none, opsK_ite, opsK_none, stepK_ite, stepK_none, bodyK_ite, bodyK_none, resK_ite, resK_none, leaveK_ite, leaveK_none, only_ite, only_none, bind_ite, gives_some, gives_none, gives_ite, then_normal, then_ret, then_exit, then_none, then_ite, Option.bind_none, Bool.not_eq_true', decide_eq_false_iff_not, Bool.and_eq_true, Bool.or_eq_true, Option.some.injEq, Int.not_lt, Int.not_le, lp40_0, hlt, hs, hx, e1, hg, b1, b2, b3, b4, p, hfv]
      refine ⟨(i + 1, (i : Int), (f i : Int)), by simp only [go_sem, reduceIte, Nat.reduceEqDiff, Nat.reduceAdd, Nat.reduceSub, Nat.reduceLeDiff, Nat.reduceLT, reduceCtorEq, Int.reduceLT, Int.reduceLE, Int.reduceEq, Int.reduceBEq, Int.reduceSub, Int.reduceAdd, Int.reduceMul, Int.reduceNeg, Int.reduceToNat, Nat.reduceMul, Nat.reduceBEq, ren1_locm, loc_tips, locT_eq, okRefsW, renCellsW, okRefsTal, renCellsTal, hfv] <;> rfl, ?_, ?_, fun x en s hq => ?_⟩
      · dsimp only; omega
      · dsimp only; omega
      · exact hq
    · rw [if_neg p]
      simp only [go_sem, reduceIte, Nat.reduceEqDiff, Nat.reduceAdd, Nat.reduceSub, Nat.reduceLeDiff, Nat.reduceLT, reduceCtorEq, Int.reduceLT, Int.reduceLE, Int.reduceEq, Int.reduceBEq, Int.reduceSub, Int.reduceAdd, Int.reduceMul, Int.reduceNeg, Int.reduceToNat, Nat.reduceMul, Nat.reduceBEq, index_rsl_if, setm, make_ints, condK_dec, wantK_dec, not_dec, and_dec, or_dec, seqK_ite, seqK_none, blockK_ite, blockK_none, opsK_ite, opsK_none, stepK_ite, stepK_none, bodyK_ite, bodyK_none, resK_ite, resK_none, leaveK_ite, leaveK_none, only_ite, only_none, bind_ite, gives_some, gives_none, gives_ite, then_normal, then_ret, then_exit, then_none, then_ite, Option.bind_none, Bool.not_eq_true', decide_eq_false_iff_not, Bool.and_eq_true, Bool.or_eq_true, Option.some.injEq, Int.not_lt, Int.not_le, lp40_0, hlt, hs, hx, e1, hg, b1, b2, b3, b4, p, hfv]
      refine ⟨(i + 1, wo, mo), by simp only [go_sem, reduceIte, Nat.reduceEqDiff, Nat.reduceAdd, Nat.reduceSub, Nat.reduceLeDiff, Nat.reduceLT, reduceCtorEq, Int.reduceLT, Int.reduceLE, Int.reduceEq, Int.reduceBEq, Int.reduceSub, Int.reduceAdd, Int.reduceMul, Int.reduceNeg, Int.reduceToNat, Nat.reduceMul, Nat.reduceBEq, ren1_locm, loc_tips, locT_eq, okRefsW, renCellsW, okRefsTal, renCellsTal, hfv] <;> rfl, ?_, ?_, fun x en s hq => ?_⟩
      · dsimp only; omega
      · dsimp only; omega
      · exact hq
  · have hr : ps.length - i = 0 := by omega
    have hlt : ((i : Int) < (ps.length : Int)) = False := eq_false (by omega)
    rw [hr]
    simp only [go_sem, reduceIte, Nat.reduceEqDiff, Nat.reduceAdd, Nat.reduceSub, Nat.reduceLeDiff, Nat.reduceLT, reduceCtorEq, Int.reduceLT, Int.reduceLE, Int.reduceEq, Int.reduceBEq, Int.reduceSub, Int.reduceAdd, Int.reduceMul, Int.reduceNeg, Int.reduceToNat, Nat.reduceMul, Nat.reduceBEq, index_rsl_if, setm, make_ints, condK_dec, wantK_dec, not_dec, and_dec, or_dec, seqK_ite, seqK_none, blockK_ite, blockK_none, opsK_ite, opsK_none, stepK_ite, stepK_none, bodyK_ite, bodyK_none, resK_ite, resK_none, leaveK_ite, leaveK_none, only_ite, only_none, bind_ite, gives_some, gives_none, gives_ite, then_normal, then_ret, then_exit, then_none, then_ite, Option.bind_none, Bool.not_eq_true', decide_eq_false_iff_not, Bool.and_eq_true, Bool.or_eq_true, Option.some.injEq, Int.not_lt, Int.not_le, lp40_0, hlt]
    rfl

/-- The first reference that lies on the most circles, or -1. -/
def worstI (n : Int) (ps : List (Int × Int)) : Int := ((List.range' 0 ps.length).foldl (wstep fun i => thN (allN n ps) (refP ps i)) (-1, 0)).1
def worstV (n : Int) (ps : List (Int × Int)) : Int := if chk n ps = 0 then if worstI n ps < 0 then 0 else worstI n ps else 0
def worstE (n : Int) (ps : List (Int × Int)) : Int := if chk n ps = 0 then if worstI n ps < 0 then 12 else 0 else chk n ps
theorem c40 (nl : Bool) (n : Int) (ps : List (Int × Int)) (st : St) : run L 40 [bkAV nl n ps] st = some (.tup [I (worstV n ps), I (worstE n ps)], st) := by
  rw [run_pure (fn := ir40) rfl rfl]
  have h81 := c81 nl n ps []
  unfold worstV worstE
  by_cases h : chk n ps = 0
  · obtain ⟨h1, hl16, h3, h4, h5⟩ := chk_zero h
    rw [if_pos h] at h81 ⊢
    rw [if_pos h]
    have hall : circL n.toNat (seeL 7 ps) = allN n ps := rfl
    have hw : wovL n ps = seeL 7 ps := by unfold wovL; rw [if_pos h]
    rw [hall] at h81
    unfold bk81 layT at h81
    rw [hw] at h81
    simp only [List.cons_append, List.nil_append] at h81
    have hfv : fromV 3 = .fn (.func 94) [] [.ptr 4 0, .ptr 5 0, .ptr 6 0] := rfl
    rw [hfv] at h81
    simp only [ir40, go_sem, reduceIte, Nat.reduceEqDiff, Nat.reduceAdd, Nat.reduceSub, Nat.reduceLeDiff, Nat.reduceLT, reduceCtorEq, Int.reduceLT, Int.reduceLE, Int.reduceEq, Int.reduceBEq, Int.reduceSub, Int.reduceAdd, Int.reduceMul, Int.reduceNeg, Int.reduceToNat, Nat.reduceMul, Nat.reduceBEq, h81, h, show pure 81 = false from rfl, List.length_map]
    generalize hg : lim (headed pure (run L) true _ lp40_0 _ _) _ _ = o
    obtain ⟨x, en, s, rfl, h2⟩ : ∃ x en s, o = some (x, en, s) ∧ _ := by rw [← hg]; exact loop40_0 nl n ps hl16 h4 (seeL 7 ps) (allN n ps).length (ovL (allN n ps)) (ovL_len _) (fun i => thN (allN n ps) (refP ps i)) (fun i _ => over_wr h _) 0 (-1) 0 (by omega) _ _ (by simp only [go_sem, reduceIte, Nat.reduceEqDiff, Nat.reduceAdd, Nat.reduceSub, Nat.reduceLeDiff, Nat.reduceLT, reduceCtorEq, Int.reduceLT, Int.reduceLE, Int.reduceEq, Int.reduceBEq, Int.reduceSub, Int.reduceAdd, Int.reduceMul, Int.reduceNeg, Int.reduceToNat, Nat.reduceMul, Nat.reduceBEq, okRefsW, renCellsW, okRefsTal, renCellsTal, hfv, Int.natCast_zero] <;> rfl)
    clear hg
    rw [Nat.sub_zero] at h2
    obtain ⟨rfl, e6⟩ := h2
    have hI : ((List.range' 0 ps.length).foldl (wstep fun i => thN (allN n ps) (refP ps i)) (-1, 0)).1 = worstI n ps := rfl
    rw [hI] at e6
    by_cases p : worstI n ps < 0
    · rw [if_pos p, if_pos p]
      simp only [go_sem, reduceIte, Nat.reduceEqDiff, Nat.reduceAdd, Nat.reduceSub, Nat.reduceLeDiff, Nat.reduceLT, reduceCtorEq, Int.reduceLT, Int.reduceLE, Int.reduceEq, Int.reduceBEq, Int.reduceSub, Int.reduceAdd, Int.reduceMul, Int.reduceNeg, Int.reduceToNat, Nat.reduceMul, Nat.reduceBEq, e6, p]
    · rw [if_neg p, if_neg p]
      simp only [go_sem, reduceIte, Nat.reduceEqDiff, Nat.reduceAdd, Nat.reduceSub, Nat.reduceLeDiff, Nat.reduceLT, reduceCtorEq, Int.reduceLT, Int.reduceLE, Int.reduceEq, Int.reduceBEq, Int.reduceSub, Int.reduceAdd, Int.reduceMul, Int.reduceNeg, Int.reduceToNat, Nat.reduceMul, Nat.reduceBEq, e6, p]
  · rw [if_neg h] at h81 ⊢
    rw [if_neg h]
    unfold bk81 at h81
    simp only [ir40, go_sem, reduceIte, Nat.reduceEqDiff, Nat.reduceAdd, Nat.reduceSub, Nat.reduceLeDiff, Nat.reduceLT, reduceCtorEq, Int.reduceLT, Int.reduceLE, Int.reduceEq, Int.reduceBEq, Int.reduceSub, Int.reduceAdd, Int.reduceMul, Int.reduceNeg, Int.reduceToNat, Nat.reduceMul, Nat.reduceBEq, h81, h, show pure 81 = false from rfl]
end Go.Proofs.YtgohohiaaiogcaaDoor.Vm
