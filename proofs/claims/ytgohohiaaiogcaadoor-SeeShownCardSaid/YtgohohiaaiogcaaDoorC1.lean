/- What is proved: what each function of this program computes, as equations on the evaluator. No condition. -/
import Derived.Test.YtgohohiaaiogcaaDoorLib
import Derived.Test.YtgohohiaaiogcaaDoorSy
import Derived.KernelRfl
import Derived.WalkKit
import Derived.ProofKit
import Derived.OpenShut
import Derived.Test.YtgohohiaaiogcaaDoorS0
set_option linter.all false
namespace Go.Proofs.YtgohohiaaiogcaaDoor.Vm
open Go Go.Ev
set_option maxRecDepth 100000
attribute [local go_sem] cells_any storable_any ren1_any shaped_ptr cells_ptr storable_ptr ren1_ptr shaped_eptr cells_eptr storable_eptr ren1_eptr shaped_rsl cells_rsl storable_rsl ren1_rsl shaped_int cells_int storable_int ren1_int shaped_bool cells_bool storable_bool ren1_bool shaped_nils cells_nils storable_nils ren1_nils shaped_lst cells_lst storable_lst shaped_fn cells_fn storable_fn ren1_fn shaped_ifc cells_ifc storable_ifc ren1_ifc shaped_agg cells_agg storable_agg ren1_agg shaped_tup cells_tup storable_tup ren1_tup shaped_nif cells_nif storable_nif ren1_nif ren1_lany ren1_lfull ren1_lown len_lst len_rsl len_nil load_ptr load_eptr isRsl_lst isRsl_nil isRsl_rsl elems_nil elems_lst elems_sl isRsl_sl body_eq bodyK_normal bodyK_ret resK_some leaveK_some only_some code_skip code_exit code_ret code_ops code_seq code_cond code_block seqK_normal seqK_ret seqK_exit condK_true condK_false blockK_normal blockK_ret blockK_exit opsK_some ops_nil ops_cons wantK_true wantK_false stepK_some pubs pub pub_sl params okRef_loc storable_loc shaped_loc cells_loc isRsl_loc elems_loc len_loc untips untip untip_sl wantedAV setElems withO isAgg_v isAgg_agg isAgg_lst isAgg_ptr isAgg_fn isAgg_ifc isAgg_rsl isAgg_sl isAgg_loc List.replicate_succ List.replicate_zero opAV valAV aval avals ofVal Env.get setD canon gcAV renAll renEnv renStore renCells ren1_sl cutSt okEnv okStore okRefs okRef okRef_sl bin_int bin_bool bin_lst bin_rsl bin_nil bin_agg cellsEq cellEq isShift intOp boolOp min_int max_int beq_int bne resAV tupAV leave_eq fin_sl fin_loc fins fin_v fin_lst fin_agg fin_tup fin_fn storeAV readCells putCells cells_sl shaped_sl storable_sl fieldAddrAV len_sl goI List.getElem?_cons_zero List.getElem?_cons_succ List.getElem?_nil Option.bind_some Option.map_some List.length_cons List.length_nil List.all_cons List.all_nil Bool.and_true Bool.true_and Bool.and_false Bool.false_and and_true true_and and_false false_and Bool.false_eq_true List.set_cons_zero List.set_cons_succ List.append_nil List.nil_append List.cons_append List.take_zero List.take_succ_cons List.take_nil List.drop_zero List.drop_succ_cons List.map_cons List.map_nil decide_true decide_false beq_self_eq_true Bool.not_true Bool.not_false or_true true_or or_false false_or Nat.zero_add Nat.add_zero Nat.le_refl Nat.lt_irrefl decide_eq_true_eq eq_self_iff_true not_true_eq_false not_false_eq_true List.getD_cons_zero code_loop Nat.zero_le Nat.not_lt_zero Bool.true_beq Bool.false_beq beq_true beq_false ge_iff_le gt_iff_lt Lpure pus Option.map_none assert_ifc assert_nil idxA_ptr idxA_eptr idxV_agg Int.cast_ofNat_Int Nat.mul_one Nat.zero_mul Int.toNat_natCast Int.toNat_zero setParts withO2 hasKey eqnil_sl nenil_sl eqnil_loc nenil_loc map_nil_iff okRefs_ints renCells_ints

abbrev prAV (a : Int × Int) : AV := .agg [I a.1, I a.2]
abbrev bkAV (nl : Bool) (n : Int) (ps : List (Int × Int)) : AV := .agg [I n, sl 2 nl (ps.map prAV)]
abbrev bkCells (nl : Bool) (n : Int) (ps : List (Int × Int)) : List AV := [I n, sl 2 nl (ps.map prAV)]

theorem succ64 (i : Nat) (h : i < 1000000) : IntKind.i64.wrap ((i : Int) + 1) = ((i + 1 : Nat) : Int) := by
  rw [wrap64] <;> omega
theorem index_prs (nl : Bool) (ps : List (Int × Int)) (i : Nat) (h : i < ps.length) : indexSAV 2 (sl 2 nl (ps.map prAV)) (.v (.int .i64 i)) = some (.eptr (.agg [.v (.int .i64 ps[i].1), .v (.int .i64 ps[i].2)]) 0) := by
  rw [index_sl _ _ _ _ _ (by omega) (by simpa using h)]
  simp
theorem index_ints (nl : Bool) (l : List Int) (i : Nat) (h : i < l.length) : indexSAV 1 (sl 1 nl (l.map I)) (.v (.int .i64 i)) = some (.eptr (I l[i]) 0) := by
  rw [index_sl _ _ _ _ _ (by omega) (by simpa using h)]
  simp
theorem slice_prs (nl : Bool) (ps : List (Int × Int)) (i : Nat) (h : i < ps.length) : sliceAV 2 (sl 2 nl (ps.map prAV)) none (some (.v (.int .i64 i))) none = some (sl 2 false ((ps.take i).map prAV)) := by
  have e : sl 2 nl (ps.map prAV) = .lst .any 2 (ps.map prAV) := by
    unfold sl; rw [if_neg]; rintro ⟨_, h2⟩
    simp at h2; subst h2; simp at h
  rw [e]
  simp [sliceAV, natOr, natOf, tagSlice, sl, List.map_take]
  omega

theorem loop87 (nl : Bool) (ps : List (Int × Int)) (hlen : ps.length < 1000000) (p q : Int) (i : Nat) (hok : i ≤ ps.length) (env : Env) (st : St)
    (hg : gcAV true 1 0 (canon env [0, 3, 7, 8]) st = ([(0, sl 2 nl (ps.map prAV)), (3, .ptr 0 0), (7, I ps.length), (8, I i)], ⟨[[I p, I q]], []⟩)) :
    ∃ x_1 en s, lim (headed pure (run L) true [0, 3, 7, 8] lp87_0 1 0) env st = some (x_1, en, s) ∧ (if (p, q) ∈ ps.drop i then x_1 = .ret ∧ ∃ k : Int, 0 ≤ k ∧ en.get 4 = I k else x_1 = .exit 0) := by
  refine loop_wp (α := Nat) (fun i => ps.length - i) (fun i => i ≤ ps.length) (fun i => ([(0, sl 2 nl (ps.map prAV)), (3, .ptr 0 0), (7, I ps.length), (8, I i)], ⟨[[I p, I q]], []⟩)) (fun i x_1 en s => if (p, q) ∈ ps.drop i then x_1 = .ret ∧ ∃ k : Int, 0 ≤ k ∧ en.get 4 = I k else x_1 = .exit 0) (fun i hok => ?_) i hok env st hg
  by_cases h : i < ps.length
  · have hx := index_prs nl ps i h
    have hs := succ64 i (by omega)
    have hd : ps.drop i = ps[i] :: ps.drop (i + 1) := List.drop_eq_getElem_cons h
    rw [hd]
    generalize ps[i] = a at *
    obtain ⟨u, v⟩ := a
    have hlt : ((i : Int) < (ps.length : Int)) = True := eq_true (by omega)
    simp only at hx
    by_cases e1 : p = u
    · by_cases e2 : q = v
      · subst e1; subst e2
        simp only [go_sem, reduceIte, Nat.reduceEqDiff, Nat.reduceAdd, Nat.reduceSub, Nat.reduceLeDiff, Nat.reduceLT, reduceCtorEq, Int.reduceLT, Int.reduceLE, Int.reduceEq, Int.reduceBEq, Int.reduceSub, Int.reduceAdd, Int.reduceMul, Int.reduceNeg, Int.reduceToNat, Nat.reduceMul, Nat.reduceBEq, index_rsl_if, setm, make_ints, condK_dec, wantK_dec, not_dec, and_dec, or_dec, seqK_ite, seqK_none, blockK_ite, blockK_none, opsK_ite, opsK_none, stepK_ite, stepK_none, bodyK_ite, bodyK_none, resK_ite, resK_none, leaveK_ite, leaveK_none, only_ite, only_none, bind_ite, gives_some, gives_none, gives_ite, then_normal, then_ret, then_exit, then_none, then_ite, Option.bind_none, Bool.not_eq_true', decide_eq_false_iff_not, Bool.and_eq_true, Bool.or_eq_true, Option.some.injEq, Int.not_lt, Int.not_le, lp87_0, hx, hlt]
        rw [if_pos (by simp)]
        exact ⟨(i : Int), by omega, rfl⟩
      · simp only [go_sem, reduceIte, Nat.reduceEqDiff, Nat.reduceAdd, Nat.reduceSub, Nat.reduceLeDiff, Nat.reduceLT, reduceCtorEq, Int.reduceLT, Int.reduceLE, Int.reduceEq, Int.reduceBEq, Int.reduceSub, Int.reduceAdd, Int.reduceMul, Int.reduceNeg, Int.reduceToNat, Nat.reduceMul, Nat.reduceBEq, index_rsl_if, setm, make_ints, condK_dec, wantK_dec, not_dec, and_dec, or_dec, seqK_ite, seqK_none, blockK_ite, blockK_none, opsK_ite, opsK_none, stepK_ite, stepK_none, bodyK_ite, bodyK_none, resK_ite, resK_none, leaveK_ite, leaveK_none, only_ite, only_none, bind_ite, gives_some, gives_none, gives_ite, then_normal, then_ret, then_exit, then_none, then_ite, Option.bind_none, Bool.not_eq_true', decide_eq_false_iff_not, Bool.and_eq_true, Bool.or_eq_true, Option.some.injEq, Int.not_lt, Int.not_le, lp87_0, hx, hlt, e1, e2, hs]
        refine ⟨i + 1, by simp only [go_sem, reduceIte, Nat.reduceEqDiff, Nat.reduceAdd, Nat.reduceSub, Nat.reduceLeDiff, Nat.reduceLT, reduceCtorEq, Int.reduceLT, Int.reduceLE, Int.reduceEq, Int.reduceBEq, Int.reduceSub, Int.reduceAdd, Int.reduceMul, Int.reduceNeg, Int.reduceToNat, Nat.reduceMul, Nat.reduceBEq, ren1_locm, loc_tips, locT_eq] <;> rfl, ?_, ?_, fun x en s hq => ?_⟩
        · omega
        · omega
        · simp only [List.mem_cons, Prod.mk.injEq, e2, and_false, false_or]; exact hq
    · simp only [go_sem, reduceIte, Nat.reduceEqDiff, Nat.reduceAdd, Nat.reduceSub, Nat.reduceLeDiff, Nat.reduceLT, reduceCtorEq, Int.reduceLT, Int.reduceLE, Int.reduceEq, Int.reduceBEq, Int.reduceSub, Int.reduceAdd, Int.reduceMul, Int.reduceNeg, Int.reduceToNat, Nat.reduceMul, Nat.reduceBEq, index_rsl_if, setm, make_ints, condK_dec, wantK_dec, not_dec, and_dec, or_dec, seqK_ite, seqK_none, blockK_ite, blockK_none, opsK_ite, opsK_none, stepK_ite, stepK_none, bodyK_ite, bodyK_none, resK_ite, resK_none, leaveK_ite, leaveK_none, only_ite, only_none, bind_ite, gives_some, gives_none, gives_ite, then_normal, then_ret, then_exit, then_none, then_ite, Option.bind_none, Bool.not_eq_true', decide_eq_false_iff_not, Bool.and_eq_true, Bool.or_eq_true, Option.some.injEq, Int.not_lt, Int.not_le, lp87_0, hx, hlt, e1, hs]
      refine ⟨i + 1, by simp only [go_sem, reduceIte, Nat.reduceEqDiff, Nat.reduceAdd, Nat.reduceSub, Nat.reduceLeDiff, Nat.reduceLT, reduceCtorEq, Int.reduceLT, Int.reduceLE, Int.reduceEq, Int.reduceBEq, Int.reduceSub, Int.reduceAdd, Int.reduceMul, Int.reduceNeg, Int.reduceToNat, Nat.reduceMul, Nat.reduceBEq, ren1_locm, loc_tips, locT_eq] <;> rfl, ?_, ?_, fun x en s hq => ?_⟩
      · omega
      · omega
      · simp only [List.mem_cons, Prod.mk.injEq, e1, false_and, false_or]; exact hq
  · have hd : ps.drop i = [] := List.drop_eq_nil_of_le (by omega)
    have hlt : ((i : Int) < (ps.length : Int)) = False := eq_false (by omega)
    simp only [go_sem, reduceIte, Nat.reduceEqDiff, Nat.reduceAdd, Nat.reduceSub, Nat.reduceLeDiff, Nat.reduceLT, reduceCtorEq, Int.reduceLT, Int.reduceLE, Int.reduceEq, Int.reduceBEq, Int.reduceSub, Int.reduceAdd, Int.reduceMul, Int.reduceNeg, Int.reduceToNat, Nat.reduceMul, Nat.reduceBEq, index_rsl_if, setm, make_ints, condK_dec, wantK_dec, not_dec, and_dec, or_dec, seqK_ite, seqK_none, blockK_ite, blockK_none, opsK_ite, opsK_none, stepK_ite, stepK_none, bodyK_ite, bodyK_none, resK_ite, resK_none, leaveK_ite, leaveK_none, only_ite, only_none, bind_ite, gives_some, gives_none, gives_ite, then_normal, then_ret, then_exit, then_none, then_ite, Option.bind_none, Bool.not_eq_true', decide_eq_false_iff_not, Bool.and_eq_true, Bool.or_eq_true, Option.some.injEq, Int.not_lt, Int.not_le, lp87_0, hlt]
    rw [hd]; simp

theorem c49 (nl : Bool) (ps : List (Int × Int)) (hlen : ps.length < 1000000) (p q : Int) (st : St) :
    run L 49 [sl 2 nl (ps.map prAV), .agg [I p, I q]] st = some (B (decide ((p, q) ∈ ps)), st) := by
  have h106 : ∀ st, ∃ k : Int, run L 87 [sl 2 nl (ps.map prAV), .agg [I p, I q]] st = some (I k, st) ∧ (0 ≤ k ↔ (p, q) ∈ ps) := by
    intro st
    rw [run_pure (fn := ir87) rfl rfl]
    simp only [ir87, go_sem, reduceIte, Nat.reduceEqDiff, Nat.reduceAdd, Nat.reduceSub, Nat.reduceLeDiff, Nat.reduceLT, reduceCtorEq, Int.reduceLT, Int.reduceLE, Int.reduceEq, Int.reduceBEq, Int.reduceSub, Int.reduceAdd, Int.reduceMul, Int.reduceNeg, Int.reduceToNat, Nat.reduceMul, Nat.reduceBEq, List.length_map]
    generalize hg : lim (headed pure (run L) true _ lp87_0 _ _) _ _ = o
    obtain ⟨x, en, s, rfl, h2⟩ : ∃ x en s, o = some (x, en, s) ∧ _ := by rw [← hg]; exact loop87 nl ps hlen p q 0 (by omega) _ _ (by simp only [go_sem, reduceIte, Nat.reduceEqDiff, Nat.reduceAdd, Nat.reduceSub, Nat.reduceLeDiff, Nat.reduceLT, reduceCtorEq, Int.reduceLT, Int.reduceLE, Int.reduceEq, Int.reduceBEq, Int.reduceSub, Int.reduceAdd, Int.reduceMul, Int.reduceNeg, Int.reduceToNat, Nat.reduceMul, Nat.reduceBEq] <;> rfl)
    clear hg
    rw [List.drop_zero] at h2
    by_cases h : (p, q) ∈ ps
    · rw [if_pos h] at h2
      obtain ⟨rfl, k, hk, h3⟩ := h2
      exact ⟨k, by simp only [go_sem, reduceIte, Nat.reduceEqDiff, Nat.reduceAdd, Nat.reduceSub, Nat.reduceLeDiff, Nat.reduceLT, reduceCtorEq, Int.reduceLT, Int.reduceLE, Int.reduceEq, Int.reduceBEq, Int.reduceSub, Int.reduceAdd, Int.reduceMul, Int.reduceNeg, Int.reduceToNat, Nat.reduceMul, Nat.reduceBEq, h3], by simp [h, hk]⟩
    · rw [if_neg h] at h2
      subst h2
      exact ⟨-1, by simp only [go_sem, reduceIte, Nat.reduceEqDiff, Nat.reduceAdd, Nat.reduceSub, Nat.reduceLeDiff, Nat.reduceLT, reduceCtorEq, Int.reduceLT, Int.reduceLE, Int.reduceEq, Int.reduceBEq, Int.reduceSub, Int.reduceAdd, Int.reduceMul, Int.reduceNeg, Int.reduceToNat, Nat.reduceMul, Nat.reduceBEq], by simp [h]⟩
  rw [run_pure (fn := ir49) rfl rfl]
  obtain ⟨k, h1, h2⟩ := h106 ⟨[[I p, I q]], []⟩
  simp only [ir49, go_sem, reduceIte, Nat.reduceEqDiff, Nat.reduceAdd, Nat.reduceSub, Nat.reduceLeDiff, Nat.reduceLT, reduceCtorEq, Int.reduceLT, Int.reduceLE, Int.reduceEq, Int.reduceBEq, Int.reduceSub, Int.reduceAdd, Int.reduceMul, Int.reduceNeg, Int.reduceToNat, Nat.reduceMul, Nat.reduceBEq, h1, h2]

def indexOf (a : Int) : List Int → Nat → Int
  | [], _ => -1
  | b :: r, i => if a = b then (i : Int) else indexOf a r (i + 1)
theorem indexOf_nonneg (a : Int) : ∀ (l : List Int) (i : Nat), (0 ≤ indexOf a l i) = (a ∈ l)
  | [], i => by simp [indexOf]
  | b :: r, i => by
    have ih := indexOf_nonneg a r (i + 1)
    simp only [indexOf]
    split
    · next h => simp [h]
    · next h => rw [ih]; simp [h]

theorem loop92 (nl : Bool) (l : List Int) (hlen : l.length < 1000000) (a : Int) (i : Nat) (hok : i ≤ l.length) (env : Env) (st : St)
    (hg : gcAV true 0 0 (canon env [0, 1, 7, 8]) st = ([(0, sl 1 nl (l.map I)), (1, I a), (7, I l.length), (8, I i)], ⟨[], []⟩)) :
    ∃ x_1 en s, lim (headed pure (run L) true [0, 1, 7, 8] lp92_0 0 0) env st = some (x_1, en, s) ∧ (if a ∈ l.drop i then x_1 = .ret ∧ en.get 4 = I (indexOf a (l.drop i) i) else x_1 = .exit 0) := by
  refine loop_wp (α := Nat) (fun i => l.length - i) (fun i => i ≤ l.length) (fun i => ([(0, sl 1 nl (l.map I)), (1, I a), (7, I l.length), (8, I i)], ⟨[], []⟩)) (fun i x_1 en s => if a ∈ l.drop i then x_1 = .ret ∧ en.get 4 = I (indexOf a (l.drop i) i) else x_1 = .exit 0) (fun i hok => ?_) i hok env st hg
  by_cases h : i < l.length
  · have hx := index_ints nl l i h
    have hs := succ64 i (by omega)
    have hd : l.drop i = l[i] :: l.drop (i + 1) := List.drop_eq_getElem_cons h
    have hlt : ((i : Int) < (l.length : Int)) = True := eq_true (by omega)
    rw [hd]
    generalize l[i] = b at *
    by_cases p : a = b
    · simp only [go_sem, reduceIte, Nat.reduceEqDiff, Nat.reduceAdd, Nat.reduceSub, Nat.reduceLeDiff, Nat.reduceLT, reduceCtorEq, Int.reduceLT, Int.reduceLE, Int.reduceEq, Int.reduceBEq, Int.reduceSub, Int.reduceAdd, Int.reduceMul, Int.reduceNeg, Int.reduceToNat, Nat.reduceMul, Nat.reduceBEq, index_rsl_if, setm, make_ints, condK_dec, wantK_dec, not_dec, and_dec, or_dec, seqK_ite, seqK_none, blockK_ite, blockK_none, opsK_ite, opsK_none, stepK_ite, stepK_none, bodyK_ite, bodyK_none, resK_ite, resK_none, leaveK_ite, leaveK_none, only_ite, only_none, bind_ite, gives_some, gives_none, gives_ite, then_normal, then_ret, then_exit, then_none, then_ite, Option.bind_none, Bool.not_eq_true', decide_eq_false_iff_not, Bool.and_eq_true, Bool.or_eq_true, Option.some.injEq, Int.not_lt, Int.not_le, lp92_0, hx, hlt, p]
      rw [if_pos (by simp)]; simp [indexOf]
    · have e : indexOf a (b :: l.drop (i + 1)) i = indexOf a (l.drop (i + 1)) (i + 1) := by simp only [indexOf]; rw [if_neg p]
      simp only [go_sem, reduceIte, Nat.reduceEqDiff, Nat.reduceAdd, Nat.reduceSub, Nat.reduceLeDiff, Nat.reduceLT, reduceCtorEq, Int.reduceLT, Int.reduceLE, Int.reduceEq, Int.reduceBEq, Int.reduceSub, Int.reduceAdd, Int.reduceMul, Int.reduceNeg, Int.reduceToNat, Nat.reduceMul, Nat.reduceBEq, index_rsl_if, setm, make_ints, condK_dec, wantK_dec, not_dec, and_dec, or_dec, seqK_ite, seqK_none, blockK_ite, blockK_none, opsK_ite, opsK_none, stepK_ite, stepK_none, bodyK_ite, bodyK_none, resK_ite, resK_none, leaveK_ite, leaveK_none, only_ite, only_none, bind_ite, gives_some, gives_none, gives_ite, then_normal, then_ret, then_exit, then_none, then_ite, Option.bind_none, Bool.not_eq_true', decide_eq_false_iff_not, Bool.and_eq_true, Bool.or_eq_true, Option.some.injEq, Int.not_lt, Int.not_le, lp92_0, hx, hlt, p, hs]
      refine ⟨i + 1, by simp only [go_sem, reduceIte, Nat.reduceEqDiff, Nat.reduceAdd, Nat.reduceSub, Nat.reduceLeDiff, Nat.reduceLT, reduceCtorEq, Int.reduceLT, Int.reduceLE, Int.reduceEq, Int.reduceBEq, Int.reduceSub, Int.reduceAdd, Int.reduceMul, Int.reduceNeg, Int.reduceToNat, Nat.reduceMul, Nat.reduceBEq, ren1_locm, loc_tips, locT_eq] <;> rfl, ?_, ?_, fun x en s hq => ?_⟩
      · omega
      · omega
      · rw [e]; simp only [List.mem_cons, p, false_or]; exact hq
  · have hd : l.drop i = [] := List.drop_eq_nil_of_le (by omega)
    have hlt : ((i : Int) < (l.length : Int)) = False := eq_false (by omega)
    simp only [go_sem, reduceIte, Nat.reduceEqDiff, Nat.reduceAdd, Nat.reduceSub, Nat.reduceLeDiff, Nat.reduceLT, reduceCtorEq, Int.reduceLT, Int.reduceLE, Int.reduceEq, Int.reduceBEq, Int.reduceSub, Int.reduceAdd, Int.reduceMul, Int.reduceNeg, Int.reduceToNat, Nat.reduceMul, Nat.reduceBEq, index_rsl_if, setm, make_ints, condK_dec, wantK_dec, not_dec, and_dec, or_dec, seqK_ite, seqK_none, blockK_ite, blockK_none, opsK_ite, opsK_none, stepK_ite, stepK_none, bodyK_ite, bodyK_none, resK_ite, resK_none, leaveK_ite, leaveK_none, only_ite, only_none, bind_ite, gives_some, gives_none, gives_ite, then_normal, then_ret, then_exit, then_none, then_ite, Option.bind_none, Bool.not_eq_true', decide_eq_false_iff_not, Bool.and_eq_true, Bool.or_eq_true, Option.some.injEq, Int.not_lt, Int.not_le, lp92_0, hlt]
    rw [hd]; simp

theorem c92 (nl : Bool) (l : List Int) (hlen : l.length < 1000000) (a : Int) (st : St) : run L 92 [sl 1 nl (l.map I), I a] st = some (I (indexOf a l 0), st) := by
  rw [run_pure (fn := ir92) rfl rfl]
  simp only [ir92, go_sem, reduceIte, Nat.reduceEqDiff, Nat.reduceAdd, Nat.reduceSub, Nat.reduceLeDiff, Nat.reduceLT, reduceCtorEq, Int.reduceLT, Int.reduceLE, Int.reduceEq, Int.reduceBEq, Int.reduceSub, Int.reduceAdd, Int.reduceMul, Int.reduceNeg, Int.reduceToNat, Nat.reduceMul, Nat.reduceBEq, List.length_map]
  generalize hg : lim (headed pure (run L) true _ lp92_0 _ _) _ _ = o
  obtain ⟨x, en, s, rfl, h2⟩ : ∃ x en s, o = some (x, en, s) ∧ _ := by rw [← hg]; exact loop92 nl l hlen a 0 (by omega) _ _ (by simp only [go_sem, reduceIte, Nat.reduceEqDiff, Nat.reduceAdd, Nat.reduceSub, Nat.reduceLeDiff, Nat.reduceLT, reduceCtorEq, Int.reduceLT, Int.reduceLE, Int.reduceEq, Int.reduceBEq, Int.reduceSub, Int.reduceAdd, Int.reduceMul, Int.reduceNeg, Int.reduceToNat, Nat.reduceMul, Nat.reduceBEq] <;> rfl)
  clear hg
  rw [List.drop_zero] at h2
  by_cases h : a ∈ l
  · rw [if_pos h] at h2
    obtain ⟨rfl, h3⟩ := h2
    simp only [go_sem, reduceIte, Nat.reduceEqDiff, Nat.reduceAdd, Nat.reduceSub, Nat.reduceLeDiff, Nat.reduceLT, reduceCtorEq, Int.reduceLT, Int.reduceLE, Int.reduceEq, Int.reduceBEq, Int.reduceSub, Int.reduceAdd, Int.reduceMul, Int.reduceNeg, Int.reduceToNat, Nat.reduceMul, Nat.reduceBEq, h3]
  · rw [if_neg h] at h2
    subst h2
    have e : indexOf a l 0 = -1 := by
      have : ∀ (l : List Int) (i : Nat), a ∉ l → indexOf a l i = -1 := by
        intro l
        induction l with
        | nil => intro i _; rfl
        | cons b r ih =>
          intro i hn
          simp only [List.mem_cons, not_or] at hn
          simp only [indexOf]; rw [if_neg hn.1]; exact ih _ hn.2
      exact this l 0 h
    simp only [go_sem, reduceIte, Nat.reduceEqDiff, Nat.reduceAdd, Nat.reduceSub, Nat.reduceLeDiff, Nat.reduceLT, reduceCtorEq, Int.reduceLT, Int.reduceLE, Int.reduceEq, Int.reduceBEq, Int.reduceSub, Int.reduceAdd, Int.reduceMul, Int.reduceNeg, Int.reduceToNat, Nat.reduceMul, Nat.reduceBEq, e]
theorem c57 (nl : Bool) (l : List Int) (hlen : l.length < 1000000) (a : Int) (st : St) : run L 57 [sl 1 nl (l.map I), I a] st = some (B (decide (a ∈ l)), st) := by
  rw [run_pure (fn := ir57) rfl rfl]
  have h46 := fun st => c92 nl l hlen a st
  have hn := indexOf_nonneg a l 0
  simp only [ir57, go_sem, reduceIte, Nat.reduceEqDiff, Nat.reduceAdd, Nat.reduceSub, Nat.reduceLeDiff, Nat.reduceLT, reduceCtorEq, Int.reduceLT, Int.reduceLE, Int.reduceEq, Int.reduceBEq, Int.reduceSub, Int.reduceAdd, Int.reduceMul, Int.reduceNeg, Int.reduceToNat, Nat.reduceMul, Nat.reduceBEq, h46, hn]


/-- What is wrong with a pair behind others; with pairs; with a book. -/
def prErr (n : Int) (seen : List (Int × Int)) (p : Int × Int) : Int := if p.1 < 0 ∨ p.2 < 0 ∨ n ≤ p.1 ∨ n ≤ p.2 then 2 else if p.1 = p.2 then 5 else if p ∈ seen then 6 else 0
def prsErr (n : Int) : List (Int × Int) → List (Int × Int) → Int
  | _, [] => 0
  | seen, p :: r => if prErr n seen p = 0 then prsErr n (seen ++ [p]) r else prErr n seen p
def chk (n : Int) (ps : List (Int × Int)) : Int := if n < 1 ∨ 7 < n then 1 else if 16 < ps.length then 3 else prsErr n [] ps

theorem loop24 (nl : Bool) (n : Int) (hn : 1 ≤ n ∧ n ≤ 7) (ps : List (Int × Int)) (hlen : ps.length ≤ 16) (i : Nat) (hok : i ≤ ps.length) (env : Env) (st : St)
    (hg : gcAV true 1 0 (canon env [1, 20, 21, 22]) st = ([(1, .ptr 0 0), (20, sl 2 nl (ps.map prAV)), (21, I ps.length), (22, I i)], ⟨[bkCells nl n ps], []⟩)) :
    ∃ x_1 en s, lim (headed pure (run L) true [1, 20, 21, 22] lp24_0 1 0) env st = some (x_1, en, s) ∧ (if prsErr n (ps.take i) (ps.drop i) = 0 then x_1 = .exit 1 else x_1 = .ret ∧ en.get 2 = I (prsErr n (ps.take i) (ps.drop i))) := by
  refine loop_wp (α := Nat) (fun i => ps.length - i) (fun i => i ≤ ps.length) (fun i => ([(1, .ptr 0 0), (20, sl 2 nl (ps.map prAV)), (21, I ps.length), (22, I i)], ⟨[bkCells nl n ps], []⟩)) (fun i x_1 en s => if prsErr n (ps.take i) (ps.drop i) = 0 then x_1 = .exit 1 else x_1 = .ret ∧ en.get 2 = I (prsErr n (ps.take i) (ps.drop i))) (fun i hok => ?_) i hok env st hg
  by_cases h : i < ps.length
  · have hx := index_prs nl ps i h
    have hs := succ64 i (by omega)
    have hd : ps.drop i = ps[i] :: ps.drop (i + 1) := List.drop_eq_getElem_cons h
    have ht : ps.take (i + 1) = ps.take i ++ [ps[i]] := by rw [List.take_succ_eq_append_getElem h]
    have hsl := slice_prs nl ps i h
    have h76 := fun p q st => c49 false (ps.take i) (by rw [List.length_take]; omega) p q st
    rw [hd]
    generalize ps[i] = c at *
    obtain ⟨u, v⟩ := c
    have hlt : ((i : Int) < (ps.length : Int)) = True := eq_true (by omega)
    simp only at hx
    have hmn : (if v < u then v else u) = min u v := by rw [Int.min_def]; split <;> split <;> omega
    have hmx : (if u < v then v else u) = max u v := by rw [Int.max_def]; split <;> split <;> omega
    by_cases p1 : min u v < 0
    · have he : prErr n (ps.take i) (u, v) = 2 := by unfold prErr; simp only; rw [if_pos (by omega)]
      simp only [go_sem, reduceIte, Nat.reduceEqDiff, Nat.reduceAdd, Nat.reduceSub, Nat.reduceLeDiff, Nat.reduceLT, reduceCtorEq, Int.reduceLT, Int.reduceLE, Int.reduceEq, Int.reduceBEq, Int.reduceSub, Int.reduceAdd, Int.reduceMul, Int.reduceNeg, Int.reduceToNat, Nat.reduceMul, Nat.reduceBEq, index_rsl_if, setm, make_ints, condK_dec, wantK_dec, not_dec, and_dec, or_dec, seqK_ite, seqK_none, blockK_ite, blockK_none, opsK_ite, opsK_none, stepK_ite, stepK_none, bodyK_ite, bodyK_none, resK_ite, resK_none, leaveK_ite, leaveK_none, only_ite, only_none, bind_ite, gives_some, gives_none, gives_ite, then_normal, then_ret, then_exit, then_none, then_ite, Option.bind_none, Bool.not_eq_true', decide_eq_false_iff_not, Bool.and_eq_true, Bool.or_eq_true, Option.some.injEq, Int.not_lt, Int.not_le, lp24_0, hx, hlt, p1, hmn, hmx, List.length_map]
      simp [prsErr, he]
    by_cases p1b : n ≤ max u v
    · have he : prErr n (ps.take i) (u, v) = 2 := by unfold prErr; simp only; rw [if_pos (by omega)]
      simp only [go_sem, reduceIte, Nat.reduceEqDiff, Nat.reduceAdd, Nat.reduceSub, Nat.reduceLeDiff, Nat.reduceLT, reduceCtorEq, Int.reduceLT, Int.reduceLE, Int.reduceEq, Int.reduceBEq, Int.reduceSub, Int.reduceAdd, Int.reduceMul, Int.reduceNeg, Int.reduceToNat, Nat.reduceMul, Nat.reduceBEq, index_rsl_if, setm, make_ints, condK_dec, wantK_dec, not_dec, and_dec, or_dec, seqK_ite, seqK_none, blockK_ite, blockK_none, opsK_ite, opsK_none, stepK_ite, stepK_none, bodyK_ite, bodyK_none, resK_ite, resK_none, leaveK_ite, leaveK_none, only_ite, only_none, bind_ite, gives_some, gives_none, gives_ite, then_normal, then_ret, then_exit, then_none, then_ite, Option.bind_none, Bool.not_eq_true', decide_eq_false_iff_not, Bool.and_eq_true, Bool.or_eq_true, Option.some.injEq, Int.not_lt, Int.not_le, lp24_0, hx, hlt, p1, p1b, hmn, hmx, List.length_map]
      simp [prsErr, he]
    by_cases p2 : u = v
    · have he : prErr n (ps.take i) (u, v) = 5 := by unfold prErr; simp only; rw [if_neg (by omega), if_pos p2]
      have p2' : (u = v) = True := eq_true p2
      simp only [go_sem, reduceIte, Nat.reduceEqDiff, Nat.reduceAdd, Nat.reduceSub, Nat.reduceLeDiff, Nat.reduceLT, reduceCtorEq, Int.reduceLT, Int.reduceLE, Int.reduceEq, Int.reduceBEq, Int.reduceSub, Int.reduceAdd, Int.reduceMul, Int.reduceNeg, Int.reduceToNat, Nat.reduceMul, Nat.reduceBEq, index_rsl_if, setm, make_ints, condK_dec, wantK_dec, not_dec, and_dec, or_dec, seqK_ite, seqK_none, blockK_ite, blockK_none, opsK_ite, opsK_none, stepK_ite, stepK_none, bodyK_ite, bodyK_none, resK_ite, resK_none, leaveK_ite, leaveK_none, only_ite, only_none, bind_ite, gives_some, gives_none, gives_ite, then_normal, then_ret, then_exit, then_none, then_ite, Option.bind_none, Bool.not_eq_true', decide_eq_false_iff_not, Bool.and_eq_true, Bool.or_eq_true, Option.some.injEq, Int.not_lt, Int.not_le, lp24_0, hx, hlt, p1, p1b, hmn, hmx, p2', List.length_map]
      simp [prsErr, he]
    · by_cases p3 : (u, v) ∈ ps.take i
      · have he : prErr n (ps.take i) (u, v) = 6 := by unfold prErr; simp only; rw [if_neg (by omega), if_neg p2, if_pos p3]
        simp only [go_sem, reduceIte, Nat.reduceEqDiff, Nat.reduceAdd, Nat.reduceSub, Nat.reduceLeDiff, Nat.reduceLT, reduceCtorEq, Int.reduceLT, Int.reduceLE, Int.reduceEq, Int.reduceBEq, Int.reduceSub, Int.reduceAdd, Int.reduceMul, Int.reduceNeg, Int.reduceToNat, Nat.reduceMul, Nat.reduceBEq, index_rsl_if, setm, make_ints, condK_dec, wantK_dec, not_dec, and_dec, or_dec, seqK_ite, seqK_none, blockK_ite, blockK_none, opsK_ite, opsK_none, stepK_ite, stepK_none, bodyK_ite, bodyK_none, resK_ite, resK_none, leaveK_ite, leaveK_none, only_ite, only_none, bind_ite, gives_some, gives_none, gives_ite, then_normal, then_ret, then_exit, then_none, then_ite, Option.bind_none, Bool.not_eq_true', decide_eq_false_iff_not, Bool.and_eq_true, Bool.or_eq_true, Option.some.injEq, Int.not_lt, Int.not_le, lp24_0, hx, hlt, p1, p1b, hmn, hmx, p2, hsl, h76, p3, List.length_map]
        simp [prsErr, he]
      · have he : prErr n (ps.take i) (u, v) = 0 := by unfold prErr; simp only; rw [if_neg (by omega), if_neg p2, if_neg p3]
        simp only [go_sem, reduceIte, Nat.reduceEqDiff, Nat.reduceAdd, Nat.reduceSub, Nat.reduceLeDiff, Nat.reduceLT, reduceCtorEq, Int.reduceLT, Int.reduceLE, Int.reduceEq, Int.reduceBEq, Int.reduceSub, Int.reduceAdd, Int.reduceMul, Int.reduceNeg, Int.reduceToNat, Nat.reduceMul, Nat.reduceBEq, index_rsl_if, setm, make_ints, condK_dec, wantK_dec, not_dec, and_dec, or_dec, seqK_ite, seqK_none, blockK_ite, blockK_none, opsK_ite, opsK_none, stepK_ite, stepK_none, bodyK_ite, bodyK_none, resK_ite, resK_none, leaveK_ite, leaveK_none, only_ite, only_none, bind_ite, gives_some, gives_none, gives_ite, then_normal, then_ret, then_exit, then_none, then_ite, Option.bind_none, Bool.not_eq_true', decide_eq_false_iff_not, Bool.and_eq_true, Bool.or_eq_true, Option.some.injEq, Int.not_lt, Int.not_le, lp24_0, hx, hlt, p1, p1b, hmn, hmx, p2, hsl, h76, p3, hs, List.length_map]
        refine ⟨i + 1, by simp only [go_sem, reduceIte, Nat.reduceEqDiff, Nat.reduceAdd, Nat.reduceSub, Nat.reduceLeDiff, Nat.reduceLT, reduceCtorEq, Int.reduceLT, Int.reduceLE, Int.reduceEq, Int.reduceBEq, Int.reduceSub, Int.reduceAdd, Int.reduceMul, Int.reduceNeg, Int.reduceToNat, Nat.reduceMul, Nat.reduceBEq, ren1_locm, loc_tips, locT_eq] <;> rfl, ?_, ?_, fun x en s hq => ?_⟩
        · omega
        · omega
        · have e2 : prsErr n (ps.take i) ((u, v) :: ps.drop (i + 1)) = prsErr n (ps.take (i + 1)) (ps.drop (i + 1)) := by simp only [prsErr, he, if_true, ht]
          rw [e2]; exact hq
  · have hd : ps.drop i = [] := List.drop_eq_nil_of_le (by omega)
    have hlt : ((i : Int) < (ps.length : Int)) = False := eq_false (by omega)
    simp only [go_sem, reduceIte, Nat.reduceEqDiff, Nat.reduceAdd, Nat.reduceSub, Nat.reduceLeDiff, Nat.reduceLT, reduceCtorEq, Int.reduceLT, Int.reduceLE, Int.reduceEq, Int.reduceBEq, Int.reduceSub, Int.reduceAdd, Int.reduceMul, Int.reduceNeg, Int.reduceToNat, Nat.reduceMul, Nat.reduceBEq, index_rsl_if, setm, make_ints, condK_dec, wantK_dec, not_dec, and_dec, or_dec, seqK_ite, seqK_none, blockK_ite, blockK_none, opsK_ite, opsK_none, stepK_ite, stepK_none, bodyK_ite, bodyK_none, resK_ite, resK_none, leaveK_ite, leaveK_none, only_ite, only_none, bind_ite, gives_some, gives_none, gives_ite, then_normal, then_ret, then_exit, then_none, then_ite, Option.bind_none, Bool.not_eq_true', decide_eq_false_iff_not, Bool.and_eq_true, Bool.or_eq_true, Option.some.injEq, Int.not_lt, Int.not_le, lp24_0, hlt, List.length_map]
    rw [hd]; simp [prsErr]

theorem c24 (nl : Bool) (n : Int) (ps : List (Int × Int)) (st : St) :
    run L 24 [bkAV nl n ps] st = some (I (chk n ps), st) := by
  rw [run_pure (fn := ir24) rfl rfl]
  unfold chk
  by_cases p0 : n < 1 ∨ 7 < n
  · rw [if_pos p0]
    by_cases a : n < 1
    · simp only [ir24, go_sem, reduceIte, Nat.reduceEqDiff, Nat.reduceAdd, Nat.reduceSub, Nat.reduceLeDiff, Nat.reduceLT, reduceCtorEq, Int.reduceLT, Int.reduceLE, Int.reduceEq, Int.reduceBEq, Int.reduceSub, Int.reduceAdd, Int.reduceMul, Int.reduceNeg, Int.reduceToNat, Nat.reduceMul, Nat.reduceBEq, a]
    · simp only [ir24, go_sem, reduceIte, Nat.reduceEqDiff, Nat.reduceAdd, Nat.reduceSub, Nat.reduceLeDiff, Nat.reduceLT, reduceCtorEq, Int.reduceLT, Int.reduceLE, Int.reduceEq, Int.reduceBEq, Int.reduceSub, Int.reduceAdd, Int.reduceMul, Int.reduceNeg, Int.reduceToNat, Nat.reduceMul, Nat.reduceBEq, a, show (7 < n) = True from eq_true (by omega)]
  · rw [if_neg p0]
    by_cases p1 : 16 < ps.length
    · have q1 : ((16 : Int) < (ps.length : Int)) = True := eq_true (by omega)
      rw [if_pos p1]
      simp only [ir24, go_sem, reduceIte, Nat.reduceEqDiff, Nat.reduceAdd, Nat.reduceSub, Nat.reduceLeDiff, Nat.reduceLT, reduceCtorEq, Int.reduceLT, Int.reduceLE, Int.reduceEq, Int.reduceBEq, Int.reduceSub, Int.reduceAdd, Int.reduceMul, Int.reduceNeg, Int.reduceToNat, Nat.reduceMul, Nat.reduceBEq, show (n < 1) = False from eq_false (by omega), show (7 < n) = False from eq_false (by omega), q1, List.length_map]
    · have q1 : ((16 : Int) < (ps.length : Int)) = False := eq_false (by omega)
      rw [if_neg p1]
      simp only [ir24, go_sem, reduceIte, Nat.reduceEqDiff, Nat.reduceAdd, Nat.reduceSub, Nat.reduceLeDiff, Nat.reduceLT, reduceCtorEq, Int.reduceLT, Int.reduceLE, Int.reduceEq, Int.reduceBEq, Int.reduceSub, Int.reduceAdd, Int.reduceMul, Int.reduceNeg, Int.reduceToNat, Nat.reduceMul, Nat.reduceBEq, show (n < 1) = False from eq_false (by omega), show (7 < n) = False from eq_false (by omega), q1, List.length_map]
      generalize hg : lim (headed pure (run L) true _ lp24_0 _ _) _ _ = o
      obtain ⟨x, en, s, rfl, h2⟩ : ∃ x en s, o = some (x, en, s) ∧ _ := by rw [← hg]; exact loop24 nl n (by omega) ps (by omega) 0 (by omega) _ _ (by simp only [go_sem, reduceIte, Nat.reduceEqDiff, Nat.reduceAdd, Nat.reduceSub, Nat.reduceLeDiff, Nat.reduceLT, reduceCtorEq, Int.reduceLT, Int.reduceLE, Int.reduceEq, Int.reduceBEq, Int.reduceSub, Int.reduceAdd, Int.reduceMul, Int.reduceNeg, Int.reduceToNat, Nat.reduceMul, Nat.reduceBEq] <;> rfl)
      clear hg
      simp only [List.drop_zero, List.take_zero] at h2
      by_cases h : prsErr n [] ps = 0
      · rw [if_pos h] at h2
        subst h2
        simp only [go_sem, reduceIte, Nat.reduceEqDiff, Nat.reduceAdd, Nat.reduceSub, Nat.reduceLeDiff, Nat.reduceLT, reduceCtorEq, Int.reduceLT, Int.reduceLE, Int.reduceEq, Int.reduceBEq, Int.reduceSub, Int.reduceAdd, Int.reduceMul, Int.reduceNeg, Int.reduceToNat, Nat.reduceMul, Nat.reduceBEq, h]
      · rw [if_neg h] at h2
        obtain ⟨rfl, h3⟩ := h2
        simp only [go_sem, reduceIte, Nat.reduceEqDiff, Nat.reduceAdd, Nat.reduceSub, Nat.reduceLeDiff, Nat.reduceLT, reduceCtorEq, Int.reduceLT, Int.reduceLE, Int.reduceEq, Int.reduceBEq, Int.reduceSub, Int.reduceAdd, Int.reduceMul, Int.reduceNeg, Int.reduceToNat, Nat.reduceMul, Nat.reduceBEq, h3]


theorem run_args {f : FuncId} {fn : IF} (hf : L.fns f = some fn) (hp : L.pure f = true) {args args' : List AV} (st : St) (h : pubs args = pubs args') : run L f args st = run L f args' st := by
  rw [run_pure hf hp, run_pure hf hp, h]
/-! ### a book by numbers -/
abbrev B8 (n : Int) : AV := .v (.int .u8 n)
def Byte (n : Int) : Prop := 0 ≤ n ∧ n ≤ 255
abbrev qAV (zs : List Int) : AV := .agg (zs.map B8)
theorem okRefsB (n : Nat) (xs : List Int) : okRefs n (xs.map B8) = true := okRefs_map B8 n (fun _ => rfl) xs
theorem renCellsB (n : Nat) (tips : List Nat) (acc : List (Nat × Nat)) (xs : List Int) : renCells n tips acc (xs.map B8) = (xs.map B8, acc) := renCells_map B8 n tips (fun _ _ => rfl) xs acc
theorem pubsB (xs : List Int) : pubs (xs.map B8) = xs.map B8 := pubs_map B8 (fun _ => rfl) xs
theorem storableB (xs : List Int) : (xs.map B8).all storable = true := by
  rw [List.all_eq_true]; intro x hx; rw [List.mem_map] at hx; obtain ⟨n, _, rfl⟩ := hx; rfl
theorem getB (zs : List Int) (a : Nat) (h : a < zs.length) : (zs.map B8)[a]? = some (B8 (zs.getD a 0)) := by
  rw [getm B8 zs 0 a, if_pos h]
theorem byte_getD {l : List Int} (h : ∀ n ∈ l, Byte n) (i : Nat) : Byte (l.getD i 0) := by
  rw [List.getD_eq_getElem?_getD]
  by_cases hi : i < l.length
  · rw [List.getElem?_eq_getElem hi]; exact h _ (List.getElem_mem hi)
  · rw [List.getElem?_eq_none (by omega)]; exact ⟨by simp, by simp⟩
theorem mod_range (a b : Int) (hb : 0 < b) : 0 ≤ a % b ∧ a % b < b := ⟨Int.emod_nonneg a (by omega), Int.emod_lt_of_pos a hb⟩

/-! ### a list of pairs that grows in a struct -/
def outAV (o : List (Int × Int)) : AV := loc 2 0 (o.map prAV)
def outT (o : List (Int × Int)) : List Nat := locT 0 (o.map prAV)
def outAcc (o : List (Int × Int)) : List (Nat × Nat) := if (o.map prAV).length = 0 then [] else [(0, (o.map prAV).length)]
theorem okRef_out (n : Nat) (o : List (Int × Int)) : okRef n (outAV o) = true := okRef_loc _ _ _ _
theorem storable_out (o : List (Int × Int)) : storable (outAV o) = true := storable_loc _ _ _
theorem shaped_out (o : List (Int × Int)) : (outAV o).shaped = true := shaped_loc _ _ _
theorem cells_out (o : List (Int × Int)) : (outAV o).cells = [outAV o] := cells_loc _ _ _
theorem ren1_out (o : List (Int × Int)) : ren1 0 (outT o) [] (outAV o) = (outAV o, outAcc o) := ren1_loc (k := 0) 2 (o.map prAV)
theorem outAcc_snd (o : List (Int × Int)) : (outAcc o).map (fun x => x.2) = outT o := by
  unfold outAcc outT locT; split <;> rfl
theorem fin_out (st : St) (o : List (Int × Int)) : fin st (outAV o) = sl 2 true (o.map prAV) := fin_loc st 2 0 _
theorem pub_out (o : List (Int × Int)) : pub (outAV o) = sl 2 true (o.map prAV) := pub_loc 2 0 _
theorem append_out (o : List (Int × Int)) (x y : Int) (s : List (List AV)) (h : o.length < 1000) : appendAV 2 (outAV o) [.agg [I x, I y]] ⟨s, outT o⟩ = some (outAV (o ++ [(x, y)]), ⟨s, outT (o ++ [(x, y)])⟩) :=
  append_locm (z := 2) (k := 0) prAV o (x, y) s (by omega) (by unfold maxGrow; omega)
theorem out_start : .v (.slice none 0 0) = outAV [] := rfl
theorem outT_nil : outT [] = [] := rfl
attribute [local go_sem] okRef_out storable_out shaped_out cells_out fin_out pub_out

/-- One more pair, if it is one and not there yet. -/
def mkStep (n : Int) (out : List (Int × Int)) (a b : Int) : List (Int × Int) :=
  if a % n ≠ b % n ∧ (a % n, b % n) ∉ out then out ++ [(a % n, b % n)] else out
def madeTo (n : Int) (zs : List Int) : Nat → List (Int × Int)
  | 0 => []
  | k + 1 => mkStep n (madeTo n zs k) (zs.getD (2 + k * 2) 0) (zs.getD (3 + k * 2) 0)
theorem madeTo_len (n : Int) (zs : List Int) : ∀ k, (madeTo n zs k).length ≤ k
  | 0 => by simp [madeTo]
  | k + 1 => by
    have := madeTo_len n zs k
    simp only [madeTo, mkStep]; split
    · simp; omega
    · omega
theorem tmod8 {a n : Int} (h : 0 ≤ a) : a.tmod n = a % n := Int.tmod_eq_emod_of_nonneg h

theorem loop45 (zs : List Int) (hzl : zs.length = 34) (hz : ∀ a ∈ zs, Byte a) (n : Int) (hn : 1 ≤ n ∧ n ≤ 7) (k : Nat) (hk : k ≤ 16) (i : Nat) (hok : i ≤ k) (env : Env) (st : St)
    (hg : gcAV true 3 0 (canon env [4, 5, 21, 22, 23]) st = ([(4, .ptr 1 0), (5, .ptr 2 0), (21, .rsl 0 2 k 16 2 true), (22, I k), (23, I i)], ⟨[zs.map B8, [I 0, sl 2 true []], [I n, outAV (madeTo n zs i)]], outT (madeTo n zs i)⟩)) :
    ∃ x_1 en s, lim (headed pure (run L) true [4, 5, 21, 22, 23] lp45_0 3 0) env st = some (x_1, en, s) ∧ (x_1 = .exit 0 ∧ en.get 4 = .ptr 1 0 ∧ en.get 5 = .ptr 2 0 ∧ s = ⟨[zs.map B8, [I 0, sl 2 true []], [I n, outAV (madeTo n zs k)]], outT (madeTo n zs k)⟩) := by
  refine loop_wp (α := Nat) (fun i => k - i) (fun i => i ≤ k) (fun i => ([(4, .ptr 1 0), (5, .ptr 2 0), (21, .rsl 0 2 k 16 2 true), (22, I k), (23, I i)], ⟨[zs.map B8, [I 0, sl 2 true []], [I n, outAV (madeTo n zs i)]], outT (madeTo n zs i)⟩)) (fun i x_1 en s => x_1 = .exit 0 ∧ en.get 4 = .ptr 1 0 ∧ en.get 5 = .ptr 2 0 ∧ s = ⟨[zs.map B8, [I 0, sl 2 true []], [I n, outAV (madeTo n zs k)]], outT (madeTo n zs k)⟩) (fun i hok => ?_) i hok env st hg
  by_cases h : i < k
  · have hs := succ64 i (by omega)
    have hlt : ((i : Int) < (k : Int)) = True := eq_true (by omega)
    have hi0 : ((0 : Int) ≤ (i : Int)) = True := eq_true (by omega)
    have hml := madeTo_len n zs i
    have hb1 : (2 + i * 2 + 2 ≤ 34) = True := eq_true (by omega)
    have hpair : ((zs.map B8).drop (2 + i * 2)).take 2 = [B8 (zs.getD (2 + i * 2) 0), B8 (zs.getD (3 + i * 2) 0)] := by
      have h1 : 2 + i * 2 < zs.length := by omega
      have h2 : 2 + i * 2 + 1 < zs.length := by omega
      have hd : zs.drop (2 + i * 2) = zs[2 + i * 2] :: zs[2 + i * 2 + 1] :: zs.drop (2 + i * 2 + 1 + 1) := by
        rw [List.drop_eq_getElem_cons h1, List.drop_eq_getElem_cons h2]
      have e1 : zs.getD (2 + i * 2) 0 = zs[2 + i * 2] := by rw [List.getD_eq_getElem?_getD, List.getElem?_eq_getElem h1]; rfl
      have e2 : zs.getD (3 + i * 2) 0 = zs[2 + i * 2 + 1] := by rw [show 3 + i * 2 = 2 + i * 2 + 1 by omega, List.getD_eq_getElem?_getD, List.getElem?_eq_getElem h2]; rfl
      rw [← List.map_drop, hd, e1, e2]
      rfl
    have ba := byte_getD hz (2 + i * 2)
    have bb := byte_getD hz (3 + i * 2)
    have hsucc : madeTo n zs (i + 1) = mkStep n (madeTo n zs i) (zs.getD (2 + i * 2) 0) (zs.getD (3 + i * 2) 0) := rfl
    generalize zs.getD (2 + i * 2) 0 = a at *
    generalize zs.getD (3 + i * 2) 0 = b at *
    unfold Byte at ba bb
    have wa := wrap64 a (by omega) (by omega)
    have wb := wrap64 b (by omega) (by omega)
    have zn : (n = 0) = False := eq_false (by omega)
    have ta : a.tmod n = a % n := tmod8 (by omega)
    have tb : b.tmod n = b % n := tmod8 (by omega)
    have ra := mod_range a n (by omega)
    have rb := mod_range b n (by omega)
    generalize madeTo n zs i = out at *
    have h49 : ∀ st, run L 49 [outAV out, .agg [I (a % n), I (b % n)]] st = some (B (decide ((a % n, b % n) ∈ out)), st) := fun st => by
      rw [← c49 true out (by omega) (a % n) (b % n) st]
      exact run_args (fn := ir49) rfl rfl st (by simp only [pubs, pub_out, pub_sl])
    have happ := fun s => append_out out (a % n) (b % n) s (by omega)
    unfold mkStep at hsucc
    generalize a % n = x at *
    generalize b % n = y at *
    by_cases p1 : x = y
    · rw [if_neg (by simp [p1])] at hsucc
      have p1' : (x = y) = True := eq_true p1
      simp only [go_sem, reduceIte, Nat.reduceEqDiff, Nat.reduceAdd, Nat.reduceSub, Nat.reduceLeDiff, Nat.reduceLT, reduceCtorEq, Int.reduceLT, Int.reduceLE, Int.reduceEq, Int.reduceBEq, Int.reduceSub, Int.reduceAdd, Int.reduceMul, Int.reduceNeg, Int.reduceToNat, Nat.reduceMul, Nat.reduceBEq, index_rsl_if, setm, make_ints, condK_dec, wantK_dec, not_dec, and_dec, or_dec, seqK_ite, seqK_none, blockK_ite, blockK_none, opsK_ite, opsK_none, stepK_ite, stepK_none, bodyK_ite, bodyK_none, resK_ite, resK_none, leaveK_ite, leaveK_none, only_ite, only_none, bind_ite, gives_some, gives_none, gives_ite, then_normal, then_ret, then_exit, then_none, then_ite, Option.bind_none, Bool.not_eq_true', decide_eq_false_iff_not, Bool.and_eq_true, Bool.or_eq_true, Option.some.injEq, Int.not_lt, Int.not_le, lp45_0, hlt, hi0, hs, hb1, hpair, hzl, wa, wb, zn, ta, tb, p1', List.length_map]
      refine ⟨i + 1, by simp only [go_sem, reduceIte, Nat.reduceEqDiff, Nat.reduceAdd, Nat.reduceSub, Nat.reduceLeDiff, Nat.reduceLT, reduceCtorEq, Int.reduceLT, Int.reduceLE, Int.reduceEq, Int.reduceBEq, Int.reduceSub, Int.reduceAdd, Int.reduceMul, Int.reduceNeg, Int.reduceToNat, Nat.reduceMul, Nat.reduceBEq, ren1_locm, loc_tips, locT_eq, hsucc, ren1_out, outAcc_snd, okRefsB, renCellsB] <;> rfl, ?_, ?_, fun x en s hq => ?_⟩
      · omega
      · omega
      · exact hq
    · by_cases p2 : (x, y) ∈ out
      · rw [if_neg (by simp [p2])] at hsucc
        simp only [go_sem, reduceIte, Nat.reduceEqDiff, Nat.reduceAdd, Nat.reduceSub, Nat.reduceLeDiff, Nat.reduceLT, reduceCtorEq, Int.reduceLT, Int.reduceLE, Int.reduceEq, Int.reduceBEq, Int.reduceSub, Int.reduceAdd, Int.reduceMul, Int.reduceNeg, Int.reduceToNat, Nat.reduceMul, Nat.reduceBEq, index_rsl_if, setm, make_ints, condK_dec, wantK_dec, not_dec, and_dec, or_dec, seqK_ite, seqK_none, blockK_ite, blockK_none, opsK_ite, opsK_none, stepK_ite, stepK_none, bodyK_ite, bodyK_none, resK_ite, resK_none, leaveK_ite, leaveK_none, only_ite, only_none, bind_ite, gives_some, gives_none, gives_ite, then_normal, then_ret, then_exit, then_none, then_ite, Option.bind_none, Bool.not_eq_true', decide_eq_false_iff_not, Bool.and_eq_true, Bool.or_eq_true, Option.some.injEq, Int.not_lt, Int.not_le, lp45_0, hlt, hi0, hs, hb1, hpair, hzl, wa, wb, zn, ta, tb, p1, h49, p2, List.length_map]
        refine ⟨i + 1, by simp only [go_sem, reduceIte, Nat.reduceEqDiff, Nat.reduceAdd, Nat.reduceSub, Nat.reduceLeDiff, Nat.reduceLT, reduceCtorEq, Int.reduceLT, Int.reduceLE, Int.reduceEq, Int.reduceBEq, Int.reduceSub, Int.reduceAdd, Int.reduceMul, Int.reduceNeg, Int.reduceToNat, Nat.reduceMul, Nat.reduceBEq, ren1_locm, loc_tips, locT_eq, hsucc, ren1_out, outAcc_snd, okRefsB, renCellsB] <;> rfl, ?_, ?_, fun x en s hq => ?_⟩
        · omega
        · omega
        · exact hq
      · rw [if_pos ⟨p1, p2⟩] at hsucc
        simp only [go_sem, reduceIte, Nat.reduceEqDiff, Nat.reduceAdd, Nat.reduceSub, Nat.reduceLeDiff, Nat.reduceLT, reduceCtorEq, Int.reduceLT, Int.reduceLE, Int.reduceEq, Int.reduceBEq, Int.reduceSub, Int.reduceAdd, Int.reduceMul, Int.reduceNeg, Int.reduceToNat, Nat.reduceMul, Nat.reduceBEq, index_rsl_if, setm, make_ints, condK_dec, wantK_dec, not_dec, and_dec, or_dec, seqK_ite, seqK_none, blockK_ite, blockK_none, opsK_ite, opsK_none, stepK_ite, stepK_none, bodyK_ite, bodyK_none, resK_ite, resK_none, leaveK_ite, leaveK_none, only_ite, only_none, bind_ite, gives_some, gives_none, gives_ite, then_normal, then_ret, then_exit, then_none, then_ite, Option.bind_none, Bool.not_eq_true', decide_eq_false_iff_not, Bool.and_eq_true, Bool.or_eq_true, Option.some.injEq, Int.not_lt, Int.not_le, lp45_0, hlt, hi0, hs, hb1, hpair, hzl, wa, wb, zn, ta, tb, p1, h49, p2, happ, List.length_map]
        refine ⟨i + 1, by simp only [go_sem, reduceIte, Nat.reduceEqDiff, Nat.reduceAdd, Nat.reduceSub, Nat.reduceLeDiff, Nat.reduceLT, reduceCtorEq, Int.reduceLT, Int.reduceLE, Int.reduceEq, Int.reduceBEq, Int.reduceSub, Int.reduceAdd, Int.reduceMul, Int.reduceNeg, Int.reduceToNat, Nat.reduceMul, Nat.reduceBEq, ren1_locm, loc_tips, locT_eq, hsucc, ren1_out, outAcc_snd, okRefsB, renCellsB] <;> rfl, ?_, ?_, fun x en s hq => ?_⟩
        · omega
        · omega
        · exact hq
  · obtain rfl : i = k := by omega
    simp only [go_sem, reduceIte, Nat.reduceEqDiff, Nat.reduceAdd, Nat.reduceSub, Nat.reduceLeDiff, Nat.reduceLT, reduceCtorEq, Int.reduceLT, Int.reduceLE, Int.reduceEq, Int.reduceBEq, Int.reduceSub, Int.reduceAdd, Int.reduceMul, Int.reduceNeg, Int.reduceToNat, Nat.reduceMul, Nat.reduceBEq, index_rsl_if, setm, make_ints, condK_dec, wantK_dec, not_dec, and_dec, or_dec, seqK_ite, seqK_none, blockK_ite, blockK_none, opsK_ite, opsK_none, stepK_ite, stepK_none, bodyK_ite, bodyK_none, resK_ite, resK_none, leaveK_ite, leaveK_none, only_ite, only_none, bind_ite, gives_some, gives_none, gives_ite, then_normal, then_ret, then_exit, then_none, then_ite, Option.bind_none, Bool.not_eq_true', decide_eq_false_iff_not, Bool.and_eq_true, Bool.or_eq_true, Option.some.injEq, Int.not_lt, Int.not_le, lp45_0, show ((i : Int) < (i : Int)) = False from eq_false (by omega)]

def madeN (most : Int) (zs : List Int) : Int := 1 + zs.getD 0 0 % most
def madeP (most : Int) (zs : List Int) : List (Int × Int) := madeTo (madeN most zs) zs (zs.getD 1 0 % 17).toNat

theorem c45 (zs : List Int) (hzl : zs.length = 34) (hz : ∀ a ∈ zs, Byte a) (most : Int) (hl : most = 6 ∨ most = 7) (st : St) :
    run L 45 [qAV zs, I most] st = some (bkAV true (madeN most zs) (madeP most zs), st) := by
  rw [run_pure (fn := ir45) rfl rfl]
  have b0 := byte_getD hz 0
  have b1 := byte_getD hz 1
  have g0 := getB zs 0 (by omega)
  have g1 := getB zs 1 (by omega)
  unfold madeP
  have hN : madeN most zs = 1 + zs.getD 0 0 % most := rfl
  generalize zs.getD 0 0 = a at *
  generalize zs.getD 1 0 = b at *
  unfold Byte at b0 b1
  have ra := mod_range a most (by omega)
  have rb := mod_range b 17 (by omega)
  have wa := wrap64 a (by omega) (by omega)
  have wb := wrap64 b (by omega) (by omega)
  have z8 : (most = 0) = False := eq_false (by omega)
  have ta : a.tmod most = a % most := tmod8 (by omega)
  have tb : b.tmod 17 = b % 17 := tmod8 (by omega)
  have wn : IntKind.i64.wrap (1 + a % most) = madeN most zs := by rw [hN, wrap64] <;> omega
  have hn : 1 ≤ madeN most zs ∧ madeN most zs ≤ 7 := by omega
  obtain ⟨k, hk⟩ := Int.eq_ofNat_of_zero_le rb.1
  rw [hk, Int.toNat_natCast]
  have hk10 : k ≤ 16 := by omega
  have hsl : sliceaAV 16 2 true (.ptr 0 2) none (some (.v (.int .i64 (k : Int)))) none = some (.rsl 0 2 k 16 2 true) := by
    simp only [sliceaAV, natOr, natOf]
    simp; omega
  generalize madeN most zs = n at *
  simp only [ir45, go_sem, reduceIte, Nat.reduceEqDiff, Nat.reduceAdd, Nat.reduceSub, Nat.reduceLeDiff, Nat.reduceLT, reduceCtorEq, Int.reduceLT, Int.reduceLE, Int.reduceEq, Int.reduceBEq, Int.reduceSub, Int.reduceAdd, Int.reduceMul, Int.reduceNeg, Int.reduceToNat, Nat.reduceMul, Nat.reduceBEq, okRefsB, renCellsB, pubsB, storableB, g0, g1, wa, wb, z8, ta, tb, hk, wn, hsl, hzl, List.length_map]
  generalize hg : lim (headed pure (run L) true _ lp45_0 _ _) _ _ = o
  obtain ⟨x, en, s, rfl, h2⟩ : ∃ x en s, o = some (x, en, s) ∧ _ := by rw [← hg]; exact loop45 zs hzl hz n hn k hk10 0 (by omega) _ _ (by simp only [go_sem, reduceIte, Nat.reduceEqDiff, Nat.reduceAdd, Nat.reduceSub, Nat.reduceLeDiff, Nat.reduceLT, reduceCtorEq, Int.reduceLT, Int.reduceLE, Int.reduceEq, Int.reduceBEq, Int.reduceSub, Int.reduceAdd, Int.reduceMul, Int.reduceNeg, Int.reduceToNat, Nat.reduceMul, Nat.reduceBEq, okRefsB, renCellsB, madeTo, out_start, outT_nil, ren1_out, outAcc_snd, Int.natCast_zero] <;> rfl)
  clear hg
  obtain ⟨rfl, h4, h5, rfl⟩ := h2
  simp only [go_sem, reduceIte, Nat.reduceEqDiff, Nat.reduceAdd, Nat.reduceSub, Nat.reduceLeDiff, Nat.reduceLT, reduceCtorEq, Int.reduceLT, Int.reduceLE, Int.reduceEq, Int.reduceBEq, Int.reduceSub, Int.reduceAdd, Int.reduceMul, Int.reduceNeg, Int.reduceToNat, Nat.reduceMul, Nat.reduceBEq, h4, h5]


abbrev U (n : Nat) : AV := .v (.int .u64 n)
theorem wrapU (n : Nat) (h : n < 2 ^ 64) : IntKind.u64.wrap (n : Int) = n := by
  simp [IntKind.wrap, IntKind.bits, IntKind.signed]; omega
theorem shrU (m p : Nat) (h : p < 64) : Int.fdiv (m : Int) (2 ^ min p 64) = ((m >>> p : Nat) : Int) := by
  have e : min p 64 = p := by omega
  have e2 : ((2 : Int) ^ p) = ((2 ^ p : Nat) : Int) := by simp
  rw [e, e2, Int.fdiv_eq_ediv_of_nonneg _ (Int.natCast_nonneg _), Nat.shiftRight_eq_div_pow]
  simp
theorem and_one (n : Nat) : binAV .and none (.v (.int .u64 (n : Int))) (.v (.int .u64 1)) = some (.v (.int .u64 ((n % 2 : Nat) : Int))) := by
  have h : (BitVec.ofInt 64 (n : Int) &&& BitVec.ofInt 64 1).toNat = n % 2 := by
    rw [BitVec.toNat_and]
    have : (BitVec.ofInt 64 1).toNat = 1 := by decide
    rw [this, Nat.and_one_is_mod, BitVec.ofInt_natCast, BitVec.toNat_ofNat]
    omega
  show some (AV.v (.int .u64 (IntKind.u64.wrap ((BitVec.ofInt 64 (n : Int) &&& BitVec.ofInt 64 1).toNat : Int)))) = _
  rw [h, wrapU _ (by omega)]
theorem shr_u (m p : Nat) : binAV .shr none (.v (.int .u64 (m : Int))) (.v (.int .i64 (p : Int))) = some (.v (.int .u64 ((m >>> min p 64 : Nat) : Int))) := by
  have e := shrU m (min p 64)
  show (if (p : Int) < 0 then none else some (AV.v (.int .u64 (Int.fdiv (m : Int) (2 ^ min (Int.toNat (p : Int)) 64))))) = _
  rw [if_neg (by omega), Int.toNat_natCast]
  have e2 : ((2 : Int) ^ (min p 64)) = ((2 ^ (min p 64) : Nat) : Int) := by simp
  rw [e2, Int.fdiv_eq_ediv_of_nonneg _ (Int.natCast_nonneg _), Nat.shiftRight_eq_div_pow]
  simp
theorem min64 (p : Nat) (h : p < 64) : min p 64 = p := by omega
attribute [local go_sem high] and_one shr_u
theorem bit_zero (m p : Nat) : ((((m >>> p) % 2 : Nat) : Int) = 0) = (m.testBit p = false) := by
  rw [Nat.testBit_eq_decide_div_mod_eq, Nat.shiftRight_eq_div_pow]
  generalize m / 2 ^ p = k
  have : k % 2 < 2 := Nat.mod_lt _ (by omega)
  rw [decide_eq_false_iff_not]
  exact propext (by omega)
def okP (p : Int × Int) : Prop := 0 ≤ p.1 ∧ p.1 < 7 ∧ 0 ≤ p.2 ∧ p.2 < 7
def sh1 (p : Nat) : Nat := 2 ^ min p 64 % 2 ^ 64
theorem sh1_eq (p : Nat) (h : p < 64) : sh1 p = 2 ^ p := by
  unfold sh1; rw [show min p 64 = p by omega]
  exact Nat.mod_eq_of_lt (Nat.pow_lt_pow_right (by omega) h)
theorem shl_one (p : Nat) : binAV .shl none (.v (.int .u64 1)) (.v (.int .i64 (p : Int))) = some (.v (.int .u64 ((sh1 p : Nat) : Int))) := by
  show (if (p : Int) < 0 then none else some (AV.v (.int .u64 (IntKind.u64.wrap (1 * (2 ^ (min (Int.toNat (p : Int)) 64)))))) ) = _
  rw [if_neg (by omega), Int.toNat_natCast]
  have e2 : (1 : Int) * ((2 : Int) ^ (min p 64)) = ((2 ^ (min p 64) : Nat) : Int) := by simp
  rw [e2]
  simp only [sh1, IntKind.wrap, IntKind.bits, IntKind.signed]
  simp
def orU (a b : Nat) : Nat := a % 2 ^ 64 ||| b % 2 ^ 64
theorem or_u (a b : Nat) : binAV .or none (.v (.int .u64 (a : Int))) (.v (.int .u64 (b : Int))) = some (.v (.int .u64 ((orU a b : Nat) : Int))) := by
  have h : (BitVec.ofInt 64 (a : Int) ||| BitVec.ofInt 64 (b : Int)).toNat = orU a b := by
    rw [BitVec.toNat_or]; simp [BitVec.ofInt_natCast, orU]
  show some (AV.v (.int .u64 (IntKind.u64.wrap ((BitVec.ofInt 64 (a : Int) ||| BitVec.ofInt 64 (b : Int)).toNat : Int)))) = _
  rw [h, wrapU]
  unfold orU
  exact Nat.or_lt_two_pow (Nat.mod_lt _ (by decide)) (Nat.mod_lt _ (by decide))
theorem orU_eq (a b : Nat) (ha : a < 128) (hb : b < 128) : orU a b = a ||| b := by
  unfold orU; rw [Nat.mod_eq_of_lt (by omega), Nat.mod_eq_of_lt (by omega)]
def orAt (o : List Nat) (i b : Nat) : List Nat := o.set i (o.getD i 0 ||| 2 ^ b)
theorem orAt_len (o : List Nat) (i b : Nat) : (orAt o i b).length = o.length := by simp [orAt]
theorem okRefsU (n : Nat) (xs : List Nat) : okRefs n (xs.map U) = true := okRefs_map U n (fun _ => rfl) xs
theorem renCellsU (n : Nat) (tips : List Nat) (acc : List (Nat × Nat)) (xs : List Nat) : renCells n tips acc (xs.map U) = (xs.map U, acc) := renCells_map U n tips (fun _ _ => rfl) xs acc
theorem pubsU (xs : List Nat) : pubs (xs.map U) = xs.map U := pubs_map U (fun _ => rfl) xs
theorem getU (o : List Nat) (a : Nat) (h : a < o.length) : (o.map U)[a]? = some (U (o.getD a 0)) := by
  rw [getm U o 0 a, if_pos h]
theorem len_seven {α : Type} {l : List α} (h : l.length = 7) : ∃ a b c d e f g, l = [a, b, c, d, e, f, g] := by
  match l, h with
  | [a, b, c, d, e, f, g], _ => exact ⟨a, b, c, d, e, f, g, rfl⟩
theorem sh1_lt (b : Nat) (h : b < 7) : sh1 b = 2 ^ b ∧ 2 ^ b < 128 := ⟨sh1_eq b (by omega), Nat.pow_lt_pow_right (by omega) (show b < 7 from h)⟩
theorem small_getD {o : List Nat} (h : ∀ x ∈ o, x < 128) (a : Nat) : o.getD a 0 < 128 := by
  rw [List.getD_eq_getElem?_getD]
  cases h2 : o[a]?
  · simp
  · exact h _ (List.mem_of_getElem? h2)
theorem orAt_small {o : List Nat} (h : ∀ x ∈ o, x < 128) {a b : Nat} (hb : b < 7) : ∀ x ∈ orAt o a b, x < 128 := by
  intro x hx
  unfold orAt at hx
  rcases List.mem_or_eq_of_mem_set hx with hx | rfl
  · exact h x hx
  · exact Nat.or_lt_two_pow (n := 7) (small_getD h a) (sh1_lt b hb).2
theorem storableU (xs : List Nat) : (xs.map U).all storable = true := by
  rw [List.all_eq_true]; intro x hx; rw [List.mem_map] at hx; obtain ⟨n, _, rfl⟩ := hx; rfl

/-! ### sets as signed numbers -/
theorem shl_i (p : Nat) (h : p < 62) : binAV .shl none (.v (.int .i64 1)) (.v (.int .i64 (p : Int))) = some (I ((2 ^ p : Nat) : Int)) := by
  show (if (p : Int) < 0 then none else some (AV.v (.int .i64 (IntKind.i64.wrap (1 * (2 ^ (min (Int.toNat (p : Int)) 64))))))) = _
  rw [if_neg (by omega), Int.toNat_natCast, show min p 64 = p by omega]
  have e2 : (1 : Int) * ((2 : Int) ^ p) = ((2 ^ p : Nat) : Int) := by simp
  rw [e2]
  have h1 : 2 ^ p < 2 ^ 62 := Nat.pow_lt_pow_right (by omega) h
  generalize 2 ^ p = q at *
  rw [wrap64] <;> omega
theorem or_i (a b : Nat) (ha : a < 2 ^ 62) (hb : b < 2 ^ 62) : binAV .or none (.v (.int .i64 (a : Int))) (.v (.int .i64 (b : Int))) = some (I ((a ||| b : Nat) : Int)) := by
  have h : (BitVec.ofInt 64 (a : Int) ||| BitVec.ofInt 64 (b : Int)).toNat = a ||| b := by
    rw [BitVec.toNat_or]; simp [BitVec.ofInt_natCast, Nat.mod_eq_of_lt (show a < 2 ^ 64 by omega), Nat.mod_eq_of_lt (show b < 2 ^ 64 by omega)]
  show some (AV.v (.int .i64 (IntKind.i64.wrap ((BitVec.ofInt 64 (a : Int) ||| BitVec.ofInt 64 (b : Int)).toNat : Int)))) = _
  have := Nat.or_lt_two_pow ha hb
  rw [h, wrap64] <;> omega
theorem and_i (a b : Nat) (ha : a < 2 ^ 62) (hb : b < 2 ^ 62) : binAV .and none (.v (.int .i64 (a : Int))) (.v (.int .i64 (b : Int))) = some (I ((a &&& b : Nat) : Int)) := by
  have h : (BitVec.ofInt 64 (a : Int) &&& BitVec.ofInt 64 (b : Int)).toNat = a &&& b := by
    rw [BitVec.toNat_and]; simp [BitVec.ofInt_natCast, Nat.mod_eq_of_lt (show a < 2 ^ 64 by omega), Nat.mod_eq_of_lt (show b < 2 ^ 64 by omega)]
  show some (AV.v (.int .i64 (IntKind.i64.wrap ((BitVec.ofInt 64 (a : Int) &&& BitVec.ofInt 64 (b : Int)).toNat : Int)))) = _
  have : a &&& b ≤ a := Nat.and_le_left
  rw [h, wrap64] <;> omega
theorem shr_i (m p : Nat) (h : p < 62) : binAV .shr none (.v (.int .i64 (m : Int))) (.v (.int .i64 (p : Int))) = some (I ((m >>> p : Nat) : Int)) := by
  show (if (p : Int) < 0 then none else some (AV.v (.int .i64 (Int.fdiv (m : Int) (2 ^ min (Int.toNat (p : Int)) 64))))) = _
  rw [if_neg (by omega), Int.toNat_natCast, shrU m p (by omega)]
theorem and_one_i (n : Nat) (h : n < 2 ^ 62) : binAV .and none (.v (.int .i64 (n : Int))) (.v (.int .i64 1)) = some (I ((n % 2 : Nat) : Int)) := by
  have := and_i n 1 h (by decide)
  rw [Nat.and_one_is_mod] at this
  exact this
theorem bit_one (m p : Nat) : ((((m >>> p) % 2 : Nat) : Int) = 1) = (m.testBit p = true) := by
  rw [Nat.testBit_eq_decide_div_mod_eq, Nat.shiftRight_eq_div_pow]
  generalize m / 2 ^ p = k
  have : k % 2 < 2 := Nat.mod_lt _ (by omega)
  rw [decide_eq_true_iff]
  exact propext (by omega)


/-! ### what each word sees -/
abbrev J (n : Nat) : AV := .v (.int .i64 (n : Int))
theorem okRefsJ (n : Nat) (xs : List Nat) : okRefs n (xs.map J) = true := okRefs_map J n (fun _ => rfl) xs
theorem renCellsJ (n : Nat) (tips : List Nat) (acc : List (Nat × Nat)) (xs : List Nat) : renCells n tips acc (xs.map J) = (xs.map J, acc) := renCells_map J n tips (fun _ _ => rfl) xs acc
theorem pubsJ (xs : List Nat) : pubs (xs.map J) = xs.map J := pubs_map J (fun _ => rfl) xs
theorem getJ (o : List Nat) (a : Nat) (h : a < o.length) : (o.map J)[a]? = some (J (o.getD a 0)) := by
  rw [getm J o 0 a, if_pos h]
theorem storableJ (xs : List Nat) : (xs.map J).all storable = true := by
  rw [List.all_eq_true]; intro x hx; rw [List.mem_map] at hx; obtain ⟨n, _, rfl⟩ := hx; rfl
def see1 (o : List Nat) (p : Int × Int) : List Nat := orAt o p.1.toNat p.2.toNat
def seeL (z : Nat) (ps : List (Int × Int)) : List Nat := ps.foldl see1 (List.replicate z 0)
theorem foldl_see_len : ∀ (ps : List (Int × Int)) (o : List Nat), (ps.foldl see1 o).length = o.length
  | [], o => rfl
  | p :: r, o => by rw [List.foldl_cons, foldl_see_len r]; exact orAt_len _ _ _
theorem foldl_see_small : ∀ (ps : List (Int × Int)) (o : List Nat), (∀ p ∈ ps, okP p) → (∀ x ∈ o, x < 128) → ∀ x ∈ ps.foldl see1 o, x < 128
  | [], o, _, h => h
  | p :: r, o, hp, h => by
    rw [List.foldl_cons]
    have h1 := hp p (by simp)
    unfold okP at h1
    exact foldl_see_small r _ (fun q hq => hp q (by simp [hq])) (orAt_small h (by omega))
theorem seeL_len (z : Nat) (ps : List (Int × Int)) : (seeL z ps).length = z := by unfold seeL; rw [foldl_see_len]; simp
theorem seeL_small (z : Nat) {ps : List (Int × Int)} (h : ∀ p ∈ ps, okP p) : ∀ x ∈ seeL z ps, x < 128 := foldl_see_small ps _ h (by simp)
theorem len_eight {α : Type} {l : List α} (h : l.length = 8) : ∃ a b c d e f g k, l = [a, b, c, d, e, f, g, k] := by
  match l, h with
  | [a, b, c, d, e, f, g, k], _ => exact ⟨a, b, c, d, e, f, g, k, rfl⟩
def y8 : List AV := [I 0, I 0, I 0, I 0, I 0, I 0, I 0, I 0]

theorem loop50 (nl : Bool) (n : Int) (ps : List (Int × Int)) (hlen : ps.length < 1000000) (h7 : ∀ p ∈ ps, okP p) (i : Nat) (o : List Nat) (hok : i ≤ ps.length ∧ o.length = 8 ∧ ∀ x ∈ o, x < 128) (env : Env) (st : St)
    (hg : gcAV true 3 0 (canon env [2, 3, 7, 8, 9]) st = ([(2, .ptr 1 0), (3, .ptr 2 0), (7, sl 2 nl (ps.map prAV)), (8, I ps.length), (9, I i)], ⟨[bkCells nl n ps, y8, o.map J], []⟩)) :
    ∃ x_1 en s, lim (headed pure (run L) true [2, 3, 7, 8, 9] lp50_0 3 0) env st = some (x_1, en, s) ∧ (x_1 = .exit 0 ∧ en.get 2 = .ptr 1 0 ∧ en.get 3 = .ptr 2 0 ∧ s = ⟨[bkCells nl n ps, y8, ((ps.drop i).foldl see1 o).map J], []⟩ ∧ ((ps.drop i).foldl see1 o).length = 8) := by
  refine loop_wp (α := Nat × List Nat) (fun ⟨i, o⟩ => ps.length - i) (fun ⟨i, o⟩ => i ≤ ps.length ∧ o.length = 8 ∧ ∀ x ∈ o, x < 128) (fun ⟨i, o⟩ => ([(2, .ptr 1 0), (3, .ptr 2 0), (7, sl 2 nl (ps.map prAV)), (8, I ps.length), (9, I i)], ⟨[bkCells nl n ps, y8, o.map J], []⟩)) (fun ⟨i, o⟩ x_1 en s => x_1 = .exit 0 ∧ en.get 2 = .ptr 1 0 ∧ en.get 3 = .ptr 2 0 ∧ s = ⟨[bkCells nl n ps, y8, ((ps.drop i).foldl see1 o).map J], []⟩ ∧ ((ps.drop i).foldl see1 o).length = 8) (fun ⟨i, o⟩ hok => ?_) ⟨i, o⟩ hok env st hg
  simp only at hok
  obtain ⟨h1, h2, h3⟩ := hok
  dsimp only
  by_cases h : i < ps.length
  · have hx := index_prs nl ps i h
    have hs := succ64 i (by omega)
    have hd : ps.drop i = ps[i] :: ps.drop (i + 1) := List.drop_eq_getElem_cons h
    have hp := h7 ps[i] (List.getElem_mem h)
    rw [hd, List.foldl_cons]
    generalize ps[i] = c at *
    obtain ⟨u, v⟩ := c
    obtain ⟨a1, a2, a3, a4⟩ := hp
    simp only at a1 a2 a3 a4 hx
    obtain ⟨u, rfl⟩ := Int.eq_ofNat_of_zero_le a1
    obtain ⟨v, rfl⟩ := Int.eq_ofNat_of_zero_le a3
    have hlt : ((i : Int) < (ps.length : Int)) = True := eq_true (by omega)
    have hu : u < 7 := by omega
    have hv : v < 7 := by omega
    have q1 := shl_i v (by omega)
    have q2 := or_i (o.getD u 0) (2 ^ v) (by have := small_getD h3 u; omega) (by have := (sh1_lt v hv).2; omega)
    have hs1 := orAt_small h3 (a := u) hv
    have hl1 := orAt_len o u v
    have g1 := getJ o u (by omega)
    have hset1 : o.set u (o.getD u 0 ||| 2 ^ v) = see1 o ((u : Int), (v : Int)) := rfl
    have hadv : see1 o ((u : Int), (v : Int)) = orAt o u v := rfl
    have b1 : ((0 : Int) ≤ (u : Int)) = True := eq_true (by omega)
    have b2 : ((u : Int) < 8) = True := eq_true (by omega)
    have b5 : (u + 1 ≤ 8) = True := eq_true (by omega)
    rw [h2] at hl1
    rw [← hadv] at hs1 hl1
    generalize see1 o ((u : Int), (v : Int)) = o2 at *
    simp only [go_sem, reduceIte, Nat.reduceEqDiff, Nat.reduceAdd, Nat.reduceSub, Nat.reduceLeDiff, Nat.reduceLT, reduceCtorEq, Int.reduceLT, Int.reduceLE, Int.reduceEq, Int.reduceBEq, Int.reduceSub, Int.reduceAdd, Int.reduceMul, Int.reduceNeg, Int.reduceToNat, Nat.reduceMul, Nat.reduceBEq, index_rsl_if, setm, make_ints, condK_dec, wantK_dec, not_dec, and_dec, or_dec, seqK_ite, seqK_none, blockK_ite, blockK_none, opsK_ite, opsK_none, stepK_ite, stepK_none, bodyK_ite, bodyK_none, resK_ite, resK_none, leaveK_ite, leaveK_none, only_ite, only_none, bind_ite, gives_some, gives_none, gives_ite, then_normal, then_ret, then_exit, then_none, then_ite, Option.bind_none, Bool.not_eq_true', decide_eq_false_iff_not, Bool.and_eq_true, Bool.or_eq_true, Option.some.injEq, Int.not_lt, Int.not_le, lp50_0, hx, hlt, hs, b1, b2, b5, g1, q1, q2, hset1, h2, hl1, List.length_map]
    refine ⟨(i + 1, o2), by simp only [go_sem, reduceIte, Nat.reduceEqDiff, Nat.reduceAdd, Nat.reduceSub, Nat.reduceLeDiff, Nat.reduceLT, reduceCtorEq, Int.reduceLT, Int.reduceLE, Int.reduceEq, Int.reduceBEq, Int.reduceSub, Int.reduceAdd, Int.reduceMul, Int.reduceNeg, Int.reduceToNat, Nat.reduceMul, Nat.reduceBEq, ren1_locm, loc_tips, locT_eq, okRefsJ, renCellsJ, y8] <;> rfl, ?_, ?_, fun x en s hq => ?_⟩
    · dsimp only; exact ⟨by omega, hl1, hs1⟩
    · simp only; omega
    · exact hq
  · have hd : ps.drop i = [] := List.drop_eq_nil_of_le (by omega)
    have hlt : ((i : Int) < (ps.length : Int)) = False := eq_false (by omega)
    simp only [go_sem, reduceIte, Nat.reduceEqDiff, Nat.reduceAdd, Nat.reduceSub, Nat.reduceLeDiff, Nat.reduceLT, reduceCtorEq, Int.reduceLT, Int.reduceLE, Int.reduceEq, Int.reduceBEq, Int.reduceSub, Int.reduceAdd, Int.reduceMul, Int.reduceNeg, Int.reduceToNat, Nat.reduceMul, Nat.reduceBEq, index_rsl_if, setm, make_ints, condK_dec, wantK_dec, not_dec, and_dec, or_dec, seqK_ite, seqK_none, blockK_ite, blockK_none, opsK_ite, opsK_none, stepK_ite, stepK_none, bodyK_ite, bodyK_none, resK_ite, resK_none, leaveK_ite, leaveK_none, only_ite, only_none, bind_ite, gives_some, gives_none, gives_ite, then_normal, then_ret, then_exit, then_none, then_ite, Option.bind_none, Bool.not_eq_true', decide_eq_false_iff_not, Bool.and_eq_true, Bool.or_eq_true, Option.some.injEq, Int.not_lt, Int.not_le, lp50_0, hlt, List.length_map]
    rw [hd]; exact ⟨rfl, h2⟩

theorem c50 (nl : Bool) (n : Int) (ps : List (Int × Int)) (hlen : ps.length < 1000000) (h7 : ∀ p ∈ ps, okP p) (st : St) :
    run L 50 [bkAV nl n ps] st = some (.agg ((seeL 8 ps).map J), st) := by
  rw [run_pure (fn := ir50) rfl rfl]
  simp only [ir50, go_sem, reduceIte, Nat.reduceEqDiff, Nat.reduceAdd, Nat.reduceSub, Nat.reduceLeDiff, Nat.reduceLT, reduceCtorEq, Int.reduceLT, Int.reduceLE, Int.reduceEq, Int.reduceBEq, Int.reduceSub, Int.reduceAdd, Int.reduceMul, Int.reduceNeg, Int.reduceToNat, Nat.reduceMul, Nat.reduceBEq, List.length_map]
  generalize hg : lim (headed pure (run L) true _ lp50_0 _ _) _ _ = o
  obtain ⟨x, en, s, rfl, h2⟩ : ∃ x en s, o = some (x, en, s) ∧ _ := by rw [← hg]; exact loop50 nl n ps hlen h7 0 (List.replicate 8 0) ⟨by omega, by simp, by simp⟩ _ _ (by simp only [go_sem, reduceIte, Nat.reduceEqDiff, Nat.reduceAdd, Nat.reduceSub, Nat.reduceLeDiff, Nat.reduceLT, reduceCtorEq, Int.reduceLT, Int.reduceLE, Int.reduceEq, Int.reduceBEq, Int.reduceSub, Int.reduceAdd, Int.reduceMul, Int.reduceNeg, Int.reduceToNat, Nat.reduceMul, Nat.reduceBEq, y8, List.map_replicate] <;> rfl)
  clear hg
  obtain ⟨rfl, h3, h4, rfl, h5⟩ := h2
  rw [List.drop_zero] at h5 ⊢
  have e : ps.foldl see1 (List.replicate 8 0) = seeL 8 ps := rfl
  rw [e] at h5 ⊢
  obtain ⟨a, b, c, d, f, g, k, k2, h6⟩ := len_eight h5
  rw [h6]
  simp only [go_sem, reduceIte, Nat.reduceEqDiff, Nat.reduceAdd, Nat.reduceSub, Nat.reduceLeDiff, Nat.reduceLT, reduceCtorEq, Int.reduceLT, Int.reduceLE, Int.reduceEq, Int.reduceBEq, Int.reduceSub, Int.reduceAdd, Int.reduceMul, Int.reduceNeg, Int.reduceToNat, Nat.reduceMul, Nat.reduceBEq, h3, h4, y8]

attribute [local go_sem high] and_one shr_u shl_one or_u

def webC (n : Int) (o : List Nat) : List AV := I n :: o.map U
abbrev webAV (n : Int) (o : List Nat) : AV := .agg (webC n o)
theorem okRefsW (k : Nat) (n : Int) (o : List Nat) : okRefs k (webC n o) = true := by unfold webC; simp only [okRefs, okRefsU]; rfl
theorem renCellsW (k : Nat) (tips : List Nat) (acc : List (Nat × Nat)) (n : Int) (o : List Nat) : renCells k tips acc (webC n o) = (webC n o, acc) := by
  unfold webC; simp only [renCells, ren1, renCellsU]
theorem pubsW (n : Int) (o : List Nat) : pubs (webC n o) = webC n o := by unfold webC; simp only [pubs, pub, pubsU]
theorem storableW (n : Int) (o : List Nat) : (webC n o).all storable = true := by unfold webC; rw [List.all_cons, storableU]; rfl
theorem lenW (n : Int) (o : List Nat) : (webC n o).length = 1 + o.length := by simp [webC]; omega
theorem getW (n : Int) (o : List Nat) (a : Nat) (h : a < o.length) : (webC n o)[1 + a]? = some (U (o.getD a 0)) := by
  unfold webC; rw [Nat.add_comm, List.getElem?_cons_succ]; exact getU o a h
theorem getW0 (n : Int) (o : List Nat) : (webC n o)[0]? = some (I n) := rfl
theorem setW (n : Int) (o : List Nat) (a : Nat) (m : Nat) : (webC n o).set (1 + a) (U m) = webC n (o.set a m) := by
  unfold webC; rw [Nat.add_comm, List.set_cons_succ, List.map_set]
def w8 : List AV := [I 0, U 0, U 0, U 0, U 0, U 0, U 0, U 0]

theorem loop65 (nl : Bool) (n : Int) (ps : List (Int × Int)) (hlen : ps.length < 1000000) (h7 : ∀ p ∈ ps, okP p) (i : Nat) (o : List Nat) (hok : i ≤ ps.length ∧ o.length = 7 ∧ ∀ x ∈ o, x < 128) (env : Env) (st : St)
    (hg : gcAV true 3 0 (canon env [2, 4, 18, 19, 20]) st = ([(2, .ptr 1 0), (4, .ptr 2 0), (18, sl 2 nl (ps.map prAV)), (19, I ps.length), (20, I i)], ⟨[bkCells nl n ps, w8, webC n o], []⟩)) :
    ∃ x_1 en s, lim (headed pure (run L) true [2, 4, 18, 19, 20] lp65_0 3 0) env st = some (x_1, en, s) ∧ (x_1 = .exit 0 ∧ en.get 2 = .ptr 1 0 ∧ en.get 4 = .ptr 2 0 ∧ s = ⟨[bkCells nl n ps, w8, webC n ((ps.drop i).foldl see1 o)], []⟩ ∧ ((ps.drop i).foldl see1 o).length = 7) := by
  refine loop_wp (α := Nat × List Nat) (fun ⟨i, o⟩ => ps.length - i) (fun ⟨i, o⟩ => i ≤ ps.length ∧ o.length = 7 ∧ ∀ x ∈ o, x < 128) (fun ⟨i, o⟩ => ([(2, .ptr 1 0), (4, .ptr 2 0), (18, sl 2 nl (ps.map prAV)), (19, I ps.length), (20, I i)], ⟨[bkCells nl n ps, w8, webC n o], []⟩)) (fun ⟨i, o⟩ x_1 en s => x_1 = .exit 0 ∧ en.get 2 = .ptr 1 0 ∧ en.get 4 = .ptr 2 0 ∧ s = ⟨[bkCells nl n ps, w8, webC n ((ps.drop i).foldl see1 o)], []⟩ ∧ ((ps.drop i).foldl see1 o).length = 7) (fun ⟨i, o⟩ hok => ?_) ⟨i, o⟩ hok env st hg
  simp only at hok
  obtain ⟨h1, h2, h3⟩ := hok
  dsimp only
  by_cases h : i < ps.length
  · have hx := index_prs nl ps i h
    have hs := succ64 i (by omega)
    have hd : ps.drop i = ps[i] :: ps.drop (i + 1) := List.drop_eq_getElem_cons h
    have hp := h7 ps[i] (List.getElem_mem h)
    rw [hd, List.foldl_cons]
    generalize ps[i] = c at *
    obtain ⟨u, v⟩ := c
    obtain ⟨a1, a2, a3, a4⟩ := hp
    simp only at a1 a2 a3 a4 hx
    obtain ⟨u, rfl⟩ := Int.eq_ofNat_of_zero_le a1
    obtain ⟨v, rfl⟩ := Int.eq_ofNat_of_zero_le a3
    have hlt : ((i : Int) < (ps.length : Int)) = True := eq_true (by omega)
    have hu : u < 7 := by omega
    have hv : v < 7 := by omega
    have e1 : orU (o.getD u 0) (sh1 v) = o.getD u 0 ||| 2 ^ v := by rw [(sh1_lt v hv).1, orU_eq _ _ (small_getD h3 u) (sh1_lt v hv).2]
    have hs1 := orAt_small h3 (a := u) hv
    have hl1 := orAt_len o u v
    have g1 := getW n o u (by omega)
    have hset1 : (webC n o).set (1 + u) (U (o.getD u 0 ||| 2 ^ v)) = webC n (see1 o ((u : Int), (v : Int))) := setW n o u _
    have hadv : see1 o ((u : Int), (v : Int)) = orAt o u v := rfl
    have b1 : ((0 : Int) ≤ (u : Int)) = True := eq_true (by omega)
    have b2 : ((u : Int) < 7) = True := eq_true (by omega)
    have b5 : (1 + u + 1 ≤ 8) = True := eq_true (by omega)
    have hlw := lenW n o
    rw [h2] at hl1 hlw
    rw [← hadv] at hs1 hl1
    generalize see1 o ((u : Int), (v : Int)) = o2 at *
    simp only [go_sem, reduceIte, Nat.reduceEqDiff, Nat.reduceAdd, Nat.reduceSub, Nat.reduceLeDiff, Nat.reduceLT, reduceCtorEq, Int.reduceLT, Int.reduceLE, Int.reduceEq, Int.reduceBEq, Int.reduceSub, Int.reduceAdd, Int.reduceMul, Int.reduceNeg, Int.reduceToNat, Nat.reduceMul, Nat.reduceBEq, index_rsl_if, setm, make_ints, condK_dec, wantK_dec, not_dec, and_dec, or_dec, seqK_ite, seqK_none, blockK_ite, blockK_none, opsK_ite, opsK_none, stepK_ite, stepK_none, bodyK_ite, bodyK_none, resK_ite, resK_none, leaveK_ite, leaveK_none, only_ite, only_none, bind_ite, gives_some, gives_none, gives_ite, then_normal, then_ret, then_exit, then_none, then_ite, Option.bind_none, Bool.not_eq_true', decide_eq_false_iff_not, Bool.and_eq_true, Bool.or_eq_true, Option.some.injEq, Int.not_lt, Int.not_le, lp65_0, hx, hlt, hs, b1, b2, b5, g1, e1, hset1, h2, hl1, hlw, List.length_map]
    refine ⟨(i + 1, o2), by simp only [go_sem, reduceIte, Nat.reduceEqDiff, Nat.reduceAdd, Nat.reduceSub, Nat.reduceLeDiff, Nat.reduceLT, reduceCtorEq, Int.reduceLT, Int.reduceLE, Int.reduceEq, Int.reduceBEq, Int.reduceSub, Int.reduceAdd, Int.reduceMul, Int.reduceNeg, Int.reduceToNat, Nat.reduceMul, Nat.reduceBEq, ren1_locm, loc_tips, locT_eq, okRefsW, renCellsW, w8] <;> rfl, ?_, ?_, fun x en s hq => ?_⟩
    · dsimp only; exact ⟨by omega, hl1, hs1⟩
    · simp only; omega
    · exact hq
  · have hd : ps.drop i = [] := List.drop_eq_nil_of_le (by omega)
    have hlt : ((i : Int) < (ps.length : Int)) = False := eq_false (by omega)
    simp only [go_sem, reduceIte, Nat.reduceEqDiff, Nat.reduceAdd, Nat.reduceSub, Nat.reduceLeDiff, Nat.reduceLT, reduceCtorEq, Int.reduceLT, Int.reduceLE, Int.reduceEq, Int.reduceBEq, Int.reduceSub, Int.reduceAdd, Int.reduceMul, Int.reduceNeg, Int.reduceToNat, Nat.reduceMul, Nat.reduceBEq, index_rsl_if, setm, make_ints, condK_dec, wantK_dec, not_dec, and_dec, or_dec, seqK_ite, seqK_none, blockK_ite, blockK_none, opsK_ite, opsK_none, stepK_ite, stepK_none, bodyK_ite, bodyK_none, resK_ite, resK_none, leaveK_ite, leaveK_none, only_ite, only_none, bind_ite, gives_some, gives_none, gives_ite, then_normal, then_ret, then_exit, then_none, then_ite, Option.bind_none, Bool.not_eq_true', decide_eq_false_iff_not, Bool.and_eq_true, Bool.or_eq_true, Option.some.injEq, Int.not_lt, Int.not_le, lp65_0, hlt, List.length_map]
    rw [hd]; exact ⟨rfl, h2⟩

/-! ### what a book that is checked has -/
theorem prsErr_zero {n : Int} : ∀ {ps seen : List (Int × Int)}, prsErr n seen ps = 0 → ∀ p ∈ ps, 0 ≤ p.1 ∧ p.1 < n ∧ 0 ≤ p.2 ∧ p.2 < n ∧ p.1 ≠ p.2 ∧ p ∉ seen
  | [], _, _, p, hp => by simp at hp
  | a :: r, seen, h, p, hp => by
    simp only [prsErr] at h
    split at h
    · next h0 =>
      unfold prErr at h0
      split at h0
      · omega
      · split at h0
        · omega
        · split at h0
          · omega
          · next q1 q2 q3 =>
            rcases List.mem_cons.1 hp with rfl | hp
            · exact ⟨by omega, by omega, by omega, by omega, q2, q3⟩
            · obtain ⟨g1, g2, g3, g4, g5, g6⟩ := prsErr_zero h p hp
              exact ⟨g1, g2, g3, g4, g5, fun hh => g6 (by simp [hh])⟩
    · next h0 => exact absurd h h0
theorem prsErr_nodup {n : Int} : ∀ {ps seen : List (Int × Int)}, prsErr n seen ps = 0 → ps.Nodup
  | [], _, _ => List.nodup_nil
  | a :: r, seen, h => by
    simp only [prsErr] at h
    split at h
    · refine List.nodup_cons.2 ⟨fun hm => ?_, prsErr_nodup h⟩
      exact (prsErr_zero h a hm).2.2.2.2.2 (by simp)
    · next h0 => exact absurd h h0
theorem chk_zero {n : Int} {ps : List (Int × Int)} (h : chk n ps = 0) : (1 ≤ n ∧ n ≤ 7) ∧ ps.length ≤ 16 ∧ (∀ p ∈ ps, 0 ≤ p.1 ∧ p.1 < n ∧ 0 ≤ p.2 ∧ p.2 < n ∧ p.1 ≠ p.2) ∧ (∀ p ∈ ps, okP p) ∧ ps.Nodup := by
  unfold chk at h
  split at h
  · omega
  · split at h
    · omega
    · have h3 := fun p hp => prsErr_zero h p hp
      exact ⟨by omega, by omega, fun p hp => by have := h3 p hp; exact ⟨by omega, by omega, by omega, by omega, this.2.2.2.2.1⟩, fun p hp => by have := h3 p hp; unfold okP; omega, prsErr_nodup h⟩
def wovL (n : Int) (ps : List (Int × Int)) : List Nat := if chk n ps = 0 then seeL 7 ps else List.replicate 7 0
theorem c65 (nl : Bool) (n : Int) (ps : List (Int × Int)) (st : St) :
    run L 65 [bkAV nl n ps] st = some (.tup [webAV n (wovL n ps), I (chk n ps)], st) := by
  rw [run_pure (fn := ir65) rfl rfl]
  have h24 := fun st => c24 nl n ps st
  unfold wovL
  by_cases h : chk n ps = 0
  · obtain ⟨h1, h2, h3, h4, h5⟩ := chk_zero h
    rw [if_pos h]
    simp only [ir65, go_sem, reduceIte, Nat.reduceEqDiff, Nat.reduceAdd, Nat.reduceSub, Nat.reduceLeDiff, Nat.reduceLT, reduceCtorEq, Int.reduceLT, Int.reduceLE, Int.reduceEq, Int.reduceBEq, Int.reduceSub, Int.reduceAdd, Int.reduceMul, Int.reduceNeg, Int.reduceToNat, Nat.reduceMul, Nat.reduceBEq, h24, h, List.length_map]
    generalize hg : lim (headed pure (run L) true _ lp65_0 _ _) _ _ = o
    obtain ⟨x, en, s, rfl, h2⟩ : ∃ x en s, o = some (x, en, s) ∧ _ := by rw [← hg]; exact loop65 nl n ps (by omega) h4 0 (List.replicate 7 0) ⟨by omega, by simp, by simp⟩ _ _ (by simp only [go_sem, reduceIte, Nat.reduceEqDiff, Nat.reduceAdd, Nat.reduceSub, Nat.reduceLeDiff, Nat.reduceLT, reduceCtorEq, Int.reduceLT, Int.reduceLE, Int.reduceEq, Int.reduceBEq, Int.reduceSub, Int.reduceAdd, Int.reduceMul, Int.reduceNeg, Int.reduceToNat, Nat.reduceMul, Nat.reduceBEq, w8, webC, List.map_replicate, h24, h] <;> rfl)
    clear hg
    obtain ⟨rfl, g1, g2, rfl, g3⟩ := h2
    rw [List.drop_zero] at g3 ⊢
    have e : ps.foldl see1 (List.replicate 7 0) = seeL 7 ps := rfl
    rw [e] at g3 ⊢
    obtain ⟨a, b, c, d, f, g, k, g4⟩ := len_seven g3
    rw [g4]
    simp only [go_sem, reduceIte, Nat.reduceEqDiff, Nat.reduceAdd, Nat.reduceSub, Nat.reduceLeDiff, Nat.reduceLT, reduceCtorEq, Int.reduceLT, Int.reduceLE, Int.reduceEq, Int.reduceBEq, Int.reduceSub, Int.reduceAdd, Int.reduceMul, Int.reduceNeg, Int.reduceToNat, Nat.reduceMul, Nat.reduceBEq, g1, g2, w8, webC, h]
    rfl
  · rw [if_neg h]
    simp only [ir65, go_sem, reduceIte, Nat.reduceEqDiff, Nat.reduceAdd, Nat.reduceSub, Nat.reduceLeDiff, Nat.reduceLT, reduceCtorEq, Int.reduceLT, Int.reduceLE, Int.reduceEq, Int.reduceBEq, Int.reduceSub, Int.reduceAdd, Int.reduceMul, Int.reduceNeg, Int.reduceToNat, Nat.reduceMul, Nat.reduceBEq, h24, h, webC]
    rfl

/-! ### the bits -/
theorem orAt_bit (o : List Nat) (u v a b : Nat) (hu : u < o.length) : ((orAt o u v).getD a 0).testBit b = ((o.getD a 0).testBit b || (decide (a = u) && decide (b = v))) := by
  unfold orAt
  by_cases e : a = u
  · subst e
    rw [List.getD_eq_getElem?_getD, List.getElem?_set_self (by omega)]
    simp only [Option.getD_some, Nat.testBit_or, Nat.testBit_two_pow, decide_true, Bool.true_and]
    congr 1
    by_cases h : v = b
    · simp [h]
    · simp [h, Ne.symm h]
  · rw [List.getD_eq_getElem?_getD, List.getElem?_set_ne (Ne.symm e), ← List.getD_eq_getElem?_getD]
    simp [e]
theorem foldl_see_bit (a b : Nat) : ∀ (ps : List (Int × Int)) (o : List Nat), (∀ p ∈ ps, okP p) → 7 ≤ o.length → ((ps.foldl see1 o).getD a 0).testBit b = ((o.getD a 0).testBit b || decide (((a : Int), (b : Int)) ∈ ps))
  | [], o, _, _ => by simp
  | p :: r, o, hp, hl => by
    have h1 := hp p (by simp)
    unfold okP at h1
    rw [List.foldl_cons, foldl_see_bit a b r _ (fun q hq => hp q (by simp [hq])) (by unfold see1; rw [orAt_len]; exact hl)]
    unfold see1
    rw [orAt_bit _ _ _ _ _ (by omega), Bool.or_assoc]
    congr 1
    obtain ⟨u, v⟩ := p
    simp only at h1 ⊢
    rw [Bool.eq_iff_iff]
    simp only [Bool.or_eq_true, Bool.and_eq_true, decide_eq_true_eq, List.mem_cons, Prod.mk.injEq]
    constructor
    · rintro (⟨h, h'⟩ | h)
      · exact .inl ⟨by omega, by omega⟩
      · exact .inr h
    · rintro (⟨h, h'⟩ | h)
      · exact .inl ⟨by omega, by omega⟩
      · exact .inr h
theorem seeL_bit {z : Nat} (hz : 7 ≤ z) {ps : List (Int × Int)} (h : ∀ p ∈ ps, okP p) (a b : Nat) : ((seeL z ps).getD a 0).testBit b = decide (((a : Int), (b : Int)) ∈ ps) := by
  unfold seeL
  rw [foldl_see_bit a b ps _ h (by simpa using hz)]
  have : (List.replicate z 0).getD a 0 = 0 := by
    rw [List.getD_eq_getElem?_getD, List.getElem?_replicate]; split <;> rfl
  rw [this]; simp

attribute [local go_sem high] and_one shr_u shl_one or_u

/-! ### lists that should be odd circles -/
def ringErr (n : Int) : List Int → List Int → Int
  | _, [] => 0
  | met, x :: r => if x < 0 ∨ n ≤ x then 2 else if x ∈ met then 6 else ringErr n (met ++ [x]) r
def seeErr (ps : List (Int × Int)) : Int → List Int → Int
  | _, [] => 0
  | last, x :: r => if (last, x) ∈ ps then seeErr ps x r else 14
def provE (n : Int) (ps : List (Int × Int)) (l : List Int) : Int :=
  if chk n ps = 0 then if l.length < 3 ∨ l.length % 2 = 0 then 5 else if ringErr n [] l = 0 then seeErr ps (l.getD (l.length - 1) 0) l else ringErr n [] l else chk n ps
theorem ringErr_zero {n : Int} : ∀ {l met : List Int}, ringErr n met l = 0 → ∀ x ∈ l, 0 ≤ x ∧ x < n
  | [], _, _, x, hx => by simp at hx
  | a :: r, met, h, x, hx => by
    simp only [ringErr] at h
    split at h
    · omega
    · split at h
      · omega
      · rcases List.mem_cons.1 hx with rfl | hx
        · omega
        · exact ringErr_zero h x hx
def setL (l : List Int) : Nat := l.foldl (fun m x => m ||| 2 ^ x.toNat) 0
theorem setL_snoc (l : List Int) (x : Int) : setL (l ++ [x]) = setL l ||| 2 ^ x.toNat := by simp [setL]
theorem setL_aux : ∀ (l : List Int) (m : Nat), (∀ x ∈ l, 0 ≤ x ∧ x < 7) → m < 128 → l.foldl (fun m x => m ||| 2 ^ x.toNat) m < 128 ∧ ∀ b : Nat, (l.foldl (fun m x => m ||| 2 ^ x.toNat) m).testBit b = (m.testBit b || decide ((b : Int) ∈ l))
  | [], m, _, hm => ⟨hm, fun b => by simp⟩
  | x :: r, m, h, hm => by
    have hx := h x (by simp)
    have h2 : m ||| 2 ^ x.toNat < 128 := Nat.or_lt_two_pow (n := 7) hm (sh1_lt _ (by omega)).2
    obtain ⟨g1, g2⟩ := setL_aux r (m ||| 2 ^ x.toNat) (fun y hy => h y (by simp [hy])) h2
    refine ⟨g1, fun b => ?_⟩
    rw [List.foldl_cons, g2, Nat.testBit_or, Nat.testBit_two_pow, Bool.or_assoc]
    congr 1
    rw [Bool.eq_iff_iff]
    simp only [Bool.or_eq_true, decide_eq_true_eq, List.mem_cons]
    constructor
    · rintro (h | h)
      · exact .inl (by omega)
      · exact .inr h
    · rintro (h | h)
      · exact .inl (by omega)
      · exact .inr h
theorem setL_lt {l : List Int} (h : ∀ x ∈ l, 0 ≤ x ∧ x < 7) : setL l < 128 := (setL_aux l 0 h (by omega)).1
theorem setL_bit {l : List Int} (h : ∀ x ∈ l, 0 ≤ x ∧ x < 7) (b : Nat) : (setL l).testBit b = decide ((b : Int) ∈ l) := by
  have := (setL_aux l 0 h (by omega)).2 b
  simpa [setL] using this

theorem loop30_0 (nl : Bool) (n : Int) (hn : 1 ≤ n ∧ n ≤ 7) (l : List Int) (hlen : l.length < 1000000) (n2 : Bool) (ps : List (Int × Int)) (o : List Nat) (ho : o.length = 7) (i : Nat) (hok : i ≤ l.length ∧ ∀ x ∈ l.take i, 0 ≤ x ∧ x < n) (env : Env) (st : St)
    (hg : gcAV true 2 0 (canon env [1, 5, 7, 32, 33, 34]) st = ([(1, sl 1 nl (l.map I)), (5, .ptr 1 0), (7, U (setL (l.take i))), (32, sl 1 nl (l.map I)), (33, I l.length), (34, I i)], ⟨[bkCells n2 n ps, webC n o], []⟩)) :
    ∃ x_1 en s, lim (headed pure (run L) true [1, 5, 7, 32, 33, 34] lp30_0 2 0) env st = some (x_1, en, s) ∧ (if ringErr n (l.take i) (l.drop i) = 0 then x_1 = .exit 1 ∧ en.get 1 = sl 1 nl (l.map I) ∧ en.get 5 = .ptr 1 0 ∧ s = ⟨[bkCells n2 n ps, webC n o], []⟩ else x_1 = .ret ∧ en.get 4 = I (ringErr n (l.take i) (l.drop i))) := by
  refine loop_wp (α := Nat) (fun i => l.length - i) (fun i => i ≤ l.length ∧ ∀ x ∈ l.take i, 0 ≤ x ∧ x < n) (fun i => ([(1, sl 1 nl (l.map I)), (5, .ptr 1 0), (7, U (setL (l.take i))), (32, sl 1 nl (l.map I)), (33, I l.length), (34, I i)], ⟨[bkCells n2 n ps, webC n o], []⟩)) (fun i x_1 en s => if ringErr n (l.take i) (l.drop i) = 0 then x_1 = .exit 1 ∧ en.get 1 = sl 1 nl (l.map I) ∧ en.get 5 = .ptr 1 0 ∧ s = ⟨[bkCells n2 n ps, webC n o], []⟩ else x_1 = .ret ∧ en.get 4 = I (ringErr n (l.take i) (l.drop i))) (fun i hok => ?_) i hok env st hg
  obtain ⟨h1, h2⟩ := hok
  dsimp only
  by_cases h : i < l.length
  · have hx := index_ints nl l i h
    have hs := succ64 i (by omega)
    have hd : l.drop i = l[i] :: l.drop (i + 1) := List.drop_eq_getElem_cons h
    have ht : l.take (i + 1) = l.take i ++ [l[i]] := by rw [List.take_succ_eq_append_getElem h]
    have h2' : ∀ x ∈ l.take i, 0 ≤ x ∧ x < 7 := fun x hx => by have := h2 x hx; omega
    have hm1 := setL_lt h2'
    have hm2 := setL_bit h2'
    have hsn := setL_snoc (l.take i) l[i]
    rw [← ht] at hsn
    rw [hd]
    generalize l[i] = x at *
    have hlt : ((i : Int) < (l.length : Int)) = True := eq_true (by omega)
    have hlw := lenW n o
    have g0 := getW0 n o
    rw [ho] at hlw
    by_cases p1 : x < 0
    · have he : ringErr n (l.take i) (x :: l.drop (i + 1)) = 2 := by simp only [ringErr]; rw [if_pos (by omega)]
      simp only [go_sem, reduceIte, Nat.reduceEqDiff, Nat.reduceAdd, Nat.reduceSub, Nat.reduceLeDiff, Nat.reduceLT, reduceCtorEq, Int.reduceLT, Int.reduceLE, Int.reduceEq, Int.reduceBEq, Int.reduceSub, Int.reduceAdd, Int.reduceMul, Int.reduceNeg, Int.reduceToNat, Nat.reduceMul, Nat.reduceBEq, index_rsl_if, setm, make_ints, condK_dec, wantK_dec, not_dec, and_dec, or_dec, seqK_ite, seqK_none, blockK_ite, blockK_none, opsK_ite, opsK_none, stepK_ite, stepK_none, bodyK_ite, bodyK_none, resK_ite, resK_none, leaveK_ite, leaveK_none, only_ite, only_none, bind_ite, gives_some, gives_none, gives_ite, then_normal, then_ret, then_exit, then_none, then_ite, Option.bind_none, Bool.not_eq_true', decide_eq_false_iff_not, Bool.and_eq_true, Bool.or_eq_true, Option.some.injEq, Int.not_lt, Int.not_le, lp30_0, hx, hlt, p1, hlw, g0, List.length_map]
      rw [he]; simp
    by_cases p2 : n ≤ x
    · have he : ringErr n (l.take i) (x :: l.drop (i + 1)) = 2 := by simp only [ringErr]; rw [if_pos (by omega)]
      simp only [go_sem, reduceIte, Nat.reduceEqDiff, Nat.reduceAdd, Nat.reduceSub, Nat.reduceLeDiff, Nat.reduceLT, reduceCtorEq, Int.reduceLT, Int.reduceLE, Int.reduceEq, Int.reduceBEq, Int.reduceSub, Int.reduceAdd, Int.reduceMul, Int.reduceNeg, Int.reduceToNat, Nat.reduceMul, Nat.reduceBEq, index_rsl_if, setm, make_ints, condK_dec, wantK_dec, not_dec, and_dec, or_dec, seqK_ite, seqK_none, blockK_ite, blockK_none, opsK_ite, opsK_none, stepK_ite, stepK_none, bodyK_ite, bodyK_none, resK_ite, resK_none, leaveK_ite, leaveK_none, only_ite, only_none, bind_ite, gives_some, gives_none, gives_ite, then_normal, then_ret, then_exit, then_none, then_ite, Option.bind_none, Bool.not_eq_true', decide_eq_false_iff_not, Bool.and_eq_true, Bool.or_eq_true, Option.some.injEq, Int.not_lt, Int.not_le, lp30_0, hx, hlt, p1, p2, hlw, g0, List.length_map]
      rw [he]; simp
    obtain ⟨k, rfl⟩ := Int.eq_ofNat_of_zero_le (show 0 ≤ x by omega)
    have hk : k < 7 := by omega
    have p1' : ((k : Int) < 0) = False := eq_false p1
    have hb := bit_one (setL (l.take i)) k
    have hmk := min64 k (by omega)
    rw [hm2 k] at hb
    rw [Int.toNat_natCast] at hsn
    have e1 : orU (setL (l.take i)) (sh1 k) = setL (l.take (i + 1)) := by rw [hsn, (sh1_lt k hk).1, orU_eq _ _ hm1 (sh1_lt k hk).2]
    by_cases p3 : (k : Int) ∈ l.take i
    · have he : ringErr n (l.take i) ((k : Int) :: l.drop (i + 1)) = 6 := by simp only [ringErr]; rw [if_neg (by omega), if_pos p3]
      simp only [go_sem, reduceIte, Nat.reduceEqDiff, Nat.reduceAdd, Nat.reduceSub, Nat.reduceLeDiff, Nat.reduceLT, reduceCtorEq, Int.reduceLT, Int.reduceLE, Int.reduceEq, Int.reduceBEq, Int.reduceSub, Int.reduceAdd, Int.reduceMul, Int.reduceNeg, Int.reduceToNat, Nat.reduceMul, Nat.reduceBEq, index_rsl_if, setm, make_ints, condK_dec, wantK_dec, not_dec, and_dec, or_dec, seqK_ite, seqK_none, blockK_ite, blockK_none, opsK_ite, opsK_none, stepK_ite, stepK_none, bodyK_ite, bodyK_none, resK_ite, resK_none, leaveK_ite, leaveK_none, only_ite, only_none, bind_ite, gives_some, gives_none, gives_ite, then_normal, then_ret, then_exit, then_none, then_ite, Option.bind_none, Bool.not_eq_true', decide_eq_false_iff_not, Bool.and_eq_true, Bool.or_eq_true, Option.some.injEq, Int.not_lt, Int.not_le, lp30_0, hx, hlt, p1', p2, hlw, g0, hb, hmk, p3, List.length_map]
      rw [he]; simp
    · have he : ringErr n (l.take i) ((k : Int) :: l.drop (i + 1)) = ringErr n (l.take (i + 1)) (l.drop (i + 1)) := by simp only [ringErr]; rw [if_neg (by omega), if_neg p3, ht]
      rw [he]
      simp only [go_sem, reduceIte, Nat.reduceEqDiff, Nat.reduceAdd, Nat.reduceSub, Nat.reduceLeDiff, Nat.reduceLT, reduceCtorEq, Int.reduceLT, Int.reduceLE, Int.reduceEq, Int.reduceBEq, Int.reduceSub, Int.reduceAdd, Int.reduceMul, Int.reduceNeg, Int.reduceToNat, Nat.reduceMul, Nat.reduceBEq, index_rsl_if, setm, make_ints, condK_dec, wantK_dec, not_dec, and_dec, or_dec, seqK_ite, seqK_none, blockK_ite, blockK_none, opsK_ite, opsK_none, stepK_ite, stepK_none, bodyK_ite, bodyK_none, resK_ite, resK_none, leaveK_ite, leaveK_none, only_ite, only_none, bind_ite, gives_some, gives_none, gives_ite, then_normal, then_ret, then_exit, then_none, then_ite, Option.bind_none, Bool.not_eq_true', decide_eq_false_iff_not, Bool.and_eq_true, Bool.or_eq_true, Option.some.injEq, Int.not_lt, Int.not_le, lp30_0, hx, hlt, hs, p1', p2, hlw, g0, hb, hmk, p3, e1, List.length_map]
      refine ⟨i + 1, by simp only [go_sem, reduceIte, Nat.reduceEqDiff, Nat.reduceAdd, Nat.reduceSub, Nat.reduceLeDiff, Nat.reduceLT, reduceCtorEq, Int.reduceLT, Int.reduceLE, Int.reduceEq, Int.reduceBEq, Int.reduceSub, Int.reduceAdd, Int.reduceMul, Int.reduceNeg, Int.reduceToNat, Nat.reduceMul, Nat.reduceBEq, ren1_locm, loc_tips, locT_eq, okRefsW, renCellsW] <;> rfl, ?_, ?_, fun x en s hq => ?_⟩
      · refine ⟨by omega, fun x hx => ?_⟩
        rw [ht] at hx
        rcases List.mem_append.1 hx with hx | hx
        · exact h2 x hx
        · simp at hx; omega
      · omega
      · exact hq
  · have hd : l.drop i = [] := List.drop_eq_nil_of_le (by omega)
    have hlt : ((i : Int) < (l.length : Int)) = False := eq_false (by omega)
    simp only [go_sem, reduceIte, Nat.reduceEqDiff, Nat.reduceAdd, Nat.reduceSub, Nat.reduceLeDiff, Nat.reduceLT, reduceCtorEq, Int.reduceLT, Int.reduceLE, Int.reduceEq, Int.reduceBEq, Int.reduceSub, Int.reduceAdd, Int.reduceMul, Int.reduceNeg, Int.reduceToNat, Nat.reduceMul, Nat.reduceBEq, index_rsl_if, setm, make_ints, condK_dec, wantK_dec, not_dec, and_dec, or_dec, seqK_ite, seqK_none, blockK_ite, blockK_none, opsK_ite, opsK_none, stepK_ite, stepK_none, bodyK_ite, bodyK_none, resK_ite, resK_none, leaveK_ite, leaveK_none, only_ite, only_none, bind_ite, gives_some, gives_none, gives_ite, then_normal, then_ret, then_exit, then_none, then_ite, Option.bind_none, Bool.not_eq_true', decide_eq_false_iff_not, Bool.and_eq_true, Bool.or_eq_true, Option.some.injEq, Int.not_lt, Int.not_le, lp30_0, hlt, List.length_map]
    rw [hd]; simp [ringErr]

theorem loop30_1 (nl : Bool) (n : Int) (hn : 1 ≤ n ∧ n ≤ 7) (l : List Int) (hlen : l.length < 1000000) (hl : ∀ x ∈ l, 0 ≤ x ∧ x < n) (n2 : Bool) (ps : List (Int × Int)) (h7 : ∀ p ∈ ps, okP p) (i : Nat) (last : Int) (hok : i ≤ l.length ∧ 0 ≤ last ∧ last < n) (env : Env) (st : St)
    (hg : gcAV true 2 0 (canon env [5, 10, 64, 65, 66]) st = ([(5, .ptr 1 0), (10, I last), (64, sl 1 nl (l.map I)), (65, I l.length), (66, I i)], ⟨[bkCells n2 n ps, webC n (seeL 7 ps)], []⟩)) :
    ∃ x_1 en s, lim (headed pure (run L) true [5, 10, 64, 65, 66] lp30_1 2 0) env st = some (x_1, en, s) ∧ (if seeErr ps last (l.drop i) = 0 then x_1 = .exit 4 else x_1 = .ret ∧ en.get 4 = I (seeErr ps last (l.drop i))) := by
  refine loop_wp (α := Nat × Int) (fun ⟨i, last⟩ => l.length - i) (fun ⟨i, last⟩ => i ≤ l.length ∧ 0 ≤ last ∧ last < n) (fun ⟨i, last⟩ => ([(5, .ptr 1 0), (10, I last), (64, sl 1 nl (l.map I)), (65, I l.length), (66, I i)], ⟨[bkCells n2 n ps, webC n (seeL 7 ps)], []⟩)) (fun ⟨i, last⟩ x_1 en s => if seeErr ps last (l.drop i) = 0 then x_1 = .exit 4 else x_1 = .ret ∧ en.get 4 = I (seeErr ps last (l.drop i))) (fun ⟨i, last⟩ hok => ?_) ⟨i, last⟩ hok env st hg
  simp only at hok
  obtain ⟨h1, h2, h3⟩ := hok
  dsimp only
  by_cases h : i < l.length
  · have hx := index_ints nl l i h
    have hs := succ64 i (by omega)
    have hd : l.drop i = l[i] :: l.drop (i + 1) := List.drop_eq_getElem_cons h
    have hli := hl l[i] (List.getElem_mem h)
    rw [hd]
    generalize l[i] = x at *
    have hlt : ((i : Int) < (l.length : Int)) = True := eq_true (by omega)
    obtain ⟨a, rfl⟩ := Int.eq_ofNat_of_zero_le h2
    obtain ⟨k, rfl⟩ := Int.eq_ofNat_of_zero_le hli.1
    have hb := bit_zero ((seeL 7 ps).getD a 0) k
    rw [seeL_bit (by omega) h7] at hb
    have hmk := min64 k (by omega)
    have ho := seeL_len 7 ps
    have g1 := getW n (seeL 7 ps) a (by omega)
    have hlw := lenW n (seeL 7 ps)
    generalize (seeL 7 ps).getD a 0 = m at *
    rw [ho] at hlw
    have b1 : ((0 : Int) ≤ (a : Int)) = True := eq_true (by omega)
    have b2 : ((a : Int) < 7) = True := eq_true (by omega)
    have b5 : (1 + a + 1 ≤ 8) = True := eq_true (by omega)
    by_cases p : ((a : Int), (k : Int)) ∈ ps
    · have he : seeErr ps (a : Int) ((k : Int) :: l.drop (i + 1)) = seeErr ps (k : Int) (l.drop (i + 1)) := by simp only [seeErr]; rw [if_pos p]
      rw [he]
      simp only [go_sem, reduceIte, Nat.reduceEqDiff, Nat.reduceAdd, Nat.reduceSub, Nat.reduceLeDiff, Nat.reduceLT, reduceCtorEq, Int.reduceLT, Int.reduceLE, Int.reduceEq, Int.reduceBEq, Int.reduceSub, Int.reduceAdd, Int.reduceMul, Int.reduceNeg, Int.reduceToNat, Nat.reduceMul, Nat.reduceBEq, index_rsl_if, setm, make_ints, condK_dec, wantK_dec, not_dec, and_dec, or_dec, seqK_ite, seqK_none, blockK_ite, blockK_none, opsK_ite, opsK_none, stepK_ite, stepK_none, bodyK_ite, bodyK_none, resK_ite, resK_none, leaveK_ite, leaveK_none, only_ite, only_none, bind_ite, gives_some, gives_none, gives_ite, then_normal, then_ret, then_exit, then_none, then_ite, Option.bind_none, Bool.not_eq_true', decide_eq_false_iff_not, Bool.and_eq_true, Bool.or_eq_true, Option.some.injEq, Int.not_lt, Int.not_le, lp30_1, hx, hlt, hs, b1, b2, b5, g1, hlw, hb, hmk, p, List.length_map]
      refine ⟨(i + 1, (k : Int)), by simp only [go_sem, reduceIte, Nat.reduceEqDiff, Nat.reduceAdd, Nat.reduceSub, Nat.reduceLeDiff, Nat.reduceLT, reduceCtorEq, Int.reduceLT, Int.reduceLE, Int.reduceEq, Int.reduceBEq, Int.reduceSub, Int.reduceAdd, Int.reduceMul, Int.reduceNeg, Int.reduceToNat, Nat.reduceMul, Nat.reduceBEq, ren1_locm, loc_tips, locT_eq, okRefsW, renCellsW] <;> rfl, ?_, ?_, fun x en s hq => ?_⟩
      · dsimp only; exact ⟨by omega, by omega, by omega⟩
      · simp only; omega
      · exact hq
    · have he : seeErr ps (a : Int) ((k : Int) :: l.drop (i + 1)) = 14 := by simp only [seeErr]; rw [if_neg p]
      simp only [go_sem, reduceIte, Nat.reduceEqDiff, Nat.reduceAdd, Nat.reduceSub, Nat.reduceLeDiff, Nat.reduceLT, reduceCtorEq, Int.reduceLT, Int.reduceLE, Int.reduceEq, Int.reduceBEq, Int.reduceSub, Int.reduceAdd, Int.reduceMul, Int.reduceNeg, Int.reduceToNat, Nat.reduceMul, Nat.reduceBEq, index_rsl_if, setm, make_ints, condK_dec, wantK_dec, not_dec, and_dec, or_dec, seqK_ite, seqK_none, blockK_ite, blockK_none, opsK_ite, opsK_none, stepK_ite, stepK_none, bodyK_ite, bodyK_none, resK_ite, resK_none, leaveK_ite, leaveK_none, only_ite, only_none, bind_ite, gives_some, gives_none, gives_ite, then_normal, then_ret, then_exit, then_none, then_ite, Option.bind_none, Bool.not_eq_true', decide_eq_false_iff_not, Bool.and_eq_true, Bool.or_eq_true, Option.some.injEq, Int.not_lt, Int.not_le, lp30_1, hx, hlt, b1, b2, b5, g1, hlw, hb, hmk, p, List.length_map]
      rw [he]; simp
  · have hd : l.drop i = [] := List.drop_eq_nil_of_le (by omega)
    have hlt : ((i : Int) < (l.length : Int)) = False := eq_false (by omega)
    simp only [go_sem, reduceIte, Nat.reduceEqDiff, Nat.reduceAdd, Nat.reduceSub, Nat.reduceLeDiff, Nat.reduceLT, reduceCtorEq, Int.reduceLT, Int.reduceLE, Int.reduceEq, Int.reduceBEq, Int.reduceSub, Int.reduceAdd, Int.reduceMul, Int.reduceNeg, Int.reduceToNat, Nat.reduceMul, Nat.reduceBEq, index_rsl_if, setm, make_ints, condK_dec, wantK_dec, not_dec, and_dec, or_dec, seqK_ite, seqK_none, blockK_ite, blockK_none, opsK_ite, opsK_none, stepK_ite, stepK_none, bodyK_ite, bodyK_none, resK_ite, resK_none, leaveK_ite, leaveK_none, only_ite, only_none, bind_ite, gives_some, gives_none, gives_ite, then_normal, then_ret, then_exit, then_none, then_ite, Option.bind_none, Bool.not_eq_true', decide_eq_false_iff_not, Bool.and_eq_true, Bool.or_eq_true, Option.some.injEq, Int.not_lt, Int.not_le, lp30_1, hlt, List.length_map]
    rw [hd]; simp [seeErr]

attribute [local go_sem high] and_one shr_u shl_one or_u

theorem tmod_nat (a b : Nat) : (a : Int).tmod (b : Int) = ((a % b : Nat) : Int) := by
  rw [Int.tmod_eq_emod_of_nonneg (by omega)]; simp
theorem putW (n : Int) (o : List Nat) (h : o.length = 7) : putCells [.v (.int .i64 0), .v (.int .u64 0), .v (.int .u64 0), .v (.int .u64 0), .v (.int .u64 0), .v (.int .u64 0), .v (.int .u64 0), .v (.int .u64 0)] 0 (webC n o) = webC n o := by
  obtain ⟨a, b, c, d, e, f, g, rfl⟩ := len_seven h
  rfl
theorem c30 (nl n2 : Bool) (n : Int) (ps : List (Int × Int)) (l : List Int) (hlen : l.length < 1000000) (st : St) :
    run L 30 [bkAV nl n ps, sl 1 n2 (l.map I)] st = some (I (provE n ps l), st) := by
  rw [run_pure (fn := ir30) rfl rfl]
  have h65 := fun st => c65 nl n ps st
  unfold provE
  by_cases h : chk n ps = 0
  · obtain ⟨h1, h2, h3, h4, h5⟩ := chk_zero h
    rw [if_pos h]
    have hw : wovL n ps = seeL 7 ps := by unfold wovL; rw [if_pos h]
    rw [hw] at h65
    have hlw := lenW n (seeL 7 ps)
    rw [seeL_len] at hlw
    have ht2 : (l.length : Int).tmod 2 = ((l.length % 2 : Nat) : Int) := tmod_nat l.length 2
    have hpw := putW n (seeL 7 ps) (seeL_len 7 ps)
    by_cases p1 : l.length < 3
    · rw [if_pos (.inl p1)]
      have q1 : ((l.length : Int) < 3) = True := eq_true (by omega)
      simp only [ir30, go_sem, reduceIte, Nat.reduceEqDiff, Nat.reduceAdd, Nat.reduceSub, Nat.reduceLeDiff, Nat.reduceLT, reduceCtorEq, Int.reduceLT, Int.reduceLE, Int.reduceEq, Int.reduceBEq, Int.reduceSub, Int.reduceAdd, Int.reduceMul, Int.reduceNeg, Int.reduceToNat, Nat.reduceMul, Nat.reduceBEq, h65, h, hlw, q1, List.length_map, storableW, pubsW, hpw]
    · have q1 : ((l.length : Int) < 3) = False := eq_false (by omega)
      by_cases p2 : l.length % 2 = 0
      · rw [if_pos (.inr p2)]
        have q2 : (((l.length % 2 : Nat) : Int) = 0) = True := eq_true (by omega)
        simp only [ir30, go_sem, reduceIte, Nat.reduceEqDiff, Nat.reduceAdd, Nat.reduceSub, Nat.reduceLeDiff, Nat.reduceLT, reduceCtorEq, Int.reduceLT, Int.reduceLE, Int.reduceEq, Int.reduceBEq, Int.reduceSub, Int.reduceAdd, Int.reduceMul, Int.reduceNeg, Int.reduceToNat, Nat.reduceMul, Nat.reduceBEq, h65, h, hlw, q1, List.length_map, storableW, pubsW, hpw, ht2, q2]
      · rw [if_neg (by omega)]
        have q2 : (((l.length % 2 : Nat) : Int) = 0) = False := eq_false (by omega)
        simp only [ir30, go_sem, reduceIte, Nat.reduceEqDiff, Nat.reduceAdd, Nat.reduceSub, Nat.reduceLeDiff, Nat.reduceLT, reduceCtorEq, Int.reduceLT, Int.reduceLE, Int.reduceEq, Int.reduceBEq, Int.reduceSub, Int.reduceAdd, Int.reduceMul, Int.reduceNeg, Int.reduceToNat, Nat.reduceMul, Nat.reduceBEq, h65, h, hlw, q1, List.length_map, storableW, pubsW, hpw, ht2, q2]
        generalize hg : lim (headed pure (run L) true _ lp30_0 _ _) _ _ = o
        obtain ⟨x, en, s, rfl, h2⟩ : ∃ x en s, o = some (x, en, s) ∧ _ := by rw [← hg]; exact loop30_0 n2 n h1 l hlen nl ps (seeL 7 ps) (seeL_len 7 ps) 0 ⟨by omega, by simp⟩ _ _ (by simp only [go_sem, reduceIte, Nat.reduceEqDiff, Nat.reduceAdd, Nat.reduceSub, Nat.reduceLeDiff, Nat.reduceLT, reduceCtorEq, Int.reduceLT, Int.reduceLE, Int.reduceEq, Int.reduceBEq, Int.reduceSub, Int.reduceAdd, Int.reduceMul, Int.reduceNeg, Int.reduceToNat, Nat.reduceMul, Nat.reduceBEq, okRefsW, renCellsW] <;> rfl)
        clear hg
        rw [List.drop_zero, List.take_zero] at h2
        by_cases p3 : ringErr n [] l = 0
        · rw [if_pos p3] at h2 ⊢
          obtain ⟨rfl, g1, g2, rfl⟩ := h2
          have hr := ringErr_zero p3
          have hlast := index_ints n2 l (l.length - 1) (by omega)
          have hl1 : IntKind.i64.wrap ((l.length : Int) - 1) = ((l.length - 1 : Nat) : Int) := by rw [wrap64] <;> omega
          have e : l.getD (l.length - 1) 0 = l[l.length - 1]'(by omega) := by rw [List.getD_eq_getElem?_getD, List.getElem?_eq_getElem (by omega)]; rfl
          have hrl := hr _ (List.getElem_mem (show l.length - 1 < l.length by omega))
          rw [← e] at hlast hrl
          generalize l.getD (l.length - 1) 0 = last at *
          simp only [go_sem, reduceIte, Nat.reduceEqDiff, Nat.reduceAdd, Nat.reduceSub, Nat.reduceLeDiff, Nat.reduceLT, reduceCtorEq, Int.reduceLT, Int.reduceLE, Int.reduceEq, Int.reduceBEq, Int.reduceSub, Int.reduceAdd, Int.reduceMul, Int.reduceNeg, Int.reduceToNat, Nat.reduceMul, Nat.reduceBEq, g1, g2, List.length_map, hl1, hlast]
          generalize hg : lim (headed pure (run L) true _ lp30_1 _ _) _ _ = o
          obtain ⟨x, en, s, rfl, h2⟩ : ∃ x en s, o = some (x, en, s) ∧ _ := by rw [← hg]; exact loop30_1 n2 n h1 l hlen hr nl ps h4 0 last ⟨by omega, by omega, by omega⟩ _ _ (by simp only [go_sem, reduceIte, Nat.reduceEqDiff, Nat.reduceAdd, Nat.reduceSub, Nat.reduceLeDiff, Nat.reduceLT, reduceCtorEq, Int.reduceLT, Int.reduceLE, Int.reduceEq, Int.reduceBEq, Int.reduceSub, Int.reduceAdd, Int.reduceMul, Int.reduceNeg, Int.reduceToNat, Nat.reduceMul, Nat.reduceBEq, okRefsW, renCellsW, g2] <;> rfl)
          clear hg
          rw [List.drop_zero] at h2
          by_cases p4 : seeErr ps last l = 0
          · rw [if_pos p4] at h2
            subst h2
            simp only [go_sem, reduceIte, Nat.reduceEqDiff, Nat.reduceAdd, Nat.reduceSub, Nat.reduceLeDiff, Nat.reduceLT, reduceCtorEq, Int.reduceLT, Int.reduceLE, Int.reduceEq, Int.reduceBEq, Int.reduceSub, Int.reduceAdd, Int.reduceMul, Int.reduceNeg, Int.reduceToNat, Nat.reduceMul, Nat.reduceBEq, p4]
          · rw [if_neg p4] at h2
            obtain ⟨rfl, g3⟩ := h2
            simp only [go_sem, reduceIte, Nat.reduceEqDiff, Nat.reduceAdd, Nat.reduceSub, Nat.reduceLeDiff, Nat.reduceLT, reduceCtorEq, Int.reduceLT, Int.reduceLE, Int.reduceEq, Int.reduceBEq, Int.reduceSub, Int.reduceAdd, Int.reduceMul, Int.reduceNeg, Int.reduceToNat, Nat.reduceMul, Nat.reduceBEq, g3]
        · rw [if_neg p3] at h2 ⊢
          obtain ⟨rfl, g3⟩ := h2
          simp only [go_sem, reduceIte, Nat.reduceEqDiff, Nat.reduceAdd, Nat.reduceSub, Nat.reduceLeDiff, Nat.reduceLT, reduceCtorEq, Int.reduceLT, Int.reduceLE, Int.reduceEq, Int.reduceBEq, Int.reduceSub, Int.reduceAdd, Int.reduceMul, Int.reduceNeg, Int.reduceToNat, Nat.reduceMul, Nat.reduceBEq, g3]
  · rw [if_neg h]
    have hlw := lenW n (wovL n ps)
    have hl7 : (wovL n ps).length = 7 := by unfold wovL; rw [if_neg h]; simp
    have hpw := putW n (wovL n ps) hl7
    rw [hl7] at hlw
    simp only [ir30, go_sem, reduceIte, Nat.reduceEqDiff, Nat.reduceAdd, Nat.reduceSub, Nat.reduceLeDiff, Nat.reduceLT, reduceCtorEq, Int.reduceLT, Int.reduceLE, Int.reduceEq, Int.reduceBEq, Int.reduceSub, Int.reduceAdd, Int.reduceMul, Int.reduceNeg, Int.reduceToNat, Nat.reduceMul, Nat.reduceBEq, h65, h, hlw, List.length_map, storableW, pubsW, hpw]


/-! ### a book by numbers is a good one -/
def goodP (n : Int) (p : Int × Int) : Prop := 0 ≤ p.1 ∧ p.1 < n ∧ 0 ≤ p.2 ∧ p.2 < n ∧ p.1 ≠ p.2
theorem prsErr_ok {n : Int} : ∀ (ps seen : List (Int × Int)), (∀ p ∈ ps, goodP n p) → (seen ++ ps).Nodup → prsErr n seen ps = 0
  | [], _, _, _ => rfl
  | p :: r, seen, h, hn => by
    have hp := h p (by simp)
    unfold goodP at hp
    have h1 : p ∉ seen := by
      intro hs
      rw [List.nodup_append] at hn
      exact hn.2.2 p hs p (by simp) rfl
    have e : prErr n seen p = 0 := by
      unfold prErr
      rw [if_neg (by omega), if_neg (by omega), if_neg h1]
    simp only [prsErr, e, if_true]
    exact prsErr_ok r _ (fun q hq => h q (by simp [hq])) (by simpa using hn)
theorem mk_ok {n : Int} (hn : 0 < n) {out : List (Int × Int)} (h : (∀ p ∈ out, goodP n p) ∧ out.Nodup) (a b : Int) :
    (∀ p ∈ mkStep n out a b, goodP n p) ∧ (mkStep n out a b).Nodup := by
  have ra := mod_range a n hn
  have rb := mod_range b n hn
  unfold mkStep
  split
  · next hc =>
    refine ⟨fun p hp => ?_, ?_⟩
    · rcases List.mem_append.1 hp with hp | hp
      · exact h.1 p hp
      · rw [List.mem_singleton] at hp; subst hp; exact ⟨ra.1, ra.2, rb.1, rb.2, hc.1⟩
    · rw [List.nodup_append]
      refine ⟨h.2, by simp, fun x hx y hy => ?_⟩
      rw [List.mem_singleton] at hy; subst hy
      intro e; subst e; exact hc.2 hx
  · exact h
theorem madeTo_ok {n : Int} (hn : 0 < n) (zs : List Int) : ∀ k, (∀ p ∈ madeTo n zs k, goodP n p) ∧ (madeTo n zs k).Nodup
  | 0 => by simp [madeTo]
  | k + 1 => mk_ok hn (madeTo_ok hn zs k) _ _
/-- What is known of a book by numbers. -/
theorem made_ok {most : Int} (hl : most = 6 ∨ most = 7) (zs : List Int) :
    ∃ n : Nat, madeN most zs = n ∧ 1 ≤ n ∧ (n : Int) ≤ most ∧ n ≤ 7 ∧ (madeP most zs).length ≤ 16 ∧ (∀ p ∈ madeP most zs, goodP n p) ∧ (∀ p ∈ madeP most zs, okP p) ∧ (madeP most zs).Nodup ∧ chk (n : Int) (madeP most zs) = 0 := by
  have r0 := mod_range (zs.getD 0 0) most (by omega)
  have r1 := mod_range (zs.getD 1 0) 17 (by omega)
  have hN : madeN most zs = 1 + zs.getD 0 0 % most := rfl
  obtain ⟨n, hn⟩ := Int.eq_ofNat_of_zero_le (show 0 ≤ madeN most zs by omega)
  have h1 := madeTo_ok (n := madeN most zs) (by omega) zs (zs.getD 1 0 % 17).toNat
  have h2 := madeTo_len (madeN most zs) zs (zs.getD 1 0 % 17).toNat
  have e : madeP most zs = madeTo (madeN most zs) zs (zs.getD 1 0 % 17).toNat := rfl
  rw [← e] at h1 h2
  rw [hn] at h1
  refine ⟨n, hn, by omega, by omega, by omega, by omega, h1.1, fun p hp => ?_, h1.2, ?_⟩
  · have := h1.1 p hp; unfold goodP at this; unfold okP; omega
  · unfold chk
    rw [if_neg (by omega), if_neg (by omega)]
    exact prsErr_ok _ [] h1.1 (by simpa using h1.2)

/-! ### each sees the next one -/
def nextOk (ps : List (Int × Int)) (l : List Int) (j : Nat) : Bool := decide ((l.getD j 0, l.getD ((j + 1) % l.length) 0) ∈ ps)
theorem seeErr_eq (ps : List (Int × Int)) : ∀ (l : List Int) (a : Int), seeErr ps a l = if (∀ j, j < l.length → ((a :: l).getD j 0, (a :: l).getD (j + 1) 0) ∈ ps) then 0 else 14
  | [], a => by simp [seeErr]
  | x :: r, a => by
    simp only [seeErr]
    by_cases h : (a, x) ∈ ps
    · rw [if_pos h, seeErr_eq ps r x]
      by_cases h2 : ∀ j, j < r.length → ((x :: r).getD j 0, (x :: r).getD (j + 1) 0) ∈ ps
      · rw [if_pos h2, if_pos]
        intro j hj
        cases j with
        | zero => simpa using h
        | succ j => simpa using h2 j (by simpa using hj)
      · rw [if_neg h2, if_neg]
        intro h3
        exact h2 fun j hj => by simpa using h3 (j + 1) (by simpa using hj)
    · rw [if_neg h, if_neg]
      intro h3
      exact h (by simpa using h3 0 (by simp))
theorem see_next (ps : List (Int × Int)) (l : List Int) (hl : l ≠ []) : seeErr ps (l.getD (l.length - 1) 0) l = if (List.range l.length).all (nextOk ps l) = true then 0 else 14 := by
  rw [seeErr_eq]
  have hpos : 0 < l.length := List.length_pos_iff.2 hl
  have e : (∀ j, j < l.length → ((l.getD (l.length - 1) 0 :: l).getD j 0, (l.getD (l.length - 1) 0 :: l).getD (j + 1) 0) ∈ ps) ↔ (List.range l.length).all (nextOk ps l) = true := by
    rw [List.all_eq_true]
    constructor
    · intro h j hj
      rw [List.mem_range] at hj
      unfold nextOk
      rw [decide_eq_true_iff]
      by_cases h2 : j + 1 < l.length
      · have := h (j + 1) h2
        rw [List.getD_cons_succ, List.getD_cons_succ] at this
        rw [Nat.mod_eq_of_lt h2]; exact this
      · obtain rfl : j = l.length - 1 := by omega
        have := h 0 hpos
        rw [List.getD_cons_zero, List.getD_cons_succ] at this
        rw [show l.length - 1 + 1 = l.length by omega, Nat.mod_self]; exact this
    · intro h j hj
      cases j with
      | zero =>
        have := h (l.length - 1) (List.mem_range.2 (by omega))
        unfold nextOk at this
        rw [decide_eq_true_iff, show l.length - 1 + 1 = l.length by omega, Nat.mod_self] at this
        rw [List.getD_cons_zero, List.getD_cons_succ]; exact this
      | succ j =>
        have := h j (List.mem_range.2 (by omega))
        unfold nextOk at this
        rw [decide_eq_true_iff, Nat.mod_eq_of_lt hj] at this
        rw [List.getD_cons_succ, List.getD_cons_succ]; exact this
  by_cases h : (List.range l.length).all (nextOk ps l) = true
  · rw [if_pos h, if_pos (e.2 h)]
  · rw [if_neg h, if_neg (fun h2 => h (e.1 h2))]

/-! ### a list of numbers that grows -/
def vAV (v : List Int) : AV := loc 1 0 (v.map I)
def vT (v : List Int) : List Nat := locT 0 (v.map I)
def vAcc (v : List Int) : List (Nat × Nat) := if (v.map I).length = 0 then [] else [(0, (v.map I).length)]
theorem okRef_v (n : Nat) (v : List Int) : okRef n (vAV v) = true := okRef_loc _ _ _ _
theorem pub_v (v : List Int) : pub (vAV v) = sl 1 true (v.map I) := pub_loc 1 0 _
theorem len_v (v : List Int) : lenAV (vAV v) = some (I v.length) := by unfold vAV; rw [len_loc]; simp
theorem ren1_v (v : List Int) : ren1 0 (vT v) [] (vAV v) = (vAV v, vAcc v) := ren1_loc (k := 0) 1 (v.map I)
theorem vAcc_snd (v : List Int) : (vAcc v).map (fun x => x.2) = vT v := by
  unfold vAcc vT locT; split <;> rfl
theorem append_v (v : List Int) (x : Int) (S : List (List AV)) (h : v.length < 1000) : appendAV 1 (vAV v) [I x] ⟨S, vT v⟩ = some (vAV (v ++ [x]), ⟨S, vT (v ++ [x])⟩) :=
  append_locm (z := 1) (k := 0) I v x S (by omega) (by simp [maxGrow]; omega)
theorem index_v (v : List Int) (i : Int) (h : 0 ≤ i) (h2 : i < v.length) : indexSAV 1 (vAV v) (.v (.int .i64 i)) = some (.eptr (I (v.getD i.toNat 0)) 0) := by
  unfold vAV
  rw [index_loc _ _ _ _ _ h (by simp; omega)]
  simp [List.getD_eq_getElem?_getD, List.getElem?_eq_getElem (show i.toNat < v.length by omega)]
theorem vT_start : vT [] = [] := rfl
theorem v_start : .v (.slice none 0 0) = vAV [] := rfl
theorem ren1_vh (v : List Int) (acc : List (Nat × Nat)) : ren1 (vT v).length (vT v) acc (vAV v) = (vAV v, acc) := by
  unfold vAV vT loc locT
  split
  · rfl
  · simp [ren1]
theorem slice_v (v : List Int) (i : Nat) (h : i < v.length) : ∃ g, sliceAV 1 (vAV v) none (some (.v (.int .i64 i))) none = some (.lst g 1 ((v.take i).map I)) := by
  unfold vAV loc
  rw [if_neg (by intro h0; have : v = [] := by simpa using h0
                 subst this; simp at h)]
  simp [sliceAV, natOr, natOf, List.map_take]
  omega
end Go.Proofs.YtgohohiaaiogcaaDoor.Vm

namespace Go.Proofs.YtgohohiaaiogcaaDoor.Vm
open Go Go.Ev Go.ChangeShapes Go.WideShapes Go.ChangeAt Go.RowKit
set_option maxRecDepth 100000
attribute [local go_sem] cells_any storable_any ren1_any shaped_ptr cells_ptr storable_ptr ren1_ptr shaped_eptr cells_eptr storable_eptr ren1_eptr shaped_rsl cells_rsl storable_rsl ren1_rsl shaped_int cells_int storable_int ren1_int shaped_bool cells_bool storable_bool ren1_bool shaped_nils cells_nils storable_nils ren1_nils shaped_lst cells_lst storable_lst shaped_fn cells_fn storable_fn ren1_fn shaped_ifc cells_ifc storable_ifc ren1_ifc shaped_agg cells_agg storable_agg ren1_agg shaped_tup cells_tup storable_tup ren1_tup shaped_nif cells_nif storable_nif ren1_nif ren1_lany ren1_lfull ren1_lown len_lst len_rsl len_nil load_ptr load_eptr isRsl_lst isRsl_nil isRsl_rsl elems_nil elems_lst elems_sl isRsl_sl body_eq bodyK_normal bodyK_ret resK_some leaveK_some only_some code_skip code_exit code_ret code_ops code_seq code_cond code_block seqK_normal seqK_ret seqK_exit condK_true condK_false blockK_normal blockK_ret blockK_exit opsK_some ops_nil ops_cons wantK_true wantK_false stepK_some pubs pub pub_sl params okRef_loc storable_loc shaped_loc cells_loc isRsl_loc elems_loc len_loc untips untip untip_sl wantedAV setElems withO isAgg_v isAgg_agg isAgg_lst isAgg_ptr isAgg_fn isAgg_ifc isAgg_rsl isAgg_sl isAgg_loc List.replicate_succ List.replicate_zero opAV valAV aval avals ofVal Env.get setD canon gcAV renAll renEnv renStore renCells ren1_sl cutSt okEnv okStore okRefs okRef okRef_sl bin_int bin_bool bin_lst bin_rsl bin_nil bin_agg cellsEq cellEq isShift intOp boolOp min_int max_int beq_int bne resAV tupAV leave_eq fin_sl fin_loc fins fin_v fin_lst fin_agg fin_tup fin_fn storeAV readCells putCells cells_sl shaped_sl storable_sl fieldAddrAV len_sl goI List.getElem?_cons_zero List.getElem?_cons_succ List.getElem?_nil Option.bind_some Option.map_some List.length_cons List.length_nil List.all_cons List.all_nil Bool.and_true Bool.true_and Bool.and_false Bool.false_and and_true true_and and_false false_and Bool.false_eq_true List.set_cons_zero List.set_cons_succ List.append_nil List.nil_append List.cons_append List.take_zero List.take_succ_cons List.take_nil List.drop_zero List.drop_succ_cons List.map_cons List.map_nil decide_true decide_false beq_self_eq_true Bool.not_true Bool.not_false or_true true_or or_false false_or Nat.zero_add Nat.add_zero Nat.le_refl Nat.lt_irrefl decide_eq_true_eq eq_self_iff_true not_true_eq_false not_false_eq_true List.getD_cons_zero code_loop Nat.zero_le Nat.not_lt_zero Bool.true_beq Bool.false_beq beq_true beq_false ge_iff_le gt_iff_lt Lpure pus Option.map_none assert_ifc assert_nil idxA_ptr idxA_eptr idxV_agg Int.cast_ofNat_Int Nat.mul_one Nat.zero_mul Int.toNat_natCast Int.toNat_zero setParts withO2 hasKey eqnil_sl nenil_sl eqnil_loc nenil_loc map_nil_iff okRefs_ints renCells_ints

theorem cells5 : Tryd.prog.cellsOf 5 = 1 := by kernel_rfl
theorem cells57 : Tryd.prog.cellsOf 57 = 2 := by kernel_rfl
theorem cells58 : Tryd.prog.cellsOf 58 = 32 := by kernel_rfl
theorem cells60 : Tryd.prog.cellsOf 60 = 34 := by kernel_rfl
theorem cells65 : Tryd.prog.cellsOf 65 = 7 := by kernel_rfl
theorem one_byte {d : Nat} {bs : List AV} (h : Sh Tryd.prog (d + 1) 5 bs) : ∃ zs : List Int, bs = zs.map B8 ∧ zs.length = 1 ∧ ∀ n ∈ zs, Byte n := by
  simp only [Sh, Tryd.underlying5] at h
  obtain ⟨n, h1, h2⟩ := h
  exact ⟨[n], h1, rfl, by simp; exact bounds_u8 h2⟩
/-- Parts of bytes. -/
theorem all_parts (z : Nat) : ∀ (k : Nat) (bs : List AV), bs.length = k * z → (∀ i, i < k → ∃ zs : List Int, (bs.drop (i * z)).take z = zs.map B8 ∧ zs.length = z ∧ ∀ n ∈ zs, Byte n) → ∃ zs : List Int, bs = zs.map B8 ∧ zs.length = k * z ∧ ∀ n ∈ zs, Byte n
  | 0, bs, hl, _ => ⟨[], by have : bs.length = 0 := by simpa using hl
                            simpa using this, by simp, by simp⟩
  | k + 1, bs, hl, h => by
    rw [Nat.succ_mul] at hl
    obtain ⟨zs, h1, h2, h3⟩ := h 0 (by omega)
    rw [Nat.zero_mul, List.drop_zero] at h1
    obtain ⟨ys, g1, g2, g3⟩ := all_parts z k (bs.drop z) (by simp; omega) fun i hi => by
      obtain ⟨xs, q1, q2, q3⟩ := h (i + 1) (by omega)
      refine ⟨xs, ?_, q2, q3⟩
      rw [List.drop_drop, ← q1, Nat.succ_mul, Nat.add_comm (i * z) z]
    refine ⟨zs ++ ys, ?_, by rw [List.length_append, h2, g2, Nat.succ_mul]; omega, ?_⟩
    · rw [List.map_append, ← h1, ← g1, List.take_append_drop]
    · intro n hn
      rcases List.mem_append.1 hn with hn | hn
      · exact h3 n hn
      · exact g3 n hn
theorem sh_b57 {d : Nat} {bs : List AV} (h : Sh Tryd.prog (d + 2) 57 bs) : ∃ zs : List Int, bs = zs.map B8 ∧ zs.length = 2 ∧ ∀ n ∈ zs, Byte n := by
  unfold Sh at h
  simp only [Tryd.underlying57, cells57, cells5] at h
  exact all_parts 1 2 bs (by omega) (fun i hi => one_byte (h.2 i hi))
theorem sh_b58 {d : Nat} {bs : List AV} (h : Sh Tryd.prog (d + 3) 58 bs) : ∃ zs : List Int, bs = zs.map B8 ∧ zs.length = 32 ∧ ∀ n ∈ zs, Byte n := by
  unfold Sh at h
  simp only [Tryd.underlying58, cells58, cells57] at h
  exact all_parts 2 16 bs (by omega) (fun i hi => sh_b57 (h.2 i hi))
/-- A book by numbers. -/
theorem sh_quarrel {a : AV} (h : ShV Tryd.prog 8 60 a) : ∃ zs : List Int, a = qAV zs ∧ zs.length = 34 ∧ ∀ n ∈ zs, Byte n := by
  unfold ShV at h
  rw [if_pos (by unfold aggB; rw [Tryd.underlying60])] at h
  obtain ⟨cs, rfl, hs⟩ := h
  unfold Sh at hs
  simp only [Tryd.underlying60, cells60] at hs
  obtain ⟨h1, h2⟩ := hs
  have f0 := h2 0 _ rfl
  have f1 := h2 1 _ rfl
  have f2 := h2 2 _ rfl
  simp only [List.getElem_toArray, List.getElem_cons_zero, List.getElem_cons_succ, cells5, cells58] at f0 f1 f2
  obtain ⟨ar, e0, l0, b0⟩ := one_byte f0
  obtain ⟨bs, e1, l1, b1⟩ := one_byte f1
  obtain ⟨es, e2, l2, b2⟩ := sh_b58 f2
  refine ⟨ar ++ (bs ++ es), ?_, by simp [l0, l1, l2], ?_⟩
  · have s5 : (cs.drop 2).take 32 = cs.drop 2 := List.take_of_length_le (by simp [h1])
    have s2 : (cs.drop 1).take 1 ++ cs.drop 2 = cs.drop 1 := by
      have := List.take_append_drop 1 (cs.drop 1)
      rw [List.drop_drop] at this
      exact this
    have s1 : (cs.drop 0).take 1 ++ cs.drop 1 = cs := by
      have := List.take_append_drop 1 cs
      simpa using this
    show AV.agg cs = AV.agg _
    rw [List.map_append, List.map_append, ← e0, ← e1, ← e2, s5, s2, s1]
  · intro n hn
    rcases List.mem_append.1 hn with hn | hn
    · exact b0 n hn
    · rcases List.mem_append.1 hn with hn | hn
      · exact b1 n hn
      · exact b2 n hn
theorem sh_byte {a : AV} (h : ShV Tryd.prog 8 5 a) : ∃ n, a = B8 n ∧ Byte n := by
  unfold ShV at h
  rw [if_neg (by unfold aggB; rw [Tryd.underlying5]; simp)] at h
  simp only [Sh, Tryd.underlying5, List.cons.injEq, and_true] at h
  obtain ⟨n, h1, h2⟩ := h
  exact ⟨n, h1, bounds_u8 h2⟩
theorem sh_b7 {a : AV} (h : ShV Tryd.prog 8 65 a) : ∃ zs : List Int, a = .agg (zs.map B8) ∧ zs.length = 7 ∧ ∀ n ∈ zs, Byte n := by
  unfold ShV at h
  rw [if_pos (by unfold aggB; rw [Tryd.underlying65])] at h
  obtain ⟨cs, rfl, hs⟩ := h
  unfold Sh at hs
  simp only [Tryd.underlying65, cells65, cells5] at hs
  obtain ⟨zs, h1, h2, h3⟩ := all_parts 1 7 cs (by omega) (fun i hi => one_byte (hs.2 i hi))
  exact ⟨zs, by rw [h1], h2, h3⟩
end Go.Proofs.YtgohohiaaiogcaaDoor.Vm

namespace Go.Proofs.YtgohohiaaiogcaaDoor.Vm
open Go Go.Ev
set_option maxRecDepth 100000
attribute [local go_sem] cells_any storable_any ren1_any shaped_ptr cells_ptr storable_ptr ren1_ptr shaped_eptr cells_eptr storable_eptr ren1_eptr shaped_rsl cells_rsl storable_rsl ren1_rsl shaped_int cells_int storable_int ren1_int shaped_bool cells_bool storable_bool ren1_bool shaped_nils cells_nils storable_nils ren1_nils shaped_lst cells_lst storable_lst shaped_fn cells_fn storable_fn ren1_fn shaped_ifc cells_ifc storable_ifc ren1_ifc shaped_agg cells_agg storable_agg ren1_agg shaped_tup cells_tup storable_tup ren1_tup shaped_nif cells_nif storable_nif ren1_nif ren1_lany ren1_lfull ren1_lown len_lst len_rsl len_nil load_ptr load_eptr isRsl_lst isRsl_nil isRsl_rsl elems_nil elems_lst elems_sl isRsl_sl body_eq bodyK_normal bodyK_ret resK_some leaveK_some only_some code_skip code_exit code_ret code_ops code_seq code_cond code_block seqK_normal seqK_ret seqK_exit condK_true condK_false blockK_normal blockK_ret blockK_exit opsK_some ops_nil ops_cons wantK_true wantK_false stepK_some pubs pub pub_sl params okRef_loc storable_loc shaped_loc cells_loc isRsl_loc elems_loc len_loc untips untip untip_sl wantedAV setElems withO isAgg_v isAgg_agg isAgg_lst isAgg_ptr isAgg_fn isAgg_ifc isAgg_rsl isAgg_sl isAgg_loc List.replicate_succ List.replicate_zero opAV valAV aval avals ofVal Env.get setD canon gcAV renAll renEnv renStore renCells ren1_sl cutSt okEnv okStore okRefs okRef okRef_sl bin_int bin_bool bin_lst bin_rsl bin_nil bin_agg cellsEq cellEq isShift intOp boolOp min_int max_int beq_int bne resAV tupAV leave_eq fin_sl fin_loc fins fin_v fin_lst fin_agg fin_tup fin_fn storeAV readCells putCells cells_sl shaped_sl storable_sl fieldAddrAV len_sl goI List.getElem?_cons_zero List.getElem?_cons_succ List.getElem?_nil Option.bind_some Option.map_some List.length_cons List.length_nil List.all_cons List.all_nil Bool.and_true Bool.true_and Bool.and_false Bool.false_and and_true true_and and_false false_and Bool.false_eq_true List.set_cons_zero List.set_cons_succ List.append_nil List.nil_append List.cons_append List.take_zero List.take_succ_cons List.take_nil List.drop_zero List.drop_succ_cons List.map_cons List.map_nil decide_true decide_false beq_self_eq_true Bool.not_true Bool.not_false or_true true_or or_false false_or Nat.zero_add Nat.add_zero Nat.le_refl Nat.lt_irrefl decide_eq_true_eq eq_self_iff_true not_true_eq_false not_false_eq_true List.getD_cons_zero code_loop Nat.zero_le Nat.not_lt_zero Bool.true_beq Bool.false_beq beq_true beq_false ge_iff_le gt_iff_lt Lpure pus Option.map_none assert_ifc assert_nil idxA_ptr idxA_eptr idxV_agg Int.cast_ofNat_Int Nat.mul_one Nat.zero_mul Int.toNat_natCast Int.toNat_zero setParts withO2 hasKey eqnil_sl nenil_sl eqnil_loc nenil_loc map_nil_iff okRefs_ints renCells_ints

def lTo (n : Int) (ys : List Int) (k : Nat) : List Int := (List.range k).map fun j => ys.getD j 0 % (n + 1)
theorem lTo_len (n : Int) (ys : List Int) (k : Nat) : (lTo n ys k).length = k := by simp [lTo]
theorem lTo_succ (n : Int) (ys : List Int) (k : Nat) : lTo n ys (k + 1) = lTo n ys k ++ [ys.getD k 0 % (n + 1)] := by simp [lTo, List.range_succ]
theorem lTo_mem {n : Int} (hn : 0 ≤ n) (ys : List Int) (k : Nat) : ∀ x ∈ lTo n ys k, 0 ≤ x ∧ x ≤ n := by
  intro x hx
  unfold lTo at hx
  rw [List.mem_map] at hx
  obtain ⟨j, _, rfl⟩ := hx
  have := mod_range (ys.getD j 0) (n + 1) (by omega)
  omega

theorem loop14_0 (zs ys : List Int) (hyl : ys.length = 7) (hy : ∀ a ∈ ys, Byte a) (n : Int) (hn : 1 ≤ n ∧ n ≤ 7) (ps : List (Int × Int)) (k : Nat) (hk : k ≤ 7) (i : Nat) (hok : i ≤ k) (env : Env) (st : St)
    (hg : gcAV true 4 0 (canon env [7, 8, 9, 24, 25, 26]) st = ([(7, .ptr 2 0), (8, .ptr 3 0), (9, vAV (lTo n ys i)), (24, .rsl 1 0 k 7 1 false), (25, I k), (26, I i)], ⟨[zs.map B8, ys.map B8, bkCells true n ps, (seeL 8 ps).map J], vT (lTo n ys i)⟩)) :
    ∃ x_1 en s, lim (headed pure (run L) true [7, 8, 9, 24, 25, 26] lp14_0 4 0) env st = some (x_1, en, s) ∧ (x_1 = .exit 0 ∧ en.get 7 = .ptr 2 0 ∧ en.get 8 = .ptr 3 0 ∧ en.get 9 = vAV (lTo n ys k) ∧ s = ⟨[zs.map B8, ys.map B8, bkCells true n ps, (seeL 8 ps).map J], vT (lTo n ys k)⟩) := by
  refine loop_wp (α := Nat) (fun i => k - i) (fun i => i ≤ k) (fun i => ([(7, .ptr 2 0), (8, .ptr 3 0), (9, vAV (lTo n ys i)), (24, .rsl 1 0 k 7 1 false), (25, I k), (26, I i)], ⟨[zs.map B8, ys.map B8, bkCells true n ps, (seeL 8 ps).map J], vT (lTo n ys i)⟩)) (fun i x_1 en s => x_1 = .exit 0 ∧ en.get 7 = .ptr 2 0 ∧ en.get 8 = .ptr 3 0 ∧ en.get 9 = vAV (lTo n ys k) ∧ s = ⟨[zs.map B8, ys.map B8, bkCells true n ps, (seeL 8 ps).map J], vT (lTo n ys k)⟩) (fun i hok => ?_) i hok env st hg
  by_cases h : i < k
  · have hs := succ64 i (by omega)
    have hlt : ((i : Int) < (k : Int)) = True := eq_true (by omega)
    have hi0 : ((0 : Int) ≤ (i : Int)) = True := eq_true (by omega)
    have g := getB ys i (by omega)
    have hsu := lTo_succ n ys i
    have hll := lTo_len n ys i
    have by1 := byte_getD hy i
    generalize ys.getD i 0 = a at *
    unfold Byte at by1
    have wa := wrap64 a (by omega) (by omega)
    have wn := wrap64 (n + 1) (by omega) (by omega)
    have zn : (n + 1 = 0) = False := eq_false (by omega)
    have ta : a.tmod (n + 1) = a % (n + 1) := tmod8 (by omega)
    have b1 : (i + 1 ≤ 7) = True := eq_true (by omega)
    have happ := fun S => append_v (lTo n ys i) (a % (n + 1)) S (by omega)
    rw [← hsu] at happ
    simp only [go_sem, reduceIte, Nat.reduceEqDiff, Nat.reduceAdd, Nat.reduceSub, Nat.reduceLeDiff, Nat.reduceLT, reduceCtorEq, Int.reduceLT, Int.reduceLE, Int.reduceEq, Int.reduceBEq, Int.reduceSub, Int.reduceAdd, Int.reduceMul, Int.reduceNeg, Int.reduceToNat, Nat.reduceMul, Nat.reduceBEq, index_rsl_if, setm, make_ints, condK_dec, wantK_dec, not_dec, and_dec, or_dec, seqK_ite, seqK_none, blockK_ite, blockK_none, opsK_ite, opsK_none, stepK_ite, stepK_none, bodyK_ite, bodyK_none, resK_ite, resK_none, leaveK_ite, leaveK_none, only_ite, only_none, bind_ite, gives_some, gives_none, gives_ite, then_normal, then_ret, then_exit, then_none, then_ite, Option.bind_none, Bool.not_eq_true', decide_eq_false_iff_not, Bool.and_eq_true, Bool.or_eq_true, Option.some.injEq, Int.not_lt, Int.not_le, lp14_0, hlt, hi0, hs, g, wa, wn, zn, ta, b1, happ, hyl, List.length_map]
    refine ⟨i + 1, by simp only [go_sem, reduceIte, Nat.reduceEqDiff, Nat.reduceAdd, Nat.reduceSub, Nat.reduceLeDiff, Nat.reduceLT, reduceCtorEq, Int.reduceLT, Int.reduceLE, Int.reduceEq, Int.reduceBEq, Int.reduceSub, Int.reduceAdd, Int.reduceMul, Int.reduceNeg, Int.reduceToNat, Nat.reduceMul, Nat.reduceBEq, ren1_locm, loc_tips, locT_eq, ren1_v, vAcc_snd, okRefsB, renCellsB, okRefsJ, renCellsJ, okRef_v, List.take_length] <;> rfl, ?_, ?_, fun x en s hq => ?_⟩
    · omega
    · omega
    · exact hq
  · obtain rfl : i = k := by omega
    simp only [go_sem, reduceIte, Nat.reduceEqDiff, Nat.reduceAdd, Nat.reduceSub, Nat.reduceLeDiff, Nat.reduceLT, reduceCtorEq, Int.reduceLT, Int.reduceLE, Int.reduceEq, Int.reduceBEq, Int.reduceSub, Int.reduceAdd, Int.reduceMul, Int.reduceNeg, Int.reduceToNat, Nat.reduceMul, Nat.reduceBEq, index_rsl_if, setm, make_ints, condK_dec, wantK_dec, not_dec, and_dec, or_dec, seqK_ite, seqK_none, blockK_ite, blockK_none, opsK_ite, opsK_none, stepK_ite, stepK_none, bodyK_ite, bodyK_none, resK_ite, resK_none, leaveK_ite, leaveK_none, only_ite, only_none, bind_ite, gives_some, gives_none, gives_ite, then_normal, then_ret, then_exit, then_none, then_ite, Option.bind_none, Bool.not_eq_true', decide_eq_false_iff_not, Bool.and_eq_true, Bool.or_eq_true, Option.some.injEq, Int.not_lt, Int.not_le, lp14_0, show ((i : Int) < (i : Int)) = False from eq_false (by omega)]

theorem loop14_1 (zs ys : List Int) (n : Int) (hn : 1 ≤ n ∧ n ≤ 7) (ps : List (Int × Int)) (l : List Int) (hl : l.length ≤ 7) (hlb : ∀ x ∈ l, 0 ≤ x ∧ x ≤ n) (th : Nat) (hth : th = (vT l).length) (i : Nat) (hok : i ≤ l.length) (env : Env) (st : St)
    (hg : gcAV true 4 th (canon env [7, 8, 9, 12, 40, 41, 42]) st = ([(7, .ptr 2 0), (8, .ptr 3 0), (9, vAV l), (12, I 0), (40, vAV l), (41, I l.length), (42, I i)], ⟨[zs.map B8, ys.map B8, bkCells true n ps, (seeL 8 ps).map J], vT l⟩)) :
    ∃ x_1 en s, lim (headed pure (run L) true [7, 8, 9, 12, 40, 41, 42] lp14_1 4 th) env st = some (x_1, en, s) ∧ (x_1 = .exit 2 ∧ en.get 7 = .ptr 2 0 ∧ en.get 8 = .ptr 3 0 ∧ en.get 9 = vAV l ∧ en.get 12 = I (ringErr n (l.take i) (l.drop i)) ∧ s = ⟨[zs.map B8, ys.map B8, bkCells true n ps, (seeL 8 ps).map J], vT l⟩) := by
  refine loop_wp (α := Nat) (fun i => l.length - i) (fun i => i ≤ l.length) (fun i => ([(7, .ptr 2 0), (8, .ptr 3 0), (9, vAV l), (12, I 0), (40, vAV l), (41, I l.length), (42, I i)], ⟨[zs.map B8, ys.map B8, bkCells true n ps, (seeL 8 ps).map J], vT l⟩)) (fun i x_1 en s => x_1 = .exit 2 ∧ en.get 7 = .ptr 2 0 ∧ en.get 8 = .ptr 3 0 ∧ en.get 9 = vAV l ∧ en.get 12 = I (ringErr n (l.take i) (l.drop i)) ∧ s = ⟨[zs.map B8, ys.map B8, bkCells true n ps, (seeL 8 ps).map J], vT l⟩) (fun i hok => ?_) i hok env st hg
  subst hth
  by_cases h : i < l.length
  · have hx := index_v l i (by omega) (by omega)
    rw [Int.toNat_natCast] at hx
    have hs := succ64 i (by omega)
    have e : l.getD i 0 = l[i] := by rw [List.getD_eq_getElem?_getD, List.getElem?_eq_getElem h]; rfl
    have hd : l.drop i = l[i] :: l.drop (i + 1) := List.drop_eq_getElem_cons h
    have ht : l.take (i + 1) = l.take i ++ [l[i]] := by rw [List.take_succ_eq_append_getElem h]
    have hb := hlb l[i] (List.getElem_mem h)
    obtain ⟨g, hsl⟩ := slice_v l i h
    rw [e] at hx
    rw [hd]
    generalize l[i] = x at *
    have hlt : ((i : Int) < (l.length : Int)) = True := eq_true (by omega)
    have h57 : ∀ st, run L 57 [.lst g 1 ((l.take i).map I), I x] st = some (B (decide (x ∈ l.take i)), st) := fun st => by
      rw [← c57 false (l.take i) (by rw [List.length_take]; omega) x st]
      exact run_args (fn := ir57) rfl rfl st (by simp [pubs, pub, sl])
    by_cases p1 : x = n
    · have he : ringErr n (l.take i) (x :: l.drop (i + 1)) = 2 := by simp only [ringErr]; rw [if_pos (by omega)]
      have p1' : (x = n) = True := eq_true p1
      simp only [go_sem, reduceIte, Nat.reduceEqDiff, Nat.reduceAdd, Nat.reduceSub, Nat.reduceLeDiff, Nat.reduceLT, reduceCtorEq, Int.reduceLT, Int.reduceLE, Int.reduceEq, Int.reduceBEq, Int.reduceSub, Int.reduceAdd, Int.reduceMul, Int.reduceNeg, Int.reduceToNat, Nat.reduceMul, Nat.reduceBEq, index_rsl_if, setm, make_ints, condK_dec, wantK_dec, not_dec, and_dec, or_dec, seqK_ite, seqK_none, blockK_ite, blockK_none, opsK_ite, opsK_none, stepK_ite, stepK_none, bodyK_ite, bodyK_none, resK_ite, resK_none, leaveK_ite, leaveK_none, only_ite, only_none, bind_ite, gives_some, gives_none, gives_ite, then_normal, then_ret, then_exit, then_none, then_ite, Option.bind_none, Bool.not_eq_true', decide_eq_false_iff_not, Bool.and_eq_true, Bool.or_eq_true, Option.some.injEq, Int.not_lt, Int.not_le, lp14_1, hx, hlt, p1', len_v]
      simp [he]
    · by_cases p2 : x ∈ l.take i
      · have he : ringErr n (l.take i) (x :: l.drop (i + 1)) = 6 := by simp only [ringErr]; rw [if_neg (by omega), if_pos p2]
        simp only [go_sem, reduceIte, Nat.reduceEqDiff, Nat.reduceAdd, Nat.reduceSub, Nat.reduceLeDiff, Nat.reduceLT, reduceCtorEq, Int.reduceLT, Int.reduceLE, Int.reduceEq, Int.reduceBEq, Int.reduceSub, Int.reduceAdd, Int.reduceMul, Int.reduceNeg, Int.reduceToNat, Nat.reduceMul, Nat.reduceBEq, index_rsl_if, setm, make_ints, condK_dec, wantK_dec, not_dec, and_dec, or_dec, seqK_ite, seqK_none, blockK_ite, blockK_none, opsK_ite, opsK_none, stepK_ite, stepK_none, bodyK_ite, bodyK_none, resK_ite, resK_none, leaveK_ite, leaveK_none, only_ite, only_none, bind_ite, gives_some, gives_none, gives_ite, then_normal, then_ret, then_exit, then_none, then_ite, Option.bind_none, Bool.not_eq_true', decide_eq_false_iff_not, Bool.and_eq_true, Bool.or_eq_true, Option.some.injEq, Int.not_lt, Int.not_le, lp14_1, hx, hlt, p1, hsl, h57, p2, len_v]
        simp [he]
      · have he : ringErr n (l.take i) (x :: l.drop (i + 1)) = ringErr n (l.take (i + 1)) (l.drop (i + 1)) := by simp only [ringErr]; rw [if_neg (by omega), if_neg p2, ht]
        rw [he]
        simp only [go_sem, reduceIte, Nat.reduceEqDiff, Nat.reduceAdd, Nat.reduceSub, Nat.reduceLeDiff, Nat.reduceLT, reduceCtorEq, Int.reduceLT, Int.reduceLE, Int.reduceEq, Int.reduceBEq, Int.reduceSub, Int.reduceAdd, Int.reduceMul, Int.reduceNeg, Int.reduceToNat, Nat.reduceMul, Nat.reduceBEq, index_rsl_if, setm, make_ints, condK_dec, wantK_dec, not_dec, and_dec, or_dec, seqK_ite, seqK_none, blockK_ite, blockK_none, opsK_ite, opsK_none, stepK_ite, stepK_none, bodyK_ite, bodyK_none, resK_ite, resK_none, leaveK_ite, leaveK_none, only_ite, only_none, bind_ite, gives_some, gives_none, gives_ite, then_normal, then_ret, then_exit, then_none, then_ite, Option.bind_none, Bool.not_eq_true', decide_eq_false_iff_not, Bool.and_eq_true, Bool.or_eq_true, Option.some.injEq, Int.not_lt, Int.not_le, lp14_1, hx, hlt, p1, hsl, h57, p2, hs, len_v]
        refine ⟨i + 1, by simp only [go_sem, reduceIte, Nat.reduceEqDiff, Nat.reduceAdd, Nat.reduceSub, Nat.reduceLeDiff, Nat.reduceLT, reduceCtorEq, Int.reduceLT, Int.reduceLE, Int.reduceEq, Int.reduceBEq, Int.reduceSub, Int.reduceAdd, Int.reduceMul, Int.reduceNeg, Int.reduceToNat, Nat.reduceMul, Nat.reduceBEq, ren1_locm, loc_tips, locT_eq, ren1_vh, okRefsB, renCellsB, okRefsJ, renCellsJ, okRef_v, List.take_length] <;> rfl, ?_, ?_, fun x en s hq => ?_⟩
        · omega
        · omega
        · exact hq
  · have hd : l.drop i = [] := List.drop_eq_nil_of_le (by omega)
    have hlt : ((i : Int) < (l.length : Int)) = False := eq_false (by omega)
    simp only [go_sem, reduceIte, Nat.reduceEqDiff, Nat.reduceAdd, Nat.reduceSub, Nat.reduceLeDiff, Nat.reduceLT, reduceCtorEq, Int.reduceLT, Int.reduceLE, Int.reduceEq, Int.reduceBEq, Int.reduceSub, Int.reduceAdd, Int.reduceMul, Int.reduceNeg, Int.reduceToNat, Nat.reduceMul, Nat.reduceBEq, index_rsl_if, setm, make_ints, condK_dec, wantK_dec, not_dec, and_dec, or_dec, seqK_ite, seqK_none, blockK_ite, blockK_none, opsK_ite, opsK_none, stepK_ite, stepK_none, bodyK_ite, bodyK_none, resK_ite, resK_none, leaveK_ite, leaveK_none, only_ite, only_none, bind_ite, gives_some, gives_none, gives_ite, then_normal, then_ret, then_exit, then_none, then_ite, Option.bind_none, Bool.not_eq_true', decide_eq_false_iff_not, Bool.and_eq_true, Bool.or_eq_true, Option.some.injEq, Int.not_lt, Int.not_le, lp14_1, hlt, len_v]
    rw [hd]; simp [ringErr]

theorem nx_cons (f : Nat → Bool) (i m : Nat) (h : i < m) : (List.range' i (m - i)).all f = (f i && (List.range' (i + 1) (m - (i + 1))).all f) := by
  rw [show m - i = (m - (i + 1)) + 1 by omega, List.range'_succ, List.all_cons]
theorem loop14_2 (zs ys : List Int) (n : Int) (hn : 1 ≤ n ∧ n ≤ 7) (ps : List (Int × Int)) (h7 : ∀ p ∈ ps, okP p) (l : List Int) (hl : l.length ≤ 7) (hlb : ∀ x ∈ l, 0 ≤ x ∧ x < n) (th : Nat) (hth : th = (vT l).length) (i : Nat) (e : Int) (hok : i ≤ l.length) (env : Env) (st : St)
    (hg : gcAV true 4 th (canon env [7, 8, 9, 12, 59, 60, 61]) st = ([(7, .ptr 2 0), (8, .ptr 3 0), (9, vAV l), (12, I e), (59, vAV l), (60, I l.length), (61, I i)], ⟨[zs.map B8, ys.map B8, bkCells true n ps, (seeL 8 ps).map J], vT l⟩)) :
    ∃ x_1 en s, lim (headed pure (run L) true [7, 8, 9, 12, 59, 60, 61] lp14_2 4 th) env st = some (x_1, en, s) ∧ (x_1 = .exit 4 ∧ en.get 7 = .ptr 2 0 ∧ en.get 8 = .ptr 3 0 ∧ en.get 9 = vAV l ∧ en.get 12 = I (if (List.range' i (l.length - i)).all (nextOk ps l) = true then e else 14) ∧ s = ⟨[zs.map B8, ys.map B8, bkCells true n ps, (seeL 8 ps).map J], vT l⟩) := by
  refine loop_wp (α := Nat × Int) (fun ⟨i, e⟩ => l.length - i) (fun ⟨i, e⟩ => i ≤ l.length) (fun ⟨i, e⟩ => ([(7, .ptr 2 0), (8, .ptr 3 0), (9, vAV l), (12, I e), (59, vAV l), (60, I l.length), (61, I i)], ⟨[zs.map B8, ys.map B8, bkCells true n ps, (seeL 8 ps).map J], vT l⟩)) (fun ⟨i, e⟩ x_1 en s => x_1 = .exit 4 ∧ en.get 7 = .ptr 2 0 ∧ en.get 8 = .ptr 3 0 ∧ en.get 9 = vAV l ∧ en.get 12 = I (if (List.range' i (l.length - i)).all (nextOk ps l) = true then e else 14) ∧ s = ⟨[zs.map B8, ys.map B8, bkCells true n ps, (seeL 8 ps).map J], vT l⟩) (fun ⟨i, e⟩ hok => ?_) ⟨i, e⟩ hok env st hg
  simp only at hok
  subst hth
  dsimp only
  by_cases h : i < l.length
  · have hx := index_v l i (by omega) (by omega)
    rw [Int.toNat_natCast] at hx
    have hmod : (i + 1) % l.length < l.length := Nat.mod_lt _ (by omega)
    have hx2 := index_v l ((i + 1) % l.length : Nat) (by omega) (by omega)
    rw [Int.toNat_natCast] at hx2
    have hs := succ64 i (by omega)
    have htm := tmod_nat (i + 1) l.length
    have hz : ((l.length : Int) = 0) = False := eq_false (by omega)
    have e1 : l.getD i 0 = l[i] := by rw [List.getD_eq_getElem?_getD, List.getElem?_eq_getElem h]; rfl
    have e2 : l.getD ((i + 1) % l.length) 0 = l[(i + 1) % l.length] := by rw [List.getD_eq_getElem?_getD, List.getElem?_eq_getElem hmod]; rfl
    have hb1 := hlb l[i] (List.getElem_mem h)
    have hb2 := hlb l[(i + 1) % l.length] (List.getElem_mem hmod)
    have hnx := nx_cons (nextOk ps l) i l.length h
    have hno : nextOk ps l i = decide ((l.getD i 0, l.getD ((i + 1) % l.length) 0) ∈ ps) := rfl
    rw [hnx, hno]
    rw [e1] at hx ⊢
    rw [e2] at hx2 ⊢
    generalize l[i] = x at *
    generalize l[(i + 1) % l.length] = y at *
    obtain ⟨a, rfl⟩ := Int.eq_ofNat_of_zero_le hb1.1
    obtain ⟨b, rfl⟩ := Int.eq_ofNat_of_zero_le hb2.1
    have hlt : ((i : Int) < (l.length : Int)) = True := eq_true (by omega)
    have hb := bit_zero ((seeL 8 ps).getD a 0) b
    rw [seeL_bit (by omega) h7] at hb
    have hsm := small_getD (seeL_small 8 h7) a
    have ho := seeL_len 8 ps
    have g1 := getJ (seeL 8 ps) a (by omega)
    generalize (seeL 8 ps).getD a 0 = m at *
    have q1 := shr_i m b (by omega)
    have q2 := and_one_i (m >>> b) (by have := Nat.shiftRight_le m b; omega)
    have b1 : ((0 : Int) ≤ (a : Int)) = True := eq_true (by omega)
    have b2 : ((a : Int) < 8) = True := eq_true (by omega)
    have b5 : (a + 1 ≤ 8) = True := eq_true (by omega)
    by_cases p : ((a : Int), (b : Int)) ∈ ps
    · simp only [go_sem, reduceIte, Nat.reduceEqDiff, Nat.reduceAdd, Nat.reduceSub, Nat.reduceLeDiff, Nat.reduceLT, reduceCtorEq, Int.reduceLT, Int.reduceLE, Int.reduceEq, Int.reduceBEq, Int.reduceSub, Int.reduceAdd, Int.reduceMul, Int.reduceNeg, Int.reduceToNat, Nat.reduceMul, Nat.reduceBEq, index_rsl_if, setm, make_ints, condK_dec, wantK_dec, not_dec, and_dec, or_dec, seqK_ite, seqK_none, blockK_ite, blockK_none, opsK_ite, opsK_none, stepK_ite, stepK_none, bodyK_ite, bodyK_none, resK_ite, resK_none, leaveK_ite, leaveK_none, only_ite, only_none, bind_ite, gives_some, gives_none, gives_ite, then_normal, then_ret, then_exit, then_none, then_ite, Option.bind_none, Bool.not_eq_true', decide_eq_false_iff_not, Bool.and_eq_true, Bool.or_eq_true, Option.some.injEq, Int.not_lt, Int.not_le, lp14_2, hx, hx2, hlt, hs, htm, hz, b1, b2, b5, g1, ho, q1, q2, hb, p, len_v, List.length_map]
      refine ⟨(i + 1, e), by simp only [go_sem, reduceIte, Nat.reduceEqDiff, Nat.reduceAdd, Nat.reduceSub, Nat.reduceLeDiff, Nat.reduceLT, reduceCtorEq, Int.reduceLT, Int.reduceLE, Int.reduceEq, Int.reduceBEq, Int.reduceSub, Int.reduceAdd, Int.reduceMul, Int.reduceNeg, Int.reduceToNat, Nat.reduceMul, Nat.reduceBEq, ren1_locm, loc_tips, locT_eq, ren1_vh, okRefsB, renCellsB, okRefsJ, renCellsJ, okRef_v, List.take_length] <;> rfl, ?_, ?_, fun x en s hq => ?_⟩
      · omega
      · omega
      · exact hq
    · simp only [go_sem, reduceIte, Nat.reduceEqDiff, Nat.reduceAdd, Nat.reduceSub, Nat.reduceLeDiff, Nat.reduceLT, reduceCtorEq, Int.reduceLT, Int.reduceLE, Int.reduceEq, Int.reduceBEq, Int.reduceSub, Int.reduceAdd, Int.reduceMul, Int.reduceNeg, Int.reduceToNat, Nat.reduceMul, Nat.reduceBEq, index_rsl_if, setm, make_ints, condK_dec, wantK_dec, not_dec, and_dec, or_dec, seqK_ite, seqK_none, blockK_ite, blockK_none, opsK_ite, opsK_none, stepK_ite, stepK_none, bodyK_ite, bodyK_none, resK_ite, resK_none, leaveK_ite, leaveK_none, only_ite, only_none, bind_ite, gives_some, gives_none, gives_ite, then_normal, then_ret, then_exit, then_none, then_ite, Option.bind_none, Bool.not_eq_true', decide_eq_false_iff_not, Bool.and_eq_true, Bool.or_eq_true, Option.some.injEq, Int.not_lt, Int.not_le, lp14_2, hx, hx2, hlt, hs, htm, hz, b1, b2, b5, g1, ho, q1, q2, hb, p, len_v, List.length_map]
      refine ⟨(i + 1, 14), by simp only [go_sem, reduceIte, Nat.reduceEqDiff, Nat.reduceAdd, Nat.reduceSub, Nat.reduceLeDiff, Nat.reduceLT, reduceCtorEq, Int.reduceLT, Int.reduceLE, Int.reduceEq, Int.reduceBEq, Int.reduceSub, Int.reduceAdd, Int.reduceMul, Int.reduceNeg, Int.reduceToNat, Nat.reduceMul, Nat.reduceBEq, ren1_locm, loc_tips, locT_eq, ren1_vh, okRefsB, renCellsB, okRefsJ, renCellsJ, okRef_v, List.take_length] <;> rfl, ?_, ?_, fun x en s hq => ?_⟩
      · omega
      · omega
      · have hc : ∀ b : Bool, (if b = true then (14 : Int) else 14) = 14 := by intro b; cases b <;> rfl
        simp only [hc] at hq; exact hq
  · have hd : l.length - i = 0 := by omega
    have hlt : ((i : Int) < (l.length : Int)) = False := eq_false (by omega)
    simp only [go_sem, reduceIte, Nat.reduceEqDiff, Nat.reduceAdd, Nat.reduceSub, Nat.reduceLeDiff, Nat.reduceLT, reduceCtorEq, Int.reduceLT, Int.reduceLE, Int.reduceEq, Int.reduceBEq, Int.reduceSub, Int.reduceAdd, Int.reduceMul, Int.reduceNeg, Int.reduceToNat, Nat.reduceMul, Nat.reduceBEq, index_rsl_if, setm, make_ints, condK_dec, wantK_dec, not_dec, and_dec, or_dec, seqK_ite, seqK_none, blockK_ite, blockK_none, opsK_ite, opsK_none, stepK_ite, stepK_none, bodyK_ite, bodyK_none, resK_ite, resK_none, leaveK_ite, leaveK_none, only_ite, only_none, bind_ite, gives_some, gives_none, gives_ite, then_normal, then_ret, then_exit, then_none, then_ite, Option.bind_none, Bool.not_eq_true', decide_eq_false_iff_not, Bool.and_eq_true, Bool.or_eq_true, Option.some.injEq, Int.not_lt, Int.not_le, lp14_2, hlt, len_v]
    rw [hd]; simp

attribute [local go_sem] okRef_v pub_v len_v

theorem putJ (o : List Nat) (h : o.length = 8) : putCells [.v (.int .i64 0), .v (.int .i64 0), .v (.int .i64 0), .v (.int .i64 0), .v (.int .i64 0), .v (.int .i64 0), .v (.int .i64 0), .v (.int .i64 0)] 0 (o.map J) = o.map J := by
  obtain ⟨a, b, c, d, e, f, g, k, rfl⟩ := len_eight h
  rfl
/-- What SeeShown expects, and what Proves answers. -/
def wantE (n : Int) (ps : List (Int × Int)) (l : List Int) : Int :=
  if ringErr n [] l = 0 then (if (List.range' 0 (l.length - 0)).all (nextOk ps l) = true then 0 else 14) else ringErr n [] l
theorem prov_want {n : Int} {ps : List (Int × Int)} (h : chk n ps = 0) (l : List Int) : provE n ps l = if l.length < 3 ∨ l.length % 2 = 0 then 5 else wantE n ps l := by
  unfold provE
  rw [if_pos h]
  by_cases h1 : l.length < 3 ∨ l.length % 2 = 0
  · rw [if_pos h1, if_pos h1]
  · rw [if_neg h1, if_neg h1]
    unfold wantE
    by_cases h2 : ringErr n [] l = 0
    · rw [if_pos h2, if_pos h2, see_next ps l (by intro h3; subst h3; simp at h1), Nat.sub_zero, ← List.range_eq_range']
    · rw [if_neg h2, if_neg h2]

theorem c14 (zs ys : List Int) (m : Int) (hzl : zs.length = 34) (hz : ∀ a ∈ zs, Byte a) (hyl : ys.length = 7) (hy : ∀ a ∈ ys, Byte a) (hm : Byte m) (st : St) :
    run L 14 [qAV zs, .agg (ys.map B8), B8 m] st = some (B true, st) := by
  rw [run_pure (fn := ir14) rfl rfl]
  obtain ⟨n, hN, h1, h2, h3, h4, h5, h6, h7, h8⟩ := made_ok (.inl rfl) zs
  have h45 := fun st => c45 zs hzl hz 6 (.inl rfl) st
  rw [hN] at h45
  generalize madeP 6 zs = ps at *
  have h50 := fun st => c50 true (n : Int) ps (by omega) h6 st
  have htk : (zs.map B8).take 34 = zs.map B8 := List.take_of_length_le (by rw [List.length_map]; omega)
  have hpj := putJ (seeL 8 ps) (seeL_len 8 ps)
  have hlj := seeL_len 8 ps
  unfold Byte at hm
  have wm := wrap64 m (by omega) (by omega)
  have tm : m.tmod 8 = m % 8 := tmod8 (by omega)
  have rm := mod_range m 8 (by omega)
  obtain ⟨k, hk⟩ := Int.eq_ofNat_of_zero_le rm.1
  have hk7 : k ≤ 7 := by omega
  have hsl : sliceaAV 7 1 false (.ptr 1 0) none (some (.v (.int .i64 (k : Int)))) none = some (.rsl 1 0 k 7 1 false) := by
    simp only [sliceaAV, natOr, natOf]
    simp; omega
  simp only [ir14, go_sem, reduceIte, Nat.reduceEqDiff, Nat.reduceAdd, Nat.reduceSub, Nat.reduceLeDiff, Nat.reduceLT, reduceCtorEq, Int.reduceLT, Int.reduceLE, Int.reduceEq, Int.reduceBEq, Int.reduceSub, Int.reduceAdd, Int.reduceMul, Int.reduceNeg, Int.reduceToNat, Nat.reduceMul, Nat.reduceBEq, okRefsB, renCellsB, pubsB, storableB, pubsJ, storableJ, h45, h50, hpj, hlj, wm, tm, hk, hsl, hzl, hyl, htk, List.length_map]
  generalize hg : lim (headed pure (run L) true _ lp14_0 _ _) _ _ = o
  obtain ⟨x, en, s, rfl, h2⟩ : ∃ x en s, o = some (x, en, s) ∧ _ := by rw [← hg]; exact loop14_0 zs ys hyl hy (n : Int) (by omega) ps k hk7 0 (by omega) _ _ (by simp only [go_sem, reduceIte, Nat.reduceEqDiff, Nat.reduceAdd, Nat.reduceSub, Nat.reduceLeDiff, Nat.reduceLT, reduceCtorEq, Int.reduceLT, Int.reduceLE, Int.reduceEq, Int.reduceBEq, Int.reduceSub, Int.reduceAdd, Int.reduceMul, Int.reduceNeg, Int.reduceToNat, Nat.reduceMul, Nat.reduceBEq, okRefsB, renCellsB, okRefsJ, renCellsJ, ren1_v, vAcc_snd, lTo, v_start, vT_start, Int.natCast_zero] <;> rfl)
  clear hg
  obtain ⟨rfl, g1, g2, g3, rfl⟩ := h2
  have hll := lTo_len (n : Int) ys k
  have hlb := lTo_mem (n := (n : Int)) (by omega) ys k
  generalize lTo (n : Int) ys k = l at *
  have h30 : ∀ st, run L 30 [bkAV true (n : Int) ps, vAV l] st = some (I (provE (n : Int) ps l), st) := fun st => by
    rw [← c30 true true (n : Int) ps l (by omega) st]
    exact run_args (fn := ir30) rfl rfl st (by simp only [pubs, pub_v, pub_sl])
  have hpw := prov_want h8 l
  have ht2 : (l.length : Int).tmod 2 = ((l.length % 2 : Nat) : Int) := tmod_nat l.length 2
  have ren_v := ren1_vh l
  simp only [go_sem, reduceIte, Nat.reduceEqDiff, Nat.reduceAdd, Nat.reduceSub, Nat.reduceLeDiff, Nat.reduceLT, reduceCtorEq, Int.reduceLT, Int.reduceLE, Int.reduceEq, Int.reduceBEq, Int.reduceSub, Int.reduceAdd, Int.reduceMul, Int.reduceNeg, Int.reduceToNat, Nat.reduceMul, Nat.reduceBEq, g1, g2, g3]
  generalize hg : lim (headed pure (run L) true _ lp14_1 _ _) _ _ = o
  obtain ⟨x, en, s, rfl, h2⟩ : ∃ x en s, o = some (x, en, s) ∧ _ := by rw [← hg]; exact loop14_1 zs ys (n : Int) (by omega) ps l (by omega) hlb (vT l).length rfl 0 (by omega) _ _ (by simp only [go_sem, reduceIte, Nat.reduceEqDiff, Nat.reduceAdd, Nat.reduceSub, Nat.reduceLeDiff, Nat.reduceLT, reduceCtorEq, Int.reduceLT, Int.reduceLE, Int.reduceEq, Int.reduceBEq, Int.reduceSub, Int.reduceAdd, Int.reduceMul, Int.reduceNeg, Int.reduceToNat, Nat.reduceMul, Nat.reduceBEq, okRefsB, renCellsB, okRefsJ, renCellsJ, ren1_vh, okRef_v, List.take_length, g1, g2, g3] <;> rfl)
  clear hg
  rw [List.drop_zero, List.take_zero] at h2
  obtain ⟨rfl, g4, g5, g6, g7, rfl⟩ := h2
  by_cases hr : ringErr (n : Int) [] l = 0
  · have hlb2 := ringErr_zero hr
    have hw : wantE (n : Int) ps l = if (List.range' 0 (l.length - 0)).all (nextOk ps l) = true then 0 else 14 := by unfold wantE; rw [if_pos hr]
    rw [hr] at g7
    simp only [go_sem, reduceIte, Nat.reduceEqDiff, Nat.reduceAdd, Nat.reduceSub, Nat.reduceLeDiff, Nat.reduceLT, reduceCtorEq, Int.reduceLT, Int.reduceLE, Int.reduceEq, Int.reduceBEq, Int.reduceSub, Int.reduceAdd, Int.reduceMul, Int.reduceNeg, Int.reduceToNat, Nat.reduceMul, Nat.reduceBEq, g4, g5, g6, g7, len_v]
    generalize hg : lim (headed pure (run L) true _ lp14_2 _ _) _ _ = o
    obtain ⟨x, en, s, rfl, h2⟩ : ∃ x en s, o = some (x, en, s) ∧ _ := by rw [← hg]; exact loop14_2 zs ys (n : Int) (by omega) ps h6 l (by omega) hlb2 (vT l).length rfl 0 0 (by omega) _ _ (by simp only [go_sem, reduceIte, Nat.reduceEqDiff, Nat.reduceAdd, Nat.reduceSub, Nat.reduceLeDiff, Nat.reduceLT, reduceCtorEq, Int.reduceLT, Int.reduceLE, Int.reduceEq, Int.reduceBEq, Int.reduceSub, Int.reduceAdd, Int.reduceMul, Int.reduceNeg, Int.reduceToNat, Nat.reduceMul, Nat.reduceBEq, okRefsB, renCellsB, okRefsJ, renCellsJ, ren1_vh, okRef_v, List.take_length, g4, g5, g6, g7] <;> rfl)
    clear hg
    rw [← hw] at h2
    obtain ⟨rfl, g8, g9, ga, gb, rfl⟩ := h2
    generalize wantE (n : Int) ps l = w at *
    by_cases p1 : l.length < 3
    · have q1 : ((l.length : Int) < 3) = True := eq_true (by omega)
      rw [if_pos (.inl p1)] at hpw
      rw [hpw] at h30
      simp only [go_sem, reduceIte, Nat.reduceEqDiff, Nat.reduceAdd, Nat.reduceSub, Nat.reduceLeDiff, Nat.reduceLT, reduceCtorEq, Int.reduceLT, Int.reduceLE, Int.reduceEq, Int.reduceBEq, Int.reduceSub, Int.reduceAdd, Int.reduceMul, Int.reduceNeg, Int.reduceToNat, Nat.reduceMul, Nat.reduceBEq, g8, g9, ga, gb, len_v, q1, h30, c17]
    · have q1 : ((l.length : Int) < 3) = False := eq_false (by omega)
      by_cases p2 : l.length % 2 = 0
      · have q2 : (((l.length % 2 : Nat) : Int) = 0) = True := eq_true (by omega)
        rw [if_pos (.inr p2)] at hpw
        rw [hpw] at h30
        simp only [go_sem, reduceIte, Nat.reduceEqDiff, Nat.reduceAdd, Nat.reduceSub, Nat.reduceLeDiff, Nat.reduceLT, reduceCtorEq, Int.reduceLT, Int.reduceLE, Int.reduceEq, Int.reduceBEq, Int.reduceSub, Int.reduceAdd, Int.reduceMul, Int.reduceNeg, Int.reduceToNat, Nat.reduceMul, Nat.reduceBEq, g8, g9, ga, gb, len_v, q1, q2, ht2, h30, c17]
      · have q2 : (((l.length % 2 : Nat) : Int) = 0) = False := eq_false (by omega)
        rw [if_neg (by omega)] at hpw
        rw [hpw] at h30
        simp only [go_sem, reduceIte, Nat.reduceEqDiff, Nat.reduceAdd, Nat.reduceSub, Nat.reduceLeDiff, Nat.reduceLT, reduceCtorEq, Int.reduceLT, Int.reduceLE, Int.reduceEq, Int.reduceBEq, Int.reduceSub, Int.reduceAdd, Int.reduceMul, Int.reduceNeg, Int.reduceToNat, Nat.reduceMul, Nat.reduceBEq, g8, g9, ga, gb, len_v, q1, q2, ht2, h30, c17]
  · have hw : wantE (n : Int) ps l = ringErr (n : Int) [] l := by unfold wantE; rw [if_neg hr]
    rw [hw] at hpw
    generalize ringErr (n : Int) [] l = w at *
    by_cases p1 : l.length < 3
    · have q1 : ((l.length : Int) < 3) = True := eq_true (by omega)
      rw [if_pos (.inl p1)] at hpw
      rw [hpw] at h30
      simp only [go_sem, reduceIte, Nat.reduceEqDiff, Nat.reduceAdd, Nat.reduceSub, Nat.reduceLeDiff, Nat.reduceLT, reduceCtorEq, Int.reduceLT, Int.reduceLE, Int.reduceEq, Int.reduceBEq, Int.reduceSub, Int.reduceAdd, Int.reduceMul, Int.reduceNeg, Int.reduceToNat, Nat.reduceMul, Nat.reduceBEq, g4, g5, g6, g7, hr, len_v, q1, h30, c17]
    · have q1 : ((l.length : Int) < 3) = False := eq_false (by omega)
      by_cases p2 : l.length % 2 = 0
      · have q2 : (((l.length % 2 : Nat) : Int) = 0) = True := eq_true (by omega)
        rw [if_pos (.inr p2)] at hpw
        rw [hpw] at h30
        simp only [go_sem, reduceIte, Nat.reduceEqDiff, Nat.reduceAdd, Nat.reduceSub, Nat.reduceLeDiff, Nat.reduceLT, reduceCtorEq, Int.reduceLT, Int.reduceLE, Int.reduceEq, Int.reduceBEq, Int.reduceSub, Int.reduceAdd, Int.reduceMul, Int.reduceNeg, Int.reduceToNat, Nat.reduceMul, Nat.reduceBEq, g4, g5, g6, g7, hr, len_v, q1, q2, ht2, h30, c17]
      · have q2 : (((l.length % 2 : Nat) : Int) = 0) = False := eq_false (by omega)
        rw [if_neg (by omega)] at hpw
        rw [hpw] at h30
        simp only [go_sem, reduceIte, Nat.reduceEqDiff, Nat.reduceAdd, Nat.reduceSub, Nat.reduceLeDiff, Nat.reduceLT, reduceCtorEq, Int.reduceLT, Int.reduceLE, Int.reduceEq, Int.reduceBEq, Int.reduceSub, Int.reduceAdd, Int.reduceMul, Int.reduceNeg, Int.reduceToNat, Nat.reduceMul, Nat.reduceBEq, g4, g5, g6, g7, hr, len_v, q1, q2, ht2, h30, c17]
end Go.Proofs.YtgohohiaaiogcaaDoor.Vm
