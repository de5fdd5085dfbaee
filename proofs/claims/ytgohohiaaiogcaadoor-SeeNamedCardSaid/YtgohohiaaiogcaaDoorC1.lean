/- What is proved: what each function of this program computes, as equations on the evaluator. No condition. -/
import Derived.Test.YtgohohiaaiogcaaDoorLib
import Derived.Test.YtgohohiaaiogcaaDoorSy
import Derived.KernelRfl
import Derived.WalkKit
import Derived.ProofKit
import Derived.OpenShut
set_option linter.all false
namespace Go.Proofs.YtgohohiaaiogcaaDoor.Vm
open Go Go.Ev
set_option maxRecDepth 100000
attribute [local go_sem] cells_any storable_any ren1_any shaped_ptr cells_ptr storable_ptr ren1_ptr shaped_eptr cells_eptr storable_eptr ren1_eptr shaped_rsl cells_rsl storable_rsl ren1_rsl shaped_int cells_int storable_int ren1_int shaped_bool cells_bool storable_bool ren1_bool shaped_nils cells_nils storable_nils ren1_nils shaped_lst cells_lst storable_lst shaped_fn cells_fn storable_fn ren1_fn shaped_ifc cells_ifc storable_ifc ren1_ifc shaped_agg cells_agg storable_agg ren1_agg shaped_tup cells_tup storable_tup ren1_tup shaped_nif cells_nif storable_nif ren1_nif ren1_lany ren1_lfull ren1_lown len_lst len_rsl len_nil load_ptr load_eptr isRsl_lst isRsl_nil isRsl_rsl elems_nil elems_lst elems_sl isRsl_sl body_eq bodyK_normal bodyK_ret resK_some leaveK_some only_some code_skip code_exit code_ret code_ops code_seq code_cond code_block seqK_normal seqK_ret seqK_exit condK_true condK_false blockK_normal blockK_ret blockK_exit opsK_some ops_nil ops_cons wantK_true wantK_false stepK_some pubs pub pub_sl params okRef_loc storable_loc shaped_loc cells_loc isRsl_loc elems_loc len_loc untips untip untip_sl wantedAV setElems withO isAgg_v isAgg_agg isAgg_lst isAgg_ptr isAgg_fn isAgg_ifc isAgg_rsl isAgg_sl isAgg_loc List.replicate_succ List.replicate_zero opAV valAV aval avals ofVal Env.get setD canon gcAV renAll renEnv renStore renCells ren1_sl cutSt okEnv okStore okRefs okRef okRef_sl bin_int bin_bool bin_lst bin_rsl bin_nil bin_agg cellsEq cellEq isShift intOp boolOp min_int max_int beq_int bne resAV tupAV leave_eq fin_sl fin_loc fins fin_v fin_lst fin_agg fin_tup fin_fn storeAV readCells putCells cells_sl shaped_sl storable_sl fieldAddrAV len_sl goI List.getElem?_cons_zero List.getElem?_cons_succ List.getElem?_nil Option.bind_some Option.map_some List.length_cons List.length_nil List.all_cons List.all_nil Bool.and_true Bool.true_and Bool.and_false Bool.false_and and_true true_and and_false false_and Bool.false_eq_true List.set_cons_zero List.set_cons_succ List.append_nil List.nil_append List.cons_append List.take_zero List.take_succ_cons List.take_nil List.drop_zero List.drop_succ_cons List.map_cons List.map_nil decide_true decide_false beq_self_eq_true Bool.not_true Bool.not_false or_true true_or or_false false_or Nat.zero_add Nat.add_zero Nat.le_refl Nat.lt_irrefl decide_eq_true_eq eq_self_iff_true not_true_eq_false not_false_eq_true List.getD_cons_zero code_loop Nat.zero_le Nat.not_lt_zero Bool.true_beq Bool.false_beq beq_true beq_false ge_iff_le gt_iff_lt keepR keepT ownTop Lpure pus Option.map_none assert_ifc assert_nil idxA_ptr idxA_eptr idxV_agg Int.cast_ofNat_Int Nat.mul_one Nat.zero_mul Int.toNat_natCast Int.toNat_zero setParts withO2 hasKey eqnil_sl nenil_sl eqnil_loc nenil_loc map_nil_iff okRefs_ints renCells_ints

abbrev prAV (a : Int × Int) : AV := .agg [I a.1, I a.2]
abbrev bkAV (nl : Bool) (n : Int) (ps : List (Int × Int)) : AV := .agg [I n, sl 2 nl (ps.map prAV)]
abbrev bkCells (nl : Bool) (n : Int) (ps : List (Int × Int)) : List AV := [I n, sl 2 nl (ps.map prAV)]

theorem succ64 (i : Nat) (h : i < 1000000) : IntKind.i64.wrap ((i : Int) + 1) = ((i + 1 : Nat) : Int) := by
  rw [wrap64] <;> omega
theorem index_prs (nl : Bool) (ps : List (Int × Int)) (i : Nat) (h : i < ps.length) : indexSAV 2 (sl 2 nl (ps.map prAV)) (.v (.int .i64 i)) = some (.eptr (.agg [.v (.int .i64 ps[i].1), .v (.int .i64 ps[i].2)]) 0) := by
  rw [index_sl _ _ _ _ _ (by omega) (by simpa using h)]
  simp
theorem index_ints (nl : Bool) (l : List Int) (i : Nat) (h : i < l.length) : indexSAV 1 (sl 1 nl (l.map I)) (.v (.int .i64 i)) = some (.eptr (I l[i]) 0) := by
  rw [index_sl _ _ _ _ _ (by omega) (by simpa using h)]
  simp
theorem slice_prs (nl : Bool) (ps : List (Int × Int)) (i : Nat) (h : i < ps.length) : sliceAV 2 (sl 2 nl (ps.map prAV)) none (some (.v (.int .i64 i))) none = some (sl 2 false ((ps.take i).map prAV)) := by
  have e : sl 2 nl (ps.map prAV) = .lst .any 2 (ps.map prAV) := by
    unfold sl; rw [if_neg]; rintro ⟨_, h2⟩
    simp at h2; subst h2; simp at h
  rw [e]
  simp [sliceAV, natOr, natOf, tagSlice, sl, List.map_take]
  omega

theorem loop87 (nl : Bool) (ps : List (Int × Int)) (hlen : ps.length < 1000000) (p q : Int) (i : Nat) (hok : i ≤ ps.length) (env : Env) (st : St)
    (hg : gcAV true 1 0 (canon env [0, 3, 7, 8]) st = ([(0, sl 2 nl (ps.map prAV)), (3, .ptr 0 0), (7, I ps.length), (8, I i)], ⟨[[I p, I q]], []⟩)) :
    ∃ x_1 en s, lim (headed pure (run L) true [0, 3, 7, 8] lp87_0 1 0) env st = some (x_1, en, s) ∧ (if (p, q) ∈ ps.drop i then x_1 = .ret ∧ ∃ k : Int, 0 ≤ k ∧ en.get 4 = I k else x_1 = .exit 0) := by
  refine loop_wp (α := Nat) (fun i => ps.length - i) (fun i => i ≤ ps.length) (fun i => ([(0, sl 2 nl (ps.map prAV)), (3, .ptr 0 0), (7, I ps.length), (8, I i)], ⟨[[I p, I q]], []⟩)) (fun i x_1 en s => if (p, q) ∈ ps.drop i then x_1 = .ret ∧ ∃ k : Int, 0 ≤ k ∧ en.get 4 = I k else x_1 = .exit 0) (fun i hok => ?_) i hok env st hg
  by_cases h : i < ps.length
  · have hx := index_prs nl ps i h
    have hs := succ64 i (by omega)
    have hd : ps.drop i = ps[i] :: ps.drop (i + 1) := List.drop_eq_getElem_cons h
    rw [hd]
    generalize ps[i] = a at *
    obtain ⟨u, v⟩ := a
    have hlt : ((i : Int) < (ps.length : Int)) = True := eq_true (by omega)
    simp only at hx
    by_cases e1 : p = u
    · by_cases e2 : q = v
      · subst e1; subst e2
        simp only [go_sem, reduceIte, Nat.reduceEqDiff, Nat.reduceAdd, Nat.reduceSub, Nat.reduceLeDiff, Nat.reduceLT, reduceCtorEq, Int.reduceLT, Int.reduceLE, Int.reduceEq, Int.reduceBEq, Int.reduceSub, Int.reduceAdd, Int.reduceMul, Int.reduceNeg, Int.reduceToNat, Nat.reduceMul, Nat.reduceBEq, index_rsl_if, setm, make_ints, condK_dec, wantK_dec, not_dec, and_dec, or_dec, seqK_ite, seqK_none, blockK_ite, blockK_none, opsK_ite, opsK_none, stepK_ite, stepK_none, bodyK_ite, bodyK_none, resK_ite, resK_none, leaveK_ite, leaveK_none, only_ite, only_none, bind_ite, gives_some, gives_none, gives_ite, then_normal, then_ret, then_exit, then_none, then_ite, Option.bind_none, Bool.not_eq_true', decide_eq_false_iff_not, Bool.and_eq_true, Bool.or_eq_true, Option.some.injEq, Int.not_lt, Int.not_le, lp87_0, hx, hlt]
        rw [if_pos (by simp)]
        exact ⟨(i : Int), by omega, rfl⟩
      · simp only [go_sem, reduceIte, Nat.reduceEqDiff, Nat.reduceAdd, Nat.reduceSub, Nat.reduceLeDiff, Nat.reduceLT, reduceCtorEq, Int.reduceLT, Int.reduceLE, Int.reduceEq, Int.reduceBEq, Int.reduceSub, Int.reduceAdd, Int.reduceMul, Int.reduceNeg, Int.reduceToNat, Nat.reduceMul, Nat.reduceBEq, index_rsl_if, setm, make_ints, condK_dec, wantK_dec, not_dec, and_dec, or_dec, seqK_ite, seqK_none, blockK_ite, blockK_none, opsK_ite, opsK_none, stepK_ite, stepK_none, bodyK_ite, bodyK_none, resK_ite, resK_none, leaveK_ite, leaveK_none, only_ite, only_none, bind_ite, gives_some, gives_none, gives_ite, then_normal, then_ret, then_exit, then_none, then_ite, Option.bind_none, Bool.not_eq_true', decide_eq_false_iff_not, Bool.and_eq_true, Bool.or_eq_true, Option.some.injEq, Int.not_lt, Int.not_le, lp87_0, hx, hlt, e1, e2, hs]
        refine ⟨i + 1, by simp only [go_sem, reduceIte, Nat.reduceEqDiff, Nat.reduceAdd, Nat.reduceSub, Nat.reduceLeDiff, Nat.reduceLT, reduceCtorEq, Int.reduceLT, Int.reduceLE, Int.reduceEq, Int.reduceBEq, Int.reduceSub, Int.reduceAdd, Int.reduceMul, Int.reduceNeg, Int.reduceToNat, Nat.reduceMul, Nat.reduceBEq, ren1_locm, loc_tips, locT_eq] <;> rfl, ?_, ?_, fun x en s hq => ?_⟩
        · omega
        · omega
        · simp only [List.mem_cons, Prod.mk.injEq, e2, and_false, false_or]; exact hq
    · simp only [go_sem, reduceIte, Nat.reduceEqDiff, Nat.reduceAdd, Nat.reduceSub, Nat.reduceLeDiff, Nat.reduceLT, reduceCtorEq, Int.reduceLT, Int.reduceLE, Int.reduceEq, Int.reduceBEq, Int.reduceSub, Int.reduceAdd, Int.reduceMul, Int.reduceNeg, Int.reduceToNat, Nat.reduceMul, Nat.reduceBEq, index_rsl_if, setm, make_ints, condK_dec, wantK_dec, not_dec, and_dec, or_dec, seqK_ite, seqK_none, blockK_ite, blockK_none, opsK_ite, opsK_none, stepK_ite, stepK_none, bodyK_ite, bodyK_none, resK_ite, resK_none, leaveK_ite, leaveK_none, only_ite, only_none, bind_ite, gives_some, gives_none, gives_ite, then_normal, then_ret, then_exit, then_none, then_ite, Option.bind_none, Bool.not_eq_true', decide_eq_false_iff_not, Bool.and_eq_true, Bool.or_eq_true, Option.some.injEq, Int.not_lt, Int.not_le, lp87_0, hx, hlt, e1, hs]
      refine ⟨i + 1, by simp only [go_sem, reduceIte, Nat.reduceEqDiff, Nat.reduceAdd, Nat.reduceSub, Nat.reduceLeDiff, Nat.reduceLT, reduceCtorEq, Int.reduceLT, Int.reduceLE, Int.reduceEq, Int.reduceBEq, Int.reduceSub, Int.reduceAdd, Int.reduceMul, Int.reduceNeg, Int.reduceToNat, Nat.reduceMul, Nat.reduceBEq, ren1_locm, loc_tips, locT_eq] <;> rfl, ?_, ?_, fun x en s hq => ?_⟩
      · omega
      · omega
      · simp only [List.mem_cons, Prod.mk.injEq, e1, false_and, false_or]; exact hq
  · have hd : ps.drop i = [] := List.drop_eq_nil_of_le (by omega)
    have hlt : ((i : Int) < (ps.length : Int)) = False := eq_false (by omega)
    simp only [go_sem, reduceIte, Nat.reduceEqDiff, Nat.reduceAdd, Nat.reduceSub, Nat.reduceLeDiff, Nat.reduceLT, reduceCtorEq, Int.reduceLT, Int.reduceLE, Int.reduceEq, Int.reduceBEq, Int.reduceSub, Int.reduceAdd, Int.reduceMul, Int.reduceNeg, Int.reduceToNat, Nat.reduceMul, Nat.reduceBEq, index_rsl_if, setm, make_ints, condK_dec, wantK_dec, not_dec, and_dec, or_dec, seqK_ite, seqK_none, blockK_ite, blockK_none, opsK_ite, opsK_none, stepK_ite, stepK_none, bodyK_ite, bodyK_none, resK_ite, resK_none, leaveK_ite, leaveK_none, only_ite, only_none, bind_ite, gives_some, gives_none, gives_ite, then_normal, then_ret, then_exit, then_none, then_ite, Option.bind_none, Bool.not_eq_true', decide_eq_false_iff_not, Bool.and_eq_true, Bool.or_eq_true, Option.some.injEq, Int.not_lt, Int.not_le, lp87_0, hlt]
    rw [hd]; simp

theorem c49 (nl : Bool) (ps : List (Int × Int)) (hlen : ps.length < 1000000) (p q : Int) (st : St) :
    run L 49 [sl 2 nl (ps.map prAV), .agg [I p, I q]] st = some (B (decide ((p, q) ∈ ps)), st) := by
  have h106 : ∀ st, ∃ k : Int, run L 87 [sl 2 nl (ps.map prAV), .agg [I p, I q]] st = some (I k, st) ∧ (0 ≤ k ↔ (p, q) ∈ ps) := by
    intro st
    rw [run_pure (fn := ir87) rfl rfl]
    simp only [ir87, go_sem, reduceIte, Nat.reduceEqDiff, Nat.reduceAdd, Nat.reduceSub, Nat.reduceLeDiff, Nat.reduceLT, reduceCtorEq, Int.reduceLT, Int.reduceLE, Int.reduceEq, Int.reduceBEq, Int.reduceSub, Int.reduceAdd, Int.reduceMul, Int.reduceNeg, Int.reduceToNat, Nat.reduceMul, Nat.reduceBEq, List.length_map]
    generalize hg : lim (headed pure (run L) true _ lp87_0 _ _) _ _ = o
    obtain ⟨x, en, s, rfl, h2⟩ : ∃ x en s, o = some (x, en, s) ∧ _ := by rw [← hg]; exact loop87 nl ps hlen p q 0 (by omega) _ _ (by simp only [go_sem, reduceIte, Nat.reduceEqDiff, Nat.reduceAdd, Nat.reduceSub, Nat.reduceLeDiff, Nat.reduceLT, reduceCtorEq, Int.reduceLT, Int.reduceLE, Int.reduceEq, Int.reduceBEq, Int.reduceSub, Int.reduceAdd, Int.reduceMul, Int.reduceNeg, Int.reduceToNat, Nat.reduceMul, Nat.reduceBEq] <;> rfl)
    clear hg
    rw [List.drop_zero] at h2
    by_cases h : (p, q) ∈ ps
    · rw [if_pos h] at h2
      obtain ⟨rfl, k, hk, h3⟩ := h2
      exact ⟨k, by simp only [go_sem, reduceIte, Nat.reduceEqDiff, Nat.reduceAdd, Nat.reduceSub, Nat.reduceLeDiff, Nat.reduceLT, reduceCtorEq, Int.reduceLT, Int.reduceLE, Int.reduceEq, Int.reduceBEq, Int.reduceSub, Int.reduceAdd, Int.reduceMul, Int.reduceNeg, Int.reduceToNat, Nat.reduceMul, Nat.reduceBEq, h3], by simp [h, hk]⟩
    · rw [if_neg h] at h2
      subst h2
      exact ⟨-1, by simp only [go_sem, reduceIte, Nat.reduceEqDiff, Nat.reduceAdd, Nat.reduceSub, Nat.reduceLeDiff, Nat.reduceLT, reduceCtorEq, Int.reduceLT, Int.reduceLE, Int.reduceEq, Int.reduceBEq, Int.reduceSub, Int.reduceAdd, Int.reduceMul, Int.reduceNeg, Int.reduceToNat, Nat.reduceMul, Nat.reduceBEq], by simp [h]⟩
  rw [run_pure (fn := ir49) rfl rfl]
  obtain ⟨k, h1, h2⟩ := h106 ⟨[[I p, I q]], []⟩
  simp only [ir49, go_sem, reduceIte, Nat.reduceEqDiff, Nat.reduceAdd, Nat.reduceSub, Nat.reduceLeDiff, Nat.reduceLT, reduceCtorEq, Int.reduceLT, Int.reduceLE, Int.reduceEq, Int.reduceBEq, Int.reduceSub, Int.reduceAdd, Int.reduceMul, Int.reduceNeg, Int.reduceToNat, Nat.reduceMul, Nat.reduceBEq, h1, h2]

def indexOf (a : Int) : List Int → Nat → Int
  | [], _ => -1
  | b :: r, i => if a = b then (i : Int) else indexOf a r (i + 1)
theorem indexOf_nonneg (a : Int) : ∀ (l : List Int) (i : Nat), (0 ≤ indexOf a l i) = (a ∈ l)
  | [], i => by simp [indexOf]
  | b :: r, i => by
    have ih := indexOf_nonneg a r (i + 1)
    simp only [indexOf]
    split
    · next h => simp [h]
    · next h => rw [ih]; simp [h]

theorem loop92 (nl : Bool) (l : List Int) (hlen : l.length < 1000000) (a : Int) (i : Nat) (hok : i ≤ l.length) (env : Env) (st : St)
    (hg : gcAV true 0 0 (canon env [0, 1, 7, 8]) st = ([(0, sl 1 nl (l.map I)), (1, I a), (7, I l.length), (8, I i)], ⟨[], []⟩)) :
    ∃ x_1 en s, lim (headed pure (run L) true [0, 1, 7, 8] lp92_0 0 0) env st = some (x_1, en, s) ∧ (if a ∈ l.drop i then x_1 = .ret ∧ en.get 4 = I (indexOf a (l.drop i) i) else x_1 = .exit 0) := by
  refine loop_wp (α := Nat) (fun i => l.length - i) (fun i => i ≤ l.length) (fun i => ([(0, sl 1 nl (l.map I)), (1, I a), (7, I l.length), (8, I i)], ⟨[], []⟩)) (fun i x_1 en s => if a ∈ l.drop i then x_1 = .ret ∧ en.get 4 = I (indexOf a (l.drop i) i) else x_1 = .exit 0) (fun i hok => ?_) i hok env st hg
  by_cases h : i < l.length
  · have hx := index_ints nl l i h
    have hs := succ64 i (by omega)
    have hd : l.drop i = l[i] :: l.drop (i + 1) := List.drop_eq_getElem_cons h
    have hlt : ((i : Int) < (l.length : Int)) = True := eq_true (by omega)
    rw [hd]
    generalize l[i] = b at *
    by_cases p : a = b
    · simp only [go_sem, reduceIte, Nat.reduceEqDiff, Nat.reduceAdd, Nat.reduceSub, Nat.reduceLeDiff, Nat.reduceLT, reduceCtorEq, Int.reduceLT, Int.reduceLE, Int.reduceEq, Int.reduceBEq, Int.reduceSub, Int.reduceAdd, Int.reduceMul, Int.reduceNeg, Int.reduceToNat, Nat.reduceMul, Nat.reduceBEq, index_rsl_if, setm, make_ints, condK_dec, wantK_dec, not_dec, and_dec, or_dec, seqK_ite, seqK_none, blockK_ite, blockK_none, opsK_ite, opsK_none, stepK_ite, stepK_none, bodyK_ite, bodyK_none, resK_ite, resK_none, leaveK_ite, leaveK_none, only_ite, only_none, bind_ite, gives_some, gives_none, gives_ite, then_normal, then_ret, then_exit, then_none, then_ite, Option.bind_none, Bool.not_eq_true', decide_eq_false_iff_not, Bool.and_eq_true, Bool.or_eq_true, Option.some.injEq, Int.not_lt, Int.not_le, lp92_0, hx, hlt, p]
      rw [if_pos (by simp)]; simp [indexOf]
    · have e : indexOf a (b :: l.drop (i + 1)) i = indexOf a (l.drop (i + 1)) (i + 1) := by simp only [indexOf]; rw [if_neg p]
      simp only [go_sem, reduceIte, Nat.reduceEqDiff, Nat.reduceAdd, Nat.reduceSub, Nat.reduceLeDiff, Nat.reduceLT, reduceCtorEq, Int.reduceLT, Int.reduceLE, Int.reduceEq, Int.reduceBEq, Int.reduceSub, Int.reduceAdd, Int.reduceMul, Int.reduceNeg, Int.reduceToNat, Nat.reduceMul, Nat.reduceBEq, index_rsl_if, setm, make_ints, condK_dec, wantK_dec, not_dec, and_dec, or_dec, seqK_ite, seqK_none, blockK_ite, blockK_none, opsK_ite, opsK_none, stepK_ite, stepK_none, bodyK_ite, bodyK_none, resK_ite, resK_none, leaveK_ite, leaveK_none, only_ite, only_none, bind_ite, gives_some, gives_none, gives_ite, then_normal, then_ret, then_exit, then_none, then_ite, Option.bind_none, Bool.not_eq_true', decide_eq_false_iff_not, Bool.and_eq_true, Bool.or_eq_true, Option.some.injEq, Int.not_lt, Int.not_le, lp92_0, hx, hlt, p, hs]
      refine ⟨i + 1, by simp only [go_sem, reduceIte, Nat.reduceEqDiff, Nat.reduceAdd, Nat.reduceSub, Nat.reduceLeDiff, Nat.reduceLT, reduceCtorEq, Int.reduceLT, Int.reduceLE, Int.reduceEq, Int.reduceBEq, Int.reduceSub, Int.reduceAdd, Int.reduceMul, Int.reduceNeg, Int.reduceToNat, Nat.reduceMul, Nat.reduceBEq, ren1_locm, loc_tips, locT_eq] <;> rfl, ?_, ?_, fun x en s hq => ?_⟩
      · omega
      · omega
      · rw [e]; simp only [List.mem_cons, p, false_or]; exact hq
  · have hd : l.drop i = [] := List.drop_eq_nil_of_le (by omega)
    have hlt : ((i : Int) < (l.length : Int)) = False := eq_false (by omega)
    simp only [go_sem, reduceIte, Nat.reduceEqDiff, Nat.reduceAdd, Nat.reduceSub, Nat.reduceLeDiff, Nat.reduceLT, reduceCtorEq, Int.reduceLT, Int.reduceLE, Int.reduceEq, Int.reduceBEq, Int.reduceSub, Int.reduceAdd, Int.reduceMul, Int.reduceNeg, Int.reduceToNat, Nat.reduceMul, Nat.reduceBEq, index_rsl_if, setm, make_ints, condK_dec, wantK_dec, not_dec, and_dec, or_dec, seqK_ite, seqK_none, blockK_ite, blockK_none, opsK_ite, opsK_none, stepK_ite, stepK_none, bodyK_ite, bodyK_none, resK_ite, resK_none, leaveK_ite, leaveK_none, only_ite, only_none, bind_ite, gives_some, gives_none, gives_ite, then_normal, then_ret, then_exit, then_none, then_ite, Option.bind_none, Bool.not_eq_true', decide_eq_false_iff_not, Bool.and_eq_true, Bool.or_eq_true, Option.some.injEq, Int.not_lt, Int.not_le, lp92_0, hlt]
    rw [hd]; simp

theorem c92 (nl : Bool) (l : List Int) (hlen : l.length < 1000000) (a : Int) (st : St) : run L 92 [sl 1 nl (l.map I), I a] st = some (I (indexOf a l 0), st) := by
  rw [run_pure (fn := ir92) rfl rfl]
  simp only [ir92, go_sem, reduceIte, Nat.reduceEqDiff, Nat.reduceAdd, Nat.reduceSub, Nat.reduceLeDiff, Nat.reduceLT, reduceCtorEq, Int.reduceLT, Int.reduceLE, Int.reduceEq, Int.reduceBEq, Int.reduceSub, Int.reduceAdd, Int.reduceMul, Int.reduceNeg, Int.reduceToNat, Nat.reduceMul, Nat.reduceBEq, List.length_map]
  generalize hg : lim (headed pure (run L) true _ lp92_0 _ _) _ _ = o
  obtain ⟨x, en, s, rfl, h2⟩ : ∃ x en s, o = some (x, en, s) ∧ _ := by rw [← hg]; exact loop92 nl l hlen a 0 (by omega) _ _ (by simp only [go_sem, reduceIte, Nat.reduceEqDiff, Nat.reduceAdd, Nat.reduceSub, Nat.reduceLeDiff, Nat.reduceLT, reduceCtorEq, Int.reduceLT, Int.reduceLE, Int.reduceEq, Int.reduceBEq, Int.reduceSub, Int.reduceAdd, Int.reduceMul, Int.reduceNeg, Int.reduceToNat, Nat.reduceMul, Nat.reduceBEq] <;> rfl)
  clear hg
  rw [List.drop_zero] at h2
  by_cases h : a ∈ l
  · rw [if_pos h] at h2
    obtain ⟨rfl, h3⟩ := h2
    simp only [go_sem, reduceIte, Nat.reduceEqDiff, Nat.reduceAdd, Nat.reduceSub, Nat.reduceLeDiff, Nat.reduceLT, reduceCtorEq, Int.reduceLT, Int.reduceLE, Int.reduceEq, Int.reduceBEq, Int.reduceSub, Int.reduceAdd, Int.reduceMul, Int.reduceNeg, Int.reduceToNat, Nat.reduceMul, Nat.reduceBEq, h3]
  · rw [if_neg h] at h2
    subst h2
    have e : indexOf a l 0 = -1 := by
      have : ∀ (l : List Int) (i : Nat), a ∉ l → indexOf a l i = -1 := by
        intro l
        induction l with
        | nil => intro i _; rfl
        | cons b r ih =>
          intro i hn
          simp only [List.mem_cons, not_or] at hn
          simp only [indexOf]; rw [if_neg hn.1]; exact ih _ hn.2
      exact this l 0 h
    simp only [go_sem, reduceIte, Nat.reduceEqDiff, Nat.reduceAdd, Nat.reduceSub, Nat.reduceLeDiff, Nat.reduceLT, reduceCtorEq, Int.reduceLT, Int.reduceLE, Int.reduceEq, Int.reduceBEq, Int.reduceSub, Int.reduceAdd, Int.reduceMul, Int.reduceNeg, Int.reduceToNat, Nat.reduceMul, Nat.reduceBEq, e]
theorem c57 (nl : Bool) (l : List Int) (hlen : l.length < 1000000) (a : Int) (st : St) : run L 57 [sl 1 nl (l.map I), I a] st = some (B (decide (a ∈ l)), st) := by
  rw [run_pure (fn := ir57) rfl rfl]
  have h46 := fun st => c92 nl l hlen a st
  have hn := indexOf_nonneg a l 0
  simp only [ir57, go_sem, reduceIte, Nat.reduceEqDiff, Nat.reduceAdd, Nat.reduceSub, Nat.reduceLeDiff, Nat.reduceLT, reduceCtorEq, Int.reduceLT, Int.reduceLE, Int.reduceEq, Int.reduceBEq, Int.reduceSub, Int.reduceAdd, Int.reduceMul, Int.reduceNeg, Int.reduceToNat, Nat.reduceMul, Nat.reduceBEq, h46, hn]


/-- What is wrong with a pair behind others; with pairs; with a book. -/
def prErr (n : Int) (seen : List (Int × Int)) (p : Int × Int) : Int := if p.1 < 0 ∨ p.2 < 0 ∨ n ≤ p.1 ∨ n ≤ p.2 then 2 else if p.1 = p.2 then 5 else if p ∈ seen then 6 else 0
def prsErr (n : Int) : List (Int × Int) → List (Int × Int) → Int
  | _, [] => 0
  | seen, p :: r => if prErr n seen p = 0 then prsErr n (seen ++ [p]) r else prErr n seen p
def chk (n : Int) (ps : List (Int × Int)) : Int := if n < 1 ∨ 7 < n then 1 else if 16 < ps.length then 3 else prsErr n [] ps

theorem loop24 (nl : Bool) (n : Int) (hn : 1 ≤ n ∧ n ≤ 7) (ps : List (Int × Int)) (hlen : ps.length ≤ 16) (i : Nat) (hok : i ≤ ps.length) (env : Env) (st : St)
    (hg : gcAV true 1 0 (canon env [1, 20, 21, 22]) st = ([(1, .ptr 0 0), (20, sl 2 nl (ps.map prAV)), (21, I ps.length), (22, I i)], ⟨[bkCells nl n ps], []⟩)) :
    ∃ x_1 en s, lim (headed pure (run L) true [1, 20, 21, 22] lp24_0 1 0) env st = some (x_1, en, s) ∧ (if prsErr n (ps.take i) (ps.drop i) = 0 then x_1 = .exit 1 else x_1 = .ret ∧ en.get 2 = I (prsErr n (ps.take i) (ps.drop i))) := by
  refine loop_wp (α := Nat) (fun i => ps.length - i) (fun i => i ≤ ps.length) (fun i => ([(1, .ptr 0 0), (20, sl 2 nl (ps.map prAV)), (21, I ps.length), (22, I i)], ⟨[bkCells nl n ps], []⟩)) (fun i x_1 en s => if prsErr n (ps.take i) (ps.drop i) = 0 then x_1 = .exit 1 else x_1 = .ret ∧ en.get 2 = I (prsErr n (ps.take i) (ps.drop i))) (fun i hok => ?_) i hok env st hg
  by_cases h : i < ps.length
  · have hx := index_prs nl ps i h
    have hs := succ64 i (by omega)
    have hd : ps.drop i = ps[i] :: ps.drop (i + 1) := List.drop_eq_getElem_cons h
    have ht : ps.take (i + 1) = ps.take i ++ [ps[i]] := by rw [List.take_succ_eq_append_getElem h]
    have hsl := slice_prs nl ps i h
    have h76 := fun p q st => c49 false (ps.take i) (by rw [List.length_take]; omega) p q st
    rw [hd]
    generalize ps[i] = c at *
    obtain ⟨u, v⟩ := c
    have hlt : ((i : Int) < (ps.length : Int)) = True := eq_true (by omega)
    simp only at hx
    have hmn : (if v < u then v else u) = min u v := by rw [Int.min_def]; split <;> split <;> omega
    have hmx : (if u < v then v else u) = max u v := by rw [Int.max_def]; split <;> split <;> omega
    by_cases p1 : min u v < 0
    · have he : prErr n (ps.take i) (u, v) = 2 := by unfold prErr; simp only; rw [if_pos (by omega)]
      simp only [go_sem, reduceIte, Nat.reduceEqDiff, Nat.reduceAdd, Nat.reduceSub, Nat.reduceLeDiff, Nat.reduceLT, reduceCtorEq, Int.reduceLT, Int.reduceLE, Int.reduceEq, Int.reduceBEq, Int.reduceSub, Int.reduceAdd, Int.reduceMul, Int.reduceNeg, Int.reduceToNat, Nat.reduceMul, Nat.reduceBEq, index_rsl_if, setm, make_ints, condK_dec, wantK_dec, not_dec, and_dec, or_dec, seqK_ite, seqK_none, blockK_ite, blockK_none, opsK_ite, opsK_none, stepK_ite, stepK_none, bodyK_ite, bodyK_none, resK_ite, resK_none, leaveK_ite, leaveK_none, only_ite, only_none, bind_ite, gives_some, gives_none, gives_ite, then_normal, then_ret, then_exit, then_none, then_ite, Option.bind_none, Bool.not_eq_true', decide_eq_false_iff_not, Bool.and_eq_true, Bool.or_eq_true, Option.some.injEq, Int.not_lt, Int.not_le, lp24_0, hx, hlt, p1, hmn, hmx, List.length_map]
      simp [prsErr, he]
    by_cases p1b : n ≤ max u v
    · have he : prErr n (ps.take i) (u, v) = 2 := by unfold prErr; simp only; rw [if_pos (by omega)]
      simp only [go_sem, reduceIte, Nat.reduceEqDiff, Nat.reduceAdd, Nat.reduceSub, Nat.reduceLeDiff, Nat.reduceLT, reduceCtorEq, Int.reduceLT, Int.reduceLE, Int.reduceEq, Int.reduceBEq, Int.reduceSub, Int.reduceAdd, Int.reduceMul, Int.reduceNeg, Int.reduceToNat, Nat.reduceMul, Nat.reduceBEq, index_rsl_if, setm, make_ints, condK_dec, wantK_dec, not_dec, and_dec, or_dec, seqK_ite, seqK_none, blockK_ite, blockK_none, opsK_ite, opsK_none, stepK_ite, stepK_none, bodyK_ite, bodyK_none, resK_ite, resK_none, leaveK_ite, leaveK_none, only_ite, only_none, bind_ite, gives_some, gives_none, gives_ite, then_normal, then_ret, then_exit, then_none, then_ite, Option.bind_none, Bool.not_eq_true', decide_eq_false_iff_not, Bool.and_eq_true, Bool.or_eq_true, Option.some.injEq, Int.not_lt, Int.not_le, lp24_0, hx, hlt, p1, p1b, hmn, hmx, List.length_map]
      simp [prsErr, he]
    by_cases p2 : u = v
    · have he : prErr n (ps.take i) (u, v) = 5 := by unfold prErr; simp only; rw [if_neg (by omega), if_pos p2]
      have p2' : (u = v) = True := eq_true p2
      simp only [go_sem, reduceIte, Nat.reduceEqDiff, Nat.reduceAdd, Nat.reduceSub, Nat.reduceLeDiff, Nat.reduceLT, reduceCtorEq, Int.reduceLT, Int.reduceLE, Int.reduceEq, Int.reduceBEq, Int.reduceSub, Int.reduceAdd, Int.reduceMul, Int.reduceNeg, Int.reduceToNat, Nat.reduceMul, Nat.reduceBEq, index_rsl_if, setm, make_ints, condK_dec, wantK_dec, not_dec, and_dec, or_dec, seqK_ite, seqK_none, blockK_ite, blockK_none, opsK_ite, opsK_none, stepK_ite, stepK_none, bodyK_ite, bodyK_none, resK_ite, resK_none, leaveK_ite, leaveK_none, only_ite, only_none, bind_ite, gives_some, gives_none, gives_ite, then_normal, then_ret, then_exit, then_none, then_ite, Option.bind_none, Bool.not_eq_true', decide_eq_false_iff_not, Bool.and_eq_true, Bool.or_eq_true, Option.some.injEq, Int.not_lt, Int.not_le, lp24_0, hx, hlt, p1, p1b, hmn, hmx, p2', List.length_map]
      simp [prsErr, he]
    · by_cases p3 : (u, v) ∈ ps.take i
      · have he : prErr n (ps.take i) (u, v) = 6 := by unfold prErr; simp only; rw [if_neg (by omega), if_neg p2, if_pos p3]
        simp only [go_sem, reduceIte, Nat.reduceEqDiff, Nat.reduceAdd, Nat.reduceSub, Nat.reduceLeDiff, Nat.reduceLT, reduceCtorEq, Int.reduceLT, Int.reduceLE, Int.reduceEq, Int.reduceBEq, Int.reduceSub, Int.reduceAdd, Int.reduceMul, Int.reduceNeg, Int.reduceToNat, Nat.reduceMul, Nat.reduceBEq, index_rsl_if, setm, make_ints, condK_dec, wantK_dec, not_dec, and_dec, or_dec, seqK_ite, seqK_none, blockK_ite, blockK_none, opsK_ite, opsK_none, stepK_ite, stepK_none, bodyK_ite, bodyK_none, resK_ite, resK_none, leaveK_ite, leaveK_none, only_ite, only_none, bind_ite, gives_some, gives_none, gives_ite, then_normal, then_ret, then_exit, then_none, then_ite, Option.bind_none, Bool.not_eq_true', decide_eq_false_iff_not, Bool.and_eq_true, Bool.or_eq_true, Option.some.injEq, Int.not_lt, Int.not_le, lp24_0, hx, hlt, p1, p1b, hmn, hmx, p2, hsl, h76, p3, List.length_map]
        simp [prsErr, he]
      · have he : prErr n (ps.take i) (u, v) = 0 := by unfold prErr; simp only; rw [if_neg (by omega), if_neg p2, if_neg p3]
        simp only [go_sem, reduceIte, Nat.reduceEqDiff, Nat.reduceAdd, Nat.reduceSub, Nat.reduceLeDiff, Nat.reduceLT, reduceCtorEq, Int.reduceLT, Int.reduceLE, Int.reduceEq, Int.reduceBEq, Int.reduceSub, Int.reduceAdd, Int.reduceMul, Int.reduceNeg, Int.reduceToNat, Nat.reduceMul, Nat.reduceBEq, index_rsl_if, setm, make_ints, condK_dec, wantK_dec, not_dec, and_dec, or_dec, seqK_ite, seqK_none, blockK_ite, blockK_none, opsK_ite, opsK_none, stepK_ite, stepK_none, bodyK_ite, bodyK_none, resK_ite, resK_none, leaveK_ite, leaveK_none, only_ite, only_none, bind_ite, gives_some, gives_none, gives_ite, then_normal, then_ret, then_exit, then_none, then_ite, Option.bind_none, Bool.not_eq_true', decide_eq_false_iff_not, Bool.and_eq_true, Bool.or_eq_true, Option.some.injEq, Int.not_lt, Int.not_le, lp24_0, hx, hlt, p1, p1b, hmn, hmx, p2, hsl, h76, p3, hs, List.length_map]
        refine ⟨i + 1, by simp only [go_sem, reduceIte, Nat.reduceEqDiff, Nat.reduceAdd, Nat.reduceSub, Nat.reduceLeDiff, Nat.reduceLT, reduceCtorEq, Int.reduceLT, Int.reduceLE, Int.reduceEq, Int.reduceBEq, Int.reduceSub, Int.reduceAdd, Int.reduceMul, Int.reduceNeg, Int.reduceToNat, Nat.reduceMul, Nat.reduceBEq, ren1_locm, loc_tips, locT_eq] <;> rfl, ?_, ?_, fun x en s hq => ?_⟩
        · omega
        · omega
        · have e2 : prsErr n (ps.take i) ((u, v) :: ps.drop (i + 1)) = prsErr n (ps.take (i + 1)) (ps.drop (i + 1)) := by simp only [prsErr, he, if_true, ht]
          rw [e2]; exact hq
  · have hd : ps.drop i = [] := List.drop_eq_nil_of_le (by omega)
    have hlt : ((i : Int) < (ps.length : Int)) = False := eq_false (by omega)
    simp only [go_sem, reduceIte, Nat.reduceEqDiff, Nat.reduceAdd, Nat.reduceSub, Nat.reduceLeDiff, Nat.reduceLT, reduceCtorEq, Int.reduceLT, Int.reduceLE, Int.reduceEq, Int.reduceBEq, Int.reduceSub, Int.reduceAdd, Int.reduceMul, Int.reduceNeg, Int.reduceToNat, Nat.reduceMul, Nat.reduceBEq, index_rsl_if, setm, make_ints, condK_dec, wantK_dec, not_dec, and_dec, or_dec, seqK_ite, seqK_none, blockK_ite, blockK_none, opsK_ite, opsK_none, stepK_ite, stepK_none, bodyK_ite, bodyK_none, resK_ite, resK_none, leaveK_ite, leaveK_none, only_ite, only_none, bind_ite, gives_some, gives_none, gives_ite, then_normal, then_ret, then_exit, then_none, then_ite, Option.bind_none, Bool.not_eq_true', decide_eq_false_iff_not, Bool.and_eq_true, Bool.or_eq_true, Option.some.injEq, Int.not_lt, Int.not_le, lp24_0, hlt, List.length_map]
    rw [hd]; simp [prsErr]

theorem c24 (nl : Bool) (n : Int) (ps : List (Int × Int)) (st : St) :
    run L 24 [bkAV nl n ps] st = some (I (chk n ps), st) := by
  rw [run_pure (fn := ir24) rfl rfl]
  unfold chk
  by_cases p0 : n < 1 ∨ 7 < n
  · rw [if_pos p0]
    by_cases a : n < 1
    · simp only [ir24, go_sem, reduceIte, Nat.reduceEqDiff, Nat.reduceAdd, Nat.reduceSub, Nat.reduceLeDiff, Nat.reduceLT, reduceCtorEq, Int.reduceLT, Int.reduceLE, Int.reduceEq, Int.reduceBEq, Int.reduceSub, Int.reduceAdd, Int.reduceMul, Int.reduceNeg, Int.reduceToNat, Nat.reduceMul, Nat.reduceBEq, a]
    · simp only [ir24, go_sem, reduceIte, Nat.reduceEqDiff, Nat.reduceAdd, Nat.reduceSub, Nat.reduceLeDiff, Nat.reduceLT, reduceCtorEq, Int.reduceLT, Int.reduceLE, Int.reduceEq, Int.reduceBEq, Int.reduceSub, Int.reduceAdd, Int.reduceMul, Int.reduceNeg, Int.reduceToNat, Nat.reduceMul, Nat.reduceBEq, a, show (7 < n) = True from eq_true (by omega)]
  · rw [if_neg p0]
    by_cases p1 : 16 < ps.length
    · have q1 : ((16 : Int) < (ps.length : Int)) = True := eq_true (by omega)
      rw [if_pos p1]
      simp only [ir24, go_sem, reduceIte, Nat.reduceEqDiff, Nat.reduceAdd, Nat.reduceSub, Nat.reduceLeDiff, Nat.reduceLT, reduceCtorEq, Int.reduceLT, Int.reduceLE, Int.reduceEq, Int.reduceBEq, Int.reduceSub, Int.reduceAdd, Int.reduceMul, Int.reduceNeg, Int.reduceToNat, Nat.reduceMul, Nat.reduceBEq, show (n < 1) = False from eq_false (by omega), show (7 < n) = False from eq_false (by omega), q1, List.length_map]
    · have q1 : ((16 : Int) < (ps.length : Int)) = False := eq_false (by omega)
      rw [if_neg p1]
      simp only [ir24, go_sem, reduceIte, Nat.reduceEqDiff, Nat.reduceAdd, Nat.reduceSub, Nat.reduceLeDiff, Nat.reduceLT, reduceCtorEq, Int.reduceLT, Int.reduceLE, Int.reduceEq, Int.reduceBEq, Int.reduceSub, Int.reduceAdd, Int.reduceMul, Int.reduceNeg, Int.reduceToNat, Nat.reduceMul, Nat.reduceBEq, show (n < 1) = False from eq_false (by omega), show (7 < n) = False from eq_false (by omega), q1, List.length_map]
      generalize hg : lim (headed pure (run L) true _ lp24_0 _ _) _ _ = o
      obtain ⟨x, en, s, rfl, h2⟩ : ∃ x en s, o = some (x, en, s) ∧ _ := by rw [← hg]; exact loop24 nl n (by omega) ps (by omega) 0 (by omega) _ _ (by simp only [go_sem, reduceIte, Nat.reduceEqDiff, Nat.reduceAdd, Nat.reduceSub, Nat.reduceLeDiff, Nat.reduceLT, reduceCtorEq, Int.reduceLT, Int.reduceLE, Int.reduceEq, Int.reduceBEq, Int.reduceSub, Int.reduceAdd, Int.reduceMul, Int.reduceNeg, Int.reduceToNat, Nat.reduceMul, Nat.reduceBEq] <;> rfl)
      clear hg
      simp only [List.drop_zero, List.take_zero] at h2
      by_cases h : prsErr n [] ps = 0
      · rw [if_pos h] at h2
        subst h2
        simp only [go_sem, reduceIte, Nat.reduceEqDiff, Nat.reduceAdd, Nat.reduceSub, Nat.reduceLeDiff, Nat.reduceLT, reduceCtorEq, Int.reduceLT, Int.reduceLE, Int.reduceEq, Int.reduceBEq, Int.reduceSub, Int.reduceAdd, Int.reduceMul, Int.reduceNeg, Int.reduceToNat, Nat.reduceMul, Nat.reduceBEq, h]
      · rw [if_neg h] at h2
        obtain ⟨rfl, h3⟩ := h2
        simp only [go_sem, reduceIte, Nat.reduceEqDiff, Nat.reduceAdd, Nat.reduceSub, Nat.reduceLeDiff, Nat.reduceLT, reduceCtorEq, Int.reduceLT, Int.reduceLE, Int.reduceEq, Int.reduceBEq, Int.reduceSub, Int.reduceAdd, Int.reduceMul, Int.reduceNeg, Int.reduceToNat, Nat.reduceMul, Nat.reduceBEq, h3]


theorem run_args {f : FuncId} {fn : IF} (hf : L.fns f = some fn) (hp : L.pure f = true) {args args' : List AV} (st : St) (h : pubs args = pubs args') : run L f args st = run L f args' st := by
  rw [run_pure hf hp, run_pure hf hp, h]
/-! ### a book by numbers -/
abbrev B8 (n : Int) : AV := .v (.int .u8 n)
def Byte (n : Int) : Prop := 0 ≤ n ∧ n ≤ 255
abbrev qAV (zs : List Int) : AV := .agg (zs.map B8)
theorem okRefsB (n : Nat) (xs : List Int) : okRefs n (xs.map B8) = true := okRefs_map B8 n (fun _ => rfl) xs
theorem renCellsB (n : Nat) (tips : List Nat) (acc : List (Nat × Nat)) (xs : List Int) : renCells n tips acc (xs.map B8) = (xs.map B8, acc) := renCells_map B8 n tips (fun _ _ => rfl) xs acc
theorem pubsB (xs : List Int) : pubs (xs.map B8) = xs.map B8 := pubs_map B8 (fun _ => rfl) xs
theorem storableB (xs : List Int) : (xs.map B8).all storable = true := by
  rw [List.all_eq_true]; intro x hx; rw [List.mem_map] at hx; obtain ⟨n, _, rfl⟩ := hx; rfl
theorem getB (zs : List Int) (a : Nat) (h : a < zs.length) : (zs.map B8)[a]? = some (B8 (zs.getD a 0)) := by
  rw [getm B8 zs 0 a, if_pos h]
theorem byte_getD {l : List Int} (h : ∀ n ∈ l, Byte n) (i : Nat) : Byte (l.getD i 0) := by
  rw [List.getD_eq_getElem?_getD]
  by_cases hi : i < l.length
  · rw [List.getElem?_eq_getElem hi]; exact h _ (List.getElem_mem hi)
  · rw [List.getElem?_eq_none (by omega)]; exact ⟨by simp, by simp⟩
theorem mod_range (a b : Int) (hb : 0 < b) : 0 ≤ a % b ∧ a % b < b := ⟨Int.emod_nonneg a (by omega), Int.emod_lt_of_pos a hb⟩

/-! ### a list of pairs that grows in a struct -/
def outAV (o : List (Int × Int)) : AV := loc 2 0 (o.map prAV)
def outT (o : List (Int × Int)) : List Nat := locT 0 (o.map prAV)
def outAcc (o : List (Int × Int)) : List (Nat × Nat) := if (o.map prAV).length = 0 then [] else [(0, (o.map prAV).length)]
theorem okRef_out (n : Nat) (o : List (Int × Int)) : okRef n (outAV o) = true := okRef_loc _ _ _ _
theorem storable_out (o : List (Int × Int)) : storable (outAV o) = true := storable_loc _ _ _
theorem shaped_out (o : List (Int × Int)) : (outAV o).shaped = true := shaped_loc _ _ _
theorem cells_out (o : List (Int × Int)) : (outAV o).cells = [outAV o] := cells_loc _ _ _
theorem ren1_out (o : List (Int × Int)) : ren1 0 (outT o) [] (outAV o) = (outAV o, outAcc o) := ren1_loc (k := 0) 2 (o.map prAV)
theorem outAcc_snd (o : List (Int × Int)) : (outAcc o).map (fun x => x.2) = outT o := by
  unfold outAcc outT locT; split <;> rfl
theorem fin_out (st : St) (o : List (Int × Int)) : fin st (outAV o) = sl 2 true (o.map prAV) := fin_loc st 2 0 _
theorem pub_out (o : List (Int × Int)) : pub (outAV o) = sl 2 true (o.map prAV) := pub_loc 2 0 _
theorem append_out (o : List (Int × Int)) (x y : Int) (s : List (List AV)) (h : o.length < 1000) : appendAV 2 (outAV o) [.agg [I x, I y]] ⟨s, outT o⟩ = some (outAV (o ++ [(x, y)]), ⟨s, outT (o ++ [(x, y)])⟩) :=
  append_locm (z := 2) (k := 0) prAV o (x, y) s (by omega) (by unfold maxGrow; omega)
theorem out_start : .v (.slice none 0 0) = outAV [] := rfl
theorem outT_nil : outT [] = [] := rfl
attribute [local go_sem] okRef_out storable_out shaped_out cells_out fin_out pub_out

/-- One more pair, if it is one and not there yet. -/
def mkStep (n : Int) (out : List (Int × Int)) (a b : Int) : List (Int × Int) :=
  if a % n ≠ b % n ∧ (a % n, b % n) ∉ out then out ++ [(a % n, b % n)] else out
def madeTo (n : Int) (zs : List Int) : Nat → List (Int × Int)
  | 0 => []
  | k + 1 => mkStep n (madeTo n zs k) (zs.getD (2 + k * 2) 0) (zs.getD (3 + k * 2) 0)
theorem madeTo_len (n : Int) (zs : List Int) : ∀ k, (madeTo n zs k).length ≤ k
  | 0 => by simp [madeTo]
  | k + 1 => by
    have := madeTo_len n zs k
    simp only [madeTo, mkStep]; split
    · simp; omega
    · omega
theorem tmod8 {a n : Int} (h : 0 ≤ a) : a.tmod n = a % n := Int.tmod_eq_emod_of_nonneg h

theorem loop45 (zs : List Int) (hzl : zs.length = 34) (hz : ∀ a ∈ zs, Byte a) (n : Int) (hn : 1 ≤ n ∧ n ≤ 7) (k : Nat) (hk : k ≤ 16) (i : Nat) (hok : i ≤ k) (env : Env) (st : St)
    (hg : gcAV true 3 0 (canon env [4, 5, 21, 22, 23]) st = ([(4, .ptr 1 0), (5, .ptr 2 0), (21, .rsl 0 2 k 16 2 true), (22, I k), (23, I i)], ⟨[zs.map B8, [I 0, sl 2 true []], [I n, outAV (madeTo n zs i)]], outT (madeTo n zs i)⟩)) :
    ∃ x_1 en s, lim (headed pure (run L) true [4, 5, 21, 22, 23] lp45_0 3 0) env st = some (x_1, en, s) ∧ (x_1 = .exit 0 ∧ en.get 4 = .ptr 1 0 ∧ en.get 5 = .ptr 2 0 ∧ s = ⟨[zs.map B8, [I 0, sl 2 true []], [I n, outAV (madeTo n zs k)]], outT (madeTo n zs k)⟩) := by
  refine loop_wp (α := Nat) (fun i => k - i) (fun i => i ≤ k) (fun i => ([(4, .ptr 1 0), (5, .ptr 2 0), (21, .rsl 0 2 k 16 2 true), (22, I k), (23, I i)], ⟨[zs.map B8, [I 0, sl 2 true []], [I n, outAV (madeTo n zs i)]], outT (madeTo n zs i)⟩)) (fun i x_1 en s => x_1 = .exit 0 ∧ en.get 4 = .ptr 1 0 ∧ en.get 5 = .ptr 2 0 ∧ s = ⟨[zs.map B8, [I 0, sl 2 true []], [I n, outAV (madeTo n zs k)]], outT (madeTo n zs k)⟩) (fun i hok => ?_) i hok env st hg
  by_cases h : i < k
  · have hs := succ64 i (by omega)
    have hlt : ((i : Int) < (k : Int)) = True := eq_true (by omega)
    have hi0 : ((0 : Int) ≤ (i : Int)) = True := eq_true (by omega)
    have hml := madeTo_len n zs i
    have hb1 : (2 + i * 2 + 2 ≤ 34) = True := eq_true (by omega)
    have hpair : ((zs.map B8).drop (2 + i * 2)).take 2 = [B8 (zs.getD (2 + i * 2) 0), B8 (zs.getD (3 + i * 2) 0)] := by
      have h1 : 2 + i * 2 < zs.length := by omega
      have h2 : 2 + i * 2 + 1 < zs.length := by omega
      have hd : zs.drop (2 + i * 2) = zs[2 + i * 2] :: zs[2 + i * 2 + 1] :: zs.drop (2 + i * 2 + 1 + 1) := by
        rw [List.drop_eq_getElem_cons h1, List.drop_eq_getElem_cons h2]
      have e1 : zs.getD (2 + i * 2) 0 = zs[2 + i * 2] := by rw [List.getD_eq_getElem?_getD, List.getElem?_eq_getElem h1]; rfl
      have e2 : zs.getD (3 + i * 2) 0 = zs[2 + i * 2 + 1] := by rw [show 3 + i * 2 = 2 + i * 2 + 1 by omega, List.getD_eq_getElem?_getD, List.getElem?_eq_getElem h2]; rfl
      rw [← List.map_drop, hd, e1, e2]
      rfl
    have ba := byte_getD hz (2 + i * 2)
    have bb := byte_getD hz (3 + i * 2)
    have hsucc : madeTo n zs (i + 1) = mkStep n (madeTo n zs i) (zs.getD (2 + i * 2) 0) (zs.getD (3 + i * 2) 0) := rfl
    generalize zs.getD (2 + i * 2) 0 = a at *
    generalize zs.getD (3 + i * 2) 0 = b at *
    unfold Byte at ba bb
    have wa := wrap64 a (by omega) (by omega)
    have wb := wrap64 b (by omega) (by omega)
    have zn : (n = 0) = False := eq_false (by omega)
    have ta : a.tmod n = a % n := tmod8 (by omega)
    have tb : b.tmod n = b % n := tmod8 (by omega)
    have ra := mod_range a n (by omega)
    have rb := mod_range b n (by omega)
    generalize madeTo n zs i = out at *
    have h49 : ∀ st, run L 49 [outAV out, .agg [I (a % n), I (b % n)]] st = some (B (decide ((a % n, b % n) ∈ out)), st) := fun st => by
      rw [← c49 true out (by omega) (a % n) (b % n) st]
      exact run_args (fn := ir49) rfl rfl st (by simp only [pubs, pub_out, pub_sl])
    have happ := fun s => append_out out (a % n) (b % n) s (by omega)
    unfold mkStep at hsucc
    generalize a % n = x at *
    generalize b % n = y at *
    by_cases p1 : x = y
    · rw [if_neg (by simp [p1])] at hsucc
      have p1' : (x = y) = True := eq_true p1
      simp only [go_sem, reduceIte, Nat.reduceEqDiff, Nat.reduceAdd, Nat.reduceSub, Nat.reduceLeDiff, Nat.reduceLT, reduceCtorEq, Int.reduceLT, Int.reduceLE, Int.reduceEq, Int.reduceBEq, Int.reduceSub, Int.reduceAdd, Int.reduceMul, Int.reduceNeg, Int.reduceToNat, Nat.reduceMul, Nat.reduceBEq, index_rsl_if, setm, make_ints, condK_dec, wantK_dec, not_dec, and_dec, or_dec, seqK_ite, seqK_none, blockK_ite, blockK_none, opsK_ite, opsK_none, stepK_ite, stepK_none, bodyK_ite, bodyK_none, resK_ite, resK_none, leaveK_ite, leaveK_none, only_ite, only_none, bind_ite, gives_some, gives_none, gives_ite, then_normal, then_ret, then_exit, then_none, then_ite, Option.bind_none, Bool.not_eq_true', decide_eq_false_iff_not, Bool.and_eq_true, Bool.or_eq_true, Option.some.injEq, Int.not_lt, Int.not_le, lp45_0, hlt, hi0, hs, hb1, hpair, hzl, wa, wb, zn, ta, tb, p1', List.length_map]
      refine ⟨i + 1, by simp only [go_sem, reduceIte, Nat.reduceEqDiff, Nat.reduceAdd, Nat.reduceSub, Nat.reduceLeDiff, Nat.reduceLT, reduceCtorEq, Int.reduceLT, Int.reduceLE, Int.reduceEq, Int.reduceBEq, Int.reduceSub, Int.reduceAdd, Int.reduceMul, Int.reduceNeg, Int.reduceToNat, Nat.reduceMul, Nat.reduceBEq, ren1_locm, loc_tips, locT_eq, hsucc, ren1_out, outAcc_snd, okRefsB, renCellsB] <;> rfl, ?_, ?_, fun x en s hq => ?_⟩
      · omega
      · omega
      · exact hq
    · by_cases p2 : (x, y) ∈ out
      · rw [if_neg (by simp [p2])] at hsucc
        simp only [go_sem, reduceIte, Nat.reduceEqDiff, Nat.reduceAdd, Nat.reduceSub, Nat.reduceLeDiff, Nat.reduceLT, reduceCtorEq, Int.reduceLT, Int.reduceLE, Int.reduceEq, Int.reduceBEq, Int.reduceSub, Int.reduceAdd, Int.reduceMul, Int.reduceNeg, Int.reduceToNat, Nat.reduceMul, Nat.reduceBEq, index_rsl_if, setm, make_ints, condK_dec, wantK_dec, not_dec, and_dec, or_dec, seqK_ite, seqK_none, blockK_ite, blockK_none, opsK_ite, opsK_none, stepK_ite, stepK_none, bodyK_ite, bodyK_none, resK_ite, resK_none, leaveK_ite, leaveK_none, only_ite, only_none, bind_ite, gives_some, gives_none, gives_ite, then_normal, then_ret, then_exit, then_none, then_ite, Option.bind_none, Bool.not_eq_true', decide_eq_false_iff_not, Bool.and_eq_true, Bool.or_eq_true, Option.some.injEq, Int.not_lt, Int.not_le, lp45_0, hlt, hi0, hs, hb1, hpair, hzl, wa, wb, zn, ta, tb, p1, h49, p2, List.length_map]
        refine ⟨i + 1, by simp only [go_sem, reduceIte, Nat.reduceEqDiff, Nat.reduceAdd, Nat.reduceSub, Nat.reduceLeDiff, Nat.reduceLT, reduceCtorEq, Int.reduceLT, Int.reduceLE, Int.reduceEq, Int.reduceBEq, Int.reduceSub, Int.reduceAdd, Int.reduceMul, Int.reduceNeg, Int.reduceToNat, Nat.reduceMul, Nat.reduceBEq, ren1_locm, loc_tips, locT_eq, hsucc, ren1_out, outAcc_snd, okRefsB, renCellsB] <;> rfl, ?_, ?_, fun x en s hq => ?_⟩
        · omega
        · omega
        · exact hq
      · rw [if_pos ⟨p1, p2⟩] at hsucc
        simp only [go_sem, reduceIte, Nat.reduceEqDiff, Nat.reduceAdd, Nat.reduceSub, Nat.reduceLeDiff, Nat.reduceLT, reduceCtorEq, Int.reduceLT, Int.reduceLE, Int.reduceEq, Int.reduceBEq, Int.reduceSub, Int.reduceAdd, Int.reduceMul, Int.reduceNeg, Int.reduceToNat, Nat.reduceMul, Nat.reduceBEq, index_rsl_if, setm, make_ints, condK_dec, wantK_dec, not_dec, and_dec, or_dec, seqK_ite, seqK_none, blockK_ite, blockK_none, opsK_ite, opsK_none, stepK_ite, stepK_none, bodyK_ite, bodyK_none, resK_ite, resK_none, leaveK_ite, leaveK_none, only_ite, only_none, bind_ite, gives_some, gives_none, gives_ite, then_normal, then_ret, then_exit, then_none, then_ite, Option.bind_none, Bool.not_eq_true', decide_eq_false_iff_not, Bool.and_eq_true, Bool.or_eq_true, Option.some.injEq, Int.not_lt, Int.not_le, lp45_0, hlt, hi0, hs, hb1, hpair, hzl, wa, wb, zn, ta, tb, p1, h49, p2, happ, List.length_map]
        refine ⟨i + 1, by simp only [go_sem, reduceIte, Nat.reduceEqDiff, Nat.reduceAdd, Nat.reduceSub, Nat.reduceLeDiff, Nat.reduceLT, reduceCtorEq, Int.reduceLT, Int.reduceLE, Int.reduceEq, Int.reduceBEq, Int.reduceSub, Int.reduceAdd, Int.reduceMul, Int.reduceNeg, Int.reduceToNat, Nat.reduceMul, Nat.reduceBEq, ren1_locm, loc_tips, locT_eq, hsucc, ren1_out, outAcc_snd, okRefsB, renCellsB] <;> rfl, ?_, ?_, fun x en s hq => ?_⟩
        · omega
        · omega
        · exact hq
  · obtain rfl : i = k := by omega
    simp only [go_sem, reduceIte, Nat.reduceEqDiff, Nat.reduceAdd, Nat.reduceSub, Nat.reduceLeDiff, Nat.reduceLT, reduceCtorEq, Int.reduceLT, Int.reduceLE, Int.reduceEq, Int.reduceBEq, Int.reduceSub, Int.reduceAdd, Int.reduceMul, Int.reduceNeg, Int.reduceToNat, Nat.reduceMul, Nat.reduceBEq, index_rsl_if, setm, make_ints, condK_dec, wantK_dec, not_dec, and_dec, or_dec, seqK_ite, seqK_none, blockK_ite, blockK_none, opsK_ite, opsK_none, stepK_ite, stepK_none, bodyK_ite, bodyK_none, resK_ite, resK_none, leaveK_ite, leaveK_none, only_ite, only_none, bind_ite, gives_some, gives_none, gives_ite, then_normal, then_ret, then_exit, then_none, then_ite, Option.bind_none, Bool.not_eq_true', decide_eq_false_iff_not, Bool.and_eq_true, Bool.or_eq_true, Option.some.injEq, Int.not_lt, Int.not_le, lp45_0, show ((i : Int) < (i : Int)) = False from eq_false (by omega)]

def madeN (most : Int) (zs : List Int) : Int := 1 + zs.getD 0 0 % most
def madeP (most : Int) (zs : List Int) : List (Int × Int) := madeTo (madeN most zs) zs (zs.getD 1 0 % 17).toNat

theorem c45 (zs : List Int) (hzl : zs.length = 34) (hz : ∀ a ∈ zs, Byte a) (most : Int) (hl : most = 6 ∨ most = 7) (st : St) :
    run L 45 [qAV zs, I most] st = some (bkAV true (madeN most zs) (madeP most zs), st) := by
  rw [run_pure (fn := ir45) rfl rfl]
  have b0 := byte_getD hz 0
  have b1 := byte_getD hz 1
  have g0 := getB zs 0 (by omega)
  have g1 := getB zs 1 (by omega)
  unfold madeP
  have hN : madeN most zs = 1 + zs.getD 0 0 % most := rfl
  generalize zs.getD 0 0 = a at *
  generalize zs.getD 1 0 = b at *
  unfold Byte at b0 b1
  have ra := mod_range a most (by omega)
  have rb := mod_range b 17 (by omega)
  have wa := wrap64 a (by omega) (by omega)
  have wb := wrap64 b (by omega) (by omega)
  have z8 : (most = 0) = False := eq_false (by omega)
  have ta : a.tmod most = a % most := tmod8 (by omega)
  have tb : b.tmod 17 = b % 17 := tmod8 (by omega)
  have wn : IntKind.i64.wrap (1 + a % most) = madeN most zs := by rw [hN, wrap64] <;> omega
  have hn : 1 ≤ madeN most zs ∧ madeN most zs ≤ 7 := by omega
  obtain ⟨k, hk⟩ := Int.eq_ofNat_of_zero_le rb.1
  rw [hk, Int.toNat_natCast]
  have hk10 : k ≤ 16 := by omega
  have hsl : sliceaAV 16 2 true (.ptr 0 2) none (some (.v (.int .i64 (k : Int)))) none = some (.rsl 0 2 k 16 2 true) := by
    simp only [sliceaAV, natOr, natOf]
    simp; omega
  generalize madeN most zs = n at *
  simp only [ir45, go_sem, reduceIte, Nat.reduceEqDiff, Nat.reduceAdd, Nat.reduceSub, Nat.reduceLeDiff, Nat.reduceLT, reduceCtorEq, Int.reduceLT, Int.reduceLE, Int.reduceEq, Int.reduceBEq, Int.reduceSub, Int.reduceAdd, Int.reduceMul, Int.reduceNeg, Int.reduceToNat, Nat.reduceMul, Nat.reduceBEq, okRefsB, renCellsB, pubsB, storableB, g0, g1, wa, wb, z8, ta, tb, hk, wn, hsl, hzl, List.length_map]
  generalize hg : lim (headed pure (run L) true _ lp45_0 _ _) _ _ = o
  obtain ⟨x, en, s, rfl, h2⟩ : ∃ x en s, o = some (x, en, s) ∧ _ := by rw [← hg]; exact loop45 zs hzl hz n hn k hk10 0 (by omega) _ _ (by simp only [go_sem, reduceIte, Nat.reduceEqDiff, Nat.reduceAdd, Nat.reduceSub, Nat.reduceLeDiff, Nat.reduceLT, reduceCtorEq, Int.reduceLT, Int.reduceLE, Int.reduceEq, Int.reduceBEq, Int.reduceSub, Int.reduceAdd, Int.reduceMul, Int.reduceNeg, Int.reduceToNat, Nat.reduceMul, Nat.reduceBEq, okRefsB, renCellsB, madeTo, out_start, outT_nil, ren1_out, outAcc_snd, Int.natCast_zero] <;> rfl)
  clear hg
  obtain ⟨rfl, h4, h5, rfl⟩ := h2
  simp only [go_sem, reduceIte, Nat.reduceEqDiff, Nat.reduceAdd, Nat.reduceSub, Nat.reduceLeDiff, Nat.reduceLT, reduceCtorEq, Int.reduceLT, Int.reduceLE, Int.reduceEq, Int.reduceBEq, Int.reduceSub, Int.reduceAdd, Int.reduceMul, Int.reduceNeg, Int.reduceToNat, Nat.reduceMul, Nat.reduceBEq, h4, h5]


abbrev U (n : Nat) : AV := .v (.int .u64 n)
theorem wrapU (n : Nat) (h : n < 2 ^ 64) : IntKind.u64.wrap (n : Int) = n := by
  simp [IntKind.wrap, IntKind.bits, IntKind.signed]; omega
theorem shrU (m p : Nat) (h : p < 64) : Int.fdiv (m : Int) (2 ^ min p 64) = ((m >>> p : Nat) : Int) := by
  have e : min p 64 = p := by omega
  have e2 : ((2 : Int) ^ p) = ((2 ^ p : Nat) : Int) := by simp
  rw [e, e2, Int.fdiv_eq_ediv_of_nonneg _ (Int.natCast_nonneg _), Nat.shiftRight_eq_div_pow]
  simp
theorem and_one (n : Nat) : binAV .and none (.v (.int .u64 (n : Int))) (.v (.int .u64 1)) = some (.v (.int .u64 ((n % 2 : Nat) : Int))) := by
  have h : (BitVec.ofInt 64 (n : Int) &&& BitVec.ofInt 64 1).toNat = n % 2 := by
    rw [BitVec.toNat_and]
    have : (BitVec.ofInt 64 1).toNat = 1 := by decide
    rw [this, Nat.and_one_is_mod, BitVec.ofInt_natCast, BitVec.toNat_ofNat]
    omega
  show some (AV.v (.int .u64 (IntKind.u64.wrap ((BitVec.ofInt 64 (n : Int) &&& BitVec.ofInt 64 1).toNat : Int)))) = _
  rw [h, wrapU _ (by omega)]
theorem shr_u (m p : Nat) : binAV .shr none (.v (.int .u64 (m : Int))) (.v (.int .i64 (p : Int))) = some (.v (.int .u64 ((m >>> min p 64 : Nat) : Int))) := by
  have e := shrU m (min p 64)
  show (if (p : Int) < 0 then none else some (AV.v (.int .u64 (Int.fdiv (m : Int) (2 ^ min (Int.toNat (p : Int)) 64))))) = _
  rw [if_neg (by omega), Int.toNat_natCast]
  have e2 : ((2 : Int) ^ (min p 64)) = ((2 ^ (min p 64) : Nat) : Int) := by simp
  rw [e2, Int.fdiv_eq_ediv_of_nonneg _ (Int.natCast_nonneg _), Nat.shiftRight_eq_div_pow]
  simp
theorem min64 (p : Nat) (h : p < 64) : min p 64 = p := by omega
attribute [local go_sem high] and_one shr_u
def okP (p : Int × Int) : Prop := 0 ≤ p.1 ∧ p.1 < 7 ∧ 0 ≤ p.2 ∧ p.2 < 7
theorem run_any' {f : FuncId} {fn : IF} (hf : L.fns f = some fn) (hp : L.pure f = true) {args : List AV} {st0 st1 : St} {r : AV} (h : run L f args st0 = some (r, st1)) (st : St) : run L f args st = some (r, st) := by
  rw [run_pure hf hp] at h ⊢
  unfold leaveK at h ⊢
  split at h
  · simp only [leave, Option.some.injEq, Prod.mk.injEq] at h ⊢
    exact ⟨h.1, trivial⟩
  · simp at h
theorem all_of {α : Type} {f g : Nat → α} {k : Nat} (h : (List.range k).map f = (List.range k).map g) (m : Nat) (hm : m < k) : f m = g m := by
  have := congrArg (fun l : List α => l[m]?) h
  simpa [hm] using this
def memb (m : Nat) : List Int := ((List.range 7).filter m.testBit).map fun (i : Nat) => (i : Int)
def sh1 (p : Nat) : Nat := 2 ^ min p 64 % 2 ^ 64
theorem sh1_eq (p : Nat) (h : p < 64) : sh1 p = 2 ^ p := by
  unfold sh1; rw [show min p 64 = p by omega]
  exact Nat.mod_eq_of_lt (Nat.pow_lt_pow_right (by omega) h)
theorem shl_one (p : Nat) : binAV .shl none (.v (.int .u64 1)) (.v (.int .i64 (p : Int))) = some (.v (.int .u64 ((sh1 p : Nat) : Int))) := by
  show (if (p : Int) < 0 then none else some (AV.v (.int .u64 (IntKind.u64.wrap (1 * (2 ^ (min (Int.toNat (p : Int)) 64)))))) ) = _
  rw [if_neg (by omega), Int.toNat_natCast]
  have e2 : (1 : Int) * ((2 : Int) ^ (min p 64)) = ((2 ^ (min p 64) : Nat) : Int) := by simp
  rw [e2]
  simp only [sh1, IntKind.wrap, IntKind.bits, IntKind.signed]
  simp
theorem succU (m : Nat) (h : m < 1000000) : IntKind.u64.wrap ((m : Int) + 1) = ((m + 1 : Nat) : Int) := by
  have := wrapU (m + 1) (by omega)
  simpa using this
def orU (a b : Nat) : Nat := a % 2 ^ 64 ||| b % 2 ^ 64
theorem or_u (a b : Nat) : binAV .or none (.v (.int .u64 (a : Int))) (.v (.int .u64 (b : Int))) = some (.v (.int .u64 ((orU a b : Nat) : Int))) := by
  have h : (BitVec.ofInt 64 (a : Int) ||| BitVec.ofInt 64 (b : Int)).toNat = orU a b := by
    rw [BitVec.toNat_or]; simp [BitVec.ofInt_natCast, orU]
  show some (AV.v (.int .u64 (IntKind.u64.wrap ((BitVec.ofInt 64 (a : Int) ||| BitVec.ofInt 64 (b : Int)).toNat : Int)))) = _
  rw [h, wrapU]
  unfold orU
  exact Nat.or_lt_two_pow (Nat.mod_lt _ (by decide)) (Nat.mod_lt _ (by decide))
theorem orU_eq (a b : Nat) (ha : a < 128) (hb : b < 128) : orU a b = a ||| b := by
  unfold orU; rw [Nat.mod_eq_of_lt (by omega), Nat.mod_eq_of_lt (by omega)]
def andN (a b : Nat) : Nat := a % 2 ^ 64 &&& b % 2 ^ 64
theorem and_u (a b : Nat) : binAV .and none (.v (.int .u64 (a : Int))) (.v (.int .u64 (b : Int))) = some (.v (.int .u64 ((andN a b : Nat) : Int))) := by
  have h : (BitVec.ofInt 64 (a : Int) &&& BitVec.ofInt 64 (b : Int)).toNat = andN a b := by
    rw [BitVec.toNat_and]; simp [BitVec.ofInt_natCast, andN]
  show some (AV.v (.int .u64 (IntKind.u64.wrap ((BitVec.ofInt 64 (a : Int) &&& BitVec.ofInt 64 (b : Int)).toNat : Int)))) = _
  rw [h, wrapU]
  unfold andN
  exact Nat.lt_of_le_of_lt Nat.and_le_left (Nat.mod_lt _ (by decide))
theorem andN_eq (a b : Nat) (ha : a < 128) (hb : b < 128) : andN a b = a &&& b := by
  unfold andN; rw [Nat.mod_eq_of_lt (by omega), Nat.mod_eq_of_lt (by omega)]
def orAt (o : List Nat) (i b : Nat) : List Nat := o.set i (o.getD i 0 ||| 2 ^ b)
theorem orAt_len (o : List Nat) (i b : Nat) : (orAt o i b).length = o.length := by simp [orAt]
def tzN (m : Nat) : Nat := ((List.range 7).find? m.testBit).getD 64
def dfN (a b : Nat) : Nat := a &&& (127 - b)
theorem dfN_bit {a b : Nat} (hb : b < 128) (i : Nat) : (dfN a b).testBit i = (a.testBit i && (decide (i < 7) && !b.testBit i)) := by
  unfold dfN
  rw [Nat.testBit_and, show 127 - b = 2 ^ 7 - (b + 1) from by omega, Nat.testBit_two_pow_sub_succ hb]
theorem dfN_lt {a b : Nat} (ha : a < 128) : dfN a b < 128 := Nat.lt_of_le_of_lt Nat.and_le_left ha
theorem tz_spec {m : Nat} (hm : m < 128) (h : m ≠ 0) : tzN m < 7 ∧ m.testBit (tzN m) = true := by
  have hk : ∀ k : Fin 128, k.val ≠ 0 → tzN k.val < 7 ∧ k.val.testBit (tzN k.val) = true := by decide
  exact hk ⟨m, hm⟩ h
theorem dfU_eq (a b : Nat) (ha : a < 128) (hb : b < 128) : binAV .andNot none (.v (.int .u64 (a : Int))) (.v (.int .u64 (b : Int))) = some (.v (.int .u64 ((dfN a b : Nat) : Int))) := by
  have e : (BitVec.ofInt IntKind.u64.bits (a : Int) &&& ~~~BitVec.ofInt IntKind.u64.bits (b : Int)).toNat = dfN a b := by
    show (BitVec.ofInt 64 (a : Int) &&& ~~~BitVec.ofInt 64 (b : Int)).toNat = dfN a b
    rw [BitVec.toNat_and, BitVec.toNat_not, BitVec.toNat_ofInt, BitVec.toNat_ofInt]
    have ea : ((a : Int) % ((2 ^ 64 : Nat) : Int)).toNat = a := by omega
    have eb : ((b : Int) % ((2 ^ 64 : Nat) : Int)).toNat = b := by omega
    rw [ea, eb]
    apply Nat.eq_of_testBit_eq
    intro i
    rw [dfN_bit hb, Nat.testBit_and, show 2 ^ 64 - 1 - b = 2 ^ 64 - (b + 1) from by omega, Nat.testBit_two_pow_sub_succ (by omega : b < 2 ^ 64)]
    by_cases h : i < 7
    · simp [h, show i < 64 by omega]
    · have : a.testBit i = false := Nat.testBit_lt_two_pow (Nat.lt_of_lt_of_le ha (Nat.pow_le_pow_right (n := 2) (by decide) (Nat.le_of_not_lt h)))
      rw [this]; simp
  show some (AV.v (.int .u64 (IntKind.u64.wrap ((BitVec.ofInt IntKind.u64.bits (a : Int) &&& ~~~BitVec.ofInt IntKind.u64.bits (b : Int)).toNat : Int)))) = _
  rw [e, wrapU _ (by have := dfN_lt (a := a) (b := b) ha; omega)]
theorem okRefsU (n : Nat) (xs : List Nat) : okRefs n (xs.map U) = true := okRefs_map U n (fun _ => rfl) xs
theorem renCellsU (n : Nat) (tips : List Nat) (acc : List (Nat × Nat)) (xs : List Nat) : renCells n tips acc (xs.map U) = (xs.map U, acc) := renCells_map U n tips (fun _ _ => rfl) xs acc
theorem pubsU (xs : List Nat) : pubs (xs.map U) = xs.map U := pubs_map U (fun _ => rfl) xs
theorem getU (o : List Nat) (a : Nat) (h : a < o.length) : (o.map U)[a]? = some (U (o.getD a 0)) := by
  rw [getm U o 0 a, if_pos h]
theorem frzV_v (l : Nat) (cs : List AV) (x : Value) : frzV l cs (.v x) = .v x := by simp only [frzV]
theorem frzV_ptr (l : Nat) (cs : List AV) (i o : Nat) : frzV l cs (.ptr i o) = .ptr i o := by simp only [frzV]
theorem frzV_agg (l : Nat) (cs : List AV) (xs : List AV) : frzV l cs (.agg xs) = .agg (frzVs l cs xs) := by simp only [frzV]
theorem frzV_tup (l : Nat) (cs : List AV) (xs : List AV) : frzV l cs (.tup xs) = .tup (frzVs l cs xs) := by simp only [frzV]
theorem frzV_any (l : Nat) (cs : List AV) : frzV l cs .any = .any := by simp only [frzV]
theorem frzVs_kind (l : Nat) (cs : List AV) {β : Type} (f : β → Value) (xs : List β) : frzVs l cs (xs.map fun b => .v (f b)) = xs.map fun b => .v (f b) := by
  induction xs with
  | nil => rfl
  | cons x r ih => simp only [List.map_cons, frzVs, frzV, ih]
theorem frzVs_U (l : Nat) (cs : List AV) (xs : List Nat) : frzVs l cs (xs.map U) = xs.map U := frzVs_kind l cs (fun (n : Nat) => Value.int .u64 (n : Int)) xs
theorem frzV_sl (l : Nat) (cs : List AV) (z : Nat) (nl : Bool) (xs : List AV) : frzV l cs (sl z nl xs) = sl z nl xs := by
  cases xs with
  | nil => cases nl <;> rfl
  | cons x r => rw [sl_ne (by simp)]; simp only [frzV]
theorem refsV_sl (n : Nat) (acc : List Nat) (z : Nat) (nl : Bool) (xs : List AV) : refsV n acc (sl z nl xs) = acc := by
  cases xs with
  | nil => cases nl <;> rfl
  | cons x r => rw [sl_ne (by simp)]; simp only [refsV]
theorem mapL_sl (n : Nat) (M : List Nat) (z : Nat) (nl : Bool) (xs : List AV) : mapL n M (sl z nl xs) = sl z nl xs := by
  cases xs with
  | nil => cases nl <;> rfl
  | cons x r => rw [sl_ne (by simp)]; simp only [mapL]
theorem refsL_kind (n : Nat) {β : Type} (f : β → Value) : ∀ (xs : List β) (acc : List Nat), refsL n acc (xs.map fun b => .v (f b)) = acc
  | [], acc => rfl
  | x :: r, acc => by simp only [List.map_cons, refsL, refsV, refsL_kind n f r]
theorem mapLs_kind (n : Nat) (M : List Nat) {β : Type} (f : β → Value) : ∀ (xs : List β), mapLs n M (xs.map fun b => .v (f b)) = xs.map fun b => .v (f b)
  | [] => rfl
  | x :: r => by simp only [List.map_cons, mapLs, mapL, mapLs_kind n M f r]
theorem refsL_U (n : Nat) (xs : List Nat) (acc : List Nat) : refsL n acc (xs.map U) = acc := refsL_kind n (fun (n : Nat) => Value.int .u64 (n : Int)) xs acc
theorem mapLs_U (n : Nat) (M : List Nat) (xs : List Nat) : mapLs n M (xs.map U) = xs.map U := mapLs_kind n M (fun (n : Nat) => Value.int .u64 (n : Int)) xs
theorem len_seven {α : Type} {l : List α} (h : l.length = 7) : ∃ a b c d e f g, l = [a, b, c, d, e, f, g] := by
  match l, h with
  | [a, b, c, d, e, f, g], _ => exact ⟨a, b, c, d, e, f, g, rfl⟩
theorem sh1_lt (b : Nat) (h : b < 7) : sh1 b = 2 ^ b ∧ 2 ^ b < 128 := ⟨sh1_eq b (by omega), Nat.pow_lt_pow_right (by omega) (show b < 7 from h)⟩
theorem small_getD {o : List Nat} (h : ∀ x ∈ o, x < 128) (a : Nat) : o.getD a 0 < 128 := by
  rw [List.getD_eq_getElem?_getD]
  cases h2 : o[a]?
  · simp
  · exact h _ (List.mem_of_getElem? h2)
theorem orAt_small {o : List Nat} (h : ∀ x ∈ o, x < 128) {a b : Nat} (hb : b < 7) : ∀ x ∈ orAt o a b, x < 128 := by
  intro x hx
  unfold orAt at hx
  rcases List.mem_or_eq_of_mem_set hx with hx | rfl
  · exact h x hx
  · exact Nat.or_lt_two_pow (n := 7) (small_getD h a) (sh1_lt b hb).2
theorem storableU (xs : List Nat) : (xs.map U).all storable = true := by
  rw [List.all_eq_true]; intro x hx; rw [List.mem_map] at hx; obtain ⟨n, _, rfl⟩ := hx; rfl

/-! ### sets as signed numbers -/
theorem bit_one (m p : Nat) : ((((m >>> p) % 2 : Nat) : Int) = 1) = (m.testBit p = true) := by
  rw [Nat.testBit_eq_decide_div_mod_eq, Nat.shiftRight_eq_div_pow]
  generalize m / 2 ^ p = k
  have : k % 2 < 2 := Nat.mod_lt _ (by omega)
  rw [decide_eq_true_iff]
  exact propext (by omega)


/-! ### what each word sees -/
abbrev J (n : Nat) : AV := .v (.int .i64 (n : Int))
theorem okRefsJ (n : Nat) (xs : List Nat) : okRefs n (xs.map J) = true := okRefs_map J n (fun _ => rfl) xs
theorem renCellsJ (n : Nat) (tips : List Nat) (acc : List (Nat × Nat)) (xs : List Nat) : renCells n tips acc (xs.map J) = (xs.map J, acc) := renCells_map J n tips (fun _ _ => rfl) xs acc
theorem pubsJ (xs : List Nat) : pubs (xs.map J) = xs.map J := pubs_map J (fun _ => rfl) xs
theorem getJ (o : List Nat) (a : Nat) (h : a < o.length) : (o.map J)[a]? = some (J (o.getD a 0)) := by
  rw [getm J o 0 a, if_pos h]
def see1 (o : List Nat) (p : Int × Int) : List Nat := orAt o p.1.toNat p.2.toNat
def seeL (z : Nat) (ps : List (Int × Int)) : List Nat := ps.foldl see1 (List.replicate z 0)
theorem foldl_see_len : ∀ (ps : List (Int × Int)) (o : List Nat), (ps.foldl see1 o).length = o.length
  | [], o => rfl
  | p :: r, o => by rw [List.foldl_cons, foldl_see_len r]; exact orAt_len _ _ _
theorem foldl_see_small : ∀ (ps : List (Int × Int)) (o : List Nat), (∀ p ∈ ps, okP p) → (∀ x ∈ o, x < 128) → ∀ x ∈ ps.foldl see1 o, x < 128
  | [], o, _, h => h
  | p :: r, o, hp, h => by
    rw [List.foldl_cons]
    have h1 := hp p (by simp)
    unfold okP at h1
    exact foldl_see_small r _ (fun q hq => hp q (by simp [hq])) (orAt_small h (by omega))
theorem seeL_len (z : Nat) (ps : List (Int × Int)) : (seeL z ps).length = z := by unfold seeL; rw [foldl_see_len]; simp
theorem seeL_small (z : Nat) {ps : List (Int × Int)} (h : ∀ p ∈ ps, okP p) : ∀ x ∈ seeL z ps, x < 128 := foldl_see_small ps _ h (by simp)

attribute [local go_sem high] and_one shr_u shl_one or_u

def webC (n : Int) (o : List Nat) : List AV := I n :: o.map U
abbrev webAV (n : Int) (o : List Nat) : AV := .agg (webC n o)
theorem okRefsW (k : Nat) (n : Int) (o : List Nat) : okRefs k (webC n o) = true := by unfold webC; simp only [okRefs, okRefsU]; rfl
theorem renCellsW (k : Nat) (tips : List Nat) (acc : List (Nat × Nat)) (n : Int) (o : List Nat) : renCells k tips acc (webC n o) = (webC n o, acc) := by
  unfold webC; simp only [renCells, ren1, renCellsU]
theorem pubsW (n : Int) (o : List Nat) : pubs (webC n o) = webC n o := by unfold webC; simp only [pubs, pub, pubsU]
theorem storableW (n : Int) (o : List Nat) : (webC n o).all storable = true := by unfold webC; rw [List.all_cons, storableU]; rfl
theorem lenW (n : Int) (o : List Nat) : (webC n o).length = 1 + o.length := by simp [webC]; omega
theorem getW (n : Int) (o : List Nat) (a : Nat) (h : a < o.length) : (webC n o)[1 + a]? = some (U (o.getD a 0)) := by
  unfold webC; rw [Nat.add_comm, List.getElem?_cons_succ]; exact getU o a h
theorem getW0 (n : Int) (o : List Nat) : (webC n o)[0]? = some (I n) := rfl
theorem setW (n : Int) (o : List Nat) (a : Nat) (m : Nat) : (webC n o).set (1 + a) (U m) = webC n (o.set a m) := by
  unfold webC; rw [Nat.add_comm, List.set_cons_succ, List.map_set]
def w8 : List AV := [I 0, U 0, U 0, U 0, U 0, U 0, U 0, U 0]

theorem loop65 (nl : Bool) (n : Int) (ps : List (Int × Int)) (hlen : ps.length < 1000000) (h7 : ∀ p ∈ ps, okP p) (i : Nat) (o : List Nat) (hok : i ≤ ps.length ∧ o.length = 7 ∧ ∀ x ∈ o, x < 128) (env : Env) (st : St)
    (hg : gcAV true 3 0 (canon env [2, 4, 18, 19, 20]) st = ([(2, .ptr 1 0), (4, .ptr 2 0), (18, sl 2 nl (ps.map prAV)), (19, I ps.length), (20, I i)], ⟨[bkCells nl n ps, w8, webC n o], []⟩)) :
    ∃ x_1 en s, lim (headed pure (run L) true [2, 4, 18, 19, 20] lp65_0 3 0) env st = some (x_1, en, s) ∧ (x_1 = .exit 0 ∧ en.get 2 = .ptr 1 0 ∧ en.get 4 = .ptr 2 0 ∧ s = ⟨[bkCells nl n ps, w8, webC n ((ps.drop i).foldl see1 o)], []⟩ ∧ ((ps.drop i).foldl see1 o).length = 7) := by
  refine loop_wp (α := Nat × List Nat) (fun ⟨i, o⟩ => ps.length - i) (fun ⟨i, o⟩ => i ≤ ps.length ∧ o.length = 7 ∧ ∀ x ∈ o, x < 128) (fun ⟨i, o⟩ => ([(2, .ptr 1 0), (4, .ptr 2 0), (18, sl 2 nl (ps.map prAV)), (19, I ps.length), (20, I i)], ⟨[bkCells nl n ps, w8, webC n o], []⟩)) (fun ⟨i, o⟩ x_1 en s => x_1 = .exit 0 ∧ en.get 2 = .ptr 1 0 ∧ en.get 4 = .ptr 2 0 ∧ s = ⟨[bkCells nl n ps, w8, webC n ((ps.drop i).foldl see1 o)], []⟩ ∧ ((ps.drop i).foldl see1 o).length = 7) (fun ⟨i, o⟩ hok => ?_) ⟨i, o⟩ hok env st hg
  simp only at hok
  obtain ⟨h1, h2, h3⟩ := hok
  dsimp only
  by_cases h : i < ps.length
  · have hx := index_prs nl ps i h
    have hs := succ64 i (by omega)
    have hd : ps.drop i = ps[i] :: ps.drop (i + 1) := List.drop_eq_getElem_cons h
    have hp := h7 ps[i] (List.getElem_mem h)
    rw [hd, List.foldl_cons]
    generalize ps[i] = c at *
    obtain ⟨u, v⟩ := c
    obtain ⟨a1, a2, a3, a4⟩ := hp
    simp only at a1 a2 a3 a4 hx
    obtain ⟨u, rfl⟩ := Int.eq_ofNat_of_zero_le a1
    obtain ⟨v, rfl⟩ := Int.eq_ofNat_of_zero_le a3
    have hlt : ((i : Int) < (ps.length : Int)) = True := eq_true (by omega)
    have hu : u < 7 := by omega
    have hv : v < 7 := by omega
    have e1 : orU (o.getD u 0) (sh1 v) = o.getD u 0 ||| 2 ^ v := by rw [(sh1_lt v hv).1, orU_eq _ _ (small_getD h3 u) (sh1_lt v hv).2]
    have hs1 := orAt_small h3 (a := u) hv
    have hl1 := orAt_len o u v
    have g1 := getW n o u (by omega)
    have hset1 : (webC n o).set (1 + u) (U (o.getD u 0 ||| 2 ^ v)) = webC n (see1 o ((u : Int), (v : Int))) := setW n o u _
    have hadv : see1 o ((u : Int), (v : Int)) = orAt o u v := rfl
    have b1 : ((0 : Int) ≤ (u : Int)) = True := eq_true (by omega)
    have b2 : ((u : Int) < 7) = True := eq_true (by omega)
    have b5 : (1 + u + 1 ≤ 8) = True := eq_true (by omega)
    have hlw := lenW n o
    rw [h2] at hl1 hlw
    rw [← hadv] at hs1 hl1
    generalize see1 o ((u : Int), (v : Int)) = o2 at *
    simp only [go_sem, reduceIte, Nat.reduceEqDiff, Nat.reduceAdd, Nat.reduceSub, Nat.reduceLeDiff, Nat.reduceLT, reduceCtorEq, Int.reduceLT, Int.reduceLE, Int.reduceEq, Int.reduceBEq, Int.reduceSub, Int.reduceAdd, Int.reduceMul, Int.reduceNeg, Int.reduceToNat, Nat.reduceMul, Nat.reduceBEq, index_rsl_if, setm, make_ints, condK_dec, wantK_dec, not_dec, and_dec, or_dec, seqK_ite, seqK_none, blockK_ite, blockK_none, opsK_ite, opsK_none, stepK_ite, stepK_none, bodyK_ite, bodyK_none, resK_ite, resK_none, leaveK_ite, leaveK_none, only_ite, only_none, bind_ite, gives_some, gives_none, gives_ite, then_normal, then_ret, then_exit, then_none, then_ite, Option.bind_none, Bool.not_eq_true', decide_eq_false_iff_not, Bool.and_eq_true, Bool.or_eq_true, Option.some.injEq, Int.not_lt, Int.not_le, lp65_0, hx, hlt, hs, b1, b2, b5, g1, e1, hset1, h2, hl1, hlw, List.length_map]
    refine ⟨(i + 1, o2), by simp only [go_sem, reduceIte, Nat.reduceEqDiff, Nat.reduceAdd, Nat.reduceSub, Nat.reduceLeDiff, Nat.reduceLT, reduceCtorEq, Int.reduceLT, Int.reduceLE, Int.reduceEq, Int.reduceBEq, Int.reduceSub, Int.reduceAdd, Int.reduceMul, Int.reduceNeg, Int.reduceToNat, Nat.reduceMul, Nat.reduceBEq, ren1_locm, loc_tips, locT_eq, okRefsW, renCellsW, w8] <;> rfl, ?_, ?_, fun x en s hq => ?_⟩
    · dsimp only; exact ⟨by omega, hl1, hs1⟩
    · simp only; omega
    · exact hq
  · have hd : ps.drop i = [] := List.drop_eq_nil_of_le (by omega)
    have hlt : ((i : Int) < (ps.length : Int)) = False := eq_false (by omega)
    simp only [go_sem, reduceIte, Nat.reduceEqDiff, Nat.reduceAdd, Nat.reduceSub, Nat.reduceLeDiff, Nat.reduceLT, reduceCtorEq, Int.reduceLT, Int.reduceLE, Int.reduceEq, Int.reduceBEq, Int.reduceSub, Int.reduceAdd, Int.reduceMul, Int.reduceNeg, Int.reduceToNat, Nat.reduceMul, Nat.reduceBEq, index_rsl_if, setm, make_ints, condK_dec, wantK_dec, not_dec, and_dec, or_dec, seqK_ite, seqK_none, blockK_ite, blockK_none, opsK_ite, opsK_none, stepK_ite, stepK_none, bodyK_ite, bodyK_none, resK_ite, resK_none, leaveK_ite, leaveK_none, only_ite, only_none, bind_ite, gives_some, gives_none, gives_ite, then_normal, then_ret, then_exit, then_none, then_ite, Option.bind_none, Bool.not_eq_true', decide_eq_false_iff_not, Bool.and_eq_true, Bool.or_eq_true, Option.some.injEq, Int.not_lt, Int.not_le, lp65_0, hlt, List.length_map]
    rw [hd]; exact ⟨rfl, h2⟩

/-! ### what a book that is checked has -/
theorem prsErr_zero {n : Int} : ∀ {ps seen : List (Int × Int)}, prsErr n seen ps = 0 → ∀ p ∈ ps, 0 ≤ p.1 ∧ p.1 < n ∧ 0 ≤ p.2 ∧ p.2 < n ∧ p.1 ≠ p.2 ∧ p ∉ seen
  | [], _, _, p, hp => by simp at hp
  | a :: r, seen, h, p, hp => by
    simp only [prsErr] at h
    split at h
    · next h0 =>
      unfold prErr at h0
      split at h0
      · omega
      · split at h0
        · omega
        · split at h0
          · omega
          · next q1 q2 q3 =>
            rcases List.mem_cons.1 hp with rfl | hp
            · exact ⟨by omega, by omega, by omega, by omega, q2, q3⟩
            · obtain ⟨g1, g2, g3, g4, g5, g6⟩ := prsErr_zero h p hp
              exact ⟨g1, g2, g3, g4, g5, fun hh => g6 (by simp [hh])⟩
    · next h0 => exact absurd h h0
theorem prsErr_nodup {n : Int} : ∀ {ps seen : List (Int × Int)}, prsErr n seen ps = 0 → ps.Nodup
  | [], _, _ => List.nodup_nil
  | a :: r, seen, h => by
    simp only [prsErr] at h
    split at h
    · refine List.nodup_cons.2 ⟨fun hm => ?_, prsErr_nodup h⟩
      exact (prsErr_zero h a hm).2.2.2.2.2 (by simp)
    · next h0 => exact absurd h h0
theorem chk_zero {n : Int} {ps : List (Int × Int)} (h : chk n ps = 0) : (1 ≤ n ∧ n ≤ 7) ∧ ps.length ≤ 16 ∧ (∀ p ∈ ps, 0 ≤ p.1 ∧ p.1 < n ∧ 0 ≤ p.2 ∧ p.2 < n ∧ p.1 ≠ p.2) ∧ (∀ p ∈ ps, okP p) ∧ ps.Nodup := by
  unfold chk at h
  split at h
  · omega
  · split at h
    · omega
    · have h3 := fun p hp => prsErr_zero h p hp
      exact ⟨by omega, by omega, fun p hp => by have := h3 p hp; exact ⟨by omega, by omega, by omega, by omega, this.2.2.2.2.1⟩, fun p hp => by have := h3 p hp; unfold okP; omega, prsErr_nodup h⟩
def wovL (n : Int) (ps : List (Int × Int)) : List Nat := if chk n ps = 0 then seeL 7 ps else List.replicate 7 0
theorem c65 (nl : Bool) (n : Int) (ps : List (Int × Int)) (st : St) :
    run L 65 [bkAV nl n ps] st = some (.tup [webAV n (wovL n ps), I (chk n ps)], st) := by
  rw [run_pure (fn := ir65) rfl rfl]
  have h24 := fun st => c24 nl n ps st
  unfold wovL
  by_cases h : chk n ps = 0
  · obtain ⟨h1, h2, h3, h4, h5⟩ := chk_zero h
    rw [if_pos h]
    simp only [ir65, go_sem, reduceIte, Nat.reduceEqDiff, Nat.reduceAdd, Nat.reduceSub, Nat.reduceLeDiff, Nat.reduceLT, reduceCtorEq, Int.reduceLT, Int.reduceLE, Int.reduceEq, Int.reduceBEq, Int.reduceSub, Int.reduceAdd, Int.reduceMul, Int.reduceNeg, Int.reduceToNat, Nat.reduceMul, Nat.reduceBEq, h24, h, List.length_map]
    generalize hg : lim (headed pure (run L) true _ lp65_0 _ _) _ _ = o
    obtain ⟨x, en, s, rfl, h2⟩ : ∃ x en s, o = some (x, en, s) ∧ _ := by rw [← hg]; exact loop65 nl n ps (by omega) h4 0 (List.replicate 7 0) ⟨by omega, by simp, by simp⟩ _ _ (by simp only [go_sem, reduceIte, Nat.reduceEqDiff, Nat.reduceAdd, Nat.reduceSub, Nat.reduceLeDiff, Nat.reduceLT, reduceCtorEq, Int.reduceLT, Int.reduceLE, Int.reduceEq, Int.reduceBEq, Int.reduceSub, Int.reduceAdd, Int.reduceMul, Int.reduceNeg, Int.reduceToNat, Nat.reduceMul, Nat.reduceBEq, w8, webC, List.map_replicate, h24, h] <;> rfl)
    clear hg
    obtain ⟨rfl, g1, g2, rfl, g3⟩ := h2
    rw [List.drop_zero] at g3 ⊢
    have e : ps.foldl see1 (List.replicate 7 0) = seeL 7 ps := rfl
    rw [e] at g3 ⊢
    obtain ⟨a, b, c, d, f, g, k, g4⟩ := len_seven g3
    rw [g4]
    simp only [go_sem, reduceIte, Nat.reduceEqDiff, Nat.reduceAdd, Nat.reduceSub, Nat.reduceLeDiff, Nat.reduceLT, reduceCtorEq, Int.reduceLT, Int.reduceLE, Int.reduceEq, Int.reduceBEq, Int.reduceSub, Int.reduceAdd, Int.reduceMul, Int.reduceNeg, Int.reduceToNat, Nat.reduceMul, Nat.reduceBEq, g1, g2, w8, webC, h]
    rfl
  · rw [if_neg h]
    simp only [ir65, go_sem, reduceIte, Nat.reduceEqDiff, Nat.reduceAdd, Nat.reduceSub, Nat.reduceLeDiff, Nat.reduceLT, reduceCtorEq, Int.reduceLT, Int.reduceLE, Int.reduceEq, Int.reduceBEq, Int.reduceSub, Int.reduceAdd, Int.reduceMul, Int.reduceNeg, Int.reduceToNat, Nat.reduceMul, Nat.reduceBEq, h24, h, webC]
    rfl

/-! ### the bits -/
theorem orAt_bit (o : List Nat) (u v a b : Nat) (hu : u < o.length) : ((orAt o u v).getD a 0).testBit b = ((o.getD a 0).testBit b || (decide (a = u) && decide (b = v))) := by
  unfold orAt
  by_cases e : a = u
  · subst e
    rw [List.getD_eq_getElem?_getD, List.getElem?_set_self (by omega)]
    simp only [Option.getD_some, Nat.testBit_or, Nat.testBit_two_pow, decide_true, Bool.true_and]
    congr 1
    by_cases h : v = b
    · simp [h]
    · simp [h, Ne.symm h]
  · rw [List.getD_eq_getElem?_getD, List.getElem?_set_ne (Ne.symm e), ← List.getD_eq_getElem?_getD]
    simp [e]
theorem foldl_see_bit (a b : Nat) : ∀ (ps : List (Int × Int)) (o : List Nat), (∀ p ∈ ps, okP p) → 7 ≤ o.length → ((ps.foldl see1 o).getD a 0).testBit b = ((o.getD a 0).testBit b || decide (((a : Int), (b : Int)) ∈ ps))
  | [], o, _, _ => by simp
  | p :: r, o, hp, hl => by
    have h1 := hp p (by simp)
    unfold okP at h1
    rw [List.foldl_cons, foldl_see_bit a b r _ (fun q hq => hp q (by simp [hq])) (by unfold see1; rw [orAt_len]; exact hl)]
    unfold see1
    rw [orAt_bit _ _ _ _ _ (by omega), Bool.or_assoc]
    congr 1
    obtain ⟨u, v⟩ := p
    simp only at h1 ⊢
    rw [Bool.eq_iff_iff]
    simp only [Bool.or_eq_true, Bool.and_eq_true, decide_eq_true_eq, List.mem_cons, Prod.mk.injEq]
    constructor
    · rintro (⟨h, h'⟩ | h)
      · exact .inl ⟨by omega, by omega⟩
      · exact .inr h
    · rintro (⟨h, h'⟩ | h)
      · exact .inl ⟨by omega, by omega⟩
      · exact .inr h
theorem seeL_bit {z : Nat} (hz : 7 ≤ z) {ps : List (Int × Int)} (h : ∀ p ∈ ps, okP p) (a b : Nat) : ((seeL z ps).getD a 0).testBit b = decide (((a : Int), (b : Int)) ∈ ps) := by
  unfold seeL
  rw [foldl_see_bit a b ps _ h (by simpa using hz)]
  have : (List.replicate z 0).getD a 0 = 0 := by
    rw [List.getD_eq_getElem?_getD, List.getElem?_replicate]; split <;> rfl
  rw [this]; simp

attribute [local go_sem high] and_one shr_u shl_one or_u

/-! ### lists that should be odd circles -/
def setL (l : List Int) : Nat := l.foldl (fun m x => m ||| 2 ^ x.toNat) 0
theorem setL_snoc (l : List Int) (x : Int) : setL (l ++ [x]) = setL l ||| 2 ^ x.toNat := by simp [setL]
theorem setL_aux : ∀ (l : List Int) (m : Nat), (∀ x ∈ l, 0 ≤ x ∧ x < 7) → m < 128 → l.foldl (fun m x => m ||| 2 ^ x.toNat) m < 128 ∧ ∀ b : Nat, (l.foldl (fun m x => m ||| 2 ^ x.toNat) m).testBit b = (m.testBit b || decide ((b : Int) ∈ l))
  | [], m, _, hm => ⟨hm, fun b => by simp⟩
  | x :: r, m, h, hm => by
    have hx := h x (by simp)
    have h2 : m ||| 2 ^ x.toNat < 128 := Nat.or_lt_two_pow (n := 7) hm (sh1_lt _ (by omega)).2
    obtain ⟨g1, g2⟩ := setL_aux r (m ||| 2 ^ x.toNat) (fun y hy => h y (by simp [hy])) h2
    refine ⟨g1, fun b => ?_⟩
    rw [List.foldl_cons, g2, Nat.testBit_or, Nat.testBit_two_pow, Bool.or_assoc]
    congr 1
    rw [Bool.eq_iff_iff]
    simp only [Bool.or_eq_true, decide_eq_true_eq, List.mem_cons]
    constructor
    · rintro (h | h)
      · exact .inl (by omega)
      · exact .inr h
    · rintro (h | h)
      · exact .inl (by omega)
      · exact .inr h
theorem setL_lt {l : List Int} (h : ∀ x ∈ l, 0 ≤ x ∧ x < 7) : setL l < 128 := (setL_aux l 0 h (by omega)).1
theorem setL_bit {l : List Int} (h : ∀ x ∈ l, 0 ≤ x ∧ x < 7) (b : Nat) : (setL l).testBit b = decide ((b : Int) ∈ l) := by
  have := (setL_aux l 0 h (by omega)).2 b
  simpa [setL] using this

attribute [local go_sem high] and_one shr_u shl_one or_u

theorem tmod_nat (a b : Nat) : (a : Int).tmod (b : Int) = ((a % b : Nat) : Int) := by
  rw [Int.tmod_eq_emod_of_nonneg (by omega)]; simp
theorem putW (n : Int) (o : List Nat) (h : o.length = 7) : putCells [.v (.int .i64 0), .v (.int .u64 0), .v (.int .u64 0), .v (.int .u64 0), .v (.int .u64 0), .v (.int .u64 0), .v (.int .u64 0), .v (.int .u64 0)] 0 (webC n o) = webC n o := by
  obtain ⟨a, b, c, d, e, f, g, rfl⟩ := len_seven h
  rfl


/-! ### a book by numbers is a good one -/
def goodP (n : Int) (p : Int × Int) : Prop := 0 ≤ p.1 ∧ p.1 < n ∧ 0 ≤ p.2 ∧ p.2 < n ∧ p.1 ≠ p.2
theorem prsErr_ok {n : Int} : ∀ (ps seen : List (Int × Int)), (∀ p ∈ ps, goodP n p) → (seen ++ ps).Nodup → prsErr n seen ps = 0
  | [], _, _, _ => rfl
  | p :: r, seen, h, hn => by
    have hp := h p (by simp)
    unfold goodP at hp
    have h1 : p ∉ seen := by
      intro hs
      rw [List.nodup_append] at hn
      exact hn.2.2 p hs p (by simp) rfl
    have e : prErr n seen p = 0 := by
      unfold prErr
      rw [if_neg (by omega), if_neg (by omega), if_neg h1]
    simp only [prsErr, e, if_true]
    exact prsErr_ok r _ (fun q hq => h q (by simp [hq])) (by simpa using hn)
theorem mk_ok {n : Int} (hn : 0 < n) {out : List (Int × Int)} (h : (∀ p ∈ out, goodP n p) ∧ out.Nodup) (a b : Int) :
    (∀ p ∈ mkStep n out a b, goodP n p) ∧ (mkStep n out a b).Nodup := by
  have ra := mod_range a n hn
  have rb := mod_range b n hn
  unfold mkStep
  split
  · next hc =>
    refine ⟨fun p hp => ?_, ?_⟩
    · rcases List.mem_append.1 hp with hp | hp
      · exact h.1 p hp
      · rw [List.mem_singleton] at hp; subst hp; exact ⟨ra.1, ra.2, rb.1, rb.2, hc.1⟩
    · rw [List.nodup_append]
      refine ⟨h.2, by simp, fun x hx y hy => ?_⟩
      rw [List.mem_singleton] at hy; subst hy
      intro e; subst e; exact hc.2 hx
  · exact h
theorem madeTo_ok {n : Int} (hn : 0 < n) (zs : List Int) : ∀ k, (∀ p ∈ madeTo n zs k, goodP n p) ∧ (madeTo n zs k).Nodup
  | 0 => by simp [madeTo]
  | k + 1 => mk_ok hn (madeTo_ok hn zs k) _ _
/-- What is known of a book by numbers. -/
theorem made_ok {most : Int} (hl : most = 6 ∨ most = 7) (zs : List Int) :
    ∃ n : Nat, madeN most zs = n ∧ 1 ≤ n ∧ (n : Int) ≤ most ∧ n ≤ 7 ∧ (madeP most zs).length ≤ 16 ∧ (∀ p ∈ madeP most zs, goodP n p) ∧ (∀ p ∈ madeP most zs, okP p) ∧ (madeP most zs).Nodup ∧ chk (n : Int) (madeP most zs) = 0 := by
  have r0 := mod_range (zs.getD 0 0) most (by omega)
  have r1 := mod_range (zs.getD 1 0) 17 (by omega)
  have hN : madeN most zs = 1 + zs.getD 0 0 % most := rfl
  obtain ⟨n, hn⟩ := Int.eq_ofNat_of_zero_le (show 0 ≤ madeN most zs by omega)
  have h1 := madeTo_ok (n := madeN most zs) (by omega) zs (zs.getD 1 0 % 17).toNat
  have h2 := madeTo_len (madeN most zs) zs (zs.getD 1 0 % 17).toNat
  have e : madeP most zs = madeTo (madeN most zs) zs (zs.getD 1 0 % 17).toNat := rfl
  rw [← e] at h1 h2
  rw [hn] at h1
  refine ⟨n, hn, by omega, by omega, by omega, by omega, h1.1, fun p hp => ?_, h1.2, ?_⟩
  · have := h1.1 p hp; unfold goodP at this; unfold okP; omega
  · unfold chk
    rw [if_neg (by omega), if_neg (by omega)]
    exact prsErr_ok _ [] h1.1 (by simpa using h1.2)

/-! ### each sees the next one -/
/-! ### a list of numbers that grows -/
def vAV (v : List Int) : AV := loc 1 0 (v.map I)
theorem okRef_v (n : Nat) (v : List Int) : okRef n (vAV v) = true := okRef_loc _ _ _ _
theorem pub_v (v : List Int) : pub (vAV v) = sl 1 true (v.map I) := pub_loc 1 0 _
theorem len_v (v : List Int) : lenAV (vAV v) = some (I v.length) := by unfold vAV; rw [len_loc]; simp
end Go.Proofs.YtgohohiaaiogcaaDoor.Vm

namespace Go.Proofs.YtgohohiaaiogcaaDoor.Vm
open Go Go.Ev Go.ChangeShapes Go.WideShapes Go.ChangeAt Go.RowKit
set_option maxRecDepth 100000
attribute [local go_sem] cells_any storable_any ren1_any shaped_ptr cells_ptr storable_ptr ren1_ptr shaped_eptr cells_eptr storable_eptr ren1_eptr shaped_rsl cells_rsl storable_rsl ren1_rsl shaped_int cells_int storable_int ren1_int shaped_bool cells_bool storable_bool ren1_bool shaped_nils cells_nils storable_nils ren1_nils shaped_lst cells_lst storable_lst shaped_fn cells_fn storable_fn ren1_fn shaped_ifc cells_ifc storable_ifc ren1_ifc shaped_agg cells_agg storable_agg ren1_agg shaped_tup cells_tup storable_tup ren1_tup shaped_nif cells_nif storable_nif ren1_nif ren1_lany ren1_lfull ren1_lown len_lst len_rsl len_nil load_ptr load_eptr isRsl_lst isRsl_nil isRsl_rsl elems_nil elems_lst elems_sl isRsl_sl body_eq bodyK_normal bodyK_ret resK_some leaveK_some only_some code_skip code_exit code_ret code_ops code_seq code_cond code_block seqK_normal seqK_ret seqK_exit condK_true condK_false blockK_normal blockK_ret blockK_exit opsK_some ops_nil ops_cons wantK_true wantK_false stepK_some pubs pub pub_sl params okRef_loc storable_loc shaped_loc cells_loc isRsl_loc elems_loc len_loc untips untip untip_sl wantedAV setElems withO isAgg_v isAgg_agg isAgg_lst isAgg_ptr isAgg_fn isAgg_ifc isAgg_rsl isAgg_sl isAgg_loc List.replicate_succ List.replicate_zero opAV valAV aval avals ofVal Env.get setD canon gcAV renAll renEnv renStore renCells ren1_sl cutSt okEnv okStore okRefs okRef okRef_sl bin_int bin_bool bin_lst bin_rsl bin_nil bin_agg cellsEq cellEq isShift intOp boolOp min_int max_int beq_int bne resAV tupAV leave_eq fin_sl fin_loc fins fin_v fin_lst fin_agg fin_tup fin_fn storeAV readCells putCells cells_sl shaped_sl storable_sl fieldAddrAV len_sl goI List.getElem?_cons_zero List.getElem?_cons_succ List.getElem?_nil Option.bind_some Option.map_some List.length_cons List.length_nil List.all_cons List.all_nil Bool.and_true Bool.true_and Bool.and_false Bool.false_and and_true true_and and_false false_and Bool.false_eq_true List.set_cons_zero List.set_cons_succ List.append_nil List.nil_append List.cons_append List.take_zero List.take_succ_cons List.take_nil List.drop_zero List.drop_succ_cons List.map_cons List.map_nil decide_true decide_false beq_self_eq_true Bool.not_true Bool.not_false or_true true_or or_false false_or Nat.zero_add Nat.add_zero Nat.le_refl Nat.lt_irrefl decide_eq_true_eq eq_self_iff_true not_true_eq_false not_false_eq_true List.getD_cons_zero code_loop Nat.zero_le Nat.not_lt_zero Bool.true_beq Bool.false_beq beq_true beq_false ge_iff_le gt_iff_lt keepR keepT ownTop Lpure pus Option.map_none assert_ifc assert_nil idxA_ptr idxA_eptr idxV_agg Int.cast_ofNat_Int Nat.mul_one Nat.zero_mul Int.toNat_natCast Int.toNat_zero setParts withO2 hasKey eqnil_sl nenil_sl eqnil_loc nenil_loc map_nil_iff okRefs_ints renCells_ints

theorem cells5 : Tryd.prog.cellsOf 5 = 1 := by kernel_rfl
theorem cells57 : Tryd.prog.cellsOf 57 = 2 := by kernel_rfl
theorem cells58 : Tryd.prog.cellsOf 58 = 32 := by kernel_rfl
theorem cells60 : Tryd.prog.cellsOf 60 = 34 := by kernel_rfl
theorem cells65 : Tryd.prog.cellsOf 65 = 7 := by kernel_rfl
theorem one_byte {d : Nat} {bs : List AV} (h : Sh Tryd.prog (d + 1) 5 bs) : ∃ zs : List Int, bs = zs.map B8 ∧ zs.length = 1 ∧ ∀ n ∈ zs, Byte n := by
  simp only [Sh, Tryd.underlying5] at h
  obtain ⟨n, h1, h2⟩ := h
  exact ⟨[n], h1, rfl, by simp; exact bounds_u8 h2⟩
/-- Parts of bytes. -/
theorem all_parts (z : Nat) : ∀ (k : Nat) (bs : List AV), bs.length = k * z → (∀ i, i < k → ∃ zs : List Int, (bs.drop (i * z)).take z = zs.map B8 ∧ zs.length = z ∧ ∀ n ∈ zs, Byte n) → ∃ zs : List Int, bs = zs.map B8 ∧ zs.length = k * z ∧ ∀ n ∈ zs, Byte n
  | 0, bs, hl, _ => ⟨[], by have : bs.length = 0 := by simpa using hl
                            simpa using this, by simp, by simp⟩
  | k + 1, bs, hl, h => by
    rw [Nat.succ_mul] at hl
    obtain ⟨zs, h1, h2, h3⟩ := h 0 (by omega)
    rw [Nat.zero_mul, List.drop_zero] at h1
    obtain ⟨ys, g1, g2, g3⟩ := all_parts z k (bs.drop z) (by simp; omega) fun i hi => by
      obtain ⟨xs, q1, q2, q3⟩ := h (i + 1) (by omega)
      refine ⟨xs, ?_, q2, q3⟩
      rw [List.drop_drop, ← q1, Nat.succ_mul, Nat.add_comm (i * z) z]
    refine ⟨zs ++ ys, ?_, by rw [List.length_append, h2, g2, Nat.succ_mul]; omega, ?_⟩
    · rw [List.map_append, ← h1, ← g1, List.take_append_drop]
    · intro n hn
      rcases List.mem_append.1 hn with hn | hn
      · exact h3 n hn
      · exact g3 n hn
theorem sh_b57 {d : Nat} {bs : List AV} (h : Sh Tryd.prog (d + 2) 57 bs) : ∃ zs : List Int, bs = zs.map B8 ∧ zs.length = 2 ∧ ∀ n ∈ zs, Byte n := by
  unfold Sh at h
  simp only [Tryd.underlying57, cells57, cells5] at h
  exact all_parts 1 2 bs (by omega) (fun i hi => one_byte (h.2 i hi))
theorem sh_b58 {d : Nat} {bs : List AV} (h : Sh Tryd.prog (d + 3) 58 bs) : ∃ zs : List Int, bs = zs.map B8 ∧ zs.length = 32 ∧ ∀ n ∈ zs, Byte n := by
  unfold Sh at h
  simp only [Tryd.underlying58, cells58, cells57] at h
  exact all_parts 2 16 bs (by omega) (fun i hi => sh_b57 (h.2 i hi))
/-- A book by numbers. -/
theorem sh_quarrel {a : AV} (h : ShV Tryd.prog 8 60 a) : ∃ zs : List Int, a = qAV zs ∧ zs.length = 34 ∧ ∀ n ∈ zs, Byte n := by
  unfold ShV at h
  rw [if_pos (by unfold aggB; rw [Tryd.underlying60])] at h
  obtain ⟨cs, rfl, hs⟩ := h
  unfold Sh at hs
  simp only [Tryd.underlying60, cells60] at hs
  obtain ⟨h1, h2⟩ := hs
  have f0 := h2 0 _ rfl
  have f1 := h2 1 _ rfl
  have f2 := h2 2 _ rfl
  simp only [List.getElem_toArray, List.getElem_cons_zero, List.getElem_cons_succ, cells5, cells58] at f0 f1 f2
  obtain ⟨ar, e0, l0, b0⟩ := one_byte f0
  obtain ⟨bs, e1, l1, b1⟩ := one_byte f1
  obtain ⟨es, e2, l2, b2⟩ := sh_b58 f2
  refine ⟨ar ++ (bs ++ es), ?_, by simp [l0, l1, l2], ?_⟩
  · have s5 : (cs.drop 2).take 32 = cs.drop 2 := List.take_of_length_le (by simp [h1])
    have s2 : (cs.drop 1).take 1 ++ cs.drop 2 = cs.drop 1 := by
      have := List.take_append_drop 1 (cs.drop 1)
      rw [List.drop_drop] at this
      exact this
    have s1 : (cs.drop 0).take 1 ++ cs.drop 1 = cs := by
      have := List.take_append_drop 1 cs
      simpa using this
    show AV.agg cs = AV.agg _
    rw [List.map_append, List.map_append, ← e0, ← e1, ← e2, s5, s2, s1]
  · intro n hn
    rcases List.mem_append.1 hn with hn | hn
    · exact b0 n hn
    · rcases List.mem_append.1 hn with hn | hn
      · exact b1 n hn
      · exact b2 n hn
theorem sh_b7 {a : AV} (h : ShV Tryd.prog 8 65 a) : ∃ zs : List Int, a = .agg (zs.map B8) ∧ zs.length = 7 ∧ ∀ n ∈ zs, Byte n := by
  unfold ShV at h
  rw [if_pos (by unfold aggB; rw [Tryd.underlying65])] at h
  obtain ⟨cs, rfl, hs⟩ := h
  unfold Sh at hs
  simp only [Tryd.underlying65, cells65, cells5] at hs
  obtain ⟨zs, h1, h2, h3⟩ := all_parts 1 7 cs (by omega) (fun i hi => one_byte (hs.2 i hi))
  exact ⟨zs, by rw [h1], h2, h3⟩
end Go.Proofs.YtgohohiaaiogcaaDoor.Vm

namespace Go.Proofs.YtgohohiaaiogcaaDoor.Vm
open Go Go.Ev
set_option maxRecDepth 100000
attribute [local go_sem] cells_any storable_any ren1_any shaped_ptr cells_ptr storable_ptr ren1_ptr shaped_eptr cells_eptr storable_eptr ren1_eptr shaped_rsl cells_rsl storable_rsl ren1_rsl shaped_int cells_int storable_int ren1_int shaped_bool cells_bool storable_bool ren1_bool shaped_nils cells_nils storable_nils ren1_nils shaped_lst cells_lst storable_lst shaped_fn cells_fn storable_fn ren1_fn shaped_ifc cells_ifc storable_ifc ren1_ifc shaped_agg cells_agg storable_agg ren1_agg shaped_tup cells_tup storable_tup ren1_tup shaped_nif cells_nif storable_nif ren1_nif ren1_lany ren1_lfull ren1_lown len_lst len_rsl len_nil load_ptr load_eptr isRsl_lst isRsl_nil isRsl_rsl elems_nil elems_lst elems_sl isRsl_sl body_eq bodyK_normal bodyK_ret resK_some leaveK_some only_some code_skip code_exit code_ret code_ops code_seq code_cond code_block seqK_normal seqK_ret seqK_exit condK_true condK_false blockK_normal blockK_ret blockK_exit opsK_some ops_nil ops_cons wantK_true wantK_false stepK_some pubs pub pub_sl params okRef_loc storable_loc shaped_loc cells_loc isRsl_loc elems_loc len_loc untips untip untip_sl wantedAV setElems withO isAgg_v isAgg_agg isAgg_lst isAgg_ptr isAgg_fn isAgg_ifc isAgg_rsl isAgg_sl isAgg_loc List.replicate_succ List.replicate_zero opAV valAV aval avals ofVal Env.get setD canon gcAV renAll renEnv renStore renCells ren1_sl cutSt okEnv okStore okRefs okRef okRef_sl bin_int bin_bool bin_lst bin_rsl bin_nil bin_agg cellsEq cellEq isShift intOp boolOp min_int max_int beq_int bne resAV tupAV leave_eq fin_sl fin_loc fins fin_v fin_lst fin_agg fin_tup fin_fn storeAV readCells putCells cells_sl shaped_sl storable_sl fieldAddrAV len_sl goI List.getElem?_cons_zero List.getElem?_cons_succ List.getElem?_nil Option.bind_some Option.map_some List.length_cons List.length_nil List.all_cons List.all_nil Bool.and_true Bool.true_and Bool.and_false Bool.false_and and_true true_and and_false false_and Bool.false_eq_true List.set_cons_zero List.set_cons_succ List.append_nil List.nil_append List.cons_append List.take_zero List.take_succ_cons List.take_nil List.drop_zero List.drop_succ_cons List.map_cons List.map_nil decide_true decide_false beq_self_eq_true Bool.not_true Bool.not_false or_true true_or or_false false_or Nat.zero_add Nat.add_zero Nat.le_refl Nat.lt_irrefl decide_eq_true_eq eq_self_iff_true not_true_eq_false not_false_eq_true List.getD_cons_zero code_loop Nat.zero_le Nat.not_lt_zero Bool.true_beq Bool.false_beq beq_true beq_false ge_iff_le gt_iff_lt keepR keepT ownTop Lpure pus Option.map_none assert_ifc assert_nil idxA_ptr idxA_eptr idxV_agg Int.cast_ofNat_Int Nat.mul_one Nat.zero_mul Int.toNat_natCast Int.toNat_zero setParts withO2 hasKey eqnil_sl nenil_sl eqnil_loc nenil_loc map_nil_iff okRefs_ints renCells_ints

/-- Is a list ahead of another one? -/
def lexLt : List Int → List Int → Bool
  | [], [] => false
  | [], _ :: _ => true
  | _ :: _, [] => false
  | a :: r, b :: s => decide (a < b) || (decide (a = b) && lexLt r s)
theorem lex_irrefl : ∀ a, lexLt a a = false
  | [] => rfl
  | a :: r => by simp [lexLt, lex_irrefl r]
theorem lex_trans : ∀ a b c, lexLt a b = true → lexLt b c = true → lexLt a c = true
  | a, [], c, h, _ => by cases a <;> simp [lexLt] at h
  | a, b :: s, [], _, h => by simp [lexLt] at h
  | [], b :: s, c :: t, _, _ => rfl
  | a :: r, b :: s, c :: t, h1, h2 => by
    simp only [lexLt, Bool.or_eq_true, Bool.and_eq_true, decide_eq_true_iff] at h1 h2 ⊢
    rcases h1 with h1 | ⟨rfl, h1⟩
    · rcases h2 with h2 | ⟨rfl, h2⟩
      · left; omega
      · left; exact h1
    · rcases h2 with h2 | ⟨rfl, h2⟩
      · left; exact h2
      · right; exact ⟨rfl, lex_trans r s t h1 h2⟩
theorem lex_asymm {a b : List Int} (h : lexLt a b = true) : lexLt b a = false := by
  cases h2 : lexLt b a
  · rfl
  · have := lex_trans _ _ _ h h2; rw [lex_irrefl] at this; simp at this
/-! ### sorting by insertion -/
section
variable {α : Type} (lt : α → α → Bool)
/-- Into a list in the opposite order. -/
def insR : List α → α → List α
  | [], x => [x]
  | a :: C, x => if lt x a = true then a :: insR C x else x :: a :: C
def insL (A : List α) (x : α) : List α := (insR lt A.reverse x).reverse
def sortL (l : List α) : List α := l.foldl (insL lt) []
theorem insL_nil (x : α) : insL lt [] x = [x] := rfl
theorem insL_snoc (A : List α) (a x : α) : insL lt (A ++ [a]) x = if lt x a = true then insL lt A x ++ [a] else A ++ [a, x] := by
  unfold insL
  rw [List.reverse_append, List.reverse_singleton, List.singleton_append]
  simp only [insR]
  split
  · rw [List.reverse_cons]
  · simp
theorem insR_perm : ∀ (C : List α) (x : α), (insR lt C x).Perm (x :: C)
  | [], _ => List.Perm.refl _
  | a :: C, x => by
    simp only [insR]
    split
    · exact ((insR_perm C x).cons a).trans (List.Perm.swap x a C)
    · exact List.Perm.refl _
theorem insL_perm (A : List α) (x : α) : (insL lt A x).Perm (A ++ [x]) := by
  unfold insL
  refine (List.reverse_perm _).trans ((insR_perm lt _ x).trans ?_)
  refine ((List.reverse_perm A).cons x).trans ?_
  exact (List.perm_append_singleton x A).symm
theorem insL_len (A : List α) (x : α) : (insL lt A x).length = A.length + 1 := by
  rw [(insL_perm lt A x).length_eq]; simp
theorem fold_perm : ∀ (l A : List α), (l.foldl (insL lt) A).Perm (A ++ l)
  | [], A => by simp
  | x :: l, A => by
    rw [List.foldl_cons]
    refine (fold_perm l _).trans ?_
    have := (insL_perm lt A x).append_right l
    rwa [List.append_assoc] at this
theorem sortL_perm (l : List α) : (sortL lt l).Perm l := fold_perm lt l []
theorem sortL_cons (x : α) (l : List α) : sortL lt (x :: l) = l.foldl (insL lt) [x] := rfl
variable (h1 : ∀ a b, lt a b = true → lt b a = false) (h2 : ∀ a b c, lt b a = false → lt c b = false → lt c a = false)
include h1 h2
theorem insR_sorted : ∀ (C : List α) (x : α), C.Pairwise (fun a b => lt a b = false) → (insR lt C x).Pairwise fun a b => lt a b = false
  | [], x, _ => by simp [insR]
  | a :: C, x, h => by
    rw [List.pairwise_cons] at h
    simp only [insR]
    split
    · next hx =>
      rw [List.pairwise_cons]
      refine ⟨fun y hy => ?_, insR_sorted C x h.2⟩
      rcases List.mem_cons.1 ((insR_perm lt C x).mem_iff.1 hy) with rfl | hy
      · exact h1 _ _ hx
      · exact h.1 y hy
    · next hx =>
      have hx : lt x a = false := by simpa using hx
      rw [List.pairwise_cons]
      refine ⟨fun y hy => ?_, List.pairwise_cons.2 h⟩
      rcases List.mem_cons.1 hy with rfl | hy
      · exact hx
      · exact h2 y a x (h.1 y hy) hx
theorem insL_sorted (A : List α) (x : α) (h : A.Pairwise fun a b => lt b a = false) : (insL lt A x).Pairwise fun a b => lt b a = false := by
  unfold insL
  rw [List.pairwise_reverse]
  exact insR_sorted lt h1 h2 _ x (List.pairwise_reverse.2 h)
theorem sortL_sorted (l : List α) : (sortL lt l).Pairwise fun a b => lt b a = false := by
  have key : ∀ (l A : List α), A.Pairwise (fun a b => lt b a = false) → (l.foldl (insL lt) A).Pairwise fun a b => lt b a = false := by
    intro l
    induction l with
    | nil => intro A h; exact h
    | cons x l ih => intro A h; rw [List.foldl_cons]; exact ih _ (insL_sorted lt h1 h2 A x h)
  exact key l [] List.Pairwise.nil
omit h1 h2 in
end
theorem set_same {α : Type} (S : List α) (l : Nat) (c : α) (h : S[l]? = some c) : S.set l c = S := by
  apply List.ext_getElem?
  intro i
  rw [List.getElem?_set]
  split
  · next e => subst e; rw [h]; split <;> simp_all
  · rfl


/-! ### comparing lists -/
theorem c98 (a : Int) (st : St) : run L 98 [I a] st = some (B false, st) := by
  rw [run_pure (fn := ir98) rfl rfl]
  simp only [ir98, go_sem, reduceIte, Nat.reduceEqDiff, Nat.reduceAdd, Nat.reduceSub, Nat.reduceLeDiff, Nat.reduceLT, reduceCtorEq, Int.reduceLT, Int.reduceLE, Int.reduceEq, Int.reduceBEq, Int.reduceSub, Int.reduceAdd, Int.reduceMul, Int.reduceNeg, Int.reduceToNat, Nat.reduceMul, Nat.reduceBEq]
theorem c86 (a b : Int) (st : St) : run L 86 [I a, I b] st = some (I (if a < b then -1 else if b < a then 1 else 0), st) := by
  rw [run_pure (fn := ir86) rfl rfl]
  by_cases h1 : a < b
  · simp only [ir86, go_sem, reduceIte, Nat.reduceEqDiff, Nat.reduceAdd, Nat.reduceSub, Nat.reduceLeDiff, Nat.reduceLT, reduceCtorEq, Int.reduceLT, Int.reduceLE, Int.reduceEq, Int.reduceBEq, Int.reduceSub, Int.reduceAdd, Int.reduceMul, Int.reduceNeg, Int.reduceToNat, Nat.reduceMul, Nat.reduceBEq, c98, h1]
  · by_cases h2 : b < a <;> simp only [ir86, go_sem, reduceIte, Nat.reduceEqDiff, Nat.reduceAdd, Nat.reduceSub, Nat.reduceLeDiff, Nat.reduceLT, reduceCtorEq, Int.reduceLT, Int.reduceLE, Int.reduceEq, Int.reduceBEq, Int.reduceSub, Int.reduceAdd, Int.reduceMul, Int.reduceNeg, Int.reduceToNat, Nat.reduceMul, Nat.reduceBEq, c98, h1, h2]

def cmpN : List Int → List Int → Int
  | [], [] => 0
  | [], _ :: _ => -1
  | _ :: _, [] => 1
  | a :: r, b :: s => if a < b then -1 else if b < a then 1 else cmpN r s
theorem cmpN_lt : ∀ (xs ys : List Int), decide (cmpN xs ys < 0) = lexLt xs ys
  | [], [] => rfl
  | [], _ :: _ => rfl
  | _ :: _, [] => rfl
  | a :: r, b :: s => by
    have ih := cmpN_lt r s
    unfold cmpN lexLt
    by_cases h1 : a < b
    · simp [h1]
    · by_cases h2 : b < a
      · simp [h1, h2, show a ≠ b by omega]
      · simp [h1, h2, show a = b by omega, ih]
theorem cmpN_nil (ys : List Int) : cmpN [] ys = if 0 < ys.length then -1 else 0 := by cases ys <;> rfl

theorem loop48 (st0 : St) (n1 n2 : Bool) (xs ys : List Int) (hlen : xs.length < 1000000) (lo hi : Nat) (i : Nat) (hok : i ≤ xs.length ∧ i ≤ ys.length) (env : Env) (st : St)
    (hg : gcAV false lo hi (canon env [0, 1, 9, 10, 11]) st = ([(0, sl 1 n1 (xs.map I)), (1, sl 1 n2 (ys.map I)), (9, sl 1 n1 (xs.map I)), (10, I xs.length), (11, I i)], st0)) :
    ∃ x_1 en s, lim (headed pure (run L) false [0, 1, 9, 10, 11] lp48_0 lo hi) env st = some (x_1, en, s) ∧ (s = st0 ∧ ((x_1 = .exit 0 ∧ en.get 0 = sl 1 n1 (xs.map I) ∧ en.get 1 = sl 1 n2 (ys.map I) ∧ cmpN (xs.drop i) (ys.drop i) = if xs.length < ys.length then -1 else 0) ∨ (x_1 = .ret ∧ en.get 4 = I (cmpN (xs.drop i) (ys.drop i))))) := by
  refine loop_wp (α := Nat) (fun i => xs.length - i) (fun i => i ≤ xs.length ∧ i ≤ ys.length) (fun i => ([(0, sl 1 n1 (xs.map I)), (1, sl 1 n2 (ys.map I)), (9, sl 1 n1 (xs.map I)), (10, I xs.length), (11, I i)], st0)) (fun i x_1 en s => s = st0 ∧ ((x_1 = .exit 0 ∧ en.get 0 = sl 1 n1 (xs.map I) ∧ en.get 1 = sl 1 n2 (ys.map I) ∧ cmpN (xs.drop i) (ys.drop i) = if xs.length < ys.length then -1 else 0) ∨ (x_1 = .ret ∧ en.get 4 = I (cmpN (xs.drop i) (ys.drop i))))) (fun i hok => ?_) i hok env st hg
  obtain ⟨hok1, hok2⟩ := hok
  by_cases h : i < xs.length
  · have hx := index_ints n1 xs i h
    have hs := succ64 i (by omega)
    have hd : xs.drop i = xs[i] :: xs.drop (i + 1) := List.drop_eq_getElem_cons h
    have hlt : ((i : Int) < (xs.length : Int)) = True := eq_true (by omega)
    rw [hd]
    by_cases h2 : i < ys.length
    · have hy := index_ints n2 ys i h2
      have hd2 : ys.drop i = ys[i] :: ys.drop (i + 1) := List.drop_eq_getElem_cons h2
      have hge : ((ys.length : Int) ≤ (i : Int)) = False := eq_false (by omega)
      rw [hd2]
      generalize xs[i] = a at *
      generalize ys[i] = b at *
      have hcn : cmpN (a :: xs.drop (i + 1)) (b :: ys.drop (i + 1)) = if a < b then -1 else if b < a then 1 else cmpN (xs.drop (i + 1)) (ys.drop (i + 1)) := rfl
      rw [hcn]
      by_cases p1 : a < b
      · simp only [go_sem, reduceIte, Nat.reduceEqDiff, Nat.reduceAdd, Nat.reduceSub, Nat.reduceLeDiff, Nat.reduceLT, reduceCtorEq, Int.reduceLT, Int.reduceLE, Int.reduceEq, Int.reduceBEq, Int.reduceSub, Int.reduceAdd, Int.reduceMul, Int.reduceNeg, Int.reduceToNat, Nat.reduceMul, Nat.reduceBEq, index_rsl_if, setm, make_ints, condK_dec, wantK_dec, not_dec, and_dec, or_dec, seqK_ite, seqK_none, blockK_ite, blockK_none, opsK_ite, opsK_none, stepK_ite, stepK_none, bodyK_ite, bodyK_none, resK_ite, resK_none, leaveK_ite, leaveK_none, only_ite, only_none, bind_ite, gives_some, gives_none, gives_ite, then_normal, then_ret, then_exit, then_none, then_ite, Option.bind_none, Bool.not_eq_true', decide_eq_false_iff_not, Bool.and_eq_true, Bool.or_eq_true, Option.some.injEq, Int.not_lt, Int.not_le, lp48_0, hx, hy, hlt, hge, c86, p1, List.length_map]
      · by_cases p2 : b < a
        · simp only [go_sem, reduceIte, Nat.reduceEqDiff, Nat.reduceAdd, Nat.reduceSub, Nat.reduceLeDiff, Nat.reduceLT, reduceCtorEq, Int.reduceLT, Int.reduceLE, Int.reduceEq, Int.reduceBEq, Int.reduceSub, Int.reduceAdd, Int.reduceMul, Int.reduceNeg, Int.reduceToNat, Nat.reduceMul, Nat.reduceBEq, index_rsl_if, setm, make_ints, condK_dec, wantK_dec, not_dec, and_dec, or_dec, seqK_ite, seqK_none, blockK_ite, blockK_none, opsK_ite, opsK_none, stepK_ite, stepK_none, bodyK_ite, bodyK_none, resK_ite, resK_none, leaveK_ite, leaveK_none, only_ite, only_none, bind_ite, gives_some, gives_none, gives_ite, then_normal, then_ret, then_exit, then_none, then_ite, Option.bind_none, Bool.not_eq_true', decide_eq_false_iff_not, Bool.and_eq_true, Bool.or_eq_true, Option.some.injEq, Int.not_lt, Int.not_le, lp48_0, hx, hy, hlt, hge, c86, p1, p2, List.length_map]
        · simp only [go_sem, reduceIte, Nat.reduceEqDiff, Nat.reduceAdd, Nat.reduceSub, Nat.reduceLeDiff, Nat.reduceLT, reduceCtorEq, Int.reduceLT, Int.reduceLE, Int.reduceEq, Int.reduceBEq, Int.reduceSub, Int.reduceAdd, Int.reduceMul, Int.reduceNeg, Int.reduceToNat, Nat.reduceMul, Nat.reduceBEq, index_rsl_if, setm, make_ints, condK_dec, wantK_dec, not_dec, and_dec, or_dec, seqK_ite, seqK_none, blockK_ite, blockK_none, opsK_ite, opsK_none, stepK_ite, stepK_none, bodyK_ite, bodyK_none, resK_ite, resK_none, leaveK_ite, leaveK_none, only_ite, only_none, bind_ite, gives_some, gives_none, gives_ite, then_normal, then_ret, then_exit, then_none, then_ite, Option.bind_none, Bool.not_eq_true', decide_eq_false_iff_not, Bool.and_eq_true, Bool.or_eq_true, Option.some.injEq, Int.not_lt, Int.not_le, lp48_0, hx, hy, hlt, hge, c86, p1, p2, hs, List.length_map]
          refine ⟨i + 1, by simp only [go_sem, reduceIte, Nat.reduceEqDiff, Nat.reduceAdd, Nat.reduceSub, Nat.reduceLeDiff, Nat.reduceLT, reduceCtorEq, Int.reduceLT, Int.reduceLE, Int.reduceEq, Int.reduceBEq, Int.reduceSub, Int.reduceAdd, Int.reduceMul, Int.reduceNeg, Int.reduceToNat, Nat.reduceMul, Nat.reduceBEq, ren1_locm, loc_tips, locT_eq] <;> rfl, ?_, ?_, fun x en s hq => ?_⟩
          · omega
          · omega
          · exact hq
    · have hd2 : ys.drop i = [] := List.drop_eq_nil_of_le (by omega)
      have hge : ((ys.length : Int) ≤ (i : Int)) = True := eq_true (by omega)
      rw [hd2]
      generalize xs[i] = a at *
      simp only [go_sem, reduceIte, Nat.reduceEqDiff, Nat.reduceAdd, Nat.reduceSub, Nat.reduceLeDiff, Nat.reduceLT, reduceCtorEq, Int.reduceLT, Int.reduceLE, Int.reduceEq, Int.reduceBEq, Int.reduceSub, Int.reduceAdd, Int.reduceMul, Int.reduceNeg, Int.reduceToNat, Nat.reduceMul, Nat.reduceBEq, index_rsl_if, setm, make_ints, condK_dec, wantK_dec, not_dec, and_dec, or_dec, seqK_ite, seqK_none, blockK_ite, blockK_none, opsK_ite, opsK_none, stepK_ite, stepK_none, bodyK_ite, bodyK_none, resK_ite, resK_none, leaveK_ite, leaveK_none, only_ite, only_none, bind_ite, gives_some, gives_none, gives_ite, then_normal, then_ret, then_exit, then_none, then_ite, Option.bind_none, Bool.not_eq_true', decide_eq_false_iff_not, Bool.and_eq_true, Bool.or_eq_true, Option.some.injEq, Int.not_lt, Int.not_le, lp48_0, hx, hlt, hge, cmpN, List.length_map]
  · have hd : xs.drop i = [] := List.drop_eq_nil_of_le (by omega)
    have hlt : ((i : Int) < (xs.length : Int)) = False := eq_false (by omega)
    have hl2 : (ys.drop i).length = ys.length - i := List.length_drop
    rw [hd, cmpN_nil, hl2]
    simp only [go_sem, reduceIte, Nat.reduceEqDiff, Nat.reduceAdd, Nat.reduceSub, Nat.reduceLeDiff, Nat.reduceLT, reduceCtorEq, Int.reduceLT, Int.reduceLE, Int.reduceEq, Int.reduceBEq, Int.reduceSub, Int.reduceAdd, Int.reduceMul, Int.reduceNeg, Int.reduceToNat, Nat.reduceMul, Nat.reduceBEq, index_rsl_if, setm, make_ints, condK_dec, wantK_dec, not_dec, and_dec, or_dec, seqK_ite, seqK_none, blockK_ite, blockK_none, opsK_ite, opsK_none, stepK_ite, stepK_none, bodyK_ite, bodyK_none, resK_ite, resK_none, leaveK_ite, leaveK_none, only_ite, only_none, bind_ite, gives_some, gives_none, gives_ite, then_normal, then_ret, then_exit, then_none, then_ite, Option.bind_none, Bool.not_eq_true', decide_eq_false_iff_not, Bool.and_eq_true, Bool.or_eq_true, Option.some.injEq, Int.not_lt, Int.not_le, lp48_0, hlt, List.length_map]
    have e : (0 < ys.length - i) = (xs.length < ys.length) := propext (by omega)
    simp only [e]

theorem c48 (n1 n2 : Bool) (xs ys : List Int) (hlen : xs.length < 1000000) (st : St) : run L 48 [sl 1 n1 (xs.map I), sl 1 n2 (ys.map I)] st = some (I (cmpN xs ys), st) := by
  rw [run_shared (fn := ir48) rfl rfl]
  simp only [ir48, go_sem, reduceIte, Nat.reduceEqDiff, Nat.reduceAdd, Nat.reduceSub, Nat.reduceLeDiff, Nat.reduceLT, reduceCtorEq, Int.reduceLT, Int.reduceLE, Int.reduceEq, Int.reduceBEq, Int.reduceSub, Int.reduceAdd, Int.reduceMul, Int.reduceNeg, Int.reduceToNat, Nat.reduceMul, Nat.reduceBEq, List.length_map]
  generalize hg : lim (headed pure (run L) false _ lp48_0 _ _) _ _ = o
  obtain ⟨x, en, s, rfl, h2⟩ : ∃ x en s, o = some (x, en, s) ∧ _ := by rw [← hg]; exact loop48 st n1 n2 xs ys hlen _ _ 0 ⟨by omega, by omega⟩ _ _ (by simp only [go_sem, reduceIte, Nat.reduceEqDiff, Nat.reduceAdd, Nat.reduceSub, Nat.reduceLeDiff, Nat.reduceLT, reduceCtorEq, Int.reduceLT, Int.reduceLE, Int.reduceEq, Int.reduceBEq, Int.reduceSub, Int.reduceAdd, Int.reduceMul, Int.reduceNeg, Int.reduceToNat, Nat.reduceMul, Nat.reduceBEq] <;> rfl)
  clear hg
  simp only [List.drop_zero] at h2
  obtain ⟨rfl, h2⟩ := h2
  rcases h2 with ⟨rfl, h3, h4, h5⟩ | ⟨rfl, h3⟩
  · rw [h5]
    by_cases p : xs.length < ys.length
    · have q : ((xs.length : Int) < (ys.length : Int)) = True := eq_true (by omega)
      rw [if_pos p]
      simp only [go_sem, reduceIte, Nat.reduceEqDiff, Nat.reduceAdd, Nat.reduceSub, Nat.reduceLeDiff, Nat.reduceLT, reduceCtorEq, Int.reduceLT, Int.reduceLE, Int.reduceEq, Int.reduceBEq, Int.reduceSub, Int.reduceAdd, Int.reduceMul, Int.reduceNeg, Int.reduceToNat, Nat.reduceMul, Nat.reduceBEq, h3, h4, q, List.length_map]
    · have q : ((xs.length : Int) < (ys.length : Int)) = False := eq_false (by omega)
      rw [if_neg p]
      simp only [go_sem, reduceIte, Nat.reduceEqDiff, Nat.reduceAdd, Nat.reduceSub, Nat.reduceLeDiff, Nat.reduceLT, reduceCtorEq, Int.reduceLT, Int.reduceLE, Int.reduceEq, Int.reduceBEq, Int.reduceSub, Int.reduceAdd, Int.reduceMul, Int.reduceNeg, Int.reduceToNat, Nat.reduceMul, Nat.reduceBEq, h3, h4, q, List.length_map]
  · simp only [go_sem, reduceIte, Nat.reduceEqDiff, Nat.reduceAdd, Nat.reduceSub, Nat.reduceLeDiff, Nat.reduceLT, reduceCtorEq, Int.reduceLT, Int.reduceLE, Int.reduceEq, Int.reduceBEq, Int.reduceSub, Int.reduceAdd, Int.reduceMul, Int.reduceNeg, Int.reduceToNat, Nat.reduceMul, Nat.reduceBEq, h3]

/-! ### sorting lists -/
def tAV (l : List Int) : AV := sl 1 true (l.map I)
theorem shaped_t (l : List Int) : (tAV l).shaped = true := by unfold tAV sl; split <;> rfl
theorem cells_t (l : List Int) : (tAV l).cells = [tAV l] := by unfold tAV sl; split <;> rfl
theorem isAgg_t (l : List Int) : Ev.isAgg (tAV l) = false := by unfold tAV sl; split <;> rfl
theorem storable_t (l : List Int) : storable (tAV l) = true := by unfold tAV sl; split <;> rfl
theorem okRef_t (n : Nat) (l : List Int) : okRef n (tAV l) = true := by unfold tAV sl; split <;> rfl
theorem pub_t (l : List Int) : pub (tAV l) = tAV l := pub_sl _ _ _
theorem getT (X : List (List Int)) (i : Nat) (x : List Int) (h : X[i]? = some x) : (X.map tAV)[i]? = some (tAV x) := by
  rw [List.getElem?_map, h]; rfl
theorem c48t (x a : List Int) (hx : x.length < 1000000) : (∀ st, run L 48 [tAV x, tAV a] st = some (I (cmpN x a), st)) ∧ decide (cmpN x a < 0) = lexLt x a :=
  ⟨fun st => c48 true true x a hx st, cmpN_lt x a⟩
attribute [local go_sem] shaped_t cells_t isAgg_t storable_t okRef_t
theorem at_one (A : List (List Int)) (x : List Int) (B : List (List Int)) : (A ++ x :: B)[A.length]? = some x := by simp
abbrev cmpF : AV := .fn (.func 48) [] []

theorem loop99_0 (S0 : List (List AV)) (T : List Nat) (l : Nat) (hl : l < S0.length) (n : Nat) (hn : n ≤ 1000) (x : List Int) (hx : x.length < 1000000) (i : Nat) (lo hi : Nat) (j : Nat) (A : List (List Int)) (B : List (List Int)) (hok : A.length = j ∧ j + 1 + B.length = n) (env : Env) (st : St)
    (hg : gcAV false lo hi (canon env [0, 1, 2, 3, 8, 9]) st = ([(0, .rsl l 0 n n 1 false), (1, I 0), (2, I n), (3, cmpF), (8, I i), (9, I j)], ⟨S0.set l ((A ++ x :: B).map tAV), T⟩)) :
    ∃ x_1 en s, lim (headed pure (run L) false [0, 1, 2, 3, 8, 9] lp99_0 lo hi) env st = some (x_1, en, s) ∧ (x_1 = .exit 2 ∧ en.get 0 = .rsl l 0 n n 1 false ∧ en.get 1 = I 0 ∧ en.get 2 = I n ∧ en.get 3 = cmpF ∧ en.get 8 = I i ∧ s = ⟨S0.set l ((insL lexLt A x ++ B).map tAV), T⟩) := by
  refine loop_wp (α := Nat × List (List Int) × List (List Int)) (fun ⟨j, A, B⟩ => j) (fun ⟨j, A, B⟩ => A.length = j ∧ j + 1 + B.length = n) (fun ⟨j, A, B⟩ => ([(0, .rsl l 0 n n 1 false), (1, I 0), (2, I n), (3, cmpF), (8, I i), (9, I j)], ⟨S0.set l ((A ++ x :: B).map tAV), T⟩)) (fun ⟨j, A, B⟩ x_1 en s => x_1 = .exit 2 ∧ en.get 0 = .rsl l 0 n n 1 false ∧ en.get 1 = I 0 ∧ en.get 2 = I n ∧ en.get 3 = cmpF ∧ en.get 8 = I i ∧ s = ⟨S0.set l ((insL lexLt A x ++ B).map tAV), T⟩) (fun ⟨j, A, B⟩ hok => ?_) ⟨j, A, B⟩ hok env st hg
  simp only at hok
  obtain ⟨h1, h2⟩ := hok
  dsimp only at h1 h2 ⊢
  have hget : ∀ C : List AV, (S0.set l C)[l]? = some C := fun C => List.getElem?_set_self hl
  rcases List.eq_nil_or_concat A with rfl | ⟨A', a, rfl⟩
  · have hj : j = 0 := by simpa using h1.symm
    subst hj
    rw [insL_nil]
    simp only [go_sem, reduceIte, Nat.reduceEqDiff, Nat.reduceAdd, Nat.reduceSub, Nat.reduceLeDiff, Nat.reduceLT, reduceCtorEq, Int.reduceLT, Int.reduceLE, Int.reduceEq, Int.reduceBEq, Int.reduceSub, Int.reduceAdd, Int.reduceMul, Int.reduceNeg, Int.reduceToNat, Nat.reduceMul, Nat.reduceBEq, index_rsl_if, setm, make_ints, condK_dec, wantK_dec, not_dec, and_dec, or_dec, seqK_ite, seqK_none, blockK_ite, blockK_none, opsK_ite, opsK_none, stepK_ite, stepK_none, bodyK_ite, bodyK_none, resK_ite, resK_none, leaveK_ite, leaveK_none, only_ite, only_none, bind_ite, gives_some, gives_none, gives_ite, then_normal, then_ret, then_exit, then_none, then_ite, Option.bind_none, Bool.not_eq_true', decide_eq_false_iff_not, Bool.and_eq_true, Bool.or_eq_true, Option.some.injEq, Int.not_lt, Int.not_le, lp99_0, Int.natCast_zero]
  · rw [List.concat_eq_append] at h1 ⊢
    obtain ⟨m, rfl⟩ : ∃ m, j = m + 1 := ⟨A'.length, by rw [← h1]; simp⟩
    have hm : A'.length = m := by simpa using h1
    obtain ⟨hk, hlt⟩ := c48t x a hx
    generalize cmpN x a = k at *
    have hg1 := getT ((A' ++ [a]) ++ x :: B) (m + 1) x (by
      have := at_one (A' ++ [a]) x B
      rwa [h1] at this)
    have hg2 := getT ((A' ++ [a]) ++ x :: B) m a (by
      have := at_one A' a (x :: B)
      rw [hm] at this
      simpa using this)
    have hset : (((A' ++ [a]) ++ x :: B).set (m + 1) a).set m x = A' ++ x :: a :: B := by
      subst hm
      simp
    have hlen : ((A' ++ [a]) ++ x :: B).length = n := by simp; omega
    have hpos : ((0 : Int) < ((m + 1 : Nat) : Int)) = True := eq_true (by omega)
    have hw : IntKind.i64.wrap (((m + 1 : Nat) : Int) - 1) = ((m : Nat) : Int) := by rw [wrap64] <;> omega
    have b0 : ((0 : Int) ≤ ((m + 1 : Nat) : Int)) = True := eq_true (by omega)
    have b1 : (((m + 1 : Nat) : Int) < (n : Int)) = True := eq_true (by omega)
    have b2 : ((0 : Int) ≤ ((m : Nat) : Int)) = True := eq_true (by omega)
    have b3 : (((m : Nat) : Int) < (n : Int)) = True := eq_true (by omega)
    have b4 : (m + 1 < n) = True := eq_true (by omega)
    have b5 : (m < n) = True := eq_true (by omega)
    have b6 : (m + 1 + 1 ≤ n) = True := eq_true (by omega)
    have b7 : (m + 1 ≤ n) = True := eq_true (by omega)
    rw [insL_snoc]
    generalize hX : (A' ++ [a]) ++ x :: B = X at *
    by_cases p : lexLt x a = true
    · rw [p, decide_eq_true_iff] at hlt
      have hk0 : (k < 0) = True := eq_true hlt
      rw [if_pos p]
      simp only [go_sem, reduceIte, Nat.reduceEqDiff, Nat.reduceAdd, Nat.reduceSub, Nat.reduceLeDiff, Nat.reduceLT, reduceCtorEq, Int.reduceLT, Int.reduceLE, Int.reduceEq, Int.reduceBEq, Int.reduceSub, Int.reduceAdd, Int.reduceMul, Int.reduceNeg, Int.reduceToNat, Nat.reduceMul, Nat.reduceBEq, index_rsl_if, setm, make_ints, condK_dec, wantK_dec, not_dec, and_dec, or_dec, seqK_ite, seqK_none, blockK_ite, blockK_none, opsK_ite, opsK_none, stepK_ite, stepK_none, bodyK_ite, bodyK_none, resK_ite, resK_none, leaveK_ite, leaveK_none, only_ite, only_none, bind_ite, gives_some, gives_none, gives_ite, then_normal, then_ret, then_exit, then_none, then_ite, Option.bind_none, Bool.not_eq_true', decide_eq_false_iff_not, Bool.and_eq_true, Bool.or_eq_true, Option.some.injEq, Int.not_lt, Int.not_le, lp99_0, hpos, hw, b0, b1, b2, b3, b4, b5, b6, b7, hg1, hg2, hk, hk0, hget, hlen, List.set_set, show pure 48 = false from rfl, List.length_map, List.length_set]
      refine ⟨(m, A', a :: B), by simp only [go_sem, reduceIte, Nat.reduceEqDiff, Nat.reduceAdd, Nat.reduceSub, Nat.reduceLeDiff, Nat.reduceLT, reduceCtorEq, Int.reduceLT, Int.reduceLE, Int.reduceEq, Int.reduceBEq, Int.reduceSub, Int.reduceAdd, Int.reduceMul, Int.reduceNeg, Int.reduceToNat, Nat.reduceMul, Nat.reduceBEq, ren1_locm, loc_tips, locT_eq, hset] <;> rfl, ?_, ?_, fun x en s hq => ?_⟩
      · dsimp only; exact ⟨hm, by rw [List.length_cons]; omega⟩
      · dsimp only; omega
      · dsimp only at hq; rw [List.append_assoc, List.singleton_append]; exact hq
    · have hlt' : lexLt x a = false := by simpa using p
      rw [hlt', decide_eq_false_iff_not] at hlt
      have hk0 : (k < 0) = False := eq_false hlt
      rw [if_neg p]
      have e : A' ++ [a, x] ++ B = X := by rw [← hX]; simp
      rw [e]
      simp only [go_sem, reduceIte, Nat.reduceEqDiff, Nat.reduceAdd, Nat.reduceSub, Nat.reduceLeDiff, Nat.reduceLT, reduceCtorEq, Int.reduceLT, Int.reduceLE, Int.reduceEq, Int.reduceBEq, Int.reduceSub, Int.reduceAdd, Int.reduceMul, Int.reduceNeg, Int.reduceToNat, Nat.reduceMul, Nat.reduceBEq, index_rsl_if, setm, make_ints, condK_dec, wantK_dec, not_dec, and_dec, or_dec, seqK_ite, seqK_none, blockK_ite, blockK_none, opsK_ite, opsK_none, stepK_ite, stepK_none, bodyK_ite, bodyK_none, resK_ite, resK_none, leaveK_ite, leaveK_none, only_ite, only_none, bind_ite, gives_some, gives_none, gives_ite, then_normal, then_ret, then_exit, then_none, then_ite, Option.bind_none, Bool.not_eq_true', decide_eq_false_iff_not, Bool.and_eq_true, Bool.or_eq_true, Option.some.injEq, Int.not_lt, Int.not_le, lp99_0, hpos, hw, b0, b1, b2, b3, b4, b5, b6, b7, hg1, hg2, hk, hk0, hget, hlen, show pure 48 = false from rfl, List.length_map]

theorem loop99_1 (S0 : List (List AV)) (T : List Nat) (l : Nat) (hl : l < S0.length) (n : Nat) (hn : n ≤ 1000) (lo hi : Nat) (i : Nat) (A : List (List Int)) (B : List (List Int)) (hok : A.length = i ∧ i + B.length = n ∧ ∀ l ∈ B, l.length < 1000000) (env : Env) (st : St)
    (hg : gcAV false lo hi (canon env [0, 1, 2, 3, 8]) st = ([(0, .rsl l 0 n n 1 false), (1, I 0), (2, I n), (3, cmpF), (8, I i)], ⟨S0.set l ((A ++ B).map tAV), T⟩)) :
    ∃ x_1 en s, lim (headed pure (run L) false [0, 1, 2, 3, 8] lp99_1 lo hi) env st = some (x_1, en, s) ∧ (x_1 = .exit 0 ∧ s = ⟨S0.set l ((B.foldl (insL lexLt) A).map tAV), T⟩) := by
  refine loop_wp (α := Nat × List (List Int) × List (List Int)) (fun ⟨i, A, B⟩ => B.length) (fun ⟨i, A, B⟩ => A.length = i ∧ i + B.length = n ∧ ∀ l ∈ B, l.length < 1000000) (fun ⟨i, A, B⟩ => ([(0, .rsl l 0 n n 1 false), (1, I 0), (2, I n), (3, cmpF), (8, I i)], ⟨S0.set l ((A ++ B).map tAV), T⟩)) (fun ⟨i, A, B⟩ x_1 en s => x_1 = .exit 0 ∧ s = ⟨S0.set l ((B.foldl (insL lexLt) A).map tAV), T⟩) (fun ⟨i, A, B⟩ hok => ?_) ⟨i, A, B⟩ hok env st hg
  simp only at hok
  obtain ⟨h1, h2, h3⟩ := hok
  dsimp only at h1 h2 h3 ⊢
  cases B with
  | nil =>
    obtain rfl : i = n := by simpa using h2
    rw [List.append_nil]
    simp only [go_sem, reduceIte, Nat.reduceEqDiff, Nat.reduceAdd, Nat.reduceSub, Nat.reduceLeDiff, Nat.reduceLT, reduceCtorEq, Int.reduceLT, Int.reduceLE, Int.reduceEq, Int.reduceBEq, Int.reduceSub, Int.reduceAdd, Int.reduceMul, Int.reduceNeg, Int.reduceToNat, Nat.reduceMul, Nat.reduceBEq, index_rsl_if, setm, make_ints, condK_dec, wantK_dec, not_dec, and_dec, or_dec, seqK_ite, seqK_none, blockK_ite, blockK_none, opsK_ite, opsK_none, stepK_ite, stepK_none, bodyK_ite, bodyK_none, resK_ite, resK_none, leaveK_ite, leaveK_none, only_ite, only_none, bind_ite, gives_some, gives_none, gives_ite, then_normal, then_ret, then_exit, then_none, then_ite, Option.bind_none, Bool.not_eq_true', decide_eq_false_iff_not, Bool.and_eq_true, Bool.or_eq_true, Option.some.injEq, Int.not_lt, Int.not_le, lp99_1, show ((i : Int) < (i : Int)) = False from eq_false (by omega)]
    rfl
  | cons x B =>
    rw [List.length_cons] at h2
    have hs := succ64 i (by omega)
    have hlt : ((i : Int) < (n : Int)) = True := eq_true (by omega)
    rw [List.foldl_cons]
    simp only [go_sem, reduceIte, Nat.reduceEqDiff, Nat.reduceAdd, Nat.reduceSub, Nat.reduceLeDiff, Nat.reduceLT, reduceCtorEq, Int.reduceLT, Int.reduceLE, Int.reduceEq, Int.reduceBEq, Int.reduceSub, Int.reduceAdd, Int.reduceMul, Int.reduceNeg, Int.reduceToNat, Nat.reduceMul, Nat.reduceBEq, index_rsl_if, setm, make_ints, condK_dec, wantK_dec, not_dec, and_dec, or_dec, seqK_ite, seqK_none, blockK_ite, blockK_none, opsK_ite, opsK_none, stepK_ite, stepK_none, bodyK_ite, bodyK_none, resK_ite, resK_none, leaveK_ite, leaveK_none, only_ite, only_none, bind_ite, gives_some, gives_none, gives_ite, then_normal, then_ret, then_exit, then_none, then_ite, Option.bind_none, Bool.not_eq_true', decide_eq_false_iff_not, Bool.and_eq_true, Bool.or_eq_true, Option.some.injEq, Int.not_lt, Int.not_le, lp99_1, hlt, hs]
    generalize hg : lim (headed pure (run L) false _ lp99_0 _ _) _ _ = o
    obtain ⟨x, en, s, rfl, h2⟩ : ∃ x en s, o = some (x, en, s) ∧ _ := by rw [← hg]; exact loop99_0 S0 T l hl n hn x (h3 x (by simp)) i _ _ i A B ⟨h1, by omega⟩ _ _ (by simp only [go_sem, reduceIte, Nat.reduceEqDiff, Nat.reduceAdd, Nat.reduceSub, Nat.reduceLeDiff, Nat.reduceLT, reduceCtorEq, Int.reduceLT, Int.reduceLE, Int.reduceEq, Int.reduceBEq, Int.reduceSub, Int.reduceAdd, Int.reduceMul, Int.reduceNeg, Int.reduceToNat, Nat.reduceMul, Nat.reduceBEq] <;> rfl)
    clear hg
    obtain ⟨rfl, e0, e1, e2, e3, e8, rfl⟩ := h2
    have hA := insL_len lexLt A x
    simp only [go_sem, reduceIte, Nat.reduceEqDiff, Nat.reduceAdd, Nat.reduceSub, Nat.reduceLeDiff, Nat.reduceLT, reduceCtorEq, Int.reduceLT, Int.reduceLE, Int.reduceEq, Int.reduceBEq, Int.reduceSub, Int.reduceAdd, Int.reduceMul, Int.reduceNeg, Int.reduceToNat, Nat.reduceMul, Nat.reduceBEq, index_rsl_if, setm, make_ints, condK_dec, wantK_dec, not_dec, and_dec, or_dec, seqK_ite, seqK_none, blockK_ite, blockK_none, opsK_ite, opsK_none, stepK_ite, stepK_none, bodyK_ite, bodyK_none, resK_ite, resK_none, leaveK_ite, leaveK_none, only_ite, only_none, bind_ite, gives_some, gives_none, gives_ite, then_normal, then_ret, then_exit, then_none, then_ite, Option.bind_none, Bool.not_eq_true', decide_eq_false_iff_not, Bool.and_eq_true, Bool.or_eq_true, Option.some.injEq, Int.not_lt, Int.not_le, lp99_1, e0, e1, e2, e3, e8, hs]
    refine ⟨(i + 1, insL lexLt A x, B), by simp only [go_sem, reduceIte, Nat.reduceEqDiff, Nat.reduceAdd, Nat.reduceSub, Nat.reduceLeDiff, Nat.reduceLT, reduceCtorEq, Int.reduceLT, Int.reduceLE, Int.reduceEq, Int.reduceBEq, Int.reduceSub, Int.reduceAdd, Int.reduceMul, Int.reduceNeg, Int.reduceToNat, Nat.reduceMul, Nat.reduceBEq, ren1_locm, loc_tips, locT_eq, e0, e1, e2, e3, e8] <;> rfl, ?_, ?_, fun x en s hq => ?_⟩
    · dsimp only; exact ⟨by omega, by omega, fun l hl => h3 l (by simp [hl])⟩
    · dsimp only; omega
    · exact hq

theorem c99 (S : List (List AV)) (T : List Nat) (l : Nat) (X : List (List Int)) (h : S[l]? = some (X.map tAV)) (h1 : 1 ≤ X.length) (hn : X.length ≤ 1000) (hx : ∀ l ∈ X, l.length < 1000000) :
    run L 99 [.rsl l 0 X.length X.length 1 false, I 0, I X.length, cmpF] ⟨S, T⟩ = some (.tup [], ⟨S.set l ((sortL lexLt X).map tAV), T⟩) := by
  rw [run_shared (fn := ir99) rfl rfl]
  have hl := (List.getElem?_eq_some_iff.1 h).1
  have hS := set_same S l _ h
  cases X with
  | nil => simp at h1
  | cons x B =>
    have hw : IntKind.i64.wrap (0 + 1) = 1 := by decide
    rw [sortL_cons]
    generalize hk : (x :: B).length = k at *
    rw [List.length_cons] at hk
    rw [← hS]
    simp only [ir99, go_sem, reduceIte, Nat.reduceEqDiff, Nat.reduceAdd, Nat.reduceSub, Nat.reduceLeDiff, Nat.reduceLT, reduceCtorEq, Int.reduceLT, Int.reduceLE, Int.reduceEq, Int.reduceBEq, Int.reduceSub, Int.reduceAdd, Int.reduceMul, Int.reduceNeg, Int.reduceToNat, Nat.reduceMul, Nat.reduceBEq, hw, List.set_set]
    generalize hg : lim (headed pure (run L) false _ lp99_1 _ _) _ _ = o
    obtain ⟨x, en, s, rfl, h2⟩ : ∃ x en s, o = some (x, en, s) ∧ _ := by rw [← hg]; exact loop99_1 S T l hl k hn _ _ 1 [x] B ⟨rfl, by omega, fun l hl => hx l (by simp [hl])⟩ _ _ (by simp only [go_sem, reduceIte, Nat.reduceEqDiff, Nat.reduceAdd, Nat.reduceSub, Nat.reduceLeDiff, Nat.reduceLT, reduceCtorEq, Int.reduceLT, Int.reduceLE, Int.reduceEq, Int.reduceBEq, Int.reduceSub, Int.reduceAdd, Int.reduceMul, Int.reduceNeg, Int.reduceToNat, Nat.reduceMul, Nat.reduceBEq, show ((1 : Nat) : Int) = 1 from rfl, show [x] ++ B = x :: B from rfl] <;> rfl)
    clear hg
    obtain ⟨rfl, rfl⟩ := h2
    simp only [go_sem, reduceIte, Nat.reduceEqDiff, Nat.reduceAdd, Nat.reduceSub, Nat.reduceLeDiff, Nat.reduceLT, reduceCtorEq, Int.reduceLT, Int.reduceLE, Int.reduceEq, Int.reduceBEq, Int.reduceSub, Int.reduceAdd, Int.reduceMul, Int.reduceNeg, Int.reduceToNat, Nat.reduceMul, Nat.reduceBEq]
theorem loop90 (S : List (List AV)) (T : List Nat) (l : Nat) (X : List (List Int)) (h : S[l]? = some (X.map tAV)) (h1 : 1 ≤ X.length) (hn : X.length ≤ 12) (hx : ∀ l ∈ X, l.length < 1000000) (lim0 : Int) (lo hi : Nat) (u : Nat) (hok : True) (env : Env) (st : St)
    (hg : gcAV false lo hi (canon env [0, 1, 2, 3, 4, 10, 11]) st = ([(0, .rsl l 0 X.length X.length 1 false), (1, I 0), (2, I X.length), (3, I lim0), (4, cmpF), (10, B true), (11, B true)], ⟨S, T⟩)) :
    ∃ x_1 en s, lim (headed pure (run L) false [0, 1, 2, 3, 4, 10, 11] lp90_0 lo hi) env st = some (x_1, en, s) ∧ (x_1 = .ret ∧ s = ⟨S.set l ((sortL lexLt X).map tAV), T⟩) := by
  refine loop_wp (α := Nat) (fun u => u) (fun u => True) (fun u => ([(0, .rsl l 0 X.length X.length 1 false), (1, I 0), (2, I X.length), (3, I lim0), (4, cmpF), (10, B true), (11, B true)], ⟨S, T⟩)) (fun u x_1 en s => x_1 = .ret ∧ s = ⟨S.set l ((sortL lexLt X).map tAV), T⟩) (fun u hok => ?_) u hok env st hg
  have h99 := c99 S T l X h h1 (by omega) hx
  have hw : IntKind.i64.wrap ((X.length : Int) - 0) = (X.length : Int) := by rw [wrap64] <;> omega
  have q : ((X.length : Int) ≤ 12) = True := eq_true (by omega)
  simp only [go_sem, reduceIte, Nat.reduceEqDiff, Nat.reduceAdd, Nat.reduceSub, Nat.reduceLeDiff, Nat.reduceLT, reduceCtorEq, Int.reduceLT, Int.reduceLE, Int.reduceEq, Int.reduceBEq, Int.reduceSub, Int.reduceAdd, Int.reduceMul, Int.reduceNeg, Int.reduceToNat, Nat.reduceMul, Nat.reduceBEq, index_rsl_if, setm, make_ints, condK_dec, wantK_dec, not_dec, and_dec, or_dec, seqK_ite, seqK_none, blockK_ite, blockK_none, opsK_ite, opsK_none, stepK_ite, stepK_none, bodyK_ite, bodyK_none, resK_ite, resK_none, leaveK_ite, leaveK_none, only_ite, only_none, bind_ite, gives_some, gives_none, gives_ite, then_normal, then_ret, then_exit, then_none, then_ite, Option.bind_none, Bool.not_eq_true', decide_eq_false_iff_not, Bool.and_eq_true, Bool.or_eq_true, Option.some.injEq, Int.not_lt, Int.not_le, lp90_0, hw, q, h99, show pure 99 = false from rfl]

def blN (n : Nat) : Nat := if n = 0 then 0 else Nat.log2 n + 1
theorem all91 : (List.range 13).map (fun (n : Nat) => callAV L 60 91 [.v (.int .u64 (n : Int))] ⟨[], []⟩) = (List.range 13).map (fun n => some (I (blN n : Nat), (⟨[], []⟩ : St))) := by kernel_rfl
theorem c91 (n : Nat) (hn : n ≤ 12) (st : St) : run L 91 [.v (.int .u64 (n : Int))] st = some (I (blN n), st) :=
  run_any' (fn := ir91) rfl rfl (callAV_run L 60 _ _ _ _ (all_of all91 n (by omega))) st
theorem c90 (S : List (List AV)) (T : List Nat) (l : Nat) (X : List (List Int)) (h : S[l]? = some (X.map tAV)) (h1 : 1 ≤ X.length) (hn : X.length ≤ 12) (hx : ∀ l ∈ X, l.length < 1000000) (lim0 : Int) :
    run L 90 [.rsl l 0 X.length X.length 1 false, I 0, I X.length, I lim0, cmpF] ⟨S, T⟩ = some (.tup [], ⟨S.set l ((sortL lexLt X).map tAV), T⟩) := by
  rw [run_shared (fn := ir90) rfl rfl]
  simp only [ir90, go_sem, reduceIte, Nat.reduceEqDiff, Nat.reduceAdd, Nat.reduceSub, Nat.reduceLeDiff, Nat.reduceLT, reduceCtorEq, Int.reduceLT, Int.reduceLE, Int.reduceEq, Int.reduceBEq, Int.reduceSub, Int.reduceAdd, Int.reduceMul, Int.reduceNeg, Int.reduceToNat, Nat.reduceMul, Nat.reduceBEq]
  generalize hg : lim (headed pure (run L) false _ lp90_0 _ _) _ _ = o
  obtain ⟨x, en, s, rfl, h2⟩ : ∃ x en s, o = some (x, en, s) ∧ _ := by rw [← hg]; exact loop90 S T l X h h1 hn hx lim0 _ _ 0 trivial _ _ (by simp only [go_sem, reduceIte, Nat.reduceEqDiff, Nat.reduceAdd, Nat.reduceSub, Nat.reduceLeDiff, Nat.reduceLT, reduceCtorEq, Int.reduceLT, Int.reduceLE, Int.reduceEq, Int.reduceBEq, Int.reduceSub, Int.reduceAdd, Int.reduceMul, Int.reduceNeg, Int.reduceToNat, Nat.reduceMul, Nat.reduceBEq] <;> rfl)
  clear hg
  obtain ⟨rfl, rfl⟩ := h2
  simp only [go_sem, reduceIte, Nat.reduceEqDiff, Nat.reduceAdd, Nat.reduceSub, Nat.reduceLeDiff, Nat.reduceLT, reduceCtorEq, Int.reduceLT, Int.reduceLE, Int.reduceEq, Int.reduceBEq, Int.reduceSub, Int.reduceAdd, Int.reduceMul, Int.reduceNeg, Int.reduceToNat, Nat.reduceMul, Nat.reduceBEq]
theorem c54 (S : List (List AV)) (T : List Nat) (l : Nat) (X : List (List Int)) (h : S[l]? = some (X.map tAV)) (h1 : 1 ≤ X.length) (hn : X.length ≤ 12) (hx : ∀ l ∈ X, l.length < 1000000) :
    run L 54 [.rsl l 0 X.length X.length 1 false, cmpF] ⟨S, T⟩ = some (.tup [], ⟨S.set l ((sortL lexLt X).map tAV), T⟩) := by
  rw [run_shared (fn := ir54) rfl rfl]
  have hw : IntKind.u64.wrap (X.length : Int) = (X.length : Int) := by simp [IntKind.wrap, IntKind.bits, IntKind.signed]; omega
  have h91 := fun st => c91 X.length hn st
  have h90 := c90 S T l X h h1 hn hx (blN X.length : Nat)
  simp only [ir54, go_sem, reduceIte, Nat.reduceEqDiff, Nat.reduceAdd, Nat.reduceSub, Nat.reduceLeDiff, Nat.reduceLT, reduceCtorEq, Int.reduceLT, Int.reduceLE, Int.reduceEq, Int.reduceBEq, Int.reduceSub, Int.reduceAdd, Int.reduceMul, Int.reduceNeg, Int.reduceToNat, Nat.reduceMul, Nat.reduceBEq, hw, h91, h90, show pure 90 = false from rfl]

attribute [local go_sem high] and_one shr_u shl_one or_u and_u

/-! ### sets as lists -/
theorem all52 : (List.range 128).map (fun m => callAV L 60 52 [U m] ⟨[], []⟩) = (List.range 128).map (fun m => some (I (tzN m : Nat), (⟨[], []⟩ : St))) := by kernel_rfl
theorem c52 (m : Nat) (hm : m < 128) (st : St) : run L 52 [U m] st = some (I (tzN m : Nat), st) :=
  run_any' (fn := ir52) rfl rfl (callAV_run L 60 _ _ _ _ (all_of all52 m hm)) st
theorem all67 : (List.range 128).map (fun m => callAV L 60 67 [U m] ⟨[], []⟩) = (List.range 128).map (fun m => some (sl 1 true ((memb m).map I), (⟨[], []⟩ : St))) := by kernel_rfl
theorem c67 (m : Nat) (hm : m < 128) (st : St) : run L 67 [U m] st = some (sl 1 true ((memb m).map I), st) :=
  run_any' (fn := ir67) rfl rfl (callAV_run L 60 _ _ _ _ (all_of all67 m hm)) st
theorem memb_len (m : Nat) : (memb m).length ≤ 7 := by
  unfold memb
  rw [List.length_map]
  exact Nat.le_trans (List.length_filter_le _ _) (by simp)

attribute [local go_sem high] and_one shr_u shl_one or_u and_u

/-! ### what speaks against a choice -/
/-- How a word stands to a set: 13, 21, or nothing. -/
def jdg1 (o : List Nat) (m x : Nat) : Int := if m.testBit x = true then (if o.getD x 0 &&& m ≠ 0 then 13 else 0) else (if o.getD x 0 &&& m = 0 then 21 else 0)
def jdgL (o : List Nat) (m : Nat) : Bool → List Nat → Int
  | op, [] => if op then 21 else 0
  | op, x :: r => if jdg1 o m x = 13 then 13 else jdgL o m (op || decide (jdg1 o m x = 21)) r
def jdg (n : Nat) (o : List Nat) (m : Nat) : Int := jdgL o m false (List.range' 0 n)

theorem loop66 (n : Nat) (hn : 1 ≤ n ∧ n ≤ 7) (o : List Nat) (ho : o.length = 7) (hsm : ∀ x ∈ o, x < 128) (m : Nat) (hm : m < 128) (i : Nat) (op : Bool) (hok : i ≤ n) (env : Env) (st : St)
    (hg : gcAV true 1 0 (canon env [1, 5, 12, 13, 14]) st = ([(1, U m), (5, B op), (12, .rsl 0 1 n 7 1 false), (13, I n), (14, I i)], ⟨[webC (n : Int) o], []⟩)) :
    ∃ x_1 en s, lim (headed pure (run L) true [1, 5, 12, 13, 14] lp66_0 1 0) env st = some (x_1, en, s) ∧ (∃ op' : Bool, jdgL o m op (List.range' i (n - i)) = (if op' then 21 else if x_1 = .ret then 13 else 0) ∧ ((x_1 = .exit 0 ∧ en.get 5 = B op') ∨ (x_1 = .ret ∧ op' = false ∧ en.get 4 = I 13))) := by
  refine loop_wp (α := Nat × Bool) (fun ⟨i, op⟩ => n - i) (fun ⟨i, op⟩ => i ≤ n) (fun ⟨i, op⟩ => ([(1, U m), (5, B op), (12, .rsl 0 1 n 7 1 false), (13, I n), (14, I i)], ⟨[webC (n : Int) o], []⟩)) (fun ⟨i, op⟩ x_1 en s => ∃ op' : Bool, jdgL o m op (List.range' i (n - i)) = (if op' then 21 else if x_1 = .ret then 13 else 0) ∧ ((x_1 = .exit 0 ∧ en.get 5 = B op') ∨ (x_1 = .ret ∧ op' = false ∧ en.get 4 = I 13))) (fun ⟨i, op⟩ hok => ?_) ⟨i, op⟩ hok env st hg
  simp only at hok
  dsimp only
  by_cases h : i < n
  · have hs := succ64 i (by omega)
    have hr : List.range' i (n - i) = i :: List.range' (i + 1) (n - (i + 1)) := by
      rw [show n - i = (n - (i + 1)) + 1 by omega, List.range'_succ]
    have hlt : ((i : Int) < (n : Int)) = True := eq_true (by omega)
    have hi0 : ((0 : Int) ≤ (i : Int)) = True := eq_true (by omega)
    have g1 := getW (n : Int) o i (by omega)
    have hlw := lenW (n : Int) o
    rw [ho] at hlw
    have b1 : (1 + i + 1 ≤ 8) = True := eq_true (by omega)
    have hb := bit_one m i
    have hmk := min64 i (by omega)
    have hj : jdg1 o m i = if m.testBit i = true then (if o.getD i 0 &&& m ≠ 0 then 13 else 0) else (if o.getD i 0 &&& m = 0 then 21 else 0) := rfl
    have hand := andN_eq (o.getD i 0) m (small_getD hsm i) hm
    rw [hr]
    have hJ : jdgL o m op (i :: List.range' (i + 1) (n - (i + 1))) = if jdg1 o m i = 13 then 13 else jdgL o m (op || decide (jdg1 o m i = 21)) (List.range' (i + 1) (n - (i + 1))) := rfl
    rw [hJ]
    generalize jdg1 o m i = q at *
    generalize o.getD i 0 = w at *
    generalize w &&& m = c at *
    by_cases p1 : m.testBit i = true
    · rw [if_pos p1] at hj
      by_cases p2 : c = 0
      · have hc : ((c : Int) = 0) = True := eq_true (by omega)
        rw [if_neg (by simp [p2])] at hj
        subst hj
        simp only [go_sem, reduceIte, Nat.reduceEqDiff, Nat.reduceAdd, Nat.reduceSub, Nat.reduceLeDiff, Nat.reduceLT, reduceCtorEq, Int.reduceLT, Int.reduceLE, Int.reduceEq, Int.reduceBEq, Int.reduceSub, Int.reduceAdd, Int.reduceMul, Int.reduceNeg, Int.reduceToNat, Nat.reduceMul, Nat.reduceBEq, index_rsl_if, setm, make_ints, condK_dec, wantK_dec, not_dec, and_dec, or_dec, seqK_ite, seqK_none, blockK_ite, blockK_none, opsK_ite, opsK_none, stepK_ite, stepK_none, bodyK_ite, bodyK_none, resK_ite, resK_none, leaveK_ite, leaveK_none, only_ite, only_none, bind_ite, gives_some, gives_none, gives_ite, then_normal, then_ret, then_exit, then_none, then_ite, Option.bind_none, Bool.not_eq_true', decide_eq_false_iff_not, Bool.and_eq_true, Bool.or_eq_true, Option.some.injEq, Int.not_lt, Int.not_le, lp66_0, hlt, hi0, hs, g1, hlw, b1, hb, hmk, hand, p1, hc]
        refine ⟨(i + 1, op), by simp only [go_sem, reduceIte, Nat.reduceEqDiff, Nat.reduceAdd, Nat.reduceSub, Nat.reduceLeDiff, Nat.reduceLT, reduceCtorEq, Int.reduceLT, Int.reduceLE, Int.reduceEq, Int.reduceBEq, Int.reduceSub, Int.reduceAdd, Int.reduceMul, Int.reduceNeg, Int.reduceToNat, Nat.reduceMul, Nat.reduceBEq, ren1_locm, loc_tips, locT_eq, okRefsW, renCellsW] <;> rfl, ?_, ?_, fun x en s hq => ?_⟩
        · omega
        · omega
        · simpa using hq
      · have hc : ((c : Int) = 0) = False := eq_false (by omega)
        rw [if_pos p2] at hj
        subst hj
        simp only [go_sem, reduceIte, Nat.reduceEqDiff, Nat.reduceAdd, Nat.reduceSub, Nat.reduceLeDiff, Nat.reduceLT, reduceCtorEq, Int.reduceLT, Int.reduceLE, Int.reduceEq, Int.reduceBEq, Int.reduceSub, Int.reduceAdd, Int.reduceMul, Int.reduceNeg, Int.reduceToNat, Nat.reduceMul, Nat.reduceBEq, index_rsl_if, setm, make_ints, condK_dec, wantK_dec, not_dec, and_dec, or_dec, seqK_ite, seqK_none, blockK_ite, blockK_none, opsK_ite, opsK_none, stepK_ite, stepK_none, bodyK_ite, bodyK_none, resK_ite, resK_none, leaveK_ite, leaveK_none, only_ite, only_none, bind_ite, gives_some, gives_none, gives_ite, then_normal, then_ret, then_exit, then_none, then_ite, Option.bind_none, Bool.not_eq_true', decide_eq_false_iff_not, Bool.and_eq_true, Bool.or_eq_true, Option.some.injEq, Int.not_lt, Int.not_le, lp66_0, hlt, hi0, hs, g1, hlw, b1, hb, hmk, hand, p1, hc]
        refine ⟨false, ?_⟩
        simp
    · have p1' : m.testBit i = false := by simpa using p1
      rw [if_neg p1] at hj
      by_cases p2 : c = 0
      · have hc : ((c : Int) = 0) = True := eq_true (by omega)
        rw [if_pos p2] at hj
        subst hj
        simp only [go_sem, reduceIte, Nat.reduceEqDiff, Nat.reduceAdd, Nat.reduceSub, Nat.reduceLeDiff, Nat.reduceLT, reduceCtorEq, Int.reduceLT, Int.reduceLE, Int.reduceEq, Int.reduceBEq, Int.reduceSub, Int.reduceAdd, Int.reduceMul, Int.reduceNeg, Int.reduceToNat, Nat.reduceMul, Nat.reduceBEq, index_rsl_if, setm, make_ints, condK_dec, wantK_dec, not_dec, and_dec, or_dec, seqK_ite, seqK_none, blockK_ite, blockK_none, opsK_ite, opsK_none, stepK_ite, stepK_none, bodyK_ite, bodyK_none, resK_ite, resK_none, leaveK_ite, leaveK_none, only_ite, only_none, bind_ite, gives_some, gives_none, gives_ite, then_normal, then_ret, then_exit, then_none, then_ite, Option.bind_none, Bool.not_eq_true', decide_eq_false_iff_not, Bool.and_eq_true, Bool.or_eq_true, Option.some.injEq, Int.not_lt, Int.not_le, lp66_0, hlt, hi0, hs, g1, hlw, b1, hb, hmk, hand, p1', hc]
        refine ⟨(i + 1, true), by simp only [go_sem, reduceIte, Nat.reduceEqDiff, Nat.reduceAdd, Nat.reduceSub, Nat.reduceLeDiff, Nat.reduceLT, reduceCtorEq, Int.reduceLT, Int.reduceLE, Int.reduceEq, Int.reduceBEq, Int.reduceSub, Int.reduceAdd, Int.reduceMul, Int.reduceNeg, Int.reduceToNat, Nat.reduceMul, Nat.reduceBEq, ren1_locm, loc_tips, locT_eq, okRefsW, renCellsW] <;> rfl, ?_, ?_, fun x en s hq => ?_⟩
        · omega
        · omega
        · simpa using hq
      · have hc : ((c : Int) = 0) = False := eq_false (by omega)
        rw [if_neg p2] at hj
        subst hj
        simp only [go_sem, reduceIte, Nat.reduceEqDiff, Nat.reduceAdd, Nat.reduceSub, Nat.reduceLeDiff, Nat.reduceLT, reduceCtorEq, Int.reduceLT, Int.reduceLE, Int.reduceEq, Int.reduceBEq, Int.reduceSub, Int.reduceAdd, Int.reduceMul, Int.reduceNeg, Int.reduceToNat, Nat.reduceMul, Nat.reduceBEq, index_rsl_if, setm, make_ints, condK_dec, wantK_dec, not_dec, and_dec, or_dec, seqK_ite, seqK_none, blockK_ite, blockK_none, opsK_ite, opsK_none, stepK_ite, stepK_none, bodyK_ite, bodyK_none, resK_ite, resK_none, leaveK_ite, leaveK_none, only_ite, only_none, bind_ite, gives_some, gives_none, gives_ite, then_normal, then_ret, then_exit, then_none, then_ite, Option.bind_none, Bool.not_eq_true', decide_eq_false_iff_not, Bool.and_eq_true, Bool.or_eq_true, Option.some.injEq, Int.not_lt, Int.not_le, lp66_0, hlt, hi0, hs, g1, hlw, b1, hb, hmk, hand, p1', hc]
        refine ⟨(i + 1, op), by simp only [go_sem, reduceIte, Nat.reduceEqDiff, Nat.reduceAdd, Nat.reduceSub, Nat.reduceLeDiff, Nat.reduceLT, reduceCtorEq, Int.reduceLT, Int.reduceLE, Int.reduceEq, Int.reduceBEq, Int.reduceSub, Int.reduceAdd, Int.reduceMul, Int.reduceNeg, Int.reduceToNat, Nat.reduceMul, Nat.reduceBEq, ren1_locm, loc_tips, locT_eq, okRefsW, renCellsW] <;> rfl, ?_, ?_, fun x en s hq => ?_⟩
        · omega
        · omega
        · simpa using hq
  · have hr : n - i = 0 := by omega
    have hlt : ((i : Int) < (n : Int)) = False := eq_false (by omega)
    rw [hr]
    simp only [go_sem, reduceIte, Nat.reduceEqDiff, Nat.reduceAdd, Nat.reduceSub, Nat.reduceLeDiff, Nat.reduceLT, reduceCtorEq, Int.reduceLT, Int.reduceLE, Int.reduceEq, Int.reduceBEq, Int.reduceSub, Int.reduceAdd, Int.reduceMul, Int.reduceNeg, Int.reduceToNat, Nat.reduceMul, Nat.reduceBEq, index_rsl_if, setm, make_ints, condK_dec, wantK_dec, not_dec, and_dec, or_dec, seqK_ite, seqK_none, blockK_ite, blockK_none, opsK_ite, opsK_none, stepK_ite, stepK_none, bodyK_ite, bodyK_none, resK_ite, resK_none, leaveK_ite, leaveK_none, only_ite, only_none, bind_ite, gives_some, gives_none, gives_ite, then_normal, then_ret, then_exit, then_none, then_ite, Option.bind_none, Bool.not_eq_true', decide_eq_false_iff_not, Bool.and_eq_true, Bool.or_eq_true, Option.some.injEq, Int.not_lt, Int.not_le, lp66_0, hlt]
    refine ⟨op, ?_⟩
    simp [jdgL]

theorem c66 (n : Nat) (hn : 1 ≤ n ∧ n ≤ 7) (w : List Nat) (ho : w.length = 7) (hsm : ∀ x ∈ w, x < 128) (m : Nat) (hm : m < 128) (st : St) :
    run L 66 [webAV (n : Int) w, U m] st = some (I (jdg n w m), st) := by
  rw [run_pure (fn := ir66) rfl rfl]
  have g0 := getW0 (n : Int) w
  have hlw := lenW (n : Int) w
  rw [ho] at hlw
  have hsl : sliceaAV 7 1 false (.ptr 0 1) none (some (.v (.int .i64 (n : Int)))) none = some (.rsl 0 1 n 7 1 false) := by
    simp only [sliceaAV, natOr, natOf]
    simp; omega
  unfold jdg
  simp only [ir66, go_sem, reduceIte, Nat.reduceEqDiff, Nat.reduceAdd, Nat.reduceSub, Nat.reduceLeDiff, Nat.reduceLT, reduceCtorEq, Int.reduceLT, Int.reduceLE, Int.reduceEq, Int.reduceBEq, Int.reduceSub, Int.reduceAdd, Int.reduceMul, Int.reduceNeg, Int.reduceToNat, Nat.reduceMul, Nat.reduceBEq, g0, hlw, hsl, pubsW, storableW]
  generalize hg : lim (headed pure (run L) true _ lp66_0 _ _) _ _ = o
  obtain ⟨x, en, s, rfl, h2⟩ : ∃ x en s, o = some (x, en, s) ∧ _ := by rw [← hg]; exact loop66 n hn w ho hsm m hm 0 false (by omega) _ _ (by simp only [go_sem, reduceIte, Nat.reduceEqDiff, Nat.reduceAdd, Nat.reduceSub, Nat.reduceLeDiff, Nat.reduceLT, reduceCtorEq, Int.reduceLT, Int.reduceLE, Int.reduceEq, Int.reduceBEq, Int.reduceSub, Int.reduceAdd, Int.reduceMul, Int.reduceNeg, Int.reduceToNat, Nat.reduceMul, Nat.reduceBEq, okRefsW, renCellsW, Int.natCast_zero] <;> rfl)
  clear hg
  rw [Nat.sub_zero] at h2
  obtain ⟨op, h3, h2⟩ := h2
  rw [h3]
  rcases h2 with ⟨rfl, h4⟩ | ⟨rfl, rfl, h4⟩
  · cases op <;> simp only [go_sem, reduceIte, Nat.reduceEqDiff, Nat.reduceAdd, Nat.reduceSub, Nat.reduceLeDiff, Nat.reduceLT, reduceCtorEq, Int.reduceLT, Int.reduceLE, Int.reduceEq, Int.reduceBEq, Int.reduceSub, Int.reduceAdd, Int.reduceMul, Int.reduceNeg, Int.reduceToNat, Nat.reduceMul, Nat.reduceBEq, h4]
  · simp only [go_sem, reduceIte, Nat.reduceEqDiff, Nat.reduceAdd, Nat.reduceSub, Nat.reduceLeDiff, Nat.reduceLT, reduceCtorEq, Int.reduceLT, Int.reduceLE, Int.reduceEq, Int.reduceBEq, Int.reduceSub, Int.reduceAdd, Int.reduceMul, Int.reduceNeg, Int.reduceToNat, Nat.reduceMul, Nat.reduceBEq, h4]


def leastOf {α : Type} (f : α → Int) (Y : List α) : List α := Y.filter fun a => Y.all fun y => decide (f a ≤ f y)
theorem mem_least {α : Type} {f : α → Int} {Y : List α} {a : α} : a ∈ leastOf f Y ↔ a ∈ Y ∧ ∀ y ∈ Y, f a ≤ f y := by
  simp [leastOf]
theorem least_one {α : Type} (f : α → Int) : ∀ Y : List α, Y ≠ [] → ∃ a ∈ Y, ∀ y ∈ Y, f a ≤ f y
  | [], h => absurd rfl h
  | [x], _ => ⟨x, by simp, by simp⟩
  | x :: y :: r, _ => by
    obtain ⟨a, h1, h2⟩ := least_one f (y :: r) (by simp)
    by_cases h : f x ≤ f a
    · refine ⟨x, by simp, fun z hz => ?_⟩
      rcases List.mem_cons.1 hz with rfl | hz
      · exact Int.le_refl _
      · have := h2 z hz; omega
    · refine ⟨a, List.mem_cons_of_mem _ h1, fun z hz => ?_⟩
      rcases List.mem_cons.1 hz with rfl | hz
      · omega
      · exact h2 z hz
theorem least_ne {α : Type} (f : α → Int) (Y : List α) (h : Y ≠ []) : leastOf f Y ≠ [] := by
  obtain ⟨a, h1, h2⟩ := least_one f Y h
  intro e
  have := mem_least.2 ⟨h1, h2⟩
  rw [e] at this; simp at this
theorem filter_le_len {α : Type} (p q : α → Bool) : ∀ l : List α, (∀ x ∈ l, p x = true → q x = true) → (l.filter p).length ≤ (l.filter q).length
  | [], _ => by simp
  | a :: l, h => by
    have ih := filter_le_len p q l (fun x hx => h x (by simp [hx]))
    have ha := h a (by simp)
    cases h1 : p a <;> cases h2 : q a <;> simp_all <;> omega
theorem filter_lt {α : Type} (p : α → Bool) : ∀ l : List α, (l.filter p).length + (l.filter fun x => !p x).length = l.length
  | [] => rfl
  | a :: l => by
    have ih := filter_lt p l
    cases h : p a <;> simp [h] <;> omega
theorem nodup_len_le {α : Type} [DecidableEq α] : ∀ (l k : List α), l.Nodup → (∀ x ∈ l, x ∈ k) → l.length ≤ k.length
  | [], _, _, _ => by simp
  | a :: l, k, hn, h => by
    rw [List.nodup_cons] at hn
    have ha := h a (by simp)
    have h1 := nodup_len_le l (k.erase a) hn.2 (fun x hx => by
      have hne : x ≠ a := fun e => hn.1 (e ▸ hx)
      exact (List.mem_erase_of_ne hne).2 (h x (by simp [hx])))
    rw [List.length_erase_of_mem ha] at h1
    have := List.length_pos_of_mem ha
    simp only [List.length_cons]; omega
theorem bit_lt {n x i : Nat} (h : x < 2 ^ n) (h2 : x.testBit i = true) : i < n := by
  rcases Nat.lt_or_ge i n with h3 | h3
  · exact h3
  · have : x.testBit i = false := Nat.testBit_lt_two_pow (Nat.lt_of_lt_of_le h (Nat.pow_le_pow_right (by omega) h3))
    rw [this] at h2; simp at h2
/-! ### how many sets of articles there are that nothing can be added to (Moon and Moser) -/
def gM (k : Nat) : Nat := [1, 1, 2, 3, 4, 6, 9, 12].getD k 0
theorem gM_step : (List.range 8).all (fun k => (List.range 8).all fun d => Nat.ble 1 d && Nat.ble d k → decide (d * gM (k - d) ≤ gM k)) = true := by decide
theorem gM_mono : (List.range 8).all (fun a => (List.range 8).all fun b => Nat.ble a b → decide (gM a ≤ gM b)) = true := by decide
theorem gM_step' {k d : Nat} (hk : k ≤ 7) (h1 : 1 ≤ d) (h2 : d ≤ k) : d * gM (k - d) ≤ gM k := by
  have h := List.all_eq_true.1 (List.all_eq_true.1 gM_step k (List.mem_range.2 (by omega))) d (List.mem_range.2 (by omega))
  rw [decide_eq_true_iff] at h
  exact of_decide_eq_true (h (by rw [Nat.ble_eq_true_of_le h1, Nat.ble_eq_true_of_le h2]; rfl))
theorem gM_mono' {a b : Nat} (hb : b ≤ 7) (h : a ≤ b) : gM a ≤ gM b := by
  have h2 := List.all_eq_true.1 (List.all_eq_true.1 gM_mono a (List.mem_range.2 (by omega))) b (List.mem_range.2 (by omega))
  rw [decide_eq_true_iff] at h2
  exact of_decide_eq_true (h2 (Nat.ble_eq_true_of_le h))
theorem filter_len_lt {α : Type} {p q : α → Bool} : ∀ l : List α, (∀ x ∈ l, p x = true → q x = true) → (∃ x ∈ l, q x = true ∧ p x = false) → (l.filter p).length < (l.filter q).length
  | [], _, h => by obtain ⟨x, hx, _⟩ := h; simp at hx
  | a :: l, h1, h2 => by
    have ih := fun h => filter_len_lt (p := p) (q := q) l (fun x hx => h1 x (by simp [hx])) h
    have hle := filter_le_len p q l (fun x hx => h1 x (by simp [hx]))
    have ha := h1 a (by simp)
    obtain ⟨x, hx, h3, h4⟩ := h2
    rcases List.mem_cons.1 hx with rfl | hx
    · rw [List.filter_cons_of_neg (by simp [h4]), List.filter_cons_of_pos h3, List.length_cons]; omega
    · have := ih ⟨x, hx, h3, h4⟩
      cases e1 : p a
      · rw [List.filter_cons_of_neg (by simp [e1])]
        cases e2 : q a
        · rw [List.filter_cons_of_neg (by simp [e2])]; exact this
        · rw [List.filter_cons_of_pos e2, List.length_cons]; omega
      · rw [List.filter_cons_of_pos e1, List.filter_cons_of_pos (ha e1), List.length_cons, List.length_cons]; omega
theorem union_len {p : Nat → Nat → Bool} {B : Nat} : ∀ (K L : List Nat), (∀ z ∈ L, ∃ w ∈ K, p w z = true) → (∀ w ∈ K, (L.filter (p w)).length ≤ B) → L.length ≤ K.length * B
  | [], L, h, _ => by
    cases L with
    | nil => simp
    | cons z L => obtain ⟨w, hw, _⟩ := h z (by simp); simp at hw
  | w :: K, L, h, hB => by
    have h1 := hB w (by simp)
    have h2 := filter_lt (p w) L
    have h3 := union_len (p := p) (B := B) K (L.filter fun z => !p w z) (by
      intro z hz
      rw [List.mem_filter] at hz
      obtain ⟨u, hu, h4⟩ := h z hz.1
      rcases List.mem_cons.1 hu with rfl | hu
      · rw [h4] at hz; simp at hz
      · exact ⟨u, hu, h4⟩) (by
      intro u hu
      rw [List.filter_filter]
      have h4 := hB u (by simp [hu])
      have h5 := filter_le_len (fun z => p u z && !p w z) (p u) L (fun x _ hx => by rw [Bool.and_eq_true] at hx; exact hx.1)
      omega)
    rw [List.length_cons, Nat.add_mul]; omega
/-- Articles that do not contradict each other, to which none can be added. -/
def Mx (J : Nat → Nat → Bool) (V : Nat → Bool) (z : Nat) : Prop :=
  z < 128 ∧ (∀ u, z.testBit u = true → V u = true) ∧ (∀ u w, z.testBit u = true → z.testBit w = true → J u w = false) ∧ ∀ u, u < 7 → V u = true → z.testBit u = true ∨ ∃ w, w < 7 ∧ z.testBit w = true ∧ J u w = true
def sizeV (V : Nat → Bool) : Nat := ((List.range 7).filter V).length
def nbV (J : Nat → Nat → Bool) (V : Nat → Bool) (v : Nat) : List Nat := (List.range 7).filter fun u => V u && (u == v || J v u)
def offV (J : Nat → Nat → Bool) (V : Nat → Bool) (v : Nat) : Nat → Bool := fun u => V u && !(u == v || J v u)
theorem off_size (J : Nat → Nat → Bool) (V : Nat → Bool) (v : Nat) : sizeV (offV J V v) + (nbV J V v).length = sizeV V := by
  unfold sizeV nbV offV
  have h := filter_lt (fun u => u == v || J v u) ((List.range 7).filter V)
  rw [List.filter_filter, List.filter_filter] at h
  have e1 : (List.range 7).filter (fun u => V u && (u == v || J v u)) = (List.range 7).filter fun u => (u == v || J v u) && V u := by
    congr 1; funext u; exact Bool.and_comm _ _
  have e2 : (List.range 7).filter (fun u => V u && !(u == v || J v u)) = (List.range 7).filter fun u => !(u == v || J v u) && V u := by
    congr 1; funext u; exact Bool.and_comm _ _
  rw [e1, e2]; omega
theorem bit_lt7 {z u : Nat} (hz : z < 128) (h : z.testBit u = true) : u < 7 := bit_lt (n := 7) hz h
theorem xor_bit (z w u : Nat) : (z ^^^ 2 ^ w).testBit u = (z.testBit u ^^ decide (w = u)) := by rw [Nat.testBit_xor, Nat.testBit_two_pow]
theorem xor_back (z w : Nat) : (z ^^^ 2 ^ w) ^^^ 2 ^ w = z := by
  apply Nat.eq_of_testBit_eq
  intro u
  rw [xor_bit, xor_bit, Bool.xor_assoc, Bool.xor_self, Bool.xor_false]
theorem nodup_map_inj {α β : Type} {f : α → β} : ∀ {l : List α}, l.Nodup → (∀ a ∈ l, ∀ b ∈ l, f a = f b → a = b) → (l.map f).Nodup
  | [], _, _ => by simp
  | a :: l, h, hi => by
    rw [List.nodup_cons] at h
    rw [List.map_cons, List.nodup_cons]
    refine ⟨?_, nodup_map_inj h.2 (fun x hx y hy => hi x (by simp [hx]) y (by simp [hy]))⟩
    intro hm
    obtain ⟨b, hb, e⟩ := List.mem_map.1 hm
    have := hi b (by simp [hb]) a (by simp) e
    subst this; exact h.1 hb
theorem mm {J : Nat → Nat → Bool} (hs : ∀ a b, J a b = J b a) (hr : ∀ a, J a a = false) : ∀ (k : Nat), k ≤ 7 → ∀ V : Nat → Bool, (∀ u, V u = true → u < 7) → sizeV V = k → ∀ L : List Nat, L.Nodup → (∀ z ∈ L, Mx J V z) → L.length ≤ gM k := by
  intro k
  induction k using Nat.strongRecOn with
  | ind k ih =>
    intro hk V hV7 hV L hnd hL
    by_cases h0 : k = 0
    · subst h0
      have hno : ∀ u, V u = false := by
        intro u
        cases e : V u
        · rfl
        · have : u ∈ (List.range 7).filter V := List.mem_filter.2 ⟨List.mem_range.2 (hV7 u e), e⟩
          have := List.length_pos_of_mem this
          unfold sizeV at hV; omega
      have := nodup_len_le L [0] hnd (by
        intro z hz
        have hz2 := hL z hz
        have : z = 0 := by
          apply Nat.eq_of_testBit_eq
          intro u
          rw [Nat.zero_testBit]
          cases e : z.testBit u
          · rfl
          · have := hz2.2.1 u e; rw [hno u] at this; simp at this
        simp [this])
      simpa [gM] using this
    · have hne : (List.range 7).filter V ≠ [] := by
        intro e; unfold sizeV at hV; rw [e] at hV; simp at hV; omega
      have hne2 := least_ne (fun u => ((nbV J V u).length : Int)) _ hne
      obtain ⟨v, hv⟩ := List.exists_mem_of_ne_nil _ hne2
      rw [mem_least] at hv
      obtain ⟨hv1, hv2⟩ := hv
      obtain ⟨hv7, hvV⟩ := List.mem_filter.1 hv1
      rw [List.mem_range] at hv7
      have hd1 : 1 ≤ (nbV J V v).length := List.length_pos_of_mem (a := v) (List.mem_filter.2 ⟨List.mem_range.2 hv7, by simp [hvV]⟩)
      have hsz := off_size J V v
      have hB : ∀ w ∈ nbV J V v, (L.filter fun z => z.testBit w).length ≤ gM (k - (nbV J V v).length) := by
        intro w hw
        obtain ⟨hw7, hw2⟩ := List.mem_filter.1 hw
        rw [List.mem_range] at hw7
        rw [Bool.and_eq_true] at hw2
        have hwV := hw2.1
        have hmin := hv2 w (List.mem_filter.2 ⟨List.mem_range.2 hw7, hwV⟩)
        have hw1 : 1 ≤ (nbV J V w).length := List.length_pos_of_mem (a := w) (List.mem_filter.2 ⟨List.mem_range.2 hw7, by simp [hwV]⟩)
        have hszw := off_size J V w
        have hi := ih (sizeV (offV J V w)) (by omega) (by omega) (offV J V w) (by
          intro u hu; unfold offV at hu; rw [Bool.and_eq_true] at hu; exact hV7 u hu.1) rfl ((L.filter fun z => z.testBit w).map fun z => z ^^^ 2 ^ w) (by
          apply nodup_map_inj (hnd.filter _)
          intro a _ b _ e
          have := congrArg (fun z => z ^^^ 2 ^ w) e
          simp only [xor_back] at this
          exact this) (by
          intro z' hz'
          obtain ⟨z, hz, rfl⟩ := List.mem_map.1 hz'
          obtain ⟨hz, hzw⟩ := List.mem_filter.1 hz
          obtain ⟨m1, m2, m3, m4⟩ := hL z hz
          have hbit : ∀ u, (z ^^^ 2 ^ w).testBit u = true ↔ z.testBit u = true ∧ u ≠ w := by
            intro u
            rw [xor_bit]
            by_cases e : w = u
            · subst e; rw [hzw]; simp
            · have : decide (w = u) = false := by simp [e]
              rw [this, Bool.xor_false]
              constructor
              · intro h; exact ⟨h, fun h2 => e h2.symm⟩
              · exact fun h => h.1
          refine ⟨?_, ?_, ?_, ?_⟩
          · exact Nat.xor_lt_two_pow (n := 7) m1 (Nat.pow_lt_pow_right (by omega) hw7)
          · intro u hu
            obtain ⟨h1, h2⟩ := (hbit u).1 hu
            have h3 := m3 w u hzw h1
            unfold offV
            rw [m2 u h1, h3]; simp [h2]
          · intro a b ha hb
            exact m3 a b ((hbit a).1 ha).1 ((hbit b).1 hb).1
          · intro u hu hVu
            unfold offV at hVu
            rw [Bool.and_eq_true] at hVu
            obtain ⟨g1, g2⟩ := hVu
            have g3 : u ≠ w ∧ J w u = false := by
              rw [Bool.not_eq_true', Bool.or_eq_false_iff] at g2
              exact ⟨by simpa using g2.1, g2.2⟩
            rcases m4 u hu g1 with h1 | ⟨x, h1, h2, h3⟩
            · exact .inl ((hbit u).2 ⟨h1, g3.1⟩)
            · refine .inr ⟨x, h1, (hbit x).2 ⟨h2, ?_⟩, h3⟩
              rintro rfl
              rw [hs] at h3; rw [h3] at g3; simp at g3)
        rw [List.length_map] at hi
        have := gM_mono' (a := sizeV (offV J V w)) (b := k - (nbV J V v).length) (by omega) (by omega)
        omega
      have hU := union_len (p := fun w z => z.testBit w) (B := gM (k - (nbV J V v).length)) (nbV J V v) L (by
        intro z hz
        obtain ⟨m1, m2, m3, m4⟩ := hL z hz
        rcases m4 v hv7 hvV with h1 | ⟨w, h1, h2, h3⟩
        · exact ⟨v, List.mem_filter.2 ⟨List.mem_range.2 hv7, by simp [hvV]⟩, h1⟩
        · exact ⟨w, List.mem_filter.2 ⟨List.mem_range.2 h1, by rw [m2 w h2, h3]; simp⟩, h2⟩) hB
      have := gM_step' hk hd1 (by omega)
      omega

/-! ### there are at most twelve choices -/
def adjB (ps : List (Int × Int)) (a b : Nat) : Bool := decide (((a : Int), (b : Int)) ∈ ps) || decide (((b : Int), (a : Int)) ∈ ps)
theorem jdgL_zero (w : List Nat) (m : Nat) : ∀ (l : List Nat) (op : Bool), jdgL w m op l = 0 ↔ op = false ∧ ∀ x ∈ l, jdg1 w m x = 0
  | [], op => by cases op <;> simp [jdgL]
  | x :: r, op => by
    have ih := jdgL_zero w m r
    have h3 : jdg1 w m x = 13 ∨ jdg1 w m x = 21 ∨ jdg1 w m x = 0 := by unfold jdg1; split <;> split <;> simp
    simp only [jdgL]
    rcases h3 with h | h | h
    · rw [if_pos h]; simp [h]
    · rw [if_neg (by omega), ih]; simp [h]
    · rw [if_neg (by omega), ih]; simp [h]
theorem jdg_zero (n : Nat) (w : List Nat) (m : Nat) : jdg n w m = 0 ↔ ∀ x, x < n → (m.testBit x = true ↔ w.getD x 0 &&& m = 0) := by
  unfold jdg
  rw [jdgL_zero]
  have e : ∀ x, jdg1 w m x = 0 ↔ (m.testBit x = true ↔ w.getD x 0 &&& m = 0) := by
    intro x
    unfold jdg1
    by_cases h1 : m.testBit x = true <;> by_cases h2 : w.getD x 0 &&& m = 0 <;> simp [h1, h2]
  constructor
  · rintro ⟨_, h⟩ x hx
    exact (e x).1 (h x (by rw [List.mem_range'_1]; omega))
  · intro h
    exact ⟨rfl, fun x hx => (e x).2 (h x (by rw [List.mem_range'_1] at hx; omega))⟩
theorem and_zero (a b : Nat) : a &&& b = 0 ↔ ∀ i, ¬(a.testBit i = true ∧ b.testBit i = true) := by
  constructor
  · intro h i ⟨h1, h2⟩
    have := congrArg (fun z => z.testBit i) h
    simp only [Nat.testBit_and, h1, h2, Nat.zero_testBit, Bool.and_self] at this
    exact absurd this (by simp)
  · intro h
    apply Nat.eq_of_testBit_eq
    intro i
    rw [Nat.testBit_and, Nat.zero_testBit]
    have := h i
    cases h1 : a.testBit i <;> cases h2 : b.testBit i <;> simp_all
/-- A choice, by the references. -/
theorem ker_iff {n : Nat} {ps : List (Int × Int)} (h7 : ∀ p ∈ ps, okP p) {z : Nat} (hz : 7 ≤ z) (m : Nat) : jdg n (seeL z ps) m = 0 ↔ ∀ x, x < n → (m.testBit x = true ↔ ∀ y : Nat, m.testBit y = true → ((x : Int), (y : Int)) ∉ ps) := by
  rw [jdg_zero]
  have e : ∀ x, (seeL z ps).getD x 0 &&& m = 0 ↔ ∀ y : Nat, m.testBit y = true → ((x : Int), (y : Int)) ∉ ps := by
    intro x
    rw [and_zero]
    constructor
    · intro h y hy hp
      exact h y ⟨by rw [seeL_bit hz h7]; simpa using hp, hy⟩
    · rintro h y ⟨h1, h2⟩
      rw [seeL_bit hz h7] at h1
      exact h y h2 (by simpa using h1)
  constructor
  · intro h x hx; rw [h x hx, e]
  · intro h x hx; rw [h x hx, e]
def kerZ (n : Nat) (w : List Nat) : List Nat := (List.range' 0 (2 ^ n)).filter fun m => decide (jdg n w m = 0)
theorem ker_len {n : Nat} (hn : n ≤ 7) {ps : List (Int × Int)} (hps : ∀ p ∈ ps, goodP (n : Int) p) (h7 : ∀ p ∈ ps, okP p) {z : Nat} (hz : 7 ≤ z) : (kerZ n (seeL z ps)).length ≤ 12 := by
  have h128 : 2 ^ n ≤ 128 := Nat.pow_le_pow_right (by omega) hn
  have hsz : sizeV (fun u => decide (u < n)) = n := by
    have : ∀ n, n ≤ 7 → sizeV (fun u => decide (u < n)) = n := by decide
    exact this n hn
  have key := mm (J := adjB ps) (fun a b => by unfold adjB; exact Bool.or_comm _ _) (fun a => by
      cases e : adjB ps a a
      · rfl
      · unfold adjB at e
        rw [Bool.or_self, decide_eq_true_iff] at e
        exact absurd rfl (hps _ e).2.2.2.2) n hn (fun u => decide (u < n)) (fun u hu => by have := of_decide_eq_true hu; omega) hsz (kerZ n (seeL z ps)) (by
      unfold kerZ; exact List.Pairwise.filter _ List.nodup_range') (by
      intro m hm
      unfold kerZ at hm
      obtain ⟨h1, h2⟩ := List.mem_filter.1 hm
      rw [List.mem_range'_1] at h1
      rw [decide_eq_true_iff, ker_iff h7 hz] at h2
      have hmb : ∀ u, m.testBit u = true → u < n := fun u h => bit_lt (by omega) h
      refine ⟨by omega, fun u hu => by simpa using hmb u hu, ?_, ?_⟩
      · intro u v hu hv
        unfold adjB
        rw [Bool.or_eq_false_iff, decide_eq_false_iff_not, decide_eq_false_iff_not]
        exact ⟨(h2 u (hmb u hu)).1 hu v hv, (h2 v (hmb v hv)).1 hv u hu⟩
      · intro u _ hu
        have hun : u < n := of_decide_eq_true hu
        by_cases hb : m.testBit u = true
        · exact .inl hb
        · right
          have h3 : ¬ ∀ y : Nat, m.testBit y = true → ((u : Int), (y : Int)) ∉ ps := fun h => hb ((h2 u hun).2 h)
          rw [Classical.not_forall] at h3
          obtain ⟨y, h3⟩ := h3
          rw [Classical.not_imp, Classical.not_not] at h3
          have := hmb y h3.1
          exact ⟨y, by omega, h3.1, by unfold adjB; simp [h3.2]⟩)
  have g : gM n ≤ 12 := by
    have : ∀ n, n ≤ 7 → gM n ≤ 12 := by decide
    exact this n hn
  omega

attribute [local go_sem] shaped_t cells_t isAgg_t storable_t okRef_t pub_t
attribute [local go_sem high] and_one shr_u shl_one or_u and_u

theorem refsV_t (n : Nat) (acc : List Nat) (l : List Int) : refsV n acc (tAV l) = acc := refsV_sl n acc 1 true (l.map I)
theorem mapL_t (n : Nat) (M : List Nat) (l : List Int) : mapL n M (tAV l) = tAV l := mapL_sl n M 1 true (l.map I)
theorem refsL_T (n : Nat) : ∀ (X : List (List Int)) (acc : List Nat), refsL n acc (X.map tAV) = acc
  | [], acc => by simp only [List.map_nil, refsL]
  | x :: r, acc => by
    have e : refsV n acc (tAV x) = acc := refsV_sl n acc 1 true (x.map I)
    simp only [List.map_cons, refsL, e, refsL_T n r]
theorem mapLs_T (n : Nat) (M : List Nat) : ∀ (X : List (List Int)), mapLs n M (X.map tAV) = X.map tAV
  | [] => by simp only [List.map_nil, mapLs]
  | x :: r => by
    have e : mapL n M (tAV x) = tAV x := mapL_sl n M 1 true (x.map I)
    simp only [List.map_cons, mapLs, e, mapLs_T n M r]
theorem ren1_t (n : Nat) (tips : List Nat) (l : List Int) (acc : List (Nat × Nat)) : ren1 n tips acc (tAV l) = (tAV l, acc) := by
  unfold tAV
  cases l with
  | nil => rfl
  | cons a r => rw [sl_ne (by simp)]; simp [ren1]
theorem okRefsT (n : Nat) (X : List (List Int)) : okRefs n (X.map tAV) = true := okRefs_map tAV n (okRef_t n) X
theorem renCellsT (n : Nat) (tips : List Nat) (acc : List (Nat × Nat)) (X : List (List Int)) : renCells n tips acc (X.map tAV) = (X.map tAV, acc) := renCells_map tAV n tips (ren1_t n tips) X acc
theorem refsL_W (k : Nat) (n : Int) (w : List Nat) (acc : List Nat) : refsL k acc (webC n w) = acc := by
  unfold webC; simp only [refsL, refsV, refsL_U]
theorem mapLs_W (k : Nat) (M : List Nat) (n : Int) (w : List Nat) : mapLs k M (webC n w) = webC n w := by
  unfold webC; simp only [mapLs, mapL, mapLs_U]
theorem refsL_J (n : Nat) (xs : List Nat) (acc : List Nat) : refsL n acc (xs.map J) = acc := refsL_kind n (fun (n : Nat) => Value.int .i64 (n : Int)) xs acc
theorem mapLs_J (n : Nat) (M : List Nat) (xs : List Nat) : mapLs n M (xs.map J) = xs.map J := mapLs_kind n M (fun (n : Nat) => Value.int .i64 (n : Int)) xs

/-! ### lists that grow in the store, behind two blocks -/
theorem happ_nil (l : List Int) (S : List (List AV)) : appendmAV 1 false (.v (.slice none 0 0)) [tAV l] ⟨S, []⟩ = some (.rsl S.length 0 1 1 1 false, ⟨S ++ [[tAV l]], []⟩) := by
  simp [appendmAV, newM, maxGrow, flatAV, cells_t]
theorem happ_at (b c : List AV) (X : List (List Int)) (l : List Int) (h : 1 ≤ X.length) (h2 : X.length ≤ 1000) : appendmAV 1 false (.rsl 2 0 X.length X.length 1 false) [tAV l] ⟨[b, c, X.map tAV], []⟩ = some (.rsl 3 0 (X.length + 1) (X.length + 1) 1 false, ⟨[b, c, [], (X ++ [l]).map tAV], []⟩) := by
  have htk : (X.map tAV).take X.length = X.map tAV := List.take_of_length_le (by simp)
  simp only [appendmAV, List.getElem?_cons_succ, List.getElem?_cons_zero, List.length_cons, List.length_nil, List.length_map, Nat.mul_one, htk]
  rw [if_pos ⟨trivial, trivial, Nat.le_refl _, by omega, by omega⟩, if_neg (by omega), if_pos ⟨trivial, by unfold maxGrow; omega, by omega⟩]
  simp [flatAV, cells_t]
def kA (X : List (List Int)) : AV := if X = [] then .v (.slice none 0 0) else .rsl 2 0 X.length X.length 1 false
def kS (X : List (List Int)) : List (List AV) := if X = [] then [] else [X.map tAV]
theorem kA_ne {X : List (List Int)} (h : X ≠ []) : kA X = .rsl 2 0 X.length X.length 1 false := by unfold kA; rw [if_neg h]
theorem kS_ne {X : List (List Int)} (h : X ≠ []) : kS X = [X.map tAV] := by unfold kS; rw [if_neg h]
theorem kA_one (l : List Int) : kA [l] = .rsl 2 0 1 1 1 false := rfl
theorem kS_one (l : List Int) : kS [l] = [[tAV l]] := rfl
theorem kA_snoc (X : List (List Int)) (l : List Int) : kA (X ++ [l]) = .rsl 2 0 (X.length + 1) (X.length + 1) 1 false := by rw [kA_ne (by simp)]; simp
theorem kS_snoc (X : List (List Int)) (l : List Int) : kS (X ++ [l]) = [(X ++ [l]).map tAV] := kS_ne (by simp)

/-- The sets among some that nothing speaks against. -/
def kerL (f : Nat → Int) (l : List Nat) : List (List Int) := (l.filter fun m => decide (f m = 0)).map memb
theorem kerL_cons (f : Nat → Int) (m : Nat) (l : List Nat) : kerL f (m :: l) = (if f m = 0 then [memb m] else []) ++ kerL f l := by
  unfold kerL
  by_cases h : f m = 0
  · rw [if_pos h, List.filter_cons_of_pos (by simpa using h), List.map_cons]; rfl
  · rw [if_neg h, List.filter_cons_of_neg (by simpa using h)]; rfl

set_option maxHeartbeats 1000000 in
theorem loop20 (nl : Bool) (n : Nat) (hn : 1 ≤ n ∧ n ≤ 7) (ps : List (Int × Int)) (w : List Nat) (ho : w.length = 7) (hsm : ∀ x ∈ w, x < 128) (m : Nat) (X : List (List Int)) (hok : m ≤ 2 ^ n ∧ X.length ≤ m) (env : Env) (st : St)
    (hg : gcAV true 2 0 (canon env [4, 6, 18, 19, 3000000]) st = ([(4, .ptr 1 0), (6, kA X), (18, U (2 ^ n)), (19, U m), (3000000, .any)], ⟨bkCells nl (n : Int) ps :: webC (n : Int) w :: kS X, []⟩)) :
    ∃ x_1 en s, lim (headed pure (run L) true [4, 6, 18, 19, 3000000] lp20_0 2 0) env st = some (x_1, en, s) ∧ (x_1 = .exit 0 ∧ en.get 6 = kA (X ++ kerL (jdg n w) (List.range' m (2 ^ n - m))) ∧ s = ⟨bkCells nl (n : Int) ps :: webC (n : Int) w :: kS (X ++ kerL (jdg n w) (List.range' m (2 ^ n - m))), []⟩) := by
  refine loop_wp (α := Nat × List (List Int)) (fun ⟨m, X⟩ => 2 ^ n - m) (fun ⟨m, X⟩ => m ≤ 2 ^ n ∧ X.length ≤ m) (fun ⟨m, X⟩ => ([(4, .ptr 1 0), (6, kA X), (18, U (2 ^ n)), (19, U m), (3000000, .any)], ⟨bkCells nl (n : Int) ps :: webC (n : Int) w :: kS X, []⟩)) (fun ⟨m, X⟩ x_1 en s => x_1 = .exit 0 ∧ en.get 6 = kA (X ++ kerL (jdg n w) (List.range' m (2 ^ n - m))) ∧ s = ⟨bkCells nl (n : Int) ps :: webC (n : Int) w :: kS (X ++ kerL (jdg n w) (List.range' m (2 ^ n - m))), []⟩) (fun ⟨m, X⟩ hok => ?_) ⟨m, X⟩ hok env st hg
  simp only at hok
  obtain ⟨h1, h2⟩ := hok
  dsimp only at h1 h2 ⊢
  have h128 : 2 ^ n ≤ 128 := Nat.le_trans (Nat.pow_le_pow_right (by omega) hn.2) (by decide)
  generalize 2 ^ n = N at *
  have hlw := lenW (n : Int) w
  rw [ho] at hlw
  have htkw : (webC (n : Int) w).take 8 = webC (n : Int) w := List.take_of_length_le (by omega)
  by_cases h : m < N
  · have hs := succU m (by omega)
    have hlt : ((m : Int) < (N : Int)) = True := eq_true (by omega)
    have hr : List.range' m (N - m) = m :: List.range' (m + 1) (N - (m + 1)) := by
      rw [show N - m = (N - (m + 1)) + 1 by omega, List.range'_succ]
    have h66 := fun st => c66 n hn w ho hsm m (by omega) st
    have h67 : ∀ st, run L 67 [U m] st = some (tAV (memb m), st) := fun st => c67 m (by omega) st
    have hN := fun S => happ_nil (memb m) S
    rw [hr, kerL_cons]
    by_cases he : jdg n w m = 0
    · rw [if_pos he]
      have he' : (jdg n w m = 0) = True := eq_true he
      by_cases hX : X = []
      · subst hX
        have eA : kA [] = .v (.slice none 0 0) := rfl
        have eS : kS [] = [] := rfl
        generalize memb m = l at *
        simp only [go_sem, reduceIte, Nat.reduceEqDiff, Nat.reduceAdd, Nat.reduceSub, Nat.reduceLeDiff, Nat.reduceLT, reduceCtorEq, Int.reduceLT, Int.reduceLE, Int.reduceEq, Int.reduceBEq, Int.reduceSub, Int.reduceAdd, Int.reduceMul, Int.reduceNeg, Int.reduceToNat, Nat.reduceMul, Nat.reduceBEq, index_rsl_if, setm, make_ints, condK_dec, wantK_dec, not_dec, and_dec, or_dec, seqK_ite, seqK_none, blockK_ite, blockK_none, opsK_ite, opsK_none, stepK_ite, stepK_none, bodyK_ite, bodyK_none, resK_ite, resK_none, leaveK_ite, leaveK_none, only_ite, only_none, bind_ite, gives_some, gives_none, gives_ite, then_normal, then_ret, then_exit, then_none, then_ite, Option.bind_none, Bool.not_eq_true', decide_eq_false_iff_not, Bool.and_eq_true, Bool.or_eq_true, Option.some.injEq, Int.not_lt, Int.not_le, lp20_0, hlt, hs, h66, he', h67, eA, eS, hN, hlw, htkw, pubsW, storableW]
        refine ⟨(m + 1, [l]), by simp only [go_sem, reduceIte, Nat.reduceEqDiff, Nat.reduceAdd, Nat.reduceSub, Nat.reduceLeDiff, Nat.reduceLT, reduceCtorEq, Int.reduceLT, Int.reduceLE, Int.reduceEq, Int.reduceBEq, Int.reduceSub, Int.reduceAdd, Int.reduceMul, Int.reduceNeg, Int.reduceToNat, Nat.reduceMul, Nat.reduceBEq, ren1_locm, loc_tips, locT_eq, kA_one, kS_one, okRefsT, renCellsT, okRefsW, renCellsW, refsL_W, mapLs_W, compact, compactW, refsEnv, refsV, refsL, refsStore, refsAt, mapEnv, mapL, mapLs, newName, posOf, mapStore, pickStore, namesOk, refsV_sl, mapL_sl, refsL_T, mapLs_T, refsV_t, mapL_t, ren1_t, List.contains_nil, List.contains_cons, Option.getD_some, hasKey] <;> rfl, ?_, ?_, fun x en s hq => ?_⟩
        · dsimp only; exact ⟨by omega, by simp⟩
        · dsimp only; omega
        · exact hq
      · have eA := kA_ne hX
        have eS := kS_ne hX
        have hpos : 1 ≤ X.length := by
          cases X with
          | nil => exact absurd rfl hX
          | cons x r => simp
        have hA := happ_at (bkCells nl (n : Int) ps) (webC (n : Int) w) X (memb m) hpos (by omega)
        generalize memb m = l at *
        simp only [go_sem, reduceIte, Nat.reduceEqDiff, Nat.reduceAdd, Nat.reduceSub, Nat.reduceLeDiff, Nat.reduceLT, reduceCtorEq, Int.reduceLT, Int.reduceLE, Int.reduceEq, Int.reduceBEq, Int.reduceSub, Int.reduceAdd, Int.reduceMul, Int.reduceNeg, Int.reduceToNat, Nat.reduceMul, Nat.reduceBEq, index_rsl_if, setm, make_ints, condK_dec, wantK_dec, not_dec, and_dec, or_dec, seqK_ite, seqK_none, blockK_ite, blockK_none, opsK_ite, opsK_none, stepK_ite, stepK_none, bodyK_ite, bodyK_none, resK_ite, resK_none, leaveK_ite, leaveK_none, only_ite, only_none, bind_ite, gives_some, gives_none, gives_ite, then_normal, then_ret, then_exit, then_none, then_ite, Option.bind_none, Bool.not_eq_true', decide_eq_false_iff_not, Bool.and_eq_true, Bool.or_eq_true, Option.some.injEq, Int.not_lt, Int.not_le, lp20_0, hlt, hs, h66, he', h67, eA, eS, hA, hlw, htkw, pubsW, storableW]
        refine ⟨(m + 1, X ++ [l]), by simp only [go_sem, reduceIte, Nat.reduceEqDiff, Nat.reduceAdd, Nat.reduceSub, Nat.reduceLeDiff, Nat.reduceLT, reduceCtorEq, Int.reduceLT, Int.reduceLE, Int.reduceEq, Int.reduceBEq, Int.reduceSub, Int.reduceAdd, Int.reduceMul, Int.reduceNeg, Int.reduceToNat, Nat.reduceMul, Nat.reduceBEq, ren1_locm, loc_tips, locT_eq, kA_snoc, kS_snoc, okRefsT, renCellsT, okRefsW, renCellsW, refsL_W, mapLs_W, compact, compactW, refsEnv, refsV, refsL, refsStore, refsAt, mapEnv, mapL, mapLs, newName, posOf, mapStore, pickStore, namesOk, refsV_sl, mapL_sl, refsL_T, mapLs_T, refsV_t, mapL_t, ren1_t, List.contains_nil, List.contains_cons, Option.getD_some, hasKey] <;> rfl, ?_, ?_, fun x en s hq => ?_⟩
        · dsimp only; exact ⟨by omega, by simp; omega⟩
        · dsimp only; omega
        · simp only [List.append_assoc] at hq; exact hq
    · rw [if_neg he]
      have he' : (jdg n w m = 0) = False := eq_false he
      by_cases hX : X = []
      · subst hX
        have eA : kA [] = .v (.slice none 0 0) := rfl
        have eS : kS [] = [] := rfl
        simp only [go_sem, reduceIte, Nat.reduceEqDiff, Nat.reduceAdd, Nat.reduceSub, Nat.reduceLeDiff, Nat.reduceLT, reduceCtorEq, Int.reduceLT, Int.reduceLE, Int.reduceEq, Int.reduceBEq, Int.reduceSub, Int.reduceAdd, Int.reduceMul, Int.reduceNeg, Int.reduceToNat, Nat.reduceMul, Nat.reduceBEq, index_rsl_if, setm, make_ints, condK_dec, wantK_dec, not_dec, and_dec, or_dec, seqK_ite, seqK_none, blockK_ite, blockK_none, opsK_ite, opsK_none, stepK_ite, stepK_none, bodyK_ite, bodyK_none, resK_ite, resK_none, leaveK_ite, leaveK_none, only_ite, only_none, bind_ite, gives_some, gives_none, gives_ite, then_normal, then_ret, then_exit, then_none, then_ite, Option.bind_none, Bool.not_eq_true', decide_eq_false_iff_not, Bool.and_eq_true, Bool.or_eq_true, Option.some.injEq, Int.not_lt, Int.not_le, lp20_0, hlt, hs, h66, he', eA, eS, hlw, htkw, pubsW, storableW]
        refine ⟨(m + 1, ([] : List (List Int))), by simp only [go_sem, reduceIte, Nat.reduceEqDiff, Nat.reduceAdd, Nat.reduceSub, Nat.reduceLeDiff, Nat.reduceLT, reduceCtorEq, Int.reduceLT, Int.reduceLE, Int.reduceEq, Int.reduceBEq, Int.reduceSub, Int.reduceAdd, Int.reduceMul, Int.reduceNeg, Int.reduceToNat, Nat.reduceMul, Nat.reduceBEq, ren1_locm, loc_tips, locT_eq, eA, eS, okRefsT, renCellsT, okRefsW, renCellsW, refsL_W, mapLs_W, compact, compactW, refsEnv, refsV, refsL, refsStore, refsAt, mapEnv, mapL, mapLs, newName, posOf, mapStore, pickStore, namesOk, refsV_sl, mapL_sl, refsL_T, mapLs_T, refsV_t, mapL_t, ren1_t, List.contains_nil, List.contains_cons, Option.getD_some, hasKey] <;> rfl, ?_, ?_, fun x en s hq => ?_⟩
        · dsimp only; exact ⟨by omega, by simp⟩
        · dsimp only; omega
        · exact hq
      · have eA := kA_ne hX
        have eS := kS_ne hX
        simp only [go_sem, reduceIte, Nat.reduceEqDiff, Nat.reduceAdd, Nat.reduceSub, Nat.reduceLeDiff, Nat.reduceLT, reduceCtorEq, Int.reduceLT, Int.reduceLE, Int.reduceEq, Int.reduceBEq, Int.reduceSub, Int.reduceAdd, Int.reduceMul, Int.reduceNeg, Int.reduceToNat, Nat.reduceMul, Nat.reduceBEq, index_rsl_if, setm, make_ints, condK_dec, wantK_dec, not_dec, and_dec, or_dec, seqK_ite, seqK_none, blockK_ite, blockK_none, opsK_ite, opsK_none, stepK_ite, stepK_none, bodyK_ite, bodyK_none, resK_ite, resK_none, leaveK_ite, leaveK_none, only_ite, only_none, bind_ite, gives_some, gives_none, gives_ite, then_normal, then_ret, then_exit, then_none, then_ite, Option.bind_none, Bool.not_eq_true', decide_eq_false_iff_not, Bool.and_eq_true, Bool.or_eq_true, Option.some.injEq, Int.not_lt, Int.not_le, lp20_0, hlt, hs, h66, he', eA, eS, hlw, htkw, pubsW, storableW]
        refine ⟨(m + 1, X), by simp only [go_sem, reduceIte, Nat.reduceEqDiff, Nat.reduceAdd, Nat.reduceSub, Nat.reduceLeDiff, Nat.reduceLT, reduceCtorEq, Int.reduceLT, Int.reduceLE, Int.reduceEq, Int.reduceBEq, Int.reduceSub, Int.reduceAdd, Int.reduceMul, Int.reduceNeg, Int.reduceToNat, Nat.reduceMul, Nat.reduceBEq, ren1_locm, loc_tips, locT_eq, eA, eS, okRefsT, renCellsT, okRefsW, renCellsW, refsL_W, mapLs_W, compact, compactW, refsEnv, refsV, refsL, refsStore, refsAt, mapEnv, mapL, mapLs, newName, posOf, mapStore, pickStore, namesOk, refsV_sl, mapL_sl, refsL_T, mapLs_T, refsV_t, mapL_t, ren1_t, List.contains_nil, List.contains_cons, Option.getD_some, hasKey] <;> rfl, ?_, ?_, fun x en s hq => ?_⟩
        · dsimp only; exact ⟨by omega, by omega⟩
        · dsimp only; omega
        · exact hq
  · have hr : N - m = 0 := by omega
    have hlt : ((m : Int) < (N : Int)) = False := eq_false (by omega)
    rw [hr]
    have e : X ++ kerL (jdg n w) (List.range' m 0) = X := by simp [kerL]
    simp only [go_sem, reduceIte, Nat.reduceEqDiff, Nat.reduceAdd, Nat.reduceSub, Nat.reduceLeDiff, Nat.reduceLT, reduceCtorEq, Int.reduceLT, Int.reduceLE, Int.reduceEq, Int.reduceBEq, Int.reduceSub, Int.reduceAdd, Int.reduceMul, Int.reduceNeg, Int.reduceToNat, Nat.reduceMul, Nat.reduceBEq, index_rsl_if, setm, make_ints, condK_dec, wantK_dec, not_dec, and_dec, or_dec, seqK_ite, seqK_none, blockK_ite, blockK_none, opsK_ite, opsK_none, stepK_ite, stepK_none, bodyK_ite, bodyK_none, resK_ite, resK_none, leaveK_ite, leaveK_none, only_ite, only_none, bind_ite, gives_some, gives_none, gives_ite, then_normal, then_ret, then_exit, then_none, then_ite, Option.bind_none, Bool.not_eq_true', decide_eq_false_iff_not, Bool.and_eq_true, Bool.or_eq_true, Option.some.injEq, Int.not_lt, Int.not_le, lp20_0, hlt]
    rw [e]; exact ⟨rfl, rfl⟩

attribute [local go_sem] shaped_t cells_t isAgg_t storable_t okRef_t pub_t
attribute [local go_sem high] and_one shr_u shl_one or_u and_u

/-- Nothing to sort. -/
theorem c99n (st : St) : run L 99 [.v (.slice none 0 0), I 0, I 0, cmpF] st = some (.tup [], st) := by
  rw [run_shared (fn := ir99) rfl rfl]
  have hw : IntKind.i64.wrap (0 + 1) = 1 := by decide
  simp only [ir99, go_sem, reduceIte, Nat.reduceEqDiff, Nat.reduceAdd, Nat.reduceSub, Nat.reduceLeDiff, Nat.reduceLT, reduceCtorEq, Int.reduceLT, Int.reduceLE, Int.reduceEq, Int.reduceBEq, Int.reduceSub, Int.reduceAdd, Int.reduceMul, Int.reduceNeg, Int.reduceToNat, Nat.reduceMul, Nat.reduceBEq, hw]
  generalize hg : lim (headed pure (run L) false _ lp99_1 _ _) _ _ = o
  obtain ⟨x, en, s, rfl, h2⟩ : ∃ x en s, o = some (x, en, s) ∧ (x = .exit 0 ∧ s = st) := by
    rw [← hg]
    refine loop_wp (α := Nat) (fun _ => 0) (fun _ => True) (fun _ => ([(0, .v (.slice none 0 0)), (1, I 0), (2, I 0), (3, cmpF), (8, I 1)], st)) (fun _ x_1 en s => x_1 = .exit 0 ∧ s = st) (fun _ hok => ?_) 0 trivial _ _ (by simp only [go_sem, reduceIte, Nat.reduceEqDiff, Nat.reduceAdd, Nat.reduceSub, Nat.reduceLeDiff, Nat.reduceLT, reduceCtorEq, Int.reduceLT, Int.reduceLE, Int.reduceEq, Int.reduceBEq, Int.reduceSub, Int.reduceAdd, Int.reduceMul, Int.reduceNeg, Int.reduceToNat, Nat.reduceMul, Nat.reduceBEq] <;> rfl)
    simp only [go_sem, reduceIte, Nat.reduceEqDiff, Nat.reduceAdd, Nat.reduceSub, Nat.reduceLeDiff, Nat.reduceLT, reduceCtorEq, Int.reduceLT, Int.reduceLE, Int.reduceEq, Int.reduceBEq, Int.reduceSub, Int.reduceAdd, Int.reduceMul, Int.reduceNeg, Int.reduceToNat, Nat.reduceMul, Nat.reduceBEq, index_rsl_if, setm, make_ints, condK_dec, wantK_dec, not_dec, and_dec, or_dec, seqK_ite, seqK_none, blockK_ite, blockK_none, opsK_ite, opsK_none, stepK_ite, stepK_none, bodyK_ite, bodyK_none, resK_ite, resK_none, leaveK_ite, leaveK_none, only_ite, only_none, bind_ite, gives_some, gives_none, gives_ite, then_normal, then_ret, then_exit, then_none, then_ite, Option.bind_none, Bool.not_eq_true', decide_eq_false_iff_not, Bool.and_eq_true, Bool.or_eq_true, Option.some.injEq, Int.not_lt, Int.not_le, lp99_1]
  clear hg
  obtain ⟨rfl, rfl⟩ := h2
  simp only [go_sem, reduceIte, Nat.reduceEqDiff, Nat.reduceAdd, Nat.reduceSub, Nat.reduceLeDiff, Nat.reduceLT, reduceCtorEq, Int.reduceLT, Int.reduceLE, Int.reduceEq, Int.reduceBEq, Int.reduceSub, Int.reduceAdd, Int.reduceMul, Int.reduceNeg, Int.reduceToNat, Nat.reduceMul, Nat.reduceBEq]
theorem c90n (k : Int) (st : St) : run L 90 [.v (.slice none 0 0), I 0, I 0, I k, cmpF] st = some (.tup [], st) := by
  rw [run_shared (fn := ir90) rfl rfl]
  simp only [ir90, go_sem, reduceIte, Nat.reduceEqDiff, Nat.reduceAdd, Nat.reduceSub, Nat.reduceLeDiff, Nat.reduceLT, reduceCtorEq, Int.reduceLT, Int.reduceLE, Int.reduceEq, Int.reduceBEq, Int.reduceSub, Int.reduceAdd, Int.reduceMul, Int.reduceNeg, Int.reduceToNat, Nat.reduceMul, Nat.reduceBEq]
  generalize hg : lim (headed pure (run L) false _ lp90_0 _ _) _ _ = o
  obtain ⟨x, en, s, rfl, h2⟩ : ∃ x en s, o = some (x, en, s) ∧ (x = .ret ∧ s = st) := by
    rw [← hg]
    refine loop_wp (α := Nat) (fun _ => 0) (fun _ => True) (fun _ => ([(0, .v (.slice none 0 0)), (1, I 0), (2, I 0), (3, I k), (4, cmpF), (10, B true), (11, B true)], st)) (fun _ x_1 en s => x_1 = .ret ∧ s = st) (fun _ hok => ?_) 0 trivial _ _ (by simp only [go_sem, reduceIte, Nat.reduceEqDiff, Nat.reduceAdd, Nat.reduceSub, Nat.reduceLeDiff, Nat.reduceLT, reduceCtorEq, Int.reduceLT, Int.reduceLE, Int.reduceEq, Int.reduceBEq, Int.reduceSub, Int.reduceAdd, Int.reduceMul, Int.reduceNeg, Int.reduceToNat, Nat.reduceMul, Nat.reduceBEq] <;> rfl)
    have hw : IntKind.i64.wrap 0 = 0 := by decide
    have hlt : ((0 : Int) ≤ 12) = True := eq_true (by omega)
    have h99 := c99n
    simp only [go_sem, reduceIte, Nat.reduceEqDiff, Nat.reduceAdd, Nat.reduceSub, Nat.reduceLeDiff, Nat.reduceLT, reduceCtorEq, Int.reduceLT, Int.reduceLE, Int.reduceEq, Int.reduceBEq, Int.reduceSub, Int.reduceAdd, Int.reduceMul, Int.reduceNeg, Int.reduceToNat, Nat.reduceMul, Nat.reduceBEq, index_rsl_if, setm, make_ints, condK_dec, wantK_dec, not_dec, and_dec, or_dec, seqK_ite, seqK_none, blockK_ite, blockK_none, opsK_ite, opsK_none, stepK_ite, stepK_none, bodyK_ite, bodyK_none, resK_ite, resK_none, leaveK_ite, leaveK_none, only_ite, only_none, bind_ite, gives_some, gives_none, gives_ite, then_normal, then_ret, then_exit, then_none, then_ite, Option.bind_none, Bool.not_eq_true', decide_eq_false_iff_not, Bool.and_eq_true, Bool.or_eq_true, Option.some.injEq, Int.not_lt, Int.not_le, lp90_0, hw, hlt, h99, show pure 99 = false from rfl]
  clear hg
  obtain ⟨rfl, rfl⟩ := h2
  simp only [go_sem, reduceIte, Nat.reduceEqDiff, Nat.reduceAdd, Nat.reduceSub, Nat.reduceLeDiff, Nat.reduceLT, reduceCtorEq, Int.reduceLT, Int.reduceLE, Int.reduceEq, Int.reduceBEq, Int.reduceSub, Int.reduceAdd, Int.reduceMul, Int.reduceNeg, Int.reduceToNat, Nat.reduceMul, Nat.reduceBEq]
theorem c54n (st : St) : run L 54 [.v (.slice none 0 0), cmpF] st = some (.tup [], st) := by
  rw [run_shared (fn := ir54) rfl rfl]
  have hw : IntKind.u64.wrap 0 = 0 := by decide
  have h91 := fun st => c91 0 (by omega) st
  have h90 := fun st => c90n (blN 0 : Nat) st
  simp only [Int.natCast_zero] at h91
  simp only [ir54, go_sem, reduceIte, Nat.reduceEqDiff, Nat.reduceAdd, Nat.reduceSub, Nat.reduceLeDiff, Nat.reduceLT, reduceCtorEq, Int.reduceLT, Int.reduceLE, Int.reduceEq, Int.reduceBEq, Int.reduceSub, Int.reduceAdd, Int.reduceMul, Int.reduceNeg, Int.reduceToNat, Nat.reduceMul, Nat.reduceBEq, hw, h91, h90, show pure 90 = false from rfl]

/-! ### all choices -/
/-- All choices of a book that is checked. -/
def chosL (n : Nat) (ps : List (Int × Int)) : List (List Int) := sortL lexLt (kerL (jdg n (seeL 7 ps)) (List.range' 0 (2 ^ n)))
def allV (n : Int) (ps : List (Int × Int)) : List (List Int) := if chk n ps = 0 then chosL n.toNat ps else []
theorem ker12 {n : Nat} {ps : List (Int × Int)} (hn : n ≤ 7) (hps : ∀ p ∈ ps, goodP (n : Int) p) (h7 : ∀ p ∈ ps, okP p) : (kerL (jdg n (seeL 7 ps)) (List.range' 0 (2 ^ n))).length ≤ 12 := by
  have := ker_len hn hps h7 (Nat.le_refl 7)
  unfold kerL; rw [List.length_map]; exact this
theorem kerL_small (f : Nat → Int) (l : List Nat) : ∀ x ∈ kerL f l, x.length ≤ 7 := by
  intro x hx
  unfold kerL at hx
  obtain ⟨m, _, rfl⟩ := List.mem_map.1 hx
  exact memb_len m
theorem frzL2c {a b cs : List AV} (hne : cs ≠ []) (T : List Nat) (env : Env) :
    frzL 2 env ⟨[a, b, cs], T⟩ = (frzEnv 2 cs env, ⟨[frzVs 2 cs a, frzVs 2 cs b, []], T⟩) := by
  cases cs with
  | nil => exact absurd rfl hne
  | cons c cs => rfl
theorem cell1_t (l : List Int) : cell1 (tAV l) = tAV l := by unfold tAV sl; split <;> rfl
theorem frzV_madeT (l : Nat) (X : List (List Int)) (h : X ≠ []) : frzV l (X.map tAV) (.rsl l 0 X.length X.length 1 false) = sl 1 true (X.map tAV) := by
  simp only [frzV, List.length_map, List.drop_zero]
  rw [if_pos ⟨trivial, by omega, .inr trivial, Nat.le_refl _⟩, pubs_map tAV pub_t, groupm_one tAV cell1_t, sl_ne (by simpa using h)]

attribute [local go_sem] shaped_t cells_t isAgg_t storable_t okRef_t pub_t
attribute [local go_sem high] and_one shr_u shl_one or_u and_u

theorem frzVs_W (l : Nat) (cs : List AV) (n : Int) (w : List Nat) : frzVs l cs (webC n w) = webC n w := by
  unfold webC; simp only [frzVs, frzV_v, frzVs_U]
set_option maxHeartbeats 1000000 in
theorem c20 (nl : Bool) (n : Int) (ps : List (Int × Int)) (st : St) : run L 20 [bkAV nl n ps] st = some (.tup [sl 1 true ((allV n ps).map tAV), I (chk n ps)], st) := by
  rw [run_pure (fn := ir20) rfl rfl]
  have h65 := fun st => c65 nl n ps st
  unfold allV
  by_cases h : chk n ps = 0
  · obtain ⟨h1, hl16, h3, h4, h5⟩ := chk_zero h
    obtain ⟨k, rfl⟩ := Int.eq_ofNat_of_zero_le (show 0 ≤ n by omega)
    have hw : wovL (k : Int) ps = seeL 7 ps := by unfold wovL; rw [if_pos h]
    rw [hw] at h65
    rw [if_pos h, Int.toNat_natCast]
    have hlw := lenW (k : Int) (seeL 7 ps)
    rw [seeL_len] at hlw
    have hpw := putW (k : Int) (seeL 7 ps) (seeL_len 7 ps)
    have g0 := getW0 (k : Int) (seeL 7 ps)
    have hsh : sh1 k = 2 ^ k := sh1_eq k (by omega)
    have h12 := ker12 (n := k) (by omega) (fun p hp => h3 p hp) h4
    have hsm7 := kerL_small (jdg k (seeL 7 ps)) (List.range' 0 (2 ^ k))
    unfold chosL
    simp only [ir20, go_sem, reduceIte, Nat.reduceEqDiff, Nat.reduceAdd, Nat.reduceSub, Nat.reduceLeDiff, Nat.reduceLT, reduceCtorEq, Int.reduceLT, Int.reduceLE, Int.reduceEq, Int.reduceBEq, Int.reduceSub, Int.reduceAdd, Int.reduceMul, Int.reduceNeg, Int.reduceToNat, Nat.reduceMul, Nat.reduceBEq, h65, h, hlw, hpw, g0, hsh, pubsW, storableW]
    generalize hg : lim (headed pure (run L) true _ lp20_0 _ _) _ _ = o
    obtain ⟨x, en, s, rfl, h2⟩ : ∃ x en s, o = some (x, en, s) ∧ _ := by rw [← hg]; exact loop20 nl k (by omega) ps (seeL 7 ps) (seeL_len 7 ps) (seeL_small 7 h4) 0 [] ⟨by omega, by simp⟩ _ _ (by simp only [go_sem, reduceIte, Nat.reduceEqDiff, Nat.reduceAdd, Nat.reduceSub, Nat.reduceLeDiff, Nat.reduceLT, reduceCtorEq, Int.reduceLT, Int.reduceLE, Int.reduceEq, Int.reduceBEq, Int.reduceSub, Int.reduceAdd, Int.reduceMul, Int.reduceNeg, Int.reduceToNat, Nat.reduceMul, Nat.reduceBEq, okRefsW, renCellsW, refsL_W, mapLs_W, compact, compactW, refsEnv, refsV, refsL, refsStore, refsAt, mapEnv, mapL, mapLs, newName, posOf, mapStore, pickStore, namesOk, refsV_sl, mapL_sl, List.contains_nil, List.contains_cons, Option.getD_some, hasKey, Int.natCast_zero, show kA [] = .v (.slice none 0 0) from rfl, show kS [] = [] from rfl] <;> rfl)
    clear hg
    rw [List.nil_append, Nat.sub_zero] at h2
    obtain ⟨rfl, e6, rfl⟩ := h2
    generalize kerL (jdg k (seeL 7 ps)) (List.range' 0 (2 ^ k)) = X at *
    by_cases hX : X = []
    · subst hX
      have eA : kA [] = .v (.slice none 0 0) := rfl
      have eS : kS [] = [] := rfl
      have h54 := fun st => c54n st
      simp only [go_sem, reduceIte, Nat.reduceEqDiff, Nat.reduceAdd, Nat.reduceSub, Nat.reduceLeDiff, Nat.reduceLT, reduceCtorEq, Int.reduceLT, Int.reduceLE, Int.reduceEq, Int.reduceBEq, Int.reduceSub, Int.reduceAdd, Int.reduceMul, Int.reduceNeg, Int.reduceToNat, Nat.reduceMul, Nat.reduceBEq, e6, eA, eS, h54, show pure 54 = false from rfl, code_frz, frzAV, frzT, frzLs, rslsOf, frzEnv, frzEnv_get, frzStore, frzVs, frzV_v, frzV_ptr, frzV_sl]
      rfl
    · have eA := kA_ne hX
      have eS := kS_ne hX
      have hpos : 1 ≤ X.length := by
        cases X with
        | nil => exact absurd rfl hX
        | cons x r => simp
      have hperm := (sortL_perm lexLt X).length_eq
      have hneS : sortL lexLt X ≠ [] := by
        intro e
        rw [e] at hperm; simp at hperm; omega
      have h54 := c54 [bkCells nl (k : Int) ps, webC (k : Int) (seeL 7 ps), X.map tAV] [] 2 X rfl hpos h12 (fun l hl => by have := hsm7 l hl; omega)
      have hfz := fun T env => frzL2c (a := bkCells nl (k : Int) ps) (b := webC (k : Int) (seeL 7 ps)) (cs := (sortL lexLt X).map tAV) (by simpa using hneS) T env
      have hfv := frzV_madeT 2 (sortL lexLt X) hneS
      rw [hperm] at hfv
      have hset : [bkCells nl (k : Int) ps, webC (k : Int) (seeL 7 ps), X.map tAV].set 2 ((sortL lexLt X).map tAV) = [bkCells nl (k : Int) ps, webC (k : Int) (seeL 7 ps), (sortL lexLt X).map tAV] := rfl
      rw [hset] at h54
      simp only [go_sem, reduceIte, Nat.reduceEqDiff, Nat.reduceAdd, Nat.reduceSub, Nat.reduceLeDiff, Nat.reduceLT, reduceCtorEq, Int.reduceLT, Int.reduceLE, Int.reduceEq, Int.reduceBEq, Int.reduceSub, Int.reduceAdd, Int.reduceMul, Int.reduceNeg, Int.reduceToNat, Nat.reduceMul, Nat.reduceBEq, e6, eA, eS, h54, show pure 54 = false from rfl, code_frz, frzAV, frzT, frzLs, rslsOf, hfz, frzEnv, frzEnv_get, frzStore, frzVs, frzV_v, frzV_ptr, frzV_sl, hfv, frzVs_W]
  · rw [if_neg h]
    have hl7 : (wovL n ps).length = 7 := by unfold wovL; rw [if_neg h]; simp
    have hlw := lenW n (wovL n ps)
    rw [hl7] at hlw
    have hpw := putW n (wovL n ps) hl7
    simp only [ir20, go_sem, reduceIte, Nat.reduceEqDiff, Nat.reduceAdd, Nat.reduceSub, Nat.reduceLeDiff, Nat.reduceLT, reduceCtorEq, Int.reduceLT, Int.reduceLE, Int.reduceEq, Int.reduceBEq, Int.reduceSub, Int.reduceAdd, Int.reduceMul, Int.reduceNeg, Int.reduceToNat, Nat.reduceMul, Nat.reduceBEq, h65, h, hlw, hpw, pubsW, storableW, show sl 1 true (([] : List (List Int)).map tAV) = .v (.slice none 0 0) from rfl]
    rfl

attribute [local go_sem] shaped_t cells_t isAgg_t storable_t okRef_t pub_t

theorem frzVs_J (l : Nat) (cs : List AV) (xs : List Nat) : frzVs l cs (xs.map J) = xs.map J := frzVs_kind l cs (fun (n : Nat) => Value.int .i64 (n : Int)) xs

attribute [local go_sem] shaped_t cells_t isAgg_t storable_t okRef_t pub_t
attribute [local go_sem high] and_one shr_u shl_one or_u and_u

/-! ### lists as sets -/
def setErr (n : Int) : Int → List Int → Int
  | _, [] => 0
  | last, x :: r => if x < 0 ∨ n ≤ x then 2 else if x ≤ last then 7 else setErr n x r

theorem loop72 (nl : Bool) (n : Int) (hn : 1 ≤ n ∧ n ≤ 7) (l : List Int) (hlen : l.length < 1000000) (w : List Nat) (ho : w.length = 7) (i : Nat) (last : Int) (hok : i ≤ l.length ∧ ∀ x ∈ l.take i, 0 ≤ x ∧ x < n) (env : Env) (st : St)
    (hg : gcAV true 1 0 (canon env [2, 6, 7, 10, 11, 12]) st = ([(2, .ptr 0 0), (6, U (setL (l.take i))), (7, I last), (10, sl 1 nl (l.map I)), (11, I l.length), (12, I i)], ⟨[webC n w], []⟩)) :
    ∃ x_1 en s, lim (headed pure (run L) true [2, 6, 7, 10, 11, 12] lp72_0 1 0) env st = some (x_1, en, s) ∧ (if setErr n last (l.drop i) = 0 then x_1 = .exit 0 ∧ en.get 6 = U (setL l) ∧ (∀ x ∈ l, 0 ≤ x ∧ x < n) else x_1 = .ret ∧ en.get 4 = U 0 ∧ en.get 5 = I (setErr n last (l.drop i))) := by
  refine loop_wp (α := Nat × Int) (fun ⟨i, last⟩ => l.length - i) (fun ⟨i, last⟩ => i ≤ l.length ∧ ∀ x ∈ l.take i, 0 ≤ x ∧ x < n) (fun ⟨i, last⟩ => ([(2, .ptr 0 0), (6, U (setL (l.take i))), (7, I last), (10, sl 1 nl (l.map I)), (11, I l.length), (12, I i)], ⟨[webC n w], []⟩)) (fun ⟨i, last⟩ x_1 en s => if setErr n last (l.drop i) = 0 then x_1 = .exit 0 ∧ en.get 6 = U (setL l) ∧ (∀ x ∈ l, 0 ≤ x ∧ x < n) else x_1 = .ret ∧ en.get 4 = U 0 ∧ en.get 5 = I (setErr n last (l.drop i))) (fun ⟨i, last⟩ hok => ?_) ⟨i, last⟩ hok env st hg
  simp only at hok
  obtain ⟨h1, h2⟩ := hok
  dsimp only at h1 h2 ⊢
  by_cases h : i < l.length
  · have hx := index_ints nl l i h
    have hs := succ64 i (by omega)
    have hd : l.drop i = l[i] :: l.drop (i + 1) := List.drop_eq_getElem_cons h
    have ht : l.take (i + 1) = l.take i ++ [l[i]] := by rw [List.take_succ_eq_append_getElem h]
    have h2' : ∀ x ∈ l.take i, 0 ≤ x ∧ x < 7 := fun x hx => by have := h2 x hx; omega
    have hm1 := setL_lt h2'
    have hsn := setL_snoc (l.take i) l[i]
    rw [← ht] at hsn
    rw [hd]
    generalize l[i] = x at *
    have hlt : ((i : Int) < (l.length : Int)) = True := eq_true (by omega)
    have hlw := lenW n w
    have g0 := getW0 n w
    rw [ho] at hlw
    by_cases p1 : x < 0
    · have he : setErr n last (x :: l.drop (i + 1)) = 2 := by simp only [setErr]; rw [if_pos (by omega)]
      simp only [go_sem, reduceIte, Nat.reduceEqDiff, Nat.reduceAdd, Nat.reduceSub, Nat.reduceLeDiff, Nat.reduceLT, reduceCtorEq, Int.reduceLT, Int.reduceLE, Int.reduceEq, Int.reduceBEq, Int.reduceSub, Int.reduceAdd, Int.reduceMul, Int.reduceNeg, Int.reduceToNat, Nat.reduceMul, Nat.reduceBEq, index_rsl_if, setm, make_ints, condK_dec, wantK_dec, not_dec, and_dec, or_dec, seqK_ite, seqK_none, blockK_ite, blockK_none, opsK_ite, opsK_none, stepK_ite, stepK_none, bodyK_ite, bodyK_none, resK_ite, resK_none, leaveK_ite, leaveK_none, only_ite, only_none, bind_ite, gives_some, gives_none, gives_ite, then_normal, then_ret, then_exit, then_none, then_ite, Option.bind_none, Bool.not_eq_true', decide_eq_false_iff_not, Bool.and_eq_true, Bool.or_eq_true, Option.some.injEq, Int.not_lt, Int.not_le, lp72_0, hx, hlt, p1, hlw, g0, List.length_map]
      simp [he]
    by_cases p2 : n ≤ x
    · have he : setErr n last (x :: l.drop (i + 1)) = 2 := by simp only [setErr]; rw [if_pos (by omega)]
      simp only [go_sem, reduceIte, Nat.reduceEqDiff, Nat.reduceAdd, Nat.reduceSub, Nat.reduceLeDiff, Nat.reduceLT, reduceCtorEq, Int.reduceLT, Int.reduceLE, Int.reduceEq, Int.reduceBEq, Int.reduceSub, Int.reduceAdd, Int.reduceMul, Int.reduceNeg, Int.reduceToNat, Nat.reduceMul, Nat.reduceBEq, index_rsl_if, setm, make_ints, condK_dec, wantK_dec, not_dec, and_dec, or_dec, seqK_ite, seqK_none, blockK_ite, blockK_none, opsK_ite, opsK_none, stepK_ite, stepK_none, bodyK_ite, bodyK_none, resK_ite, resK_none, leaveK_ite, leaveK_none, only_ite, only_none, bind_ite, gives_some, gives_none, gives_ite, then_normal, then_ret, then_exit, then_none, then_ite, Option.bind_none, Bool.not_eq_true', decide_eq_false_iff_not, Bool.and_eq_true, Bool.or_eq_true, Option.some.injEq, Int.not_lt, Int.not_le, lp72_0, hx, hlt, p1, p2, hlw, g0, List.length_map]
      simp [he]
    obtain ⟨k, rfl⟩ := Int.eq_ofNat_of_zero_le (show 0 ≤ x by omega)
    have hk : k < 7 := by omega
    have p1' : ((k : Int) < 0) = False := eq_false p1
    rw [Int.toNat_natCast] at hsn
    have e1 : orU (setL (l.take i)) (sh1 k) = setL (l.take (i + 1)) := by rw [hsn, (sh1_lt k hk).1, orU_eq _ _ hm1 (sh1_lt k hk).2]
    by_cases p3 : (k : Int) ≤ last
    · have he : setErr n last ((k : Int) :: l.drop (i + 1)) = 7 := by simp only [setErr]; rw [if_neg (by omega), if_pos p3]
      simp only [go_sem, reduceIte, Nat.reduceEqDiff, Nat.reduceAdd, Nat.reduceSub, Nat.reduceLeDiff, Nat.reduceLT, reduceCtorEq, Int.reduceLT, Int.reduceLE, Int.reduceEq, Int.reduceBEq, Int.reduceSub, Int.reduceAdd, Int.reduceMul, Int.reduceNeg, Int.reduceToNat, Nat.reduceMul, Nat.reduceBEq, index_rsl_if, setm, make_ints, condK_dec, wantK_dec, not_dec, and_dec, or_dec, seqK_ite, seqK_none, blockK_ite, blockK_none, opsK_ite, opsK_none, stepK_ite, stepK_none, bodyK_ite, bodyK_none, resK_ite, resK_none, leaveK_ite, leaveK_none, only_ite, only_none, bind_ite, gives_some, gives_none, gives_ite, then_normal, then_ret, then_exit, then_none, then_ite, Option.bind_none, Bool.not_eq_true', decide_eq_false_iff_not, Bool.and_eq_true, Bool.or_eq_true, Option.some.injEq, Int.not_lt, Int.not_le, lp72_0, hx, hlt, p1', p2, p3, hlw, g0, List.length_map]
      simp [he]
    · have he : setErr n last ((k : Int) :: l.drop (i + 1)) = setErr n (k : Int) (l.drop (i + 1)) := by simp only [setErr]; rw [if_neg (by omega), if_neg p3]
      rw [he]
      simp only [go_sem, reduceIte, Nat.reduceEqDiff, Nat.reduceAdd, Nat.reduceSub, Nat.reduceLeDiff, Nat.reduceLT, reduceCtorEq, Int.reduceLT, Int.reduceLE, Int.reduceEq, Int.reduceBEq, Int.reduceSub, Int.reduceAdd, Int.reduceMul, Int.reduceNeg, Int.reduceToNat, Nat.reduceMul, Nat.reduceBEq, index_rsl_if, setm, make_ints, condK_dec, wantK_dec, not_dec, and_dec, or_dec, seqK_ite, seqK_none, blockK_ite, blockK_none, opsK_ite, opsK_none, stepK_ite, stepK_none, bodyK_ite, bodyK_none, resK_ite, resK_none, leaveK_ite, leaveK_none, only_ite, only_none, bind_ite, gives_some, gives_none, gives_ite, then_normal, then_ret, then_exit, then_none, then_ite, Option.bind_none, Bool.not_eq_true', decide_eq_false_iff_not, Bool.and_eq_true, Bool.or_eq_true, Option.some.injEq, Int.not_lt, Int.not_le, lp72_0, hx, hlt, hs, p1', p2, p3, hlw, g0, e1, List.length_map]
      refine ⟨(i + 1, (k : Int)), by simp only [go_sem, reduceIte, Nat.reduceEqDiff, Nat.reduceAdd, Nat.reduceSub, Nat.reduceLeDiff, Nat.reduceLT, reduceCtorEq, Int.reduceLT, Int.reduceLE, Int.reduceEq, Int.reduceBEq, Int.reduceSub, Int.reduceAdd, Int.reduceMul, Int.reduceNeg, Int.reduceToNat, Nat.reduceMul, Nat.reduceBEq, ren1_locm, loc_tips, locT_eq, okRefsW, renCellsW] <;> rfl, ?_, ?_, fun x en s hq => ?_⟩
      · dsimp only
        refine ⟨by omega, fun x hx => ?_⟩
        rw [ht] at hx
        rcases List.mem_append.1 hx with hx | hx
        · exact h2 x hx
        · simp at hx; omega
      · dsimp only; omega
      · exact hq
  · have hd : l.drop i = [] := List.drop_eq_nil_of_le (by omega)
    have hlt : ((i : Int) < (l.length : Int)) = False := eq_false (by omega)
    have htl : l.take i = l := List.take_of_length_le (by omega)
    rw [htl] at h2
    simp only [go_sem, reduceIte, Nat.reduceEqDiff, Nat.reduceAdd, Nat.reduceSub, Nat.reduceLeDiff, Nat.reduceLT, reduceCtorEq, Int.reduceLT, Int.reduceLE, Int.reduceEq, Int.reduceBEq, Int.reduceSub, Int.reduceAdd, Int.reduceMul, Int.reduceNeg, Int.reduceToNat, Nat.reduceMul, Nat.reduceBEq, index_rsl_if, setm, make_ints, condK_dec, wantK_dec, not_dec, and_dec, or_dec, seqK_ite, seqK_none, blockK_ite, blockK_none, opsK_ite, opsK_none, stepK_ite, stepK_none, bodyK_ite, bodyK_none, resK_ite, resK_none, leaveK_ite, leaveK_none, only_ite, only_none, bind_ite, gives_some, gives_none, gives_ite, then_normal, then_ret, then_exit, then_none, then_ite, Option.bind_none, Bool.not_eq_true', decide_eq_false_iff_not, Bool.and_eq_true, Bool.or_eq_true, Option.some.injEq, Int.not_lt, Int.not_le, lp72_0, hlt, List.length_map, htl]
    rw [hd]
    simp only [setErr, if_true]
    exact h2

theorem c72 (nl : Bool) (n : Int) (hn : 1 ≤ n ∧ n ≤ 7) (l : List Int) (hlen : l.length < 1000000) (w : List Nat) (ho : w.length = 7) (st : St) :
    run L 72 [webAV n w, sl 1 nl (l.map I)] st = some (.tup [U (if setErr n (-1) l = 0 then setL l else 0), I (setErr n (-1) l)], st) ∧ (setErr n (-1) l = 0 → ∀ x ∈ l, 0 ≤ x ∧ x < n) := by
  rw [run_pure (fn := ir72) rfl rfl]
  have hlw := lenW n w
  rw [ho] at hlw
  have e0 : U (setL (l.take 0)) = U 0 := rfl
  simp only [ir72, go_sem, reduceIte, Nat.reduceEqDiff, Nat.reduceAdd, Nat.reduceSub, Nat.reduceLeDiff, Nat.reduceLT, reduceCtorEq, Int.reduceLT, Int.reduceLE, Int.reduceEq, Int.reduceBEq, Int.reduceSub, Int.reduceAdd, Int.reduceMul, Int.reduceNeg, Int.reduceToNat, Nat.reduceMul, Nat.reduceBEq, List.length_map, hlw, pubsW, storableW]
  generalize hg : lim (headed pure (run L) true _ lp72_0 _ _) _ _ = o
  obtain ⟨x, en, s, rfl, h2⟩ : ∃ x en s, o = some (x, en, s) ∧ _ := by rw [← hg]; exact loop72 nl n hn l hlen w ho 0 (-1) ⟨by omega, by simp⟩ _ _ (by simp only [go_sem, reduceIte, Nat.reduceEqDiff, Nat.reduceAdd, Nat.reduceSub, Nat.reduceLeDiff, Nat.reduceLT, reduceCtorEq, Int.reduceLT, Int.reduceLE, Int.reduceEq, Int.reduceBEq, Int.reduceSub, Int.reduceAdd, Int.reduceMul, Int.reduceNeg, Int.reduceToNat, Nat.reduceMul, Nat.reduceBEq, okRefsW, renCellsW, e0] <;> rfl)
  clear hg
  rw [List.drop_zero] at h2
  by_cases h : setErr n (-1) l = 0
  · rw [if_pos h] at h2 ⊢
    obtain ⟨rfl, h3, h4⟩ := h2
    exact ⟨by simp only [go_sem, reduceIte, Nat.reduceEqDiff, Nat.reduceAdd, Nat.reduceSub, Nat.reduceLeDiff, Nat.reduceLT, reduceCtorEq, Int.reduceLT, Int.reduceLE, Int.reduceEq, Int.reduceBEq, Int.reduceSub, Int.reduceAdd, Int.reduceMul, Int.reduceNeg, Int.reduceToNat, Nat.reduceMul, Nat.reduceBEq, h3, h], fun _ => h4⟩
  · rw [if_neg h] at h2 ⊢
    obtain ⟨rfl, h3, h4⟩ := h2
    exact ⟨by simp only [go_sem, reduceIte, Nat.reduceEqDiff, Nat.reduceAdd, Nat.reduceSub, Nat.reduceLeDiff, Nat.reduceLT, reduceCtorEq, Int.reduceLT, Int.reduceLE, Int.reduceEq, Int.reduceBEq, Int.reduceSub, Int.reduceAdd, Int.reduceMul, Int.reduceNeg, Int.reduceToNat, Nat.reduceMul, Nat.reduceBEq, h3, h4]; rfl, fun h5 => absurd h5 h⟩

attribute [local go_sem] shaped_t cells_t isAgg_t storable_t okRef_t pub_t
attribute [local go_sem high] and_one shr_u shl_one or_u and_u

/-- What Valid answers. -/
def validE (n : Int) (ps : List (Int × Int)) (l : List Int) : Int :=
  if chk n ps = 0 then if setErr n (-1) l = 0 then jdg n.toNat (seeL 7 ps) (setL l) else setErr n (-1) l else chk n ps
theorem c26 (nl n2 : Bool) (n : Int) (ps : List (Int × Int)) (l : List Int) (hlen : l.length < 1000000) (st : St) :
    run L 26 [bkAV nl n ps, sl 1 n2 (l.map I)] st = some (I (validE n ps l), st) := by
  rw [run_pure (fn := ir26) rfl rfl]
  have h65 := fun st => c65 nl n ps st
  unfold validE
  by_cases h : chk n ps = 0
  · obtain ⟨h1, hl16, h3, h4, h5⟩ := chk_zero h
    obtain ⟨k, rfl⟩ := Int.eq_ofNat_of_zero_le (show 0 ≤ n by omega)
    have hw : wovL (k : Int) ps = seeL 7 ps := by unfold wovL; rw [if_pos h]
    rw [hw] at h65
    rw [if_pos h, Int.toNat_natCast]
    have hlw := lenW (k : Int) (seeL 7 ps)
    rw [seeL_len] at hlw
    have hpw := putW (k : Int) (seeL 7 ps) (seeL_len 7 ps)
    have htkw : (webC (k : Int) (seeL 7 ps)).take 8 = webC (k : Int) (seeL 7 ps) := List.take_of_length_le (by omega)
    have h72 := fun st => (c72 n2 (k : Int) h1 l hlen (seeL 7 ps) (seeL_len 7 ps) st).1
    have h72b := (c72 n2 (k : Int) h1 l hlen (seeL 7 ps) (seeL_len 7 ps) ⟨[], []⟩).2
    by_cases p : setErr (k : Int) (-1) l = 0
    · have hm : setL l < 128 := setL_lt (fun x hx => by have := h72b p x hx; omega)
      have h66 := fun st => c66 k (by omega) (seeL 7 ps) (seeL_len 7 ps) (seeL_small 7 h4) (setL l) hm st
      rw [if_pos p]
      rw [if_pos p] at h72
      simp only [ir26, go_sem, reduceIte, Nat.reduceEqDiff, Nat.reduceAdd, Nat.reduceSub, Nat.reduceLeDiff, Nat.reduceLT, reduceCtorEq, Int.reduceLT, Int.reduceLE, Int.reduceEq, Int.reduceBEq, Int.reduceSub, Int.reduceAdd, Int.reduceMul, Int.reduceNeg, Int.reduceToNat, Nat.reduceMul, Nat.reduceBEq, h65, h, hlw, hpw, htkw, pubsW, storableW, h72, p, h66]
    · rw [if_neg p]
      rw [if_neg p] at h72
      simp only [ir26, go_sem, reduceIte, Nat.reduceEqDiff, Nat.reduceAdd, Nat.reduceSub, Nat.reduceLeDiff, Nat.reduceLT, reduceCtorEq, Int.reduceLT, Int.reduceLE, Int.reduceEq, Int.reduceBEq, Int.reduceSub, Int.reduceAdd, Int.reduceMul, Int.reduceNeg, Int.reduceToNat, Nat.reduceMul, Nat.reduceBEq, h65, h, hlw, hpw, htkw, pubsW, storableW, h72, p]
  · rw [if_neg h]
    have hl7 : (wovL n ps).length = 7 := by unfold wovL; rw [if_neg h]; simp
    have hlw := lenW n (wovL n ps)
    rw [hl7] at hlw
    have hpw := putW n (wovL n ps) hl7
    simp only [ir26, go_sem, reduceIte, Nat.reduceEqDiff, Nat.reduceAdd, Nat.reduceSub, Nat.reduceLeDiff, Nat.reduceLT, reduceCtorEq, Int.reduceLT, Int.reduceLE, Int.reduceEq, Int.reduceBEq, Int.reduceSub, Int.reduceAdd, Int.reduceMul, Int.reduceNeg, Int.reduceToNat, Nat.reduceMul, Nat.reduceBEq, h65, h, hlw, hpw, pubsW, storableW]
/-- Choices are not empty. -/
theorem chos_ne {n : Nat} (hn : 1 ≤ n) (hn7 : n ≤ 7) {ps : List (Int × Int)} : ∀ l ∈ chosL n ps, l ≠ [] ∧ l.length ≤ 7 := by
  intro l hl
  unfold chosL at hl
  have := (sortL_perm lexLt _).mem_iff.1 hl
  unfold kerL at this
  obtain ⟨m, hm, rfl⟩ := List.mem_map.1 this
  obtain ⟨hmr, h2⟩ := List.mem_filter.1 hm
  rw [decide_eq_true_iff, jdg_zero] at h2
  rw [List.mem_range'_1] at hmr
  have h128 : 2 ^ n ≤ 128 := Nat.pow_le_pow_right (by omega) hn7
  refine ⟨fun e => ?_, memb_len m⟩
  have hz : ∀ x, x < 7 → m.testBit x = false := by
    intro x hx
    cases hb : m.testBit x
    · rfl
    · have : ((x : Nat) : Int) ∈ memb m := by
        unfold memb
        exact List.mem_map.2 ⟨x, List.mem_filter.2 ⟨List.mem_range.2 hx, hb⟩, rfl⟩
      rw [e] at this; simp at this
  have h0 := h2 0 (by omega)
  rw [hz 0 (by omega)] at h0
  simp only [Bool.false_eq_true, false_iff] at h0
  have hm0 : m = 0 := by
    apply Nat.eq_of_testBit_eq
    intro i
    rw [Nat.zero_testBit]
    by_cases hi : i < 7
    · exact hz i hi
    · exact Nat.testBit_lt_two_pow (Nat.lt_of_lt_of_le (show m < 2 ^ 7 by omega) (Nat.pow_le_pow_right (by omega) (by omega)))
  apply h0
  rw [hm0, Nat.and_zero]


/-! ### a list of lists that grows -/
def oAV (X : List (List Int)) : AV := loc 1 0 (X.map tAV)
theorem okRef_o (n : Nat) (X : List (List Int)) : okRef n (oAV X) = true := okRef_loc _ _ _ _
theorem fin_o (st : St) (X : List (List Int)) : fin st (oAV X) = sl 1 true (X.map tAV) := fin_loc st 1 0 _
theorem index_t (nl : Bool) (xs : List (List Int)) (i : Nat) (h : i < xs.length) : indexSAV 1 (sl 1 nl (xs.map tAV)) (.v (.int .i64 i)) = some (.eptr (tAV xs[i]) 0) := by
  rw [index_sl _ _ _ _ _ (by omega) (by simpa using h)]
  simp
theorem len_t (nl : Bool) (X : List (List Int)) : lenAV (sl 1 nl (X.map tAV)) = some (I X.length) := by rw [len_sl]; simp
attribute [local go_sem] shaped_t cells_t isAgg_t storable_t okRef_t pub_t okRef_o fin_o

attribute [local go_sem high] and_one shr_u shl_one or_u and_u

/-! ### a list of sets that grows -/
def qA (X : List Nat) : AV := loc 1 1 (X.map U)
def qT (X : List Nat) : List Nat := locT 1 (X.map U)
theorem okRef_q (n : Nat) (X : List Nat) : okRef n (qA X) = true := okRef_loc _ _ _ _
theorem len_q (X : List Nat) : lenAV (qA X) = some (I X.length) := by unfold qA; rw [len_loc]; simp
/-! ### how wide it gets -/

attribute [local go_sem high] and_one shr_u shl_one or_u and_u
attribute [local go_sem] okRef_q len_q

/-! ### the way, above the sets -/
def pA (X : List Nat) (o : List Int) : AV := if o.length = 1 then .lst .full 1 (o.map I) else .lst (.own (qT X).length o.length) 1 (o.map I)
theorem okRef_p (n : Nat) (X : List Nat) (o : List Int) : okRef n (pA X o) = true := by unfold pA; split <;> rfl

attribute [local go_sem high] and_one shr_u shl_one or_u and_u
attribute [local go_sem] okRef_q len_q okRef_p

theorem seeL_in {z n : Nat} (hz : 7 ≤ z) {ps : List (Int × Int)} (hps : ∀ p ∈ ps, goodP (n : Int) p) (h7 : ∀ p ∈ ps, okP p) (a b : Nat) (h : ((seeL z ps).getD a 0).testBit b = true) : b < n := by
  rw [seeL_bit hz h7, decide_eq_true_iff] at h
  have := (hps _ h).2.2.2.1
  simp only at this; omega


/-! ### how far each word has to go, without the program -/
def cardN (n m : Nat) : Nat := ((List.range n).filter m.testBit).length
theorem cardN_le (n m : Nat) : cardN n m ≤ n := by
  have := List.length_filter_le m.testBit (List.range n)
  simpa [cardN] using this
/-! ### the law's numbers -/
theorem getD_set (F : List Nat) (x v z : Nat) (hx : x < F.length) : (F.set x v).getD z 0 = if z = x then v else F.getD z 0 := by
  split
  · next h => subst h; rw [List.getD_eq_getElem?_getD, List.getElem?_set_self hx]; rfl
  · next h => rw [List.getD_eq_getElem?_getD, List.getElem?_set_ne (Ne.symm h), ← List.getD_eq_getElem?_getD]
def bitsL (m : Nat) : List Nat := (List.range 7).filter m.testBit

attribute [local go_sem] shaped_t cells_t isAgg_t storable_t okRef_t pub_t

theorem memb_J (m : Nat) : (memb m).map I = (bitsL m).map J := by simp [memb, bitsL, List.map_map, Function.comp]
theorem index_J (nl : Bool) (l : List Nat) (i : Nat) (h : i < l.length) : indexSAV 1 (sl 1 nl (l.map J)) (.v (.int .i64 (i : Int))) = some (.eptr (J l[i]) 0) := by
  have := index_sl 1 nl (l.map J) .i64 (i : Int) (by omega) (by simpa using h)
  simpa using this
theorem bits_len (m : Nat) : (bitsL m).length ≤ 7 := by
  have := List.length_filter_le m.testBit (List.range 7)
  simpa [bitsL] using this

attribute [local go_sem] shaped_t cells_t isAgg_t storable_t okRef_t pub_t

/-! ### the law's way grows -/
def rA (o : List Int) : AV := loc 1 1 (o.map I)
theorem okRef_r (n : Nat) (o : List Int) : okRef n (rA o) = true := okRef_loc _ _ _ _


theorem setErr_ok {n : Int} : ∀ (l : List Int) (last : Int), (∀ x ∈ l, last < x ∧ 0 ≤ x ∧ x < n) → l.Pairwise (· < ·) → setErr n last l = 0
  | [], _, _, _ => rfl
  | x :: r, last, h, hp => by
    have hx := h x (by simp)
    rw [List.pairwise_cons] at hp
    unfold setErr
    rw [if_neg (by omega), if_neg (by omega)]
    exact setErr_ok r x (fun y hy => by have := h y (by simp [hy]); exact ⟨hp.1 y hy, this.2⟩) hp.2
theorem memb_mem {m : Nat} (hm : m < 128) (x : Nat) : ((x : Nat) : Int) ∈ memb m ↔ m.testBit x = true := by
  unfold memb
  rw [List.mem_map]
  constructor
  · rintro ⟨i, hi, e⟩
    obtain rfl : i = x := by omega
    exact (List.mem_filter.1 hi).2
  · intro h
    exact ⟨x, List.mem_filter.2 ⟨List.mem_range.2 (bit_lt7 hm h), h⟩, rfl⟩
/-- The choices are sets. -/
theorem chos_set {n : Nat} {ps : List (Int × Int)} {c : List Int} (hc : c ∈ chosL n ps) : ∃ m, m < 2 ^ n ∧ c = memb m ∧ jdg n (seeL 7 ps) m = 0 := by
  unfold chosL at hc
  have := (sortL_perm lexLt _).mem_iff.1 hc
  unfold kerL at this
  obtain ⟨m, hm, rfl⟩ := List.mem_map.1 this
  obtain ⟨hmr, h2⟩ := List.mem_filter.1 hm
  rw [decide_eq_true_iff] at h2
  rw [List.mem_range'_1] at hmr
  exact ⟨m, by omega, rfl, h2⟩
/-! ### the law's numbers in the beginning -/
/-! ### what hangs on the web's sets alone -/

attribute [local go_sem] shaped_t cells_t isAgg_t storable_t okRef_t pub_t okRef_r

theorem allV_ok {n : Nat} {ps : List (Int × Int)} (h : chk (n : Int) ps = 0) : allV (n : Int) ps = chosL n ps := by
  unfold allV; rw [if_pos h, Int.toNat_natCast]


/-! ### all circles, without the program -/
def lastW (c : List Nat) : Nat := c.getD (c.length - 1) 0
def hdR (w : List Nat) (c : List Nat) : List (List Nat) := if 1 < c.length ∧ (w.getD (lastW c) 0).testBit (c.getD 0 0) = true then [c] else []
/-- The circles that begin with some words, of those and the free ones. -/
def rg (w : List Nat) : Nat → List Nat → Nat → List (List Nat)
  | 0, c, _ => hdR w c
  | k + 1, c, free => hdR w c ++ (bitsL (w.getD (lastW c) 0 &&& free)).flatMap fun x => rg w k (c ++ [x]) (dfN free (2 ^ x))
theorem bits_step_all : (List.range 128).all (fun m => m == 0 || (decide (bitsL m = tzN m :: bitsL (m &&& (m - 1))))) = true := by kernel_rfl
theorem bits_step {m : Nat} (hm : m < 128) (h : m ≠ 0) : bitsL m = tzN m :: bitsL (m &&& (m - 1)) := by
  have := List.all_eq_true.1 bits_step_all m (List.mem_range.2 hm)
  rw [Bool.or_eq_true, beq_iff_eq, decide_eq_true_iff] at this
  exact this.resolve_left h
theorem bits_zero : bitsL 0 = [] := rfl
theorem bits_mem {m : Nat} (hm : m < 128) (x : Nat) : x ∈ bitsL m ↔ m.testBit x = true :=
  ⟨fun h => (List.mem_filter.1 h).2, fun h => List.mem_filter.2 ⟨List.mem_range.2 (bit_lt7 hm h), h⟩⟩
theorem bits_nil {m : Nat} (hm : m < 128) (h : (bitsL m).length = 0) : m = 0 := by
  apply Nat.eq_of_testBit_eq
  intro i
  rw [Nat.zero_testBit]
  cases e : m.testBit i
  · rfl
  · have := (bits_mem hm i).2 e
    rw [List.eq_nil_of_length_eq_zero h] at this; simp at this
theorem df_card {free x : Nat} (hf : free < 128) (hx : free.testBit x = true) : (bitsL (dfN free (2 ^ x))).length < (bitsL free).length := by
  have hx7 := bit_lt7 hf hx
  have h2 : 2 ^ x < 128 := (sh1_lt x hx7).2
  unfold bitsL
  refine filter_len_lt _ (fun y _ h => ?_) ⟨x, List.mem_range.2 hx7, hx, ?_⟩
  · rw [dfN_bit h2, Bool.and_eq_true] at h; exact h.1
  · rw [dfN_bit h2, Nat.testBit_two_pow_self]; simp

/-! ### what lies ahead of the goal in the store -/
def hid (x : List AV) : List AV := if visB x = true then x else []
/-- Blocks with lists, or with plain values alone. -/
def Dk (D : List (List AV)) : Prop := ∀ x ∈ D, visB x = true → ∀ v ∈ x, ∃ y, v = .v y
theorem dk_hid {D : List (List AV)} (h : Dk D) : Dk (D.map hid) := by
  intro x hx
  obtain ⟨y, hy, rfl⟩ := List.mem_map.1 hx
  unfold hid
  split
  · exact h y hy
  · exact fun h => by simp [visB] at h
theorem visR_v (st : St) (y : Value) : visR st (.v y) = true := by simp only [visR]
theorem hideC_D {D : List (List AV)} (h : Dk D) (st : St) : D.map (hideC st) = D.map hid := by
  apply List.map_congr_left
  intro x hx
  unfold hideC hid
  split
  · next hv =>
    have := h x hx hv
    have h2 : x.map (hideV st) = x.map id := List.map_congr_left fun v hv => by
      obtain ⟨y, rfl⟩ := this v hv
      unfold hideV; rw [if_pos (visR_v st y)]; rfl
    rw [h2, List.map_id]
  · rfl
theorem hideC_id {st : St} {x : List AV} (hv : visB x = true) (h : ∀ v ∈ x, visR st v = true) : hideC st x = x := by
  unfold hideC
  rw [if_pos hv]
  have h2 : x.map (hideV st) = x.map id := List.map_congr_left fun v hv => by unfold hideV; rw [if_pos (h v hv)]; rfl
  rw [h2, List.map_id]
theorem merge_D {A : List (List AV)} (hA : ∀ x ∈ A, visB x = true) : ∀ (D : List (List AV)) (B : List (List AV)), A.length ≤ B.length → mergeS (D ++ A) (D.map hid ++ B) = D ++ B
  | [], B, hl => by
    simp only [List.nil_append, List.map_nil]
    induction A generalizing B with
    | nil => cases B <;> rfl
    | cons x A ih =>
      cases B with
      | nil => simp at hl
      | cons y B =>
        simp only [mergeS, hA x (by simp), if_true]
        rw [ih (fun z hz => hA z (by simp [hz])) B (by simpa using hl)]
  | x :: D, B, hl => by
    simp only [List.cons_append, List.map_cons, mergeS]
    rw [merge_D hA D B hl]
    unfold hid
    split <;> rfl
theorem noLB_append : ∀ A B : List (List AV), noLB (A ++ B) = (noLB A && noLB B)
  | [], B => rfl
  | a :: A, B => by simp only [List.cons_append, noLB, noLB_append A B, Bool.and_assoc]
theorem noLB_hid : ∀ D : List (List AV), noLB (D.map hid) = true
  | [] => rfl
  | x :: D => by
    simp only [List.map_cons, noLB, noLB_hid D, Bool.and_true]
    unfold hid
    split
    · next h => unfold visB at h; rw [Bool.and_eq_true] at h; exact h.2
    · rfl
theorem noLB_vis : ∀ A : List (List AV), (∀ x ∈ A, visB x = true) → noLB A = true
  | [], _ => rfl
  | x :: A, h => by
    have hx := h x (by simp)
    unfold visB at hx
    rw [Bool.and_eq_true] at hx
    simp only [noLB, hx.2, noLB_vis A (fun z hz => h z (by simp [hz])), Bool.and_true]

attribute [local go_sem high] and_one shr_u shl_one or_u and_u

/-! ### what the search over circles holds in the store: the goal, the web, and itself -/
structure Goal where
  tt : TypeId
  ft : FuncId
  ob : Nat → List (List Nat) → List AV
  gar : Nat → List (List Nat) → List (List AV)
def fromV (d : Nat) : AV := .fn (.func 94) [] [.ptr (d + 1) 0, .ptr (d + 2) 0, .ptr (d + 3) 0]
def layG (G : Goal) (d : Nat) (n : Int) (w : List Nat) (cs : List (List Nat)) : List (List AV) :=
  G.ob d cs :: webC n w :: [.ifc G.tt (.ptr d 0)] :: [fromV d] :: G.gar d cs
structure GoalOk (G : Goal) (d : Nat) (n : Int) (w : List Nat) : Prop where
  inv : findT G.tt [(101, 145), (111, 146)] = some G.ft
  np : pure G.ft = false
  vis : ∀ cs D T, D.length = d → ∀ x ∈ layG G d n w cs, visB x = true ∧ ∀ v ∈ x, visR ⟨D ++ layG G d n w cs, T⟩ v = true
  take : ∀ cs c g T D, D.length = d → 2 ≤ c.length → c.length ≤ 7 → (∀ x ∈ c, x < 7) → run L G.ft [.ptr d 0, .lst g 1 (c.map J)] ⟨D ++ layG G d n w cs, T⟩ = some (.tup [], ⟨D ++ layG G d n w (cs ++ [c]), T⟩)
  mono : ∀ cs cs', (layG G d n w cs).length ≤ (layG G d n w (cs ++ cs')).length
theorem lay_get {G : Goal} {d : Nat} {n : Int} {w : List Nat} {cs : List (List Nat)} {D : List (List AV)} (hD : D.length = d) (k : Nat) : (D ++ layG G d n w cs)[d + k]? = (layG G d n w cs)[k]? := by
  rw [List.getElem?_append_right (by omega)]
  congr 1; omega

def tagOk (g : Tag) (c : List Nat) (T : List Nat) : Prop := g = .full ∨ ∃ t, g = .own t c.length ∧ T[t]? = some c.length
theorem append_tag {g : Tag} {c T : List Nat} (h : tagOk g c T) (hc : c.length ≤ 7) (x : Nat) :
    ∃ g' T', (∀ S, appendAV 1 (.lst g 1 (c.map J)) [J x] ⟨S, T⟩ = some (.lst g' 1 ((c ++ [x]).map J), ⟨S, T'⟩)) ∧ tagOk g' (c ++ [x]) T' := by
  have hm : c.length + 1 ≤ maxGrow := by unfold maxGrow; omega
  rcases h with rfl | ⟨t, rfl, ht⟩
  · refine ⟨.own T.length (c.length + 1), T ++ [c.length + 1], fun S => ?_, .inr ⟨T.length, by simp, by simp⟩⟩
    simp [appendAV, hm]
  · have hlt : t < T.length := (List.getElem?_eq_some_iff.1 ht).1
    refine ⟨.own t (c.length + 1), T.set t (c.length + 1), fun S => ?_, .inr ⟨t, by simp, by simp [hlt]⟩⟩
    simp [appendAV, hm, ht]
theorem index_lstJ (g : Tag) (c : List Nat) (i : Nat) (h : i < c.length) : indexSAV 1 (.lst g 1 (c.map J)) (.v (.int .i64 (i : Int))) = some (.eptr (J (c.getD i 0)) 0) := by
  simp [indexSAV, h]
theorem hideV_v (st : St) (y : Value) : hideV st (.v y) = .v y := by unfold hideV; rw [if_pos (visR_v st y)]
theorem hideV_lst (st : St) (g : Tag) (z : Nat) (xs : List AV) : hideV st (.lst g z xs) = .lst g z xs := by unfold hideV; rw [if_pos (by simp only [visR])]
theorem hideV_ptr (st : St) (l o : Nat) : hideV st (.ptr l o) = if visN st l = true then .ptr l o else .any := by unfold hideV; simp only [visR] <;> rfl
theorem hide_lay {G : Goal} {d : Nat} {n : Int} {w : List Nat} (hG : GoalOk G d n w) {D : List (List AV)} (hD : D.length = d) (hk : Dk D) (cs : List (List Nat)) (T : List Nat) :
    hideSt ⟨D ++ layG G d n w cs, T⟩ = ⟨D.map hid ++ layG G d n w cs, T⟩ := by
  unfold hideSt
  rw [List.map_append, hideC_D hk]
  congr 2
  have : ∀ x ∈ layG G d n w cs, hideC ⟨D ++ layG G d n w cs, T⟩ x = id x := fun x hx => hideC_id (hG.vis cs D T hD x hx).1 (hG.vis cs D T hD x hx).2
  rw [List.map_congr_left this, List.map_id]
theorem vis_lay {G : Goal} {d : Nat} {n : Int} {w : List Nat} (hG : GoalOk G d n w) (cs : List (List Nat)) : ∀ x ∈ layG G d n w cs, visB x = true :=
  fun x hx => (hG.vis cs (List.replicate d []) [] (by simp) x hx).1
theorem visN_lay {G : Goal} {d : Nat} {n : Int} {w : List Nat} (hG : GoalOk G d n w) {D : List (List AV)} (hD : D.length = d) (cs : List (List Nat)) (T : List Nat) (k : Nat) (hk : k < 4) : visN ⟨D ++ layG G d n w cs, T⟩ (d + k) = true := by
  unfold visN
  simp only
  rw [lay_get hD]
  have hl : k < (layG G d n w cs).length := by simp [layG]; omega
  rw [List.getElem?_eq_getElem hl]
  exact vis_lay hG cs _ (List.getElem_mem hl)
theorem subU (m : Nat) (h : 1 ≤ m) (h2 : m < 128) : IntKind.u64.wrap ((m : Int) - 1) = ((m - 1 : Nat) : Int) := by
  rw [show ((m : Int) - 1) = ((m - 1 : Nat) : Int) by omega]
  exact wrapU _ (by omega)

set_option maxHeartbeats 1000000 in
theorem loop94_0 (G : Goal) (d : Nat) (n : Int) (w : List Nat) (hG : GoalOk G d n w) (c : List Nat) (hc : c.length ≤ 7) (g : Tag) (T : List Nat) (htag : tagOk g c T) (D : List (List AV)) (hD : D.length = d) (hDk : Dk D) (free : Nat) (hf : free < 128) (R : Nat → List (List Nat)) (hrec : ∀ x, free.testBit x = true → ∀ cs g' T' D', D'.length = d → Dk D' → tagOk g' (c ++ [x]) T' → run L 94 [.lst g' 1 ((c ++ [x]).map J), U (dfN free (2 ^ x)), .ptr (d + 1) 0, .ptr (d + 2) 0, .ptr (d + 3) 0] ⟨D' ++ layG G d n w cs, T'⟩ = some (.tup [], ⟨D' ++ layG G d n w (cs ++ R x), T'⟩)) (lo hi : Nat) (m : Nat) (cs : List (List Nat)) (hok : m < 128 ∧ (∀ x, m.testBit x = true → free.testBit x = true)) (env : Env) (st : St)
    (hg : gcAV false lo hi (canon env [0, 1, 4, 8]) st = ([(0, .lst g 1 (c.map J)), (1, U free), (4, .ptr (d + 3) 0), (8, U m)], ⟨D ++ layG G d n w cs, T⟩)) :
    ∃ x_1 en s, lim (headed pure (run L) false [0, 1, 4, 8] lp94_0 lo hi) env st = some (x_1, en, s) ∧ (x_1 = .exit 0 ∧ s = ⟨D ++ layG G d n w (cs ++ (bitsL m).flatMap R), T⟩) := by
  refine loop_wp (α := Nat × List (List Nat)) (fun ⟨m, cs⟩ => m) (fun ⟨m, cs⟩ => m < 128 ∧ (∀ x, m.testBit x = true → free.testBit x = true)) (fun ⟨m, cs⟩ => ([(0, .lst g 1 (c.map J)), (1, U free), (4, .ptr (d + 3) 0), (8, U m)], ⟨D ++ layG G d n w cs, T⟩)) (fun ⟨m, cs⟩ x_1 en s => x_1 = .exit 0 ∧ s = ⟨D ++ layG G d n w (cs ++ (bitsL m).flatMap R), T⟩) (fun ⟨m, cs⟩ hok => ?_) ⟨m, cs⟩ hok env st hg
  simp only at hok
  obtain ⟨h1, h2⟩ := hok
  dsimp only at h1 h2 ⊢
  by_cases h : m = 0
  · subst h
    rw [bits_zero, List.flatMap_nil, List.append_nil]
    have h0 : (((0 : Nat) : Int) = 0) = True := eq_true rfl
    simp only [go_sem, reduceIte, Nat.reduceEqDiff, Nat.reduceAdd, Nat.reduceSub, Nat.reduceLeDiff, Nat.reduceLT, reduceCtorEq, Int.reduceLT, Int.reduceLE, Int.reduceEq, Int.reduceBEq, Int.reduceSub, Int.reduceAdd, Int.reduceMul, Int.reduceNeg, Int.reduceToNat, Nat.reduceMul, Nat.reduceBEq, index_rsl_if, setm, make_ints, condK_dec, wantK_dec, not_dec, and_dec, or_dec, seqK_ite, seqK_none, blockK_ite, blockK_none, opsK_ite, opsK_none, stepK_ite, stepK_none, bodyK_ite, bodyK_none, resK_ite, resK_none, leaveK_ite, leaveK_none, only_ite, only_none, bind_ite, gives_some, gives_none, gives_ite, then_normal, then_ret, then_exit, then_none, then_ite, Option.bind_none, Bool.not_eq_true', decide_eq_false_iff_not, Bool.and_eq_true, Bool.or_eq_true, Option.some.injEq, Int.not_lt, Int.not_le, lp94_0, h0]
  · have h0 : ((m : Int) = 0) = False := eq_false (by omega)
    have hs := subU m (by omega) h1
    have hand := andN_eq m (m - 1) h1 (by omega)
    have hlt : m &&& (m - 1) ≤ m - 1 := Nat.and_le_right
    have hbs := bits_step h1 h
    obtain ⟨t1, t2⟩ := tz_spec h1 h
    have h52 := fun st => c52 m h1 st
    have hsub : ∀ x, (m &&& (m - 1)).testBit x = true → free.testBit x = true := fun x hx => by
      rw [Nat.testBit_and, Bool.and_eq_true] at hx; exact h2 x hx.1
    have hfx := h2 _ t2
    rw [hbs, List.flatMap_cons, ← List.append_assoc]
    generalize tzN m = x at *
    generalize m &&& (m - 1) = m2 at *
    obtain ⟨g', T', happ, htag'⟩ := append_tag htag hc x
    have e1 := (sh1_lt x t1).1
    have e2 := (sh1_lt x t1).2
    have hdf := dfU_eq free (2 ^ x) hf e2
    have hcall := fun cs => hrec x hfx cs g' T' (D.map hid) (by rw [List.length_map]; exact hD) (dk_hid hDk) htag'
    simp only [List.map_append, List.map_cons, List.map_nil] at hcall
    have hhide := hide_lay hG hD hDk cs T
    have hvn := visN_lay hG hD cs T 3 (by omega)
    have hg3' : (D.map hid ++ layG G d n w cs)[d + 3]? = some [fromV d] := by rw [lay_get (by rw [List.length_map]; exact hD)]; rfl
    have hnl : noLB (D.map hid ++ layG G d n w (cs ++ R x)) = true := by rw [noLB_append, noLB_hid, noLB_vis _ (vis_lay hG _)]; rfl
    have hmg := merge_D (A := layG G d n w cs) (vis_lay hG cs) D (layG G d n w (cs ++ R x)) (hG.mono cs (R x))
    have hfv : fromV d = .fn (.func 94) [] [.ptr (d + 1) 0, .ptr (d + 2) 0, .ptr (d + 3) 0] := rfl
    simp only [go_sem, reduceIte, Nat.reduceEqDiff, Nat.reduceAdd, Nat.reduceSub, Nat.reduceLeDiff, Nat.reduceLT, reduceCtorEq, Int.reduceLT, Int.reduceLE, Int.reduceEq, Int.reduceBEq, Int.reduceSub, Int.reduceAdd, Int.reduceMul, Int.reduceNeg, Int.reduceToNat, Nat.reduceMul, Nat.reduceBEq, index_rsl_if, setm, make_ints, condK_dec, wantK_dec, not_dec, and_dec, or_dec, seqK_ite, seqK_none, blockK_ite, blockK_none, opsK_ite, opsK_none, stepK_ite, stepK_none, bodyK_ite, bodyK_none, resK_ite, resK_none, leaveK_ite, leaveK_none, only_ite, only_none, bind_ite, gives_some, gives_none, gives_ite, then_normal, then_ret, then_exit, then_none, then_ite, Option.bind_none, Bool.not_eq_true', decide_eq_false_iff_not, Bool.and_eq_true, Bool.or_eq_true, Option.some.injEq, Int.not_lt, Int.not_le, lp94_0, h0, h52, hs, hand, code_lost, hhide, hideEnv, hideV_v, hideV_lst, hideV_ptr, hvn, hg3', hfv, e1, hdf, happ, hcall, show pure 94 = false from rfl, List.map_append, scopeK_some, hnl, hmg, forgot]
    refine ⟨(m2, cs ++ R x), by simp only [go_sem, reduceIte, Nat.reduceEqDiff, Nat.reduceAdd, Nat.reduceSub, Nat.reduceLeDiff, Nat.reduceLT, reduceCtorEq, Int.reduceLT, Int.reduceLE, Int.reduceEq, Int.reduceBEq, Int.reduceSub, Int.reduceAdd, Int.reduceMul, Int.reduceNeg, Int.reduceToNat, Nat.reduceMul, Nat.reduceBEq, ren1_locm, loc_tips, locT_eq] <;> rfl, ?_, ?_, fun x en s hq => ?_⟩
    · dsimp only; exact ⟨by omega, hsub⟩
    · dsimp only; omega
    · exact hq

attribute [local go_sem high] and_one shr_u shl_one or_u and_u

theorem getD_lt {c : List Nat} (h : ∀ x ∈ c, x < 7) (i : Nat) (hi : i < c.length) : c.getD i 0 < 7 := by
  rw [List.getD_eq_getElem?_getD, List.getElem?_eq_getElem hi]
  exact h _ (List.getElem_mem hi)
/-- One call, if those inside do what they should. -/
theorem c94s (G : Goal) (d : Nat) (n : Int) (w : List Nat) (ho : w.length = 7) (hsm : ∀ x ∈ w, x < 128) (hG : GoalOk G d n w) (c : List Nat) (free : Nat) (hf : free < 128) (h1 : 1 ≤ c.length) (h7 : c.length ≤ 7) (hc : ∀ x ∈ c, x < 7)
    (R : Nat → List (List Nat)) (hrec : ∀ x, free.testBit x = true → ∀ cs g' T' D', D'.length = d → Dk D' → tagOk g' (c ++ [x]) T' → run L 94 [.lst g' 1 ((c ++ [x]).map J), U (dfN free (2 ^ x)), .ptr (d + 1) 0, .ptr (d + 2) 0, .ptr (d + 3) 0] ⟨D' ++ layG G d n w cs, T'⟩ = some (.tup [], ⟨D' ++ layG G d n w (cs ++ R x), T'⟩))
    (cs : List (List Nat)) (g : Tag) (T : List Nat) (D : List (List AV)) (hD : D.length = d) (hDk : Dk D) (htag : tagOk g c T) :
    run L 94 [.lst g 1 (c.map J), U free, .ptr (d + 1) 0, .ptr (d + 2) 0, .ptr (d + 3) 0] ⟨D ++ layG G d n w cs, T⟩ = some (.tup [], ⟨D ++ layG G d n w (cs ++ (hdR w c ++ (bitsL (w.getD (lastW c) 0 &&& free)).flatMap R)), T⟩) := by
  rw [run_shared (fn := ir94) rfl rfl]
  have hl1 : IntKind.i64.wrap ((c.length : Int) - 1) = ((c.length - 1 : Nat) : Int) := by rw [wrap64] <;> omega
  have hx1 := index_lstJ g c (c.length - 1) (by omega)
  have hx0 := index_lstJ g c 0 (by omega)
  simp only [Int.natCast_zero] at hx0
  have hlw : c.getD (c.length - 1) 0 = lastW c := rfl
  have hl7 := getD_lt hc (c.length - 1) (by omega)
  have h07 := getD_lt hc 0 (by omega)
  rw [hlw] at hx1 hl7
  have b1 : ((0 : Int) ≤ (lastW c : Int)) = True := eq_true (by omega)
  have b2 : ((lastW c : Int) < 7) = True := eq_true (by omega)
  have g1 : (D ++ layG G d n w cs)[d + 1]? = some (webC n w) := by rw [lay_get hD]; rfl
  have g2 : (D ++ layG G d n w cs)[d + 2]? = some [.ifc G.tt (.ptr d 0)] := by rw [lay_get hD]; rfl
  have gw := getW n w (lastW c) (by omega)
  have hbit := bit_one (w.getD (lastW c) 0) (c.getD 0 0)
  have hmk := min64 (c.getD 0 0) (by omega)
  have hand := andN_eq (w.getD (lastW c) 0) free (small_getD hsm _) hf
  have hlt : w.getD (lastW c) 0 &&& free < 128 := Nat.lt_of_le_of_lt Nat.and_le_right hf
  have hsub : ∀ x, (w.getD (lastW c) 0 &&& free).testBit x = true → free.testBit x = true := fun x hx => by
    rw [Nat.testBit_and, Bool.and_eq_true] at hx; exact hx.2
  have hdr : hdR w c = if 1 < c.length ∧ (w.getD (lastW c) 0).testBit (c.getD 0 0) = true then [c] else [] := rfl
  have hinv := hG.inv
  have hnp := hG.np
  have htake := hG.take cs c g T D hD
  generalize w.getD (lastW c) 0 = v at *
  generalize v &&& free = m at *
  by_cases p1 : 1 < c.length
  · have q1 : ((1 : Int) < (c.length : Int)) = True := eq_true (by omega)
    by_cases p2 : v.testBit (c.getD 0 0) = true
    · rw [hdr, if_pos ⟨p1, p2⟩]
      have ht := htake p1 h7 hc
      simp only [ir94, go_sem, reduceIte, Nat.reduceEqDiff, Nat.reduceAdd, Nat.reduceSub, Nat.reduceLeDiff, Nat.reduceLT, reduceCtorEq, Int.reduceLT, Int.reduceLE, Int.reduceEq, Int.reduceBEq, Int.reduceSub, Int.reduceAdd, Int.reduceMul, Int.reduceNeg, Int.reduceToNat, Nat.reduceMul, Nat.reduceBEq, hl1, hx1, hx0, b1, b2, g1, g2, gw, hmk, hbit, p2, q1, hinv, hnp, ht, hand, List.length_map]
      generalize hg : lim (headed pure (run L) false _ lp94_0 _ _) _ _ = o
      obtain ⟨x, en, s, rfl, h2⟩ : ∃ x en s, o = some (x, en, s) ∧ _ := by rw [← hg]; exact loop94_0 G d n w hG c h7 g T htag D hD hDk free hf R hrec _ _ m (cs ++ [c]) ⟨hlt, hsub⟩ _ _ (by simp only [go_sem, reduceIte, Nat.reduceEqDiff, Nat.reduceAdd, Nat.reduceSub, Nat.reduceLeDiff, Nat.reduceLT, reduceCtorEq, Int.reduceLT, Int.reduceLE, Int.reduceEq, Int.reduceBEq, Int.reduceSub, Int.reduceAdd, Int.reduceMul, Int.reduceNeg, Int.reduceToNat, Nat.reduceMul, Nat.reduceBEq] <;> rfl)
      clear hg
      obtain ⟨rfl, rfl⟩ := h2
      simp only [go_sem, reduceIte, Nat.reduceEqDiff, Nat.reduceAdd, Nat.reduceSub, Nat.reduceLeDiff, Nat.reduceLT, reduceCtorEq, Int.reduceLT, Int.reduceLE, Int.reduceEq, Int.reduceBEq, Int.reduceSub, Int.reduceAdd, Int.reduceMul, Int.reduceNeg, Int.reduceToNat, Nat.reduceMul, Nat.reduceBEq, List.append_assoc]
    · have p2' : (v.testBit (c.getD 0 0) = true) = False := eq_false p2
      rw [hdr, if_neg (fun h => p2 h.2)]
      simp only [ir94, go_sem, reduceIte, Nat.reduceEqDiff, Nat.reduceAdd, Nat.reduceSub, Nat.reduceLeDiff, Nat.reduceLT, reduceCtorEq, Int.reduceLT, Int.reduceLE, Int.reduceEq, Int.reduceBEq, Int.reduceSub, Int.reduceAdd, Int.reduceMul, Int.reduceNeg, Int.reduceToNat, Nat.reduceMul, Nat.reduceBEq, hl1, hx1, hx0, b1, b2, g1, g2, gw, hmk, hbit, p2', q1, hand, List.length_map]
      generalize hg : lim (headed pure (run L) false _ lp94_0 _ _) _ _ = o
      obtain ⟨x, en, s, rfl, h2⟩ : ∃ x en s, o = some (x, en, s) ∧ _ := by rw [← hg]; exact loop94_0 G d n w hG c h7 g T htag D hD hDk free hf R hrec _ _ m cs ⟨hlt, hsub⟩ _ _ (by simp only [go_sem, reduceIte, Nat.reduceEqDiff, Nat.reduceAdd, Nat.reduceSub, Nat.reduceLeDiff, Nat.reduceLT, reduceCtorEq, Int.reduceLT, Int.reduceLE, Int.reduceEq, Int.reduceBEq, Int.reduceSub, Int.reduceAdd, Int.reduceMul, Int.reduceNeg, Int.reduceToNat, Nat.reduceMul, Nat.reduceBEq] <;> rfl)
      clear hg
      obtain ⟨rfl, rfl⟩ := h2
      simp only [go_sem, reduceIte, Nat.reduceEqDiff, Nat.reduceAdd, Nat.reduceSub, Nat.reduceLeDiff, Nat.reduceLT, reduceCtorEq, Int.reduceLT, Int.reduceLE, Int.reduceEq, Int.reduceBEq, Int.reduceSub, Int.reduceAdd, Int.reduceMul, Int.reduceNeg, Int.reduceToNat, Nat.reduceMul, Nat.reduceBEq]
  · have q1 : ((1 : Int) < (c.length : Int)) = False := eq_false (by omega)
    rw [hdr, if_neg (fun h => p1 h.1)]
    simp only [ir94, go_sem, reduceIte, Nat.reduceEqDiff, Nat.reduceAdd, Nat.reduceSub, Nat.reduceLeDiff, Nat.reduceLT, reduceCtorEq, Int.reduceLT, Int.reduceLE, Int.reduceEq, Int.reduceBEq, Int.reduceSub, Int.reduceAdd, Int.reduceMul, Int.reduceNeg, Int.reduceToNat, Nat.reduceMul, Nat.reduceBEq, hl1, hx1, hx0, b1, b2, g1, g2, gw, hmk, q1, hand, List.length_map]
    generalize hg : lim (headed pure (run L) false _ lp94_0 _ _) _ _ = o
    obtain ⟨x, en, s, rfl, h2⟩ : ∃ x en s, o = some (x, en, s) ∧ _ := by rw [← hg]; exact loop94_0 G d n w hG c h7 g T htag D hD hDk free hf R hrec _ _ m cs ⟨hlt, hsub⟩ _ _ (by simp only [go_sem, reduceIte, Nat.reduceEqDiff, Nat.reduceAdd, Nat.reduceSub, Nat.reduceLeDiff, Nat.reduceLT, reduceCtorEq, Int.reduceLT, Int.reduceLE, Int.reduceEq, Int.reduceBEq, Int.reduceSub, Int.reduceAdd, Int.reduceMul, Int.reduceNeg, Int.reduceToNat, Nat.reduceMul, Nat.reduceBEq] <;> rfl)
    clear hg
    obtain ⟨rfl, rfl⟩ := h2
    simp only [go_sem, reduceIte, Nat.reduceEqDiff, Nat.reduceAdd, Nat.reduceSub, Nat.reduceLeDiff, Nat.reduceLT, reduceCtorEq, Int.reduceLT, Int.reduceLE, Int.reduceEq, Int.reduceBEq, Int.reduceSub, Int.reduceAdd, Int.reduceMul, Int.reduceNeg, Int.reduceToNat, Nat.reduceMul, Nat.reduceBEq]
theorem c94 (G : Goal) (d : Nat) (n : Int) (w : List Nat) (ho : w.length = 7) (hsm : ∀ x ∈ w, x < 128) (hG : GoalOk G d n w) :
    ∀ (k : Nat) (c : List Nat) (free : Nat), (bitsL free).length ≤ k → free < 128 → 1 ≤ c.length → c.length + (bitsL free).length ≤ 7 → (∀ x ∈ c, x < 7) →
      ∀ cs g T D, D.length = d → Dk D → tagOk g c T → run L 94 [.lst g 1 (c.map J), U free, .ptr (d + 1) 0, .ptr (d + 2) 0, .ptr (d + 3) 0] ⟨D ++ layG G d n w cs, T⟩ = some (.tup [], ⟨D ++ layG G d n w (cs ++ rg w k c free), T⟩) := by
  intro k
  induction k with
  | zero =>
    intro c free hk hf h1 h7 hc cs g T D hD hDk htag
    have h0 := bits_nil hf (by omega)
    subst h0
    have := c94s G d n w ho hsm hG c 0 hf h1 (by omega) hc (fun _ => []) (fun x hx => by simp at hx) cs g T D hD hDk htag
    rw [Nat.and_zero, bits_zero, List.flatMap_nil, List.append_nil] at this
    exact this
  | succ k ih =>
    intro c free hk hf h1 h7 hc cs g T D hD hDk htag
    exact c94s G d n w ho hsm hG c free hf h1 (by omega) hc (fun x => rg w k (c ++ [x]) (dfN free (2 ^ x))) (fun x hx cs g' T' D' hD' hDk' ht' => by
      have hcard := df_card hf hx
      have hx7 := bit_lt7 hf hx
      exact ih (c ++ [x]) (dfN free (2 ^ x)) (by omega) (dfN_lt hf) (by simp) (by simp; omega) (fun y hy => by
        rcases List.mem_append.1 hy with hy | hy
        · exact hc y hy
        · simp at hy; omega) cs g' T' D' hD' hDk' ht') cs g T D hD hDk htag

attribute [local go_sem high] and_one shr_u shl_one or_u and_u

/-- The words that are free after the first one. -/
def frN (n x : Nat) : Nat := dfN (2 ^ n - 1) (2 ^ (x + 1) - 1)
theorem pow_lt {n : Nat} (hn : n ≤ 7) : 2 ^ n - 1 < 128 := by
  have : 2 ^ n ≤ 128 := Nat.pow_le_pow_right (n := 2) (by omega) hn
  have h1 : 1 ≤ 2 ^ n := Nat.one_le_two_pow
  omega
theorem frN_bit {n x : Nat} (hn : n ≤ 7) (hx : x < n) (y : Nat) : (frN n x).testBit y = (decide (y < n) && decide (x < y)) := by
  unfold frN
  rw [dfN_bit (pow_lt (by omega)), Nat.testBit_two_pow_sub_one, Nat.testBit_two_pow_sub_one]
  rw [Bool.eq_iff_iff]
  simp only [Bool.and_eq_true, decide_eq_true_eq, Bool.not_eq_true', decide_eq_false_iff_not]
  omega
theorem frN_lt {n x : Nat} (hn : n ≤ 7) : frN n x < 128 := dfN_lt (pow_lt hn)
theorem frN_card {n x : Nat} (hn : n ≤ 7) (hx : x < n) : (bitsL (frN n x)).length ≤ 6 := by
  have h := filter_len_lt (p := (frN n x).testBit) (q := fun _ => true) (List.range 7) (fun _ _ _ => rfl) ⟨x, List.mem_range.2 (by omega), rfl, by rw [frN_bit hn hx]; simp⟩
  have h2 : ((List.range 7).filter fun _ => true).length = 7 := rfl
  unfold bitsL; omega
/-- All circles, by their smallest words. -/
def circL (n : Nat) (w : List Nat) : List (List Nat) := (List.range' 0 n).flatMap fun x => rg w 7 [x] (frN n x)

theorem loop74_0 (G : Goal) (d : Nat) (n : Nat) (hn : n ≤ 7) (w : List Nat) (ho : w.length = 7) (hsm : ∀ x ∈ w, x < 128) (hG : GoalOk G d (n : Int) w) (T : List Nat) (D : List (List AV)) (hD : D.length = d) (hDk : Dk D) (lo hi : Nat) (x : Nat) (cs : List (List Nat)) (hok : x ≤ n) (env : Env) (st : St)
    (hg : gcAV false lo hi (canon env [2, 4, 8, 9]) st = ([(2, .ptr (d + 1) 0), (4, .ptr (d + 3) 0), (8, I n), (9, I x)], ⟨D ++ layG G d (n : Int) w cs, T⟩)) :
    ∃ x_1 en s, lim (headed pure (run L) false [2, 4, 8, 9] lp74_0 lo hi) env st = some (x_1, en, s) ∧ (x_1 = .exit 0 ∧ s = ⟨D ++ layG G d (n : Int) w (cs ++ (List.range' x (n - x)).flatMap fun x => rg w 7 [x] (frN n x)), T⟩) := by
  refine loop_wp (α := Nat × List (List Nat)) (fun ⟨x, cs⟩ => n - x) (fun ⟨x, cs⟩ => x ≤ n) (fun ⟨x, cs⟩ => ([(2, .ptr (d + 1) 0), (4, .ptr (d + 3) 0), (8, I n), (9, I x)], ⟨D ++ layG G d (n : Int) w cs, T⟩)) (fun ⟨x, cs⟩ x_1 en s => x_1 = .exit 0 ∧ s = ⟨D ++ layG G d (n : Int) w (cs ++ (List.range' x (n - x)).flatMap fun x => rg w 7 [x] (frN n x)), T⟩) (fun ⟨x, cs⟩ hok => ?_) ⟨x, cs⟩ hok env st hg
  simp only at hok
  dsimp only at hok ⊢
  by_cases h : x < n
  · have hs := succ64 x (by omega)
    have hlt : ((x : Int) < (n : Int)) = True := eq_true (by omega)
    have hr : List.range' x (n - x) = x :: List.range' (x + 1) (n - (x + 1)) := by
      rw [show n - x = (n - (x + 1)) + 1 by omega, List.range'_succ]
    have g1 : (D ++ layG G d (n : Int) w cs)[d + 1]? = some (webC (n : Int) w) := by rw [lay_get hD]; rfl
    have g3 : (D ++ layG G d (n : Int) w cs)[d + 3]? = some [fromV d] := by rw [lay_get hD]; rfl
    have gw0 := getW0 (n : Int) w
    have hfv : fromV d = .fn (.func 94) [] [.ptr (d + 1) 0, .ptr (d + 2) 0, .ptr (d + 3) 0] := rfl
    have e1 := sh1_eq n (by omega)
    have e2 := sh1_eq (x + 1) (by omega)
    have p1 : 1 ≤ 2 ^ n := Nat.one_le_two_pow
    have p2 : 2 ^ n ≤ 128 := Nat.pow_le_pow_right (n := 2) (by omega) hn
    have p3 : 1 ≤ 2 ^ (x + 1) := Nat.one_le_two_pow
    have p4 : 2 ^ (x + 1) ≤ 2 ^ 7 := Nat.pow_le_pow_right (n := 2) (by omega) (by omega)
    have hdf := dfU_eq (2 ^ n - 1) (2 ^ (x + 1) - 1) (by omega) (by omega)
    have hfr : dfN (2 ^ n - 1) (2 ^ (x + 1) - 1) = frN n x := rfl
    rw [hfr] at hdf
    have hc := frN_card hn h
    have hcall := fun cs => c94 G d (n : Int) w ho hsm hG 7 [x] (frN n x) (by omega) (frN_lt hn) (by simp) (by simp; omega) (by simp; omega) cs .full T D hD hDk (.inl rfl)
    simp only [List.map_cons, List.map_nil] at hcall
    have s1 : IntKind.u64.wrap (((2 ^ n : Nat) : Int) - 1) = ((2 ^ n - 1 : Nat) : Int) := by
      rw [show (((2 ^ n : Nat) : Int) - 1) = ((2 ^ n - 1 : Nat) : Int) by omega]; exact wrapU _ (by omega)
    have s2 : IntKind.u64.wrap (((2 ^ (x + 1) : Nat) : Int) - 1) = ((2 ^ (x + 1) - 1 : Nat) : Int) := by
      rw [show (((2 ^ (x + 1) : Nat) : Int) - 1) = ((2 ^ (x + 1) - 1 : Nat) : Int) by omega]; exact wrapU _ (by omega)
    rw [hr, List.flatMap_cons, ← List.append_assoc]
    generalize frN n x = fr at *
    generalize 2 ^ n - 1 = a1 at *
    generalize 2 ^ (x + 1) - 1 = a2 at *
    simp only [go_sem, reduceIte, Nat.reduceEqDiff, Nat.reduceAdd, Nat.reduceSub, Nat.reduceLeDiff, Nat.reduceLT, reduceCtorEq, Int.reduceLT, Int.reduceLE, Int.reduceEq, Int.reduceBEq, Int.reduceSub, Int.reduceAdd, Int.reduceMul, Int.reduceNeg, Int.reduceToNat, Nat.reduceMul, Nat.reduceBEq, index_rsl_if, setm, make_ints, condK_dec, wantK_dec, not_dec, and_dec, or_dec, seqK_ite, seqK_none, blockK_ite, blockK_none, opsK_ite, opsK_none, stepK_ite, stepK_none, bodyK_ite, bodyK_none, resK_ite, resK_none, leaveK_ite, leaveK_none, only_ite, only_none, bind_ite, gives_some, gives_none, gives_ite, then_normal, then_ret, then_exit, then_none, then_ite, Option.bind_none, Bool.not_eq_true', decide_eq_false_iff_not, Bool.and_eq_true, Bool.or_eq_true, Option.some.injEq, Int.not_lt, Int.not_le, lp74_0, hlt, hs, g1, g3, gw0, hfv, e1, e2, s1, s2, hdf, hcall, show pure 94 = false from rfl]
    refine ⟨(x + 1, cs ++ rg w 7 [x] fr), by simp only [go_sem, reduceIte, Nat.reduceEqDiff, Nat.reduceAdd, Nat.reduceSub, Nat.reduceLeDiff, Nat.reduceLT, reduceCtorEq, Int.reduceLT, Int.reduceLE, Int.reduceEq, Int.reduceBEq, Int.reduceSub, Int.reduceAdd, Int.reduceMul, Int.reduceNeg, Int.reduceToNat, Nat.reduceMul, Nat.reduceBEq, ren1_locm, loc_tips, locT_eq] <;> rfl, ?_, ?_, fun x en s hq => ?_⟩
    · dsimp only; omega
    · dsimp only; omega
    · exact hq
  · have hr : n - x = 0 := by omega
    have hlt : ((x : Int) < (n : Int)) = False := eq_false (by omega)
    rw [hr]
    simp only [go_sem, reduceIte, Nat.reduceEqDiff, Nat.reduceAdd, Nat.reduceSub, Nat.reduceLeDiff, Nat.reduceLT, reduceCtorEq, Int.reduceLT, Int.reduceLE, Int.reduceEq, Int.reduceBEq, Int.reduceSub, Int.reduceAdd, Int.reduceMul, Int.reduceNeg, Int.reduceToNat, Nat.reduceMul, Nat.reduceBEq, index_rsl_if, setm, make_ints, condK_dec, wantK_dec, not_dec, and_dec, or_dec, seqK_ite, seqK_none, blockK_ite, blockK_none, opsK_ite, opsK_none, stepK_ite, stepK_none, bodyK_ite, bodyK_none, resK_ite, resK_none, leaveK_ite, leaveK_none, only_ite, only_none, bind_ite, gives_some, gives_none, gives_ite, then_normal, then_ret, then_exit, then_none, then_ite, Option.bind_none, Bool.not_eq_true', decide_eq_false_iff_not, Bool.and_eq_true, Bool.or_eq_true, Option.some.injEq, Int.not_lt, Int.not_le, lp74_0, hlt]
    simp

theorem len_app {D : List (List AV)} {d : Nat} (hD : D.length = d) (A : List (List AV)) : (D ++ A).length = d + A.length := by rw [List.length_append, hD]
theorem set_app {D : List (List AV)} {d : Nat} (hD : D.length = d) (A : List (List AV)) (k : Nat) (x : List AV) : (D ++ A).set (d + k) x = D ++ A.set k x := by
  rw [List.set_append_right _ _ (by omega)]
  congr 2; omega
theorem get_app {D : List (List AV)} {d : Nat} (hD : D.length = d) (A : List (List AV)) (k : Nat) : (D ++ A)[d + k]? = A[k]? := by
  rw [List.getElem?_append_right (by omega)]
  congr 1; omega
/-- Nothing is held beside the goal in the beginning. -/
theorem c74 (G : Goal) (d : Nat) (n : Nat) (hn : n ≤ 7) (w : List Nat) (ho : w.length = 7) (hsm : ∀ x ∈ w, x < 128) (hG : GoalOk G d (n : Int) w) (h0 : G.gar d [] = []) (T : List Nat) (D : List (List AV)) (hD : D.length = d) (hDk : Dk D) :
    run L 74 [webAV (n : Int) w, .ifc G.tt (.ptr d 0)] ⟨D ++ [G.ob d []], T⟩ = some (.tup [], ⟨D ++ layG G d (n : Int) w (circL n w), T⟩) := by
  rw [run_shared (fn := ir74) rfl rfl]
  have l1 := len_app hD [G.ob d []]
  have l2 := len_app hD [G.ob d [], webC (n : Int) w]
  have l3 := len_app hD [G.ob d [], webC (n : Int) w, [.ifc G.tt (.ptr d 0)]]
  simp only [List.length_cons, List.length_nil, Nat.zero_add, Nat.reduceAdd] at l1 l2 l3
  have gf := get_app hD [G.ob d [], webC (n : Int) w, [.ifc G.tt (.ptr d 0)], [.v .nilFunc]] 3
  have sf := set_app hD [G.ob d [], webC (n : Int) w, [.ifc G.tt (.ptr d 0)], [.v .nilFunc]] 3 [.fn (.func 94) [] [.ptr (d + 1) 0, .ptr (d + 2) 0, .ptr (d + 3) 0]]
  have gw := get_app hD [G.ob d [], webC (n : Int) w, [.ifc G.tt (.ptr d 0)], [.fn (.func 94) [] [.ptr (d + 1) 0, .ptr (d + 2) 0, .ptr (d + 3) 0]]] 1
  have gw0 := getW0 (n : Int) w
  have hlay : D ++ [G.ob d [], webC (n : Int) w, [.ifc G.tt (.ptr d 0)], [.fn (.func 94) [] [.ptr (d + 1) 0, .ptr (d + 2) 0, .ptr (d + 3) 0]]] = D ++ layG G d (n : Int) w [] := by
    unfold layG; rw [h0]; rfl
  simp only [ir74, go_sem, reduceIte, Nat.reduceEqDiff, Nat.reduceAdd, Nat.reduceSub, Nat.reduceLeDiff, Nat.reduceLT, reduceCtorEq, Int.reduceLT, Int.reduceLE, Int.reduceEq, Int.reduceBEq, Int.reduceSub, Int.reduceAdd, Int.reduceMul, Int.reduceNeg, Int.reduceToNat, Nat.reduceMul, Nat.reduceBEq, storableW, List.append_assoc, l1, l2, l3, gf, sf, gw, gw0]
  simp only [hlay]
  generalize hg : lim (headed pure (run L) false _ lp74_0 _ _) _ _ = o
  obtain ⟨x, en, s, rfl, h2⟩ : ∃ x en s, o = some (x, en, s) ∧ _ := by rw [← hg]; exact loop74_0 G d n hn w ho hsm hG T D hD hDk _ _ 0 [] (by omega) _ _ (by simp only [go_sem, reduceIte, Nat.reduceEqDiff, Nat.reduceAdd, Nat.reduceSub, Nat.reduceLeDiff, Nat.reduceLT, reduceCtorEq, Int.reduceLT, Int.reduceLE, Int.reduceEq, Int.reduceBEq, Int.reduceSub, Int.reduceAdd, Int.reduceMul, Int.reduceNeg, Int.reduceToNat, Nat.reduceMul, Nat.reduceBEq] <;> rfl)
  clear hg
  rw [Nat.sub_zero, List.nil_append] at h2
  obtain ⟨rfl, rfl⟩ := h2
  simp only [go_sem, reduceIte, Nat.reduceEqDiff, Nat.reduceAdd, Nat.reduceSub, Nat.reduceLeDiff, Nat.reduceLT, reduceCtorEq, Int.reduceLT, Int.reduceLE, Int.reduceEq, Int.reduceBEq, Int.reduceSub, Int.reduceAdd, Int.reduceMul, Int.reduceNeg, Int.reduceToNat, Nat.reduceMul, Nat.reduceBEq]
  rfl
end Go.Proofs.YtgohohiaaiogcaaDoor.Vm
