/- What is proved: what each function of this program computes, as equations on the evaluator. No condition. -/
import Derived.Test.YtgohohiaaiogcaaDoorC1
set_option linter.all false
namespace Go.Proofs.YtgohohiaaiogcaaDoor.Vm
open Go Go.Ev
set_option maxRecDepth 100000
attribute [local go_sem] cells_any storable_any ren1_any shaped_ptr cells_ptr storable_ptr ren1_ptr shaped_eptr cells_eptr storable_eptr ren1_eptr shaped_rsl cells_rsl storable_rsl ren1_rsl shaped_int cells_int storable_int ren1_int shaped_bool cells_bool storable_bool ren1_bool shaped_nils cells_nils storable_nils ren1_nils shaped_lst cells_lst storable_lst shaped_fn cells_fn storable_fn ren1_fn shaped_ifc cells_ifc storable_ifc ren1_ifc shaped_agg cells_agg storable_agg ren1_agg shaped_tup cells_tup storable_tup ren1_tup shaped_nif cells_nif storable_nif ren1_nif ren1_lany ren1_lfull ren1_lown len_lst len_rsl len_nil load_ptr load_eptr isRsl_lst isRsl_nil isRsl_rsl elems_nil elems_lst elems_sl isRsl_sl body_eq bodyK_normal bodyK_ret resK_some leaveK_some only_some code_skip code_exit code_ret code_ops code_seq code_cond code_block seqK_normal seqK_ret seqK_exit condK_true condK_false blockK_normal blockK_ret blockK_exit opsK_some ops_nil ops_cons wantK_true wantK_false stepK_some pubs pub pub_sl params okRef_loc storable_loc shaped_loc cells_loc isRsl_loc elems_loc len_loc untips untip untip_sl wantedAV setElems withO isAgg_v isAgg_agg isAgg_lst isAgg_ptr isAgg_fn isAgg_ifc isAgg_rsl isAgg_sl isAgg_loc List.replicate_succ List.replicate_zero opAV valAV aval avals ofVal Env.get setD canon gcAV renAll renEnv renStore renCells ren1_sl cutSt okEnv okStore okRefs okRef okRef_sl bin_int bin_bool bin_lst bin_rsl bin_nil bin_agg cellsEq cellEq isShift intOp boolOp min_int max_int beq_int bne resAV tupAV leave_eq fin_sl fin_loc fins fin_v fin_lst fin_agg fin_tup fin_fn storeAV readCells putCells cells_sl shaped_sl storable_sl fieldAddrAV len_sl goI List.getElem?_cons_zero List.getElem?_cons_succ List.getElem?_nil Option.bind_some Option.map_some List.length_cons List.length_nil List.all_cons List.all_nil Bool.and_true Bool.true_and Bool.and_false Bool.false_and and_true true_and and_false false_and Bool.false_eq_true List.set_cons_zero List.set_cons_succ List.append_nil List.nil_append List.cons_append List.take_zero List.take_succ_cons List.take_nil List.drop_zero List.drop_succ_cons List.map_cons List.map_nil decide_true decide_false beq_self_eq_true Bool.not_true Bool.not_false or_true true_or or_false false_or Nat.zero_add Nat.add_zero Nat.le_refl Nat.lt_irrefl decide_eq_true_eq eq_self_iff_true not_true_eq_false not_false_eq_true List.getD_cons_zero code_loop Nat.zero_le Nat.not_lt_zero Bool.true_beq Bool.false_beq beq_true beq_false ge_iff_le gt_iff_lt Lpure pus Option.map_none assert_ifc assert_nil idxA_ptr idxA_eptr idxV_agg Int.cast_ofNat_Int Nat.mul_one Nat.zero_mul Int.toNat_natCast Int.toNat_zero setParts withO2 hasKey eqnil_sl nenil_sl eqnil_loc nenil_loc map_nil_iff okRefs_ints renCells_ints
attribute [local go_sem] shaped_t cells_t isAgg_t storable_t okRef_t pub_t

/-! ### choices, without the program -/
def goodAt (w : List Nat) (m x : Nat) : Bool := (m.testBit x) == decide (w.getD x 0 &&& m = 0)

theorem loop46_0 (nl : Bool) (n : Nat) (hn : 1 ≤ n ∧ n ≤ 7) (ps : List (Int × Int)) (w : List Nat) (ho : w.length = 8) (hsm : ∀ x ∈ w, x < 128) (m : Nat) (hm : m < 128) (X : List (List Int)) (N : Int) (hi : Nat) (lo : Nat) (hlo : lo = 2 + (kS X).length) (x : Nat) (g : Bool) (hok : x ≤ n) (env : Env) (st : St)
    (hg : gcAV true lo hi (canon env [1, 3, 4, 5, 6, 12, 13, 17, 18]) st = ([(1, .ptr 0 0), (3, .ptr 1 0), (4, kA X), (5, J m), (6, B g), (12, I N), (13, J m), (17, I n), (18, I x)], ⟨bkCells nl (n : Int) ps :: w.map J :: kS X, []⟩)) :
    ∃ x_1 en s, lim (headed pure (run L) true [1, 3, 4, 5, 6, 12, 13, 17, 18] lp46_0 lo hi) env st = some (x_1, en, s) ∧ (x_1 = .exit 2 ∧ en.get 1 = .ptr 0 0 ∧ en.get 3 = .ptr 1 0 ∧ en.get 4 = kA X ∧ en.get 5 = J m ∧ en.get 6 = B (g && (List.range' x (n - x)).all (goodAt w m)) ∧ en.get 12 = I N ∧ en.get 13 = J m ∧ en.get 3000000 = .any ∧ s = ⟨bkCells nl (n : Int) ps :: w.map J :: kS X, []⟩) := by
  refine loop_wp (α := Nat × Bool) (fun ⟨x, g⟩ => n - x) (fun ⟨x, g⟩ => x ≤ n) (fun ⟨x, g⟩ => ([(1, .ptr 0 0), (3, .ptr 1 0), (4, kA X), (5, J m), (6, B g), (12, I N), (13, J m), (17, I n), (18, I x)], ⟨bkCells nl (n : Int) ps :: w.map J :: kS X, []⟩)) (fun ⟨x, g⟩ x_1 en s => x_1 = .exit 2 ∧ en.get 1 = .ptr 0 0 ∧ en.get 3 = .ptr 1 0 ∧ en.get 4 = kA X ∧ en.get 5 = J m ∧ en.get 6 = B (g && (List.range' x (n - x)).all (goodAt w m)) ∧ en.get 12 = I N ∧ en.get 13 = J m ∧ en.get 3000000 = .any ∧ s = ⟨bkCells nl (n : Int) ps :: w.map J :: kS X, []⟩) (fun ⟨x, g⟩ hok => ?_) ⟨x, g⟩ hok env st hg
  simp only at hok
  subst hlo
  dsimp only
  have okX : ∀ k, okRef k (kA X) = true ∨ X ≠ [] := fun k => by
    by_cases h : X = []
    · left; subst h; rfl
    · exact .inr h
  by_cases h : x < n
  · have hs := succ64 x (by omega)
    have hlt : ((x : Int) < (n : Int)) = True := eq_true (by omega)
    have hr : List.range' x (n - x) = x :: List.range' (x + 1) (n - (x + 1)) := by
      rw [show n - x = (n - (x + 1)) + 1 by omega, List.range'_succ]
    have g1 := getJ w x (by omega)
    have hgo : goodAt w m x = ((m.testBit x) == decide (w.getD x 0 &&& m = 0)) := rfl
    have hsx := small_getD hsm x
    have q1 := shr_i m x (by omega)
    have q2 := and_one_i (m >>> x) (by have := Nat.shiftRight_le m x; omega)
    have q3 := and_i (w.getD x 0) m (by omega) (by omega)
    have hb := bit_one m x
    have b1 : ((0 : Int) ≤ (x : Int)) = True := eq_true (by omega)
    have b2 : ((x : Int) < 8) = True := eq_true (by omega)
    have b5 : (x + 1 ≤ 8) = True := eq_true (by omega)
    rw [hr, List.all_cons, hgo]
    generalize w.getD x 0 = v at *
    generalize v &&& m = c at *
    have hc : ((c : Int) = 0) = (c = 0) := propext (by omega)
    by_cases hX : X = []
    · subst hX
      have eA : kA [] = .v (.slice none 0 0) := rfl
      have eS : kS [] = [] := rfl
      cases g
      · simp only [go_sem, reduceIte, Nat.reduceEqDiff, Nat.reduceAdd, Nat.reduceSub, Nat.reduceLeDiff, Nat.reduceLT, reduceCtorEq, Int.reduceLT, Int.reduceLE, Int.reduceEq, Int.reduceBEq, Int.reduceSub, Int.reduceAdd, Int.reduceMul, Int.reduceNeg, Int.reduceToNat, Nat.reduceMul, Nat.reduceBEq, index_rsl_if, setm, make_ints, condK_dec, wantK_dec, not_dec, and_dec, or_dec, seqK_ite, seqK_none, blockK_ite, blockK_none, opsK_ite, opsK_none, stepK_ite, stepK_none, bodyK_ite, bodyK_none, resK_ite, resK_none, leaveK_ite, leaveK_none, only_ite, only_none, bind_ite, gives_some, gives_none, gives_ite, then_normal, then_ret, then_exit, then_none, then_ite, Option.bind_none, Bool.not_eq_true', decide_eq_false_iff_not, Bool.and_eq_true, Bool.or_eq_true, Option.some.injEq, Int.not_lt, Int.not_le, lp46_0, hlt, hs, eA, eS]
        refine ⟨(x + 1, false), by simp only [go_sem, reduceIte, Nat.reduceEqDiff, Nat.reduceAdd, Nat.reduceSub, Nat.reduceLeDiff, Nat.reduceLT, reduceCtorEq, Int.reduceLT, Int.reduceLE, Int.reduceEq, Int.reduceBEq, Int.reduceSub, Int.reduceAdd, Int.reduceMul, Int.reduceNeg, Int.reduceToNat, Nat.reduceMul, Nat.reduceBEq, ren1_locm, loc_tips, locT_eq, eA, eS, okRefsJ, renCellsJ, List.length_nil] <;> rfl, ?_, ?_, fun x en s hq => ?_⟩
        · omega
        · omega
        · simpa using hq
      · by_cases p1 : m.testBit x = true
        · by_cases p2 : c = 0
          · simp only [go_sem, reduceIte, Nat.reduceEqDiff, Nat.reduceAdd, Nat.reduceSub, Nat.reduceLeDiff, Nat.reduceLT, reduceCtorEq, Int.reduceLT, Int.reduceLE, Int.reduceEq, Int.reduceBEq, Int.reduceSub, Int.reduceAdd, Int.reduceMul, Int.reduceNeg, Int.reduceToNat, Nat.reduceMul, Nat.reduceBEq, index_rsl_if, setm, make_ints, condK_dec, wantK_dec, not_dec, and_dec, or_dec, seqK_ite, seqK_none, blockK_ite, blockK_none, opsK_ite, opsK_none, stepK_ite, stepK_none, bodyK_ite, bodyK_none, resK_ite, resK_none, leaveK_ite, leaveK_none, only_ite, only_none, bind_ite, gives_some, gives_none, gives_ite, then_normal, then_ret, then_exit, then_none, then_ite, Option.bind_none, Bool.not_eq_true', decide_eq_false_iff_not, Bool.and_eq_true, Bool.or_eq_true, Option.some.injEq, Int.not_lt, Int.not_le, lp46_0, hlt, hs, eA, eS, g1, ho, b1, b2, b5, q1, q2, q3, hb, hc, p1, p2, List.length_map]
            refine ⟨(x + 1, true), by simp only [go_sem, reduceIte, Nat.reduceEqDiff, Nat.reduceAdd, Nat.reduceSub, Nat.reduceLeDiff, Nat.reduceLT, reduceCtorEq, Int.reduceLT, Int.reduceLE, Int.reduceEq, Int.reduceBEq, Int.reduceSub, Int.reduceAdd, Int.reduceMul, Int.reduceNeg, Int.reduceToNat, Nat.reduceMul, Nat.reduceBEq, ren1_locm, loc_tips, locT_eq, eA, eS, okRefsJ, renCellsJ, List.length_nil] <;> rfl, ?_, ?_, fun x en s hq => ?_⟩
            · omega
            · omega
            · simpa [p1, p2] using hq
          · simp only [go_sem, reduceIte, Nat.reduceEqDiff, Nat.reduceAdd, Nat.reduceSub, Nat.reduceLeDiff, Nat.reduceLT, reduceCtorEq, Int.reduceLT, Int.reduceLE, Int.reduceEq, Int.reduceBEq, Int.reduceSub, Int.reduceAdd, Int.reduceMul, Int.reduceNeg, Int.reduceToNat, Nat.reduceMul, Nat.reduceBEq, index_rsl_if, setm, make_ints, condK_dec, wantK_dec, not_dec, and_dec, or_dec, seqK_ite, seqK_none, blockK_ite, blockK_none, opsK_ite, opsK_none, stepK_ite, stepK_none, bodyK_ite, bodyK_none, resK_ite, resK_none, leaveK_ite, leaveK_none, only_ite, only_none, bind_ite, gives_some, gives_none, gives_ite, then_normal, then_ret, then_exit, then_none, then_ite, Option.bind_none, Bool.not_eq_true', decide_eq_false_iff_not, Bool.and_eq_true, Bool.or_eq_true, Option.some.injEq, Int.not_lt, Int.not_le, lp46_0, hlt, hs, eA, eS, g1, ho, b1, b2, b5, q1, q2, q3, hb, hc, p1, p2, List.length_map]
            refine ⟨(x + 1, false), by simp only [go_sem, reduceIte, Nat.reduceEqDiff, Nat.reduceAdd, Nat.reduceSub, Nat.reduceLeDiff, Nat.reduceLT, reduceCtorEq, Int.reduceLT, Int.reduceLE, Int.reduceEq, Int.reduceBEq, Int.reduceSub, Int.reduceAdd, Int.reduceMul, Int.reduceNeg, Int.reduceToNat, Nat.reduceMul, Nat.reduceBEq, ren1_locm, loc_tips, locT_eq, eA, eS, okRefsJ, renCellsJ, List.length_nil] <;> rfl, ?_, ?_, fun x en s hq => ?_⟩
            · omega
            · omega
            · simpa [p1, p2] using hq
        · have p1' : m.testBit x = false := by simpa using p1
          by_cases p2 : c = 0
          · simp only [go_sem, reduceIte, Nat.reduceEqDiff, Nat.reduceAdd, Nat.reduceSub, Nat.reduceLeDiff, Nat.reduceLT, reduceCtorEq, Int.reduceLT, Int.reduceLE, Int.reduceEq, Int.reduceBEq, Int.reduceSub, Int.reduceAdd, Int.reduceMul, Int.reduceNeg, Int.reduceToNat, Nat.reduceMul, Nat.reduceBEq, index_rsl_if, setm, make_ints, condK_dec, wantK_dec, not_dec, and_dec, or_dec, seqK_ite, seqK_none, blockK_ite, blockK_none, opsK_ite, opsK_none, stepK_ite, stepK_none, bodyK_ite, bodyK_none, resK_ite, resK_none, leaveK_ite, leaveK_none, only_ite, only_none, bind_ite, gives_some, gives_none, gives_ite, then_normal, then_ret, then_exit, then_none, then_ite, Option.bind_none, Bool.not_eq_true', decide_eq_false_iff_not, Bool.and_eq_true, Bool.or_eq_true, Option.some.injEq, Int.not_lt, Int.not_le, lp46_0, hlt, hs, eA, eS, g1, ho, b1, b2, b5, q1, q2, q3, hb, hc, p1', p2, List.length_map]
            refine ⟨(x + 1, false), by simp only [go_sem, reduceIte, Nat.reduceEqDiff, Nat.reduceAdd, Nat.reduceSub, Nat.reduceLeDiff, Nat.reduceLT, reduceCtorEq, Int.reduceLT, Int.reduceLE, Int.reduceEq, Int.reduceBEq, Int.reduceSub, Int.reduceAdd, Int.reduceMul, Int.reduceNeg, Int.reduceToNat, Nat.reduceMul, Nat.reduceBEq, ren1_locm, loc_tips, locT_eq, eA, eS, okRefsJ, renCellsJ, List.length_nil] <;> rfl, ?_, ?_, fun x en s hq => ?_⟩
            · omega
            · omega
            · simpa [p1', p2] using hq
          · simp only [go_sem, reduceIte, Nat.reduceEqDiff, Nat.reduceAdd, Nat.reduceSub, Nat.reduceLeDiff, Nat.reduceLT, reduceCtorEq, Int.reduceLT, Int.reduceLE, Int.reduceEq, Int.reduceBEq, Int.reduceSub, Int.reduceAdd, Int.reduceMul, Int.reduceNeg, Int.reduceToNat, Nat.reduceMul, Nat.reduceBEq, index_rsl_if, setm, make_ints, condK_dec, wantK_dec, not_dec, and_dec, or_dec, seqK_ite, seqK_none, blockK_ite, blockK_none, opsK_ite, opsK_none, stepK_ite, stepK_none, bodyK_ite, bodyK_none, resK_ite, resK_none, leaveK_ite, leaveK_none, only_ite, only_none, bind_ite, gives_some, gives_none, gives_ite, then_normal, then_ret, then_exit, then_none, then_ite, Option.bind_none, Bool.not_eq_true', decide_eq_false_iff_not, Bool.and_eq_true, Bool.or_eq_true, Option.some.injEq, Int.not_lt, Int.not_le, lp46_0, hlt, hs, eA, eS, g1, ho, b1, b2, b5, q1, q2, q3, hb, hc, p1', p2, List.length_map]
            refine ⟨(x + 1, true), by simp only [go_sem, reduceIte, Nat.reduceEqDiff, Nat.reduceAdd, Nat.reduceSub, Nat.reduceLeDiff, Nat.reduceLT, reduceCtorEq, Int.reduceLT, Int.reduceLE, Int.reduceEq, Int.reduceBEq, Int.reduceSub, Int.reduceAdd, Int.reduceMul, Int.reduceNeg, Int.reduceToNat, Nat.reduceMul, Nat.reduceBEq, ren1_locm, loc_tips, locT_eq, eA, eS, okRefsJ, renCellsJ, List.length_nil] <;> rfl, ?_, ?_, fun x en s hq => ?_⟩
            · omega
            · omega
            · simpa [p1', p2] using hq
    · have eA := kA_ne hX
      have eS := kS_ne hX
      cases g
      · simp only [go_sem, reduceIte, Nat.reduceEqDiff, Nat.reduceAdd, Nat.reduceSub, Nat.reduceLeDiff, Nat.reduceLT, reduceCtorEq, Int.reduceLT, Int.reduceLE, Int.reduceEq, Int.reduceBEq, Int.reduceSub, Int.reduceAdd, Int.reduceMul, Int.reduceNeg, Int.reduceToNat, Nat.reduceMul, Nat.reduceBEq, index_rsl_if, setm, make_ints, condK_dec, wantK_dec, not_dec, and_dec, or_dec, seqK_ite, seqK_none, blockK_ite, blockK_none, opsK_ite, opsK_none, stepK_ite, stepK_none, bodyK_ite, bodyK_none, resK_ite, resK_none, leaveK_ite, leaveK_none, only_ite, only_none, bind_ite, gives_some, gives_none, gives_ite, then_normal, then_ret, then_exit, then_none, then_ite, Option.bind_none, Bool.not_eq_true', decide_eq_false_iff_not, Bool.and_eq_true, Bool.or_eq_true, Option.some.injEq, Int.not_lt, Int.not_le, lp46_0, hlt, hs, eA, eS]
        refine ⟨(x + 1, false), by simp only [go_sem, reduceIte, Nat.reduceEqDiff, Nat.reduceAdd, Nat.reduceSub, Nat.reduceLeDiff, Nat.reduceLT, reduceCtorEq, Int.reduceLT, Int.reduceLE, Int.reduceEq, Int.reduceBEq, Int.reduceSub, Int.reduceAdd, Int.reduceMul, Int.reduceNeg, Int.reduceToNat, Nat.reduceMul, Nat.reduceBEq, ren1_locm, loc_tips, locT_eq, eA, eS, okRefsJ, renCellsJ, okRefsT, renCellsT, List.length_cons, List.length_nil] <;> rfl, ?_, ?_, fun x en s hq => ?_⟩
        · omega
        · omega
        · simpa using hq
      · by_cases p1 : m.testBit x = true
        · by_cases p2 : c = 0
          · simp only [go_sem, reduceIte, Nat.reduceEqDiff, Nat.reduceAdd, Nat.reduceSub, Nat.reduceLeDiff, Nat.reduceLT, reduceCtorEq, Int.reduceLT, Int.reduceLE, Int.reduceEq, Int.reduceBEq, Int.reduceSub, Int.reduceAdd, Int.reduceMul, Int.reduceNeg, Int.reduceToNat, Nat.reduceMul, Nat.reduceBEq, index_rsl_if, setm, make_ints, condK_dec, wantK_dec, not_dec, and_dec, or_dec, seqK_ite, seqK_none, blockK_ite, blockK_none, opsK_ite, opsK_none, stepK_ite, stepK_none, bodyK_ite, bodyK_none, resK_ite, resK_none, leaveK_ite, leaveK_none, only_ite, only_none, bind_ite, gives_some, gives_none, gives_ite, then_normal, then_ret, then_exit, then_none, then_ite, Option.bind_none, Bool.not_eq_true', decide_eq_false_iff_not, Bool.and_eq_true, Bool.or_eq_true, Option.some.injEq, Int.not_lt, Int.not_le, lp46_0, hlt, hs, eA, eS, g1, ho, b1, b2, b5, q1, q2, q3, hb, hc, p1, p2, List.length_map]
            refine ⟨(x + 1, true), by simp only [go_sem, reduceIte, Nat.reduceEqDiff, Nat.reduceAdd, Nat.reduceSub, Nat.reduceLeDiff, Nat.reduceLT, reduceCtorEq, Int.reduceLT, Int.reduceLE, Int.reduceEq, Int.reduceBEq, Int.reduceSub, Int.reduceAdd, Int.reduceMul, Int.reduceNeg, Int.reduceToNat, Nat.reduceMul, Nat.reduceBEq, ren1_locm, loc_tips, locT_eq, eA, eS, okRefsJ, renCellsJ, okRefsT, renCellsT, List.length_cons, List.length_nil] <;> rfl, ?_, ?_, fun x en s hq => ?_⟩
            · omega
            · omega
            · simpa [p1, p2] using hq
          · simp only [go_sem, reduceIte, Nat.reduceEqDiff, Nat.reduceAdd, Nat.reduceSub, Nat.reduceLeDiff, Nat.reduceLT, reduceCtorEq, Int.reduceLT, Int.reduceLE, Int.reduceEq, Int.reduceBEq, Int.reduceSub, Int.reduceAdd, Int.reduceMul, Int.reduceNeg, Int.reduceToNat, Nat.reduceMul, Nat.reduceBEq, index_rsl_if, setm, make_ints, condK_dec, wantK_dec, not_dec, and_dec, or_dec, seqK_ite, seqK_none, blockK_ite, blockK_none, opsK_ite, opsK_none, stepK_ite, stepK_none, bodyK_ite, bodyK_none, resK_ite, resK_none, leaveK_ite, leaveK_none, only_ite, only_none, bind_ite, gives_some, gives_none, gives_ite, then_normal, then_ret, then_exit, then_none, then_ite, Option.bind_none, Bool.not_eq_true', decide_eq_false_iff_not, Bool.and_eq_true, Bool.or_eq_true, Option.some.injEq, Int.not_lt, Int.not_le, lp46_0, hlt, hs, eA, eS, g1, ho, b1, b2, b5, q1, q2, q3, hb, hc, p1, p2, List.length_map]
            refine ⟨(x + 1, false), by simp only [go_sem, reduceIte, Nat.reduceEqDiff, Nat.reduceAdd, Nat.reduceSub, Nat.reduceLeDiff, Nat.reduceLT, reduceCtorEq, Int.reduceLT, Int.reduceLE, Int.reduceEq, Int.reduceBEq, Int.reduceSub, Int.reduceAdd, Int.reduceMul, Int.reduceNeg, Int.reduceToNat, Nat.reduceMul, Nat.reduceBEq, ren1_locm, loc_tips, locT_eq, eA, eS, okRefsJ, renCellsJ, okRefsT, renCellsT, List.length_cons, List.length_nil] <;> rfl, ?_, ?_, fun x en s hq => ?_⟩
            · omega
            · omega
            · simpa [p1, p2] using hq
        · have p1' : m.testBit x = false := by simpa using p1
          by_cases p2 : c = 0
          · simp only [go_sem, reduceIte, Nat.reduceEqDiff, Nat.reduceAdd, Nat.reduceSub, Nat.reduceLeDiff, Nat.reduceLT, reduceCtorEq, Int.reduceLT, Int.reduceLE, Int.reduceEq, Int.reduceBEq, Int.reduceSub, Int.reduceAdd, Int.reduceMul, Int.reduceNeg, Int.reduceToNat, Nat.reduceMul, Nat.reduceBEq, index_rsl_if, setm, make_ints, condK_dec, wantK_dec, not_dec, and_dec, or_dec, seqK_ite, seqK_none, blockK_ite, blockK_none, opsK_ite, opsK_none, stepK_ite, stepK_none, bodyK_ite, bodyK_none, resK_ite, resK_none, leaveK_ite, leaveK_none, only_ite, only_none, bind_ite, gives_some, gives_none, gives_ite, then_normal, then_ret, then_exit, then_none, then_ite, Option.bind_none, Bool.not_eq_true', decide_eq_false_iff_not, Bool.and_eq_true, Bool.or_eq_true, Option.some.injEq, Int.not_lt, Int.not_le, lp46_0, hlt, hs, eA, eS, g1, ho, b1, b2, b5, q1, q2, q3, hb, hc, p1', p2, List.length_map]
            refine ⟨(x + 1, false), by simp only [go_sem, reduceIte, Nat.reduceEqDiff, Nat.reduceAdd, Nat.reduceSub, Nat.reduceLeDiff, Nat.reduceLT, reduceCtorEq, Int.reduceLT, Int.reduceLE, Int.reduceEq, Int.reduceBEq, Int.reduceSub, Int.reduceAdd, Int.reduceMul, Int.reduceNeg, Int.reduceToNat, Nat.reduceMul, Nat.reduceBEq, ren1_locm, loc_tips, locT_eq, eA, eS, okRefsJ, renCellsJ, okRefsT, renCellsT, List.length_cons, List.length_nil] <;> rfl, ?_, ?_, fun x en s hq => ?_⟩
            · omega
            · omega
            · simpa [p1', p2] using hq
          · simp only [go_sem, reduceIte, Nat.reduceEqDiff, Nat.reduceAdd, Nat.reduceSub, Nat.reduceLeDiff, Nat.reduceLT, reduceCtorEq, Int.reduceLT, Int.reduceLE, Int.reduceEq, Int.reduceBEq, Int.reduceSub, Int.reduceAdd, Int.reduceMul, Int.reduceNeg, Int.reduceToNat, Nat.reduceMul, Nat.reduceBEq, index_rsl_if, setm, make_ints, condK_dec, wantK_dec, not_dec, and_dec, or_dec, seqK_ite, seqK_none, blockK_ite, blockK_none, opsK_ite, opsK_none, stepK_ite, stepK_none, bodyK_ite, bodyK_none, resK_ite, resK_none, leaveK_ite, leaveK_none, only_ite, only_none, bind_ite, gives_some, gives_none, gives_ite, then_normal, then_ret, then_exit, then_none, then_ite, Option.bind_none, Bool.not_eq_true', decide_eq_false_iff_not, Bool.and_eq_true, Bool.or_eq_true, Option.some.injEq, Int.not_lt, Int.not_le, lp46_0, hlt, hs, eA, eS, g1, ho, b1, b2, b5, q1, q2, q3, hb, hc, p1', p2, List.length_map]
            refine ⟨(x + 1, true), by simp only [go_sem, reduceIte, Nat.reduceEqDiff, Nat.reduceAdd, Nat.reduceSub, Nat.reduceLeDiff, Nat.reduceLT, reduceCtorEq, Int.reduceLT, Int.reduceLE, Int.reduceEq, Int.reduceBEq, Int.reduceSub, Int.reduceAdd, Int.reduceMul, Int.reduceNeg, Int.reduceToNat, Nat.reduceMul, Nat.reduceBEq, ren1_locm, loc_tips, locT_eq, eA, eS, okRefsJ, renCellsJ, okRefsT, renCellsT, List.length_cons, List.length_nil] <;> rfl, ?_, ?_, fun x en s hq => ?_⟩
            · omega
            · omega
            · simpa [p1', p2] using hq
  · have hr : n - x = 0 := by omega
    have hlt : ((x : Int) < (n : Int)) = False := eq_false (by omega)
    rw [hr]
    simp only [go_sem, reduceIte, Nat.reduceEqDiff, Nat.reduceAdd, Nat.reduceSub, Nat.reduceLeDiff, Nat.reduceLT, reduceCtorEq, Int.reduceLT, Int.reduceLE, Int.reduceEq, Int.reduceBEq, Int.reduceSub, Int.reduceAdd, Int.reduceMul, Int.reduceNeg, Int.reduceToNat, Nat.reduceMul, Nat.reduceBEq, index_rsl_if, setm, make_ints, condK_dec, wantK_dec, not_dec, and_dec, or_dec, seqK_ite, seqK_none, blockK_ite, blockK_none, opsK_ite, opsK_none, stepK_ite, stepK_none, bodyK_ite, bodyK_none, resK_ite, resK_none, leaveK_ite, leaveK_none, only_ite, only_none, bind_ite, gives_some, gives_none, gives_ite, then_normal, then_ret, then_exit, then_none, then_ite, Option.bind_none, Bool.not_eq_true', decide_eq_false_iff_not, Bool.and_eq_true, Bool.or_eq_true, Option.some.injEq, Int.not_lt, Int.not_le, lp46_0, hlt]
    simp

attribute [local go_sem] shaped_t cells_t isAgg_t storable_t okRef_t pub_t

theorem good_jdg (n : Nat) (w : List Nat) (m : Nat) : (List.range' 0 n).all (goodAt w m) = decide (jdg n w m = 0) := by
  rw [Bool.eq_iff_iff, decide_eq_true_iff, jdg_zero, List.all_eq_true]
  constructor
  · intro h x hx
    have := h x (by rw [List.mem_range'_1]; omega)
    unfold goodAt at this
    rw [beq_iff_eq] at this
    rw [this, decide_eq_true_iff]
  · intro h x hx
    rw [List.mem_range'_1] at hx
    unfold goodAt
    rw [beq_iff_eq, Bool.eq_iff_iff, decide_eq_true_iff]
    exact h x (by omega)

set_option maxHeartbeats 2000000 in
theorem loop46_1 (nl : Bool) (n : Nat) (hn : 1 ≤ n ∧ n ≤ 7) (ps : List (Int × Int)) (w : List Nat) (ho : w.length = 8) (hsm : ∀ x ∈ w, x < 128) (m : Nat) (X : List (List Int)) (hok : m ≤ 2 ^ n ∧ X.length ≤ m) (env : Env) (st : St)
    (hg : gcAV true 2 0 (canon env [1, 3, 4, 12, 13, 3000000]) st = ([(1, .ptr 0 0), (3, .ptr 1 0), (4, kA X), (12, I ((2 ^ n : Nat) : Int)), (13, J m), (3000000, .any)], ⟨bkCells nl (n : Int) ps :: w.map J :: kS X, []⟩)) :
    ∃ x_1 en s, lim (headed pure (run L) true [1, 3, 4, 12, 13, 3000000] lp46_1 2 0) env st = some (x_1, en, s) ∧ (x_1 = .exit 0 ∧ en.get 4 = kA (X ++ kerL (jdg n w) (List.range' m (2 ^ n - m))) ∧ s = ⟨bkCells nl (n : Int) ps :: w.map J :: kS (X ++ kerL (jdg n w) (List.range' m (2 ^ n - m))), []⟩) := by
  refine loop_wp (α := Nat × List (List Int)) (fun ⟨m, X⟩ => 2 ^ n - m) (fun ⟨m, X⟩ => m ≤ 2 ^ n ∧ X.length ≤ m) (fun ⟨m, X⟩ => ([(1, .ptr 0 0), (3, .ptr 1 0), (4, kA X), (12, I ((2 ^ n : Nat) : Int)), (13, J m), (3000000, .any)], ⟨bkCells nl (n : Int) ps :: w.map J :: kS X, []⟩)) (fun ⟨m, X⟩ x_1 en s => x_1 = .exit 0 ∧ en.get 4 = kA (X ++ kerL (jdg n w) (List.range' m (2 ^ n - m))) ∧ s = ⟨bkCells nl (n : Int) ps :: w.map J :: kS (X ++ kerL (jdg n w) (List.range' m (2 ^ n - m))), []⟩) (fun ⟨m, X⟩ hok => ?_) ⟨m, X⟩ hok env st hg
  simp only at hok
  obtain ⟨h1, h2⟩ := hok
  dsimp only at h1 h2 ⊢
  have h128 : 2 ^ n ≤ 128 := Nat.le_trans (Nat.pow_le_pow_right (by omega) hn.2) (by decide)
  generalize 2 ^ n = N at *
  by_cases h : m < N
  · have hs := succ64 m (by omega)
    have hlt : ((m : Int) < (N : Int)) = True := eq_true (by omega)
    have hr : List.range' m (N - m) = m :: List.range' (m + 1) (N - (m + 1)) := by
      rw [show N - m = (N - (m + 1)) + 1 by omega, List.range'_succ]
    have h51 : ∀ st, run L 51 [J m] st = some (tAV (memb m), st) := fun st => c51 m (by omega) st
    have hN := fun S => happ_nil (memb m) S
    have hgj := good_jdg n w m
    rw [hr, kerL_cons]
    by_cases hX : X = []
    · subst hX
      have eA : kA [] = .v (.slice none 0 0) := rfl
      have eS : kS [] = [] := rfl
      simp only [go_sem, reduceIte, Nat.reduceEqDiff, Nat.reduceAdd, Nat.reduceSub, Nat.reduceLeDiff, Nat.reduceLT, reduceCtorEq, Int.reduceLT, Int.reduceLE, Int.reduceEq, Int.reduceBEq, Int.reduceSub, Int.reduceAdd, Int.reduceMul, Int.reduceNeg, Int.reduceToNat, Nat.reduceMul, Nat.reduceBEq, index_rsl_if, setm, make_ints, condK_dec, wantK_dec, not_dec, and_dec, or_dec, seqK_ite, seqK_none, blockK_ite, blockK_none, opsK_ite, opsK_none, stepK_ite, stepK_none, bodyK_ite, bodyK_none, resK_ite, resK_none, leaveK_ite, leaveK_none, only_ite, only_none, bind_ite, gives_some, gives_none, gives_ite, then_normal, then_ret, then_exit, then_none, then_ite, Option.bind_none, Bool.not_eq_true', decide_eq_false_iff_not, Bool.and_eq_true, Bool.or_eq_true, Option.some.injEq, Int.not_lt, Int.not_le, lp46_1, hlt, hs, eA, eS]
      generalize hg : lim (headed pure (run L) true _ lp46_0 _ _) _ _ = o
      obtain ⟨x, en, s, rfl, h2⟩ : ∃ x en s, o = some (x, en, s) ∧ _ := by rw [← hg]; exact loop46_0 nl n hn ps w ho hsm m (by omega) [] (N : Int) 0 2 rfl 0 true (by omega) _ _ (by simp only [go_sem, reduceIte, Nat.reduceEqDiff, Nat.reduceAdd, Nat.reduceSub, Nat.reduceLeDiff, Nat.reduceLT, reduceCtorEq, Int.reduceLT, Int.reduceLE, Int.reduceEq, Int.reduceBEq, Int.reduceSub, Int.reduceAdd, Int.reduceMul, Int.reduceNeg, Int.reduceToNat, Nat.reduceMul, Nat.reduceBEq, eA, eS, okRefsJ, renCellsJ, List.length_nil, Int.natCast_zero] <;> rfl)
      clear hg
      rw [Nat.sub_zero, hgj, Bool.true_and] at h2
      obtain ⟨rfl, e1, e3, e4, e5, e6, e12, e13, e30, rfl⟩ := h2
      by_cases he : jdg n w m = 0
      · rw [if_pos he]
        rw [decide_eq_true he] at e6
        generalize memb m = l at *
        simp only [go_sem, reduceIte, Nat.reduceEqDiff, Nat.reduceAdd, Nat.reduceSub, Nat.reduceLeDiff, Nat.reduceLT, reduceCtorEq, Int.reduceLT, Int.reduceLE, Int.reduceEq, Int.reduceBEq, Int.reduceSub, Int.reduceAdd, Int.reduceMul, Int.reduceNeg, Int.reduceToNat, Nat.reduceMul, Nat.reduceBEq, index_rsl_if, setm, make_ints, condK_dec, wantK_dec, not_dec, and_dec, or_dec, seqK_ite, seqK_none, blockK_ite, blockK_none, opsK_ite, opsK_none, stepK_ite, stepK_none, bodyK_ite, bodyK_none, resK_ite, resK_none, leaveK_ite, leaveK_none, only_ite, only_none, bind_ite, gives_some, gives_none, gives_ite, then_normal, then_ret, then_exit, then_none, then_ite, Option.bind_none, Bool.not_eq_true', decide_eq_false_iff_not, Bool.and_eq_true, Bool.or_eq_true, Option.some.injEq, Int.not_lt, Int.not_le, lp46_1, hs, e1, e3, e4, e5, e6, e12, e13, eA, eS, h51, hN]
        refine ⟨(m + 1, [l]), by simp only [go_sem, reduceIte, Nat.reduceEqDiff, Nat.reduceAdd, Nat.reduceSub, Nat.reduceLeDiff, Nat.reduceLT, reduceCtorEq, Int.reduceLT, Int.reduceLE, Int.reduceEq, Int.reduceBEq, Int.reduceSub, Int.reduceAdd, Int.reduceMul, Int.reduceNeg, Int.reduceToNat, Nat.reduceMul, Nat.reduceBEq, ren1_locm, loc_tips, locT_eq, e1, e3, e4, e5, e6, e12, e13, e30, kA_one, kS_one, eA, eS, okRefsT, renCellsT, okRefsJ, renCellsJ, refsL_J, mapLs_J, compact, compactW, refsEnv, refsV, refsL, refsStore, refsAt, mapEnv, mapL, mapLs, newName, posOf, mapStore, pickStore, namesOk, refsV_sl, mapL_sl, refsL_T, mapLs_T, refsV_t, mapL_t, ren1_t, List.contains_nil, List.contains_cons, Option.getD_some, hasKey] <;> rfl, ?_, ?_, fun x en s hq => ?_⟩
        · dsimp only; exact ⟨by omega, by simp⟩
        · dsimp only; omega
        · exact hq
      · rw [if_neg he]
        rw [decide_eq_false he] at e6
        simp only [go_sem, reduceIte, Nat.reduceEqDiff, Nat.reduceAdd, Nat.reduceSub, Nat.reduceLeDiff, Nat.reduceLT, reduceCtorEq, Int.reduceLT, Int.reduceLE, Int.reduceEq, Int.reduceBEq, Int.reduceSub, Int.reduceAdd, Int.reduceMul, Int.reduceNeg, Int.reduceToNat, Nat.reduceMul, Nat.reduceBEq, index_rsl_if, setm, make_ints, condK_dec, wantK_dec, not_dec, and_dec, or_dec, seqK_ite, seqK_none, blockK_ite, blockK_none, opsK_ite, opsK_none, stepK_ite, stepK_none, bodyK_ite, bodyK_none, resK_ite, resK_none, leaveK_ite, leaveK_none, only_ite, only_none, bind_ite, gives_some, gives_none, gives_ite, then_normal, then_ret, then_exit, then_none, then_ite, Option.bind_none, Bool.not_eq_true', decide_eq_false_iff_not, Bool.and_eq_true, Bool.or_eq_true, Option.some.injEq, Int.not_lt, Int.not_le, lp46_1, hs, e1, e3, e4, e5, e6, e12, e13, eA, eS]
        refine ⟨(m + 1, ([] : List (List Int))), by simp only [go_sem, reduceIte, Nat.reduceEqDiff, Nat.reduceAdd, Nat.reduceSub, Nat.reduceLeDiff, Nat.reduceLT, reduceCtorEq, Int.reduceLT, Int.reduceLE, Int.reduceEq, Int.reduceBEq, Int.reduceSub, Int.reduceAdd, Int.reduceMul, Int.reduceNeg, Int.reduceToNat, Nat.reduceMul, Nat.reduceBEq, ren1_locm, loc_tips, locT_eq, e1, e3, e4, e5, e6, e12, e13, e30, eA, eS, okRefsT, renCellsT, okRefsJ, renCellsJ, refsL_J, mapLs_J, compact, compactW, refsEnv, refsV, refsL, refsStore, refsAt, mapEnv, mapL, mapLs, newName, posOf, mapStore, pickStore, namesOk, refsV_sl, mapL_sl, refsL_T, mapLs_T, refsV_t, mapL_t, ren1_t, List.contains_nil, List.contains_cons, Option.getD_some, hasKey] <;> rfl, ?_, ?_, fun x en s hq => ?_⟩
        · dsimp only; exact ⟨by omega, by simp⟩
        · dsimp only; omega
        · exact hq
    · have eA := kA_ne hX
      have eS := kS_ne hX
      have hpos : 1 ≤ X.length := by
        cases X with
        | nil => exact absurd rfl hX
        | cons x r => simp
      simp only [go_sem, reduceIte, Nat.reduceEqDiff, Nat.reduceAdd, Nat.reduceSub, Nat.reduceLeDiff, Nat.reduceLT, reduceCtorEq, Int.reduceLT, Int.reduceLE, Int.reduceEq, Int.reduceBEq, Int.reduceSub, Int.reduceAdd, Int.reduceMul, Int.reduceNeg, Int.reduceToNat, Nat.reduceMul, Nat.reduceBEq, index_rsl_if, setm, make_ints, condK_dec, wantK_dec, not_dec, and_dec, or_dec, seqK_ite, seqK_none, blockK_ite, blockK_none, opsK_ite, opsK_none, stepK_ite, stepK_none, bodyK_ite, bodyK_none, resK_ite, resK_none, leaveK_ite, leaveK_none, only_ite, only_none, bind_ite, gives_some, gives_none, gives_ite, then_normal, then_ret, then_exit, then_none, then_ite, Option.bind_none, Bool.not_eq_true', decide_eq_false_iff_not, Bool.and_eq_true, Bool.or_eq_true, Option.some.injEq, Int.not_lt, Int.not_le, lp46_1, hlt, hs, eA, eS]
      generalize hg : lim (headed pure (run L) true _ lp46_0 _ _) _ _ = o
      obtain ⟨x, en, s, rfl, h2⟩ : ∃ x en s, o = some (x, en, s) ∧ _ := by rw [← hg]; exact loop46_0 nl n hn ps w ho hsm m (by omega) X (N : Int) 0 3 (by rw [eS]; rfl) 0 true (by omega) _ _ (by simp only [go_sem, reduceIte, Nat.reduceEqDiff, Nat.reduceAdd, Nat.reduceSub, Nat.reduceLeDiff, Nat.reduceLT, reduceCtorEq, Int.reduceLT, Int.reduceLE, Int.reduceEq, Int.reduceBEq, Int.reduceSub, Int.reduceAdd, Int.reduceMul, Int.reduceNeg, Int.reduceToNat, Nat.reduceMul, Nat.reduceBEq, eA, eS, okRefsJ, renCellsJ, okRefsT, renCellsT, List.length_cons, List.length_nil, Int.natCast_zero] <;> rfl)
      clear hg
      rw [Nat.sub_zero, hgj, Bool.true_and] at h2
      obtain ⟨rfl, e1, e3, e4, e5, e6, e12, e13, e30, rfl⟩ := h2
      by_cases he : jdg n w m = 0
      · rw [if_pos he]
        rw [decide_eq_true he] at e6
        have hA := happ_at (bkCells nl (n : Int) ps) (w.map J) X (memb m) hpos (by omega)
        generalize memb m = l at *
        simp only [go_sem, reduceIte, Nat.reduceEqDiff, Nat.reduceAdd, Nat.reduceSub, Nat.reduceLeDiff, Nat.reduceLT, reduceCtorEq, Int.reduceLT, Int.reduceLE, Int.reduceEq, Int.reduceBEq, Int.reduceSub, Int.reduceAdd, Int.reduceMul, Int.reduceNeg, Int.reduceToNat, Nat.reduceMul, Nat.reduceBEq, index_rsl_if, setm, make_ints, condK_dec, wantK_dec, not_dec, and_dec, or_dec, seqK_ite, seqK_none, blockK_ite, blockK_none, opsK_ite, opsK_none, stepK_ite, stepK_none, bodyK_ite, bodyK_none, resK_ite, resK_none, leaveK_ite, leaveK_none, only_ite, only_none, bind_ite, gives_some, gives_none, gives_ite, then_normal, then_ret, then_exit, then_none, then_ite, Option.bind_none, Bool.not_eq_true', decide_eq_false_iff_not, Bool.and_eq_true, Bool.or_eq_true, Option.some.injEq, Int.not_lt, Int.not_le, lp46_1, hs, e1, e3, e4, e5, e6, e12, e13, eA, eS, h51, hA]
        refine ⟨(m + 1, X ++ [l]), by simp only [go_sem, reduceIte, Nat.reduceEqDiff, Nat.reduceAdd, Nat.reduceSub, Nat.reduceLeDiff, Nat.reduceLT, reduceCtorEq, Int.reduceLT, Int.reduceLE, Int.reduceEq, Int.reduceBEq, Int.reduceSub, Int.reduceAdd, Int.reduceMul, Int.reduceNeg, Int.reduceToNat, Nat.reduceMul, Nat.reduceBEq, ren1_locm, loc_tips, locT_eq, e1, e3, e4, e5, e6, e12, e13, e30, kA_snoc, kS_snoc, eA, eS, okRefsT, renCellsT, okRefsJ, renCellsJ, refsL_J, mapLs_J, compact, compactW, refsEnv, refsV, refsL, refsStore, refsAt, mapEnv, mapL, mapLs, newName, posOf, mapStore, pickStore, namesOk, refsV_sl, mapL_sl, refsL_T, mapLs_T, refsV_t, mapL_t, ren1_t, List.contains_nil, List.contains_cons, Option.getD_some, hasKey] <;> rfl, ?_, ?_, fun x en s hq => ?_⟩
        · dsimp only; exact ⟨by omega, by simp; omega⟩
        · dsimp only; omega
        · simp only [List.append_assoc] at hq; exact hq
      · rw [if_neg he]
        rw [decide_eq_false he] at e6
        simp only [go_sem, reduceIte, Nat.reduceEqDiff, Nat.reduceAdd, Nat.reduceSub, Nat.reduceLeDiff, Nat.reduceLT, reduceCtorEq, Int.reduceLT, Int.reduceLE, Int.reduceEq, Int.reduceBEq, Int.reduceSub, Int.reduceAdd, Int.reduceMul, Int.reduceNeg, Int.reduceToNat, Nat.reduceMul, Nat.reduceBEq, index_rsl_if, setm, make_ints, condK_dec, wantK_dec, not_dec, and_dec, or_dec, seqK_ite, seqK_none, blockK_ite, blockK_none, opsK_ite, opsK_none, stepK_ite, stepK_none, bodyK_ite, bodyK_none, resK_ite, resK_none, leaveK_ite, leaveK_none, only_ite, only_none, bind_ite, gives_some, gives_none, gives_ite, then_normal, then_ret, then_exit, then_none, then_ite, Option.bind_none, Bool.not_eq_true', decide_eq_false_iff_not, Bool.and_eq_true, Bool.or_eq_true, Option.some.injEq, Int.not_lt, Int.not_le, lp46_1, hs, e1, e3, e4, e5, e6, e12, e13, eA, eS]
        refine ⟨(m + 1, X), by simp only [go_sem, reduceIte, Nat.reduceEqDiff, Nat.reduceAdd, Nat.reduceSub, Nat.reduceLeDiff, Nat.reduceLT, reduceCtorEq, Int.reduceLT, Int.reduceLE, Int.reduceEq, Int.reduceBEq, Int.reduceSub, Int.reduceAdd, Int.reduceMul, Int.reduceNeg, Int.reduceToNat, Nat.reduceMul, Nat.reduceBEq, ren1_locm, loc_tips, locT_eq, e1, e3, e4, e5, e6, e12, e13, e30, eA, eS, okRefsT, renCellsT, okRefsJ, renCellsJ, refsL_J, mapLs_J, compact, compactW, refsEnv, refsV, refsL, refsStore, refsAt, mapEnv, mapL, mapLs, newName, posOf, mapStore, pickStore, namesOk, refsV_sl, mapL_sl, refsL_T, mapLs_T, refsV_t, mapL_t, ren1_t, List.contains_nil, List.contains_cons, Option.getD_some, hasKey] <;> rfl, ?_, ?_, fun x en s hq => ?_⟩
        · dsimp only; exact ⟨by omega, by omega⟩
        · dsimp only; omega
        · exact hq
  · have hr : N - m = 0 := by omega
    have hlt : ((m : Int) < (N : Int)) = False := eq_false (by omega)
    rw [hr]
    have e : X ++ kerL (jdg n w) (List.range' m 0) = X := by simp [kerL]
    simp only [go_sem, reduceIte, Nat.reduceEqDiff, Nat.reduceAdd, Nat.reduceSub, Nat.reduceLeDiff, Nat.reduceLT, reduceCtorEq, Int.reduceLT, Int.reduceLE, Int.reduceEq, Int.reduceBEq, Int.reduceSub, Int.reduceAdd, Int.reduceMul, Int.reduceNeg, Int.reduceToNat, Nat.reduceMul, Nat.reduceBEq, index_rsl_if, setm, make_ints, condK_dec, wantK_dec, not_dec, and_dec, or_dec, seqK_ite, seqK_none, blockK_ite, blockK_none, opsK_ite, opsK_none, stepK_ite, stepK_none, bodyK_ite, bodyK_none, resK_ite, resK_none, leaveK_ite, leaveK_none, only_ite, only_none, bind_ite, gives_some, gives_none, gives_ite, then_normal, then_ret, then_exit, then_none, then_ite, Option.bind_none, Bool.not_eq_true', decide_eq_false_iff_not, Bool.and_eq_true, Bool.or_eq_true, Option.some.injEq, Int.not_lt, Int.not_le, lp46_1, hlt]
    rw [e]; exact ⟨rfl, rfl⟩

attribute [local go_sem] shaped_t cells_t isAgg_t storable_t okRef_t pub_t

theorem frzVs_J (l : Nat) (cs : List AV) (xs : List Nat) : frzVs l cs (xs.map J) = xs.map J := frzVs_kind l cs (fun (n : Nat) => Value.int .i64 (n : Int)) xs
theorem kerL_87 {n : Nat} {ps : List (Int × Int)} (h7 : ∀ p ∈ ps, okP p) (l : List Nat) : kerL (jdg n (seeL 8 ps)) l = kerL (jdg n (seeL 7 ps)) l := by
  unfold kerL
  congr 1
  apply List.filter_congr
  intro m _
  rw [decide_eq_decide, ker_iff h7 (by omega), ker_iff h7 (by omega)]
set_option maxHeartbeats 1000000 in
theorem c46 (nl : Bool) (n : Nat) (ps : List (Int × Int)) (h : chk (n : Int) ps = 0) (st : St) : run L 46 [bkAV nl (n : Int) ps] st = some (sl 1 true ((chosL n ps).map tAV), st) := by
  rw [run_pure (fn := ir46) rfl rfl]
  obtain ⟨h1, hl16, h3, h4, h5⟩ := chk_zero h
  have h50 := fun st => c50 nl (n : Int) ps (by omega) h4 st
  have hpj := putJ (seeL 8 ps) (seeL_len 8 ps)
  have hlj := seeL_len 8 ps
  have hsh := shl_i n (by omega)
  have h12 := ker12 (n := n) (by omega) (fun p hp => h3 p hp) h4
  have hsm7 := kerL_small (jdg n (seeL 7 ps)) (List.range' 0 (2 ^ n))
  unfold chosL
  simp only [ir46, go_sem, reduceIte, Nat.reduceEqDiff, Nat.reduceAdd, Nat.reduceSub, Nat.reduceLeDiff, Nat.reduceLT, reduceCtorEq, Int.reduceLT, Int.reduceLE, Int.reduceEq, Int.reduceBEq, Int.reduceSub, Int.reduceAdd, Int.reduceMul, Int.reduceNeg, Int.reduceToNat, Nat.reduceMul, Nat.reduceBEq, h50, hpj, hlj, hsh, pubsJ, storableJ, List.length_map]
  generalize hg : lim (headed pure (run L) true _ lp46_1 _ _) _ _ = o
  obtain ⟨x, en, s, rfl, h2⟩ : ∃ x en s, o = some (x, en, s) ∧ _ := by rw [← hg]; exact loop46_1 nl n (by omega) ps (seeL 8 ps) (seeL_len 8 ps) (seeL_small 8 h4) 0 [] ⟨Nat.zero_le _, by simp⟩ _ _ (by simp only [go_sem, reduceIte, Nat.reduceEqDiff, Nat.reduceAdd, Nat.reduceSub, Nat.reduceLeDiff, Nat.reduceLT, reduceCtorEq, Int.reduceLT, Int.reduceLE, Int.reduceEq, Int.reduceBEq, Int.reduceSub, Int.reduceAdd, Int.reduceMul, Int.reduceNeg, Int.reduceToNat, Nat.reduceMul, Nat.reduceBEq, okRefsJ, renCellsJ, refsL_J, mapLs_J, compact, compactW, refsEnv, refsV, refsL, refsStore, refsAt, mapEnv, mapL, mapLs, newName, posOf, mapStore, pickStore, namesOk, refsV_sl, mapL_sl, List.contains_nil, List.contains_cons, Option.getD_some, hasKey, Int.natCast_zero, show kA [] = .v (.slice none 0 0) from rfl, show kS [] = [] from rfl] <;> rfl)
  clear hg
  rw [List.nil_append, Nat.sub_zero, kerL_87 h4] at h2
  obtain ⟨rfl, e4, rfl⟩ := h2
  generalize kerL (jdg n (seeL 7 ps)) (List.range' 0 (2 ^ n)) = X at *
  by_cases hX : X = []
  · subst hX
    have eA : kA [] = .v (.slice none 0 0) := rfl
    have eS : kS [] = [] := rfl
    have h54 := fun st => c54n st
    simp only [go_sem, reduceIte, Nat.reduceEqDiff, Nat.reduceAdd, Nat.reduceSub, Nat.reduceLeDiff, Nat.reduceLT, reduceCtorEq, Int.reduceLT, Int.reduceLE, Int.reduceEq, Int.reduceBEq, Int.reduceSub, Int.reduceAdd, Int.reduceMul, Int.reduceNeg, Int.reduceToNat, Nat.reduceMul, Nat.reduceBEq, e4, eA, eS, h54, show pure 54 = false from rfl, code_frz, frzAV, frzT, frzLs, rslsOf, frzEnv, frzEnv_get, frzStore, frzVs, frzV_v, frzV_ptr, frzV_sl]
    rfl
  · have eA := kA_ne hX
    have eS := kS_ne hX
    have hpos : 1 ≤ X.length := by
      cases X with
      | nil => exact absurd rfl hX
      | cons x r => simp
    have hperm := (sortL_perm lexLt X).length_eq
    have hneS : sortL lexLt X ≠ [] := by
      intro e
      rw [e] at hperm; simp at hperm; omega
    have h54 := c54 [bkCells nl (n : Int) ps, (seeL 8 ps).map J, X.map tAV] [] 2 X rfl hpos h12 (fun l hl => by have := hsm7 l hl; omega)
    have hfz := fun T env => frzL2c (a := bkCells nl (n : Int) ps) (b := (seeL 8 ps).map J) (cs := (sortL lexLt X).map tAV) (by simpa using hneS) T env
    have hfv := frzV_madeT 2 (sortL lexLt X) hneS
    rw [hperm] at hfv
    have hset : [bkCells nl (n : Int) ps, (seeL 8 ps).map J, X.map tAV].set 2 ((sortL lexLt X).map tAV) = [bkCells nl (n : Int) ps, (seeL 8 ps).map J, (sortL lexLt X).map tAV] := rfl
    rw [hset] at h54
    simp only [go_sem, reduceIte, Nat.reduceEqDiff, Nat.reduceAdd, Nat.reduceSub, Nat.reduceLeDiff, Nat.reduceLT, reduceCtorEq, Int.reduceLT, Int.reduceLE, Int.reduceEq, Int.reduceBEq, Int.reduceSub, Int.reduceAdd, Int.reduceMul, Int.reduceNeg, Int.reduceToNat, Nat.reduceMul, Nat.reduceBEq, e4, eA, eS, h54, show pure 54 = false from rfl, code_frz, frzAV, frzT, frzLs, rslsOf, hfz, frzEnv, frzEnv_get, frzStore, frzVs, frzV_v, frzV_ptr, frzV_sl, hfv, frzVs_J]

attribute [local go_sem] shaped_t cells_t isAgg_t storable_t okRef_t pub_t
attribute [local go_sem high] and_one shr_u shl_one or_u and_u

theorem fin_t (st : St) (l : List Int) : fin st (tAV l) = tAV l := by unfold tAV sl; split <;> rfl
theorem c18 (nl : Bool) (n : Int) (ps : List (Int × Int)) (st : St) : run L 18 [bkAV nl n ps] st = some (.tup [tAV ((allV n ps).headD []), I (if chk n ps = 0 then (if (allV n ps).length = 0 then 12 else 0) else chk n ps)], st) := by
  rw [run_pure (fn := ir18) rfl rfl]
  have h20 := fun st => c20 nl n ps st
  have hln : ∀ X : List (List Int), lenAV (sl 1 true (X.map tAV)) = some (I X.length) := fun X => by rw [len_sl]; simp
  by_cases h : chk n ps = 0
  · rw [if_pos h]
    generalize allV n ps = X at *
    cases X with
    | nil =>
      have h20' : ∀ st, run L 20 [bkAV nl n ps] st = some (.tup [.v (.slice none 0 0), I (chk n ps)], st) := h20
      simp only [ir18, go_sem, reduceIte, Nat.reduceEqDiff, Nat.reduceAdd, Nat.reduceSub, Nat.reduceLeDiff, Nat.reduceLT, reduceCtorEq, Int.reduceLT, Int.reduceLE, Int.reduceEq, Int.reduceBEq, Int.reduceSub, Int.reduceAdd, Int.reduceMul, Int.reduceNeg, Int.reduceToNat, Nat.reduceMul, Nat.reduceBEq, h20', h]
      rfl
    | cons x r =>
      have hi : indexSAV 1 (sl 1 true ((x :: r).map tAV)) (.v (.int .i64 0)) = some (.eptr (tAV x) 0) := by
        rw [index_sl _ _ _ _ _ (by omega) (by simp)]
        simp
      have hl0 : (((x :: r).length : Int) = 0) = False := eq_false (by simp; omega)
      have hl0' : ((x :: r).length = 0) = False := eq_false (by simp)
      have hlx := hln (x :: r)
      generalize (x :: r).length = m at *
      simp only [List.headD_cons]
      generalize sl 1 true ((x :: r).map tAV) = Y at *
      simp only [ir18, go_sem, reduceIte, Nat.reduceEqDiff, Nat.reduceAdd, Nat.reduceSub, Nat.reduceLeDiff, Nat.reduceLT, reduceCtorEq, Int.reduceLT, Int.reduceLE, Int.reduceEq, Int.reduceBEq, Int.reduceSub, Int.reduceAdd, Int.reduceMul, Int.reduceNeg, Int.reduceToNat, Nat.reduceMul, Nat.reduceBEq, h20, h, hlx, hi, hl0, hl0', fin_t]
  · rw [if_neg h]
    have e : allV n ps = [] := by unfold allV; rw [if_neg h]
    rw [e] at h20 ⊢
    have h20' : ∀ st, run L 20 [bkAV nl n ps] st = some (.tup [.v (.slice none 0 0), I (chk n ps)], st) := h20
    simp only [ir18, go_sem, reduceIte, Nat.reduceEqDiff, Nat.reduceAdd, Nat.reduceSub, Nat.reduceLeDiff, Nat.reduceLT, reduceCtorEq, Int.reduceLT, Int.reduceLE, Int.reduceEq, Int.reduceBEq, Int.reduceSub, Int.reduceAdd, Int.reduceMul, Int.reduceNeg, Int.reduceToNat, Nat.reduceMul, Nat.reduceBEq, h20', h]
    rfl

/-! ### lists as sets -/

attribute [local go_sem] shaped_t cells_t isAgg_t storable_t okRef_t pub_t
attribute [local go_sem high] and_one shr_u shl_one or_u and_u

theorem c23t (n1 n2 : Bool) (xs ys : List (List Int)) (hlen : xs.length < 1000000) (hx : ∀ l ∈ xs, l.length < 1000000) (h1 : ∀ l ∈ xs, l ≠ []) (h2 : ∀ l ∈ ys, l ≠ []) (st : St) : run L 23 [sl 1 n1 (xs.map tAV), sl 1 n2 (ys.map tAV)] st = some (B (decide (xs = ys)), st) := by
  have e : ∀ X : List (List Int), (∀ l ∈ X, l ≠ []) → X.map tAV = X.map listAV := fun X h => List.map_congr_left fun l hl => by
    unfold tAV listAV
    rw [sl_ne (by simpa using h l hl), sl_ne (by simpa using h l hl)]
  rw [e xs h1, e ys h2]
  exact c23 n1 n2 xs ys hlen hx st
/-- Choices are not empty. -/
theorem chos_ne {n : Nat} (hn : 1 ≤ n) (hn7 : n ≤ 7) {ps : List (Int × Int)} : ∀ l ∈ chosL n ps, l ≠ [] ∧ l.length ≤ 7 := by
  intro l hl
  unfold chosL at hl
  have := (sortL_perm lexLt _).mem_iff.1 hl
  unfold kerL at this
  obtain ⟨m, hm, rfl⟩ := List.mem_map.1 this
  obtain ⟨hmr, h2⟩ := List.mem_filter.1 hm
  rw [decide_eq_true_iff, jdg_zero] at h2
  rw [List.mem_range'_1] at hmr
  have h128 : 2 ^ n ≤ 128 := Nat.pow_le_pow_right (by omega) hn7
  refine ⟨fun e => ?_, memb_len m⟩
  have hz : ∀ x, x < 7 → m.testBit x = false := by
    intro x hx
    cases hb : m.testBit x
    · rfl
    · have : ((x : Nat) : Int) ∈ memb m := by
        unfold memb
        exact List.mem_map.2 ⟨x, List.mem_filter.2 ⟨List.mem_range.2 hx, hb⟩, rfl⟩
      rw [e] at this; simp at this
  have h0 := h2 0 (by omega)
  rw [hz 0 (by omega)] at h0
  simp only [Bool.false_eq_true, false_iff] at h0
  have hm0 : m = 0 := by
    apply Nat.eq_of_testBit_eq
    intro i
    rw [Nat.zero_testBit]
    by_cases hi : i < 7
    · exact hz i hi
    · exact Nat.testBit_lt_two_pow (Nat.lt_of_lt_of_le (show m < 2 ^ 7 by omega) (Nat.pow_le_pow_right (by omega) (by omega)))
  apply h0
  rw [hm0, Nat.and_zero]


/-! ### a list of lists that grows -/
def oAV (X : List (List Int)) : AV := loc 1 0 (X.map tAV)
theorem okRef_o (n : Nat) (X : List (List Int)) : okRef n (oAV X) = true := okRef_loc _ _ _ _
theorem fin_o (st : St) (X : List (List Int)) : fin st (oAV X) = sl 1 true (X.map tAV) := fin_loc st 1 0 _
theorem index_t (nl : Bool) (xs : List (List Int)) (i : Nat) (h : i < xs.length) : indexSAV 1 (sl 1 nl (xs.map tAV)) (.v (.int .i64 i)) = some (.eptr (tAV xs[i]) 0) := by
  rw [index_sl _ _ _ _ _ (by omega) (by simpa using h)]
  simp
attribute [local go_sem] shaped_t cells_t isAgg_t storable_t okRef_t pub_t okRef_o fin_o

attribute [local go_sem high] and_one shr_u shl_one or_u and_u

/-! ### a list of sets that grows -/
def qA (X : List Nat) : AV := loc 1 1 (X.map U)
def qT (X : List Nat) : List Nat := locT 1 (X.map U)
theorem okRef_q (n : Nat) (X : List Nat) : okRef n (qA X) = true := okRef_loc _ _ _ _
theorem len_q (X : List Nat) : lenAV (qA X) = some (I X.length) := by unfold qA; rw [len_loc]; simp
/-! ### how wide it gets -/

attribute [local go_sem high] and_one shr_u shl_one or_u and_u
attribute [local go_sem] okRef_q len_q

/-! ### the way, above the sets -/
def pA (X : List Nat) (o : List Int) : AV := if o.length = 1 then .lst .full 1 (o.map I) else .lst (.own (qT X).length o.length) 1 (o.map I)
theorem okRef_p (n : Nat) (X : List Nat) (o : List Int) : okRef n (pA X o) = true := by unfold pA; split <;> rfl


/-! ### how far each word has to go, without the program -/
/-! ### the law's numbers -/
def bitsL (m : Nat) : List Nat := (List.range 7).filter m.testBit

attribute [local go_sem] shaped_t cells_t isAgg_t storable_t okRef_t pub_t

theorem bits_len (m : Nat) : (bitsL m).length ≤ 7 := by
  have := List.length_filter_le m.testBit (List.range 7)
  simpa [bitsL] using this

attribute [local go_sem] shaped_t cells_t isAgg_t storable_t okRef_t pub_t

theorem c56 (x : AV) (st : St) : run L 56 [x] st = some (x, st) := by
  rw [run_shared (fn := ir56) rfl rfl]
  simp only [ir56, go_sem, reduceIte, Nat.reduceEqDiff, Nat.reduceAdd, Nat.reduceSub, Nat.reduceLeDiff, Nat.reduceLT, reduceCtorEq, Int.reduceLT, Int.reduceLE, Int.reduceEq, Int.reduceBEq, Int.reduceSub, Int.reduceAdd, Int.reduceMul, Int.reduceNeg, Int.reduceToNat, Nat.reduceMul, Nat.reduceBEq]

/-! ### the law's way grows -/
def rA (o : List Int) : AV := loc 1 1 (o.map I)
theorem okRef_r (n : Nat) (o : List Int) : okRef n (rA o) = true := okRef_loc _ _ _ _


/-! ### the law's numbers in the beginning -/
/-! ### what hangs on the web's sets alone -/
theorem seeL_87 {ps : List (Int × Int)} (h7 : ∀ p ∈ ps, okP p) (a : Nat) : (seeL 8 ps).getD a 0 = (seeL 7 ps).getD a 0 := by
  apply Nat.eq_of_testBit_eq
  intro b
  rw [seeL_bit (by omega) h7, seeL_bit (by omega) h7]

attribute [local go_sem] shaped_t cells_t isAgg_t storable_t okRef_t pub_t okRef_r

theorem allV_ok {n : Nat} {ps : List (Int × Int)} (h : chk (n : Int) ps = 0) : allV (n : Int) ps = chosL n ps := by
  unfold allV; rw [if_pos h, Int.toNat_natCast]


/-! ### all circles, without the program -/
def lastW (c : List Nat) : Nat := c.getD (c.length - 1) 0
def hdR (w : List Nat) (c : List Nat) : List (List Nat) := if 1 < c.length ∧ (w.getD (lastW c) 0).testBit (c.getD 0 0) = true then [c] else []
/-- The circles that begin with some words, of those and the free ones. -/
def rg (w : List Nat) : Nat → List Nat → Nat → List (List Nat)
  | 0, c, _ => hdR w c
  | k + 1, c, free => hdR w c ++ (bitsL (w.getD (lastW c) 0 &&& free)).flatMap fun x => rg w k (c ++ [x]) (dfN free (2 ^ x))
theorem bits_step_all : (List.range 128).all (fun m => m == 0 || (decide (bitsL m = tzN m :: bitsL (m &&& (m - 1))))) = true := by kernel_rfl
theorem bits_step {m : Nat} (hm : m < 128) (h : m ≠ 0) : bitsL m = tzN m :: bitsL (m &&& (m - 1)) := by
  have := List.all_eq_true.1 bits_step_all m (List.mem_range.2 hm)
  rw [Bool.or_eq_true, beq_iff_eq, decide_eq_true_iff] at this
  exact this.resolve_left h
theorem bits_zero : bitsL 0 = [] := rfl
theorem bits_mem {m : Nat} (hm : m < 128) (x : Nat) : x ∈ bitsL m ↔ m.testBit x = true :=
  ⟨fun h => (List.mem_filter.1 h).2, fun h => List.mem_filter.2 ⟨List.mem_range.2 (bit_lt7 hm h), h⟩⟩
theorem bits_nil {m : Nat} (hm : m < 128) (h : (bitsL m).length = 0) : m = 0 := by
  apply Nat.eq_of_testBit_eq
  intro i
  rw [Nat.zero_testBit]
  cases e : m.testBit i
  · rfl
  · have := (bits_mem hm i).2 e
    rw [List.eq_nil_of_length_eq_zero h] at this; simp at this
theorem df_card {free x : Nat} (hf : free < 128) (hx : free.testBit x = true) : (bitsL (dfN free (2 ^ x))).length < (bitsL free).length := by
  have hx7 := bit_lt7 hf hx
  have h2 : 2 ^ x < 128 := (sh1_lt x hx7).2
  unfold bitsL
  refine filter_len_lt _ (fun y _ h => ?_) ⟨x, List.mem_range.2 hx7, hx, ?_⟩
  · rw [dfN_bit h2, Bool.and_eq_true] at h; exact h.1
  · rw [dfN_bit h2, Nat.testBit_two_pow_self]; simp

/-! ### what lies ahead of the goal in the store -/
def hid (x : List AV) : List AV := if visB x = true then x else []
/-- Blocks with lists, or with plain values alone. -/
def Dk (D : List (List AV)) : Prop := ∀ x ∈ D, visB x = true → ∀ v ∈ x, ∃ y, v = .v y
theorem dk_hid {D : List (List AV)} (h : Dk D) : Dk (D.map hid) := by
  intro x hx
  obtain ⟨y, hy, rfl⟩ := List.mem_map.1 hx
  unfold hid
  split
  · exact h y hy
  · exact fun h => by simp [visB] at h
theorem visR_v (st : St) (y : Value) : visR st (.v y) = true := by simp only [visR]
theorem hideC_D {D : List (List AV)} (h : Dk D) (st : St) : D.map (hideC st) = D.map hid := by
  apply List.map_congr_left
  intro x hx
  unfold hideC hid
  split
  · next hv =>
    have := h x hx hv
    have h2 : x.map (hideV st) = x.map id := List.map_congr_left fun v hv => by
      obtain ⟨y, rfl⟩ := this v hv
      unfold hideV; rw [if_pos (visR_v st y)]; rfl
    rw [h2, List.map_id]
  · rfl
theorem hideC_id {st : St} {x : List AV} (hv : visB x = true) (h : ∀ v ∈ x, visR st v = true) : hideC st x = x := by
  unfold hideC
  rw [if_pos hv]
  have h2 : x.map (hideV st) = x.map id := List.map_congr_left fun v hv => by unfold hideV; rw [if_pos (h v hv)]; rfl
  rw [h2, List.map_id]
theorem merge_D {A : List (List AV)} (hA : ∀ x ∈ A, visB x = true) : ∀ (D : List (List AV)) (B : List (List AV)), A.length ≤ B.length → mergeS (D ++ A) (D.map hid ++ B) = D ++ B
  | [], B, hl => by
    simp only [List.nil_append, List.map_nil]
    induction A generalizing B with
    | nil => cases B <;> rfl
    | cons x A ih =>
      cases B with
      | nil => simp at hl
      | cons y B =>
        simp only [mergeS, hA x (by simp), if_true]
        rw [ih (fun z hz => hA z (by simp [hz])) B (by simpa using hl)]
  | x :: D, B, hl => by
    simp only [List.cons_append, List.map_cons, mergeS]
    rw [merge_D hA D B hl]
    unfold hid
    split <;> rfl
theorem noLB_append : ∀ A B : List (List AV), noLB (A ++ B) = (noLB A && noLB B)
  | [], B => rfl
  | a :: A, B => by simp only [List.cons_append, noLB, noLB_append A B, Bool.and_assoc]
theorem noLB_hid : ∀ D : List (List AV), noLB (D.map hid) = true
  | [] => rfl
  | x :: D => by
    simp only [List.map_cons, noLB, noLB_hid D, Bool.and_true]
    unfold hid
    split
    · next h => unfold visB at h; rw [Bool.and_eq_true] at h; exact h.2
    · rfl
theorem noLB_vis : ∀ A : List (List AV), (∀ x ∈ A, visB x = true) → noLB A = true
  | [], _ => rfl
  | x :: A, h => by
    have hx := h x (by simp)
    unfold visB at hx
    rw [Bool.and_eq_true] at hx
    simp only [noLB, hx.2, noLB_vis A (fun z hz => h z (by simp [hz])), Bool.and_true]

attribute [local go_sem high] and_one shr_u shl_one or_u and_u

/-! ### what the search over circles holds in the store: the goal, the web, and itself -/
structure Goal where
  tt : TypeId
  ft : FuncId
  ob : Nat → List (List Nat) → List AV
  gar : Nat → List (List Nat) → List (List AV)
def fromV (d : Nat) : AV := .fn (.func 94) [] [.ptr (d + 1) 0, .ptr (d + 2) 0, .ptr (d + 3) 0]
def layG (G : Goal) (d : Nat) (n : Int) (w : List Nat) (cs : List (List Nat)) : List (List AV) :=
  G.ob d cs :: webC n w :: [.ifc G.tt (.ptr d 0)] :: [fromV d] :: G.gar d cs
structure GoalOk (G : Goal) (d : Nat) (n : Int) (w : List Nat) : Prop where
  inv : findT G.tt [(101, 145), (111, 146)] = some G.ft
  np : pure G.ft = false
  vis : ∀ cs D T, D.length = d → ∀ x ∈ layG G d n w cs, visB x = true ∧ ∀ v ∈ x, visR ⟨D ++ layG G d n w cs, T⟩ v = true
  take : ∀ cs c g T D, D.length = d → 2 ≤ c.length → c.length ≤ 7 → (∀ x ∈ c, x < 7) → run L G.ft [.ptr d 0, .lst g 1 (c.map J)] ⟨D ++ layG G d n w cs, T⟩ = some (.tup [], ⟨D ++ layG G d n w (cs ++ [c]), T⟩)
  mono : ∀ cs cs', (layG G d n w cs).length ≤ (layG G d n w (cs ++ cs')).length
theorem lay_get {G : Goal} {d : Nat} {n : Int} {w : List Nat} {cs : List (List Nat)} {D : List (List AV)} (hD : D.length = d) (k : Nat) : (D ++ layG G d n w cs)[d + k]? = (layG G d n w cs)[k]? := by
  rw [List.getElem?_append_right (by omega)]
  congr 1; omega

def tagOk (g : Tag) (c : List Nat) (T : List Nat) : Prop := g = .full ∨ ∃ t, g = .own t c.length ∧ T[t]? = some c.length
theorem append_tag {g : Tag} {c T : List Nat} (h : tagOk g c T) (hc : c.length ≤ 7) (x : Nat) :
    ∃ g' T', (∀ S, appendAV 1 (.lst g 1 (c.map J)) [J x] ⟨S, T⟩ = some (.lst g' 1 ((c ++ [x]).map J), ⟨S, T'⟩)) ∧ tagOk g' (c ++ [x]) T' := by
  have hm : c.length + 1 ≤ maxGrow := by unfold maxGrow; omega
  rcases h with rfl | ⟨t, rfl, ht⟩
  · refine ⟨.own T.length (c.length + 1), T ++ [c.length + 1], fun S => ?_, .inr ⟨T.length, by simp, by simp⟩⟩
    simp [appendAV, hm]
  · have hlt : t < T.length := (List.getElem?_eq_some_iff.1 ht).1
    refine ⟨.own t (c.length + 1), T.set t (c.length + 1), fun S => ?_, .inr ⟨t, by simp, by simp [hlt]⟩⟩
    simp [appendAV, hm, ht]
theorem index_lstJ (g : Tag) (c : List Nat) (i : Nat) (h : i < c.length) : indexSAV 1 (.lst g 1 (c.map J)) (.v (.int .i64 (i : Int))) = some (.eptr (J (c.getD i 0)) 0) := by
  simp [indexSAV, h]
theorem hideV_v (st : St) (y : Value) : hideV st (.v y) = .v y := by unfold hideV; rw [if_pos (visR_v st y)]
theorem hideV_lst (st : St) (g : Tag) (z : Nat) (xs : List AV) : hideV st (.lst g z xs) = .lst g z xs := by unfold hideV; rw [if_pos (by simp only [visR])]
theorem hideV_ptr (st : St) (l o : Nat) : hideV st (.ptr l o) = if visN st l = true then .ptr l o else .any := by unfold hideV; simp only [visR] <;> rfl
theorem hide_lay {G : Goal} {d : Nat} {n : Int} {w : List Nat} (hG : GoalOk G d n w) {D : List (List AV)} (hD : D.length = d) (hk : Dk D) (cs : List (List Nat)) (T : List Nat) :
    hideSt ⟨D ++ layG G d n w cs, T⟩ = ⟨D.map hid ++ layG G d n w cs, T⟩ := by
  unfold hideSt
  rw [List.map_append, hideC_D hk]
  congr 2
  have : ∀ x ∈ layG G d n w cs, hideC ⟨D ++ layG G d n w cs, T⟩ x = id x := fun x hx => hideC_id (hG.vis cs D T hD x hx).1 (hG.vis cs D T hD x hx).2
  rw [List.map_congr_left this, List.map_id]
theorem vis_lay {G : Goal} {d : Nat} {n : Int} {w : List Nat} (hG : GoalOk G d n w) (cs : List (List Nat)) : ∀ x ∈ layG G d n w cs, visB x = true :=
  fun x hx => (hG.vis cs (List.replicate d []) [] (by simp) x hx).1
theorem visN_lay {G : Goal} {d : Nat} {n : Int} {w : List Nat} (hG : GoalOk G d n w) {D : List (List AV)} (hD : D.length = d) (cs : List (List Nat)) (T : List Nat) (k : Nat) (hk : k < 4) : visN ⟨D ++ layG G d n w cs, T⟩ (d + k) = true := by
  unfold visN
  simp only
  rw [lay_get hD]
  have hl : k < (layG G d n w cs).length := by simp [layG]; omega
  rw [List.getElem?_eq_getElem hl]
  exact vis_lay hG cs _ (List.getElem_mem hl)
theorem subU (m : Nat) (h : 1 ≤ m) (h2 : m < 128) : IntKind.u64.wrap ((m : Int) - 1) = ((m - 1 : Nat) : Int) := by
  rw [show ((m : Int) - 1) = ((m - 1 : Nat) : Int) by omega]
  exact wrapU _ (by omega)

set_option maxHeartbeats 1000000 in
theorem loop94_0 (G : Goal) (d : Nat) (n : Int) (w : List Nat) (hG : GoalOk G d n w) (c : List Nat) (hc : c.length ≤ 7) (g : Tag) (T : List Nat) (htag : tagOk g c T) (D : List (List AV)) (hD : D.length = d) (hDk : Dk D) (free : Nat) (hf : free < 128) (R : Nat → List (List Nat)) (hrec : ∀ x, free.testBit x = true → ∀ cs g' T' D', D'.length = d → Dk D' → tagOk g' (c ++ [x]) T' → run L 94 [.lst g' 1 ((c ++ [x]).map J), U (dfN free (2 ^ x)), .ptr (d + 1) 0, .ptr (d + 2) 0, .ptr (d + 3) 0] ⟨D' ++ layG G d n w cs, T'⟩ = some (.tup [], ⟨D' ++ layG G d n w (cs ++ R x), T'⟩)) (lo hi : Nat) (m : Nat) (cs : List (List Nat)) (hok : m < 128 ∧ (∀ x, m.testBit x = true → free.testBit x = true)) (env : Env) (st : St)
    (hg : gcAV false lo hi (canon env [0, 1, 4, 8]) st = ([(0, .lst g 1 (c.map J)), (1, U free), (4, .ptr (d + 3) 0), (8, U m)], ⟨D ++ layG G d n w cs, T⟩)) :
    ∃ x_1 en s, lim (headed pure (run L) false [0, 1, 4, 8] lp94_0 lo hi) env st = some (x_1, en, s) ∧ (x_1 = .exit 0 ∧ s = ⟨D ++ layG G d n w (cs ++ (bitsL m).flatMap R), T⟩) := by
  refine loop_wp (α := Nat × List (List Nat)) (fun ⟨m, cs⟩ => m) (fun ⟨m, cs⟩ => m < 128 ∧ (∀ x, m.testBit x = true → free.testBit x = true)) (fun ⟨m, cs⟩ => ([(0, .lst g 1 (c.map J)), (1, U free), (4, .ptr (d + 3) 0), (8, U m)], ⟨D ++ layG G d n w cs, T⟩)) (fun ⟨m, cs⟩ x_1 en s => x_1 = .exit 0 ∧ s = ⟨D ++ layG G d n w (cs ++ (bitsL m).flatMap R), T⟩) (fun ⟨m, cs⟩ hok => ?_) ⟨m, cs⟩ hok env st hg
  simp only at hok
  obtain ⟨h1, h2⟩ := hok
  dsimp only at h1 h2 ⊢
  by_cases h : m = 0
  · subst h
    rw [bits_zero, List.flatMap_nil, List.append_nil]
    have h0 : (((0 : Nat) : Int) = 0) = True := eq_true rfl
    simp only [go_sem, reduceIte, Nat.reduceEqDiff, Nat.reduceAdd, Nat.reduceSub, Nat.reduceLeDiff, Nat.reduceLT, reduceCtorEq, Int.reduceLT, Int.reduceLE, Int.reduceEq, Int.reduceBEq, Int.reduceSub, Int.reduceAdd, Int.reduceMul, Int.reduceNeg, Int.reduceToNat, Nat.reduceMul, Nat.reduceBEq, index_rsl_if, setm, make_ints, condK_dec, wantK_dec, not_dec, and_dec, or_dec, seqK_ite, seqK_none, blockK_ite, blockK_none, opsK_ite, opsK_none, stepK_ite, stepK_none, bodyK_ite, bodyK_none, resK_ite, resK_none, leaveK_ite, leaveK_none, only_ite, only_none, bind_ite, gives_some, gives_none, gives_ite, then_normal, then_ret, then_exit, then_none, then_ite, Option.bind_none, Bool.not_eq_true', decide_eq_false_iff_not, Bool.and_eq_true, Bool.or_eq_true, Option.some.injEq, Int.not_lt, Int.not_le, lp94_0, h0]
  · have h0 : ((m : Int) = 0) = False := eq_false (by omega)
    have hs := subU m (by omega) h1
    have hand := andN_eq m (m - 1) h1 (by omega)
    have hlt : m &&& (m - 1) ≤ m - 1 := Nat.and_le_right
    have hbs := bits_step h1 h
    obtain ⟨t1, t2⟩ := tz_spec h1 h
    have h52 := fun st => c52 m h1 st
    have hsub : ∀ x, (m &&& (m - 1)).testBit x = true → free.testBit x = true := fun x hx => by
      rw [Nat.testBit_and, Bool.and_eq_true] at hx; exact h2 x hx.1
    have hfx := h2 _ t2
    rw [hbs, List.flatMap_cons, ← List.append_assoc]
    generalize tzN m = x at *
    generalize m &&& (m - 1) = m2 at *
    obtain ⟨g', T', happ, htag'⟩ := append_tag htag hc x
    have e1 := (sh1_lt x t1).1
    have e2 := (sh1_lt x t1).2
    have hdf := dfU_eq free (2 ^ x) hf e2
    have hcall := fun cs => hrec x hfx cs g' T' (D.map hid) (by rw [List.length_map]; exact hD) (dk_hid hDk) htag'
    simp only [List.map_append, List.map_cons, List.map_nil] at hcall
    have hhide := hide_lay hG hD hDk cs T
    have hvn := visN_lay hG hD cs T 3 (by omega)
    have hg3' : (D.map hid ++ layG G d n w cs)[d + 3]? = some [fromV d] := by rw [lay_get (by rw [List.length_map]; exact hD)]; rfl
    have hnl : noLB (D.map hid ++ layG G d n w (cs ++ R x)) = true := by rw [noLB_append, noLB_hid, noLB_vis _ (vis_lay hG _)]; rfl
    have hmg := merge_D (A := layG G d n w cs) (vis_lay hG cs) D (layG G d n w (cs ++ R x)) (hG.mono cs (R x))
    have hfv : fromV d = .fn (.func 94) [] [.ptr (d + 1) 0, .ptr (d + 2) 0, .ptr (d + 3) 0] := rfl
    simp only [go_sem, reduceIte, Nat.reduceEqDiff, Nat.reduceAdd, Nat.reduceSub, Nat.reduceLeDiff, Nat.reduceLT, reduceCtorEq, Int.reduceLT, Int.reduceLE, Int.reduceEq, Int.reduceBEq, Int.reduceSub, Int.reduceAdd, Int.reduceMul, Int.reduceNeg, Int.reduceToNat, Nat.reduceMul, Nat.reduceBEq, index_rsl_if, setm, make_ints, condK_dec, wantK_dec, not_dec, and_dec, or_dec, seqK_ite, seqK_none, blockK_ite, blockK_none, opsK_ite, opsK_none, stepK_ite, stepK_none, bodyK_ite, bodyK_none, resK_ite, resK_none, leaveK_ite, leaveK_none, only_ite, only_none, bind_ite, gives_some, gives_none, gives_ite, then_normal, then_ret, then_exit, then_none, then_ite, Option.bind_none, Bool.not_eq_true', decide_eq_false_iff_not, Bool.and_eq_true, Bool.or_eq_true, Option.some.injEq, Int.not_lt, Int.not_le, lp94_0, h0, h52, hs, hand, code_lost, hhide, hideEnv, hideV_v, hideV_lst, hideV_ptr, hvn, hg3', hfv, e1, hdf, happ, hcall, show pure 94 = false from rfl, List.map_append, scopeK_some, hnl, hmg, forgot]
    refine ⟨(m2, cs ++ R x), by simp only [go_sem, reduceIte, Nat.reduceEqDiff, Nat.reduceAdd, Nat.reduceSub, Nat.reduceLeDiff, Nat.reduceLT, reduceCtorEq, Int.reduceLT, Int.reduceLE, Int.reduceEq, Int.reduceBEq, Int.reduceSub, Int.reduceAdd, Int.reduceMul, Int.reduceNeg, Int.reduceToNat, Nat.reduceMul, Nat.reduceBEq, ren1_locm, loc_tips, locT_eq] <;> rfl, ?_, ?_, fun x en s hq => ?_⟩
    · dsimp only; exact ⟨by omega, hsub⟩
    · dsimp only; omega
    · exact hq

attribute [local go_sem high] and_one shr_u shl_one or_u and_u

theorem getD_lt {c : List Nat} (h : ∀ x ∈ c, x < 7) (i : Nat) (hi : i < c.length) : c.getD i 0 < 7 := by
  rw [List.getD_eq_getElem?_getD, List.getElem?_eq_getElem hi]
  exact h _ (List.getElem_mem hi)
/-- One call, if those inside do what they should. -/
theorem c94s (G : Goal) (d : Nat) (n : Int) (w : List Nat) (ho : w.length = 7) (hsm : ∀ x ∈ w, x < 128) (hG : GoalOk G d n w) (c : List Nat) (free : Nat) (hf : free < 128) (h1 : 1 ≤ c.length) (h7 : c.length ≤ 7) (hc : ∀ x ∈ c, x < 7)
    (R : Nat → List (List Nat)) (hrec : ∀ x, free.testBit x = true → ∀ cs g' T' D', D'.length = d → Dk D' → tagOk g' (c ++ [x]) T' → run L 94 [.lst g' 1 ((c ++ [x]).map J), U (dfN free (2 ^ x)), .ptr (d + 1) 0, .ptr (d + 2) 0, .ptr (d + 3) 0] ⟨D' ++ layG G d n w cs, T'⟩ = some (.tup [], ⟨D' ++ layG G d n w (cs ++ R x), T'⟩))
    (cs : List (List Nat)) (g : Tag) (T : List Nat) (D : List (List AV)) (hD : D.length = d) (hDk : Dk D) (htag : tagOk g c T) :
    run L 94 [.lst g 1 (c.map J), U free, .ptr (d + 1) 0, .ptr (d + 2) 0, .ptr (d + 3) 0] ⟨D ++ layG G d n w cs, T⟩ = some (.tup [], ⟨D ++ layG G d n w (cs ++ (hdR w c ++ (bitsL (w.getD (lastW c) 0 &&& free)).flatMap R)), T⟩) := by
  rw [run_shared (fn := ir94) rfl rfl]
  have hl1 : IntKind.i64.wrap ((c.length : Int) - 1) = ((c.length - 1 : Nat) : Int) := by rw [wrap64] <;> omega
  have hx1 := index_lstJ g c (c.length - 1) (by omega)
  have hx0 := index_lstJ g c 0 (by omega)
  simp only [Int.natCast_zero] at hx0
  have hlw : c.getD (c.length - 1) 0 = lastW c := rfl
  have hl7 := getD_lt hc (c.length - 1) (by omega)
  have h07 := getD_lt hc 0 (by omega)
  rw [hlw] at hx1 hl7
  have b1 : ((0 : Int) ≤ (lastW c : Int)) = True := eq_true (by omega)
  have b2 : ((lastW c : Int) < 7) = True := eq_true (by omega)
  have g1 : (D ++ layG G d n w cs)[d + 1]? = some (webC n w) := by rw [lay_get hD]; rfl
  have g2 : (D ++ layG G d n w cs)[d + 2]? = some [.ifc G.tt (.ptr d 0)] := by rw [lay_get hD]; rfl
  have gw := getW n w (lastW c) (by omega)
  have hbit := bit_one (w.getD (lastW c) 0) (c.getD 0 0)
  have hmk := min64 (c.getD 0 0) (by omega)
  have hand := andN_eq (w.getD (lastW c) 0) free (small_getD hsm _) hf
  have hlt : w.getD (lastW c) 0 &&& free < 128 := Nat.lt_of_le_of_lt Nat.and_le_right hf
  have hsub : ∀ x, (w.getD (lastW c) 0 &&& free).testBit x = true → free.testBit x = true := fun x hx => by
    rw [Nat.testBit_and, Bool.and_eq_true] at hx; exact hx.2
  have hdr : hdR w c = if 1 < c.length ∧ (w.getD (lastW c) 0).testBit (c.getD 0 0) = true then [c] else [] := rfl
  have hinv := hG.inv
  have hnp := hG.np
  have htake := hG.take cs c g T D hD
  generalize w.getD (lastW c) 0 = v at *
  generalize v &&& free = m at *
  by_cases p1 : 1 < c.length
  · have q1 : ((1 : Int) < (c.length : Int)) = True := eq_true (by omega)
    by_cases p2 : v.testBit (c.getD 0 0) = true
    · rw [hdr, if_pos ⟨p1, p2⟩]
      have ht := htake p1 h7 hc
      simp only [ir94, go_sem, reduceIte, Nat.reduceEqDiff, Nat.reduceAdd, Nat.reduceSub, Nat.reduceLeDiff, Nat.reduceLT, reduceCtorEq, Int.reduceLT, Int.reduceLE, Int.reduceEq, Int.reduceBEq, Int.reduceSub, Int.reduceAdd, Int.reduceMul, Int.reduceNeg, Int.reduceToNat, Nat.reduceMul, Nat.reduceBEq, hl1, hx1, hx0, b1, b2, g1, g2, gw, hmk, hbit, p2, q1, hinv, hnp, ht, hand, List.length_map]
      generalize hg : lim (headed pure (run L) false _ lp94_0 _ _) _ _ = o
      obtain ⟨x, en, s, rfl, h2⟩ : ∃ x en s, o = some (x, en, s) ∧ _ := by rw [← hg]; exact loop94_0 G d n w hG c h7 g T htag D hD hDk free hf R hrec _ _ m (cs ++ [c]) ⟨hlt, hsub⟩ _ _ (by simp only [go_sem, reduceIte, Nat.reduceEqDiff, Nat.reduceAdd, Nat.reduceSub, Nat.reduceLeDiff, Nat.reduceLT, reduceCtorEq, Int.reduceLT, Int.reduceLE, Int.reduceEq, Int.reduceBEq, Int.reduceSub, Int.reduceAdd, Int.reduceMul, Int.reduceNeg, Int.reduceToNat, Nat.reduceMul, Nat.reduceBEq] <;> rfl)
      clear hg
      obtain ⟨rfl, rfl⟩ := h2
      simp only [go_sem, reduceIte, Nat.reduceEqDiff, Nat.reduceAdd, Nat.reduceSub, Nat.reduceLeDiff, Nat.reduceLT, reduceCtorEq, Int.reduceLT, Int.reduceLE, Int.reduceEq, Int.reduceBEq, Int.reduceSub, Int.reduceAdd, Int.reduceMul, Int.reduceNeg, Int.reduceToNat, Nat.reduceMul, Nat.reduceBEq, List.append_assoc]
    · have p2' : (v.testBit (c.getD 0 0) = true) = False := eq_false p2
      rw [hdr, if_neg (fun h => p2 h.2)]
      simp only [ir94, go_sem, reduceIte, Nat.reduceEqDiff, Nat.reduceAdd, Nat.reduceSub, Nat.reduceLeDiff, Nat.reduceLT, reduceCtorEq, Int.reduceLT, Int.reduceLE, Int.reduceEq, Int.reduceBEq, Int.reduceSub, Int.reduceAdd, Int.reduceMul, Int.reduceNeg, Int.reduceToNat, Nat.reduceMul, Nat.reduceBEq, hl1, hx1, hx0, b1, b2, g1, g2, gw, hmk, hbit, p2', q1, hand, List.length_map]
      generalize hg : lim (headed pure (run L) false _ lp94_0 _ _) _ _ = o
      obtain ⟨x, en, s, rfl, h2⟩ : ∃ x en s, o = some (x, en, s) ∧ _ := by rw [← hg]; exact loop94_0 G d n w hG c h7 g T htag D hD hDk free hf R hrec _ _ m cs ⟨hlt, hsub⟩ _ _ (by simp only [go_sem, reduceIte, Nat.reduceEqDiff, Nat.reduceAdd, Nat.reduceSub, Nat.reduceLeDiff, Nat.reduceLT, reduceCtorEq, Int.reduceLT, Int.reduceLE, Int.reduceEq, Int.reduceBEq, Int.reduceSub, Int.reduceAdd, Int.reduceMul, Int.reduceNeg, Int.reduceToNat, Nat.reduceMul, Nat.reduceBEq] <;> rfl)
      clear hg
      obtain ⟨rfl, rfl⟩ := h2
      simp only [go_sem, reduceIte, Nat.reduceEqDiff, Nat.reduceAdd, Nat.reduceSub, Nat.reduceLeDiff, Nat.reduceLT, reduceCtorEq, Int.reduceLT, Int.reduceLE, Int.reduceEq, Int.reduceBEq, Int.reduceSub, Int.reduceAdd, Int.reduceMul, Int.reduceNeg, Int.reduceToNat, Nat.reduceMul, Nat.reduceBEq]
  · have q1 : ((1 : Int) < (c.length : Int)) = False := eq_false (by omega)
    rw [hdr, if_neg (fun h => p1 h.1)]
    simp only [ir94, go_sem, reduceIte, Nat.reduceEqDiff, Nat.reduceAdd, Nat.reduceSub, Nat.reduceLeDiff, Nat.reduceLT, reduceCtorEq, Int.reduceLT, Int.reduceLE, Int.reduceEq, Int.reduceBEq, Int.reduceSub, Int.reduceAdd, Int.reduceMul, Int.reduceNeg, Int.reduceToNat, Nat.reduceMul, Nat.reduceBEq, hl1, hx1, hx0, b1, b2, g1, g2, gw, hmk, q1, hand, List.length_map]
    generalize hg : lim (headed pure (run L) false _ lp94_0 _ _) _ _ = o
    obtain ⟨x, en, s, rfl, h2⟩ : ∃ x en s, o = some (x, en, s) ∧ _ := by rw [← hg]; exact loop94_0 G d n w hG c h7 g T htag D hD hDk free hf R hrec _ _ m cs ⟨hlt, hsub⟩ _ _ (by simp only [go_sem, reduceIte, Nat.reduceEqDiff, Nat.reduceAdd, Nat.reduceSub, Nat.reduceLeDiff, Nat.reduceLT, reduceCtorEq, Int.reduceLT, Int.reduceLE, Int.reduceEq, Int.reduceBEq, Int.reduceSub, Int.reduceAdd, Int.reduceMul, Int.reduceNeg, Int.reduceToNat, Nat.reduceMul, Nat.reduceBEq] <;> rfl)
    clear hg
    obtain ⟨rfl, rfl⟩ := h2
    simp only [go_sem, reduceIte, Nat.reduceEqDiff, Nat.reduceAdd, Nat.reduceSub, Nat.reduceLeDiff, Nat.reduceLT, reduceCtorEq, Int.reduceLT, Int.reduceLE, Int.reduceEq, Int.reduceBEq, Int.reduceSub, Int.reduceAdd, Int.reduceMul, Int.reduceNeg, Int.reduceToNat, Nat.reduceMul, Nat.reduceBEq]
theorem c94 (G : Goal) (d : Nat) (n : Int) (w : List Nat) (ho : w.length = 7) (hsm : ∀ x ∈ w, x < 128) (hG : GoalOk G d n w) :
    ∀ (k : Nat) (c : List Nat) (free : Nat), (bitsL free).length ≤ k → free < 128 → 1 ≤ c.length → c.length + (bitsL free).length ≤ 7 → (∀ x ∈ c, x < 7) →
      ∀ cs g T D, D.length = d → Dk D → tagOk g c T → run L 94 [.lst g 1 (c.map J), U free, .ptr (d + 1) 0, .ptr (d + 2) 0, .ptr (d + 3) 0] ⟨D ++ layG G d n w cs, T⟩ = some (.tup [], ⟨D ++ layG G d n w (cs ++ rg w k c free), T⟩) := by
  intro k
  induction k with
  | zero =>
    intro c free hk hf h1 h7 hc cs g T D hD hDk htag
    have h0 := bits_nil hf (by omega)
    subst h0
    have := c94s G d n w ho hsm hG c 0 hf h1 (by omega) hc (fun _ => []) (fun x hx => by simp at hx) cs g T D hD hDk htag
    rw [Nat.and_zero, bits_zero, List.flatMap_nil, List.append_nil] at this
    exact this
  | succ k ih =>
    intro c free hk hf h1 h7 hc cs g T D hD hDk htag
    exact c94s G d n w ho hsm hG c free hf h1 (by omega) hc (fun x => rg w k (c ++ [x]) (dfN free (2 ^ x))) (fun x hx cs g' T' D' hD' hDk' ht' => by
      have hcard := df_card hf hx
      have hx7 := bit_lt7 hf hx
      exact ih (c ++ [x]) (dfN free (2 ^ x)) (by omega) (dfN_lt hf) (by simp) (by simp; omega) (fun y hy => by
        rcases List.mem_append.1 hy with hy | hy
        · exact hc y hy
        · simp at hy; omega) cs g' T' D' hD' hDk' ht') cs g T D hD hDk htag

attribute [local go_sem high] and_one shr_u shl_one or_u and_u

/-- The words that are free after the first one. -/
def frN (n x : Nat) : Nat := dfN (2 ^ n - 1) (2 ^ (x + 1) - 1)
theorem pow_lt {n : Nat} (hn : n ≤ 7) : 2 ^ n - 1 < 128 := by
  have : 2 ^ n ≤ 128 := Nat.pow_le_pow_right (n := 2) (by omega) hn
  have h1 : 1 ≤ 2 ^ n := Nat.one_le_two_pow
  omega
theorem frN_bit {n x : Nat} (hn : n ≤ 7) (hx : x < n) (y : Nat) : (frN n x).testBit y = (decide (y < n) && decide (x < y)) := by
  unfold frN
  rw [dfN_bit (pow_lt (by omega)), Nat.testBit_two_pow_sub_one, Nat.testBit_two_pow_sub_one]
  rw [Bool.eq_iff_iff]
  simp only [Bool.and_eq_true, decide_eq_true_eq, Bool.not_eq_true', decide_eq_false_iff_not]
  omega
theorem frN_lt {n x : Nat} (hn : n ≤ 7) : frN n x < 128 := dfN_lt (pow_lt hn)
theorem frN_card {n x : Nat} (hn : n ≤ 7) (hx : x < n) : (bitsL (frN n x)).length ≤ 6 := by
  have h := filter_len_lt (p := (frN n x).testBit) (q := fun _ => true) (List.range 7) (fun _ _ _ => rfl) ⟨x, List.mem_range.2 (by omega), rfl, by rw [frN_bit hn hx]; simp⟩
  have h2 : ((List.range 7).filter fun _ => true).length = 7 := rfl
  unfold bitsL; omega
/-- All circles, by their smallest words. -/
def circL (n : Nat) (w : List Nat) : List (List Nat) := (List.range' 0 n).flatMap fun x => rg w 7 [x] (frN n x)

theorem loop74_0 (G : Goal) (d : Nat) (n : Nat) (hn : n ≤ 7) (w : List Nat) (ho : w.length = 7) (hsm : ∀ x ∈ w, x < 128) (hG : GoalOk G d (n : Int) w) (T : List Nat) (D : List (List AV)) (hD : D.length = d) (hDk : Dk D) (lo hi : Nat) (x : Nat) (cs : List (List Nat)) (hok : x ≤ n) (env : Env) (st : St)
    (hg : gcAV false lo hi (canon env [2, 4, 8, 9]) st = ([(2, .ptr (d + 1) 0), (4, .ptr (d + 3) 0), (8, I n), (9, I x)], ⟨D ++ layG G d (n : Int) w cs, T⟩)) :
    ∃ x_1 en s, lim (headed pure (run L) false [2, 4, 8, 9] lp74_0 lo hi) env st = some (x_1, en, s) ∧ (x_1 = .exit 0 ∧ s = ⟨D ++ layG G d (n : Int) w (cs ++ (List.range' x (n - x)).flatMap fun x => rg w 7 [x] (frN n x)), T⟩) := by
  refine loop_wp (α := Nat × List (List Nat)) (fun ⟨x, cs⟩ => n - x) (fun ⟨x, cs⟩ => x ≤ n) (fun ⟨x, cs⟩ => ([(2, .ptr (d + 1) 0), (4, .ptr (d + 3) 0), (8, I n), (9, I x)], ⟨D ++ layG G d (n : Int) w cs, T⟩)) (fun ⟨x, cs⟩ x_1 en s => x_1 = .exit 0 ∧ s = ⟨D ++ layG G d (n : Int) w (cs ++ (List.range' x (n - x)).flatMap fun x => rg w 7 [x] (frN n x)), T⟩) (fun ⟨x, cs⟩ hok => ?_) ⟨x, cs⟩ hok env st hg
  simp only at hok
  dsimp only at hok ⊢
  by_cases h : x < n
  · have hs := succ64 x (by omega)
    have hlt : ((x : Int) < (n : Int)) = True := eq_true (by omega)
    have hr : List.range' x (n - x) = x :: List.range' (x + 1) (n - (x + 1)) := by
      rw [show n - x = (n - (x + 1)) + 1 by omega, List.range'_succ]
    have g1 : (D ++ layG G d (n : Int) w cs)[d + 1]? = some (webC (n : Int) w) := by rw [lay_get hD]; rfl
    have g3 : (D ++ layG G d (n : Int) w cs)[d + 3]? = some [fromV d] := by rw [lay_get hD]; rfl
    have gw0 := getW0 (n : Int) w
    have hfv : fromV d = .fn (.func 94) [] [.ptr (d + 1) 0, .ptr (d + 2) 0, .ptr (d + 3) 0] := rfl
    have e1 := sh1_eq n (by omega)
    have e2 := sh1_eq (x + 1) (by omega)
    have p1 : 1 ≤ 2 ^ n := Nat.one_le_two_pow
    have p2 : 2 ^ n ≤ 128 := Nat.pow_le_pow_right (n := 2) (by omega) hn
    have p3 : 1 ≤ 2 ^ (x + 1) := Nat.one_le_two_pow
    have p4 : 2 ^ (x + 1) ≤ 2 ^ 7 := Nat.pow_le_pow_right (n := 2) (by omega) (by omega)
    have hdf := dfU_eq (2 ^ n - 1) (2 ^ (x + 1) - 1) (by omega) (by omega)
    have hfr : dfN (2 ^ n - 1) (2 ^ (x + 1) - 1) = frN n x := rfl
    rw [hfr] at hdf
    have hc := frN_card hn h
    have hcall := fun cs => c94 G d (n : Int) w ho hsm hG 7 [x] (frN n x) (by omega) (frN_lt hn) (by simp) (by simp; omega) (by simp; omega) cs .full T D hD hDk (.inl rfl)
    simp only [List.map_cons, List.map_nil] at hcall
    have s1 : IntKind.u64.wrap (((2 ^ n : Nat) : Int) - 1) = ((2 ^ n - 1 : Nat) : Int) := by
      rw [show (((2 ^ n : Nat) : Int) - 1) = ((2 ^ n - 1 : Nat) : Int) by omega]; exact wrapU _ (by omega)
    have s2 : IntKind.u64.wrap (((2 ^ (x + 1) : Nat) : Int) - 1) = ((2 ^ (x + 1) - 1 : Nat) : Int) := by
      rw [show (((2 ^ (x + 1) : Nat) : Int) - 1) = ((2 ^ (x + 1) - 1 : Nat) : Int) by omega]; exact wrapU _ (by omega)
    rw [hr, List.flatMap_cons, ← List.append_assoc]
    generalize frN n x = fr at *
    generalize 2 ^ n - 1 = a1 at *
    generalize 2 ^ (x + 1) - 1 = a2 at *
    simp only [go_sem, reduceIte, Nat.reduceEqDiff, Nat.reduceAdd, Nat.reduceSub, Nat.reduceLeDiff, Nat.reduceLT, reduceCtorEq, Int.reduceLT, Int.reduceLE, Int.reduceEq, Int.reduceBEq, Int.reduceSub, Int.reduceAdd, Int.reduceMul, Int.reduceNeg, Int.reduceToNat, Nat.reduceMul, Nat.reduceBEq, index_rsl_if, setm, make_ints, condK_dec, wantK_dec, not_dec, and_dec, or_dec, seqK_ite, seqK_none, blockK_ite, blockK_none, opsK_ite, opsK_none, stepK_ite, stepK_none, bodyK_ite, bodyK_none, resK_ite, resK_none, leaveK_ite, leaveK_none, only_ite, only_none, bind_ite, gives_some, gives_none, gives_ite, then_normal, then_ret, then_exit, then_none, then_ite, Option.bind_none, Bool.not_eq_true', decide_eq_false_iff_not, Bool.and_eq_true, Bool.or_eq_true, Option.some.injEq, Int.not_lt, Int.not_le, lp74_0, hlt, hs, g1, g3, gw0, hfv, e1, e2, s1, s2, hdf, hcall, show pure 94 = false from rfl]
    refine ⟨(x + 1, cs ++ rg w 7 [x] fr), by simp only [go_sem, reduceIte, Nat.reduceEqDiff, Nat.reduceAdd, Nat.reduceSub, Nat.reduceLeDiff, Nat.reduceLT, reduceCtorEq, Int.reduceLT, Int.reduceLE, Int.reduceEq, Int.reduceBEq, Int.reduceSub, Int.reduceAdd, Int.reduceMul, Int.reduceNeg, Int.reduceToNat, Nat.reduceMul, Nat.reduceBEq, ren1_locm, loc_tips, locT_eq] <;> rfl, ?_, ?_, fun x en s hq => ?_⟩
    · dsimp only; omega
    · dsimp only; omega
    · exact hq
  · have hr : n - x = 0 := by omega
    have hlt : ((x : Int) < (n : Int)) = False := eq_false (by omega)
    rw [hr]
    simp only [go_sem, reduceIte, Nat.reduceEqDiff, Nat.reduceAdd, Nat.reduceSub, Nat.reduceLeDiff, Nat.reduceLT, reduceCtorEq, Int.reduceLT, Int.reduceLE, Int.reduceEq, Int.reduceBEq, Int.reduceSub, Int.reduceAdd, Int.reduceMul, Int.reduceNeg, Int.reduceToNat, Nat.reduceMul, Nat.reduceBEq, index_rsl_if, setm, make_ints, condK_dec, wantK_dec, not_dec, and_dec, or_dec, seqK_ite, seqK_none, blockK_ite, blockK_none, opsK_ite, opsK_none, stepK_ite, stepK_none, bodyK_ite, bodyK_none, resK_ite, resK_none, leaveK_ite, leaveK_none, only_ite, only_none, bind_ite, gives_some, gives_none, gives_ite, then_normal, then_ret, then_exit, then_none, then_ite, Option.bind_none, Bool.not_eq_true', decide_eq_false_iff_not, Bool.and_eq_true, Bool.or_eq_true, Option.some.injEq, Int.not_lt, Int.not_le, lp74_0, hlt]
    simp

theorem len_app {D : List (List AV)} {d : Nat} (hD : D.length = d) (A : List (List AV)) : (D ++ A).length = d + A.length := by rw [List.length_append, hD]
theorem set_app {D : List (List AV)} {d : Nat} (hD : D.length = d) (A : List (List AV)) (k : Nat) (x : List AV) : (D ++ A).set (d + k) x = D ++ A.set k x := by
  rw [List.set_append_right _ _ (by omega)]
  congr 2; omega
theorem get_app {D : List (List AV)} {d : Nat} (hD : D.length = d) (A : List (List AV)) (k : Nat) : (D ++ A)[d + k]? = A[k]? := by
  rw [List.getElem?_append_right (by omega)]
  congr 1; omega
/-- Nothing is held beside the goal in the beginning. -/
theorem c74 (G : Goal) (d : Nat) (n : Nat) (hn : n ≤ 7) (w : List Nat) (ho : w.length = 7) (hsm : ∀ x ∈ w, x < 128) (hG : GoalOk G d (n : Int) w) (h0 : G.gar d [] = []) (T : List Nat) (D : List (List AV)) (hD : D.length = d) (hDk : Dk D) :
    run L 74 [webAV (n : Int) w, .ifc G.tt (.ptr d 0)] ⟨D ++ [G.ob d []], T⟩ = some (.tup [], ⟨D ++ layG G d (n : Int) w (circL n w), T⟩) := by
  rw [run_shared (fn := ir74) rfl rfl]
  have l1 := len_app hD [G.ob d []]
  have l2 := len_app hD [G.ob d [], webC (n : Int) w]
  have l3 := len_app hD [G.ob d [], webC (n : Int) w, [.ifc G.tt (.ptr d 0)]]
  simp only [List.length_cons, List.length_nil, Nat.zero_add, Nat.reduceAdd] at l1 l2 l3
  have gf := get_app hD [G.ob d [], webC (n : Int) w, [.ifc G.tt (.ptr d 0)], [.v .nilFunc]] 3
  have sf := set_app hD [G.ob d [], webC (n : Int) w, [.ifc G.tt (.ptr d 0)], [.v .nilFunc]] 3 [.fn (.func 94) [] [.ptr (d + 1) 0, .ptr (d + 2) 0, .ptr (d + 3) 0]]
  have gw := get_app hD [G.ob d [], webC (n : Int) w, [.ifc G.tt (.ptr d 0)], [.fn (.func 94) [] [.ptr (d + 1) 0, .ptr (d + 2) 0, .ptr (d + 3) 0]]] 1
  have gw0 := getW0 (n : Int) w
  have hlay : D ++ [G.ob d [], webC (n : Int) w, [.ifc G.tt (.ptr d 0)], [.fn (.func 94) [] [.ptr (d + 1) 0, .ptr (d + 2) 0, .ptr (d + 3) 0]]] = D ++ layG G d (n : Int) w [] := by
    unfold layG; rw [h0]; rfl
  simp only [ir74, go_sem, reduceIte, Nat.reduceEqDiff, Nat.reduceAdd, Nat.reduceSub, Nat.reduceLeDiff, Nat.reduceLT, reduceCtorEq, Int.reduceLT, Int.reduceLE, Int.reduceEq, Int.reduceBEq, Int.reduceSub, Int.reduceAdd, Int.reduceMul, Int.reduceNeg, Int.reduceToNat, Nat.reduceMul, Nat.reduceBEq, storableW, List.append_assoc, l1, l2, l3, gf, sf, gw, gw0]
  simp only [hlay]
  generalize hg : lim (headed pure (run L) false _ lp74_0 _ _) _ _ = o
  obtain ⟨x, en, s, rfl, h2⟩ : ∃ x en s, o = some (x, en, s) ∧ _ := by rw [← hg]; exact loop74_0 G d n hn w ho hsm hG T D hD hDk _ _ 0 [] (by omega) _ _ (by simp only [go_sem, reduceIte, Nat.reduceEqDiff, Nat.reduceAdd, Nat.reduceSub, Nat.reduceLeDiff, Nat.reduceLT, reduceCtorEq, Int.reduceLT, Int.reduceLE, Int.reduceEq, Int.reduceBEq, Int.reduceSub, Int.reduceAdd, Int.reduceMul, Int.reduceNeg, Int.reduceToNat, Nat.reduceMul, Nat.reduceBEq] <;> rfl)
  clear hg
  rw [Nat.sub_zero, List.nil_append] at h2
  obtain ⟨rfl, rfl⟩ := h2
  simp only [go_sem, reduceIte, Nat.reduceEqDiff, Nat.reduceAdd, Nat.reduceSub, Nat.reduceLeDiff, Nat.reduceLT, reduceCtorEq, Int.reduceLT, Int.reduceLE, Int.reduceEq, Int.reduceBEq, Int.reduceSub, Int.reduceAdd, Int.reduceMul, Int.reduceNeg, Int.reduceToNat, Nat.reduceMul, Nat.reduceBEq]
  rfl


/-! ### lists of whatever form, compared -/
def IsL (st : St) (A : AV) (xs : List Int) : Prop := lenAV A = some (I xs.length) ∧ ∃ p : Nat → AV, ∀ i : Nat, i < xs.length → indexSAV 1 A (.v (.int .i64 (i : Int))) = some (p i) ∧ loadAV 1 false st (p i) = some (I (xs.getD i 0))
theorem isL_lst (st : St) (g : Tag) (xs : List Int) : IsL st (.lst g 1 (xs.map I)) xs := by
  refine ⟨by rw [len_lst, List.length_map], fun i => .eptr (I (xs.getD i 0)) 0, fun i hi => ⟨?_, rfl⟩⟩
  simp [indexSAV, hi]
theorem isL_lstJ (st : St) (g : Tag) (c : List Nat) : IsL st (.lst g 1 (c.map J)) (c.map fun (x : Nat) => (x : Int)) := by
  have := isL_lst st g (c.map fun (x : Nat) => (x : Int))
  rw [List.map_map] at this
  exact this
theorem isL_rsl {st : St} {l : Nat} {c : List Nat} (h : st.store[l]? = some (c.map J)) (m : Nat) : IsL st (.rsl l 0 c.length m 1 false) (c.map fun (x : Nat) => (x : Int)) := by
  refine ⟨by rw [len_rsl, List.length_map], fun i => .ptr l i, fun i hi => ?_⟩
  rw [List.length_map] at hi
  refine ⟨?_, ?_⟩
  · rw [index_rsl_if, if_pos ⟨by omega, by omega⟩]
    simp
  · rw [load_ptr, h]
    show (c.map J)[i]? = _
    rw [getJ c i hi]
    congr 2
    rw [List.getD_eq_getElem?_getD, List.getD_eq_getElem?_getD, List.getElem?_map, List.getElem?_eq_getElem hi]
    rfl

theorem loop48v (st0 : St) (A Bv : AV) (xs ys : List Int) (hlen : xs.length < 1000000) (pA pB : Nat → AV) (hlB : lenAV Bv = some (I ys.length)) (hA : ∀ i : Nat, i < xs.length → indexSAV 1 A (.v (.int .i64 (i : Int))) = some (pA i) ∧ loadAV 1 false st0 (pA i) = some (I (xs.getD i 0))) (hB : ∀ i : Nat, i < ys.length → indexSAV 1 Bv (.v (.int .i64 (i : Int))) = some (pB i) ∧ loadAV 1 false st0 (pB i) = some (I (ys.getD i 0))) (lo hi : Nat) (i : Nat) (hok : i ≤ xs.length ∧ i ≤ ys.length) (env : Env) (st : St)
    (hg : gcAV false lo hi (canon env [0, 1, 9, 10, 11]) st = ([(0, A), (1, Bv), (9, A), (10, I xs.length), (11, I i)], st0)) :
    ∃ x_1 en s, lim (headed pure (run L) false [0, 1, 9, 10, 11] lp48_0 lo hi) env st = some (x_1, en, s) ∧ (s = st0 ∧ ((x_1 = .exit 0 ∧ en.get 0 = A ∧ en.get 1 = Bv ∧ cmpN (xs.drop i) (ys.drop i) = if xs.length < ys.length then -1 else 0) ∨ (x_1 = .ret ∧ en.get 4 = I (cmpN (xs.drop i) (ys.drop i))))) := by
  refine loop_wp (α := Nat) (fun i => xs.length - i) (fun i => i ≤ xs.length ∧ i ≤ ys.length) (fun i => ([(0, A), (1, Bv), (9, A), (10, I xs.length), (11, I i)], st0)) (fun i x_1 en s => s = st0 ∧ ((x_1 = .exit 0 ∧ en.get 0 = A ∧ en.get 1 = Bv ∧ cmpN (xs.drop i) (ys.drop i) = if xs.length < ys.length then -1 else 0) ∨ (x_1 = .ret ∧ en.get 4 = I (cmpN (xs.drop i) (ys.drop i))))) (fun i hok => ?_) i hok env st hg
  obtain ⟨hok1, hok2⟩ := hok
  by_cases h : i < xs.length
  · obtain ⟨hx, hx2⟩ := hA i h
    have hs := succ64 i (by omega)
    have hd : xs.drop i = xs.getD i 0 :: xs.drop (i + 1) := by
      rw [List.getD_eq_getElem?_getD, List.getElem?_eq_getElem h]; exact List.drop_eq_getElem_cons h
    have hlt : ((i : Int) < (xs.length : Int)) = True := eq_true (by omega)
    rw [hd]
    by_cases h2 : i < ys.length
    · obtain ⟨hy, hy2⟩ := hB i h2
      have hd2 : ys.drop i = ys.getD i 0 :: ys.drop (i + 1) := by
        rw [List.getD_eq_getElem?_getD, List.getElem?_eq_getElem h2]; exact List.drop_eq_getElem_cons h2
      have hge : ((ys.length : Int) ≤ (i : Int)) = False := eq_false (by omega)
      rw [hd2]
      generalize xs.getD i 0 = a at *
      generalize ys.getD i 0 = b at *
      have hcn : cmpN (a :: xs.drop (i + 1)) (b :: ys.drop (i + 1)) = if a < b then -1 else if b < a then 1 else cmpN (xs.drop (i + 1)) (ys.drop (i + 1)) := rfl
      rw [hcn]
      by_cases p1 : a < b
      · simp only [go_sem, reduceIte, Nat.reduceEqDiff, Nat.reduceAdd, Nat.reduceSub, Nat.reduceLeDiff, Nat.reduceLT, reduceCtorEq, Int.reduceLT, Int.reduceLE, Int.reduceEq, Int.reduceBEq, Int.reduceSub, Int.reduceAdd, Int.reduceMul, Int.reduceNeg, Int.reduceToNat, Nat.reduceMul, Nat.reduceBEq, index_rsl_if, setm, make_ints, condK_dec, wantK_dec, not_dec, and_dec, or_dec, seqK_ite, seqK_none, blockK_ite, blockK_none, opsK_ite, opsK_none, stepK_ite, stepK_none, bodyK_ite, bodyK_none, resK_ite, resK_none, leaveK_ite, leaveK_none, only_ite, only_none, bind_ite, gives_some, gives_none, gives_ite, then_normal, then_ret, then_exit, then_none, then_ite, Option.bind_none, Bool.not_eq_true', decide_eq_false_iff_not, Bool.and_eq_true, Bool.or_eq_true, Option.some.injEq, Int.not_lt, Int.not_le, lp48_0, hx, hy, hx2, hy2, hlB, hlt, hge, c86, p1, List.length_map]
      · by_cases p2 : b < a
        · simp only [go_sem, reduceIte, Nat.reduceEqDiff, Nat.reduceAdd, Nat.reduceSub, Nat.reduceLeDiff, Nat.reduceLT, reduceCtorEq, Int.reduceLT, Int.reduceLE, Int.reduceEq, Int.reduceBEq, Int.reduceSub, Int.reduceAdd, Int.reduceMul, Int.reduceNeg, Int.reduceToNat, Nat.reduceMul, Nat.reduceBEq, index_rsl_if, setm, make_ints, condK_dec, wantK_dec, not_dec, and_dec, or_dec, seqK_ite, seqK_none, blockK_ite, blockK_none, opsK_ite, opsK_none, stepK_ite, stepK_none, bodyK_ite, bodyK_none, resK_ite, resK_none, leaveK_ite, leaveK_none, only_ite, only_none, bind_ite, gives_some, gives_none, gives_ite, then_normal, then_ret, then_exit, then_none, then_ite, Option.bind_none, Bool.not_eq_true', decide_eq_false_iff_not, Bool.and_eq_true, Bool.or_eq_true, Option.some.injEq, Int.not_lt, Int.not_le, lp48_0, hx, hy, hx2, hy2, hlB, hlt, hge, c86, p1, p2, List.length_map]
        · simp only [go_sem, reduceIte, Nat.reduceEqDiff, Nat.reduceAdd, Nat.reduceSub, Nat.reduceLeDiff, Nat.reduceLT, reduceCtorEq, Int.reduceLT, Int.reduceLE, Int.reduceEq, Int.reduceBEq, Int.reduceSub, Int.reduceAdd, Int.reduceMul, Int.reduceNeg, Int.reduceToNat, Nat.reduceMul, Nat.reduceBEq, index_rsl_if, setm, make_ints, condK_dec, wantK_dec, not_dec, and_dec, or_dec, seqK_ite, seqK_none, blockK_ite, blockK_none, opsK_ite, opsK_none, stepK_ite, stepK_none, bodyK_ite, bodyK_none, resK_ite, resK_none, leaveK_ite, leaveK_none, only_ite, only_none, bind_ite, gives_some, gives_none, gives_ite, then_normal, then_ret, then_exit, then_none, then_ite, Option.bind_none, Bool.not_eq_true', decide_eq_false_iff_not, Bool.and_eq_true, Bool.or_eq_true, Option.some.injEq, Int.not_lt, Int.not_le, lp48_0, hx, hy, hx2, hy2, hlB, hlt, hge, c86, p1, p2, hs, List.length_map]
          refine ⟨i + 1, by simp only [go_sem, reduceIte, Nat.reduceEqDiff, Nat.reduceAdd, Nat.reduceSub, Nat.reduceLeDiff, Nat.reduceLT, reduceCtorEq, Int.reduceLT, Int.reduceLE, Int.reduceEq, Int.reduceBEq, Int.reduceSub, Int.reduceAdd, Int.reduceMul, Int.reduceNeg, Int.reduceToNat, Nat.reduceMul, Nat.reduceBEq, ren1_locm, loc_tips, locT_eq] <;> rfl, ?_, ?_, fun x en s hq => ?_⟩
          · omega
          · omega
          · exact hq
    · have hd2 : ys.drop i = [] := List.drop_eq_nil_of_le (by omega)
      have hge : ((ys.length : Int) ≤ (i : Int)) = True := eq_true (by omega)
      rw [hd2]
      generalize xs.getD i 0 = a at *
      simp only [go_sem, reduceIte, Nat.reduceEqDiff, Nat.reduceAdd, Nat.reduceSub, Nat.reduceLeDiff, Nat.reduceLT, reduceCtorEq, Int.reduceLT, Int.reduceLE, Int.reduceEq, Int.reduceBEq, Int.reduceSub, Int.reduceAdd, Int.reduceMul, Int.reduceNeg, Int.reduceToNat, Nat.reduceMul, Nat.reduceBEq, index_rsl_if, setm, make_ints, condK_dec, wantK_dec, not_dec, and_dec, or_dec, seqK_ite, seqK_none, blockK_ite, blockK_none, opsK_ite, opsK_none, stepK_ite, stepK_none, bodyK_ite, bodyK_none, resK_ite, resK_none, leaveK_ite, leaveK_none, only_ite, only_none, bind_ite, gives_some, gives_none, gives_ite, then_normal, then_ret, then_exit, then_none, then_ite, Option.bind_none, Bool.not_eq_true', decide_eq_false_iff_not, Bool.and_eq_true, Bool.or_eq_true, Option.some.injEq, Int.not_lt, Int.not_le, lp48_0, hx, hx2, hlB, hlt, hge, cmpN, List.length_map]
  · have hd : xs.drop i = [] := List.drop_eq_nil_of_le (by omega)
    have hlt : ((i : Int) < (xs.length : Int)) = False := eq_false (by omega)
    have hl2 : (ys.drop i).length = ys.length - i := List.length_drop
    rw [hd, cmpN_nil, hl2]
    simp only [go_sem, reduceIte, Nat.reduceEqDiff, Nat.reduceAdd, Nat.reduceSub, Nat.reduceLeDiff, Nat.reduceLT, reduceCtorEq, Int.reduceLT, Int.reduceLE, Int.reduceEq, Int.reduceBEq, Int.reduceSub, Int.reduceAdd, Int.reduceMul, Int.reduceNeg, Int.reduceToNat, Nat.reduceMul, Nat.reduceBEq, index_rsl_if, setm, make_ints, condK_dec, wantK_dec, not_dec, and_dec, or_dec, seqK_ite, seqK_none, blockK_ite, blockK_none, opsK_ite, opsK_none, stepK_ite, stepK_none, bodyK_ite, bodyK_none, resK_ite, resK_none, leaveK_ite, leaveK_none, only_ite, only_none, bind_ite, gives_some, gives_none, gives_ite, then_normal, then_ret, then_exit, then_none, then_ite, Option.bind_none, Bool.not_eq_true', decide_eq_false_iff_not, Bool.and_eq_true, Bool.or_eq_true, Option.some.injEq, Int.not_lt, Int.not_le, lp48_0, hlt, List.length_map]
    have e : (0 < ys.length - i) = (xs.length < ys.length) := propext (by omega)
    simp only [e]

theorem c48v (A Bv : AV) (xs ys : List Int) (hlen : xs.length < 1000000) (st : St) (hA : IsL st A xs) (hB : IsL st Bv ys) : run L 48 [A, Bv] st = some (I (cmpN xs ys), st) := by
  rw [run_shared (fn := ir48) rfl rfl]
  obtain ⟨hlA, pA, hA⟩ := hA
  obtain ⟨hlB, pB, hB⟩ := hB
  simp only [ir48, go_sem, reduceIte, Nat.reduceEqDiff, Nat.reduceAdd, Nat.reduceSub, Nat.reduceLeDiff, Nat.reduceLT, reduceCtorEq, Int.reduceLT, Int.reduceLE, Int.reduceEq, Int.reduceBEq, Int.reduceSub, Int.reduceAdd, Int.reduceMul, Int.reduceNeg, Int.reduceToNat, Nat.reduceMul, Nat.reduceBEq, hlA]
  generalize hg : lim (headed pure (run L) false _ lp48_0 _ _) _ _ = o
  obtain ⟨x, en, s, rfl, h2⟩ : ∃ x en s, o = some (x, en, s) ∧ _ := by rw [← hg]; exact loop48v st A Bv xs ys hlen pA pB hlB hA hB _ _ 0 ⟨by omega, by omega⟩ _ _ (by simp only [go_sem, reduceIte, Nat.reduceEqDiff, Nat.reduceAdd, Nat.reduceSub, Nat.reduceLeDiff, Nat.reduceLT, reduceCtorEq, Int.reduceLT, Int.reduceLE, Int.reduceEq, Int.reduceBEq, Int.reduceSub, Int.reduceAdd, Int.reduceMul, Int.reduceNeg, Int.reduceToNat, Nat.reduceMul, Nat.reduceBEq] <;> rfl)
  clear hg
  simp only [List.drop_zero] at h2
  obtain ⟨rfl, h2⟩ := h2
  rcases h2 with ⟨rfl, h3, h4, h5⟩ | ⟨rfl, h3⟩
  · rw [h5]
    by_cases p : xs.length < ys.length
    · have q : ((xs.length : Int) < (ys.length : Int)) = True := eq_true (by omega)
      rw [if_pos p]
      simp only [go_sem, reduceIte, Nat.reduceEqDiff, Nat.reduceAdd, Nat.reduceSub, Nat.reduceLeDiff, Nat.reduceLT, reduceCtorEq, Int.reduceLT, Int.reduceLE, Int.reduceEq, Int.reduceBEq, Int.reduceSub, Int.reduceAdd, Int.reduceMul, Int.reduceNeg, Int.reduceToNat, Nat.reduceMul, Nat.reduceBEq, h3, h4, hlA, hlB, q]
    · have q : ((xs.length : Int) < (ys.length : Int)) = False := eq_false (by omega)
      rw [if_neg p]
      simp only [go_sem, reduceIte, Nat.reduceEqDiff, Nat.reduceAdd, Nat.reduceSub, Nat.reduceLeDiff, Nat.reduceLT, reduceCtorEq, Int.reduceLT, Int.reduceLE, Int.reduceEq, Int.reduceBEq, Int.reduceSub, Int.reduceAdd, Int.reduceMul, Int.reduceNeg, Int.reduceToNat, Nat.reduceMul, Nat.reduceBEq, h3, h4, hlA, hlB, q]
  · simp only [go_sem, reduceIte, Nat.reduceEqDiff, Nat.reduceAdd, Nat.reduceSub, Nat.reduceLeDiff, Nat.reduceLT, reduceCtorEq, Int.reduceLT, Int.reduceLE, Int.reduceEq, Int.reduceBEq, Int.reduceSub, Int.reduceAdd, Int.reduceMul, Int.reduceNeg, Int.reduceToNat, Nat.reduceMul, Nat.reduceBEq, h3]
theorem flat_J (c : List Nat) : flatAV (c.map J) = c.map J := by
  unfold flatAV
  induction c with
  | nil => rfl
  | cons x r ih => rw [List.map_cons, List.flatMap_cons, ih]; rfl
/-- A copy that may be written. -/
theorem c58 (g : Tag) (c : List Nat) (h : c ≠ []) (hl : c.length ≤ 1000) : run L 58 [.lst g 1 (c.map J)] ⟨[], []⟩ = some (.rsl 0 0 c.length c.length 1 false, ⟨[c.map J], []⟩) := by
  rw [run_shared (fn := ir58) rfl rfl]
  have hm : c.length ≤ maxGrow := by unfold maxGrow; omega
  have hf : flatAV (c.map J) = c.map J := flat_J c
  have hap : appendmAV 1 false (.lst .full 1 []) (c.map J) ⟨[], []⟩ = some (.rsl 0 0 c.length c.length 1 false, ⟨[c.map J], []⟩) := by
    cases c with
    | nil => exact absurd rfl h
    | cons x r =>
      rw [List.map_cons] at hf ⊢
      simp only [appendmAV, newM, List.nil_append, if_true, List.length_cons, List.length_map] at hm ⊢
      rw [if_pos hm, hf]
      simp
  simp only [ir58, go_sem, reduceIte, Nat.reduceEqDiff, Nat.reduceAdd, Nat.reduceSub, Nat.reduceLeDiff, Nat.reduceLT, reduceCtorEq, Int.reduceLT, Int.reduceLE, Int.reduceEq, Int.reduceBEq, Int.reduceSub, Int.reduceAdd, Int.reduceMul, Int.reduceNeg, Int.reduceToNat, Nat.reduceMul, Nat.reduceBEq, hap]


/-! ### the first goal: the first shortest odd circle -/
def up (c : List Nat) : List Int := c.map fun (x : Nat) => (x : Int)
theorem up_len (c : List Nat) : (up c).length = c.length := by simp [up]
theorem up_J (c : List Nat) : (up c).map I = c.map J := by simp [up, List.map_map, Function.comp]
def better (o : Option (List Nat)) (c : List Nat) : Bool :=
  decide (c.length % 2 = 1) && match o with | none => true | some b => decide (c.length < b.length) || (decide (c.length = b.length) && lexLt (up c) (up b))
def clS (X : List (List Nat)) (c : List Nat) : List (List Nat) := if better X.getLast? c = true then X ++ [c] else X
/-- The circles that were the best ones when they came. -/
def clL (cs : List (List Nat)) : List (List Nat) := cs.foldl clS []
theorem clL_snoc (cs : List (List Nat)) (c : List Nat) : clL (cs ++ [c]) = clS (clL cs) c := by simp [clL]
theorem clS_odd {X : List (List Nat)} (h : ∀ c ∈ X, c.length % 2 = 1) (c : List Nat) : ∀ x ∈ clS X c, x.length % 2 = 1 := by
  unfold clS
  split
  · next hb =>
    intro x hx
    rcases List.mem_append.1 hx with hx | hx
    · exact h x hx
    · simp at hx; subst hx
      unfold better at hb
      rw [Bool.and_eq_true, decide_eq_true_iff] at hb; exact hb.1
  · exact h
theorem foldl_odd : ∀ (cs X : List (List Nat)), (∀ c ∈ X, c.length % 2 = 1) → ∀ x ∈ cs.foldl clS X, x.length % 2 = 1
  | [], _, h => h
  | c :: r, X, h => foldl_odd r _ (clS_odd h c)
theorem clL_odd (cs : List (List Nat)) : ∀ x ∈ clL cs, x.length % 2 = 1 := foldl_odd cs [] (by simp)
theorem clS_len (X : List (List Nat)) (c : List Nat) : X.length ≤ (clS X c).length := by
  unfold clS; split <;> simp
theorem foldl_len : ∀ (cs X : List (List Nat)), X.length ≤ (cs.foldl clS X).length
  | [], _ => Nat.le_refl _
  | c :: r, X => Nat.le_trans (clS_len X c) (foldl_len r _)
theorem clL_mono (cs cs' : List (List Nat)) : (clL cs).length ≤ (clL (cs ++ cs')).length := by
  unfold clL; rw [List.foldl_append]; exact foldl_len cs' _
def obX (d : Nat) (X : List (List Nat)) : AV :=
  match X.getLast? with
  | none => .v (.slice none 0 0)
  | some b => .rsl (d + (3 + X.length)) 0 b.length b.length 1 false
def goalO : Goal := ⟨101, 145, fun d cs => [obX d (clL cs)], fun _ cs => (clL cs).map fun c => c.map J⟩
theorem noLs_J : ∀ c : List Nat, noLs (c.map J) = true
  | [] => rfl
  | x :: r => by simp only [List.map_cons, noLs, noL, noLs_J r, Bool.and_true]
theorem noLs_U : ∀ c : List Nat, noLs (c.map U) = true
  | [] => rfl
  | x :: r => by simp only [List.map_cons, noLs, noL, noLs_U r, Bool.and_true]
theorem visB_J {c : List Nat} (h : c ≠ []) : visB (c.map J) = true := by
  unfold visB
  rw [noLs_J]
  cases c with
  | nil => exact absurd rfl h
  | cons x r => rfl
theorem visB_web (n : Int) (w : List Nat) : visB (webC n w) = true := by
  unfold visB webC
  simp only [noLs, noL, noLs_U]
  rfl
theorem visR_J (st : St) (c : List Nat) : ∀ v ∈ c.map J, visR st v = true := by
  intro v hv
  obtain ⟨x, _, rfl⟩ := List.mem_map.1 hv
  exact visR_v _ _
theorem visR_web (st : St) (n : Int) (w : List Nat) : ∀ v ∈ webC n w, visR st v = true := by
  intro v hv
  unfold webC at hv
  rcases List.mem_cons.1 hv with rfl | hv
  · exact visR_v _ _
  · obtain ⟨x, _, rfl⟩ := List.mem_map.1 hv
    exact visR_v _ _
theorem visN_at {A D : List (List AV)} {d : Nat} (hD : D.length = d) (hA : ∀ x ∈ A, visB x = true) (k : Nat) (hk : k < A.length) (T : List Nat) : visN ⟨D ++ A, T⟩ (d + k) = true := by
  unfold visN
  simp only
  rw [get_app hD, List.getElem?_eq_getElem hk]
  exact hA _ (List.getElem_mem hk)
theorem from_vis {A D : List (List AV)} {d : Nat} (hD : D.length = d) (hA : ∀ x ∈ A, visB x = true) (hk : 4 ≤ A.length) (T : List Nat) : visR ⟨D ++ A, T⟩ (fromV d) = true := by
  unfold fromV
  simp only [visR, visRs, visN_at hD hA 1 (by omega), visN_at hD hA 2 (by omega), visN_at hD hA 3 (by omega), Bool.and_true]
theorem visO (d : Nat) (n : Int) (w : List Nat) (cs : List (List Nat)) (D : List (List AV)) (T : List Nat) (hD : D.length = d) : ∀ x ∈ layG goalO d n w cs, visB x = true ∧ ∀ v ∈ x, visR ⟨D ++ layG goalO d n w cs, T⟩ v = true := by
  have hodd := clL_odd cs
  have hA : ∀ x ∈ layG goalO d n w cs, visB x = true := by
    intro x hx
    unfold layG goalO at hx
    simp only [List.mem_cons] at hx
    rcases hx with rfl | rfl | rfl | rfl | hx
    · unfold obX; split <;> rfl
    · exact visB_web n w
    · rfl
    · rfl
    · obtain ⟨c, hc, rfl⟩ := List.mem_map.1 hx
      refine visB_J fun e => ?_
      have := hodd c hc
      rw [e] at this; simp at this
  have hlen : (layG goalO d n w cs).length = 4 + (clL cs).length := by simp [layG, goalO]; omega
  intro x hx
  refine ⟨hA x hx, ?_⟩
  have hx' := hx
  unfold layG at hx'
  simp only [List.mem_cons] at hx'
  intro v hv
  rcases hx' with rfl | rfl | rfl | rfl | hx'
  · have hv' : v = obX d (clL cs) := by simpa [goalO] using hv
    subst hv'
    unfold obX
    cases hl : (clL cs).getLast? with
    | none => exact visR_v _ _
    | some b =>
      have hpos : 0 < (clL cs).length := by
        cases h : clL cs with
        | nil => rw [h] at hl; simp at hl
        | cons a r => simp
      simp only [visR]
      exact visN_at hD hA _ (by omega) T
  · exact visR_web _ _ _ v hv
  · simp at hv; subst hv
    simp only [visR]
    exact visN_at hD hA 0 (by omega) T
  · simp at hv; subst hv
    exact from_vis hD hA (by omega) T
  · have hx2 : x ∈ (clL cs).map fun c => c.map J := hx'
    obtain ⟨c, _, rfl⟩ := List.mem_map.1 hx2
    exact visR_J _ _ v hv
theorem shVs_J (n : Nat) : ∀ c : List Nat, shVs n (c.map J) = c.map J
  | [] => rfl
  | x :: r => by simp only [List.map_cons, shVs, shV, shVs_J n r]


theorem obX_snoc (d : Nat) (X : List (List Nat)) (c : List Nat) : obX d (X ++ [c]) = .rsl (d + (4 + X.length)) 0 c.length c.length 1 false := by
  unfold obX
  rw [List.getLast?_concat]
  simp only [List.length_append, List.length_singleton]
  rw [show 3 + (X.length + 1) = 4 + X.length by omega]
theorem layO (d : Nat) (n : Int) (w : List Nat) (cs : List (List Nat)) : layG goalO d n w cs = [obX d (clL cs)] :: webC n w :: [.ifc 101 (.ptr d 0)] :: [fromV d] :: (clL cs).map fun c => c.map J := rfl

set_option maxHeartbeats 2000000 in
theorem c145 (d : Nat) (n : Int) (w : List Nat) (cs : List (List Nat)) (c : List Nat) (g : Tag) (T : List Nat) (D : List (List AV)) (hD : D.length = d) (h2 : 2 ≤ c.length) (h7 : c.length ≤ 7) :
    run L 145 [.ptr d 0, .lst g 1 (c.map J)] ⟨D ++ layG goalO d n w cs, T⟩ = some (.tup [], ⟨D ++ layG goalO d n w (cs ++ [c]), T⟩) := by
  rw [run_shared (fn := ir145) rfl rfl, layO, layO, clL_snoc]
  have hodd := clL_odd cs
  have hcne : c ≠ [] := by intro e; subst e; simp at h2
  generalize clL cs = X at *
  have ht2 : (c.length : Int).tmod 2 = ((c.length % 2 : Nat) : Int) := tmod_nat c.length 2
  have g0 := get_app hD ([obX d X] :: webC n w :: [.ifc 101 (.ptr d 0)] :: [fromV d] :: X.map fun c => c.map J) 0
  rw [Nat.add_zero, List.getElem?_cons_zero] at g0
  have h58 := c58 .any c hcne (by omega)
  have hlen : (D ++ ([obX d X] :: webC n w :: [.ifc 101 (.ptr d 0)] :: [fromV d] :: X.map fun c => c.map J)).length = d + (4 + X.length) := by rw [List.length_append, hD]; simp; omega
  have gX : (D ++ ([obX d X] :: webC n w :: [.ifc 101 (.ptr d 0)] :: [fromV d] :: X.map fun c => c.map J) ++ [c.map J])[d]? = some [obX d X] := by
    rw [List.getElem?_append_left (by rw [hlen]; omega)]; exact g0
  have sX : (D ++ ([obX d X] :: webC n w :: [.ifc 101 (.ptr d 0)] :: [fromV d] :: X.map fun c => c.map J) ++ [c.map J]).set d [.rsl (d + (4 + X.length)) 0 c.length c.length 1 false] = D ++ ([obX d (X ++ [c])] :: webC n w :: [.ifc 101 (.ptr d 0)] :: [fromV d] :: (X ++ [c]).map fun c => c.map J) := by
    rw [List.append_assoc]
    have := set_app hD (([obX d X] :: webC n w :: [.ifc 101 (.ptr d 0)] :: [fromV d] :: X.map fun c => c.map J) ++ [c.map J]) 0 [.rsl (d + (4 + X.length)) 0 c.length c.length 1 false]
    rw [Nat.add_zero] at this
    rw [this, obX_snoc]
    simp
  have hbt : better X.getLast? c = (decide (c.length % 2 = 1) && match X.getLast? with | none => true | some b => decide (c.length < b.length) || (decide (c.length = b.length) && lexLt (up c) (up b))) := rfl
  by_cases p : c.length % 2 = 1
  · have q : (((c.length % 2 : Nat) : Int) = 1) = True := eq_true (by omega)
    cases hl : X.getLast? with
    | none =>
      have e : clS X c = X ++ [c] := by unfold clS; rw [if_pos (by rw [hbt, hl]; simp [p])]
      have eo : obX d X = .v (.slice none 0 0) := by unfold obX; rw [hl]
      rw [e]
      rw [eo] at g0 gX hlen sX ⊢
      simp only [ir145, go_sem, reduceIte, Nat.reduceEqDiff, Nat.reduceAdd, Nat.reduceSub, Nat.reduceLeDiff, Nat.reduceLT, reduceCtorEq, Int.reduceLT, Int.reduceLE, Int.reduceEq, Int.reduceBEq, Int.reduceSub, Int.reduceAdd, Int.reduceMul, Int.reduceNeg, Int.reduceToNat, Nat.reduceMul, Nat.reduceBEq, ht2, q, g0, h58, shV, shVs_J, shStore, hlen, gX, sX, show pure 58 = false from rfl, List.length_map]
    | some b =>
      have hpos : 0 < X.length := by
        cases h : X with
        | nil => rw [h] at hl; simp at hl
        | cons a r => simp
      have eo : obX d X = .rsl (d + (3 + X.length)) 0 b.length b.length 1 false := by unfold obX; rw [hl]
      have hgl : X[X.length - 1]? = some b := by rw [← List.getLast?_eq_getElem?]; exact hl
      have gb : (D ++ ([obX d X] :: webC n w :: [.ifc 101 (.ptr d 0)] :: [fromV d] :: X.map fun c => c.map J))[d + (3 + X.length)]? = some (b.map J) := by
        rw [get_app hD, show 3 + X.length = X.length - 1 + 4 by omega]
        simp only [List.getElem?_cons_succ, List.getElem?_map, hgl, Option.map_some]
      have hcmp := fun st (hst : st.store = D ++ ([obX d X] :: webC n w :: [.ifc 101 (.ptr d 0)] :: [fromV d] :: X.map fun c => c.map J)) => c48v (.lst g 1 (c.map J)) (.rsl (d + (3 + X.length)) 0 b.length b.length 1 false) (up c) (up b) (by rw [up_len]; omega) st (isL_lstJ st g c) (isL_rsl (by rw [hst]; exact gb) b.length)
      have hcmp1 := hcmp ⟨D ++ ([obX d X] :: webC n w :: [.ifc 101 (.ptr d 0)] :: [fromV d] :: X.map fun c => c.map J), T⟩ rfl
      have hlx := cmpN_lt (up c) (up b)
      rw [eo] at g0 gX hlen sX hcmp1
      by_cases p1 : c.length < b.length
      · have e : clS X c = X ++ [c] := by unfold clS; rw [if_pos (by rw [hbt, hl]; simp [p, p1])]
        have q1 : ((c.length : Int) < (b.length : Int)) = True := eq_true (by omega)
        rw [e, eo]
        simp only [ir145, go_sem, reduceIte, Nat.reduceEqDiff, Nat.reduceAdd, Nat.reduceSub, Nat.reduceLeDiff, Nat.reduceLT, reduceCtorEq, Int.reduceLT, Int.reduceLE, Int.reduceEq, Int.reduceBEq, Int.reduceSub, Int.reduceAdd, Int.reduceMul, Int.reduceNeg, Int.reduceToNat, Nat.reduceMul, Nat.reduceBEq, ht2, q, q1, g0, h58, shV, shVs_J, shStore, hlen, gX, sX, show pure 58 = false from rfl, List.length_map]
      · have q1 : ((c.length : Int) < (b.length : Int)) = False := eq_false (by omega)
        by_cases p2 : c.length = b.length
        · have q2 : ((c.length : Int) = (b.length : Int)) = True := eq_true (by omega)
          by_cases p3 : cmpN (up c) (up b) < 0
          · have hx3 : lexLt (up c) (up b) = true := by rw [← hlx]; exact decide_eq_true p3
            have e : clS X c = X ++ [c] := by unfold clS; rw [if_pos (by rw [hbt, hl]; simp [p2, hx3, show b.length % 2 = 1 by omega])]
            rw [e, eo]
            simp only [ir145, go_sem, reduceIte, Nat.reduceEqDiff, Nat.reduceAdd, Nat.reduceSub, Nat.reduceLeDiff, Nat.reduceLT, reduceCtorEq, Int.reduceLT, Int.reduceLE, Int.reduceEq, Int.reduceBEq, Int.reduceSub, Int.reduceAdd, Int.reduceMul, Int.reduceNeg, Int.reduceToNat, Nat.reduceMul, Nat.reduceBEq, ht2, q, q1, q2, p3, g0, hcmp1, h58, shV, shVs_J, shStore, hlen, gX, sX, show pure 58 = false from rfl, show pure 48 = false from rfl, List.length_map]
          · have hx3 : lexLt (up c) (up b) = false := by rw [← hlx]; exact decide_eq_false p3
            have e : clS X c = X := by unfold clS; rw [if_neg (by rw [hbt, hl]; simp [p2, hx3, show b.length % 2 = 1 by omega])]
            rw [e, eo]
            simp only [ir145, go_sem, reduceIte, Nat.reduceEqDiff, Nat.reduceAdd, Nat.reduceSub, Nat.reduceLeDiff, Nat.reduceLT, reduceCtorEq, Int.reduceLT, Int.reduceLE, Int.reduceEq, Int.reduceBEq, Int.reduceSub, Int.reduceAdd, Int.reduceMul, Int.reduceNeg, Int.reduceToNat, Nat.reduceMul, Nat.reduceBEq, ht2, q, q1, q2, p3, g0, hcmp1, show pure 48 = false from rfl, List.length_map]
        · have q2 : ((c.length : Int) = (b.length : Int)) = False := eq_false (by omega)
          have e : clS X c = X := by unfold clS; rw [if_neg (by rw [hbt, hl]; simp [p, p1, p2])]
          rw [e, eo]
          simp only [ir145, go_sem, reduceIte, Nat.reduceEqDiff, Nat.reduceAdd, Nat.reduceSub, Nat.reduceLeDiff, Nat.reduceLT, reduceCtorEq, Int.reduceLT, Int.reduceLE, Int.reduceEq, Int.reduceBEq, Int.reduceSub, Int.reduceAdd, Int.reduceMul, Int.reduceNeg, Int.reduceToNat, Nat.reduceMul, Nat.reduceBEq, ht2, q, q1, q2, g0, List.length_map]
  · have q : (((c.length % 2 : Nat) : Int) = 1) = False := eq_false (by omega)
    have e : clS X c = X := by unfold clS; rw [if_neg (by rw [hbt]; simp [p])]
    rw [e]
    simp only [ir145, go_sem, reduceIte, Nat.reduceEqDiff, Nat.reduceAdd, Nat.reduceSub, Nat.reduceLeDiff, Nat.reduceLT, reduceCtorEq, Int.reduceLT, Int.reduceLE, Int.reduceEq, Int.reduceBEq, Int.reduceSub, Int.reduceAdd, Int.reduceMul, Int.reduceNeg, Int.reduceToNat, Nat.reduceMul, Nat.reduceBEq, ht2, q, List.length_map]
theorem goalO_ok (d : Nat) (n : Int) (w : List Nat) : GoalOk goalO d n w where
  inv := rfl
  np := rfl
  vis := fun cs D T hD => visO d n w cs D T hD
  take := fun cs c g T D hD h1 h2 _ => c145 d n w cs c g T D hD h1 h2
  mono := fun cs cs' => by
    have := clL_mono cs cs'
    simp [layG, goalO]; omega

attribute [local go_sem] shaped_t cells_t isAgg_t storable_t okRef_t pub_t

theorem web_v (n : Int) (w : List Nat) : ∀ v ∈ webC n w, ∃ y, v = .v y := by
  intro v hv
  unfold webC at hv
  rcases List.mem_cons.1 hv with rfl | hv
  · exact ⟨_, rfl⟩
  · obtain ⟨k, _, rfl⟩ := List.mem_map.1 hv
    exact ⟨_, rfl⟩
/-! ### books ahead of the goal -/
theorem bk_vis (nl : Bool) (n : Int) (ps : List (Int × Int)) : visB (bkCells nl n ps) = true → ∀ v ∈ bkCells nl n ps, ∃ y, v = .v y := by
  intro h v hv
  unfold bkCells at h hv
  rcases List.mem_cons.1 hv with rfl | hv
  · exact ⟨_, rfl⟩
  · simp at hv; subst hv
    unfold sl at h ⊢
    split
    · exact ⟨_, rfl⟩
    · next hn => rw [if_neg hn] at h; simp [visB, noLs, noL] at h
theorem dk_cons {x : List AV} {D : List (List AV)} (h : visB x = true → ∀ v ∈ x, ∃ y, v = .v y) (hD : Dk D) : Dk (x :: D) := by
  intro y hy
  rcases List.mem_cons.1 hy with rfl | hy
  · exact h
  · exact hD y hy
theorem dk_nil : Dk [] := fun x hx => by simp at hx

/-! ### the first odd circle -/
def oddB (n : Nat) (w : List Nat) : Option (List Nat) := (clL (circL n w)).getLast?
theorem frz_odd {a0 a1 : List AV} {R : List (List AV)} {l : Nat} {b : List Nat} (hb : b ≠ []) (hl : 3 ≤ l) (hR : (a0 :: a1 :: [.rsl l 0 b.length b.length 1 false] :: R)[l]? = some (b.map J)) (T : List Nat) :
    ∃ S', S'[2]? = some [.lst .any 1 (b.map J)] ∧ ∀ env, frzL l env ⟨a0 :: a1 :: [.rsl l 0 b.length b.length 1 false] :: R, T⟩ = (frzEnv l (b.map J) env, ⟨S', T⟩) := by
  refine ⟨(frzStore l (b.map J) (a0 :: a1 :: [.rsl l 0 b.length b.length 1 false] :: R)).set l [], ?_, fun env => ?_⟩
  · rw [List.getElem?_set_ne (by omega)]
    simp only [frzStore, List.getElem?_cons_succ, List.getElem?_cons_zero, frzVs, frzV]
    rw [if_pos ⟨trivial, by simp, .inr trivial, Nat.le_refl _⟩, List.drop_zero, pubsJ, groupm_one J (fun _ => rfl)]
  · unfold frzL
    simp only
    rw [hR]
    cases b with
    | nil => exact absurd rfl hb
    | cons x r => rfl
theorem frzV_ifc (l : Nat) (cs : List AV) (t : TypeId) (x : AV) : frzV l cs (.ifc t x) = .ifc t x := by simp only [frzV]
theorem c75o (X : List (List Nat)) (S : List (List AV)) (T : List Nat) (h : S[2]? = some [obX 2 X]) : run L 75 [.ifc 101 (.ptr 2 0)] ⟨S, T⟩ = some (I (if X = [] then 0 else 1), ⟨S, T⟩) := by
  rw [run_shared (fn := ir75) rfl rfl]
  cases X with
  | nil =>
    have e : obX 2 [] = .v (.slice none 0 0) := rfl
    rw [e] at h
    simp only [ir75, go_sem, reduceIte, Nat.reduceEqDiff, Nat.reduceAdd, Nat.reduceSub, Nat.reduceLeDiff, Nat.reduceLT, reduceCtorEq, Int.reduceLT, Int.reduceLE, Int.reduceEq, Int.reduceBEq, Int.reduceSub, Int.reduceAdd, Int.reduceMul, Int.reduceNeg, Int.reduceToNat, Nat.reduceMul, Nat.reduceBEq, h]
  | cons a r =>
    have e : ∃ l m, obX 2 (a :: r) = .rsl l 0 m m 1 false := by
      unfold obX
      cases hl : (a :: r).getLast? with
      | none => simp at hl
      | some b => exact ⟨_, _, rfl⟩
    obtain ⟨l, m, e⟩ := e
    rw [e] at h
    rw [if_neg (by simp)]
    simp only [ir75, go_sem, reduceIte, Nat.reduceEqDiff, Nat.reduceAdd, Nat.reduceSub, Nat.reduceLeDiff, Nat.reduceLT, reduceCtorEq, Int.reduceLT, Int.reduceLE, Int.reduceEq, Int.reduceBEq, Int.reduceSub, Int.reduceAdd, Int.reduceMul, Int.reduceNeg, Int.reduceToNat, Nat.reduceMul, Nat.reduceBEq, h]

attribute [local go_sem] shaped_t cells_t isAgg_t storable_t okRef_t pub_t

/-- What Ring answers. -/
def ringV (n : Int) (ps : List (Int × Int)) : List Int := if chk n ps = 0 then (match oddB n.toNat (seeL 7 ps) with | some b => up b | none => []) else []
def ringE (n : Int) (ps : List (Int × Int)) : Int := if chk n ps = 0 then (match oddB n.toNat (seeL 7 ps) with | some _ => 0 | none => 13) else chk n ps

set_option maxHeartbeats 1000000 in
theorem c28 (nl : Bool) (n : Int) (ps : List (Int × Int)) (st : St) : run L 28 [bkAV nl n ps] st = some (.tup [tAV (ringV n ps), I (ringE n ps)], st) := by
  rw [run_pure (fn := ir28) rfl rfl]
  have h65 := fun st => c65 nl n ps st
  unfold ringV ringE
  by_cases h : chk n ps = 0
  · obtain ⟨h1, hl16, h3, h4, h5⟩ := chk_zero h
    obtain ⟨k, rfl⟩ := Int.eq_ofNat_of_zero_le (show 0 ≤ n by omega)
    have hw : wovL (k : Int) ps = seeL 7 ps := by unfold wovL; rw [if_pos h]
    rw [hw] at h65
    rw [if_pos h, if_pos h, Int.toNat_natCast]
    have hlw := lenW (k : Int) (seeL 7 ps)
    rw [seeL_len] at hlw
    have hpw := putW (k : Int) (seeL 7 ps) (seeL_len 7 ps)
    have htkw : (webC (k : Int) (seeL 7 ps)).take 8 = webC (k : Int) (seeL 7 ps) := List.take_of_length_le (by omega)
    have h74 := c74 goalO 2 k (by omega) (seeL 7 ps) (seeL_len 7 ps) (seeL_small 7 h4) (goalO_ok 2 k _) rfl [] [bkCells nl (k : Int) ps, webC (k : Int) (seeL 7 ps)] rfl (dk_cons (bk_vis nl _ ps) (dk_cons (fun _ => web_v _ _) dk_nil))
    have e0 : goalO.ob 2 [] = [.v (.slice none 0 0)] := rfl
    have e1 : goalO.tt = 101 := rfl
    have hodd := clL_odd (circL k (seeL 7 ps))
    rw [e0, e1, layO] at h74
    have h75 := c75o (clL (circL k (seeL 7 ps))) ([bkCells nl (k : Int) ps, webC (k : Int) (seeL 7 ps)] ++ ([obX 2 (clL (circL k (seeL 7 ps)))] :: webC (k : Int) (seeL 7 ps) :: [.ifc 101 (.ptr 2 0)] :: [fromV 2] :: (clL (circL k (seeL 7 ps))).map fun c => c.map J)) [] rfl
    have hO : oddB k (seeL 7 ps) = (clL (circL k (seeL 7 ps))).getLast? := rfl
    rw [hO]
    generalize clL (circL k (seeL 7 ps)) = X at *
    simp only [List.cons_append, List.nil_append] at h74 h75
    cases hl : X.getLast? with
    | none =>
      have hX : X = [] := by simpa using hl
      subst hX
      have eo : obX 2 [] = .v (.slice none 0 0) := rfl
      simp only [eo, List.map_nil, if_true] at h74 h75
      simp only [ir28, go_sem, reduceIte, Nat.reduceEqDiff, Nat.reduceAdd, Nat.reduceSub, Nat.reduceLeDiff, Nat.reduceLT, reduceCtorEq, Int.reduceLT, Int.reduceLE, Int.reduceEq, Int.reduceBEq, Int.reduceSub, Int.reduceAdd, Int.reduceMul, Int.reduceNeg, Int.reduceToNat, Nat.reduceMul, Nat.reduceBEq, h65, h, hlw, hpw, htkw, pubsW, storableW, h74, h75, show pure 74 = false from rfl, show pure 75 = false from rfl]
      rfl
    | some b =>
      have hX : X ≠ [] := by intro e; subst e; simp at hl
      have hpos : 0 < X.length := List.length_pos_iff.2 hX
      have hgl : X[X.length - 1]? = some b := by rw [← List.getLast?_eq_getElem?]; exact hl
      have hbne : b ≠ [] := by
        intro e
        have := hodd b (List.mem_of_getElem? hgl)
        rw [e] at this; simp at this
      have eo : obX 2 X = .rsl (2 + (3 + X.length)) 0 b.length b.length 1 false := by unfold obX; rw [hl]
      rw [eo] at h74 h75
      rw [if_neg hX] at h75
      have hgR : (bkCells nl (k : Int) ps :: webC (k : Int) (seeL 7 ps) :: [.rsl (2 + (3 + X.length)) 0 b.length b.length 1 false] :: (webC (k : Int) (seeL 7 ps) :: [.ifc 101 (.ptr 2 0)] :: [fromV 2] :: X.map fun c => c.map J))[2 + (3 + X.length)]? = some (b.map J) := by
        rw [show 2 + (3 + X.length) = X.length - 1 + 6 by omega]
        simp only [List.getElem?_cons_succ, List.getElem?_map, hgl, Option.map_some]
      obtain ⟨S', hS', hfz⟩ := frz_odd hbne (by omega) hgR []
      have et : tAV (up b) = .lst .any 1 (b.map J) := by
        unfold tAV; rw [up_J, sl_ne (by simpa using hbne)]
      simp only [et]
      simp only [ir28, go_sem, reduceIte, Nat.reduceEqDiff, Nat.reduceAdd, Nat.reduceSub, Nat.reduceLeDiff, Nat.reduceLT, reduceCtorEq, Int.reduceLT, Int.reduceLE, Int.reduceEq, Int.reduceBEq, Int.reduceSub, Int.reduceAdd, Int.reduceMul, Int.reduceNeg, Int.reduceToNat, Nat.reduceMul, Nat.reduceBEq, h65, h, hlw, hpw, htkw, pubsW, storableW, h74, h75, show pure 74 = false from rfl, show pure 75 = false from rfl, code_frz, frzAV, frzT, frzLs, rslsOf, hfz, frzEnv, frzV_v, frzV_ptr, frzV_sl, frzV_agg, frzV_tup, frzV_any, frzV_ifc, hS']
  · rw [if_neg h, if_neg h]
    have hl7 : (wovL n ps).length = 7 := by unfold wovL; rw [if_neg h]; simp
    have hlw := lenW n (wovL n ps)
    rw [hl7] at hlw
    have hpw := putW n (wovL n ps) hl7
    simp only [ir28, go_sem, reduceIte, Nat.reduceEqDiff, Nat.reduceAdd, Nat.reduceSub, Nat.reduceLeDiff, Nat.reduceLT, reduceCtorEq, Int.reduceLT, Int.reduceLE, Int.reduceEq, Int.reduceBEq, Int.reduceSub, Int.reduceAdd, Int.reduceMul, Int.reduceNeg, Int.reduceToNat, Nat.reduceMul, Nat.reduceBEq, h65, h, hlw, hpw, pubsW, storableW]
    rfl

attribute [local go_sem] shaped_t cells_t isAgg_t storable_t okRef_t pub_t

/-! ### the law's circles: a list of lists that grows, with a tip anywhere -/
def oA (c : List Nat) : AV := .lst .any 1 (c.map J)
def outOk (X : List (List Nat)) (a : AV) (T : List Nat) : Prop := (X = [] ∧ a = .v (.slice none 0 0)) ∨ (X ≠ [] ∧ ∃ t, a = .lst (.own t X.length) 1 (X.map oA) ∧ T[t]? = some X.length)
theorem outOk_app {X : List (List Nat)} {a : AV} {T : List Nat} (h : outOk X a T) (hl : X.length < 100000000) (c : List Nat) :
    ∃ a' T', (∀ S, appendAV 1 a [oA c] ⟨S, T⟩ = some (a', ⟨S, T'⟩)) ∧ outOk (X ++ [c]) a' T' := by
  have hm : X.length + 1 ≤ maxGrow := by unfold maxGrow; omega
  rcases h with ⟨rfl, rfl⟩ | ⟨hne, t, rfl, ht⟩
  · refine ⟨.lst (.own T.length 1) 1 [oA c], T ++ [1], fun S => ?_, .inr ⟨by simp, T.length, rfl, by simp⟩⟩
    simp [appendAV, maxGrow]
  · have hlt : t < T.length := (List.getElem?_eq_some_iff.1 ht).1
    refine ⟨.lst (.own t (X.length + 1)) 1 ((X ++ [c]).map oA), T.set t (X.length + 1), fun S => ?_, .inr ⟨by simp, t, by simp, by simp [hlt]⟩⟩
    simp [appendAV, hm, ht]
theorem outOk_ext {X : List (List Nat)} {a : AV} {T : List Nat} (h : outOk X a T) (m : Nat) : outOk X a (T ++ [m]) := by
  rcases h with h | ⟨hne, t, rfl, ht⟩
  · exact .inl h
  · refine .inr ⟨hne, t, rfl, ?_⟩
    rw [List.getElem?_append_left (List.getElem?_eq_some_iff.1 ht).1]; exact ht
theorem outOk_st {X : List (List Nat)} {a : AV} {T : List Nat} (h : outOk X a T) : a.shaped = true ∧ a.cells = [a] ∧ storable a = true := by
  rcases h with ⟨_, rfl⟩ | ⟨_, t, rfl, _⟩ <;> exact ⟨rfl, rfl, rfl⟩
def putV : AV := .fn (.func 85) [] [.ptr 1 0, .ptr 2 0, .ptr 0 0, .ptr 3 0]
/-- The words that a circle goes on with. -/
def goOn (v : Nat) (c : List Nat) (R : Nat → List (List Nat)) (y : Nat) : List (List Nat) := if v.testBit y = true ∧ y ∉ c then R y else []
theorem has_c57 (g : Tag) (c : List Nat) (hc : c.length ≤ 7) (x : Nat) (st : St) : run L 57 [.lst g 1 (c.map J), J x] st = some (B (decide (x ∈ c)), st) := by
  have := c57 false (up c) (by rw [up_len]; omega) (x : Int) st
  rw [up_J, ← sl_false] at this
  have e : decide (((x : Nat) : Int) ∈ up c) = decide (x ∈ c) := by
    rw [decide_eq_decide]
    unfold up
    rw [List.mem_map]
    constructor
    · rintro ⟨y, hy, e⟩
      obtain rfl : y = x := by omega
      exact hy
    · intro h; exact ⟨x, h, rfl⟩
  rw [e] at this
  rw [← this]
  exact run_args (fn := ir57) rfl rfl st rfl

set_option maxHeartbeats 1000000 in
theorem loop85_0 (nl : Bool) (n : Nat) (hn : n ≤ 7) (ps : List (Int × Int)) (w : List Nat) (c : List Nat) (hc1 : 1 ≤ c.length) (hc : c.length ≤ 7) (g : Tag) (v : Nat) (hv : v < 128) (R : Nat → List (List Nat)) (hR : ∀ x, (R x).length ≤ 6000000) (hrec : ∀ x, x < n → c.getD 0 0 < x → v.testBit x = true → x ∉ c → ∀ X a T g', outOk X a T → X.length + (R x).length < 100000000 → ∃ a' T', outOk (X ++ R x) a' T' ∧ run L 85 [.lst g' 1 ((c ++ [x]).map J), .ptr 1 0, .ptr 2 0, .ptr 0 0, .ptr 3 0] ⟨[bkCells nl (n : Int) ps, w.map J, [a], [putV]], T⟩ = some (.tup [], ⟨[bkCells nl (n : Int) ps, w.map J, [a'], [putV]], T'⟩)) (lo hi : Nat) (x : Nat) (X : List (List Nat)) (a : AV) (T : List Nat) (hok : c.getD 0 0 < x ∧ outOk X a T ∧ X.length + ((List.range' x (n - x)).flatMap (goOn v c R)).length < 100000000) (env : Env) (st : St)
    (hg : gcAV false lo hi (canon env [0, 3, 4, 6, 7]) st = ([(0, .lst g 1 (c.map J)), (3, .ptr 0 0), (4, .ptr 3 0), (6, J v), (7, I x)], ⟨[bkCells nl (n : Int) ps, w.map J, [a], [putV]], T⟩)) :
    ∃ x_1 en s, lim (headed pure (run L) false [0, 3, 4, 6, 7] lp85_0 lo hi) env st = some (x_1, en, s) ∧ (x_1 = .exit 0 ∧ ∃ a' T', outOk (X ++ (List.range' x (n - x)).flatMap (goOn v c R)) a' T' ∧ s = ⟨[bkCells nl (n : Int) ps, w.map J, [a'], [putV]], T'⟩) := by
  refine loop_wp (α := Nat × List (List Nat) × AV × List Nat) (fun ⟨x, X, a, T⟩ => n - x) (fun ⟨x, X, a, T⟩ => c.getD 0 0 < x ∧ outOk X a T ∧ X.length + ((List.range' x (n - x)).flatMap (goOn v c R)).length < 100000000) (fun ⟨x, X, a, T⟩ => ([(0, .lst g 1 (c.map J)), (3, .ptr 0 0), (4, .ptr 3 0), (6, J v), (7, I x)], ⟨[bkCells nl (n : Int) ps, w.map J, [a], [putV]], T⟩)) (fun ⟨x, X, a, T⟩ x_1 en s => x_1 = .exit 0 ∧ ∃ a' T', outOk (X ++ (List.range' x (n - x)).flatMap (goOn v c R)) a' T' ∧ s = ⟨[bkCells nl (n : Int) ps, w.map J, [a'], [putV]], T'⟩) (fun ⟨x, X, a, T⟩ hok => ?_) ⟨x, X, a, T⟩ hok env st hg
  simp only at hok
  obtain ⟨h0, h1, h2⟩ := hok
  dsimp only at h0 h1 h2 ⊢
  have hb0 : (bkCells nl (n : Int) ps)[0]? = some (I (n : Int)) := rfl
  have hbl : (bkCells nl (n : Int) ps).length = 2 := rfl
  by_cases h : x < n
  · have hs := succ64 x (by omega)
    have hlt : ((x : Int) < (n : Int)) = True := eq_true (by omega)
    have hr : List.range' x (n - x) = x :: List.range' (x + 1) (n - (x + 1)) := by
      rw [show n - x = (n - (x + 1)) + 1 by omega, List.range'_succ]
    rw [hr, List.flatMap_cons] at h2 ⊢
    rw [List.length_append] at h2
    rw [← List.append_assoc]
    have q1 := shr_i v x (by omega)
    have q2 := and_one_i (v >>> x) (by have := Nat.shiftRight_le v x; omega)
    have hb := bit_one v x
    have h57 := fun st => has_c57 g c hc x st
    have hgo : goOn v c R x = if v.testBit x = true ∧ x ∉ c then R x else [] := rfl
    by_cases p1 : v.testBit x = true
    · by_cases p2 : x ∈ c
      · rw [hgo, if_neg (fun hh => hh.2 p2)] at h2 ⊢
        rw [List.append_nil]
        simp only [go_sem, reduceIte, Nat.reduceEqDiff, Nat.reduceAdd, Nat.reduceSub, Nat.reduceLeDiff, Nat.reduceLT, reduceCtorEq, Int.reduceLT, Int.reduceLE, Int.reduceEq, Int.reduceBEq, Int.reduceSub, Int.reduceAdd, Int.reduceMul, Int.reduceNeg, Int.reduceToNat, Nat.reduceMul, Nat.reduceBEq, index_rsl_if, setm, make_ints, condK_dec, wantK_dec, not_dec, and_dec, or_dec, seqK_ite, seqK_none, blockK_ite, blockK_none, opsK_ite, opsK_none, stepK_ite, stepK_none, bodyK_ite, bodyK_none, resK_ite, resK_none, leaveK_ite, leaveK_none, only_ite, only_none, bind_ite, gives_some, gives_none, gives_ite, then_normal, then_ret, then_exit, then_none, then_ite, Option.bind_none, Bool.not_eq_true', decide_eq_false_iff_not, Bool.and_eq_true, Bool.or_eq_true, Option.some.injEq, Int.not_lt, Int.not_le, lp85_0, hb0, hbl, hlt, hs, q1, q2, hb, p1, p2, h57]
        refine ⟨(x + 1, X, a, T), by simp only [go_sem, reduceIte, Nat.reduceEqDiff, Nat.reduceAdd, Nat.reduceSub, Nat.reduceLeDiff, Nat.reduceLT, reduceCtorEq, Int.reduceLT, Int.reduceLE, Int.reduceEq, Int.reduceBEq, Int.reduceSub, Int.reduceAdd, Int.reduceMul, Int.reduceNeg, Int.reduceToNat, Nat.reduceMul, Nat.reduceBEq, ren1_locm, loc_tips, locT_eq] <;> rfl, ?_, ?_, fun x en s hq => ?_⟩
        · dsimp only; exact ⟨by omega, h1, by rw [List.length_nil] at h2; omega⟩
        · dsimp only; omega
        · exact hq
      · rw [hgo, if_pos ⟨p1, p2⟩] at h2 ⊢
        have hsl : sliceAV 1 (.lst g 1 (c.map J)) none (some (I (c.length : Int))) (some (I (c.length : Int))) = some (.lst .full 1 (c.map J)) := by
          simp [sliceAV, natOr, natOf, List.take_of_length_le]
        obtain ⟨g', T1, happ, htag⟩ := append_tag (g := .full) (c := c) (T := T) (.inl rfl) hc x
        have h1' : outOk X a T1 := by
          have e : T1 = T ++ [c.length + 1] := by
            have := happ []
            simp [appendAV, show c.length + 1 ≤ maxGrow by unfold maxGrow; omega] at this
            exact this.2.symm
          rw [e]; exact outOk_ext h1 _
        obtain ⟨a', T', ho, hcall⟩ := hrec x h h0 p1 p2 X a T1 g' h1' (by omega)
        simp only [List.map_append, List.map_cons, List.map_nil] at hcall happ
        have hpv : putV = .fn (.func 85) [] [.ptr 1 0, .ptr 2 0, .ptr 0 0, .ptr 3 0] := rfl
        simp only [hpv] at hcall
        simp only [go_sem, reduceIte, Nat.reduceEqDiff, Nat.reduceAdd, Nat.reduceSub, Nat.reduceLeDiff, Nat.reduceLT, reduceCtorEq, Int.reduceLT, Int.reduceLE, Int.reduceEq, Int.reduceBEq, Int.reduceSub, Int.reduceAdd, Int.reduceMul, Int.reduceNeg, Int.reduceToNat, Nat.reduceMul, Nat.reduceBEq, index_rsl_if, setm, make_ints, condK_dec, wantK_dec, not_dec, and_dec, or_dec, seqK_ite, seqK_none, blockK_ite, blockK_none, opsK_ite, opsK_none, stepK_ite, stepK_none, bodyK_ite, bodyK_none, resK_ite, resK_none, leaveK_ite, leaveK_none, only_ite, only_none, bind_ite, gives_some, gives_none, gives_ite, then_normal, then_ret, then_exit, then_none, then_ite, Option.bind_none, Bool.not_eq_true', decide_eq_false_iff_not, Bool.and_eq_true, Bool.or_eq_true, Option.some.injEq, Int.not_lt, Int.not_le, lp85_0, hb0, hbl, hlt, hs, q1, q2, hb, p1, p2, h57, hsl, happ, hcall, hpv, show pure 85 = false from rfl, List.length_map]
        refine ⟨(x + 1, X ++ R x, a', T'), by simp only [go_sem, reduceIte, Nat.reduceEqDiff, Nat.reduceAdd, Nat.reduceSub, Nat.reduceLeDiff, Nat.reduceLT, reduceCtorEq, Int.reduceLT, Int.reduceLE, Int.reduceEq, Int.reduceBEq, Int.reduceSub, Int.reduceAdd, Int.reduceMul, Int.reduceNeg, Int.reduceToNat, Nat.reduceMul, Nat.reduceBEq, ren1_locm, loc_tips, locT_eq] <;> rfl, ?_, ?_, fun x en s hq => ?_⟩
        · dsimp only; exact ⟨by omega, ho, by rw [List.length_append]; omega⟩
        · dsimp only; omega
        · exact hq
    · rw [hgo, if_neg (fun hh => p1 hh.1)] at h2 ⊢
      rw [List.append_nil]
      simp only [go_sem, reduceIte, Nat.reduceEqDiff, Nat.reduceAdd, Nat.reduceSub, Nat.reduceLeDiff, Nat.reduceLT, reduceCtorEq, Int.reduceLT, Int.reduceLE, Int.reduceEq, Int.reduceBEq, Int.reduceSub, Int.reduceAdd, Int.reduceMul, Int.reduceNeg, Int.reduceToNat, Nat.reduceMul, Nat.reduceBEq, index_rsl_if, setm, make_ints, condK_dec, wantK_dec, not_dec, and_dec, or_dec, seqK_ite, seqK_none, blockK_ite, blockK_none, opsK_ite, opsK_none, stepK_ite, stepK_none, bodyK_ite, bodyK_none, resK_ite, resK_none, leaveK_ite, leaveK_none, only_ite, only_none, bind_ite, gives_some, gives_none, gives_ite, then_normal, then_ret, then_exit, then_none, then_ite, Option.bind_none, Bool.not_eq_true', decide_eq_false_iff_not, Bool.and_eq_true, Bool.or_eq_true, Option.some.injEq, Int.not_lt, Int.not_le, lp85_0, hb0, hbl, hlt, hs, q1, q2, hb, p1]
      refine ⟨(x + 1, X, a, T), by simp only [go_sem, reduceIte, Nat.reduceEqDiff, Nat.reduceAdd, Nat.reduceSub, Nat.reduceLeDiff, Nat.reduceLT, reduceCtorEq, Int.reduceLT, Int.reduceLE, Int.reduceEq, Int.reduceBEq, Int.reduceSub, Int.reduceAdd, Int.reduceMul, Int.reduceNeg, Int.reduceToNat, Nat.reduceMul, Nat.reduceBEq, ren1_locm, loc_tips, locT_eq] <;> rfl, ?_, ?_, fun x en s hq => ?_⟩
      · dsimp only; exact ⟨by omega, h1, by rw [List.length_nil] at h2; omega⟩
      · dsimp only; omega
      · exact hq
  · have hr : n - x = 0 := by omega
    have hlt : ((x : Int) < (n : Int)) = False := eq_false (by omega)
    rw [hr]
    simp only [go_sem, reduceIte, Nat.reduceEqDiff, Nat.reduceAdd, Nat.reduceSub, Nat.reduceLeDiff, Nat.reduceLT, reduceCtorEq, Int.reduceLT, Int.reduceLE, Int.reduceEq, Int.reduceBEq, Int.reduceSub, Int.reduceAdd, Int.reduceMul, Int.reduceNeg, Int.reduceToNat, Nat.reduceMul, Nat.reduceBEq, index_rsl_if, setm, make_ints, condK_dec, wantK_dec, not_dec, and_dec, or_dec, seqK_ite, seqK_none, blockK_ite, blockK_none, opsK_ite, opsK_none, stepK_ite, stepK_none, bodyK_ite, bodyK_none, resK_ite, resK_none, leaveK_ite, leaveK_none, only_ite, only_none, bind_ite, gives_some, gives_none, gives_ite, then_normal, then_ret, then_exit, then_none, then_ite, Option.bind_none, Bool.not_eq_true', decide_eq_false_iff_not, Bool.and_eq_true, Bool.or_eq_true, Option.some.injEq, Int.not_lt, Int.not_le, lp85_0, hb0, hbl, hlt]
    exact ⟨a, T, by simpa using h1, rfl⟩

attribute [local go_sem] shaped_t cells_t isAgg_t storable_t okRef_t pub_t

theorem rg_len (w : List Nat) : ∀ (k : Nat) (c : List Nat) (free : Nat), (rg w k c free).length ≤ 8 ^ k
  | 0, c, _ => by unfold rg hdR; split <;> simp
  | k + 1, c, free => by
    have h1 : (hdR w c).length ≤ 1 := by unfold hdR; split <;> simp
    have hsum : ∀ l : List Nat, (l.flatMap fun x => rg w k (c ++ [x]) (dfN free (2 ^ x))).length ≤ l.length * 8 ^ k := by
      intro l
      induction l with
      | nil => simp
      | cons x r ih =>
        have := rg_len w k (c ++ [x]) (dfN free (2 ^ x))
        rw [List.flatMap_cons, List.length_append, List.length_cons, Nat.add_mul]
        omega
    have h2 := hsum (bitsL (w.getD (lastW c) 0 &&& free))
    have h3 := bits_len (w.getD (lastW c) 0 &&& free)
    have h4 : (bitsL (w.getD (lastW c) 0 &&& free)).length * 8 ^ k ≤ 7 * 8 ^ k := Nat.mul_le_mul_right _ h3
    have h5 : 1 ≤ 8 ^ k := Nat.one_le_pow _ _ (by omega)
    show (hdR w c ++ _).length ≤ _
    rw [List.length_append, Nat.pow_succ]
    omega
theorem filter_nil_of {α : Type} {p : α → Bool} {l : List α} (h : ∀ x ∈ l, p x = false) : l.filter p = [] := by
  rw [List.filter_eq_nil_iff]
  intro x hx
  rw [h x hx]; simp
/-- The bits of a set between two numbers. -/
theorem bits_range {m a n : Nat} (hn : n ≤ 7) (ha : a ≤ n) (h : ∀ y, m.testBit y = true → a ≤ y ∧ y < n) : bitsL m = (List.range' a (n - a)).filter m.testBit := by
  unfold bitsL
  have e : List.range 7 = List.range' 0 a ++ (List.range' a (n - a) ++ List.range' n (7 - n)) := by
    rw [List.range_eq_range']
    have e1 := List.range'_append (s := a) (m := n - a) (n := 7 - n) (step := 1)
    have e2 := List.range'_append (s := 0) (m := a) (n := n - a + (7 - n)) (step := 1)
    simp only [Nat.one_mul, Nat.zero_add] at e1 e2
    rw [show a + (n - a) = n by omega] at e1
    rw [e1, e2]
    congr 1
    omega
  rw [e, List.filter_append, List.filter_append, filter_nil_of (l := List.range' 0 a), filter_nil_of (l := List.range' n (7 - n)), List.append_nil, List.nil_append]
  · intro x hx
    rw [List.mem_range'_1] at hx
    cases hb : m.testBit x
    · rfl
    · have := h x hb; omega
  · intro x hx
    rw [List.mem_range'_1] at hx
    cases hb : m.testBit x
    · rfl
    · have := h x hb; omega
theorem flatMap_filter {α β : Type} (p : α → Bool) (f : α → List β) : ∀ l : List α, (l.filter p).flatMap f = l.flatMap fun x => if p x = true then f x else []
  | [] => rfl
  | x :: r => by
    rw [List.flatMap_cons, ← flatMap_filter p f r]
    cases h : p x
    · rw [List.filter_cons_of_neg (by simp [h])]; simp
    · rw [List.filter_cons_of_pos h, List.flatMap_cons]; simp
theorem flatMap_congr' {α β : Type} {f g : α → List β} : ∀ {l : List α}, (∀ x ∈ l, f x = g x) → l.flatMap f = l.flatMap g
  | [], _ => rfl
  | x :: r, h => by rw [List.flatMap_cons, List.flatMap_cons, h x (by simp), flatMap_congr' (fun y hy => h y (by simp [hy]))]
/-- The free words: those after the first one that do not lie on the circle. -/
def isFree (n : Nat) (c : List Nat) (free : Nat) : Prop := ∀ y, free.testBit y = true ↔ c.getD 0 0 < y ∧ y < n ∧ y ∉ c
theorem go_bits {n : Nat} (hn : n ≤ 7) {c : List Nat} {free : Nat} (hc : c.getD 0 0 < n) (hf : isFree n c free) (v : Nat) (R : Nat → List (List Nat)) :
    (List.range' (c.getD 0 0 + 1) (n - (c.getD 0 0 + 1))).flatMap (goOn v c R) = (bitsL (v &&& free)).flatMap R := by
  rw [bits_range hn (a := c.getD 0 0 + 1) (by omega) (fun y hy => by
    rw [Nat.testBit_and, Bool.and_eq_true] at hy
    have := (hf y).1 hy.2; omega), flatMap_filter]
  refine flatMap_congr' fun y hy => ?_
  rw [List.mem_range'_1] at hy
  unfold goOn
  have : (v &&& free).testBit y = true ↔ v.testBit y = true ∧ y ∉ c := by
    rw [Nat.testBit_and, Bool.and_eq_true, hf y]
    exact ⟨fun h => ⟨h.1, h.2.2.2⟩, fun h => ⟨h.1, by omega, by omega, h.2⟩⟩
  by_cases h : v.testBit y = true ∧ y ∉ c
  · rw [if_pos h, if_pos (this.2 h)]
  · rw [if_neg h, if_neg (fun h2 => h (this.1 h2))]
theorem free_snoc {n : Nat} {c : List Nat} {free x : Nat} (hf : isFree n c free) (hfl : free < 128) (hc : 1 ≤ c.length) (hx : free.testBit x = true) : isFree n (c ++ [x]) (dfN free (2 ^ x)) := by
  intro y
  have hx7 := bit_lt7 hfl hx
  have e : (c ++ [x]).getD 0 0 = c.getD 0 0 := by
    rw [List.getD_eq_getElem?_getD, List.getElem?_append_left (by omega), ← List.getD_eq_getElem?_getD]
  rw [dfN_bit (sh1_lt x hx7).2, Bool.and_eq_true, hf y, e, Bool.and_eq_true, decide_eq_true_iff, Bool.not_eq_true', Nat.testBit_two_pow, decide_eq_false_iff_not, List.mem_append, List.mem_singleton, not_or]
  constructor
  · rintro ⟨⟨h1, h2, h3⟩, h4, h5⟩; exact ⟨h1, h2, h3, fun h => h5 h.symm⟩
  · rintro ⟨h1, h2, h3, h4⟩
    exact ⟨⟨h1, h2, h3⟩, bit_lt7 hfl ((hf y).2 ⟨h1, h2, h3⟩), fun h => h4 h.symm⟩

set_option maxHeartbeats 1000000 in
theorem c85s (nl : Bool) (n : Nat) (hn : n ≤ 7) (ps : List (Int × Int)) (w : List Nat) (ho : w.length = 8) (hsm : ∀ x ∈ w, x < 128) (c : List Nat) (hc1 : 1 ≤ c.length) (hc : c.length ≤ 7) (hc7 : ∀ x ∈ c, x < n) (free : Nat) (hf : isFree n c free) (hfl : free < 128)
    (R : Nat → List (List Nat)) (hR : ∀ x, (R x).length ≤ 6000000)
    (hrec : ∀ x, free.testBit x = true → ∀ X a T g', outOk X a T → X.length + (R x).length < 100000000 → ∃ a' T', outOk (X ++ R x) a' T' ∧ run L 85 [.lst g' 1 ((c ++ [x]).map J), .ptr 1 0, .ptr 2 0, .ptr 0 0, .ptr 3 0] ⟨[bkCells nl (n : Int) ps, w.map J, [a], [putV]], T⟩ = some (.tup [], ⟨[bkCells nl (n : Int) ps, w.map J, [a'], [putV]], T'⟩))
    (X : List (List Nat)) (a : AV) (T : List Nat) (g : Tag) (ha : outOk X a T) (hl : X.length + (hdR w c ++ (bitsL (w.getD (lastW c) 0 &&& free)).flatMap R).length < 100000000) :
    ∃ a' T', outOk (X ++ (hdR w c ++ (bitsL (w.getD (lastW c) 0 &&& free)).flatMap R)) a' T' ∧ run L 85 [.lst g 1 (c.map J), .ptr 1 0, .ptr 2 0, .ptr 0 0, .ptr 3 0] ⟨[bkCells nl (n : Int) ps, w.map J, [a], [putV]], T⟩ = some (.tup [], ⟨[bkCells nl (n : Int) ps, w.map J, [a'], [putV]], T'⟩) := by
  rw [run_shared (fn := ir85) rfl rfl]
  have hl1 : IntKind.i64.wrap ((c.length : Int) - 1) = ((c.length - 1 : Nat) : Int) := by rw [wrap64] <;> omega
  have hx1 := index_lstJ g c (c.length - 1) (by omega)
  have hx0 := index_lstJ g c 0 (by omega)
  simp only [Int.natCast_zero] at hx0
  have hlw : c.getD (c.length - 1) 0 = lastW c := rfl
  have hl7 := getD_lt (c := c) (fun x hx => by have := hc7 x hx; omega) (c.length - 1) (by omega)
  have h07 : c.getD 0 0 < n := by
    rw [List.getD_eq_getElem?_getD, List.getElem?_eq_getElem (by omega)]
    exact hc7 _ (List.getElem_mem (by omega))
  rw [hlw] at hx1 hl7
  have b1 : ((0 : Int) ≤ (lastW c : Int)) = True := eq_true (by omega)
  have b2 : ((lastW c : Int) < 8) = True := eq_true (by omega)
  have b5 : (lastW c + 1 ≤ 8) = True := eq_true (by omega)
  have gw := getJ w (lastW c) (by omega)
  have hs0 := succ64 (c.getD 0 0) (by omega)
  have hv := small_getD hsm (lastW c)
  have q1 := shr_i (w.getD (lastW c) 0) (c.getD 0 0) (by omega)
  have q2 := and_one_i (w.getD (lastW c) 0 >>> c.getD 0 0) (by have := Nat.shiftRight_le (w.getD (lastW c) 0) (c.getD 0 0); omega)
  have hbit := bit_one (w.getD (lastW c) 0) (c.getD 0 0)
  have hdr : hdR w c = if 1 < c.length ∧ (w.getD (lastW c) 0).testBit (c.getD 0 0) = true then [c] else [] := rfl
  have hgb := go_bits hn h07 hf (w.getD (lastW c) 0) R
  have hrec' : ∀ x, x < n → c.getD 0 0 < x → (w.getD (lastW c) 0).testBit x = true → x ∉ c → ∀ X a T g', outOk X a T → X.length + (R x).length < 100000000 → ∃ a' T', outOk (X ++ R x) a' T' ∧ run L 85 [.lst g' 1 ((c ++ [x]).map J), .ptr 1 0, .ptr 2 0, .ptr 0 0, .ptr 3 0] ⟨[bkCells nl (n : Int) ps, w.map J, [a], [putV]], T⟩ = some (.tup [], ⟨[bkCells nl (n : Int) ps, w.map J, [a'], [putV]], T'⟩) :=
    fun x h1 h2 _ h4 => hrec x ((hf x).2 ⟨h2, h1, h4⟩)
  generalize w.getD (lastW c) 0 = v at *
  rw [List.length_append] at hl
  rw [← hgb] at hl ⊢
  by_cases p1 : 1 < c.length
  · have qq : ((1 : Int) < (c.length : Int)) = True := eq_true (by omega)
    by_cases p2 : v.testBit (c.getD 0 0) = true
    · rw [if_pos ⟨p1, p2⟩] at hdr
      rw [hdr] at hl ⊢
      rw [List.length_singleton] at hl
      obtain ⟨a1, T1, happ, hok1⟩ := outOk_app ha (by omega) c
      have ho : oA c = .lst .any 1 (c.map J) := rfl
      obtain ⟨z1, z2, z3⟩ := outOk_st hok1
      simp only [ho] at happ
      simp only [ir85, go_sem, reduceIte, Nat.reduceEqDiff, Nat.reduceAdd, Nat.reduceSub, Nat.reduceLeDiff, Nat.reduceLT, reduceCtorEq, Int.reduceLT, Int.reduceLE, Int.reduceEq, Int.reduceBEq, Int.reduceSub, Int.reduceAdd, Int.reduceMul, Int.reduceNeg, Int.reduceToNat, Nat.reduceMul, Nat.reduceBEq, hl1, hx1, hx0, b1, b2, b5, gw, q1, q2, hbit, p2, qq, hs0, happ, z1, z2, z3, ho, List.length_map]
      generalize hg : lim (headed pure (run L) false _ lp85_0 _ _) _ _ = o
      obtain ⟨x, en, s, rfl, h2⟩ : ∃ x en s, o = some (x, en, s) ∧ _ := by rw [← hg]; exact loop85_0 nl n hn ps w c hc1 hc g v hv R hR hrec' _ _ (c.getD 0 0 + 1) (X ++ [c]) a1 T1 ⟨by omega, hok1, by rw [List.length_append, List.length_singleton]; omega⟩ _ _ (by simp only [go_sem, reduceIte, Nat.reduceEqDiff, Nat.reduceAdd, Nat.reduceSub, Nat.reduceLeDiff, Nat.reduceLT, reduceCtorEq, Int.reduceLT, Int.reduceLE, Int.reduceEq, Int.reduceBEq, Int.reduceSub, Int.reduceAdd, Int.reduceMul, Int.reduceNeg, Int.reduceToNat, Nat.reduceMul, Nat.reduceBEq] <;> rfl)
      clear hg
      obtain ⟨rfl, a', T', hok', rfl⟩ := h2
      refine ⟨a', T', by simpa using hok', ?_⟩
      simp only [go_sem, reduceIte, Nat.reduceEqDiff, Nat.reduceAdd, Nat.reduceSub, Nat.reduceLeDiff, Nat.reduceLT, reduceCtorEq, Int.reduceLT, Int.reduceLE, Int.reduceEq, Int.reduceBEq, Int.reduceSub, Int.reduceAdd, Int.reduceMul, Int.reduceNeg, Int.reduceToNat, Nat.reduceMul, Nat.reduceBEq]
    · have p2' : (v.testBit (c.getD 0 0) = true) = False := eq_false p2
      rw [if_neg (fun h => p2 h.2)] at hdr
      rw [hdr] at hl ⊢
      rw [List.length_nil] at hl
      simp only [ir85, go_sem, reduceIte, Nat.reduceEqDiff, Nat.reduceAdd, Nat.reduceSub, Nat.reduceLeDiff, Nat.reduceLT, reduceCtorEq, Int.reduceLT, Int.reduceLE, Int.reduceEq, Int.reduceBEq, Int.reduceSub, Int.reduceAdd, Int.reduceMul, Int.reduceNeg, Int.reduceToNat, Nat.reduceMul, Nat.reduceBEq, hl1, hx1, hx0, b1, b2, b5, gw, q1, q2, hbit, p2', qq, hs0, List.length_map]
      generalize hg : lim (headed pure (run L) false _ lp85_0 _ _) _ _ = o
      obtain ⟨x, en, s, rfl, h2⟩ : ∃ x en s, o = some (x, en, s) ∧ _ := by rw [← hg]; exact loop85_0 nl n hn ps w c hc1 hc g v hv R hR hrec' _ _ (c.getD 0 0 + 1) X a T ⟨by omega, ha, by omega⟩ _ _ (by simp only [go_sem, reduceIte, Nat.reduceEqDiff, Nat.reduceAdd, Nat.reduceSub, Nat.reduceLeDiff, Nat.reduceLT, reduceCtorEq, Int.reduceLT, Int.reduceLE, Int.reduceEq, Int.reduceBEq, Int.reduceSub, Int.reduceAdd, Int.reduceMul, Int.reduceNeg, Int.reduceToNat, Nat.reduceMul, Nat.reduceBEq] <;> rfl)
      clear hg
      obtain ⟨rfl, a', T', hok', rfl⟩ := h2
      refine ⟨a', T', by simpa using hok', ?_⟩
      simp only [go_sem, reduceIte, Nat.reduceEqDiff, Nat.reduceAdd, Nat.reduceSub, Nat.reduceLeDiff, Nat.reduceLT, reduceCtorEq, Int.reduceLT, Int.reduceLE, Int.reduceEq, Int.reduceBEq, Int.reduceSub, Int.reduceAdd, Int.reduceMul, Int.reduceNeg, Int.reduceToNat, Nat.reduceMul, Nat.reduceBEq]
  · have qq : ((1 : Int) < (c.length : Int)) = False := eq_false (by omega)
    rw [if_neg (fun h => p1 h.1)] at hdr
    rw [hdr] at hl ⊢
    rw [List.length_nil] at hl
    simp only [ir85, go_sem, reduceIte, Nat.reduceEqDiff, Nat.reduceAdd, Nat.reduceSub, Nat.reduceLeDiff, Nat.reduceLT, reduceCtorEq, Int.reduceLT, Int.reduceLE, Int.reduceEq, Int.reduceBEq, Int.reduceSub, Int.reduceAdd, Int.reduceMul, Int.reduceNeg, Int.reduceToNat, Nat.reduceMul, Nat.reduceBEq, hl1, hx1, hx0, b1, b2, b5, gw, qq, hs0, List.length_map]
    generalize hg : lim (headed pure (run L) false _ lp85_0 _ _) _ _ = o
    obtain ⟨x, en, s, rfl, h2⟩ : ∃ x en s, o = some (x, en, s) ∧ _ := by rw [← hg]; exact loop85_0 nl n hn ps w c hc1 hc g v hv R hR hrec' _ _ (c.getD 0 0 + 1) X a T ⟨by omega, ha, by omega⟩ _ _ (by simp only [go_sem, reduceIte, Nat.reduceEqDiff, Nat.reduceAdd, Nat.reduceSub, Nat.reduceLeDiff, Nat.reduceLT, reduceCtorEq, Int.reduceLT, Int.reduceLE, Int.reduceEq, Int.reduceBEq, Int.reduceSub, Int.reduceAdd, Int.reduceMul, Int.reduceNeg, Int.reduceToNat, Nat.reduceMul, Nat.reduceBEq] <;> rfl)
    clear hg
    obtain ⟨rfl, a', T', hok', rfl⟩ := h2
    refine ⟨a', T', by simpa using hok', ?_⟩
    simp only [go_sem, reduceIte, Nat.reduceEqDiff, Nat.reduceAdd, Nat.reduceSub, Nat.reduceLeDiff, Nat.reduceLT, reduceCtorEq, Int.reduceLT, Int.reduceLE, Int.reduceEq, Int.reduceBEq, Int.reduceSub, Int.reduceAdd, Int.reduceMul, Int.reduceNeg, Int.reduceToNat, Nat.reduceMul, Nat.reduceBEq]
theorem c85 (nl : Bool) (n : Nat) (hn : n ≤ 7) (ps : List (Int × Int)) (w : List Nat) (ho : w.length = 8) (hsm : ∀ x ∈ w, x < 128) :
    ∀ (k : Nat) (c : List Nat) (free : Nat), k ≤ 7 → (bitsL free).length ≤ k → free < 128 → isFree n c free → 1 ≤ c.length → c.length + (bitsL free).length ≤ 7 → (∀ x ∈ c, x < n) →
      ∀ X a T g, outOk X a T → X.length + (rg w k c free).length < 100000000 → ∃ a' T', outOk (X ++ rg w k c free) a' T' ∧ run L 85 [.lst g 1 (c.map J), .ptr 1 0, .ptr 2 0, .ptr 0 0, .ptr 3 0] ⟨[bkCells nl (n : Int) ps, w.map J, [a], [putV]], T⟩ = some (.tup [], ⟨[bkCells nl (n : Int) ps, w.map J, [a'], [putV]], T'⟩) := by
  intro k
  induction k with
  | zero =>
    intro c free _ hk hfl hf h1 h7 hc X a T g ha hl
    have h0 := bits_nil hfl (by omega)
    subst h0
    have e : rg w 0 c 0 = hdR w c ++ (bitsL (w.getD (lastW c) 0 &&& 0)).flatMap fun _ => [] := by
      rw [Nat.and_zero, bits_zero, List.flatMap_nil, List.append_nil]; rfl
    rw [e] at hl ⊢
    exact c85s nl n hn ps w ho hsm c h1 (by omega) hc 0 hf hfl (fun _ => []) (fun _ => by simp) (fun x hx => by simp at hx) X a T g ha hl
  | succ k ih =>
    intro c free hk7 hk hfl hf h1 h7 hc X a T g ha hl
    refine c85s nl n hn ps w ho hsm c h1 (by omega) hc free hf hfl (fun x => rg w k (c ++ [x]) (dfN free (2 ^ x))) (fun x => ?_) (fun x hx X a T g' ha' hl' => ?_) X a T g ha hl
    · have h2 := rg_len w k (c ++ [x]) (dfN free (2 ^ x))
      have h3 : 8 ^ k ≤ 8 ^ 6 := Nat.pow_le_pow_right (by omega) (by omega)
      have h4 : 8 ^ 6 = 262144 := rfl
      omega
    · have hcard := df_card hfl hx
      have hx7 := bit_lt7 hfl hx
      have hxf := (hf x).1 hx
      exact ih (c ++ [x]) (dfN free (2 ^ x)) (by omega) (by omega) (dfN_lt hfl) (free_snoc hf hfl h1 hx) (by simp) (by simp; omega) (fun y hy => by
        rcases List.mem_append.1 hy with hy | hy
        · exact hc y hy
        · simp at hy; omega) X a T g' ha' hl'
theorem fr_free {n x : Nat} (hn : n ≤ 7) (hx : x < n) : isFree n [x] (frN n x) := by
  intro y
  rw [frN_bit hn hx, Bool.and_eq_true, decide_eq_true_iff, decide_eq_true_iff]
  show _ ↔ x < y ∧ y < n ∧ y ∉ [x]
  rw [List.mem_singleton]
  omega
/-- What is laid at the loop's head. -/
def ooA (X : List (List Nat)) : AV := loc 1 0 (X.map oA)
def ooT (X : List (List Nat)) : List Nat := locT 0 (X.map oA)
theorem ooA_ok (X : List (List Nat)) : outOk X (ooA X) (ooT X) := by
  by_cases h : X = []
  · subst h; exact .inl ⟨rfl, rfl⟩
  · have hl : (X.map oA).length ≠ 0 := by simpa using h
    right
    refine ⟨h, 0, ?_, ?_⟩
    · unfold ooA loc; rw [if_neg hl, List.length_map]
    · unfold ooT locT; rw [if_neg hl, List.length_map]; rfl
theorem outOk_ren {X : List (List Nat)} {a : AV} {T : List Nat} (h : outOk X a T) : ∃ q, ren1 0 T [] a = (ooA X, q) ∧ q.map (fun x => x.2) = ooT X := by
  rcases h with ⟨rfl, rfl⟩ | ⟨hne, t, rfl, ht⟩
  · exact ⟨[], rfl, rfl⟩
  · have hl : (X.map oA).length ≠ 0 := by simpa using hne
    refine ⟨[(t, X.length)], ?_, ?_⟩
    · rw [ren1_lown, if_neg (by omega), if_pos ⟨ht, rfl⟩]
      unfold ooA loc
      rw [if_neg hl]
      simp
    · unfold ooT locT
      rw [if_neg hl]; simp
theorem circ_len (n : Nat) (hn : n ≤ 7) (w : List Nat) : (circL n w).length ≤ 14680064 := by
  have : ∀ l : List Nat, (l.flatMap fun x => rg w 7 [x] (frN n x)).length ≤ l.length * 2097152 := by
    intro l
    induction l with
    | nil => simp
    | cons x r ih =>
      have h1 := rg_len w 7 [x] (frN n x)
      have h2 : 8 ^ 7 = 2097152 := rfl
      rw [List.flatMap_cons, List.length_append, List.length_cons, Nat.add_mul]
      omega
  have h := this (List.range' 0 n)
  rw [List.length_range'] at h
  unfold circL
  have : n * 2097152 ≤ 7 * 2097152 := Nat.mul_le_mul_right _ hn
  omega

theorem loop47_0 (nl : Bool) (n : Nat) (hn : n ≤ 7) (ps : List (Int × Int)) (w : List Nat) (ho : w.length = 8) (hsm : ∀ x ∈ w, x < 128) (x : Nat) (X : List (List Nat)) (hok : x ≤ n ∧ X.length + ((List.range' x (n - x)).flatMap fun x => rg w 7 [x] (frN n x)).length < 100000000) (env : Env) (st : St)
    (hg : gcAV true 4 0 (canon env [4, 5, 11, 12]) st = ([(4, .ptr 2 0), (5, .ptr 3 0), (11, I n), (12, I x)], ⟨[bkCells nl (n : Int) ps, w.map J, [ooA X], [putV]], ooT X⟩)) :
    ∃ x_1 en s, lim (headed pure (run L) true [4, 5, 11, 12] lp47_0 4 0) env st = some (x_1, en, s) ∧ (x_1 = .exit 0 ∧ en.get 4 = .ptr 2 0 ∧ ∃ a' T', outOk (X ++ (List.range' x (n - x)).flatMap fun x => rg w 7 [x] (frN n x)) a' T' ∧ s = ⟨[bkCells nl (n : Int) ps, w.map J, [a'], [putV]], T'⟩) := by
  refine loop_wp (α := Nat × List (List Nat)) (fun ⟨x, X⟩ => n - x) (fun ⟨x, X⟩ => x ≤ n ∧ X.length + ((List.range' x (n - x)).flatMap fun x => rg w 7 [x] (frN n x)).length < 100000000) (fun ⟨x, X⟩ => ([(4, .ptr 2 0), (5, .ptr 3 0), (11, I n), (12, I x)], ⟨[bkCells nl (n : Int) ps, w.map J, [ooA X], [putV]], ooT X⟩)) (fun ⟨x, X⟩ x_1 en s => x_1 = .exit 0 ∧ en.get 4 = .ptr 2 0 ∧ ∃ a' T', outOk (X ++ (List.range' x (n - x)).flatMap fun x => rg w 7 [x] (frN n x)) a' T' ∧ s = ⟨[bkCells nl (n : Int) ps, w.map J, [a'], [putV]], T'⟩) (fun ⟨x, X⟩ hok => ?_) ⟨x, X⟩ hok env st hg
  simp only at hok
  obtain ⟨h1, h2⟩ := hok
  dsimp only at h1 h2 ⊢
  by_cases h : x < n
  · have hs := succ64 x (by omega)
    have hlt : ((x : Int) < (n : Int)) = True := eq_true (by omega)
    have hr : List.range' x (n - x) = x :: List.range' (x + 1) (n - (x + 1)) := by
      rw [show n - x = (n - (x + 1)) + 1 by omega, List.range'_succ]
    rw [hr, List.flatMap_cons] at h2 ⊢
    rw [List.length_append] at h2
    rw [← List.append_assoc]
    have hcard := frN_card hn h
    obtain ⟨a', T', hok', hcall⟩ := c85 nl n hn ps w ho hsm 7 [x] (frN n x) (by omega) (by omega) (frN_lt hn) (fr_free hn h) (by simp) (by simp; omega) (by simp; omega) X (ooA X) (ooT X) .any (ooA_ok X) (by omega)
    have hpv : putV = .fn (.func 85) [] [.ptr 1 0, .ptr 2 0, .ptr 0 0, .ptr 3 0] := rfl
    obtain ⟨q, hq1, hq2⟩ := outOk_ren hok'
    have h56 := c56 (.lst .any 1 [J x]) ⟨[], []⟩
    have hor : okRef 4 a' = true := by
      rcases hok' with ⟨_, rfl⟩ | ⟨_, t, rfl, _⟩ <;> rfl
    simp only [List.map_cons, List.map_nil, hpv] at hcall
    generalize rg w 7 [x] (frN n x) = Y at *
    simp only [go_sem, reduceIte, Nat.reduceEqDiff, Nat.reduceAdd, Nat.reduceSub, Nat.reduceLeDiff, Nat.reduceLT, reduceCtorEq, Int.reduceLT, Int.reduceLE, Int.reduceEq, Int.reduceBEq, Int.reduceSub, Int.reduceAdd, Int.reduceMul, Int.reduceNeg, Int.reduceToNat, Nat.reduceMul, Nat.reduceBEq, index_rsl_if, setm, make_ints, condK_dec, wantK_dec, not_dec, and_dec, or_dec, seqK_ite, seqK_none, blockK_ite, blockK_none, opsK_ite, opsK_none, stepK_ite, stepK_none, bodyK_ite, bodyK_none, resK_ite, resK_none, leaveK_ite, leaveK_none, only_ite, only_none, bind_ite, gives_some, gives_none, gives_ite, then_normal, then_ret, then_exit, then_none, then_ite, Option.bind_none, Bool.not_eq_true', decide_eq_false_iff_not, Bool.and_eq_true, Bool.or_eq_true, Option.some.injEq, Int.not_lt, Int.not_le, lp47_0, hlt, hs, hpv, h56, shV, shStore, List.append_nil, hcall, show pure 56 = false from rfl, show pure 85 = false from rfl]
    refine ⟨(x + 1, X ++ Y), by simp only [go_sem, reduceIte, Nat.reduceEqDiff, Nat.reduceAdd, Nat.reduceSub, Nat.reduceLeDiff, Nat.reduceLT, reduceCtorEq, Int.reduceLT, Int.reduceLE, Int.reduceEq, Int.reduceBEq, Int.reduceSub, Int.reduceAdd, Int.reduceMul, Int.reduceNeg, Int.reduceToNat, Nat.reduceMul, Nat.reduceBEq, ren1_locm, loc_tips, locT_eq, okRefsJ, renCellsJ, hq1, hq2, hor, hpv] <;> rfl, ?_, ?_, fun x en s hq => ?_⟩
    · dsimp only; exact ⟨by omega, by rw [List.length_append]; omega⟩
    · dsimp only; omega
    · exact hq
  · have hr : n - x = 0 := by omega
    have hlt : ((x : Int) < (n : Int)) = False := eq_false (by omega)
    rw [hr]
    simp only [go_sem, reduceIte, Nat.reduceEqDiff, Nat.reduceAdd, Nat.reduceSub, Nat.reduceLeDiff, Nat.reduceLT, reduceCtorEq, Int.reduceLT, Int.reduceLE, Int.reduceEq, Int.reduceBEq, Int.reduceSub, Int.reduceAdd, Int.reduceMul, Int.reduceNeg, Int.reduceToNat, Nat.reduceMul, Nat.reduceBEq, index_rsl_if, setm, make_ints, condK_dec, wantK_dec, not_dec, and_dec, or_dec, seqK_ite, seqK_none, blockK_ite, blockK_none, opsK_ite, opsK_none, stepK_ite, stepK_none, bodyK_ite, bodyK_none, resK_ite, resK_none, leaveK_ite, leaveK_none, only_ite, only_none, bind_ite, gives_some, gives_none, gives_ite, then_normal, then_ret, then_exit, then_none, then_ite, Option.bind_none, Bool.not_eq_true', decide_eq_false_iff_not, Bool.and_eq_true, Bool.or_eq_true, Option.some.injEq, Int.not_lt, Int.not_le, lp47_0, hlt]
    exact ⟨ooA X, ooT X, by simpa using ooA_ok X, rfl⟩

attribute [local go_sem] shaped_t cells_t isAgg_t storable_t okRef_t pub_t

theorem rg_congr {w w' : List Nat} (h : ∀ a, w.getD a 0 = w'.getD a 0) : ∀ (k : Nat) (c : List Nat) (free : Nat), rg w k c free = rg w' k c free
  | 0, c, _ => by unfold rg hdR; rw [h]
  | k + 1, c, free => by
    show hdR w c ++ _ = hdR w' c ++ _
    have : hdR w c = hdR w' c := by unfold hdR; rw [h]
    rw [this, h]
    congr 1
    exact flatMap_congr' fun x _ => rg_congr h k _ _
theorem circL_congr {w w' : List Nat} (h : ∀ a, w.getD a 0 = w'.getD a 0) (n : Nat) : circL n w = circL n w' := by
  unfold circL
  exact flatMap_congr' fun x _ => rg_congr h 7 _ _
theorem rg_ne (w : List Nat) : ∀ (k : Nat) (c : List Nat) (free : Nat), ∀ x ∈ rg w k c free, 2 ≤ x.length
  | 0, c, _, x, hx => by
    unfold rg hdR at hx
    split at hx
    · next h => simp at hx; subst hx; omega
    · simp at hx
  | k + 1, c, free, x, hx => by
    have hx' : x ∈ hdR w c ++ (bitsL (w.getD (lastW c) 0 &&& free)).flatMap fun x => rg w k (c ++ [x]) (dfN free (2 ^ x)) := hx
    rcases List.mem_append.1 hx' with h | h
    · unfold hdR at h
      split at h
      · next h2 => simp at h; subst h; omega
      · simp at h
    · obtain ⟨y, _, h⟩ := List.mem_flatMap.1 h
      exact rg_ne w k _ _ x h
theorem circ_ne {n : Nat} {w : List Nat} : ∀ x ∈ circL n w, 2 ≤ x.length := by
  intro x hx
  obtain ⟨y, _, h⟩ := List.mem_flatMap.1 hx
  exact rg_ne w 7 _ _ x h
theorem oA_t {X : List (List Nat)} (h : ∀ x ∈ X, 2 ≤ x.length) : X.map oA = (X.map up).map tAV := by
  rw [List.map_map]
  refine List.map_congr_left fun c hc => ?_
  have := h c hc
  show oA c = tAV (up c)
  unfold oA tAV
  rw [up_J, sl_ne (by intro e; have : c = [] := by simpa using e
                      subst this; simp at this)]
theorem c47 (nl : Bool) (n : Nat) (ps : List (Int × Int)) (h : chk (n : Int) ps = 0) (st : St) : run L 47 [bkAV nl (n : Int) ps] st = some (sl 1 true (((circL n (seeL 7 ps)).map up).map tAV), st) := by
  rw [run_pure (fn := ir47) rfl rfl]
  obtain ⟨h1, hl16, h3, h4, h5⟩ := chk_zero h
  have h50 := fun st => c50 nl (n : Int) ps (by omega) h4 st
  have hpj := putJ (seeL 8 ps) (seeL_len 8 ps)
  have hlj := seeL_len 8 ps
  have hcl := circ_len n (by omega) (seeL 8 ps)
  have hcg := circL_congr (seeL_87 h4) n
  have hpv : putV = .fn (.func 85) [] [.ptr 1 0, .ptr 2 0, .ptr 0 0, .ptr 3 0] := rfl
  simp only [ir47, go_sem, reduceIte, Nat.reduceEqDiff, Nat.reduceAdd, Nat.reduceSub, Nat.reduceLeDiff, Nat.reduceLT, reduceCtorEq, Int.reduceLT, Int.reduceLE, Int.reduceEq, Int.reduceBEq, Int.reduceSub, Int.reduceAdd, Int.reduceMul, Int.reduceNeg, Int.reduceToNat, Nat.reduceMul, Nat.reduceBEq, h50, hpj, hlj, pubsJ, storableJ, List.length_map]
  generalize hg : lim (headed pure (run L) true _ lp47_0 _ _) _ _ = o
  obtain ⟨x, en, s, rfl, h2⟩ : ∃ x en s, o = some (x, en, s) ∧ _ := by rw [← hg]; exact loop47_0 nl n (by omega) ps (seeL 8 ps) (seeL_len 8 ps) (seeL_small 8 h4) 0 [] ⟨by omega, by rw [Nat.sub_zero]; unfold circL at hcl; simp only [List.length_nil]; omega⟩ _ _ (by simp only [go_sem, reduceIte, Nat.reduceEqDiff, Nat.reduceAdd, Nat.reduceSub, Nat.reduceLeDiff, Nat.reduceLT, reduceCtorEq, Int.reduceLT, Int.reduceLE, Int.reduceEq, Int.reduceBEq, Int.reduceSub, Int.reduceAdd, Int.reduceMul, Int.reduceNeg, Int.reduceToNat, Nat.reduceMul, Nat.reduceBEq, okRefsJ, renCellsJ, hpv, show ooA [] = .v (.slice none 0 0) from rfl, show ooT [] = [] from rfl, Int.natCast_zero] <;> rfl)
  clear hg
  rw [Nat.sub_zero, List.nil_append] at h2
  obtain ⟨rfl, e4, a', T', hok, rfl⟩ := h2
  have hcc : ((List.range' 0 n).flatMap fun x => rg (seeL 8 ps) 7 [x] (frN n x)) = circL n (seeL 8 ps) := rfl
  rw [hcc, hcg] at hok
  have hne := circ_ne (n := n) (w := seeL 7 ps)
  rw [← oA_t hne]
  generalize circL n (seeL 7 ps) = X at *
  rcases hok with ⟨rfl, rfl⟩ | ⟨hX, t, rfl, ht⟩
  · simp only [go_sem, reduceIte, Nat.reduceEqDiff, Nat.reduceAdd, Nat.reduceSub, Nat.reduceLeDiff, Nat.reduceLT, reduceCtorEq, Int.reduceLT, Int.reduceLE, Int.reduceEq, Int.reduceBEq, Int.reduceSub, Int.reduceAdd, Int.reduceMul, Int.reduceNeg, Int.reduceToNat, Nat.reduceMul, Nat.reduceBEq, e4]
    rfl
  · have : sl 1 true (X.map oA) = .lst .any 1 (X.map oA) := sl_ne (by simpa using hX)
    rw [this]
    simp only [go_sem, reduceIte, Nat.reduceEqDiff, Nat.reduceAdd, Nat.reduceSub, Nat.reduceLeDiff, Nat.reduceLT, reduceCtorEq, Int.reduceLT, Int.reduceLE, Int.reduceEq, Int.reduceBEq, Int.reduceSub, Int.reduceAdd, Int.reduceMul, Int.reduceNeg, Int.reduceToNat, Nat.reduceMul, Nat.reduceBEq, e4]

attribute [local go_sem] shaped_t cells_t isAgg_t storable_t okRef_t pub_t

def stO (o : Option (List Nat)) (c : List Nat) : Option (List Nat) := if better o c = true then some c else o
theorem odd_fold : ∀ (cs : List (List Nat)) (X : List (List Nat)), (cs.foldl clS X).getLast? = cs.foldl stO X.getLast?
  | [], _ => rfl
  | c :: r, X => by
    rw [List.foldl_cons, List.foldl_cons, odd_fold r]
    congr 1
    unfold clS stO
    split
    · rw [List.getLast?_concat]
    · rfl
theorem oddB_fold (n : Nat) (w : List Nat) : oddB n w = (circL n w).foldl stO none := odd_fold _ []
def ooL (o : Option (List Nat)) : List Int := match o with | none => [] | some b => up b
theorem eqnil_t (l : List Int) (i j : Nat) : binAV .eql (some 0) (tAV l) (.v (.slice none i j)) = some (B (decide (l = []))) := by
  unfold tAV; rw [eqnil_sl]; simp
theorem nenil_t (l : List Int) (i j : Nat) : binAV .neq (some 0) (tAV l) (.v (.slice none i j)) = some (B (!decide (l = []))) := by
  unfold tAV; rw [nenil_sl]; simp
theorem len_tAV (l : List Int) : lenAV (tAV l) = some (I l.length) := by unfold tAV; rw [len_sl, List.length_map]
theorem ren1_t' (n : Nat) (T : List Nat) (acc : List (Nat × Nat)) (l : List Int) : ren1 n T acc (tAV l) = (tAV l, acc) := ren1_sl _ _ _ _ _ _
/-- It is no list without words. -/
def oOk (o : Option (List Nat)) : Prop := ∀ b, o = some b → b ≠ [] ∧ b.length < 1000000

set_option maxHeartbeats 1000000 in
theorem loop7_0 (zs : List Int) (n : Int) (ps : List (Int × Int)) (C : List (List Int)) (X : List (List Nat)) (hX : ∀ c ∈ X, 2 ≤ c.length ∧ c.length < 1000000) (hXl : X.length < 100000000) (i : Nat) (o : Option (List Nat)) (hok : i ≤ X.length ∧ oOk o) (env : Env) (st : St)
    (hg : gcAV true 2 0 (canon env [3, 4, 5, 19, 20, 21]) st = ([(3, .ptr 1 0), (4, sl 1 true (C.map tAV)), (5, tAV (ooL o)), (19, sl 1 true ((X.map up).map tAV)), (20, I X.length), (21, I i)], ⟨[zs.map B8, bkCells true n ps], []⟩)) :
    ∃ x_1 en s, lim (headed pure (run L) true [3, 4, 5, 19, 20, 21] lp7_0 2 0) env st = some (x_1, en, s) ∧ (x_1 = .exit 0 ∧ en.get 3 = .ptr 1 0 ∧ en.get 4 = sl 1 true (C.map tAV) ∧ en.get 5 = tAV (ooL ((X.drop i).foldl stO o)) ∧ s = ⟨[zs.map B8, bkCells true n ps], []⟩) := by
  refine loop_wp (α := Nat × Option (List Nat)) (fun ⟨i, o⟩ => X.length - i) (fun ⟨i, o⟩ => i ≤ X.length ∧ oOk o) (fun ⟨i, o⟩ => ([(3, .ptr 1 0), (4, sl 1 true (C.map tAV)), (5, tAV (ooL o)), (19, sl 1 true ((X.map up).map tAV)), (20, I X.length), (21, I i)], ⟨[zs.map B8, bkCells true n ps], []⟩)) (fun ⟨i, o⟩ x_1 en s => x_1 = .exit 0 ∧ en.get 3 = .ptr 1 0 ∧ en.get 4 = sl 1 true (C.map tAV) ∧ en.get 5 = tAV (ooL ((X.drop i).foldl stO o)) ∧ s = ⟨[zs.map B8, bkCells true n ps], []⟩) (fun ⟨i, o⟩ hok => ?_) ⟨i, o⟩ hok env st hg
  simp only at hok
  obtain ⟨h1, h2⟩ := hok
  dsimp only at h1 h2 ⊢
  by_cases h : i < X.length
  · have hx := index_t true (X.map up) i (by simpa using h)
    rw [List.getElem_map] at hx
    have hs := wrap64 ((i : Int) + 1) (by omega) (by omega)
    have hlt : ((i : Int) < (X.length : Int)) = True := eq_true (by omega)
    have hd : X.drop i = X[i] :: X.drop (i + 1) := List.drop_eq_getElem_cons h
    obtain ⟨hc1, hc2⟩ := hX _ (List.getElem_mem h)
    rw [hd, List.foldl_cons]
    generalize X[i] = c at *
    have hcn : (I ((i : Int) + 1)) = I ((i + 1 : Nat) : Int) := rfl
    have ht2 : (c.length : Int).tmod 2 = ((c.length % 2 : Nat) : Int) := tmod_nat c.length 2
    have hlu := up_len c
    have hcne : c ≠ [] := by intro e; subst e; simp at hc1
    have hst : stO o c = if better o c = true then some c else o := rfl
    have hoc : oOk (some c) := fun b hb => by cases hb; exact ⟨hcne, hc2⟩
    by_cases p : c.length % 2 = 1
    · have q : (((c.length % 2 : Nat) : Int) = 1) = True := eq_true (by omega)
      cases o with
      | none =>
        have hb : better none c = true := by unfold better; simp [p]
        rw [hst, if_pos hb]
        have e0 : ooL none = [] := rfl
        rw [e0]
        simp only [go_sem, reduceIte, Nat.reduceEqDiff, Nat.reduceAdd, Nat.reduceSub, Nat.reduceLeDiff, Nat.reduceLT, reduceCtorEq, Int.reduceLT, Int.reduceLE, Int.reduceEq, Int.reduceBEq, Int.reduceSub, Int.reduceAdd, Int.reduceMul, Int.reduceNeg, Int.reduceToNat, Nat.reduceMul, Nat.reduceBEq, index_rsl_if, setm, make_ints, condK_dec, wantK_dec, not_dec, and_dec, or_dec, seqK_ite, seqK_none, blockK_ite, blockK_none, opsK_ite, opsK_none, stepK_ite, stepK_none, bodyK_ite, bodyK_none, resK_ite, resK_none, leaveK_ite, leaveK_none, only_ite, only_none, bind_ite, gives_some, gives_none, gives_ite, then_normal, then_ret, then_exit, then_none, then_ite, Option.bind_none, Bool.not_eq_true', decide_eq_false_iff_not, Bool.and_eq_true, Bool.or_eq_true, Option.some.injEq, Int.not_lt, Int.not_le, lp7_0, hx, hs, hlt, ht2, hlu, q, len_tAV, eqnil_t, List.length_map]
        refine ⟨(i + 1, some c), by simp only [go_sem, reduceIte, Nat.reduceEqDiff, Nat.reduceAdd, Nat.reduceSub, Nat.reduceLeDiff, Nat.reduceLT, reduceCtorEq, Int.reduceLT, Int.reduceLE, Int.reduceEq, Int.reduceBEq, Int.reduceSub, Int.reduceAdd, Int.reduceMul, Int.reduceNeg, Int.reduceToNat, Nat.reduceMul, Nat.reduceBEq, ren1_locm, loc_tips, locT_eq, ren1_t', okRefsB, renCellsB] <;> rfl, ?_, ?_, fun x en s hq => ?_⟩
        · dsimp only; exact ⟨by omega, hoc⟩
        · dsimp only; omega
        · exact hq
      | some b =>
        obtain ⟨hb1, hb2⟩ := h2 b rfl
        have e0 : ooL (some b) = up b := rfl
        have hub : (up b = []) = False := eq_false (by simpa [up] using hb1)
        have hlb := up_len b
        obtain ⟨h48, hlx⟩ := c48t (up c) (up b) (by omega)
        have hbt : better (some b) c = (decide (c.length % 2 = 1) && (decide (c.length < b.length) || (decide (c.length = b.length) && lexLt (up c) (up b)))) := rfl
        rw [hst, e0]
        by_cases p1 : c.length < b.length
        · have q1 : ((c.length : Int) < (b.length : Int)) = True := eq_true (by omega)
          rw [if_pos (by rw [hbt]; simp [p, p1])]
          simp only [go_sem, reduceIte, Nat.reduceEqDiff, Nat.reduceAdd, Nat.reduceSub, Nat.reduceLeDiff, Nat.reduceLT, reduceCtorEq, Int.reduceLT, Int.reduceLE, Int.reduceEq, Int.reduceBEq, Int.reduceSub, Int.reduceAdd, Int.reduceMul, Int.reduceNeg, Int.reduceToNat, Nat.reduceMul, Nat.reduceBEq, index_rsl_if, setm, make_ints, condK_dec, wantK_dec, not_dec, and_dec, or_dec, seqK_ite, seqK_none, blockK_ite, blockK_none, opsK_ite, opsK_none, stepK_ite, stepK_none, bodyK_ite, bodyK_none, resK_ite, resK_none, leaveK_ite, leaveK_none, only_ite, only_none, bind_ite, gives_some, gives_none, gives_ite, then_normal, then_ret, then_exit, then_none, then_ite, Option.bind_none, Bool.not_eq_true', decide_eq_false_iff_not, Bool.and_eq_true, Bool.or_eq_true, Option.some.injEq, Int.not_lt, Int.not_le, lp7_0, hx, hs, hlt, ht2, hlu, hlb, hub, q, q1, len_tAV, eqnil_t, List.length_map]
          refine ⟨(i + 1, some c), by simp only [go_sem, reduceIte, Nat.reduceEqDiff, Nat.reduceAdd, Nat.reduceSub, Nat.reduceLeDiff, Nat.reduceLT, reduceCtorEq, Int.reduceLT, Int.reduceLE, Int.reduceEq, Int.reduceBEq, Int.reduceSub, Int.reduceAdd, Int.reduceMul, Int.reduceNeg, Int.reduceToNat, Nat.reduceMul, Nat.reduceBEq, ren1_locm, loc_tips, locT_eq, ren1_t', okRefsB, renCellsB] <;> rfl, ?_, ?_, fun x en s hq => ?_⟩
          · dsimp only; exact ⟨by omega, hoc⟩
          · dsimp only; omega
          · exact hq
        · have q1 : ((c.length : Int) < (b.length : Int)) = False := eq_false (by omega)
          by_cases p2 : c.length = b.length
          · have q2 : ((c.length : Int) = (b.length : Int)) = True := eq_true (by omega)
            by_cases p3 : cmpN (up c) (up b) < 0
            · have hx3 : lexLt (up c) (up b) = true := by rw [← hlx]; exact decide_eq_true p3
              rw [if_pos (by rw [hbt]; simp [p2, hx3, show b.length % 2 = 1 by omega])]
              simp only [go_sem, reduceIte, Nat.reduceEqDiff, Nat.reduceAdd, Nat.reduceSub, Nat.reduceLeDiff, Nat.reduceLT, reduceCtorEq, Int.reduceLT, Int.reduceLE, Int.reduceEq, Int.reduceBEq, Int.reduceSub, Int.reduceAdd, Int.reduceMul, Int.reduceNeg, Int.reduceToNat, Nat.reduceMul, Nat.reduceBEq, index_rsl_if, setm, make_ints, condK_dec, wantK_dec, not_dec, and_dec, or_dec, seqK_ite, seqK_none, blockK_ite, blockK_none, opsK_ite, opsK_none, stepK_ite, stepK_none, bodyK_ite, bodyK_none, resK_ite, resK_none, leaveK_ite, leaveK_none, only_ite, only_none, bind_ite, gives_some, gives_none, gives_ite, then_normal, then_ret, then_exit, then_none, then_ite, Option.bind_none, Bool.not_eq_true', decide_eq_false_iff_not, Bool.and_eq_true, Bool.or_eq_true, Option.some.injEq, Int.not_lt, Int.not_le, lp7_0, hx, hs, hlt, ht2, hlu, hlb, hub, q, q1, q2, h48, p3, show pure 48 = false from rfl, len_tAV, eqnil_t, List.length_map]
              refine ⟨(i + 1, some c), by simp only [go_sem, reduceIte, Nat.reduceEqDiff, Nat.reduceAdd, Nat.reduceSub, Nat.reduceLeDiff, Nat.reduceLT, reduceCtorEq, Int.reduceLT, Int.reduceLE, Int.reduceEq, Int.reduceBEq, Int.reduceSub, Int.reduceAdd, Int.reduceMul, Int.reduceNeg, Int.reduceToNat, Nat.reduceMul, Nat.reduceBEq, ren1_locm, loc_tips, locT_eq, ren1_t', okRefsB, renCellsB] <;> rfl, ?_, ?_, fun x en s hq => ?_⟩
              · dsimp only; exact ⟨by omega, hoc⟩
              · dsimp only; omega
              · exact hq
            · have hx3 : lexLt (up c) (up b) = false := by rw [← hlx]; exact decide_eq_false p3
              rw [if_neg (by rw [hbt]; simp [p2, hx3, show b.length % 2 = 1 by omega])]
              simp only [go_sem, reduceIte, Nat.reduceEqDiff, Nat.reduceAdd, Nat.reduceSub, Nat.reduceLeDiff, Nat.reduceLT, reduceCtorEq, Int.reduceLT, Int.reduceLE, Int.reduceEq, Int.reduceBEq, Int.reduceSub, Int.reduceAdd, Int.reduceMul, Int.reduceNeg, Int.reduceToNat, Nat.reduceMul, Nat.reduceBEq, index_rsl_if, setm, make_ints, condK_dec, wantK_dec, not_dec, and_dec, or_dec, seqK_ite, seqK_none, blockK_ite, blockK_none, opsK_ite, opsK_none, stepK_ite, stepK_none, bodyK_ite, bodyK_none, resK_ite, resK_none, leaveK_ite, leaveK_none, only_ite, only_none, bind_ite, gives_some, gives_none, gives_ite, then_normal, then_ret, then_exit, then_none, then_ite, Option.bind_none, Bool.not_eq_true', decide_eq_false_iff_not, Bool.and_eq_true, Bool.or_eq_true, Option.some.injEq, Int.not_lt, Int.not_le, lp7_0, hx, hs, hlt, ht2, hlu, hlb, hub, q, q1, q2, h48, p3, show pure 48 = false from rfl, len_tAV, eqnil_t, List.length_map]
              refine ⟨(i + 1, some b), by simp only [go_sem, reduceIte, Nat.reduceEqDiff, Nat.reduceAdd, Nat.reduceSub, Nat.reduceLeDiff, Nat.reduceLT, reduceCtorEq, Int.reduceLT, Int.reduceLE, Int.reduceEq, Int.reduceBEq, Int.reduceSub, Int.reduceAdd, Int.reduceMul, Int.reduceNeg, Int.reduceToNat, Nat.reduceMul, Nat.reduceBEq, ren1_locm, loc_tips, locT_eq, ren1_t', okRefsB, renCellsB] <;> rfl, ?_, ?_, fun x en s hq => ?_⟩
              · dsimp only; exact ⟨by omega, h2⟩
              · dsimp only; omega
              · exact hq
          · have q2 : ((c.length : Int) = (b.length : Int)) = False := eq_false (by omega)
            rw [if_neg (by rw [hbt]; simp [p, p1, p2])]
            simp only [go_sem, reduceIte, Nat.reduceEqDiff, Nat.reduceAdd, Nat.reduceSub, Nat.reduceLeDiff, Nat.reduceLT, reduceCtorEq, Int.reduceLT, Int.reduceLE, Int.reduceEq, Int.reduceBEq, Int.reduceSub, Int.reduceAdd, Int.reduceMul, Int.reduceNeg, Int.reduceToNat, Nat.reduceMul, Nat.reduceBEq, index_rsl_if, setm, make_ints, condK_dec, wantK_dec, not_dec, and_dec, or_dec, seqK_ite, seqK_none, blockK_ite, blockK_none, opsK_ite, opsK_none, stepK_ite, stepK_none, bodyK_ite, bodyK_none, resK_ite, resK_none, leaveK_ite, leaveK_none, only_ite, only_none, bind_ite, gives_some, gives_none, gives_ite, then_normal, then_ret, then_exit, then_none, then_ite, Option.bind_none, Bool.not_eq_true', decide_eq_false_iff_not, Bool.and_eq_true, Bool.or_eq_true, Option.some.injEq, Int.not_lt, Int.not_le, lp7_0, hx, hs, hlt, ht2, hlu, hlb, hub, q, q1, q2, len_tAV, eqnil_t, List.length_map]
            refine ⟨(i + 1, some b), by simp only [go_sem, reduceIte, Nat.reduceEqDiff, Nat.reduceAdd, Nat.reduceSub, Nat.reduceLeDiff, Nat.reduceLT, reduceCtorEq, Int.reduceLT, Int.reduceLE, Int.reduceEq, Int.reduceBEq, Int.reduceSub, Int.reduceAdd, Int.reduceMul, Int.reduceNeg, Int.reduceToNat, Nat.reduceMul, Nat.reduceBEq, ren1_locm, loc_tips, locT_eq, ren1_t', okRefsB, renCellsB] <;> rfl, ?_, ?_, fun x en s hq => ?_⟩
            · dsimp only; exact ⟨by omega, h2⟩
            · dsimp only; omega
            · exact hq
    · have q : (((c.length % 2 : Nat) : Int) = 1) = False := eq_false (by omega)
      rw [hst, if_neg (by unfold better; simp [p])]
      simp only [go_sem, reduceIte, Nat.reduceEqDiff, Nat.reduceAdd, Nat.reduceSub, Nat.reduceLeDiff, Nat.reduceLT, reduceCtorEq, Int.reduceLT, Int.reduceLE, Int.reduceEq, Int.reduceBEq, Int.reduceSub, Int.reduceAdd, Int.reduceMul, Int.reduceNeg, Int.reduceToNat, Nat.reduceMul, Nat.reduceBEq, index_rsl_if, setm, make_ints, condK_dec, wantK_dec, not_dec, and_dec, or_dec, seqK_ite, seqK_none, blockK_ite, blockK_none, opsK_ite, opsK_none, stepK_ite, stepK_none, bodyK_ite, bodyK_none, resK_ite, resK_none, leaveK_ite, leaveK_none, only_ite, only_none, bind_ite, gives_some, gives_none, gives_ite, then_normal, then_ret, then_exit, then_none, then_ite, Option.bind_none, Bool.not_eq_true', decide_eq_false_iff_not, Bool.and_eq_true, Bool.or_eq_true, Option.some.injEq, Int.not_lt, Int.not_le, lp7_0, hx, hs, hlt, ht2, hlu, q, len_tAV, List.length_map]
      refine ⟨(i + 1, o), by simp only [go_sem, reduceIte, Nat.reduceEqDiff, Nat.reduceAdd, Nat.reduceSub, Nat.reduceLeDiff, Nat.reduceLT, reduceCtorEq, Int.reduceLT, Int.reduceLE, Int.reduceEq, Int.reduceBEq, Int.reduceSub, Int.reduceAdd, Int.reduceMul, Int.reduceNeg, Int.reduceToNat, Nat.reduceMul, Nat.reduceBEq, ren1_locm, loc_tips, locT_eq, ren1_t', okRefsB, renCellsB] <;> rfl, ?_, ?_, fun x en s hq => ?_⟩
      · dsimp only; exact ⟨by omega, h2⟩
      · dsimp only; omega
      · exact hq
  · have hd : X.drop i = [] := List.drop_eq_nil_of_le (by omega)
    have hlt : ((i : Int) < (X.length : Int)) = False := eq_false (by omega)
    rw [hd]
    simp only [go_sem, reduceIte, Nat.reduceEqDiff, Nat.reduceAdd, Nat.reduceSub, Nat.reduceLeDiff, Nat.reduceLT, reduceCtorEq, Int.reduceLT, Int.reduceLE, Int.reduceEq, Int.reduceBEq, Int.reduceSub, Int.reduceAdd, Int.reduceMul, Int.reduceNeg, Int.reduceToNat, Nat.reduceMul, Nat.reduceBEq, index_rsl_if, setm, make_ints, condK_dec, wantK_dec, not_dec, and_dec, or_dec, seqK_ite, seqK_none, blockK_ite, blockK_none, opsK_ite, opsK_none, stepK_ite, stepK_none, bodyK_ite, bodyK_none, resK_ite, resK_none, leaveK_ite, leaveK_none, only_ite, only_none, bind_ite, gives_some, gives_none, gives_ite, then_normal, then_ret, then_exit, then_none, then_ite, Option.bind_none, Bool.not_eq_true', decide_eq_false_iff_not, Bool.and_eq_true, Bool.or_eq_true, Option.some.injEq, Int.not_lt, Int.not_le, lp7_0, hlt]
    rfl


/-! ### ways and circles in a web -/
def Ch (J : Nat → Nat → Prop) : List Nat → Prop
  | [] => True
  | [_] => True
  | a :: b :: r => J a b ∧ Ch J (b :: r)
theorem ch_split {J : Nat → Nat → Prop} (x : Nat) (B : List Nat) : ∀ A : List Nat, Ch J (A ++ x :: B) ↔ Ch J (A ++ [x]) ∧ Ch J (x :: B)
  | [] => by simp [Ch]
  | [a] => by simp [Ch]
  | a :: b :: A => by
    have := ch_split (J := J) x B (b :: A)
    simp only [List.cons_append, Ch] at this ⊢
    rw [this, and_assoc]
/-- A circle, with words that may come again. -/
def Cyc (J : Nat → Nat → Prop) (c : List Nat) : Prop := ∃ x r, c = x :: r ∧ Ch J (c ++ [x])
theorem not_nodup : ∀ c : List Nat, ¬ c.Nodup → ∃ A x B C, c = A ++ x :: (B ++ x :: C)
  | [], h => absurd List.nodup_nil h
  | a :: r, h => by
    by_cases ha : a ∈ r
    · obtain ⟨B, C, rfl⟩ := List.append_of_mem ha
      exact ⟨[], a, B, C, rfl⟩
    · have : ¬ r.Nodup := fun hr => h (List.nodup_cons.2 ⟨ha, hr⟩)
      obtain ⟨A, x, B, C, rfl⟩ := not_nodup r this
      exact ⟨a :: A, x, B, C, rfl⟩
/-- An odd circle has an odd one in it, in which no word comes again. -/
theorem odd_in {J : Nat → Nat → Prop} {V : Nat → Prop} : ∀ (n : Nat) (c : List Nat), c.length = n → n % 2 = 1 → Cyc J c → (∀ x ∈ c, V x) → ∃ d, d.Nodup ∧ d.length % 2 = 1 ∧ Cyc J d ∧ ∀ x ∈ d, V x := by
  intro n
  induction n using Nat.strongRecOn with
  | ind n ih =>
    intro c hl ho hc hV
    by_cases hn : c.Nodup
    · exact ⟨c, hn, by omega, hc, hV⟩
    · obtain ⟨A, x, B, C, rfl⟩ := not_nodup c hn
      obtain ⟨y, r, e, hch⟩ := hc
      have hlen : (A ++ x :: (B ++ x :: C)).length = A.length + B.length + C.length + 2 := by simp; omega
      rw [hlen] at hl
      have e1 : A ++ x :: (B ++ x :: C) ++ [y] = A ++ x :: (B ++ x :: (C ++ [y])) := by simp
      rw [e1] at hch
      have h1 := (ch_split x (B ++ x :: (C ++ [y])) A).1 hch
      have e2 : x :: (B ++ x :: (C ++ [y])) = (x :: B) ++ x :: (C ++ [y]) := rfl
      have h2 := (ch_split x (C ++ [y]) (x :: B)).1 (by rw [← e2]; exact h1.2)
      have c1 : Cyc J (x :: B) := ⟨x, B, rfl, by simpa using h2.1⟩
      have c2 : Cyc J (A ++ x :: C) := by
        cases A with
        | nil =>
          have : x = y := by simp at e; exact e.1
          subst this
          exact ⟨x, C, rfl, by simpa using h2.2⟩
        | cons a A =>
          have : a = y := by simp at e; exact e.1
          subst this
          refine ⟨a, A ++ x :: C, rfl, ?_⟩
          have := (ch_split x (C ++ [a]) (a :: A)).2 ⟨h1.1, h2.2⟩
          simpa using this
      by_cases hp : (x :: B).length % 2 = 1
      · exact ih _ (by simp; omega) (x :: B) rfl hp c1 (fun z hz => hV z (by
          rcases List.mem_cons.1 hz with rfl | hz
          · simp
          · simp [hz]))
      · have hp2 : (A ++ x :: C).length % 2 = 1 := by simp at hp ⊢; omega
        exact ih _ (by simp; omega) (A ++ x :: C) rfl hp2 c2 (fun z hz => hV z (by
          rcases List.mem_append.1 hz with hz | hz
          · simp [hz]
          · rcases List.mem_cons.1 hz with rfl | hz
            · simp
            · simp [hz]))

/-- So many steps to a word. -/
inductive Wk (J : Nat → Nat → Prop) (V : Nat → Prop) (r : Nat) : Nat → Nat → Prop
  | zero : V r → Wk J V r 0 r
  | step {k s t : Nat} : V s → J s t → Wk J V r k t → Wk J V r (k + 1) s
theorem wk_list {J : Nat → Nat → Prop} {V : Nat → Prop} {r k s : Nat} (h : Wk J V r k s) : ∃ l : List Nat, l.length = k ∧ (∀ x ∈ l, V x) ∧ Ch J (l ++ [r]) ∧ ∃ q, l ++ [r] = s :: q := by
  induction h with
  | zero hv => exact ⟨[], rfl, by simp, by simp [Ch], [], rfl⟩
  | step hv hj _ ih =>
    rename_i k s t hk
    obtain ⟨l, h1, h2, h3, q, h4⟩ := ih
    refine ⟨s :: l, by simp [h1], fun x hx => ?_, ?_, l ++ [r], rfl⟩
    · rcases List.mem_cons.1 hx with rfl | hx
      · exact hv
      · exact h2 x hx
    · rw [List.cons_append, h4]
      rw [h4] at h3
      exact ⟨hj, h3⟩
theorem wk_in {J : Nat → Nat → Prop} {V : Nat → Prop} {r k s : Nat} (h : Wk J V r k s) : V s := by cases h <;> assumption
theorem wk_trans {J : Nat → Nat → Prop} {V : Nat → Prop} {r s k t m : Nat} (h : Wk J V s m t) (h2 : Wk J V r k s) : Wk J V r (m + k) t := by
  induction h with
  | zero _ => rw [Nat.zero_add]; exact h2
  | step hv hj _ ih => rw [Nat.add_right_comm]; exact .step hv hj ih
theorem exists_least {V : Nat → Prop} (f : Nat → Nat) (h : ∃ x, V x) : ∃ x, V x ∧ ∀ y, V y → f x ≤ f y := by
  obtain ⟨x, hx⟩ := h
  have key : ∀ n x, V x → f x = n → ∃ x, V x ∧ ∀ y, V y → f x ≤ f y := by
    intro n
    induction n using Nat.strongRecOn with
    | ind n ih =>
      intro x hx e
      by_cases hm : ∃ y, V y ∧ f y < f x
      · obtain ⟨y, hy, hlt⟩ := hm
        exact ih (f y) (by omega) y hy rfl
      · exact ⟨x, hx, fun y hy => by
          have : ¬ f y < f x := fun h => hm ⟨y, hy, h⟩
          omega⟩
  exact key _ x hx rfl
noncomputable def cntP (N : Nat) (p : Nat → Prop) : Nat := by
  classical
  exact ((List.range N).filter fun x => decide (p x)).length
theorem filter_len_le' {p q : Nat → Bool} : ∀ l : List Nat, (∀ x ∈ l, p x = true → q x = true) → (l.filter p).length ≤ (l.filter q).length
  | [], _ => by simp
  | a :: l, h => by
    have h1 := h a (by simp)
    have h2 := filter_len_le' l fun x hx => h x (by simp [hx])
    by_cases hp : p a = true
    · rw [List.filter_cons_of_pos hp, List.filter_cons_of_pos (h1 hp)]; simp; exact h2
    · rw [List.filter_cons_of_neg hp]
      by_cases hq : q a = true
      · rw [List.filter_cons_of_pos hq, List.length_cons]; omega
      · rw [List.filter_cons_of_neg hq]; exact h2
theorem filter_len_lt' {p q : Nat → Bool} : ∀ l : List Nat, (∀ x ∈ l, p x = true → q x = true) → (∃ x ∈ l, q x = true ∧ p x = false) → (l.filter p).length < (l.filter q).length
  | [], _, h => by obtain ⟨x, hx, _⟩ := h; simp at hx
  | a :: l, h, hex => by
    have h1 := h a (by simp)
    have h0 : ∀ x ∈ l, p x = true → q x = true := fun x hx => h x (by simp [hx])
    have h2 := filter_len_le' l h0
    by_cases hp : p a = true
    · obtain ⟨x, hx, hq, hpx⟩ := hex
      have hxl : x ∈ l := by
        rcases List.mem_cons.1 hx with rfl | hx
        · rw [hp] at hpx; simp at hpx
        · exact hx
      have := filter_len_lt' l h0 ⟨x, hxl, hq, hpx⟩
      rw [List.filter_cons_of_pos hp, List.filter_cons_of_pos (h1 hp)]; simp; exact this
    · rw [List.filter_cons_of_neg hp]
      by_cases hq : q a = true
      · rw [List.filter_cons_of_pos hq, List.length_cons]; omega
      · obtain ⟨x, hx, hqx, hpx⟩ := hex
        have hxl : x ∈ l := by
          rcases List.mem_cons.1 hx with rfl | hx
          · exact absurd hqx hq
          · exact hx
        rw [List.filter_cons_of_neg hq]
        exact filter_len_lt' l h0 ⟨x, hxl, hqx, hpx⟩
theorem cntP_lt {N : Nat} {p q : Nat → Prop} (h : ∀ x, p x → q x) (hex : ∃ x, x < N ∧ q x ∧ ¬ p x) : cntP N p < cntP N q := by
  classical
  unfold cntP
  obtain ⟨x, hx, hq, hp⟩ := hex
  apply filter_len_lt'
  · intro y _ hy
    exact decide_eq_true (h y (of_decide_eq_true hy))
  · exact ⟨x, List.mem_range.2 hx, decide_eq_true hq, decide_eq_false hp⟩

/-- A choice among the words of V. -/
def Kern (J : Nat → Nat → Prop) (V K : Nat → Prop) : Prop := (∀ x, K x → V x) ∧ ∀ x, V x → (K x ↔ ∀ y, K y → ¬ J x y)
/-- No odd circle: a choice. -/
theorem richardson {J : Nat → Nat → Prop} {N : Nat} : ∀ (n : Nat) (V : Nat → Prop), (∀ x, V x → x < N) → cntP N V = n → (∀ c : List Nat, c.Nodup → c.length % 2 = 1 → Cyc J c → (∀ x ∈ c, V x) → False) → ∃ K, Kern J V K := by
  intro n
  induction n using Nat.strongRecOn with
  | ind n ih =>
    intro V hV hn hodd
    by_cases hne : ∃ x, V x
    · -- the words from which the fewest can be come to
      obtain ⟨r, hr, hmin⟩ := exists_least (fun x => cntP N fun s => ∃ k, Wk J V s k x) hne
      let S : Nat → Prop := fun s => ∃ k, Wk J V s k r
      have hSV : ∀ s, S s → V s := by
        rintro s ⟨k, hk⟩
        cases k with
        | zero => cases hk; exact hr
        | succ k =>
          have : ∀ m t, Wk J V s m t → V s := by
            intro m t h
            induction h with
            | zero hv => exact hv
            | step _ _ _ ih => exact ih
          exact this _ _ hk
      have hback : ∀ s, S s → ∃ k, Wk J V r k s := by
        rintro s ⟨k, hk⟩
        apply Classical.byContradiction
        intro hno
        have hlt : cntP N (fun t => ∃ k, Wk J V t k s) < cntP N fun t => ∃ k, Wk J V t k r := by
          apply cntP_lt
          · rintro t ⟨m, hm⟩
            exact ⟨_, wk_trans hk hm⟩
          · exact ⟨r, hV r hr, ⟨0, .zero hr⟩, hno⟩
        have := hmin s (hSV s ⟨k, hk⟩)
        omega
      have hclosed : ∀ k, Wk J V r k r → k % 2 = 0 := by
        intro k hk
        apply Classical.byContradiction
        intro hko
        obtain ⟨l, h1, h2, h3, q, h4⟩ := wk_list hk
        have hl : l ≠ [] := by
          intro e; rw [e] at h1; simp at h1; omega
        obtain ⟨x, t, rfl⟩ := List.exists_cons_of_ne_nil hl
        have hx : x = r := by simp at h4; exact h4.1
        subst hx
        obtain ⟨d, d1, d2, d3, d4⟩ := odd_in _ (x :: t) rfl (by omega) ⟨x, t, rfl, h3⟩ h2
        exact hodd d d1 d2 d3 d4
      have hpar : ∀ s, S s → ∀ a b, Wk J V r a s → Wk J V r b s → a % 2 = b % 2 := by
        rintro s ⟨k, hk⟩ a b ha hb
        have h1 := hclosed _ (wk_trans hk ha)
        have h2 := hclosed _ (wk_trans hk hb)
        omega
      have hterm : ∀ s t, S s → V t → J s t → S t := by
        rintro s t ⟨k, hk⟩ ht hj
        exact ⟨_, wk_trans hk (.step (hSV s ⟨k, hk⟩) hj (.zero ht))⟩
      let K0 : Nat → Prop := fun s => S s ∧ ∃ k, k % 2 = 0 ∧ Wk J V r k s
      have hK0 : ∀ s, S s → (K0 s ↔ ∀ y, K0 y → ¬ J s y) := by
        intro s hs
        constructor
        · rintro ⟨_, k, hk0, hk⟩ y ⟨hy, m, hm0, hm⟩ hj
          have := hpar s hs k (m + 1) hk (.step (hSV s hs) hj hm)
          omega
        · intro h
          obtain ⟨k, hk⟩ := hback s hs
          by_cases hk0 : k % 2 = 0
          · exact ⟨hs, k, hk0, hk⟩
          · exfalso
            cases hk with
            | zero _ => omega
            | step hv hj hw =>
              rename_i k t
              exact h t ⟨hterm s t hs (wk_in hw) hj, k, by omega, hw⟩ hj
      have hrS : S r := ⟨0, .zero hr⟩
      let V' : Nat → Prop := fun x => V x ∧ ¬ S x ∧ ∀ s, K0 s → ¬ J x s
      obtain ⟨K', hK1, hK2⟩ := ih (cntP N V') (by
        rw [← hn]
        apply cntP_lt
        · exact fun x hx => hx.1
        · exact ⟨r, hV r hr, hr, fun h => h.2.1 hrS⟩) V' (fun x hx => hV x hx.1) rfl (fun c h1 h2 h3 h4 => hodd c h1 h2 h3 fun x hx => (h4 x hx).1)
      refine ⟨fun x => K0 x ∨ K' x, fun x hx => ?_, fun x hx => ?_⟩
      · rcases hx with h | h
        · exact hSV x h.1
        · exact (hK1 x h).1
      · constructor
        · rintro (h | h) y (hy | hy) hj
          · exact (hK0 x h.1).1 h y hy hj
          · exact (hK1 y hy).2.1 (hterm x y h.1 (hK1 y hy).1 hj)
          · exact (hK1 x h).2.2 y hy hj
          · exact (hK2 x (hK1 x h)).1 h y hy hj
        · intro h
          by_cases hs : S x
          · exact .inl ((hK0 x hs).2 fun y hy => h y (.inl hy))
          · exact .inr ((hK2 x ⟨hx, hs, fun s hs2 => h s (.inl hs2)⟩).2 fun y hy => h y (.inr hy))
    · exact ⟨fun _ => False, fun x h => h.elim, fun x hx => (hne ⟨x, hx⟩).elim⟩


/-! ### which lists are circles -/
/-- A word sees another one. -/
def Jw (w : List Nat) (a b : Nat) : Prop := (w.getD a 0).testBit b = true
theorem lastW_snoc (c : List Nat) (x : Nat) : lastW (c ++ [x]) = x := by
  unfold lastW
  rw [List.length_append, List.length_singleton, Nat.add_sub_cancel, List.getD_eq_getElem?_getD, List.getElem?_append_right (by omega)]
  simp
theorem ch_snoc {J : Nat → Nat → Prop} (x : Nat) : ∀ c : List Nat, c ≠ [] → (Ch J (c ++ [x]) ↔ Ch J c ∧ J (lastW c) x)
  | [], h => absurd rfl h
  | [a], _ => by simp [Ch, lastW]
  | a :: b :: r, _ => by
    have := ch_snoc (J := J) x (b :: r) (by simp)
    have e : lastW (a :: b :: r) = lastW (b :: r) := by simp [lastW]
    rw [e]
    simp only [List.cons_append, Ch] at this ⊢
    rw [this, and_assoc]
theorem mem_hdR {w : List Nat} {c x : List Nat} : x ∈ hdR w c ↔ x = c ∧ 1 < c.length ∧ Jw w (lastW c) (c.getD 0 0) := by
  unfold hdR Jw
  split
  · next h => simp only [List.mem_singleton]; exact ⟨fun e => ⟨e, h⟩, fun e => e.1⟩
  · next h => simp only [List.not_mem_nil, false_iff]; exact fun e => h e.2
/-- What is found from some words on. -/
theorem rg_iff (w : List Nat) : ∀ (k : Nat) (c : List Nat) (free : Nat), (bitsL free).length ≤ k → free < 128 → c ≠ [] → ∀ x, x ∈ rg w k c free ↔ ∃ s, x = c ++ s ∧ Ch (Jw w) (lastW c :: s) ∧ (∀ y ∈ s, free.testBit y = true) ∧ s.Nodup ∧ 1 < x.length ∧ Jw w (lastW x) (x.getD 0 0) := by
  have head : ∀ (c x : List Nat), (x ∈ hdR w c ↔ ∃ s, s = [] ∧ x = c ++ s ∧ 1 < x.length ∧ Jw w (lastW x) (x.getD 0 0)) := by
    intro c x
    rw [mem_hdR]
    constructor
    · rintro ⟨rfl, h1, h2⟩; exact ⟨[], rfl, by simp, h1, h2⟩
    · rintro ⟨s, rfl, e, h1, h2⟩
      rw [List.append_nil] at e; subst e
      exact ⟨rfl, h1, h2⟩
  intro k
  induction k with
  | zero =>
    intro c free hk hf hc x
    have h0 := bits_nil hf (by omega)
    subst h0
    show x ∈ hdR w c ↔ _
    rw [head]
    constructor
    · rintro ⟨s, rfl, e, h1, h2⟩; exact ⟨[], e, trivial, by simp, List.nodup_nil, h1, h2⟩
    · rintro ⟨s, e, _, h3, _, h1, h2⟩
      have : s = [] := by
        cases s with
        | nil => rfl
        | cons y r => have := h3 y (by simp); simp at this
      exact ⟨s, this, e, h1, h2⟩
  | succ k ih =>
    intro c free hk hf hc x
    show x ∈ hdR w c ++ _ ↔ _
    rw [List.mem_append, head, List.mem_flatMap]
    have hlt : w.getD (lastW c) 0 &&& free < 128 := Nat.lt_of_le_of_lt Nat.and_le_right hf
    constructor
    · rintro (⟨s, rfl, e, h1, h2⟩ | ⟨y, hy, hx⟩)
      · exact ⟨[], e, trivial, by simp, List.nodup_nil, h1, h2⟩
      · rw [bits_mem hlt, Nat.testBit_and, Bool.and_eq_true] at hy
        have hcard := df_card hf hy.2
        have hy7 := bit_lt7 hf hy.2
        obtain ⟨s, e, h1, h2, h3, h4, h5⟩ := (ih (c ++ [y]) (dfN free (2 ^ y)) (by omega) (dfN_lt hf) (by simp) x).1 hx
        rw [lastW_snoc] at h1
        have h2' : ∀ z ∈ s, free.testBit z = true ∧ z ≠ y := fun z hz => by
          have := h2 z hz
          rw [dfN_bit (sh1_lt y hy7).2, Bool.and_eq_true, Bool.and_eq_true, Bool.not_eq_true', Nat.testBit_two_pow, decide_eq_false_iff_not] at this
          exact ⟨this.1, fun e => this.2.2 e.symm⟩
        refine ⟨y :: s, by rw [e]; simp, ⟨hy.1, h1⟩, fun z hz => ?_, List.nodup_cons.2 ⟨fun hm => (h2' y hm).2 rfl, h3⟩, h4, h5⟩
        rcases List.mem_cons.1 hz with rfl | hz
        · exact hy.2
        · exact (h2' z hz).1
    · rintro ⟨s, e, h1, h2, h3, h4, h5⟩
      cases s with
      | nil => exact .inl ⟨[], rfl, e, h4, h5⟩
      | cons y s =>
        right
        have hy := h2 y (by simp)
        have hy7 := bit_lt7 hf hy
        have hcard := df_card hf hy
        rw [List.nodup_cons] at h3
        refine ⟨y, (bits_mem hlt y).2 (by rw [Nat.testBit_and, Bool.and_eq_true]; exact ⟨h1.1, hy⟩), (ih (c ++ [y]) (dfN free (2 ^ y)) (by omega) (dfN_lt hf) (by simp) x).2 ⟨s, by rw [e]; simp, by rw [lastW_snoc]; exact h1.2, fun z hz => ?_, h3.2, h4, h5⟩⟩
        rw [dfN_bit (sh1_lt y hy7).2, Bool.and_eq_true, Bool.and_eq_true, Bool.not_eq_true', Nat.testBit_two_pow, decide_eq_false_iff_not]
        have hz2 := h2 z (by simp [hz])
        exact ⟨hz2, decide_eq_true (bit_lt7 hf hz2), fun e => h3.1 (by rw [e]; exact hz)⟩
/-- A circle whose first word is its smallest one. -/
theorem circ_iff {n : Nat} (hn : n ≤ 7) (w : List Nat) (x : List Nat) : x ∈ circL n w ↔ ∃ a s, x = a :: s ∧ a < n ∧ (∀ y ∈ s, a < y ∧ y < n) ∧ x.Nodup ∧ 1 < x.length ∧ Ch (Jw w) x ∧ Jw w (lastW x) a := by
  unfold circL
  rw [List.mem_flatMap]
  constructor
  · rintro ⟨a, ha, hx⟩
    rw [List.mem_range'_1] at ha
    have hcard := frN_card hn (show a < n by omega)
    obtain ⟨s, e, h1, h2, h3, h4, h5⟩ := (rg_iff w 7 [a] (frN n a) (by omega) (frN_lt hn) (by simp) x).1 hx
    have h2' : ∀ y ∈ s, a < y ∧ y < n := fun y hy => by
      have := h2 y hy
      rw [frN_bit hn (by omega), Bool.and_eq_true, decide_eq_true_iff, decide_eq_true_iff] at this
      omega
    subst e
    refine ⟨a, s, rfl, by omega, h2', List.nodup_cons.2 ⟨fun hm => by have := h2' a hm; omega, h3⟩, h4, h1, h5⟩
  · rintro ⟨a, s, rfl, ha, h2, h3, h4, h5, h6⟩
    have hcard := frN_card hn ha
    refine ⟨a, by rw [List.mem_range'_1]; omega, (rg_iff w 7 [a] (frN n a) (by omega) (frN_lt hn) (by simp) _).2 ⟨s, rfl, h5, fun y hy => ?_, (List.nodup_cons.1 h3).2, h4, h6⟩⟩
    rw [frN_bit hn ha, Bool.and_eq_true, decide_eq_true_iff, decide_eq_true_iff]
    have := h2 y hy; omega
/-- A circle from another word on. -/
theorem cyc_rot {J : Nat → Nat → Prop} {A B : List Nat} {m : Nat} (h : Cyc J (A ++ m :: B)) : Cyc J (m :: (B ++ A)) := by
  obtain ⟨x, r, e, hc⟩ := h
  cases A with
  | nil =>
    simp only [List.nil_append, List.cons.injEq] at e
    obtain ⟨rfl, rfl⟩ := e
    exact ⟨m, B, by simp, by simpa using hc⟩
  | cons a A =>
    simp only [List.cons_append, List.cons.injEq] at e
    obtain ⟨rfl, rfl⟩ := e
    refine ⟨m, B ++ a :: A, rfl, ?_⟩
    have e1 : a :: A ++ m :: B ++ [a] = (a :: A) ++ m :: (B ++ [a]) := by simp
    rw [e1] at hc
    have h1 := (ch_split m (B ++ [a]) (a :: A)).1 hc
    have e2 : m :: (B ++ a :: A) ++ [m] = (m :: B) ++ a :: (A ++ [m]) := by simp
    rw [e2]
    exact (ch_split a (A ++ [m]) (m :: B)).2 ⟨by simpa using h1.2, by simpa using h1.1⟩
theorem min_split : ∀ c : List Nat, c ≠ [] → ∃ A m B, c = A ++ m :: B ∧ ∀ y ∈ c, m ≤ y
  | [], h => absurd rfl h
  | [a], _ => ⟨[], a, [], rfl, by simp⟩
  | a :: b :: r, _ => by
    obtain ⟨A, m, B, e, h⟩ := min_split (b :: r) (by simp)
    by_cases hm : a ≤ m
    · exact ⟨[], a, b :: r, rfl, fun y hy => by
        rcases List.mem_cons.1 hy with rfl | hy
        · omega
        · have := h y hy; omega⟩
    · refine ⟨a :: A, m, B, by rw [e]; rfl, fun y hy => ?_⟩
      rcases List.mem_cons.1 hy with rfl | hy
      · omega
      · exact h y hy
/-- Each circle is found, from its smallest word on. -/
theorem circ_of {n : Nat} (hn : n ≤ 7) {w : List Nat} {c : List Nat} (h1 : c.Nodup) (h2 : 1 < c.length) (h3 : Cyc (Jw w) c) (h4 : ∀ x ∈ c, x < n) : ∃ A m B, c = A ++ m :: B ∧ m :: (B ++ A) ∈ circL n w := by
  obtain ⟨A, m, B, e, hm⟩ := min_split c (by intro e; rw [e] at h2; simp at h2)
  refine ⟨A, m, B, e, (circ_iff hn w _).2 ⟨m, B ++ A, rfl, h4 m (by rw [e]; simp), fun y hy => ?_, ?_, ?_, ?_⟩⟩
  · have hy2 : y ∈ c := by rw [e]; simp only [List.mem_append, List.mem_cons] at hy ⊢; exact hy.elim (fun h => .inr (.inr h)) .inl
    have := hm y hy2
    have hne : y ≠ m := by
      rintro rfl
      rw [e, List.nodup_append, List.nodup_cons] at h1
      rcases List.mem_append.1 hy with hy | hy
      · exact h1.2.1.1 hy
      · exact h1.2.2 y hy y (by simp) rfl
    exact ⟨by omega, h4 y hy2⟩
  · have hp : (m :: (B ++ A)).Perm c := by
      rw [e]
      exact (List.perm_append_comm (l₁ := m :: B) (l₂ := A))
    exact hp.nodup_iff.2 h1
  · rw [e] at h2; simp at h2 ⊢; omega
  · rw [e] at h3
    obtain ⟨x, r, e2, hc⟩ := cyc_rot h3
    simp only [List.cons.injEq] at e2
    obtain ⟨rfl, rfl⟩ := e2
    exact (ch_snoc m _ (by simp)).1 hc


/-! ### the first shortest odd circle -/
theorem stO_spec : ∀ (cs : List (List Nat)) (o : Option (List Nat)), (∀ b, o = some b → b.length % 2 = 1) → (cs.foldl stO o = none → o = none ∧ ∀ c ∈ cs, c.length % 2 = 0) ∧ ∀ b, cs.foldl stO o = some b → (b ∈ cs ∨ o = some b) ∧ b.length % 2 = 1
  | [], o, h => ⟨fun e => ⟨e, by simp⟩, fun b e => ⟨.inr e, h b e⟩⟩
  | c :: r, o, h => by
    have h2 : ∀ b, stO o c = some b → b.length % 2 = 1 := by
      intro b e
      unfold stO at e
      split at e
      · next hb =>
        cases e
        unfold better at hb
        rw [Bool.and_eq_true, decide_eq_true_iff] at hb; exact hb.1
      · exact h b e
    obtain ⟨a1, a2⟩ := stO_spec r (stO o c) h2
    rw [List.foldl_cons]
    refine ⟨fun e => ?_, fun b e => ?_⟩
    · obtain ⟨e1, e2⟩ := a1 e
      unfold stO at e1
      split at e1
      · simp at e1
      · next hb =>
        refine ⟨e1, fun x hx => ?_⟩
        rcases List.mem_cons.1 hx with rfl | hx
        · rw [e1] at hb
          unfold better at hb
          simp at hb; omega
        · exact e2 x hx
    · obtain ⟨h3, h4⟩ := a2 b e
      refine ⟨?_, h4⟩
      rcases h3 with h3 | h3
      · exact .inl (by simp [h3])
      · unfold stO at h3
        split at h3
        · cases h3; exact .inl (by simp)
        · exact .inr h3
theorem oddB_none {n : Nat} {w : List Nat} (h : oddB n w = none) : ∀ c ∈ circL n w, c.length % 2 = 0 := by
  rw [oddB_fold] at h
  exact ((stO_spec _ none (by simp)).1 h).2
theorem oddB_some {n : Nat} {w : List Nat} {b : List Nat} (h : oddB n w = some b) : b ∈ circL n w ∧ b.length % 2 = 1 := by
  rw [oddB_fold] at h
  have := (stO_spec _ none (by simp)).2 b h
  exact ⟨this.1.resolve_right (by simp), this.2⟩

/-! ### it is accepted -/
theorem see_ch {ps : List (Int × Int)} (h7 : ∀ p ∈ ps, okP p) : ∀ (l : List Nat) (a : Nat), Ch (Jw (seeL 7 ps)) (a :: l) → seeErr ps (a : Int) (up l) = 0
  | [], a, _ => rfl
  | x :: r, a, h => by
    have h1 : ((a : Int), (x : Int)) ∈ ps := by
      have := h.1
      unfold Jw at this
      rw [seeL_bit (Nat.le_refl 7) h7, decide_eq_true_iff] at this
      exact this
    have h2 := see_ch h7 r x h.2
    show seeErr ps (a : Int) ((x : Int) :: up r) = 0
    unfold seeErr
    rw [if_pos h1]; exact h2
theorem ring_ok {n : Int} : ∀ (l met : List Int), (∀ x ∈ l, 0 ≤ x ∧ x < n) → (met ++ l).Nodup → ringErr n met l = 0
  | [], _, _, _ => rfl
  | x :: r, met, h, hn => by
    have hx := h x (by simp)
    have hm : x ∉ met := fun hm => by
      rw [List.nodup_append] at hn
      exact hn.2.2 x hm x (by simp) rfl
    unfold ringErr
    rw [if_neg (by omega), if_neg hm]
    exact ring_ok r (met ++ [x]) (fun y hy => h y (by simp [hy])) (by simpa using hn)
theorem up_mem {c : List Nat} {x : Int} : x ∈ up c ↔ ∃ y ∈ c, x = (y : Int) := by
  unfold up
  rw [List.mem_map]
  exact ⟨fun ⟨y, h1, h2⟩ => ⟨y, h1, h2.symm⟩, fun ⟨y, h1, h2⟩ => ⟨y, h1, h2.symm⟩⟩
theorem up_nodup {c : List Nat} (h : c.Nodup) : (up c).Nodup := nodup_map_inj h (fun a _ b _ e => by omega)
theorem up_getD (c : List Nat) (i : Nat) (h : i < c.length) : (up c).getD i 0 = ((c.getD i 0 : Nat) : Int) := by
  rw [List.getD_eq_getElem?_getD, List.getD_eq_getElem?_getD, up, List.getElem?_map, List.getElem?_eq_getElem h]; rfl
theorem prov_circ {n : Nat} (hn : n ≤ 7) {ps : List (Int × Int)} (h : chk (n : Int) ps = 0) (h7 : ∀ p ∈ ps, okP p) {c : List Nat} (hc : c ∈ circL n (seeL 7 ps)) (ho : c.length % 2 = 1) : provE (n : Int) ps (up c) = 0 := by
  obtain ⟨a, s, e, ha, h2, h3, h4, h5, h6⟩ := (circ_iff hn _ c).1 hc
  unfold provE
  rw [if_pos h, up_len, if_neg (by omega), if_pos]
  · have e1 : (up c).getD (c.length - 1) 0 = ((lastW c : Nat) : Int) := up_getD c _ (by omega)
    rw [e1]
    refine see_ch h7 c (lastW c) ?_
    rw [e] at h5 h6 ⊢
    exact ⟨h6, h5⟩
  · refine ring_ok _ [] (fun x hx => ?_) (by simpa using up_nodup h3)
    obtain ⟨y, hy, rfl⟩ := up_mem.1 hx
    rw [e] at hy
    rcases List.mem_cons.1 hy with rfl | hy
    · omega
    · have := h2 y hy; omega

/-! ### no odd circle: a choice -/
theorem mask_of (K : Nat → Prop) : ∀ n : Nat, ∃ m, m < 2 ^ n ∧ ∀ x, m.testBit x = true ↔ x < n ∧ K x
  | 0 => ⟨0, by simp, fun x => by simp⟩
  | n + 1 => by
    obtain ⟨m, h1, h2⟩ := mask_of K n
    by_cases hk : K n
    · refine ⟨m ||| 2 ^ n, ?_, fun x => ?_⟩
      · exact Nat.or_lt_two_pow (Nat.lt_of_lt_of_le h1 (Nat.pow_le_pow_right (by omega) (by omega))) (Nat.pow_lt_pow_right (by omega) (by omega))
      · rw [Nat.testBit_or, Nat.testBit_two_pow, Bool.or_eq_true, h2, decide_eq_true_iff]
        constructor
        · rintro (⟨h3, h4⟩ | h3)
          · exact ⟨by omega, h4⟩
          · subst h3; exact ⟨by omega, hk⟩
        · rintro ⟨h3, h4⟩
          by_cases e : n = x
          · exact .inr e
          · exact .inl ⟨by omega, h4⟩
    · refine ⟨m, Nat.lt_of_lt_of_le h1 (Nat.pow_le_pow_right (by omega) (by omega)), fun x => ?_⟩
      rw [h2]
      constructor
      · rintro ⟨h3, h4⟩; exact ⟨by omega, h4⟩
      · rintro ⟨h3, h4⟩
        refine ⟨?_, h4⟩
        rcases Nat.lt_or_ge x n with h5 | h5
        · exact h5
        · obtain rfl : x = n := by omega
          exact absurd h4 hk
theorem chos_some {n : Nat} {ps : List (Int × Int)} {m : Nat} (hm : m < 2 ^ n) (h : jdg n (seeL 7 ps) m = 0) : memb m ∈ chosL n ps := by
  unfold chosL
  refine (sortL_perm lexLt _).mem_iff.2 ?_
  unfold kerL
  refine List.mem_map.2 ⟨m, List.mem_filter.2 ⟨by rw [List.mem_range'_1]; omega, decide_eq_true h⟩, rfl⟩
theorem chos_rich {n : Nat} (hn : n ≤ 7) {ps : List (Int × Int)} (h3 : ∀ p ∈ ps, goodP (n : Int) p) (h7 : ∀ p ∈ ps, okP p) (ho : oddB n (seeL 7 ps) = none) : chosL n ps ≠ [] := by
  obtain ⟨K, hK1, hK2⟩ := richardson (J := Jw (seeL 7 ps)) (N := n) _ (fun x => x < n) (fun _ h => h) rfl (fun c h1 h2 h4 h5 => by
    by_cases hl : 1 < c.length
    · obtain ⟨A, m, B, e, hc⟩ := circ_of hn h1 hl h4 h5
      have := oddB_none ho _ hc
      rw [e] at h2; simp at h2 this; omega
    · obtain ⟨x, r, rfl, hch⟩ := h4
      have : r = [] := by
        cases r with
        | nil => rfl
        | cons y r => simp at hl
      subst this
      have hj : Jw (seeL 7 ps) x x := hch.1
      unfold Jw at hj
      rw [seeL_bit (Nat.le_refl 7) h7, decide_eq_true_iff] at hj
      exact (h3 _ hj).2.2.2.2 rfl)
  obtain ⟨m, hm, hb⟩ := mask_of K n
  intro e
  have : memb m ∈ chosL n ps := chos_some hm (by
    rw [jdg_zero]
    intro x hx
    rw [hb, and_zero]
    have := hK2 x hx
    constructor
    · rintro ⟨_, h⟩ y ⟨hy1, hy2⟩
      rw [hb] at hy2
      exact this.1 h y hy2.2 hy1
    · intro h
      exact ⟨hx, this.2 fun y hy hj => h y ⟨hj, (hb y).2 ⟨hK1 y hy, hy⟩⟩⟩)
  rw [e] at this; simp at this

attribute [local go_sem] shaped_t cells_t isAgg_t storable_t okRef_t pub_t

theorem lists_self (n : Nat) (hn : 1 ≤ n ∧ n ≤ 7) {ps : List (Int × Int)} (h5 : ∀ p ∈ ps, goodP (n : Int) p) (h6 : ∀ p ∈ ps, okP p) :
    (chosL n ps).length ≤ 12 ∧ ∀ st, run L 23 [sl 1 true ((chosL n ps).map tAV), sl 1 true ((chosL n ps).map tAV)] st = some (B true, st) := by
  have hcl : (chosL n ps).length ≤ 12 := by
    unfold chosL; rw [(sortL_perm lexLt _).length_eq]; exact ker12 hn.2 (fun p hp => h5 p hp) h6
  have hce := fun c hc => chos_ne hn.1 hn.2 (ps := ps) c hc
  refine ⟨hcl, fun st => ?_⟩
  have := c23t true true (chosL n ps) (chosL n ps) (by omega) (fun l hl => by have := (hce l hl).2; omega) (fun l hl => (hce l hl).1) (fun l hl => (hce l hl).1) st
  rw [decide_eq_true rfl] at this
  exact this
theorem same_self (l : List Int) (hl : l.length < 1000000) (st : St) : run L 22 [tAV l, tAV l] st = some (B true, st) := by
  have := c22 true true l l hl st
  rw [decide_eq_true rfl] at this
  exact this
theorem circ_lt {n : Nat} (hn : n ≤ 7) {w : List Nat} : ∀ c ∈ circL n w, 2 ≤ c.length ∧ c.length ≤ 7 ∧ (∀ x ∈ c, x < n) ∧ c.Nodup := by
  intro c hc
  obtain ⟨a, s, e, ha, h2, h3, h4, _, _⟩ := (circ_iff hn _ c).1 hc
  have hm : ∀ x ∈ c, x < n := fun x hx => by
    rw [e] at hx
    rcases List.mem_cons.1 hx with rfl | hx
    · exact ha
    · exact (h2 x hx).2
  have := nodup_len_le c (List.range n) h3 (fun x hx => List.mem_range.2 (hm x hx))
  rw [List.length_range] at this
  exact ⟨h4, by omega, hm, h3⟩

set_option maxHeartbeats 2000000 in
theorem c7 (zs : List Int) (hzl : zs.length = 34) (hz : ∀ a ∈ zs, Byte a) (st : St) :
    run L 7 [qAV zs] st = some (B true, st) := by
  rw [run_pure (fn := ir7) rfl rfl]
  obtain ⟨n, hN, h1, h2, h3, h4, h5, h6, h7, h8⟩ := made_ok (.inr rfl) zs
  have h45 := fun st => c45 zs hzl hz 7 (.inr rfl) st
  rw [hN] at h45
  generalize madeP 7 zs = ps at *
  have h20 := fun st => c20 true (n : Int) ps st
  have h18 := fun st => c18 true (n : Int) ps st
  have h24 := fun st => c24 true (n : Int) ps st
  have h28 := fun st => c28 true (n : Int) ps st
  have h46 := fun st => c46 true n ps h8 st
  have h47 := fun st => c47 true n ps h8 st
  rw [allV_ok h8] at h20 h18
  rw [h8] at h24 h20 h18
  have htk : (zs.map B8).take 34 = zs.map B8 := List.take_of_length_le (by rw [List.length_map]; omega)
  have hcl := circ_lt h3 (w := seeL 7 ps)
  have hcn := circ_len n h3 (seeL 7 ps)
  obtain ⟨hch, h23⟩ := lists_self n ⟨h1, h3⟩ (fun p hp => h5 p hp) h6
  have hce := fun c hc => chos_ne h1 h3 (ps := ps) c hc
  have hOf := oddB_fold n (seeL 7 ps)
  have hrv : ringV (n : Int) ps = ooL (oddB n (seeL 7 ps)) := by
    unfold ringV ooL; rw [if_pos h8, Int.toNat_natCast]; try (cases oddB n (seeL 7 ps) <;> rfl)
  have hre : ringE (n : Int) ps = (match oddB n (seeL 7 ps) with | some _ => 0 | none => 13) := by
    unfold ringE; rw [if_pos h8, Int.toNat_natCast]; try (cases oddB n (seeL 7 ps) <;> rfl)
  rw [hrv, hre] at h28
  have hli : lenAV (sl 1 true (((circL n (seeL 7 ps)).map up).map tAV)) = some (I (circL n (seeL 7 ps)).length) := by rw [len_sl, List.length_map, List.length_map]
  simp only [ir7, go_sem, reduceIte, Nat.reduceEqDiff, Nat.reduceAdd, Nat.reduceSub, Nat.reduceLeDiff, Nat.reduceLT, reduceCtorEq, Int.reduceLT, Int.reduceLE, Int.reduceEq, Int.reduceBEq, Int.reduceSub, Int.reduceAdd, Int.reduceMul, Int.reduceNeg, Int.reduceToNat, Nat.reduceMul, Nat.reduceBEq, okRefsB, renCellsB, pubsB, storableB, h45, h46, h47, hzl, htk, hli, List.length_map]
  generalize hg : lim (headed pure (run L) true _ lp7_0 _ _) _ _ = o
  obtain ⟨x, en, s, rfl, h2⟩ : ∃ x en s, o = some (x, en, s) ∧ _ := by rw [← hg]; exact loop7_0 zs (n : Int) ps (chosL n ps) (circL n (seeL 7 ps)) (fun c hc => by have := hcl c hc; omega) (by omega) 0 none ⟨by omega, fun b hb => by simp at hb⟩ _ _ (by simp only [go_sem, reduceIte, Nat.reduceEqDiff, Nat.reduceAdd, Nat.reduceSub, Nat.reduceLeDiff, Nat.reduceLT, reduceCtorEq, Int.reduceLT, Int.reduceLE, Int.reduceEq, Int.reduceBEq, Int.reduceSub, Int.reduceAdd, Int.reduceMul, Int.reduceNeg, Int.reduceToNat, Nat.reduceMul, Nat.reduceBEq, okRefsB, renCellsB, show tAV (ooL none) = .v (.slice none 0 0) from rfl, Int.natCast_zero] <;> rfl)
  clear hg
  rw [List.drop_zero, ← hOf] at h2
  obtain ⟨rfl, e3, e4, e5, rfl⟩ := h2
  have hlc : lenAV (sl 1 true ((chosL n ps).map tAV)) = some (I (chosL n ps).length) := by rw [len_sl, List.length_map]
  have h30 := fun b (hb : oddB n (seeL 7 ps) = some b) => (fun st => by
    have hbs := oddB_some hb
    have := c30 true true (n : Int) ps (up b) (by rw [up_len]; have := hcl b hbs.1; omega) st
    rw [prov_circ h3 h8 h6 hbs.1 hbs.2] at this
    exact this : ∀ st, run L 30 [bkAV true (n : Int) ps, tAV (up b)] st = some (I 0, st))
  have hrich := chos_rich h3 (fun p hp => h5 p hp) h6
  have h22 : ∀ l : List Int, l.length ≤ 7 → ∀ st, run L 22 [tAV l, tAV l] st = some (B true, st) := fun l hl => same_self l (by omega)
  have hhd : ∀ c r, chosL n ps = c :: r → indexSAV 1 (sl 1 true ((chosL n ps).map tAV)) (I 0) = some (.eptr (tAV c) 0) := fun c r e => by
    have := index_t true (chosL n ps) 0 (by rw [e]; simp)
    simp only [Int.natCast_zero] at this
    rw [this]
    simp only [e, List.getElem_cons_zero]
  cases ho : oddB n (seeL 7 ps) with
  | none =>
    rw [ho] at e5 h28
    have hcne := hrich ho
    have hpos := List.length_pos_iff.2 hcne
    have q0 : (((chosL n ps).length : Int) = 0) = False := eq_false (by omega)
    have q0' : ((chosL n ps).length = 0) = False := eq_false (by omega)
    have e0 : ooL none = [] := rfl
    rw [e0] at e5 h28
    have h220 := h22 [] (by simp)
    obtain ⟨c, r, hcr⟩ := List.exists_cons_of_ne_nil hcne
    have hix := hhd c r hcr
    have h22c := h22 c (hce c (by rw [hcr]; simp)).2
    have hh : (chosL n ps).headD [] = c := by rw [hcr]; rfl
    rw [hh] at h18
    simp only [go_sem, reduceIte, Nat.reduceEqDiff, Nat.reduceAdd, Nat.reduceSub, Nat.reduceLeDiff, Nat.reduceLT, reduceCtorEq, Int.reduceLT, Int.reduceLE, Int.reduceEq, Int.reduceBEq, Int.reduceSub, Int.reduceAdd, Int.reduceMul, Int.reduceNeg, Int.reduceToNat, Nat.reduceMul, Nat.reduceBEq, e3, e4, e5, h20, h18, h24, h28, h23, h220, hlc, q0, q0', eqnil_t, nenil_t, hix, h22c, len_tAV, c17]
  | some b =>
    have hbs := oddB_some ho
    have hb := hcl b hbs.1
    rw [ho] at e5 h28
    have h30b := h30 b ho
    have e0 : ooL (some b) = up b := rfl
    rw [e0] at e5 h28
    have h22b := h22 (up b) (by rw [up_len]; omega)
    have hub : (up b = []) = False := eq_false (by intro e; have := up_len b; rw [e] at this; simp at this; omega)
    by_cases hcne : chosL n ps = []
    · have q0 : (((chosL n ps).length : Int) = 0) = True := eq_true (by rw [hcne]; rfl)
      have q0' : ((chosL n ps).length = 0) = True := eq_true (by rw [hcne]; rfl)
      have hh : (chosL n ps).headD [] = [] := by rw [hcne]; rfl
      have hz : (((List.length ([] : List Int) : Nat) : Int) = 0) = True := eq_true rfl
      rw [hh] at h18
      simp only [go_sem, reduceIte, Nat.reduceEqDiff, Nat.reduceAdd, Nat.reduceSub, Nat.reduceLeDiff, Nat.reduceLT, reduceCtorEq, Int.reduceLT, Int.reduceLE, Int.reduceEq, Int.reduceBEq, Int.reduceSub, Int.reduceAdd, Int.reduceMul, Int.reduceNeg, Int.reduceToNat, Nat.reduceMul, Nat.reduceBEq, e3, e4, e5, h20, h18, h24, h28, h23, h22b, hlc, q0, q0', eqnil_t, nenil_t, hub, h30b, len_tAV, hz, c17]
    · have hpos := List.length_pos_iff.2 hcne
      have q0 : (((chosL n ps).length : Int) = 0) = False := eq_false (by omega)
      have q0' : ((chosL n ps).length = 0) = False := eq_false (by omega)
      obtain ⟨c, r, hcr⟩ := List.exists_cons_of_ne_nil hcne
      have hix := hhd c r hcr
      have h22c := h22 c (hce c (by rw [hcr]; simp)).2
      have hh : (chosL n ps).headD [] = c := by rw [hcr]; rfl
      rw [hh] at h18
      simp only [go_sem, reduceIte, Nat.reduceEqDiff, Nat.reduceAdd, Nat.reduceSub, Nat.reduceLeDiff, Nat.reduceLT, reduceCtorEq, Int.reduceLT, Int.reduceLE, Int.reduceEq, Int.reduceBEq, Int.reduceSub, Int.reduceAdd, Int.reduceMul, Int.reduceNeg, Int.reduceToNat, Nat.reduceMul, Nat.reduceBEq, e3, e4, e5, h20, h18, h24, h28, h23, h22b, hlc, q0, q0', eqnil_t, nenil_t, hub, h30b, hix, h22c, len_tAV, c17]
end Go.Proofs.YtgohohiaaiogcaaDoor.Vm
