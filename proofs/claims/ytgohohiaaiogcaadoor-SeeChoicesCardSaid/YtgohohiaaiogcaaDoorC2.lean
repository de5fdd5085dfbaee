/- What is proved: what each function of this program computes, as equations on the evaluator. No condition. -/
import Derived.Test.YtgohohiaaiogcaaDoorC1
import Derived.Test.YtgohohiaaiogcaaDoorS0
set_option linter.all false
namespace Go.Proofs.YtgohohiaaiogcaaDoor.Vm
open Go Go.Ev
set_option maxRecDepth 100000
attribute [local go_sem] cells_any storable_any ren1_any shaped_ptr cells_ptr storable_ptr ren1_ptr shaped_eptr cells_eptr storable_eptr ren1_eptr shaped_rsl cells_rsl storable_rsl ren1_rsl shaped_int cells_int storable_int ren1_int shaped_bool cells_bool storable_bool ren1_bool shaped_nils cells_nils storable_nils ren1_nils shaped_lst cells_lst storable_lst shaped_fn cells_fn storable_fn ren1_fn shaped_ifc cells_ifc storable_ifc ren1_ifc shaped_agg cells_agg storable_agg ren1_agg shaped_tup cells_tup storable_tup ren1_tup shaped_nif cells_nif storable_nif ren1_nif ren1_lany ren1_lfull ren1_lown len_lst len_rsl len_nil load_ptr load_eptr isRsl_lst isRsl_nil isRsl_rsl elems_nil elems_lst elems_sl isRsl_sl body_eq bodyK_normal bodyK_ret resK_some leaveK_some only_some code_skip code_exit code_ret code_ops code_seq code_cond code_block seqK_normal seqK_ret seqK_exit condK_true condK_false blockK_normal blockK_ret blockK_exit opsK_some ops_nil ops_cons wantK_true wantK_false stepK_some pubs pub pub_sl params okRef_loc storable_loc shaped_loc cells_loc isRsl_loc elems_loc len_loc untips untip untip_sl wantedAV setElems withO isAgg_v isAgg_agg isAgg_lst isAgg_ptr isAgg_fn isAgg_ifc isAgg_rsl isAgg_sl isAgg_loc List.replicate_succ List.replicate_zero opAV valAV aval avals ofVal Env.get setD canon gcAV renAll renEnv renStore renCells ren1_sl cutSt okEnv okStore okRefs okRef okRef_sl bin_int bin_bool bin_lst bin_rsl bin_nil bin_agg cellsEq cellEq isShift intOp boolOp min_int max_int beq_int bne resAV tupAV leave_eq fin_sl fin_loc fins fin_v fin_lst fin_agg fin_tup fin_fn storeAV readCells putCells cells_sl shaped_sl storable_sl fieldAddrAV len_sl goI List.getElem?_cons_zero List.getElem?_cons_succ List.getElem?_nil Option.bind_some Option.map_some List.length_cons List.length_nil List.all_cons List.all_nil Bool.and_true Bool.true_and Bool.and_false Bool.false_and and_true true_and and_false false_and Bool.false_eq_true List.set_cons_zero List.set_cons_succ List.append_nil List.nil_append List.cons_append List.take_zero List.take_succ_cons List.take_nil List.drop_zero List.drop_succ_cons List.map_cons List.map_nil decide_true decide_false beq_self_eq_true Bool.not_true Bool.not_false or_true true_or or_false false_or Nat.zero_add Nat.add_zero Nat.le_refl Nat.lt_irrefl decide_eq_true_eq eq_self_iff_true not_true_eq_false not_false_eq_true List.getD_cons_zero code_loop Nat.zero_le Nat.not_lt_zero Bool.true_beq Bool.false_beq beq_true beq_false ge_iff_le gt_iff_lt Lpure pus Option.map_none assert_ifc assert_nil idxA_ptr idxA_eptr idxV_agg Int.cast_ofNat_Int Nat.mul_one Nat.zero_mul Int.toNat_natCast Int.toNat_zero setParts withO2 hasKey eqnil_sl nenil_sl eqnil_loc nenil_loc map_nil_iff okRefs_ints renCells_ints

/-! ### the reference: lists of words -/
theorem loop73 (nl n2 : Bool) (n : Int) (hn : 1 ≤ n ∧ n ≤ 7) (ps : List (Int × Int)) (l : List Int) (hl : l.length < 1000000) (i : Nat) (e : Int) (hok : i ≤ l.length) (env : Env) (st : St)
    (hg : gcAV true 1 0 (canon env [1, 2, 5, 6]) st = ([(1, sl 1 n2 (l.map I)), (2, .ptr 0 0), (5, I e), (6, I i)], ⟨[bkCells nl n ps], []⟩)) :
    ∃ x_1 en s, lim (headed pure (run L) true [1, 2, 5, 6] lp73_0 1 0) env st = some (x_1, en, s) ∧ (x_1 = .exit 0 ∧ en.get 5 = I (if e = 0 then (if i = 0 then setErr n (-1) l else setErr n (l.getD (i - 1) 0) (l.drop i)) else e)) := by
  refine loop_wp (α := Nat × Int) (fun ⟨i, e⟩ => l.length - i) (fun ⟨i, e⟩ => i ≤ l.length) (fun ⟨i, e⟩ => ([(1, sl 1 n2 (l.map I)), (2, .ptr 0 0), (5, I e), (6, I i)], ⟨[bkCells nl n ps], []⟩)) (fun ⟨i, e⟩ x_1 en s => x_1 = .exit 0 ∧ en.get 5 = I (if e = 0 then (if i = 0 then setErr n (-1) l else setErr n (l.getD (i - 1) 0) (l.drop i)) else e)) (fun ⟨i, e⟩ hok => ?_) ⟨i, e⟩ hok env st hg
  simp only at hok
  dsimp only
  by_cases p0 : e = 0
  · subst p0
    by_cases h : i < l.length
    · have hx := index_ints n2 l i h
      have hs := succ64 i (by omega)
      have hd : l.drop i = l[i] :: l.drop (i + 1) := List.drop_eq_getElem_cons h
      have hlt : ((i : Int) < (l.length : Int)) = True := eq_true (by omega)
      have hw : IntKind.i64.wrap (n - 1) = n - 1 := by rw [wrap64] <;> omega
      have e1 : l[i]?.getD 0 = l[i] := by rw [List.getElem?_eq_getElem h]; rfl
      by_cases hi : i = 0
      · subst hi
        have hl0 : l = l[0] :: l.drop 1 := by rw [← hd]; rfl
        have hset : setErr n (-1) l = setErr n (-1) (l[0] :: l.drop 1) := by rw [← hl0]
        rw [if_pos rfl, if_pos rfl, hset]
        have hlt0 : ((0 : Int) < (l.length : Int)) = True := eq_true (by omega)
        have hs0 : IntKind.i64.wrap (0 + 1) = 1 := by decide
        simp only [Int.natCast_zero] at hx
        generalize hy : l[0] = y at *
        by_cases p1 : 0 ≤ y ∧ y ≤ n - 1
        · have he : setErr n (-1) (y :: l.drop 1) = setErr n y (l.drop 1) := by simp only [setErr]; rw [if_neg (by omega), if_neg (by omega)]
          rw [he]
          simp only [go_sem, reduceIte, Nat.reduceEqDiff, Nat.reduceAdd, Nat.reduceSub, Nat.reduceLeDiff, Nat.reduceLT, reduceCtorEq, Int.reduceLT, Int.reduceLE, Int.reduceEq, Int.reduceBEq, Int.reduceSub, Int.reduceAdd, Int.reduceMul, Int.reduceNeg, Int.reduceToNat, Nat.reduceMul, Nat.reduceBEq, index_rsl_if, setm, make_ints, condK_dec, wantK_dec, not_dec, and_dec, or_dec, seqK_ite, seqK_none, blockK_ite, blockK_none, opsK_ite, opsK_none, stepK_ite, stepK_none, bodyK_ite, bodyK_none, resK_ite, resK_none, leaveK_ite, leaveK_none, only_ite, only_none, bind_ite, gives_some, gives_none, gives_ite, then_normal, then_ret, then_exit, then_none, then_ite, Option.bind_none, Bool.not_eq_true', decide_eq_false_iff_not, Bool.and_eq_true, Bool.or_eq_true, Option.some.injEq, Int.not_lt, Int.not_le, lp73_0, hx, hlt0, hs0, hw, c70, p1, List.length_map, Int.natCast_zero]
          refine ⟨(1, 0), by simp only [go_sem, reduceIte, Nat.reduceEqDiff, Nat.reduceAdd, Nat.reduceSub, Nat.reduceLeDiff, Nat.reduceLT, reduceCtorEq, Int.reduceLT, Int.reduceLE, Int.reduceEq, Int.reduceBEq, Int.reduceSub, Int.reduceAdd, Int.reduceMul, Int.reduceNeg, Int.reduceToNat, Nat.reduceMul, Nat.reduceBEq, ren1_locm, loc_tips, locT_eq] <;> rfl, ?_, ?_, fun x en s hq => ?_⟩
          · omega
          · omega
          · simpa [e1] using hq
        · have he : setErr n (-1) (y :: l.drop 1) = 2 := by simp only [setErr]; rw [if_pos (by omega)]
          rw [he]
          simp only [go_sem, reduceIte, Nat.reduceEqDiff, Nat.reduceAdd, Nat.reduceSub, Nat.reduceLeDiff, Nat.reduceLT, reduceCtorEq, Int.reduceLT, Int.reduceLE, Int.reduceEq, Int.reduceBEq, Int.reduceSub, Int.reduceAdd, Int.reduceMul, Int.reduceNeg, Int.reduceToNat, Nat.reduceMul, Nat.reduceBEq, index_rsl_if, setm, make_ints, condK_dec, wantK_dec, not_dec, and_dec, or_dec, seqK_ite, seqK_none, blockK_ite, blockK_none, opsK_ite, opsK_none, stepK_ite, stepK_none, bodyK_ite, bodyK_none, resK_ite, resK_none, leaveK_ite, leaveK_none, only_ite, only_none, bind_ite, gives_some, gives_none, gives_ite, then_normal, then_ret, then_exit, then_none, then_ite, Option.bind_none, Bool.not_eq_true', decide_eq_false_iff_not, Bool.and_eq_true, Bool.or_eq_true, Option.some.injEq, Int.not_lt, Int.not_le, lp73_0, hx, hlt0, hs0, hw, c70, p1, List.length_map, Int.natCast_zero]
          refine ⟨(1, 2), by simp only [go_sem, reduceIte, Nat.reduceEqDiff, Nat.reduceAdd, Nat.reduceSub, Nat.reduceLeDiff, Nat.reduceLT, reduceCtorEq, Int.reduceLT, Int.reduceLE, Int.reduceEq, Int.reduceBEq, Int.reduceSub, Int.reduceAdd, Int.reduceMul, Int.reduceNeg, Int.reduceToNat, Nat.reduceMul, Nat.reduceBEq, ren1_locm, loc_tips, locT_eq] <;> rfl, ?_, ?_, fun x en s hq => ?_⟩
          · omega
          · omega
          · simpa using hq
      · have hpos : ((0 : Int) < (i : Int)) = True := eq_true (by omega)
        have hx2 := index_ints n2 l (i - 1) (by omega)
        have e2 : l.getD (i - 1) 0 = l[i - 1] := by rw [List.getD_eq_getElem?_getD, List.getElem?_eq_getElem (by omega)]; rfl
        have hwi : IntKind.i64.wrap ((i : Int) - 1) = ((i - 1 : Nat) : Int) := by rw [wrap64] <;> omega
        rw [if_pos rfl, if_neg hi, hd, e2]
        generalize l[i] = y at *
        generalize l[i - 1] = z at *
        by_cases p1 : 0 ≤ y ∧ y ≤ n - 1
        · by_cases p2 : y ≤ z
          · have he : setErr n z (y :: l.drop (i + 1)) = 7 := by simp only [setErr]; rw [if_neg (by omega), if_pos p2]
            rw [he]
            simp only [go_sem, reduceIte, Nat.reduceEqDiff, Nat.reduceAdd, Nat.reduceSub, Nat.reduceLeDiff, Nat.reduceLT, reduceCtorEq, Int.reduceLT, Int.reduceLE, Int.reduceEq, Int.reduceBEq, Int.reduceSub, Int.reduceAdd, Int.reduceMul, Int.reduceNeg, Int.reduceToNat, Nat.reduceMul, Nat.reduceBEq, index_rsl_if, setm, make_ints, condK_dec, wantK_dec, not_dec, and_dec, or_dec, seqK_ite, seqK_none, blockK_ite, blockK_none, opsK_ite, opsK_none, stepK_ite, stepK_none, bodyK_ite, bodyK_none, resK_ite, resK_none, leaveK_ite, leaveK_none, only_ite, only_none, bind_ite, gives_some, gives_none, gives_ite, then_normal, then_ret, then_exit, then_none, then_ite, Option.bind_none, Bool.not_eq_true', decide_eq_false_iff_not, Bool.and_eq_true, Bool.or_eq_true, Option.some.injEq, Int.not_lt, Int.not_le, lp73_0, hx, hx2, hlt, hs, hw, hwi, hpos, c70, p1, p2, List.length_map]
            refine ⟨(i + 1, 7), by simp only [go_sem, reduceIte, Nat.reduceEqDiff, Nat.reduceAdd, Nat.reduceSub, Nat.reduceLeDiff, Nat.reduceLT, reduceCtorEq, Int.reduceLT, Int.reduceLE, Int.reduceEq, Int.reduceBEq, Int.reduceSub, Int.reduceAdd, Int.reduceMul, Int.reduceNeg, Int.reduceToNat, Nat.reduceMul, Nat.reduceBEq, ren1_locm, loc_tips, locT_eq] <;> rfl, ?_, ?_, fun x en s hq => ?_⟩
            · omega
            · omega
            · simpa using hq
          · have he : setErr n z (y :: l.drop (i + 1)) = setErr n y (l.drop (i + 1)) := by simp only [setErr]; rw [if_neg (by omega), if_neg p2]
            rw [he]
            simp only [go_sem, reduceIte, Nat.reduceEqDiff, Nat.reduceAdd, Nat.reduceSub, Nat.reduceLeDiff, Nat.reduceLT, reduceCtorEq, Int.reduceLT, Int.reduceLE, Int.reduceEq, Int.reduceBEq, Int.reduceSub, Int.reduceAdd, Int.reduceMul, Int.reduceNeg, Int.reduceToNat, Nat.reduceMul, Nat.reduceBEq, index_rsl_if, setm, make_ints, condK_dec, wantK_dec, not_dec, and_dec, or_dec, seqK_ite, seqK_none, blockK_ite, blockK_none, opsK_ite, opsK_none, stepK_ite, stepK_none, bodyK_ite, bodyK_none, resK_ite, resK_none, leaveK_ite, leaveK_none, only_ite, only_none, bind_ite, gives_some, gives_none, gives_ite, then_normal, then_ret, then_exit, then_none, then_ite, Option.bind_none, Bool.not_eq_true', decide_eq_false_iff_not, Bool.and_eq_true, Bool.or_eq_true, Option.some.injEq, Int.not_lt, Int.not_le, lp73_0, hx, hx2, hlt, hs, hw, hwi, hpos, c70, p1, p2, List.length_map]
            refine ⟨(i + 1, 0), by simp only [go_sem, reduceIte, Nat.reduceEqDiff, Nat.reduceAdd, Nat.reduceSub, Nat.reduceLeDiff, Nat.reduceLT, reduceCtorEq, Int.reduceLT, Int.reduceLE, Int.reduceEq, Int.reduceBEq, Int.reduceSub, Int.reduceAdd, Int.reduceMul, Int.reduceNeg, Int.reduceToNat, Nat.reduceMul, Nat.reduceBEq, ren1_locm, loc_tips, locT_eq] <;> rfl, ?_, ?_, fun x en s hq => ?_⟩
            · omega
            · omega
            · simpa [e1] using hq
        · have he : setErr n z (y :: l.drop (i + 1)) = 2 := by simp only [setErr]; rw [if_pos (by omega)]
          rw [he]
          simp only [go_sem, reduceIte, Nat.reduceEqDiff, Nat.reduceAdd, Nat.reduceSub, Nat.reduceLeDiff, Nat.reduceLT, reduceCtorEq, Int.reduceLT, Int.reduceLE, Int.reduceEq, Int.reduceBEq, Int.reduceSub, Int.reduceAdd, Int.reduceMul, Int.reduceNeg, Int.reduceToNat, Nat.reduceMul, Nat.reduceBEq, index_rsl_if, setm, make_ints, condK_dec, wantK_dec, not_dec, and_dec, or_dec, seqK_ite, seqK_none, blockK_ite, blockK_none, opsK_ite, opsK_none, stepK_ite, stepK_none, bodyK_ite, bodyK_none, resK_ite, resK_none, leaveK_ite, leaveK_none, only_ite, only_none, bind_ite, gives_some, gives_none, gives_ite, then_normal, then_ret, then_exit, then_none, then_ite, Option.bind_none, Bool.not_eq_true', decide_eq_false_iff_not, Bool.and_eq_true, Bool.or_eq_true, Option.some.injEq, Int.not_lt, Int.not_le, lp73_0, hx, hx2, hlt, hs, hw, hwi, hpos, c70, p1, List.length_map]
          refine ⟨(i + 1, 2), by simp only [go_sem, reduceIte, Nat.reduceEqDiff, Nat.reduceAdd, Nat.reduceSub, Nat.reduceLeDiff, Nat.reduceLT, reduceCtorEq, Int.reduceLT, Int.reduceLE, Int.reduceEq, Int.reduceBEq, Int.reduceSub, Int.reduceAdd, Int.reduceMul, Int.reduceNeg, Int.reduceToNat, Nat.reduceMul, Nat.reduceBEq, ren1_locm, loc_tips, locT_eq] <;> rfl, ?_, ?_, fun x en s hq => ?_⟩
          · omega
          · omega
          · simpa using hq
    · have hd : l.drop i = [] := List.drop_eq_nil_of_le (by omega)
      have hlt : ((i : Int) < (l.length : Int)) = False := eq_false (by omega)
      have e0 : (if i = 0 then setErr n (-1) l else setErr n (l.getD (i - 1) 0) (l.drop i)) = 0 := by
        by_cases hi : i = 0
        · subst hi
          have : l = [] := List.length_eq_zero_iff.1 (by omega)
          subst this; rfl
        · rw [if_neg hi, hd]; rfl
      rw [if_pos rfl, e0]
      simp only [go_sem, reduceIte, Nat.reduceEqDiff, Nat.reduceAdd, Nat.reduceSub, Nat.reduceLeDiff, Nat.reduceLT, reduceCtorEq, Int.reduceLT, Int.reduceLE, Int.reduceEq, Int.reduceBEq, Int.reduceSub, Int.reduceAdd, Int.reduceMul, Int.reduceNeg, Int.reduceToNat, Nat.reduceMul, Nat.reduceBEq, index_rsl_if, setm, make_ints, condK_dec, wantK_dec, not_dec, and_dec, or_dec, seqK_ite, seqK_none, blockK_ite, blockK_none, opsK_ite, opsK_none, stepK_ite, stepK_none, bodyK_ite, bodyK_none, resK_ite, resK_none, leaveK_ite, leaveK_none, only_ite, only_none, bind_ite, gives_some, gives_none, gives_ite, then_normal, then_ret, then_exit, then_none, then_ite, Option.bind_none, Bool.not_eq_true', decide_eq_false_iff_not, Bool.and_eq_true, Bool.or_eq_true, Option.some.injEq, Int.not_lt, Int.not_le, lp73_0, hlt, List.length_map]
  · rw [if_neg p0]
    by_cases h : i < l.length
    · have hlt : ((i : Int) < (l.length : Int)) = True := eq_true (by omega)
      simp only [go_sem, reduceIte, Nat.reduceEqDiff, Nat.reduceAdd, Nat.reduceSub, Nat.reduceLeDiff, Nat.reduceLT, reduceCtorEq, Int.reduceLT, Int.reduceLE, Int.reduceEq, Int.reduceBEq, Int.reduceSub, Int.reduceAdd, Int.reduceMul, Int.reduceNeg, Int.reduceToNat, Nat.reduceMul, Nat.reduceBEq, index_rsl_if, setm, make_ints, condK_dec, wantK_dec, not_dec, and_dec, or_dec, seqK_ite, seqK_none, blockK_ite, blockK_none, opsK_ite, opsK_none, stepK_ite, stepK_none, bodyK_ite, bodyK_none, resK_ite, resK_none, leaveK_ite, leaveK_none, only_ite, only_none, bind_ite, gives_some, gives_none, gives_ite, then_normal, then_ret, then_exit, then_none, then_ite, Option.bind_none, Bool.not_eq_true', decide_eq_false_iff_not, Bool.and_eq_true, Bool.or_eq_true, Option.some.injEq, Int.not_lt, Int.not_le, lp73_0, hlt, p0, List.length_map]
    · have hlt : ((i : Int) < (l.length : Int)) = False := eq_false (by omega)
      simp only [go_sem, reduceIte, Nat.reduceEqDiff, Nat.reduceAdd, Nat.reduceSub, Nat.reduceLeDiff, Nat.reduceLT, reduceCtorEq, Int.reduceLT, Int.reduceLE, Int.reduceEq, Int.reduceBEq, Int.reduceSub, Int.reduceAdd, Int.reduceMul, Int.reduceNeg, Int.reduceToNat, Nat.reduceMul, Nat.reduceBEq, index_rsl_if, setm, make_ints, condK_dec, wantK_dec, not_dec, and_dec, or_dec, seqK_ite, seqK_none, blockK_ite, blockK_none, opsK_ite, opsK_none, stepK_ite, stepK_none, bodyK_ite, bodyK_none, resK_ite, resK_none, leaveK_ite, leaveK_none, only_ite, only_none, bind_ite, gives_some, gives_none, gives_ite, then_normal, then_ret, then_exit, then_none, then_ite, Option.bind_none, Bool.not_eq_true', decide_eq_false_iff_not, Bool.and_eq_true, Bool.or_eq_true, Option.some.injEq, Int.not_lt, Int.not_le, lp73_0, hlt, p0, List.length_map]

def listedE (n : Int) (ps : List (Int × Int)) (l : List Int) : Int := if chk n ps = 0 then setErr n (-1) l else chk n ps
theorem c73 (nl n2 : Bool) (n : Int) (ps : List (Int × Int)) (l : List Int) (hl : l.length < 1000000) (st : St) : run L 73 [bkAV nl n ps, sl 1 n2 (l.map I)] st = some (I (listedE n ps l), st) := by
  rw [run_pure (fn := ir73) rfl rfl]
  have h25 := fun st => c25 nl n ps st
  unfold listedE
  by_cases h : chk n ps = 0
  · obtain ⟨h1, h2', h3, h4, h5⟩ := chk_zero h
    rw [if_pos h]
    simp only [ir73, go_sem, reduceIte, Nat.reduceEqDiff, Nat.reduceAdd, Nat.reduceSub, Nat.reduceLeDiff, Nat.reduceLT, reduceCtorEq, Int.reduceLT, Int.reduceLE, Int.reduceEq, Int.reduceBEq, Int.reduceSub, Int.reduceAdd, Int.reduceMul, Int.reduceNeg, Int.reduceToNat, Nat.reduceMul, Nat.reduceBEq, h25, h]
    generalize hg : lim (headed pure (run L) true _ lp73_0 _ _) _ _ = o
    obtain ⟨x, en, s, rfl, h2⟩ : ∃ x en s, o = some (x, en, s) ∧ _ := by rw [← hg]; exact loop73 nl n2 n h1 ps l hl 0 0 (by omega) _ _ (by simp only [go_sem, reduceIte, Nat.reduceEqDiff, Nat.reduceAdd, Nat.reduceSub, Nat.reduceLeDiff, Nat.reduceLT, reduceCtorEq, Int.reduceLT, Int.reduceLE, Int.reduceEq, Int.reduceBEq, Int.reduceSub, Int.reduceAdd, Int.reduceMul, Int.reduceNeg, Int.reduceToNat, Nat.reduceMul, Nat.reduceBEq, Int.natCast_zero] <;> rfl)
    clear hg
    rw [if_pos rfl, if_pos rfl] at h2
    obtain ⟨rfl, h3⟩ := h2
    simp only [go_sem, reduceIte, Nat.reduceEqDiff, Nat.reduceAdd, Nat.reduceSub, Nat.reduceLeDiff, Nat.reduceLT, reduceCtorEq, Int.reduceLT, Int.reduceLE, Int.reduceEq, Int.reduceBEq, Int.reduceSub, Int.reduceAdd, Int.reduceMul, Int.reduceNeg, Int.reduceToNat, Nat.reduceMul, Nat.reduceBEq, h3]
  · rw [if_neg h]
    simp only [ir73, go_sem, reduceIte, Nat.reduceEqDiff, Nat.reduceAdd, Nat.reduceSub, Nat.reduceLeDiff, Nat.reduceLT, reduceCtorEq, Int.reduceLT, Int.reduceLE, Int.reduceEq, Int.reduceBEq, Int.reduceSub, Int.reduceAdd, Int.reduceMul, Int.reduceNeg, Int.reduceToNat, Nat.reduceMul, Nat.reduceBEq, h25]
    generalize chk n ps = c at *
    generalize hg : lim (headed pure (run L) _ _ lp73_0 _ _) _ _ = o
    obtain ⟨x, en, s, rfl, h2⟩ : ∃ x en s, o = some (x, en, s) ∧ (x = .exit 0 ∧ en.get 5 = I c) := by
      rw [← hg]
      refine loop_wp (α := Nat) (fun _ => 0) (fun _ => True) (fun _ => ([(1, sl 1 n2 (l.map I)), (2, .ptr 0 0), (5, I c), (6, I 0)], ⟨[bkCells nl n ps], []⟩)) (fun _ x_1 en s => x_1 = .exit 0 ∧ en.get 5 = I c) (fun _ hok => ?_) 0 trivial _ _ (by simp only [go_sem, reduceIte, Nat.reduceEqDiff, Nat.reduceAdd, Nat.reduceSub, Nat.reduceLeDiff, Nat.reduceLT, reduceCtorEq, Int.reduceLT, Int.reduceLE, Int.reduceEq, Int.reduceBEq, Int.reduceSub, Int.reduceAdd, Int.reduceMul, Int.reduceNeg, Int.reduceToNat, Nat.reduceMul, Nat.reduceBEq] <;> rfl)
      by_cases hl0 : 0 < l.length
      · have hlt : ((0 : Int) < (l.length : Int)) = True := eq_true (by omega)
        simp only [go_sem, reduceIte, Nat.reduceEqDiff, Nat.reduceAdd, Nat.reduceSub, Nat.reduceLeDiff, Nat.reduceLT, reduceCtorEq, Int.reduceLT, Int.reduceLE, Int.reduceEq, Int.reduceBEq, Int.reduceSub, Int.reduceAdd, Int.reduceMul, Int.reduceNeg, Int.reduceToNat, Nat.reduceMul, Nat.reduceBEq, index_rsl_if, setm, make_ints, condK_dec, wantK_dec, not_dec, and_dec, or_dec, seqK_ite, seqK_none, blockK_ite, blockK_none, opsK_ite, opsK_none, stepK_ite, stepK_none, bodyK_ite, bodyK_none, resK_ite, resK_none, leaveK_ite, leaveK_none, only_ite, only_none, bind_ite, gives_some, gives_none, gives_ite, then_normal, then_ret, then_exit, then_none, then_ite, Option.bind_none, Bool.not_eq_true', decide_eq_false_iff_not, Bool.and_eq_true, Bool.or_eq_true, Option.some.injEq, Int.not_lt, Int.not_le, lp73_0, hlt, h, List.length_map]
      · have hlt : ((0 : Int) < (l.length : Int)) = False := eq_false (by omega)
        simp only [go_sem, reduceIte, Nat.reduceEqDiff, Nat.reduceAdd, Nat.reduceSub, Nat.reduceLeDiff, Nat.reduceLT, reduceCtorEq, Int.reduceLT, Int.reduceLE, Int.reduceEq, Int.reduceBEq, Int.reduceSub, Int.reduceAdd, Int.reduceMul, Int.reduceNeg, Int.reduceToNat, Nat.reduceMul, Nat.reduceBEq, index_rsl_if, setm, make_ints, condK_dec, wantK_dec, not_dec, and_dec, or_dec, seqK_ite, seqK_none, blockK_ite, blockK_none, opsK_ite, opsK_none, stepK_ite, stepK_none, bodyK_ite, bodyK_none, resK_ite, resK_none, leaveK_ite, leaveK_none, only_ite, only_none, bind_ite, gives_some, gives_none, gives_ite, then_normal, then_ret, then_exit, then_none, then_ite, Option.bind_none, Bool.not_eq_true', decide_eq_false_iff_not, Bool.and_eq_true, Bool.or_eq_true, Option.some.injEq, Int.not_lt, Int.not_le, lp73_0, hlt, h, List.length_map]
    clear hg
    obtain ⟨rfl, h3⟩ := h2
    simp only [go_sem, reduceIte, Nat.reduceEqDiff, Nat.reduceAdd, Nat.reduceSub, Nat.reduceLeDiff, Nat.reduceLT, reduceCtorEq, Int.reduceLT, Int.reduceLE, Int.reduceEq, Int.reduceBEq, Int.reduceSub, Int.reduceAdd, Int.reduceMul, Int.reduceNeg, Int.reduceToNat, Nat.reduceMul, Nat.reduceBEq, h3]
def validER (n : Int) (ps : List (Int × Int)) (l : List Int) : Int := if listedE n ps l = 0 then validR n.toNat ps l else listedE n ps l
theorem c27 (nl n2 : Bool) (n : Int) (ps : List (Int × Int)) (l : List Int) (hl : l.length < 1000000) (st : St) : run L 27 [bkAV nl n ps, sl 1 n2 (l.map I)] st = some (I (validER n ps l), st) := by
  rw [run_pure (fn := ir27) rfl rfl]
  have h73 := fun st => c73 nl n2 n ps l hl st
  unfold validER
  by_cases h : listedE n ps l = 0
  · have hc : chk n ps = 0 := by
      unfold listedE at h
      split at h
      · assumption
      · exact h
    obtain ⟨h1, h2', h3, h4, h5⟩ := chk_zero hc
    obtain ⟨k, rfl⟩ := Int.eq_ofNat_of_zero_le (show 0 ≤ n by omega)
    have h69 := fun st => c69 nl n2 k (by omega) ps (by omega) l hl st
    rw [if_pos h, Int.toNat_natCast]
    simp only [ir27, go_sem, reduceIte, Nat.reduceEqDiff, Nat.reduceAdd, Nat.reduceSub, Nat.reduceLeDiff, Nat.reduceLT, reduceCtorEq, Int.reduceLT, Int.reduceLE, Int.reduceEq, Int.reduceBEq, Int.reduceSub, Int.reduceAdd, Int.reduceMul, Int.reduceNeg, Int.reduceToNat, Nat.reduceMul, Nat.reduceBEq, h73, h, h69]
  · rw [if_neg h]
    simp only [ir27, go_sem, reduceIte, Nat.reduceEqDiff, Nat.reduceAdd, Nat.reduceSub, Nat.reduceLeDiff, Nat.reduceLT, reduceCtorEq, Int.reduceLT, Int.reduceLE, Int.reduceEq, Int.reduceBEq, Int.reduceSub, Int.reduceAdd, Int.reduceMul, Int.reduceNeg, Int.reduceToNat, Nat.reduceMul, Nat.reduceBEq, h73, h]


/-! ### a list of lists that grows -/
def oAV (X : List (List Int)) : AV := loc 1 0 (X.map tAV)
def oT (X : List (List Int)) : List Nat := locT 0 (X.map tAV)
def oAcc (X : List (List Int)) : List (Nat × Nat) := if (X.map tAV).length = 0 then [] else [(0, (X.map tAV).length)]
theorem okRef_o (n : Nat) (X : List (List Int)) : okRef n (oAV X) = true := okRef_loc _ _ _ _
theorem ren1_o (X : List (List Int)) : ren1 0 (oT X) [] (oAV X) = (oAV X, oAcc X) := ren1_loc (k := 0) 1 (X.map tAV)
theorem oAcc_snd (X : List (List Int)) : (oAcc X).map (fun x => x.2) = oT X := by
  unfold oAcc oT locT; split <;> rfl
theorem fin_o (st : St) (X : List (List Int)) : fin st (oAV X) = sl 1 true (X.map tAV) := fin_loc st 1 0 _
theorem append_o (X : List (List Int)) (x : List Int) (S : List (List AV)) (h : X.length < 1000) : appendAV 1 (oAV X) [tAV x] ⟨S, oT X⟩ = some (oAV (X ++ [x]), ⟨S, oT (X ++ [x])⟩) :=
  append_locm (z := 1) (k := 0) tAV X x S (by omega) (by simp [maxGrow]; omega)
theorem o_start : .v (.slice none 0 0) = oAV [] := rfl
theorem oT_nil : oT [] = [] := rfl
theorem index_t (nl : Bool) (xs : List (List Int)) (i : Nat) (h : i < xs.length) : indexSAV 1 (sl 1 nl (xs.map tAV)) (.v (.int .i64 i)) = some (.eptr (tAV xs[i]) 0) := by
  rw [index_sl _ _ _ _ _ (by omega) (by simpa using h)]
  simp
theorem len_t (nl : Bool) (X : List (List Int)) : lenAV (sl 1 nl (X.map tAV)) = some (I X.length) := by rw [len_sl]; simp
attribute [local go_sem] shaped_t cells_t isAgg_t storable_t okRef_t pub_t okRef_o fin_o

theorem loop21 (nl : Bool) (n : Nat) (hn : n ≤ 7) (ps : List (Int × Int)) (hlen : ps.length < 1000000) (Y : List (List Int)) (hY : Y.length ≤ 128) (hl : ∀ l ∈ Y, l.length < 1000000) (i : Nat) (X : List (List Int)) (hok : i ≤ Y.length ∧ X.length ≤ i) (env : Env) (st : St)
    (hg : gcAV true 1 0 (canon env [1, 5, 6, 7]) st = ([(1, .ptr 0 0), (5, oAV X), (6, sl 1 true (Y.map tAV)), (7, I i)], ⟨[bkCells nl (n : Int) ps], oT X⟩)) :
    ∃ x_1 en s, lim (headed pure (run L) true [1, 5, 6, 7] lp21_0 1 0) env st = some (x_1, en, s) ∧ (x_1 = .exit 0 ∧ en.get 5 = oAV (X ++ (Y.drop i).filter fun l => decide (validR n ps l = 0))) := by
  refine loop_wp (α := Nat × List (List Int)) (fun ⟨i, X⟩ => Y.length - i) (fun ⟨i, X⟩ => i ≤ Y.length ∧ X.length ≤ i) (fun ⟨i, X⟩ => ([(1, .ptr 0 0), (5, oAV X), (6, sl 1 true (Y.map tAV)), (7, I i)], ⟨[bkCells nl (n : Int) ps], oT X⟩)) (fun ⟨i, X⟩ x_1 en s => x_1 = .exit 0 ∧ en.get 5 = oAV (X ++ (Y.drop i).filter fun l => decide (validR n ps l = 0))) (fun ⟨i, X⟩ hok => ?_) ⟨i, X⟩ hok env st hg
  simp only at hok
  obtain ⟨h1, h2⟩ := hok
  dsimp only at h1 h2 ⊢
  by_cases h : i < Y.length
  · have hx := index_t true Y i h
    have hs := succ64 i (by omega)
    have hd : Y.drop i = Y[i] :: Y.drop (i + 1) := List.drop_eq_getElem_cons h
    have hll := hl Y[i] (List.getElem_mem h)
    have hlY := len_t true Y
    rw [hd]
    generalize Y[i] = l at *
    have hlt : ((i : Int) < (Y.length : Int)) = True := eq_true (by omega)
    have h69 : ∀ st, run L 69 [bkAV nl (n : Int) ps, tAV l] st = some (I (validR n ps l), st) := fun st => c69 nl true n (by omega) ps hlen l hll st
    have happ := fun S => append_o X l S (by omega)
    by_cases p : validR n ps l = 0
    · rw [List.filter_cons_of_pos (by simpa using p)]
      simp only [go_sem, reduceIte, Nat.reduceEqDiff, Nat.reduceAdd, Nat.reduceSub, Nat.reduceLeDiff, Nat.reduceLT, reduceCtorEq, Int.reduceLT, Int.reduceLE, Int.reduceEq, Int.reduceBEq, Int.reduceSub, Int.reduceAdd, Int.reduceMul, Int.reduceNeg, Int.reduceToNat, Nat.reduceMul, Nat.reduceBEq, index_rsl_if, setm, make_ints, condK_dec, wantK_dec, not_dec, and_dec, or_dec, seqK_ite, seqK_none, blockK_ite, blockK_none, opsK_ite, opsK_none, stepK_ite, stepK_none, bodyK_ite, bodyK_none, resK_ite, resK_none, leaveK_ite, leaveK_none, only_ite, only_none, bind_ite, gives_some, gives_none, gives_ite, then_normal, then_ret, then_exit, then_none, then_ite, Option.bind_none, Bool.not_eq_true', decide_eq_false_iff_not, Bool.and_eq_true, Bool.or_eq_true, Option.some.injEq, Int.not_lt, Int.not_le, lp21_0, hx, hlY, hlt, hs, h69, p, happ]
      refine ⟨(i + 1, X ++ [l]), by simp only [go_sem, reduceIte, Nat.reduceEqDiff, Nat.reduceAdd, Nat.reduceSub, Nat.reduceLeDiff, Nat.reduceLT, reduceCtorEq, Int.reduceLT, Int.reduceLE, Int.reduceEq, Int.reduceBEq, Int.reduceSub, Int.reduceAdd, Int.reduceMul, Int.reduceNeg, Int.reduceToNat, Nat.reduceMul, Nat.reduceBEq, ren1_locm, loc_tips, locT_eq, ren1_o, oAcc_snd] <;> rfl, ?_, ?_, fun x en s hq => ?_⟩
      · dsimp only; exact ⟨by omega, by simp; omega⟩
      · dsimp only; omega
      · simp only [List.append_assoc] at hq; exact hq
    · rw [List.filter_cons_of_neg (by simpa using p)]
      simp only [go_sem, reduceIte, Nat.reduceEqDiff, Nat.reduceAdd, Nat.reduceSub, Nat.reduceLeDiff, Nat.reduceLT, reduceCtorEq, Int.reduceLT, Int.reduceLE, Int.reduceEq, Int.reduceBEq, Int.reduceSub, Int.reduceAdd, Int.reduceMul, Int.reduceNeg, Int.reduceToNat, Nat.reduceMul, Nat.reduceBEq, index_rsl_if, setm, make_ints, condK_dec, wantK_dec, not_dec, and_dec, or_dec, seqK_ite, seqK_none, blockK_ite, blockK_none, opsK_ite, opsK_none, stepK_ite, stepK_none, bodyK_ite, bodyK_none, resK_ite, resK_none, leaveK_ite, leaveK_none, only_ite, only_none, bind_ite, gives_some, gives_none, gives_ite, then_normal, then_ret, then_exit, then_none, then_ite, Option.bind_none, Bool.not_eq_true', decide_eq_false_iff_not, Bool.and_eq_true, Bool.or_eq_true, Option.some.injEq, Int.not_lt, Int.not_le, lp21_0, hx, hlY, hlt, hs, h69, p]
      refine ⟨(i + 1, X), by simp only [go_sem, reduceIte, Nat.reduceEqDiff, Nat.reduceAdd, Nat.reduceSub, Nat.reduceLeDiff, Nat.reduceLT, reduceCtorEq, Int.reduceLT, Int.reduceLE, Int.reduceEq, Int.reduceBEq, Int.reduceSub, Int.reduceAdd, Int.reduceMul, Int.reduceNeg, Int.reduceToNat, Nat.reduceMul, Nat.reduceBEq, ren1_locm, loc_tips, locT_eq, ren1_o, oAcc_snd] <;> rfl, ?_, ?_, fun x en s hq => ?_⟩
      · dsimp only; exact ⟨by omega, by omega⟩
      · dsimp only; omega
      · exact hq
  · have hd : Y.drop i = [] := List.drop_eq_nil_of_le (by omega)
    have hlY := len_t true Y
    have hlt : ((i : Int) < (Y.length : Int)) = False := eq_false (by omega)
    rw [hd]
    simp only [go_sem, reduceIte, Nat.reduceEqDiff, Nat.reduceAdd, Nat.reduceSub, Nat.reduceLeDiff, Nat.reduceLT, reduceCtorEq, Int.reduceLT, Int.reduceLE, Int.reduceEq, Int.reduceBEq, Int.reduceSub, Int.reduceAdd, Int.reduceMul, Int.reduceNeg, Int.reduceToNat, Nat.reduceMul, Nat.reduceBEq, index_rsl_if, setm, make_ints, condK_dec, wantK_dec, not_dec, and_dec, or_dec, seqK_ite, seqK_none, blockK_ite, blockK_none, opsK_ite, opsK_none, stepK_ite, stepK_none, bodyK_ite, bodyK_none, resK_ite, resK_none, leaveK_ite, leaveK_none, only_ite, only_none, bind_ite, gives_some, gives_none, gives_ite, then_normal, then_ret, then_exit, then_none, then_ite, Option.bind_none, Bool.not_eq_true', decide_eq_false_iff_not, Bool.and_eq_true, Bool.or_eq_true, Option.some.injEq, Int.not_lt, Int.not_le, lp21_0, hlY, hlt]
    simp

def allR (n : Int) (ps : List (Int × Int)) : List (List Int) := if chk n ps = 0 then (subsL n.toNat).filter fun l => decide (validR n.toNat ps l = 0) else []
theorem subs_facts : ∀ n, n ≤ 7 → (subsL n).length ≤ 128 ∧ ∀ l ∈ subsL n, l.length ≤ 7 := by
  intro n hn
  have e : subsL n = sortL lexLt ((List.range' 0 (2 ^ n)).map memb) := (all_of sort_subs n (by omega)).symm
  rw [e]
  have hp := sortL_perm lexLt ((List.range' 0 (2 ^ n)).map memb)
  refine ⟨?_, fun l hl => ?_⟩
  · rw [hp.length_eq, List.length_map, List.length_range']
    exact Nat.pow_le_pow_right (n := 2) (by omega) (show n ≤ 7 by omega)
  · obtain ⟨m, _, rfl⟩ := List.mem_map.1 (hp.mem_iff.1 hl)
    exact memb_len m
theorem c21 (nl : Bool) (n : Int) (ps : List (Int × Int)) (st : St) : run L 21 [bkAV nl n ps] st = some (.tup [sl 1 true ((allR n ps).map tAV), I (chk n ps)], st) := by
  rw [run_pure (fn := ir21) rfl rfl]
  have h25 := fun st => c25 nl n ps st
  unfold allR
  by_cases h : chk n ps = 0
  · obtain ⟨h1, h2', h3, h4, h5⟩ := chk_zero h
    obtain ⟨k, rfl⟩ := Int.eq_ofNat_of_zero_le (show 0 ≤ n by omega)
    rw [if_pos h, Int.toNat_natCast]
    have h68 := fun st => c68 k (by omega) st
    obtain ⟨f1, f2⟩ := subs_facts k (by omega)
    simp only [ir21, go_sem, reduceIte, Nat.reduceEqDiff, Nat.reduceAdd, Nat.reduceSub, Nat.reduceLeDiff, Nat.reduceLT, reduceCtorEq, Int.reduceLT, Int.reduceLE, Int.reduceEq, Int.reduceBEq, Int.reduceSub, Int.reduceAdd, Int.reduceMul, Int.reduceNeg, Int.reduceToNat, Nat.reduceMul, Nat.reduceBEq, h25, h, h68]
    generalize hg : lim (headed pure (run L) true _ lp21_0 _ _) _ _ = o
    obtain ⟨x, en, s, rfl, h2⟩ : ∃ x en s, o = some (x, en, s) ∧ _ := by rw [← hg]; exact loop21 nl k (by omega) ps (by omega) (subsL k) f1 (fun l hl => by have := f2 l hl; omega) 0 [] ⟨by omega, by simp⟩ _ _ (by simp only [go_sem, reduceIte, Nat.reduceEqDiff, Nat.reduceAdd, Nat.reduceSub, Nat.reduceLeDiff, Nat.reduceLT, reduceCtorEq, Int.reduceLT, Int.reduceLE, Int.reduceEq, Int.reduceBEq, Int.reduceSub, Int.reduceAdd, Int.reduceMul, Int.reduceNeg, Int.reduceToNat, Nat.reduceMul, Nat.reduceBEq, ren1_o, oAcc_snd, o_start, oT_nil, Int.natCast_zero] <;> rfl)
    clear hg
    rw [List.drop_zero, List.nil_append] at h2
    obtain ⟨rfl, h3⟩ := h2
    simp only [go_sem, reduceIte, Nat.reduceEqDiff, Nat.reduceAdd, Nat.reduceSub, Nat.reduceLeDiff, Nat.reduceLT, reduceCtorEq, Int.reduceLT, Int.reduceLE, Int.reduceEq, Int.reduceBEq, Int.reduceSub, Int.reduceAdd, Int.reduceMul, Int.reduceNeg, Int.reduceToNat, Nat.reduceMul, Nat.reduceBEq, h3]
  · rw [if_neg h]
    simp only [ir21, go_sem, reduceIte, Nat.reduceEqDiff, Nat.reduceAdd, Nat.reduceSub, Nat.reduceLeDiff, Nat.reduceLT, reduceCtorEq, Int.reduceLT, Int.reduceLE, Int.reduceEq, Int.reduceBEq, Int.reduceSub, Int.reduceAdd, Int.reduceMul, Int.reduceNeg, Int.reduceToNat, Nat.reduceMul, Nat.reduceBEq, h25, h]
    rfl

attribute [local go_sem] shaped_t cells_t isAgg_t storable_t okRef_t pub_t

theorem c19 (nl : Bool) (n : Int) (ps : List (Int × Int)) (st : St) : run L 19 [bkAV nl n ps] st = some (.tup [tAV ((allR n ps).headD []), I (if chk n ps = 0 then (if (allR n ps).length = 0 then 12 else 0) else chk n ps)], st) := by
  rw [run_pure (fn := ir19) rfl rfl]
  have h21 := fun st => c21 nl n ps st
  by_cases h : chk n ps = 0
  · rw [if_pos h]
    generalize allR n ps = X at *
    cases X with
    | nil =>
      have h21' : ∀ st, run L 21 [bkAV nl n ps] st = some (.tup [.v (.slice none 0 0), I (chk n ps)], st) := h21
      simp only [ir19, go_sem, reduceIte, Nat.reduceEqDiff, Nat.reduceAdd, Nat.reduceSub, Nat.reduceLeDiff, Nat.reduceLT, reduceCtorEq, Int.reduceLT, Int.reduceLE, Int.reduceEq, Int.reduceBEq, Int.reduceSub, Int.reduceAdd, Int.reduceMul, Int.reduceNeg, Int.reduceToNat, Nat.reduceMul, Nat.reduceBEq, h21', h]
      rfl
    | cons x r =>
      have hi : indexSAV 1 (sl 1 true ((x :: r).map tAV)) (.v (.int .i64 0)) = some (.eptr (tAV x) 0) := by
        rw [index_sl _ _ _ _ _ (by omega) (by simp)]
        simp
      have hl0 : (((x :: r).length : Int) = 0) = False := eq_false (by simp; omega)
      have hl0' : ((x :: r).length = 0) = False := eq_false (by simp)
      have hlx := len_t true (x :: r)
      generalize (x :: r).length = m at *
      simp only [List.headD_cons]
      generalize sl 1 true ((x :: r).map tAV) = Y at *
      simp only [ir19, go_sem, reduceIte, Nat.reduceEqDiff, Nat.reduceAdd, Nat.reduceSub, Nat.reduceLeDiff, Nat.reduceLT, reduceCtorEq, Int.reduceLT, Int.reduceLE, Int.reduceEq, Int.reduceBEq, Int.reduceSub, Int.reduceAdd, Int.reduceMul, Int.reduceNeg, Int.reduceToNat, Nat.reduceMul, Nat.reduceBEq, h21, h, hlx, hi, hl0, hl0', fin_t]
  · rw [if_neg h]
    have e : allR n ps = [] := by unfold allR; rw [if_neg h]
    rw [e] at h21 ⊢
    have h21' : ∀ st, run L 21 [bkAV nl n ps] st = some (.tup [.v (.slice none 0 0), I (chk n ps)], st) := h21
    simp only [ir19, go_sem, reduceIte, Nat.reduceEqDiff, Nat.reduceAdd, Nat.reduceSub, Nat.reduceLeDiff, Nat.reduceLT, reduceCtorEq, Int.reduceLT, Int.reduceLE, Int.reduceEq, Int.reduceBEq, Int.reduceSub, Int.reduceAdd, Int.reduceMul, Int.reduceNeg, Int.reduceToNat, Nat.reduceMul, Nat.reduceBEq, h21', h]
    rfl

/-! ### the code and the reference say the same -/
theorem jdgL_val (w : List Nat) (m : Nat) : ∀ (l : List Nat) (op : Bool), jdgL w m op l = if l.any (fun x => decide (jdg1 w m x = 13)) = true then 13 else if (op || l.any fun x => decide (jdg1 w m x = 21)) = true then 21 else 0
  | [], op => by cases op <;> rfl
  | x :: r, op => by
    have ih := jdgL_val w m r
    simp only [jdgL]
    by_cases h : jdg1 w m x = 13
    · rw [if_pos h, if_pos (by simp [h])]
    · rw [if_neg h, ih]
      simp only [List.any_cons, h, decide_false, Bool.false_or, Bool.or_assoc]
      rfl
theorem valid_eq {n : Nat} (hn : n ≤ 7) {ps : List (Int × Int)} (hps : ∀ p ∈ ps, goodP (n : Int) p) (h7 : ∀ p ∈ ps, okP p) (l : List Int) (hl : ∀ x ∈ l, 0 ≤ x ∧ x < (n : Int)) : validR n ps l = jdg n (seeL 7 ps) (setL l) := by
  have hl7 : ∀ x ∈ l, 0 ≤ x ∧ x < 7 := fun x hx => by have := hl x hx; omega
  have hbit := setL_bit hl7
  have hand : ∀ x : Nat, (seeL 7 ps).getD x 0 &&& setL l = 0 ↔ ∀ y : Nat, (y : Int) ∈ l → ((x : Int), (y : Int)) ∉ ps := by
    intro x
    rw [and_zero]
    constructor
    · intro h y hy hp
      exact h y ⟨by rw [seeL_bit (by omega) h7]; simpa using hp, by rw [hbit]; simpa using hy⟩
    · rintro h y ⟨h1, h2⟩
      rw [seeL_bit (by omega) h7] at h1
      rw [hbit] at h2
      exact h y (by simpa using h2) (by simpa using h1)
  unfold jdg validR
  rw [jdgL_val]
  have e13 : (List.range' 0 n).any (fun x => decide (jdg1 (seeL 7 ps) (setL l) x = 13)) = ps.any (bothB l) := by
    rw [Bool.eq_iff_iff, List.any_eq_true, List.any_eq_true]
    constructor
    · rintro ⟨x, hx, h⟩
      rw [decide_eq_true_iff] at h
      unfold jdg1 at h
      split at h
      · next hb =>
        split at h
        · next hne =>
          rw [hbit, decide_eq_true_iff] at hb
          have := (not_congr (hand x)).1 hne
          rw [Classical.not_forall] at this
          obtain ⟨y, hy⟩ := this
          rw [Classical.not_imp, Classical.not_not] at hy
          exact ⟨_, hy.2, by unfold bothB; simp [hb, hy.1]⟩
        · omega
      · split at h <;> omega
    · rintro ⟨⟨u, v⟩, hp, h⟩
      have hg := hps _ hp
      unfold goodP at hg
      unfold bothB at h
      simp only [Bool.and_eq_true, decide_eq_true_eq] at h hg
      obtain ⟨a, rfl⟩ := Int.eq_ofNat_of_zero_le hg.1
      obtain ⟨b, rfl⟩ := Int.eq_ofNat_of_zero_le hg.2.2.1
      refine ⟨a, by rw [List.mem_range'_1]; omega, ?_⟩
      rw [decide_eq_true_iff]
      unfold jdg1
      rw [if_pos (by rw [hbit]; simpa using h.1), if_pos]
      intro e
      exact (hand a).1 e b h.2 hp
  have e21 : (List.range' 0 n).any (fun x => decide (jdg1 (seeL 7 ps) (setL l) x = 21)) = !(List.range' 0 n).all (metB ps l) := by
    rw [Bool.eq_iff_iff, List.any_eq_true, Bool.not_eq_true', ← Bool.not_eq_true, List.all_eq_true]
    constructor
    · rintro ⟨x, hx, h⟩ hall
      have hm := hall x hx
      rw [decide_eq_true_iff] at h
      unfold jdg1 at h
      split at h
      · split at h <;> omega
      · next hb =>
        split at h
        · next he =>
          rw [hbit, decide_eq_true_iff] at hb
          unfold metB at hm
          simp only [Bool.or_eq_true, decide_eq_true_eq, List.any_eq_true] at hm
          rcases hm with hm | ⟨c, hc, hm⟩
          · exact hb hm
          · obtain ⟨y, rfl⟩ := Int.eq_ofNat_of_zero_le (hl c hc).1
            exact (hand x).1 he y hc hm
        · omega
    · intro hall
      rw [Classical.not_forall] at hall
      obtain ⟨x, hx⟩ := hall
      rw [Classical.not_imp] at hx
      refine ⟨x, hx.1, ?_⟩
      have hm := hx.2
      unfold metB at hm
      simp only [Bool.or_eq_true, decide_eq_true_eq, List.any_eq_true, not_or] at hm
      rw [decide_eq_true_iff]
      unfold jdg1
      rw [if_neg (by rw [hbit]; simpa using hm.1), if_pos]
      rw [hand]
      exact fun y hy hp => hm.2 ⟨_, hy, hp⟩
  rw [e13, e21, Bool.false_or]
  by_cases p : ps.any (bothB l) = true
  · rw [if_pos p, if_pos p]
  · rw [if_neg p, if_neg p]
    cases (List.range' 0 n).all (metB ps l) <;> rfl
theorem setL_memb {m : Nat} (hm : m < 128) : setL (memb m) = m := by
  have hr : ∀ x ∈ memb m, 0 ≤ x ∧ x < 7 := by
    intro x hx
    unfold memb at hx
    obtain ⟨i, hi, rfl⟩ := List.mem_map.1 hx
    have := List.mem_range.1 (List.mem_filter.1 hi).1
    omega
  apply Nat.eq_of_testBit_eq
  intro b
  rw [setL_bit hr, Bool.eq_iff_iff, decide_eq_true_iff]
  unfold memb
  rw [List.mem_map]
  constructor
  · rintro ⟨i, hi, he⟩
    have hib : i = b := by omega
    subst hib
    exact (List.mem_filter.1 hi).2
  · intro h
    exact ⟨b, List.mem_filter.2 ⟨List.mem_range.2 (bit_lt (n := 7) hm h), h⟩, rfl⟩
theorem sort_filter (P : List Int → Bool) (A : List (List Int)) : (sortL lexLt A).filter P = sortL lexLt (A.filter P) := by
  refine sorted_unique lexLt lex_total _ _ ?_ ?_ ?_
  · exact ((sortL_perm lexLt A).filter P).trans (sortL_perm lexLt (A.filter P)).symm
  · exact (sortL_sorted lexLt (fun a b h => lex_asymm h) lex_h2 A).filter P
  · exact sortL_sorted lexLt (fun a b h => lex_asymm h) lex_h2 _
theorem all_eq (n : Int) (ps : List (Int × Int)) : allR n ps = allV n ps := by
  unfold allR allV
  by_cases h : chk n ps = 0
  · rw [if_pos h, if_pos h]
    obtain ⟨h1, h2', h3, h4, h5⟩ := chk_zero h
    obtain ⟨k, rfl⟩ := Int.eq_ofNat_of_zero_le (show 0 ≤ n by omega)
    rw [Int.toNat_natCast]
    have e : subsL k = sortL lexLt ((List.range' 0 (2 ^ k)).map memb) := (all_of sort_subs k (by omega)).symm
    have h128 : 2 ^ k ≤ 128 := Nat.pow_le_pow_right (by omega) (show k ≤ 7 by omega)
    rw [e, sort_filter, List.filter_map]
    unfold chosL kerL
    congr 2
    apply List.filter_congr
    intro m hm
    rw [List.mem_range'_1] at hm
    have hin : ∀ x ∈ memb m, 0 ≤ x ∧ x < (k : Int) := by
      intro x hx
      unfold memb at hx
      obtain ⟨i, hi, rfl⟩ := List.mem_map.1 hx
      have := bit_lt (n := k) (by omega) (List.mem_filter.1 hi).2
      omega
    simp only [Function.comp]
    rw [valid_eq (by omega) (fun p hp => h3 p hp) h4 _ hin, setL_memb (by omega)]
  · rw [if_neg h, if_neg h]
theorem setErr_in {n : Int} : ∀ {l : List Int} {last : Int}, setErr n last l = 0 → ∀ x ∈ l, 0 ≤ x ∧ x < n
  | [], _, _, x, hx => by simp at hx
  | a :: r, last, h, x, hx => by
    simp only [setErr] at h
    split at h
    · omega
    · split at h
      · omega
      · rcases List.mem_cons.1 hx with rfl | hx
        · omega
        · exact setErr_in h x hx
theorem validE_eq (n : Int) (ps : List (Int × Int)) (l : List Int) : validER n ps l = validE n ps l := by
  unfold validER validE listedE
  by_cases h : chk n ps = 0
  · rw [if_pos h, if_pos h]
    by_cases p : setErr n (-1) l = 0
    · rw [if_pos p, if_pos p]
      obtain ⟨h1, h2', h3, h4, h5⟩ := chk_zero h
      obtain ⟨k, rfl⟩ := Int.eq_ofNat_of_zero_le (show 0 ≤ n by omega)
      rw [Int.toNat_natCast]
      exact valid_eq (by omega) (fun p hp => h3 p hp) h4 l (setErr_in p)
    · rw [if_neg p, if_neg p]
  · rw [if_neg h, if_neg h, if_neg h]

attribute [local go_sem] shaped_t cells_t isAgg_t storable_t okRef_t pub_t

theorem allV_facts (n : Int) (ps : List (Int × Int)) : (allV n ps).length ≤ 12 ∧ ∀ l ∈ allV n ps, l ≠ [] ∧ l.length ≤ 7 := by
  unfold allV
  by_cases h : chk n ps = 0
  · rw [if_pos h]
    obtain ⟨h1, h2', h3, h4, h5⟩ := chk_zero h
    obtain ⟨k, rfl⟩ := Int.eq_ofNat_of_zero_le (show 0 ≤ n by omega)
    rw [Int.toNat_natCast]
    refine ⟨?_, chos_ne (by omega) (by omega)⟩
    unfold chosL
    rw [(sortL_perm lexLt _).length_eq]
    exact ker12 (by omega) (fun p hp => h3 p hp) h4
  · rw [if_neg h]; simp
set_option maxHeartbeats 1000000 in
theorem c3 (nl n2 : Bool) (n : Int) (ps : List (Int × Int)) (l : List Int) (st : St) : run L 3 [bkAV nl n ps, sl 1 n2 (l.map I)] st = some (B true, st) := by
  rw [run_pure (fn := ir3) rfl rfl]
  by_cases p1 : 40 < ps.length
  · have q1 : ((40 : Int) < (ps.length : Int)) = True := eq_true (by omega)
    simp only [ir3, go_sem, reduceIte, Nat.reduceEqDiff, Nat.reduceAdd, Nat.reduceSub, Nat.reduceLeDiff, Nat.reduceLT, reduceCtorEq, Int.reduceLT, Int.reduceLE, Int.reduceEq, Int.reduceBEq, Int.reduceSub, Int.reduceAdd, Int.reduceMul, Int.reduceNeg, Int.reduceToNat, Nat.reduceMul, Nat.reduceBEq, List.length_map, q1, c17]
  · have q1 : ((40 : Int) < (ps.length : Int)) = False := eq_false (by omega)
    by_cases p2 : 40 < l.length
    · have q2 : ((40 : Int) < (l.length : Int)) = True := eq_true (by omega)
      simp only [ir3, go_sem, reduceIte, Nat.reduceEqDiff, Nat.reduceAdd, Nat.reduceSub, Nat.reduceLeDiff, Nat.reduceLT, reduceCtorEq, Int.reduceLT, Int.reduceLE, Int.reduceEq, Int.reduceBEq, Int.reduceSub, Int.reduceAdd, Int.reduceMul, Int.reduceNeg, Int.reduceToNat, Nat.reduceMul, Nat.reduceBEq, List.length_map, q1, q2, c17]
    · have q2 : ((40 : Int) < (l.length : Int)) = False := eq_false (by omega)
      have h18 := fun st => c18 nl n ps st
      have h19 := fun st => c19 nl n ps st
      have h20 := fun st => c20 nl n ps st
      have h21 := fun st => c21 nl n ps st
      have h24 := fun st => c24 nl n ps st
      have h25 := fun st => c25 nl n ps st
      have h26 := fun st => c26 nl n2 n ps l (by omega) st
      have h27 := fun st => c27 nl n2 n ps l (by omega) st
      rw [all_eq] at h19 h21
      rw [validE_eq] at h27
      obtain ⟨f1, f2⟩ := allV_facts n ps
      have hx : ((allV n ps).headD []).length ≤ 7 := by
        cases e : allV n ps with
        | nil => simp
        | cons x r => rw [e] at f2; exact (f2 x (by simp)).2
      have h22 : ∀ st, run L 22 [tAV ((allV n ps).headD []), tAV ((allV n ps).headD [])] st = some (B true, st) := fun st => by
        have := c22 true true ((allV n ps).headD []) ((allV n ps).headD []) (by omega) st
        rw [decide_eq_true rfl] at this
        exact this
      have h23 : ∀ st, run L 23 [sl 1 true ((allV n ps).map tAV), sl 1 true ((allV n ps).map tAV)] st = some (B true, st) := fun st => by
        have := c23t true true (allV n ps) (allV n ps) (by omega) (fun l hl => by have := (f2 l hl).2; omega) (fun l hl => (f2 l hl).1) (fun l hl => (f2 l hl).1) st
        rw [decide_eq_true rfl] at this
        exact this
      generalize tAV ((allV n ps).headD []) = X at *
      generalize sl 1 true ((allV n ps).map tAV) = Y at *
      generalize (if chk n ps = 0 then (if (allV n ps).length = 0 then (12 : Int) else 0) else chk n ps) = e1 at *
      generalize chk n ps = e2 at *
      generalize validE n ps l = e3 at *
      simp only [ir3, go_sem, reduceIte, Nat.reduceEqDiff, Nat.reduceAdd, Nat.reduceSub, Nat.reduceLeDiff, Nat.reduceLT, reduceCtorEq, Int.reduceLT, Int.reduceLE, Int.reduceEq, Int.reduceBEq, Int.reduceSub, Int.reduceAdd, Int.reduceMul, Int.reduceNeg, Int.reduceToNat, Nat.reduceMul, Nat.reduceBEq, List.length_map, q1, q2, c17, h18, h19, h20, h21, h22, h23, h24, h25, h26, h27]
end Go.Proofs.YtgohohiaaiogcaaDoor.Vm
