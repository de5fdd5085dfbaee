/- What is proved: what each function of this program computes, as equations on the evaluator. No condition. -/
import Derived.Test.YtgohohiaaiogcaaDoorC2
import Derived.Test.YtgohohiaaiogcaaDoorS0
set_option linter.all false
namespace Go.Proofs.YtgohohiaaiogcaaDoor.Vm
open Go Go.Ev
set_option maxRecDepth 100000
attribute [local go_sem] cells_any storable_any ren1_any shaped_ptr cells_ptr storable_ptr ren1_ptr shaped_eptr cells_eptr storable_eptr ren1_eptr shaped_rsl cells_rsl storable_rsl ren1_rsl shaped_int cells_int storable_int ren1_int shaped_bool cells_bool storable_bool ren1_bool shaped_nils cells_nils storable_nils ren1_nils shaped_lst cells_lst storable_lst shaped_fn cells_fn storable_fn ren1_fn shaped_ifc cells_ifc storable_ifc ren1_ifc shaped_agg cells_agg storable_agg ren1_agg shaped_tup cells_tup storable_tup ren1_tup shaped_nif cells_nif storable_nif ren1_nif ren1_lany ren1_lfull ren1_lown len_lst len_rsl len_nil load_ptr load_eptr isRsl_lst isRsl_nil isRsl_rsl elems_nil elems_lst elems_sl isRsl_sl body_eq bodyK_normal bodyK_ret resK_some leaveK_some only_some code_skip code_exit code_ret code_ops code_seq code_cond code_block seqK_normal seqK_ret seqK_exit condK_true condK_false blockK_normal blockK_ret blockK_exit opsK_some ops_nil ops_cons wantK_true wantK_false stepK_some pubs pub pub_sl params okRef_loc storable_loc shaped_loc cells_loc isRsl_loc elems_loc len_loc untips untip untip_sl wantedAV setElems withO isAgg_v isAgg_agg isAgg_lst isAgg_ptr isAgg_fn isAgg_ifc isAgg_rsl isAgg_sl isAgg_loc List.replicate_succ List.replicate_zero opAV valAV aval avals ofVal Env.get setD canon gcAV renAll renEnv renStore renCells ren1_sl cutSt okEnv okStore okRefs okRef okRef_sl bin_int bin_bool bin_lst bin_rsl bin_nil bin_agg cellsEq cellEq isShift intOp boolOp min_int max_int beq_int bne resAV tupAV leave_eq fin_sl fin_loc fins fin_v fin_lst fin_agg fin_tup fin_fn storeAV readCells putCells cells_sl shaped_sl storable_sl fieldAddrAV len_sl goI List.getElem?_cons_zero List.getElem?_cons_succ List.getElem?_nil Option.bind_some Option.map_some List.length_cons List.length_nil List.all_cons List.all_nil Bool.and_true Bool.true_and Bool.and_false Bool.false_and and_true true_and and_false false_and Bool.false_eq_true List.set_cons_zero List.set_cons_succ List.append_nil List.nil_append List.cons_append List.take_zero List.take_succ_cons List.take_nil List.drop_zero List.drop_succ_cons List.map_cons List.map_nil decide_true decide_false beq_self_eq_true Bool.not_true Bool.not_false or_true true_or or_false false_or Nat.zero_add Nat.add_zero Nat.le_refl Nat.lt_irrefl decide_eq_true_eq eq_self_iff_true not_true_eq_false not_false_eq_true List.getD_cons_zero code_loop Nat.zero_le Nat.not_lt_zero Bool.true_beq Bool.false_beq beq_true beq_false ge_iff_le gt_iff_lt keepR keepT ownTop Lpure pus Option.map_none assert_ifc assert_nil idxA_ptr idxA_eptr idxV_agg Int.cast_ofNat_Int Nat.mul_one Nat.zero_mul Int.toNat_natCast Int.toNat_zero setParts withO2 hasKey eqnil_sl nenil_sl eqnil_loc nenil_loc map_nil_iff okRefs_ints renCells_ints
attribute [local go_sem] shaped_t cells_t isAgg_t storable_t okRef_t pub_t okRef_out storable_out shaped_out cells_out fin_out pub_out

set_option maxHeartbeats 2000000 in
theorem loop16_3a (zs ys : List Int) (n : Nat) (hn : n ≤ 7) (ps oo : List (Int × Int)) (N : List Nat) (hN : N.length = n) (C : List (List Int)) (hC : ∀ c ∈ C, validE (n : Int) oo (sortL ltI (toL N c)) = 0 ∧ (∀ x ∈ c, 0 ≤ x ∧ x < (n : Int)) ∧ c.length ≤ 7 ∧ c ≠ []) (hCl : C.length ≤ 12) (k : Nat) (hok : k ≤ C.length) (env : Env) (st : St)
    (hg : gcAV true 5 0 (canon env [5, 6, 9, 143, 144, 145]) st = ([(5, .ptr 2 0), (6, .rsl 3 0 n n 1 false), (9, .ptr 4 0), (143, sl 1 true (C.map tAV)), (144, I C.length), (145, J k)], ⟨[zs.map B8, ys.map B8, bkCells true (n : Int) ps, N.map J, bkCells true (n : Int) oo], []⟩)) :
    ∃ x_1 en s, lim (headed pure (run L) true [5, 6, 9, 143, 144, 145] lp16_3 5 0) env st = some (x_1, en, s) ∧ (x_1 = .exit 4 ∧ en.get 5 = .ptr 2 0 ∧ en.get 6 = .rsl 3 0 n n 1 false ∧ en.get 9 = .ptr 4 0 ∧ s = ⟨[zs.map B8, ys.map B8, bkCells true (n : Int) ps, N.map J, bkCells true (n : Int) oo], []⟩) := by
  refine loop_wp (α := Nat) (fun k => C.length - k) (fun k => k ≤ C.length) (fun k => ([(5, .ptr 2 0), (6, .rsl 3 0 n n 1 false), (9, .ptr 4 0), (143, sl 1 true (C.map tAV)), (144, I C.length), (145, J k)], ⟨[zs.map B8, ys.map B8, bkCells true (n : Int) ps, N.map J, bkCells true (n : Int) oo], []⟩)) (fun k x_1 en s => x_1 = .exit 4 ∧ en.get 5 = .ptr 2 0 ∧ en.get 6 = .rsl 3 0 n n 1 false ∧ en.get 9 = .ptr 4 0 ∧ s = ⟨[zs.map B8, ys.map B8, bkCells true (n : Int) ps, N.map J, bkCells true (n : Int) oo], []⟩) (fun k hok => ?_) k hok env st hg
  by_cases h : k < C.length
  · have hx := index_t true C k h
    have hs := succ64 k (by omega)
    have hlt : ((k : Int) < (C.length : Int)) = True := eq_true (by omega)
    obtain ⟨v1, v2, v3, v4⟩ := hC _ (List.getElem_mem h)
    generalize C[k] = c at *
    have hlc := len_tAV c
    have eA0 : taA [] = .v (.slice none 0 0) := rfl
    have eS0 : tS [] = [] := rfl
    simp only [go_sem, reduceIte, Nat.reduceEqDiff, Nat.reduceAdd, Nat.reduceSub, Nat.reduceLeDiff, Nat.reduceLT, reduceCtorEq, Int.reduceLT, Int.reduceLE, Int.reduceEq, Int.reduceBEq, Int.reduceSub, Int.reduceAdd, Int.reduceMul, Int.reduceNeg, Int.reduceToNat, Nat.reduceMul, Nat.reduceBEq, index_rsl_if, setm, make_ints, condK_dec, wantK_dec, not_dec, and_dec, or_dec, seqK_ite, seqK_none, blockK_ite, blockK_none, opsK_ite, opsK_none, stepK_ite, stepK_none, bodyK_ite, bodyK_none, resK_ite, resK_none, leaveK_ite, leaveK_none, only_ite, only_none, bind_ite, gives_some, gives_none, gives_ite, then_normal, then_ret, then_exit, then_none, then_ite, Option.bind_none, Bool.not_eq_true', decide_eq_false_iff_not, Bool.and_eq_true, Bool.or_eq_true, Option.some.injEq, Int.not_lt, Int.not_le, lp16_3, hlt, hs, hx, hlc]
    generalize hg : lim (headed pure (run L) true _ lp16_2 _ _) _ _ = o
    obtain ⟨x, en, s, rfl, h2⟩ : ∃ x en s, o = some (x, en, s) ∧ _ := by rw [← hg]; exact loop16_2a zs ys n hn ps oo N hN C k c v3 v2 0 [] ⟨by omega, by simp⟩ _ _ (by simp only [go_sem, reduceIte, Nat.reduceEqDiff, Nat.reduceAdd, Nat.reduceSub, Nat.reduceLeDiff, Nat.reduceLT, reduceCtorEq, Int.reduceLT, Int.reduceLE, Int.reduceEq, Int.reduceBEq, Int.reduceSub, Int.reduceAdd, Int.reduceMul, Int.reduceNeg, Int.reduceToNat, Nat.reduceMul, Nat.reduceBEq, eA0, eS0, ren1_t', okRefsB, renCellsB, okRefsJ, renCellsJ, refsL_B, mapLs_B, refsL_J, mapLs_J, refsV_t, mapL_t, compact, compactW, refsEnv, refsV, refsL, refsStore, refsAt, mapEnv, mapL, mapLs, newName, posOf, mapStore, pickStore, namesOk, refsV_sl, mapL_sl, List.contains_nil, List.contains_cons, Option.getD_some, hasKey, Int.natCast_zero] <;> rfl)
    clear hg
    rw [List.nil_append, List.drop_zero] at h2
    have hl := toL_len N c
    have hne : toL N c ≠ [] := fun e => v4 (List.eq_nil_of_length_eq_zero (by rw [← hl, e]; rfl))
    have hpos : 1 ≤ (toL N c).length := List.length_pos_iff.2 hne
    rw [taA_ne hne, tS_ne hne] at h2
    obtain ⟨rfl, e5, e6, e9, e22, e143, e144, e145, rfl⟩ := h2
    have h64 := c64 [zs.map B8, ys.map B8, bkCells true (n : Int) ps, N.map J, bkCells true (n : Int) oo, (toL N c).map I] [] 5 (toL N c) rfl hpos (by omega)
    have hset : ∀ d : List AV, [zs.map B8, ys.map B8, bkCells true (n : Int) ps, N.map J, bkCells true (n : Int) oo, (toL N c).map I].set 5 d = [zs.map B8, ys.map B8, bkCells true (n : Int) ps, N.map J, bkCells true (n : Int) oo, d] := fun d => rfl
    rw [hset] at h64
    have hperm := (sortL_perm ltI (toL N c)).length_eq
    generalize sortL ltI (toL N c) = z at *
    have hzne : z ≠ [] := by intro e; rw [e] at hperm; simp at hperm; omega
    have hfz := fun T env => frzL5b (a := zs.map B8) (b := ys.map B8) (c := bkCells true (n : Int) ps) (d := N.map J) (e := bkCells true (n : Int) oo) (cs := z.map I) (by simpa using hzne) T env
    have hfv := frzV_J2 5 z hzne
    rw [hperm] at hfv
    have hf3 : frzV 5 (z.map I) (.rsl 3 0 n n 1 false) = .rsl 3 0 n n 1 false := by simp [frzV]
    have h26 : ∀ st, run L 26 [bkAV true (n : Int) oo, tAV z] st = some (I 0, st) := fun st => by
      have := c26 true true (n : Int) oo z (by omega) st
      rw [v1] at this
      exact this
    simp only [go_sem, reduceIte, Nat.reduceEqDiff, Nat.reduceAdd, Nat.reduceSub, Nat.reduceLeDiff, Nat.reduceLT, reduceCtorEq, Int.reduceLT, Int.reduceLE, Int.reduceEq, Int.reduceBEq, Int.reduceSub, Int.reduceAdd, Int.reduceMul, Int.reduceNeg, Int.reduceToNat, Nat.reduceMul, Nat.reduceBEq, index_rsl_if, setm, make_ints, condK_dec, wantK_dec, not_dec, and_dec, or_dec, seqK_ite, seqK_none, blockK_ite, blockK_none, opsK_ite, opsK_none, stepK_ite, stepK_none, bodyK_ite, bodyK_none, resK_ite, resK_none, leaveK_ite, leaveK_none, only_ite, only_none, bind_ite, gives_some, gives_none, gives_ite, then_normal, then_ret, then_exit, then_none, then_ite, Option.bind_none, Bool.not_eq_true', decide_eq_false_iff_not, Bool.and_eq_true, Bool.or_eq_true, Option.some.injEq, Int.not_lt, Int.not_le, lp16_3, hs, e5, e6, e9, e22, e143, e144, e145, h64, show pure 64 = false from rfl, code_frz, frzAV, frzT, frzLs, rslsOf, hfz, frzEnv, frzEnv_get, frzStore, frzVs, frzV_v, frzV_ptr, frzV_sl, hfv, hf3, frzV_tA, frzVs_B8, frzVs_J, frzVs_sl2, h26]
    refine ⟨k + 1, by simp only [go_sem, reduceIte, Nat.reduceEqDiff, Nat.reduceAdd, Nat.reduceSub, Nat.reduceLeDiff, Nat.reduceLT, reduceCtorEq, Int.reduceLT, Int.reduceLE, Int.reduceEq, Int.reduceBEq, Int.reduceSub, Int.reduceAdd, Int.reduceMul, Int.reduceNeg, Int.reduceToNat, Nat.reduceMul, Nat.reduceBEq, ren1_locm, loc_tips, locT_eq, e5, e6, e9, e143, e144, e145, frzEnv_get, frzV_v, frzV_ptr, frzV_sl, hf3, ren1_t', okRefsB, renCellsB, okRefsJ, renCellsJ] <;> rfl, ?_, ?_, fun x en s hq => ?_⟩
    · omega
    · omega
    · exact hq
  · have hlt : ((k : Int) < (C.length : Int)) = False := eq_false (by omega)
    simp only [go_sem, reduceIte, Nat.reduceEqDiff, Nat.reduceAdd, Nat.reduceSub, Nat.reduceLeDiff, Nat.reduceLT, reduceCtorEq, Int.reduceLT, Int.reduceLE, Int.reduceEq, Int.reduceBEq, Int.reduceSub, Int.reduceAdd, Int.reduceMul, Int.reduceNeg, Int.reduceToNat, Nat.reduceMul, Nat.reduceBEq, index_rsl_if, setm, make_ints, condK_dec, wantK_dec, not_dec, and_dec, or_dec, seqK_ite, seqK_none, blockK_ite, blockK_none, opsK_ite, opsK_none, stepK_ite, stepK_none, bodyK_ite, bodyK_none, resK_ite, resK_none, leaveK_ite, leaveK_none, only_ite, only_none, bind_ite, gives_some, gives_none, gives_ite, then_normal, then_ret, then_exit, then_none, then_ite, Option.bind_none, Bool.not_eq_true', decide_eq_false_iff_not, Bool.and_eq_true, Bool.or_eq_true, Option.some.injEq, Int.not_lt, Int.not_le, lp16_3, hlt]

theorem loop16_4a (zs ys : List Int) (n : Nat) (hn : n ≤ 7) (ps oo : List (Int × Int)) (N : List Nat) (hN : N.length = n) (xs ws : List Int) (hxl : xs.length ≤ 1000) (hxy : ∀ i, i < xs.length → i < n ∧ N.getD i 0 < ws.length ∧ ws.getD (N.getD i 0) (-1) = xs.getD i (-1)) (i : Nat) (hok : i ≤ xs.length) (env : Env) (st : St)
    (hg : gcAV true 5 0 (canon env [6, 28, 232, 233, 234]) st = ([(6, .rsl 3 0 n n 1 false), (28, tAV ws), (232, tAV xs), (233, I xs.length), (234, J i)], ⟨[zs.map B8, ys.map B8, bkCells true (n : Int) ps, N.map J, bkCells true (n : Int) oo], []⟩)) :
    ∃ x_1 en s, lim (headed pure (run L) true [6, 28, 232, 233, 234] lp16_4 5 0) env st = some (x_1, en, s) ∧ (x_1 = .exit 8) := by
  refine loop_wp (α := Nat) (fun i => xs.length - i) (fun i => i ≤ xs.length) (fun i => ([(6, .rsl 3 0 n n 1 false), (28, tAV ws), (232, tAV xs), (233, I xs.length), (234, J i)], ⟨[zs.map B8, ys.map B8, bkCells true (n : Int) ps, N.map J, bkCells true (n : Int) oo], []⟩)) (fun i x_1 en s => x_1 = .exit 8) (fun i hok => ?_) i hok env st hg
  by_cases h : i < xs.length
  · obtain ⟨q1, q2, q3⟩ := hxy i h
    have hx : indexSAV 1 (tAV xs) (.v (.int .i64 (i : Int))) = some (.eptr (I xs[i]) 0) := index_ints true xs i h
    have hy : indexSAV 1 (tAV ws) (.v (.int .i64 ((N.getD i 0 : Nat) : Int))) = some (.eptr (I ws[N.getD i 0]) 0) := index_ints true ws (N.getD i 0) q2
    have e1 : ws[N.getD i 0] = xs[i] := by
      rw [List.getD_eq_getElem?_getD (l := ws), List.getElem?_eq_getElem q2, List.getD_eq_getElem?_getD (l := xs), List.getElem?_eq_getElem h] at q3
      exact q3
    rw [e1] at hy
    clear e1 q3
    have hs := succ64 i (by omega)
    have hlt : ((i : Int) < (xs.length : Int)) = True := eq_true (by omega)
    have g1 := getJ N i (by omega)
    have b3 : ((0 : Int) ≤ (i : Int)) = True := eq_true (by omega)
    have b4 : ((i : Int) < (n : Int)) = True := eq_true (by omega)
    generalize xs[i] = v at *
    generalize N.getD i 0 = p at *
    simp only [go_sem, reduceIte, Nat.reduceEqDiff, Nat.reduceAdd, Nat.reduceSub, Nat.reduceLeDiff, Nat.reduceLT, reduceCtorEq, Int.reduceLT, Int.reduceLE, Int.reduceEq, Int.reduceBEq, Int.reduceSub, Int.reduceAdd, Int.reduceMul, Int.reduceNeg, Int.reduceToNat, Nat.reduceMul, Nat.reduceBEq, index_rsl_if, setm, make_ints, condK_dec, wantK_dec, not_dec, and_dec, or_dec, seqK_ite, seqK_none, blockK_ite, blockK_none, opsK_ite, opsK_none, stepK_ite, stepK_none, bodyK_ite, bodyK_none, resK_ite, resK_none, leaveK_ite, leaveK_none, only_ite, only_none, bind_ite, gives_some, gives_none, gives_ite, then_normal, then_ret, then_exit, then_none, then_ite, Option.bind_none, Bool.not_eq_true', decide_eq_false_iff_not, Bool.and_eq_true, Bool.or_eq_true, Option.some.injEq, Int.not_lt, Int.not_le, lp16_4, hlt, hs, hx, g1, hy, b3, b4]
    refine ⟨i + 1, by simp only [go_sem, reduceIte, Nat.reduceEqDiff, Nat.reduceAdd, Nat.reduceSub, Nat.reduceLeDiff, Nat.reduceLT, reduceCtorEq, Int.reduceLT, Int.reduceLE, Int.reduceEq, Int.reduceBEq, Int.reduceSub, Int.reduceAdd, Int.reduceMul, Int.reduceNeg, Int.reduceToNat, Nat.reduceMul, Nat.reduceBEq, ren1_locm, loc_tips, locT_eq, ren1_t', okRefsB, renCellsB, okRefsJ, renCellsJ] <;> rfl, ?_, ?_, fun x en s hq => ?_⟩
    · omega
    · omega
    · exact hq
  · have hlt : ((i : Int) < (xs.length : Int)) = False := eq_false (by omega)
    simp only [go_sem, reduceIte, Nat.reduceEqDiff, Nat.reduceAdd, Nat.reduceSub, Nat.reduceLeDiff, Nat.reduceLT, reduceCtorEq, Int.reduceLT, Int.reduceLE, Int.reduceEq, Int.reduceBEq, Int.reduceSub, Int.reduceAdd, Int.reduceMul, Int.reduceNeg, Int.reduceToNat, Nat.reduceMul, Nat.reduceBEq, index_rsl_if, setm, make_ints, condK_dec, wantK_dec, not_dec, and_dec, or_dec, seqK_ite, seqK_none, blockK_ite, blockK_none, opsK_ite, opsK_none, stepK_ite, stepK_none, bodyK_ite, bodyK_none, resK_ite, resK_none, leaveK_ite, leaveK_none, only_ite, only_none, bind_ite, gives_some, gives_none, gives_ite, then_normal, then_ret, then_exit, then_none, then_ite, Option.bind_none, Bool.not_eq_true', decide_eq_false_iff_not, Bool.and_eq_true, Bool.or_eq_true, Option.some.injEq, Int.not_lt, Int.not_le, lp16_4, hlt]

attribute [local go_sem] shaped_t cells_t isAgg_t storable_t okRef_t pub_t okRef_out storable_out shaped_out cells_out fin_out pub_out

set_option maxHeartbeats 2000000 in
theorem loop16_3b (zs ys : List Int) (n : Nat) (hn : n ≤ 7) (ps oo : List (Int × Int)) (N : List Nat) (hN : N.length = n) (C : List (List Int)) (hC : ∀ c ∈ C, validE (n : Int) oo (sortL ltI (toL N c)) = 0 ∧ (∀ x ∈ c, 0 ≤ x ∧ x < (n : Int)) ∧ c.length ≤ 7 ∧ c ≠ []) (hCl : C.length ≤ 12) (k : Nat) (hok : k ≤ C.length) (env : Env) (st : St)
    (hg : gcAV true 6 0 (canon env [5, 6, 9, 143, 144, 145]) st = ([(5, .ptr 2 0), (6, .rsl 3 0 n n 1 false), (9, .ptr 4 0), (143, sl 1 true (C.map tAV)), (144, I C.length), (145, J k)], ⟨[zs.map B8, ys.map B8, bkCells true (n : Int) ps, N.map J, bkCells true (n : Int) oo, []], []⟩)) :
    ∃ x_1 en s, lim (headed pure (run L) true [5, 6, 9, 143, 144, 145] lp16_3 6 0) env st = some (x_1, en, s) ∧ (x_1 = .exit 4 ∧ en.get 5 = .ptr 2 0 ∧ en.get 6 = .rsl 3 0 n n 1 false ∧ en.get 9 = .ptr 4 0 ∧ s = ⟨[zs.map B8, ys.map B8, bkCells true (n : Int) ps, N.map J, bkCells true (n : Int) oo, []], []⟩) := by
  refine loop_wp (α := Nat) (fun k => C.length - k) (fun k => k ≤ C.length) (fun k => ([(5, .ptr 2 0), (6, .rsl 3 0 n n 1 false), (9, .ptr 4 0), (143, sl 1 true (C.map tAV)), (144, I C.length), (145, J k)], ⟨[zs.map B8, ys.map B8, bkCells true (n : Int) ps, N.map J, bkCells true (n : Int) oo, []], []⟩)) (fun k x_1 en s => x_1 = .exit 4 ∧ en.get 5 = .ptr 2 0 ∧ en.get 6 = .rsl 3 0 n n 1 false ∧ en.get 9 = .ptr 4 0 ∧ s = ⟨[zs.map B8, ys.map B8, bkCells true (n : Int) ps, N.map J, bkCells true (n : Int) oo, []], []⟩) (fun k hok => ?_) k hok env st hg
  by_cases h : k < C.length
  · have hx := index_t true C k h
    have hs := succ64 k (by omega)
    have hlt : ((k : Int) < (C.length : Int)) = True := eq_true (by omega)
    obtain ⟨v1, v2, v3, v4⟩ := hC _ (List.getElem_mem h)
    generalize C[k] = c at *
    have hlc := len_tAV c
    have eA0 : tbA [] = .v (.slice none 0 0) := rfl
    have eS0 : tS [] = [] := rfl
    simp only [go_sem, reduceIte, Nat.reduceEqDiff, Nat.reduceAdd, Nat.reduceSub, Nat.reduceLeDiff, Nat.reduceLT, reduceCtorEq, Int.reduceLT, Int.reduceLE, Int.reduceEq, Int.reduceBEq, Int.reduceSub, Int.reduceAdd, Int.reduceMul, Int.reduceNeg, Int.reduceToNat, Nat.reduceMul, Nat.reduceBEq, index_rsl_if, setm, make_ints, condK_dec, wantK_dec, not_dec, and_dec, or_dec, seqK_ite, seqK_none, blockK_ite, blockK_none, opsK_ite, opsK_none, stepK_ite, stepK_none, bodyK_ite, bodyK_none, resK_ite, resK_none, leaveK_ite, leaveK_none, only_ite, only_none, bind_ite, gives_some, gives_none, gives_ite, then_normal, then_ret, then_exit, then_none, then_ite, Option.bind_none, Bool.not_eq_true', decide_eq_false_iff_not, Bool.and_eq_true, Bool.or_eq_true, Option.some.injEq, Int.not_lt, Int.not_le, lp16_3, hlt, hs, hx, hlc]
    generalize hg : lim (headed pure (run L) true _ lp16_2 _ _) _ _ = o
    obtain ⟨x, en, s, rfl, h2⟩ : ∃ x en s, o = some (x, en, s) ∧ _ := by rw [← hg]; exact loop16_2b zs ys n hn ps oo N hN C k c v3 v2 0 [] ⟨by omega, by simp⟩ _ _ (by simp only [go_sem, reduceIte, Nat.reduceEqDiff, Nat.reduceAdd, Nat.reduceSub, Nat.reduceLeDiff, Nat.reduceLT, reduceCtorEq, Int.reduceLT, Int.reduceLE, Int.reduceEq, Int.reduceBEq, Int.reduceSub, Int.reduceAdd, Int.reduceMul, Int.reduceNeg, Int.reduceToNat, Nat.reduceMul, Nat.reduceBEq, eA0, eS0, ren1_t', okRefsB, renCellsB, okRefsJ, renCellsJ, refsL_B, mapLs_B, refsL_J, mapLs_J, refsV_t, mapL_t, compact, compactW, refsEnv, refsV, refsL, refsStore, refsAt, mapEnv, mapL, mapLs, newName, posOf, mapStore, pickStore, namesOk, refsV_sl, mapL_sl, List.contains_nil, List.contains_cons, Option.getD_some, hasKey, Int.natCast_zero] <;> rfl)
    clear hg
    rw [List.nil_append, List.drop_zero] at h2
    have hl := toL_len N c
    have hne : toL N c ≠ [] := fun e => v4 (List.eq_nil_of_length_eq_zero (by rw [← hl, e]; rfl))
    have hpos : 1 ≤ (toL N c).length := List.length_pos_iff.2 hne
    rw [tbA_ne hne, tS_ne hne] at h2
    obtain ⟨rfl, e5, e6, e9, e22, e143, e144, e145, rfl⟩ := h2
    have h64 := c64 [zs.map B8, ys.map B8, bkCells true (n : Int) ps, N.map J, bkCells true (n : Int) oo, [], (toL N c).map I] [] 6 (toL N c) rfl hpos (by omega)
    have hset : ∀ d : List AV, [zs.map B8, ys.map B8, bkCells true (n : Int) ps, N.map J, bkCells true (n : Int) oo, [], (toL N c).map I].set 6 d = [zs.map B8, ys.map B8, bkCells true (n : Int) ps, N.map J, bkCells true (n : Int) oo, [], d] := fun d => rfl
    rw [hset] at h64
    have hperm := (sortL_perm ltI (toL N c)).length_eq
    generalize sortL ltI (toL N c) = z at *
    have hzne : z ≠ [] := by intro e; rw [e] at hperm; simp at hperm; omega
    have hfz := fun T env => frzL6b (a := zs.map B8) (b := ys.map B8) (c := bkCells true (n : Int) ps) (d := N.map J) (e := bkCells true (n : Int) oo) (g := []) (cs := z.map I) (by simpa using hzne) T env
    have hfv := frzV_J2 6 z hzne
    rw [hperm] at hfv
    have hf3 : frzV 6 (z.map I) (.rsl 3 0 n n 1 false) = .rsl 3 0 n n 1 false := by simp [frzV]
    have h26 : ∀ st, run L 26 [bkAV true (n : Int) oo, tAV z] st = some (I 0, st) := fun st => by
      have := c26 true true (n : Int) oo z (by omega) st
      rw [v1] at this
      exact this
    simp only [go_sem, reduceIte, Nat.reduceEqDiff, Nat.reduceAdd, Nat.reduceSub, Nat.reduceLeDiff, Nat.reduceLT, reduceCtorEq, Int.reduceLT, Int.reduceLE, Int.reduceEq, Int.reduceBEq, Int.reduceSub, Int.reduceAdd, Int.reduceMul, Int.reduceNeg, Int.reduceToNat, Nat.reduceMul, Nat.reduceBEq, index_rsl_if, setm, make_ints, condK_dec, wantK_dec, not_dec, and_dec, or_dec, seqK_ite, seqK_none, blockK_ite, blockK_none, opsK_ite, opsK_none, stepK_ite, stepK_none, bodyK_ite, bodyK_none, resK_ite, resK_none, leaveK_ite, leaveK_none, only_ite, only_none, bind_ite, gives_some, gives_none, gives_ite, then_normal, then_ret, then_exit, then_none, then_ite, Option.bind_none, Bool.not_eq_true', decide_eq_false_iff_not, Bool.and_eq_true, Bool.or_eq_true, Option.some.injEq, Int.not_lt, Int.not_le, lp16_3, hs, e5, e6, e9, e22, e143, e144, e145, h64, show pure 64 = false from rfl, code_frz, frzAV, frzT, frzLs, rslsOf, hfz, frzEnv, frzEnv_get, frzStore, frzVs, frzV_v, frzV_ptr, frzV_sl, hfv, hf3, frzV_tA, frzVs_B8, frzVs_J, frzVs_sl2, h26]
    refine ⟨k + 1, by simp only [go_sem, reduceIte, Nat.reduceEqDiff, Nat.reduceAdd, Nat.reduceSub, Nat.reduceLeDiff, Nat.reduceLT, reduceCtorEq, Int.reduceLT, Int.reduceLE, Int.reduceEq, Int.reduceBEq, Int.reduceSub, Int.reduceAdd, Int.reduceMul, Int.reduceNeg, Int.reduceToNat, Nat.reduceMul, Nat.reduceBEq, ren1_locm, loc_tips, locT_eq, e5, e6, e9, e143, e144, e145, frzEnv_get, frzV_v, frzV_ptr, frzV_sl, hf3, ren1_t', okRefsB, renCellsB, okRefsJ, renCellsJ] <;> rfl, ?_, ?_, fun x en s hq => ?_⟩
    · omega
    · omega
    · exact hq
  · have hlt : ((k : Int) < (C.length : Int)) = False := eq_false (by omega)
    simp only [go_sem, reduceIte, Nat.reduceEqDiff, Nat.reduceAdd, Nat.reduceSub, Nat.reduceLeDiff, Nat.reduceLT, reduceCtorEq, Int.reduceLT, Int.reduceLE, Int.reduceEq, Int.reduceBEq, Int.reduceSub, Int.reduceAdd, Int.reduceMul, Int.reduceNeg, Int.reduceToNat, Nat.reduceMul, Nat.reduceBEq, index_rsl_if, setm, make_ints, condK_dec, wantK_dec, not_dec, and_dec, or_dec, seqK_ite, seqK_none, blockK_ite, blockK_none, opsK_ite, opsK_none, stepK_ite, stepK_none, bodyK_ite, bodyK_none, resK_ite, resK_none, leaveK_ite, leaveK_none, only_ite, only_none, bind_ite, gives_some, gives_none, gives_ite, then_normal, then_ret, then_exit, then_none, then_ite, Option.bind_none, Bool.not_eq_true', decide_eq_false_iff_not, Bool.and_eq_true, Bool.or_eq_true, Option.some.injEq, Int.not_lt, Int.not_le, lp16_3, hlt]

theorem loop16_4b (zs ys : List Int) (n : Nat) (hn : n ≤ 7) (ps oo : List (Int × Int)) (N : List Nat) (hN : N.length = n) (xs ws : List Int) (hxl : xs.length ≤ 1000) (hxy : ∀ i, i < xs.length → i < n ∧ N.getD i 0 < ws.length ∧ ws.getD (N.getD i 0) (-1) = xs.getD i (-1)) (i : Nat) (hok : i ≤ xs.length) (env : Env) (st : St)
    (hg : gcAV true 6 0 (canon env [6, 28, 232, 233, 234]) st = ([(6, .rsl 3 0 n n 1 false), (28, tAV ws), (232, tAV xs), (233, I xs.length), (234, J i)], ⟨[zs.map B8, ys.map B8, bkCells true (n : Int) ps, N.map J, bkCells true (n : Int) oo, []], []⟩)) :
    ∃ x_1 en s, lim (headed pure (run L) true [6, 28, 232, 233, 234] lp16_4 6 0) env st = some (x_1, en, s) ∧ (x_1 = .exit 8) := by
  refine loop_wp (α := Nat) (fun i => xs.length - i) (fun i => i ≤ xs.length) (fun i => ([(6, .rsl 3 0 n n 1 false), (28, tAV ws), (232, tAV xs), (233, I xs.length), (234, J i)], ⟨[zs.map B8, ys.map B8, bkCells true (n : Int) ps, N.map J, bkCells true (n : Int) oo, []], []⟩)) (fun i x_1 en s => x_1 = .exit 8) (fun i hok => ?_) i hok env st hg
  by_cases h : i < xs.length
  · obtain ⟨q1, q2, q3⟩ := hxy i h
    have hx : indexSAV 1 (tAV xs) (.v (.int .i64 (i : Int))) = some (.eptr (I xs[i]) 0) := index_ints true xs i h
    have hy : indexSAV 1 (tAV ws) (.v (.int .i64 ((N.getD i 0 : Nat) : Int))) = some (.eptr (I ws[N.getD i 0]) 0) := index_ints true ws (N.getD i 0) q2
    have e1 : ws[N.getD i 0] = xs[i] := by
      rw [List.getD_eq_getElem?_getD (l := ws), List.getElem?_eq_getElem q2, List.getD_eq_getElem?_getD (l := xs), List.getElem?_eq_getElem h] at q3
      exact q3
    rw [e1] at hy
    clear e1 q3
    have hs := succ64 i (by omega)
    have hlt : ((i : Int) < (xs.length : Int)) = True := eq_true (by omega)
    have g1 := getJ N i (by omega)
    have b3 : ((0 : Int) ≤ (i : Int)) = True := eq_true (by omega)
    have b4 : ((i : Int) < (n : Int)) = True := eq_true (by omega)
    generalize xs[i] = v at *
    generalize N.getD i 0 = p at *
    simp only [go_sem, reduceIte, Nat.reduceEqDiff, Nat.reduceAdd, Nat.reduceSub, Nat.reduceLeDiff, Nat.reduceLT, reduceCtorEq, Int.reduceLT, Int.reduceLE, Int.reduceEq, Int.reduceBEq, Int.reduceSub, Int.reduceAdd, Int.reduceMul, Int.reduceNeg, Int.reduceToNat, Nat.reduceMul, Nat.reduceBEq, index_rsl_if, setm, make_ints, condK_dec, wantK_dec, not_dec, and_dec, or_dec, seqK_ite, seqK_none, blockK_ite, blockK_none, opsK_ite, opsK_none, stepK_ite, stepK_none, bodyK_ite, bodyK_none, resK_ite, resK_none, leaveK_ite, leaveK_none, only_ite, only_none, bind_ite, gives_some, gives_none, gives_ite, then_normal, then_ret, then_exit, then_none, then_ite, Option.bind_none, Bool.not_eq_true', decide_eq_false_iff_not, Bool.and_eq_true, Bool.or_eq_true, Option.some.injEq, Int.not_lt, Int.not_le, lp16_4, hlt, hs, hx, g1, hy, b3, b4]
    refine ⟨i + 1, by simp only [go_sem, reduceIte, Nat.reduceEqDiff, Nat.reduceAdd, Nat.reduceSub, Nat.reduceLeDiff, Nat.reduceLT, reduceCtorEq, Int.reduceLT, Int.reduceLE, Int.reduceEq, Int.reduceBEq, Int.reduceSub, Int.reduceAdd, Int.reduceMul, Int.reduceNeg, Int.reduceToNat, Nat.reduceMul, Nat.reduceBEq, ren1_locm, loc_tips, locT_eq, ren1_t', okRefsB, renCellsB, okRefsJ, renCellsJ] <;> rfl, ?_, ?_, fun x en s hq => ?_⟩
    · omega
    · omega
    · exact hq
  · have hlt : ((i : Int) < (xs.length : Int)) = False := eq_false (by omega)
    simp only [go_sem, reduceIte, Nat.reduceEqDiff, Nat.reduceAdd, Nat.reduceSub, Nat.reduceLeDiff, Nat.reduceLT, reduceCtorEq, Int.reduceLT, Int.reduceLE, Int.reduceEq, Int.reduceBEq, Int.reduceSub, Int.reduceAdd, Int.reduceMul, Int.reduceNeg, Int.reduceToNat, Nat.reduceMul, Nat.reduceBEq, index_rsl_if, setm, make_ints, condK_dec, wantK_dec, not_dec, and_dec, or_dec, seqK_ite, seqK_none, blockK_ite, blockK_none, opsK_ite, opsK_none, stepK_ite, stepK_none, bodyK_ite, bodyK_none, resK_ite, resK_none, leaveK_ite, leaveK_none, only_ite, only_none, bind_ite, gives_some, gives_none, gives_ite, then_normal, then_ret, then_exit, then_none, then_ite, Option.bind_none, Bool.not_eq_true', decide_eq_false_iff_not, Bool.and_eq_true, Bool.or_eq_true, Option.some.injEq, Int.not_lt, Int.not_le, lp16_4, hlt]

attribute [local go_sem] shaped_t cells_t isAgg_t storable_t okRef_t pub_t okRef_out storable_out shaped_out cells_out fin_out pub_out

/-- Nothing to turn round. -/
theorem c63n (st : St) : run L 63 [.v (.slice none 0 0)] st = some (.tup [], st) := by
  rw [run_shared (fn := ir63) rfl rfl]
  have hw : IntKind.i64.wrap (0 - 1) = -1 := by decide
  simp only [ir63, go_sem, reduceIte, Nat.reduceEqDiff, Nat.reduceAdd, Nat.reduceSub, Nat.reduceLeDiff, Nat.reduceLT, reduceCtorEq, Int.reduceLT, Int.reduceLE, Int.reduceEq, Int.reduceBEq, Int.reduceSub, Int.reduceAdd, Int.reduceMul, Int.reduceNeg, Int.reduceToNat, Nat.reduceMul, Nat.reduceBEq, hw]
  generalize hg : lim (headed pure (run L) false _ lp63_0 _ _) _ _ = o
  obtain ⟨x, en, s, rfl, h2⟩ : ∃ x en s, o = some (x, en, s) ∧ (x = .exit 0 ∧ s = st) := by
    rw [← hg]
    refine loop_wp (α := Nat) (fun _ => 0) (fun _ => True) (fun _ => ([(0, .v (.slice none 0 0)), (2, I 0), (3, I (-1))], st)) (fun _ x_1 en s => x_1 = .exit 0 ∧ s = st) (fun _ hok => ?_) 0 trivial _ _ (by simp only [go_sem, reduceIte, Nat.reduceEqDiff, Nat.reduceAdd, Nat.reduceSub, Nat.reduceLeDiff, Nat.reduceLT, reduceCtorEq, Int.reduceLT, Int.reduceLE, Int.reduceEq, Int.reduceBEq, Int.reduceSub, Int.reduceAdd, Int.reduceMul, Int.reduceNeg, Int.reduceToNat, Nat.reduceMul, Nat.reduceBEq] <;> rfl)
    simp only [go_sem, reduceIte, Nat.reduceEqDiff, Nat.reduceAdd, Nat.reduceSub, Nat.reduceLeDiff, Nat.reduceLT, reduceCtorEq, Int.reduceLT, Int.reduceLE, Int.reduceEq, Int.reduceBEq, Int.reduceSub, Int.reduceAdd, Int.reduceMul, Int.reduceNeg, Int.reduceToNat, Nat.reduceMul, Nat.reduceBEq, index_rsl_if, setm, make_ints, condK_dec, wantK_dec, not_dec, and_dec, or_dec, seqK_ite, seqK_none, blockK_ite, blockK_none, opsK_ite, opsK_none, stepK_ite, stepK_none, bodyK_ite, bodyK_none, resK_ite, resK_none, leaveK_ite, leaveK_none, only_ite, only_none, bind_ite, gives_some, gives_none, gives_ite, then_normal, then_ret, then_exit, then_none, then_ite, Option.bind_none, Bool.not_eq_true', decide_eq_false_iff_not, Bool.and_eq_true, Bool.or_eq_true, Option.some.injEq, Int.not_lt, Int.not_le, lp63_0]
  clear hg
  obtain ⟨rfl, rfl⟩ := h2
  simp only [go_sem, reduceIte, Nat.reduceEqDiff, Nat.reduceAdd, Nat.reduceSub, Nat.reduceLeDiff, Nat.reduceLT, reduceCtorEq, Int.reduceLT, Int.reduceLE, Int.reduceEq, Int.reduceBEq, Int.reduceSub, Int.reduceAdd, Int.reduceMul, Int.reduceNeg, Int.reduceToNat, Nat.reduceMul, Nat.reduceBEq]
set_option maxHeartbeats 4000000 in
theorem c16 (zs ys : List Int) (hzl : zs.length = 34) (hz : ∀ a ∈ zs, Byte a) (hyl : ys.length = 7) (hy : ∀ a ∈ ys, Byte a) (st : St) :
    run L 16 [qAV zs, .agg (ys.map B8)] st = some (B true, st) := by
  rw [run_pure (fn := ir16) rfl rfl]
  obtain ⟨n, hN, h1, h2, h3, h4, h5, h6, h7, h8⟩ := made_ok (.inr rfl) zs
  have h45 := fun st => c45 zs hzl hz 7 (.inr rfl) st
  rw [hN] at h45
  generalize madeP 7 zs = ps at *
  have htk : (zs.map B8).take 34 = zs.map B8 := List.take_of_length_le (by rw [List.length_map]; omega)
  have hmk := fun st => make_J st n (by omega)
  obtain ⟨hnl, hnp⟩ := name_ok n ys
  have hnm : (List.range' 0 n).foldl (nmStep ys) (List.replicate n 0) = nameL n ys := rfl
  obtain ⟨_, _, _, _, hnd⟩ := chk_zero h8
  simp only [ir16, go_sem, reduceIte, Nat.reduceEqDiff, Nat.reduceAdd, Nat.reduceSub, Nat.reduceLeDiff, Nat.reduceLT, reduceCtorEq, Int.reduceLT, Int.reduceLE, Int.reduceEq, Int.reduceBEq, Int.reduceSub, Int.reduceAdd, Int.reduceMul, Int.reduceNeg, Int.reduceToNat, Nat.reduceMul, Nat.reduceBEq, okRefsB, renCellsB, pubsB, storableB, h45, hzl, hyl, htk, hmk, List.length_map]
  generalize hg : lim (headed pure (run L) true _ lp16_0 _ _) _ _ = o
  obtain ⟨x, en, s, rfl, h2⟩ : ∃ x en s, o = some (x, en, s) ∧ _ := by rw [← hg]; exact loop16_0 zs (n : Int) ps ys hyl hy n h3 0 (List.replicate n 0) ⟨by omega, by simp⟩ _ _ (by simp only [go_sem, reduceIte, Nat.reduceEqDiff, Nat.reduceAdd, Nat.reduceSub, Nat.reduceLeDiff, Nat.reduceLT, reduceCtorEq, Int.reduceLT, Int.reduceLE, Int.reduceEq, Int.reduceBEq, Int.reduceSub, Int.reduceAdd, Int.reduceMul, Int.reduceNeg, Int.reduceToNat, Nat.reduceMul, Nat.reduceBEq, okRefsB, renCellsB, okRefsJ, renCellsJ, Int.natCast_zero] <;> rfl)
  clear hg
  rw [Nat.sub_zero, hnm] at h2
  obtain ⟨rfl, e5, e6, e30, rfl⟩ := h2
  generalize nameL n ys = N at *
  obtain ⟨k1, k2, k3, g, q⟩ := named_ok h1 h3 hnp hnl (ps := ps) (fun p hp => h5 p hp) h6 hnd (by omega)
  have hA0 : q5A [] = .v (.slice none 0 0) := rfl
  have hS0 : q5S [] = [] := rfl
  simp only [go_sem, reduceIte, Nat.reduceEqDiff, Nat.reduceAdd, Nat.reduceSub, Nat.reduceLeDiff, Nat.reduceLT, reduceCtorEq, Int.reduceLT, Int.reduceLE, Int.reduceEq, Int.reduceBEq, Int.reduceSub, Int.reduceAdd, Int.reduceMul, Int.reduceNeg, Int.reduceToNat, Nat.reduceMul, Nat.reduceBEq, e5, e6, e30, List.length_map]
  generalize hg : lim (headed pure (run L) true _ lp16_1 _ _) _ _ = o
  obtain ⟨x, en, s, rfl, h2⟩ : ∃ x en s, o = some (x, en, s) ∧ _ := by rw [← hg]; exact loop16_1 zs ys n h3 ps (by omega) (fun p hp => h5 p hp) N hnl 0 [] ⟨by omega, by simp⟩ _ _ (by simp only [go_sem, reduceIte, Nat.reduceEqDiff, Nat.reduceAdd, Nat.reduceSub, Nat.reduceLeDiff, Nat.reduceLT, reduceCtorEq, Int.reduceLT, Int.reduceLE, Int.reduceEq, Int.reduceBEq, Int.reduceSub, Int.reduceAdd, Int.reduceMul, Int.reduceNeg, Int.reduceToNat, Nat.reduceMul, Nat.reduceBEq, hA0, hS0, e5, e6, e30, okRefs_flP, renCells_flP, refsL_flP, mapLs_flP, okRefsB, renCellsB, okRefsJ, renCellsJ, refsL_B, mapLs_B, refsL_J, mapLs_J, compact, compactW, refsEnv, refsV, refsL, refsStore, refsAt, mapEnv, mapL, mapLs, newName, posOf, mapStore, pickStore, namesOk, refsV_sl, mapL_sl, List.contains_nil, List.contains_cons, Option.getD_some, hasKey, Int.natCast_zero] <;> rfl)
  clear hg
  rw [List.drop_zero, List.nil_append] at h2
  obtain ⟨rfl, e5, e6, e9, rfl⟩ := h2
  have h20 := fun st => c20 true (n : Int) ps st
  rw [allV_ok h8, h8] at h20
  have h36 := fun st => c36 true (n : Int) ps st
  have h28 := fun st => c28 true (n : Int) ps st
  have h34 := fun st => c34 true (n : Int) ps st
  rw [h8] at h36
  have hcn := iso_chos q
  have hcv := named_circs h3 q h8 k1
  obtain ⟨hr1, hr2⟩ := iso_ring h3 q h8 k1
  obtain ⟨hn1, hn2, hn3, hn4⟩ := named_nums h3 q h8 k1
  have hC : ∀ c ∈ chosL n ps, validE (n : Int) (othL N ps) (sortL ltI (toL N c)) = 0 ∧ (∀ x ∈ c, 0 ≤ x ∧ x < (n : Int)) ∧ c.length ≤ 7 ∧ c ≠ [] := fun c hc => by
    obtain ⟨a1, a2, a3⟩ := named_valid h3 hnp q k1 hc
    exact ⟨a1, a2, a3, (chos_ne h1 h3 c hc).1⟩
  have hCl : (chosL n ps).length ≤ 12 := by
    unfold chosL; rw [(sortL_perm lexLt _).length_eq]; exact ker12 h3 (fun p hp => h5 p hp) h6
  have ho20 := fun st => c20 true (n : Int) (othL N ps) st
  rw [allV_ok k1, k1] at ho20
  have ho36 := fun st => c36 true (n : Int) (othL N ps) st
  have ho28 := fun st => c28 true (n : Int) (othL N ps) st
  have ho34 := fun st => c34 true (n : Int) (othL N ps) st
  rw [k1, ← hcv] at ho36
  rw [← hr2] at ho28
  rw [← hn1] at ho34
  have hrx : (numV (n : Int) ps).length ≤ n := by
    by_cases h : 0 < (numV (n : Int) ps).length
    · rw [hn3 h]; exact Nat.le_refl _
    · omega
  have hol : (othL N ps).length = ps.length := oth_len N ps
  have hoe : othL N ps = (ps.map (renP N)).reverse := rfl
  have hxy : ∀ i, i < (numV (n : Int) ps).length → i < n ∧ N.getD i 0 < (numV (n : Int) (othL N ps)).length ∧ (numV (n : Int) (othL N ps)).getD (N.getD i 0) (-1) = (numV (n : Int) ps).getD i (-1) := fun i hi => by
    have hi2 : i < n := by omega
    have := hn3 (by omega)
    exact ⟨hi2, by rw [← hn2, this]; exact hnp.lt i hi2, hn4 i hi⟩
  have hlA := len_t true (chosL n ps)
  have hlB := len_t true (chosL n (othL N ps))
  rw [← hcn] at hlB
  have hlR1 := len_tAV (ringV (n : Int) ps)
  have hlR2 := len_tAV (ringV (n : Int) (othL N ps))
  rw [← hr1] at hlR2
  have hlN1 := len_tAV (numV (n : Int) ps)
  have hlN2 := len_tAV (numV (n : Int) (othL N ps))
  rw [← hn2] at hlN2
  have hq1 : ((0 : Int) < ((numV (n : Int) ps).length : Int)) = (0 < (numV (n : Int) ps).length) := propext (by omega)
  have hq2 : (((numV (n : Int) ps).length : Int) = (n : Int)) = ((numV (n : Int) ps).length = n) := propext (by omega)
  by_cases hps : (ps.map (renP N)).length = 0
  · have hm0 : ps.map (renP N) = [] := List.eq_nil_of_length_eq_zero hps
    have hbk : [I (n : Int), AV.v (.slice none 0 0)] = bkCells true (n : Int) (othL N ps) := by
      rw [hoe, hm0]; rfl
    rw [hm0, hA0, hS0, hbk]
    have hsn : sl 2 true ((othL N ps).map prAV) = .v (.slice none 0 0) := by rw [hoe, hm0]; rfl
    have hrb : rslsOf (bkCells true (n : Int) (othL N ps)) = [] := by
      unfold bkCells
      rw [hsn]
      simp only [rslsOf]
    have h63 : ∀ st, run L 63 [sl 2 true ((othL N ps).map prAV)] st = some (.tup [], st) := fun st => by rw [hsn]; exact c63n st
    generalize othL N ps = oo at *
    generalize chosL n ps = C at *
    generalize chosL n oo = C2 at *
    generalize ringV (n : Int) ps = R1 at *
    generalize ringV (n : Int) oo = R2 at *
    generalize numV (n : Int) ps = V1 at *
    generalize numV (n : Int) oo = V2 at *
    generalize ringE (n : Int) ps = E1 at *
    generalize numE (n : Int) ps = E2 at *
    generalize circV (n : Int) ps = M1 at *
    by_cases p : 0 < V1.length
    · have hp3 := hn3 p
      have hn0 : ((0 : Int) < (n : Int)) = True := eq_true (by omega)
      simp only [go_sem, reduceIte, Nat.reduceEqDiff, Nat.reduceAdd, Nat.reduceSub, Nat.reduceLeDiff, Nat.reduceLT, reduceCtorEq, Int.reduceLT, Int.reduceLE, Int.reduceEq, Int.reduceBEq, Int.reduceSub, Int.reduceAdd, Int.reduceMul, Int.reduceNeg, Int.reduceToNat, Nat.reduceMul, Nat.reduceBEq, e5, e6, e9, h63, hrb, show pure 63 = false from rfl, code_frz, frzAV, frzT, frzLs, h20, ho20, h36, ho36, hlA, hlB]
      generalize hg : lim (headed pure (run L) true _ lp16_3 _ _) _ _ = o
      obtain ⟨x, en, s, rfl, h2⟩ : ∃ x en s, o = some (x, en, s) ∧ _ := by rw [← hg]; exact loop16_3a zs ys n h3 ps oo N hnl C hC hCl 0 (by omega) _ _ (by simp only [go_sem, reduceIte, Nat.reduceEqDiff, Nat.reduceAdd, Nat.reduceSub, Nat.reduceLeDiff, Nat.reduceLT, reduceCtorEq, Int.reduceLT, Int.reduceLE, Int.reduceEq, Int.reduceBEq, Int.reduceSub, Int.reduceAdd, Int.reduceMul, Int.reduceNeg, Int.reduceToNat, Nat.reduceMul, Nat.reduceBEq, ren1_t', okRefsB, renCellsB, okRefsJ, renCellsJ, e5, e6, e9, Int.natCast_zero] <;> rfl)
      clear hg
      obtain ⟨rfl, f5, f6, f9, rfl⟩ := h2
      simp only [go_sem, reduceIte, Nat.reduceEqDiff, Nat.reduceAdd, Nat.reduceSub, Nat.reduceLeDiff, Nat.reduceLT, reduceCtorEq, Int.reduceLT, Int.reduceLE, Int.reduceEq, Int.reduceBEq, Int.reduceSub, Int.reduceAdd, Int.reduceMul, Int.reduceNeg, Int.reduceToNat, Nat.reduceMul, Nat.reduceBEq, f5, f6, f9, h28, ho28, h34, ho34, hlR1, hlR2, hlN1, hlN2, hn0, hp3]
      generalize hg : lim (headed pure (run L) true _ lp16_4 _ _) _ _ = o
      obtain ⟨x, en, s, rfl, h2⟩ : ∃ x en s, o = some (x, en, s) ∧ _ := by rw [← hg]; exact loop16_4a zs ys n h3 ps oo N hnl V1 V2 (by omega) hxy 0 (by omega) _ _ (by simp only [go_sem, reduceIte, Nat.reduceEqDiff, Nat.reduceAdd, Nat.reduceSub, Nat.reduceLeDiff, Nat.reduceLT, reduceCtorEq, Int.reduceLT, Int.reduceLE, Int.reduceEq, Int.reduceBEq, Int.reduceSub, Int.reduceAdd, Int.reduceMul, Int.reduceNeg, Int.reduceToNat, Nat.reduceMul, Nat.reduceBEq, ren1_t', okRefsB, renCellsB, okRefsJ, renCellsJ, f6, hp3, Int.natCast_zero] <;> rfl)
      clear hg
      subst h2
      simp only [go_sem, reduceIte, Nat.reduceEqDiff, Nat.reduceAdd, Nat.reduceSub, Nat.reduceLeDiff, Nat.reduceLT, reduceCtorEq, Int.reduceLT, Int.reduceLE, Int.reduceEq, Int.reduceBEq, Int.reduceSub, Int.reduceAdd, Int.reduceMul, Int.reduceNeg, Int.reduceToNat, Nat.reduceMul, Nat.reduceBEq, c17]
    · have hp3 : V1.length = 0 := by omega
      simp only [go_sem, reduceIte, Nat.reduceEqDiff, Nat.reduceAdd, Nat.reduceSub, Nat.reduceLeDiff, Nat.reduceLT, reduceCtorEq, Int.reduceLT, Int.reduceLE, Int.reduceEq, Int.reduceBEq, Int.reduceSub, Int.reduceAdd, Int.reduceMul, Int.reduceNeg, Int.reduceToNat, Nat.reduceMul, Nat.reduceBEq, e5, e6, e9, h63, hrb, show pure 63 = false from rfl, code_frz, frzAV, frzT, frzLs, h20, ho20, h36, ho36, hlA, hlB]
      generalize hg : lim (headed pure (run L) true _ lp16_3 _ _) _ _ = o
      obtain ⟨x, en, s, rfl, h2⟩ : ∃ x en s, o = some (x, en, s) ∧ _ := by rw [← hg]; exact loop16_3a zs ys n h3 ps oo N hnl C hC hCl 0 (by omega) _ _ (by simp only [go_sem, reduceIte, Nat.reduceEqDiff, Nat.reduceAdd, Nat.reduceSub, Nat.reduceLeDiff, Nat.reduceLT, reduceCtorEq, Int.reduceLT, Int.reduceLE, Int.reduceEq, Int.reduceBEq, Int.reduceSub, Int.reduceAdd, Int.reduceMul, Int.reduceNeg, Int.reduceToNat, Nat.reduceMul, Nat.reduceBEq, ren1_t', okRefsB, renCellsB, okRefsJ, renCellsJ, e5, e6, e9, Int.natCast_zero] <;> rfl)
      clear hg
      obtain ⟨rfl, f5, f6, f9, rfl⟩ := h2
      simp only [go_sem, reduceIte, Nat.reduceEqDiff, Nat.reduceAdd, Nat.reduceSub, Nat.reduceLeDiff, Nat.reduceLT, reduceCtorEq, Int.reduceLT, Int.reduceLE, Int.reduceEq, Int.reduceBEq, Int.reduceSub, Int.reduceAdd, Int.reduceMul, Int.reduceNeg, Int.reduceToNat, Nat.reduceMul, Nat.reduceBEq, f5, f6, f9, h28, ho28, h34, ho34, hlR1, hlR2, hlN1, hlN2, hq1, hq2, p]
      generalize hg : lim (headed pure (run L) true _ lp16_4 _ _) _ _ = o
      obtain ⟨x, en, s, rfl, h2⟩ : ∃ x en s, o = some (x, en, s) ∧ _ := by rw [← hg]; exact loop16_4a zs ys n h3 ps oo N hnl V1 V2 (by omega) hxy 0 (by omega) _ _ (by simp only [go_sem, reduceIte, Nat.reduceEqDiff, Nat.reduceAdd, Nat.reduceSub, Nat.reduceLeDiff, Nat.reduceLT, reduceCtorEq, Int.reduceLT, Int.reduceLE, Int.reduceEq, Int.reduceBEq, Int.reduceSub, Int.reduceAdd, Int.reduceMul, Int.reduceNeg, Int.reduceToNat, Nat.reduceMul, Nat.reduceBEq, ren1_t', okRefsB, renCellsB, okRefsJ, renCellsJ, f6, hp3, Int.natCast_zero] <;> rfl)
      clear hg
      subst h2
      simp only [go_sem, reduceIte, Nat.reduceEqDiff, Nat.reduceAdd, Nat.reduceSub, Nat.reduceLeDiff, Nat.reduceLT, reduceCtorEq, Int.reduceLT, Int.reduceLE, Int.reduceEq, Int.reduceBEq, Int.reduceSub, Int.reduceAdd, Int.reduceMul, Int.reduceNeg, Int.reduceToNat, Nat.reduceMul, Nat.reduceBEq, c17]
  · have hne : ps.map (renP N) ≠ [] := fun e => hps (by rw [e]; rfl)
    have hol2 : (ps.map (renP N)).length = (othL N ps).length := by rw [List.length_map, hol]
    have h63 := c63 zs ys (n : Int) ps N (ps.map (renP N)) (by omega) (by omega)
    rw [← hoe, hol2] at h63
    rw [q5A_ne hne, q5S_ne hne, hol2]
    have hone : othL N ps ≠ [] := fun e => hps (by rw [hol2, e]; rfl)
    have hfz := fun T env => frzL5b (a := zs.map B8) (b := ys.map B8) (c := bkCells true (n : Int) ps) (d := N.map J) (e := [I (n : Int), .rsl 5 0 (othL N ps).length (othL N ps).length 2 true]) (cs := flP (othL N ps)) (by
      intro e
      have := flP_len (othL N ps)
      rw [e, List.length_nil] at this
      exact hone (List.eq_nil_of_length_eq_zero (by omega))) T env
    have hfv := frzV_pr 5 (othL N ps) hone
    have hf3 : frzV 5 (flP (othL N ps)) (.rsl 3 0 n n 1 false) = .rsl 3 0 n n 1 false := by simp [frzV]
    have hbk : [I (n : Int), sl 2 true ((othL N ps).map prAV)] = bkCells true (n : Int) (othL N ps) := rfl
    generalize othL N ps = oo at *
    generalize chosL n ps = C at *
    generalize chosL n oo = C2 at *
    generalize ringV (n : Int) ps = R1 at *
    generalize ringV (n : Int) oo = R2 at *
    generalize numV (n : Int) ps = V1 at *
    generalize numV (n : Int) oo = V2 at *
    generalize ringE (n : Int) ps = E1 at *
    generalize numE (n : Int) ps = E2 at *
    generalize circV (n : Int) ps = M1 at *
    by_cases p : 0 < V1.length
    · have hp3 := hn3 p
      have hn0 : ((0 : Int) < (n : Int)) = True := eq_true (by omega)
      simp only [go_sem, reduceIte, Nat.reduceEqDiff, Nat.reduceAdd, Nat.reduceSub, Nat.reduceLeDiff, Nat.reduceLT, reduceCtorEq, Int.reduceLT, Int.reduceLE, Int.reduceEq, Int.reduceBEq, Int.reduceSub, Int.reduceAdd, Int.reduceMul, Int.reduceNeg, Int.reduceToNat, Nat.reduceMul, Nat.reduceBEq, e5, e6, e9, h63, show pure 63 = false from rfl, code_frz, frzAV, frzT, frzLs, rslsOf, hfz, frzEnv, frzEnv_get, frzStore, frzVs, frzV_v, frzV_ptr, frzV_sl, hfv, hf3, frzV_tA, frzVs_B8, frzVs_J, frzVs_sl2, hbk, h20, ho20, h36, ho36, hlA, hlB]
      generalize hg : lim (headed pure (run L) true _ lp16_3 _ _) _ _ = o
      obtain ⟨x, en, s, rfl, h2⟩ : ∃ x en s, o = some (x, en, s) ∧ _ := by rw [← hg]; exact loop16_3b zs ys n h3 ps oo N hnl C hC hCl 0 (by omega) _ _ (by simp only [go_sem, reduceIte, Nat.reduceEqDiff, Nat.reduceAdd, Nat.reduceSub, Nat.reduceLeDiff, Nat.reduceLT, reduceCtorEq, Int.reduceLT, Int.reduceLE, Int.reduceEq, Int.reduceBEq, Int.reduceSub, Int.reduceAdd, Int.reduceMul, Int.reduceNeg, Int.reduceToNat, Nat.reduceMul, Nat.reduceBEq, ren1_t', okRefsB, renCellsB, okRefsJ, renCellsJ, e5, e6, e9, frzEnv_get, frzV_v, frzV_ptr, frzV_sl, hf3, Int.natCast_zero] <;> rfl)
      clear hg
      obtain ⟨rfl, f5, f6, f9, rfl⟩ := h2
      simp only [go_sem, reduceIte, Nat.reduceEqDiff, Nat.reduceAdd, Nat.reduceSub, Nat.reduceLeDiff, Nat.reduceLT, reduceCtorEq, Int.reduceLT, Int.reduceLE, Int.reduceEq, Int.reduceBEq, Int.reduceSub, Int.reduceAdd, Int.reduceMul, Int.reduceNeg, Int.reduceToNat, Nat.reduceMul, Nat.reduceBEq, f5, f6, f9, h28, ho28, h34, ho34, hlR1, hlR2, hlN1, hlN2, hn0, hp3]
      generalize hg : lim (headed pure (run L) true _ lp16_4 _ _) _ _ = o
      obtain ⟨x, en, s, rfl, h2⟩ : ∃ x en s, o = some (x, en, s) ∧ _ := by rw [← hg]; exact loop16_4b zs ys n h3 ps oo N hnl V1 V2 (by omega) hxy 0 (by omega) _ _ (by simp only [go_sem, reduceIte, Nat.reduceEqDiff, Nat.reduceAdd, Nat.reduceSub, Nat.reduceLeDiff, Nat.reduceLT, reduceCtorEq, Int.reduceLT, Int.reduceLE, Int.reduceEq, Int.reduceBEq, Int.reduceSub, Int.reduceAdd, Int.reduceMul, Int.reduceNeg, Int.reduceToNat, Nat.reduceMul, Nat.reduceBEq, ren1_t', okRefsB, renCellsB, okRefsJ, renCellsJ, f6, hp3, Int.natCast_zero] <;> rfl)
      clear hg
      subst h2
      simp only [go_sem, reduceIte, Nat.reduceEqDiff, Nat.reduceAdd, Nat.reduceSub, Nat.reduceLeDiff, Nat.reduceLT, reduceCtorEq, Int.reduceLT, Int.reduceLE, Int.reduceEq, Int.reduceBEq, Int.reduceSub, Int.reduceAdd, Int.reduceMul, Int.reduceNeg, Int.reduceToNat, Nat.reduceMul, Nat.reduceBEq, c17]
    · have hp3 : V1.length = 0 := by omega
      simp only [go_sem, reduceIte, Nat.reduceEqDiff, Nat.reduceAdd, Nat.reduceSub, Nat.reduceLeDiff, Nat.reduceLT, reduceCtorEq, Int.reduceLT, Int.reduceLE, Int.reduceEq, Int.reduceBEq, Int.reduceSub, Int.reduceAdd, Int.reduceMul, Int.reduceNeg, Int.reduceToNat, Nat.reduceMul, Nat.reduceBEq, e5, e6, e9, h63, show pure 63 = false from rfl, code_frz, frzAV, frzT, frzLs, rslsOf, hfz, frzEnv, frzEnv_get, frzStore, frzVs, frzV_v, frzV_ptr, frzV_sl, hfv, hf3, frzV_tA, frzVs_B8, frzVs_J, frzVs_sl2, hbk, h20, ho20, h36, ho36, hlA, hlB]
      generalize hg : lim (headed pure (run L) true _ lp16_3 _ _) _ _ = o
      obtain ⟨x, en, s, rfl, h2⟩ : ∃ x en s, o = some (x, en, s) ∧ _ := by rw [← hg]; exact loop16_3b zs ys n h3 ps oo N hnl C hC hCl 0 (by omega) _ _ (by simp only [go_sem, reduceIte, Nat.reduceEqDiff, Nat.reduceAdd, Nat.reduceSub, Nat.reduceLeDiff, Nat.reduceLT, reduceCtorEq, Int.reduceLT, Int.reduceLE, Int.reduceEq, Int.reduceBEq, Int.reduceSub, Int.reduceAdd, Int.reduceMul, Int.reduceNeg, Int.reduceToNat, Nat.reduceMul, Nat.reduceBEq, ren1_t', okRefsB, renCellsB, okRefsJ, renCellsJ, e5, e6, e9, frzEnv_get, frzV_v, frzV_ptr, frzV_sl, hf3, Int.natCast_zero] <;> rfl)
      clear hg
      obtain ⟨rfl, f5, f6, f9, rfl⟩ := h2
      simp only [go_sem, reduceIte, Nat.reduceEqDiff, Nat.reduceAdd, Nat.reduceSub, Nat.reduceLeDiff, Nat.reduceLT, reduceCtorEq, Int.reduceLT, Int.reduceLE, Int.reduceEq, Int.reduceBEq, Int.reduceSub, Int.reduceAdd, Int.reduceMul, Int.reduceNeg, Int.reduceToNat, Nat.reduceMul, Nat.reduceBEq, f5, f6, f9, h28, ho28, h34, ho34, hlR1, hlR2, hlN1, hlN2, hq1, hq2, p]
      generalize hg : lim (headed pure (run L) true _ lp16_4 _ _) _ _ = o
      obtain ⟨x, en, s, rfl, h2⟩ : ∃ x en s, o = some (x, en, s) ∧ _ := by rw [← hg]; exact loop16_4b zs ys n h3 ps oo N hnl V1 V2 (by omega) hxy 0 (by omega) _ _ (by simp only [go_sem, reduceIte, Nat.reduceEqDiff, Nat.reduceAdd, Nat.reduceSub, Nat.reduceLeDiff, Nat.reduceLT, reduceCtorEq, Int.reduceLT, Int.reduceLE, Int.reduceEq, Int.reduceBEq, Int.reduceSub, Int.reduceAdd, Int.reduceMul, Int.reduceNeg, Int.reduceToNat, Nat.reduceMul, Nat.reduceBEq, ren1_t', okRefsB, renCellsB, okRefsJ, renCellsJ, f6, hp3, Int.natCast_zero] <;> rfl)
      clear hg
      subst h2
      simp only [go_sem, reduceIte, Nat.reduceEqDiff, Nat.reduceAdd, Nat.reduceSub, Nat.reduceLeDiff, Nat.reduceLT, reduceCtorEq, Int.reduceLT, Int.reduceLE, Int.reduceEq, Int.reduceBEq, Int.reduceSub, Int.reduceAdd, Int.reduceMul, Int.reduceNeg, Int.reduceToNat, Nat.reduceMul, Nat.reduceBEq, c17]
end Go.Proofs.YtgohohiaaiogcaaDoor.Vm
