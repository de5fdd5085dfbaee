/- What is proved: what each function of this program computes, as equations on the evaluator. No condition. -/
import Derived.Test.YtgohohiaaiogcaaDoorC1
import Derived.Test.YtgohohiaaiogcaaDoorS0
set_option linter.all false
namespace Go.Proofs.YtgohohiaaiogcaaDoor.Vm
open Go Go.Ev
set_option maxRecDepth 100000
attribute [local go_sem] cells_any storable_any ren1_any shaped_ptr cells_ptr storable_ptr ren1_ptr shaped_eptr cells_eptr storable_eptr ren1_eptr shaped_rsl cells_rsl storable_rsl ren1_rsl shaped_int cells_int storable_int ren1_int shaped_bool cells_bool storable_bool ren1_bool shaped_nils cells_nils storable_nils ren1_nils shaped_lst cells_lst storable_lst shaped_fn cells_fn storable_fn ren1_fn shaped_ifc cells_ifc storable_ifc ren1_ifc shaped_agg cells_agg storable_agg ren1_agg shaped_tup cells_tup storable_tup ren1_tup shaped_nif cells_nif storable_nif ren1_nif ren1_lany ren1_lfull ren1_lown len_lst len_rsl len_nil load_ptr load_eptr isRsl_lst isRsl_nil isRsl_rsl elems_nil elems_lst elems_sl isRsl_sl body_eq bodyK_normal bodyK_ret resK_some leaveK_some only_some code_skip code_exit code_ret code_ops code_seq code_cond code_block seqK_normal seqK_ret seqK_exit condK_true condK_false blockK_normal blockK_ret blockK_exit opsK_some ops_nil ops_cons wantK_true wantK_false stepK_some pubs pub pub_sl params okRef_loc storable_loc shaped_loc cells_loc isRsl_loc elems_loc len_loc untips untip untip_sl wantedAV setElems withO isAgg_v isAgg_agg isAgg_lst isAgg_ptr isAgg_fn isAgg_ifc isAgg_rsl isAgg_sl isAgg_loc List.replicate_succ List.replicate_zero opAV valAV aval avals ofVal Env.get setD canon gcAV renAll renEnv renStore renCells ren1_sl cutSt okEnv okStore okRefs okRef okRef_sl bin_int bin_bool bin_lst bin_rsl bin_nil bin_agg cellsEq cellEq isShift intOp boolOp min_int max_int beq_int bne resAV tupAV leave_eq fin_sl fin_loc fins fin_v fin_lst fin_agg fin_tup fin_fn storeAV readCells putCells cells_sl shaped_sl storable_sl fieldAddrAV len_sl goI List.getElem?_cons_zero List.getElem?_cons_succ List.getElem?_nil Option.bind_some Option.map_some List.length_cons List.length_nil List.all_cons List.all_nil Bool.and_true Bool.true_and Bool.and_false Bool.false_and and_true true_and and_false false_and Bool.false_eq_true List.set_cons_zero List.set_cons_succ List.append_nil List.nil_append List.cons_append List.take_zero List.take_succ_cons List.take_nil List.drop_zero List.drop_succ_cons List.map_cons List.map_nil decide_true decide_false beq_self_eq_true Bool.not_true Bool.not_false or_true true_or or_false false_or Nat.zero_add Nat.add_zero Nat.le_refl Nat.lt_irrefl decide_eq_true_eq eq_self_iff_true not_true_eq_false not_false_eq_true List.getD_cons_zero code_loop Nat.zero_le Nat.not_lt_zero Bool.true_beq Bool.false_beq beq_true beq_false ge_iff_le gt_iff_lt keepR keepT ownTop Lpure pus Option.map_none assert_ifc assert_nil idxA_ptr idxA_eptr idxV_agg Int.cast_ofNat_Int Nat.mul_one Nat.zero_mul Int.toNat_natCast Int.toNat_zero setParts withO2 hasKey eqnil_sl nenil_sl eqnil_loc nenil_loc map_nil_iff okRefs_ints renCells_ints
attribute [local go_sem] shaped_t cells_t isAgg_t storable_t okRef_t pub_t okRef_out storable_out shaped_out cells_out fin_out pub_out

/-! ### all sets to which nothing can be added -/
theorem k4A_ne {X : List (List Int)} (h : X ≠ []) : k4A X = .rsl 4 0 X.length X.length 1 false := by unfold k4A; rw [if_neg h]
theorem k4A_one (l : List Int) : k4A [l] = .rsl 4 0 1 1 1 false := rfl
theorem k4A_snoc (X : List (List Int)) (l : List Int) : k4A (X ++ [l]) = .rsl 4 0 (X.length + 1) (X.length + 1) 1 false := by rw [k4A_ne (by simp)]; simp
theorem happ_nil4 (l : List Int) (S : List (List AV)) (T : List Nat) : appendmAV 1 false (.v (.slice none 0 0)) [tAV l] ⟨S, T⟩ = some (.rsl S.length 0 1 1 1 false, ⟨S ++ [[tAV l]], T⟩) := by
  simp [appendmAV, newM, maxGrow, flatAV, cells_t]
theorem happ_at4 (a b c d : List AV) (X : List (List Int)) (l : List Int) (T : List Nat) (h : 1 ≤ X.length) (h2 : X.length ≤ 1000) : appendmAV 1 false (.rsl 4 0 X.length X.length 1 false) [tAV l] ⟨[a, b, c, d, X.map tAV], T⟩ = some (.rsl 5 0 (X.length + 1) (X.length + 1) 1 false, ⟨[a, b, c, d, [], (X ++ [l]).map tAV], T⟩) := by
  have htk : (X.map tAV).take X.length = X.map tAV := List.take_of_length_le (by simp)
  simp only [appendmAV, List.getElem?_cons_succ, List.getElem?_cons_zero, List.length_cons, List.length_nil, List.length_map, Nat.mul_one, htk]
  rw [if_pos ⟨trivial, trivial, Nat.le_refl _, by omega, by omega⟩, if_neg (by omega), if_pos ⟨trivial, by unfold maxGrow; omega, by omega⟩]
  simp [flatAV, cells_t]
theorem refsL_B (k : Nat) (acc : List Nat) (zs : List Int) : refsL k acc (zs.map B8) = acc := refsL_kind k (fun n => Value.int .u8 n) zs acc
theorem mapLs_B (k : Nat) (M : List Nat) (zs : List Int) : mapLs k M (zs.map B8) = zs.map B8 := mapLs_kind k M (fun n => Value.int .u8 n) zs
theorem refsL_pr (k : Nat) : ∀ (ps : List (Int × Int)) (acc : List Nat), refsL k acc (ps.map prAV) = acc
  | [], _ => by simp only [List.map_nil, refsL]
  | p :: r, acc => by simp only [List.map_cons, refsL, refsV]; exact refsL_pr k r acc
theorem refsV_outA (k : Nat) (acc : List Nat) (o : List (Int × Int)) : refsV k acc (outAV o) = acc := by
  unfold outAV loc
  split
  · split <;> simp only [refsV, refsL_pr]
  · simp only [refsV, refsL_pr]
theorem mapLs_pr (k : Nat) (M : List Nat) : ∀ (ps : List (Int × Int)), mapLs k M (ps.map prAV) = ps.map prAV
  | [] => by simp only [List.map_nil, mapLs]
  | p :: r => by simp only [List.map_cons, mapLs, mapL]; rw [mapLs_pr k M r]
theorem mapL_outA (k : Nat) (M : List Nat) (o : List (Int × Int)) : mapL k M (outAV o) = outAV o := by
  unfold outAV loc
  split
  · split <;> simp only [mapL, mapLs_pr]
  · simp only [mapL, mapLs_pr]
def maxB (n : Nat) (w : List Nat) (m : Nat) : Bool := freeB w m && (List.range' 0 n).all (addB n w m)
def maxJ (n : Nat) (w : List Nat) (m : Nat) : Int := if maxB n w m = true then 0 else 1

set_option maxHeartbeats 4000000 in
theorem loop10_2 (zs : List Int) (n : Nat) (hn : n ≤ 7) (ps : List (Int × Int)) (oo : List (Int × Int)) (w : List Nat) (hw : w.length = 8) (hsm : ∀ x ∈ w, x < 128) (th : Nat) (hth : th = (outT oo).length) (m : Nat) (X : List (List Int)) (hok : m ≤ 2 ^ n ∧ X.length ≤ m) (env : Env) (st : St)
    (hg : gcAV true 4 th (canon env [4, 8, 9, 55, 56, 3000000]) st = ([(4, .ptr 2 0), (8, fn53), (9, k4A X), (55, J (2 ^ n)), (56, J m), (3000000, .any)], ⟨zs.map B8 :: bkCells true (n : Int) ps :: [I n, outAV oo] :: w.map J :: kS X, outT oo⟩)) :
    ∃ x_1 en s, lim (headed pure (run L) true [4, 8, 9, 55, 56, 3000000] lp10_2 4 th) env st = some (x_1, en, s) ∧ (x_1 = .exit 2 ∧ en.get 4 = .ptr 2 0 ∧ en.get 9 = k4A (X ++ kerL (maxJ n w) (List.range' m (2 ^ n - m))) ∧ s = ⟨zs.map B8 :: bkCells true (n : Int) ps :: [I n, outAV oo] :: w.map J :: kS (X ++ kerL (maxJ n w) (List.range' m (2 ^ n - m))), outT oo⟩) := by
  refine loop_wp (α := Nat × List (List Int)) (fun ⟨m, X⟩ => 2 ^ n - m) (fun ⟨m, X⟩ => m ≤ 2 ^ n ∧ X.length ≤ m) (fun ⟨m, X⟩ => ([(4, .ptr 2 0), (8, fn53), (9, k4A X), (55, J (2 ^ n)), (56, J m), (3000000, .any)], ⟨zs.map B8 :: bkCells true (n : Int) ps :: [I n, outAV oo] :: w.map J :: kS X, outT oo⟩)) (fun ⟨m, X⟩ x_1 en s => x_1 = .exit 2 ∧ en.get 4 = .ptr 2 0 ∧ en.get 9 = k4A (X ++ kerL (maxJ n w) (List.range' m (2 ^ n - m))) ∧ s = ⟨zs.map B8 :: bkCells true (n : Int) ps :: [I n, outAV oo] :: w.map J :: kS (X ++ kerL (maxJ n w) (List.range' m (2 ^ n - m))), outT oo⟩) (fun ⟨m, X⟩ hok => ?_) ⟨m, X⟩ hok env st hg
  simp only at hok
  subst hth
  obtain ⟨h1, h2⟩ := hok
  dsimp only at h1 h2 ⊢
  have hN : 2 ^ n ≤ 128 := Nat.le_trans (Nat.pow_le_pow_right (by omega) hn) (by decide)
  generalize 2 ^ n = N at *
  have hro := fun T acc => ren1_outG (o := oo) (k := (outT oo).length) (Nat.le_refl _) T acc
  by_cases h : m < N
  · have hs := succ64 m (by omega)
    have hlt : ((m : Int) < (N : Int)) = True := eq_true (by omega)
    have hr : List.range' m (N - m) = m :: List.range' (m + 1) (N - (m + 1)) := by
      rw [show N - m = (N - (m + 1)) + 1 by omega, List.range'_succ]
    have h53 := fun tl => c53 (zs.map B8 :: bkCells true (n : Int) ps :: [I n, outAV oo] :: w.map J :: tl) (outT oo) 3 w rfl hw hsm m (by omega)
    have h51 : ∀ st, run L 51 [J m] st = some (tAV (memb m), st) := fun st => c51 m (by omega) st
    have hmb : maxB n w m = (freeB w m && (List.range' 0 n).all (addB n w m)) := rfl
    have hmj : maxJ n w m = if maxB n w m = true then 0 else 1 := rfl
    rw [hr, kerL_cons, hmj]
    by_cases hX : X = []
    · subst hX
      have eA : k4A [] = .v (.slice none 0 0) := rfl
      have eS : kS [] = [] := rfl
      have happ := happ_nil4 (memb m) (zs.map B8 :: bkCells true (n : Int) ps :: [I n, outAV oo] :: w.map J :: []) (outT oo)
      rw [eA, eS]
      simp only [go_sem, reduceIte, Nat.reduceEqDiff, Nat.reduceAdd, Nat.reduceSub, Nat.reduceLeDiff, Nat.reduceLT, reduceCtorEq, Int.reduceLT, Int.reduceLE, Int.reduceEq, Int.reduceBEq, Int.reduceSub, Int.reduceAdd, Int.reduceMul, Int.reduceNeg, Int.reduceToNat, Nat.reduceMul, Nat.reduceBEq, index_rsl_if, setm, make_ints, condK_dec, wantK_dec, not_dec, and_dec, or_dec, seqK_ite, seqK_none, blockK_ite, blockK_none, opsK_ite, opsK_none, stepK_ite, stepK_none, bodyK_ite, bodyK_none, resK_ite, resK_none, leaveK_ite, leaveK_none, only_ite, only_none, bind_ite, gives_some, gives_none, gives_ite, then_normal, then_ret, then_exit, then_none, then_ite, Option.bind_none, Bool.not_eq_true', decide_eq_false_iff_not, Bool.and_eq_true, Bool.or_eq_true, Option.some.injEq, Int.not_lt, Int.not_le, lp10_2, hlt, hs, h53, show pure 53 = false from rfl]
      generalize hg : lim (headed pure (run L) true _ lp10_1 _ _) _ _ = o
      obtain ⟨x, en, s, rfl, h2⟩ : ∃ x en s, o = some (x, en, s) ∧ _ := by rw [← hg]; exact loop10_1 zs n hn ps oo w hw hsm [] m (by omega) N 4 _ rfl rfl 0 (freeB w m) (by omega) _ _ (by simp only [go_sem, reduceIte, Nat.reduceEqDiff, Nat.reduceAdd, Nat.reduceSub, Nat.reduceLeDiff, Nat.reduceLT, reduceCtorEq, Int.reduceLT, Int.reduceLE, Int.reduceEq, Int.reduceBEq, Int.reduceSub, Int.reduceAdd, Int.reduceMul, Int.reduceNeg, Int.reduceToNat, Nat.reduceMul, Nat.reduceBEq, eA, eS, okRefsB, renCellsB, okRefsJ, renCellsJ, hro, List.take_length, Int.natCast_zero] <;> rfl)
      clear hg
      rw [Nat.sub_zero, ← hmb, eA, eS] at h2
      obtain ⟨rfl, e4, e8, e9, e10, e11, e55, e56, e30, rfl⟩ := h2
      generalize memb m = l at *
      cases hb : maxB n w m with
      | true =>
        rw [hb] at e11
        rw [if_pos rfl, if_pos rfl]
        simp only [go_sem, reduceIte, Nat.reduceEqDiff, Nat.reduceAdd, Nat.reduceSub, Nat.reduceLeDiff, Nat.reduceLT, reduceCtorEq, Int.reduceLT, Int.reduceLE, Int.reduceEq, Int.reduceBEq, Int.reduceSub, Int.reduceAdd, Int.reduceMul, Int.reduceNeg, Int.reduceToNat, Nat.reduceMul, Nat.reduceBEq, index_rsl_if, setm, make_ints, condK_dec, wantK_dec, not_dec, and_dec, or_dec, seqK_ite, seqK_none, blockK_ite, blockK_none, opsK_ite, opsK_none, stepK_ite, stepK_none, bodyK_ite, bodyK_none, resK_ite, resK_none, leaveK_ite, leaveK_none, only_ite, only_none, bind_ite, gives_some, gives_none, gives_ite, then_normal, then_ret, then_exit, then_none, then_ite, Option.bind_none, Bool.not_eq_true', decide_eq_false_iff_not, Bool.and_eq_true, Bool.or_eq_true, Option.some.injEq, Int.not_lt, Int.not_le, lp10_2, e4, e8, e9, e10, e11, e55, e56, hs, h51, happ]
        refine ⟨(m + 1, [l]), by simp only [go_sem, reduceIte, Nat.reduceEqDiff, Nat.reduceAdd, Nat.reduceSub, Nat.reduceLeDiff, Nat.reduceLT, reduceCtorEq, Int.reduceLT, Int.reduceLE, Int.reduceEq, Int.reduceBEq, Int.reduceSub, Int.reduceAdd, Int.reduceMul, Int.reduceNeg, Int.reduceToNat, Nat.reduceMul, Nat.reduceBEq, ren1_locm, loc_tips, locT_eq, e4, e8, e9, e10, e55, e56, e30, k4A_one, kS_one, okRefsT, renCellsT, okRefsB, renCellsB, okRefsJ, renCellsJ, hro, List.take_length, refsL_B, mapLs_B, refsL_J, mapLs_J, refsV_outA, mapL_outA, compact, compactW, refsEnv, refsV, refsL, refsStore, refsAt, mapEnv, mapL, mapLs, newName, posOf, mapStore, pickStore, namesOk, refsV_sl, mapL_sl, refsL_T, mapLs_T, refsV_t, mapL_t, ren1_t, List.contains_nil, List.contains_cons, Option.getD_some, hasKey] <;> rfl, ?_, ?_, fun x en s hq => ?_⟩
        · dsimp only; exact ⟨by omega, by simp⟩
        · dsimp only; omega
        · exact hq
      | false =>
        rw [hb] at e11
        rw [if_neg (show ¬ ((if (false : Bool) = true then (0 : Int) else 1) = 0) by simp)]
        simp only [go_sem, reduceIte, Nat.reduceEqDiff, Nat.reduceAdd, Nat.reduceSub, Nat.reduceLeDiff, Nat.reduceLT, reduceCtorEq, Int.reduceLT, Int.reduceLE, Int.reduceEq, Int.reduceBEq, Int.reduceSub, Int.reduceAdd, Int.reduceMul, Int.reduceNeg, Int.reduceToNat, Nat.reduceMul, Nat.reduceBEq, index_rsl_if, setm, make_ints, condK_dec, wantK_dec, not_dec, and_dec, or_dec, seqK_ite, seqK_none, blockK_ite, blockK_none, opsK_ite, opsK_none, stepK_ite, stepK_none, bodyK_ite, bodyK_none, resK_ite, resK_none, leaveK_ite, leaveK_none, only_ite, only_none, bind_ite, gives_some, gives_none, gives_ite, then_normal, then_ret, then_exit, then_none, then_ite, Option.bind_none, Bool.not_eq_true', decide_eq_false_iff_not, Bool.and_eq_true, Bool.or_eq_true, Option.some.injEq, Int.not_lt, Int.not_le, lp10_2, e4, e8, e9, e10, e11, e55, e56, hs]
        refine ⟨(m + 1, ([] : List (List Int))), by simp only [go_sem, reduceIte, Nat.reduceEqDiff, Nat.reduceAdd, Nat.reduceSub, Nat.reduceLeDiff, Nat.reduceLT, reduceCtorEq, Int.reduceLT, Int.reduceLE, Int.reduceEq, Int.reduceBEq, Int.reduceSub, Int.reduceAdd, Int.reduceMul, Int.reduceNeg, Int.reduceToNat, Nat.reduceMul, Nat.reduceBEq, ren1_locm, loc_tips, locT_eq, e4, e8, e9, e10, e55, e56, e30, eA, eS, okRefsT, renCellsT, okRefsB, renCellsB, okRefsJ, renCellsJ, hro, List.take_length, refsL_B, mapLs_B, refsL_J, mapLs_J, refsV_outA, mapL_outA, compact, compactW, refsEnv, refsV, refsL, refsStore, refsAt, mapEnv, mapL, mapLs, newName, posOf, mapStore, pickStore, namesOk, refsV_sl, mapL_sl, refsL_T, mapLs_T, refsV_t, mapL_t, ren1_t, List.contains_nil, List.contains_cons, Option.getD_some, hasKey] <;> rfl, ?_, ?_, fun x en s hq => ?_⟩
        · dsimp only; exact ⟨by omega, by simp⟩
        · dsimp only; omega
        · exact hq
    · have eA := k4A_ne hX
      have eS := kS_ne hX
      have hpos : 1 ≤ X.length := List.length_pos_iff.2 hX
      have happ := happ_at4 (zs.map B8) (bkCells true (n : Int) ps) [I n, outAV oo] (w.map J) X (memb m) (outT oo) hpos (by omega)
      rw [eA, eS]
      simp only [go_sem, reduceIte, Nat.reduceEqDiff, Nat.reduceAdd, Nat.reduceSub, Nat.reduceLeDiff, Nat.reduceLT, reduceCtorEq, Int.reduceLT, Int.reduceLE, Int.reduceEq, Int.reduceBEq, Int.reduceSub, Int.reduceAdd, Int.reduceMul, Int.reduceNeg, Int.reduceToNat, Nat.reduceMul, Nat.reduceBEq, index_rsl_if, setm, make_ints, condK_dec, wantK_dec, not_dec, and_dec, or_dec, seqK_ite, seqK_none, blockK_ite, blockK_none, opsK_ite, opsK_none, stepK_ite, stepK_none, bodyK_ite, bodyK_none, resK_ite, resK_none, leaveK_ite, leaveK_none, only_ite, only_none, bind_ite, gives_some, gives_none, gives_ite, then_normal, then_ret, then_exit, then_none, then_ite, Option.bind_none, Bool.not_eq_true', decide_eq_false_iff_not, Bool.and_eq_true, Bool.or_eq_true, Option.some.injEq, Int.not_lt, Int.not_le, lp10_2, hlt, hs, h53, show pure 53 = false from rfl]
      generalize hg : lim (headed pure (run L) true _ lp10_1 _ _) _ _ = o
      obtain ⟨x, en, s, rfl, h2⟩ : ∃ x en s, o = some (x, en, s) ∧ _ := by rw [← hg]; exact loop10_1 zs n hn ps oo w hw hsm X m (by omega) N 5 _ (by rw [eS]; rfl) rfl 0 (freeB w m) (by omega) _ _ (by simp only [go_sem, reduceIte, Nat.reduceEqDiff, Nat.reduceAdd, Nat.reduceSub, Nat.reduceLeDiff, Nat.reduceLT, reduceCtorEq, Int.reduceLT, Int.reduceLE, Int.reduceEq, Int.reduceBEq, Int.reduceSub, Int.reduceAdd, Int.reduceMul, Int.reduceNeg, Int.reduceToNat, Nat.reduceMul, Nat.reduceBEq, eA, eS, okRefsB, renCellsB, okRefsJ, renCellsJ, okRefsT, renCellsT, hro, List.take_length, Int.natCast_zero] <;> rfl)
      clear hg
      rw [Nat.sub_zero, ← hmb, eA, eS] at h2
      obtain ⟨rfl, e4, e8, e9, e10, e11, e55, e56, e30, rfl⟩ := h2
      generalize memb m = l at *
      cases hb : maxB n w m with
      | true =>
        rw [hb] at e11
        rw [if_pos rfl, if_pos rfl]
        simp only [go_sem, reduceIte, Nat.reduceEqDiff, Nat.reduceAdd, Nat.reduceSub, Nat.reduceLeDiff, Nat.reduceLT, reduceCtorEq, Int.reduceLT, Int.reduceLE, Int.reduceEq, Int.reduceBEq, Int.reduceSub, Int.reduceAdd, Int.reduceMul, Int.reduceNeg, Int.reduceToNat, Nat.reduceMul, Nat.reduceBEq, index_rsl_if, setm, make_ints, condK_dec, wantK_dec, not_dec, and_dec, or_dec, seqK_ite, seqK_none, blockK_ite, blockK_none, opsK_ite, opsK_none, stepK_ite, stepK_none, bodyK_ite, bodyK_none, resK_ite, resK_none, leaveK_ite, leaveK_none, only_ite, only_none, bind_ite, gives_some, gives_none, gives_ite, then_normal, then_ret, then_exit, then_none, then_ite, Option.bind_none, Bool.not_eq_true', decide_eq_false_iff_not, Bool.and_eq_true, Bool.or_eq_true, Option.some.injEq, Int.not_lt, Int.not_le, lp10_2, e4, e8, e9, e10, e11, e55, e56, hs, h51, happ]
        refine ⟨(m + 1, X ++ [l]), by simp only [go_sem, reduceIte, Nat.reduceEqDiff, Nat.reduceAdd, Nat.reduceSub, Nat.reduceLeDiff, Nat.reduceLT, reduceCtorEq, Int.reduceLT, Int.reduceLE, Int.reduceEq, Int.reduceBEq, Int.reduceSub, Int.reduceAdd, Int.reduceMul, Int.reduceNeg, Int.reduceToNat, Nat.reduceMul, Nat.reduceBEq, ren1_locm, loc_tips, locT_eq, e4, e8, e9, e10, e55, e56, e30, k4A_snoc, kS_snoc, okRefsT, renCellsT, okRefsB, renCellsB, okRefsJ, renCellsJ, hro, List.take_length, refsL_B, mapLs_B, refsL_J, mapLs_J, refsV_outA, mapL_outA, compact, compactW, refsEnv, refsV, refsL, refsStore, refsAt, mapEnv, mapL, mapLs, newName, posOf, mapStore, pickStore, namesOk, refsV_sl, mapL_sl, refsL_T, mapLs_T, refsV_t, mapL_t, ren1_t, List.contains_nil, List.contains_cons, Option.getD_some, hasKey] <;> rfl, ?_, ?_, fun x en s hq => ?_⟩
        · dsimp only; exact ⟨by omega, by simp; omega⟩
        · dsimp only; omega
        · simp only [List.append_assoc] at hq; exact hq
      | false =>
        rw [hb] at e11
        rw [if_neg (show ¬ ((if (false : Bool) = true then (0 : Int) else 1) = 0) by simp)]
        simp only [go_sem, reduceIte, Nat.reduceEqDiff, Nat.reduceAdd, Nat.reduceSub, Nat.reduceLeDiff, Nat.reduceLT, reduceCtorEq, Int.reduceLT, Int.reduceLE, Int.reduceEq, Int.reduceBEq, Int.reduceSub, Int.reduceAdd, Int.reduceMul, Int.reduceNeg, Int.reduceToNat, Nat.reduceMul, Nat.reduceBEq, index_rsl_if, setm, make_ints, condK_dec, wantK_dec, not_dec, and_dec, or_dec, seqK_ite, seqK_none, blockK_ite, blockK_none, opsK_ite, opsK_none, stepK_ite, stepK_none, bodyK_ite, bodyK_none, resK_ite, resK_none, leaveK_ite, leaveK_none, only_ite, only_none, bind_ite, gives_some, gives_none, gives_ite, then_normal, then_ret, then_exit, then_none, then_ite, Option.bind_none, Bool.not_eq_true', decide_eq_false_iff_not, Bool.and_eq_true, Bool.or_eq_true, Option.some.injEq, Int.not_lt, Int.not_le, lp10_2, e4, e8, e9, e10, e11, e55, e56, hs]
        refine ⟨(m + 1, X), by simp only [go_sem, reduceIte, Nat.reduceEqDiff, Nat.reduceAdd, Nat.reduceSub, Nat.reduceLeDiff, Nat.reduceLT, reduceCtorEq, Int.reduceLT, Int.reduceLE, Int.reduceEq, Int.reduceBEq, Int.reduceSub, Int.reduceAdd, Int.reduceMul, Int.reduceNeg, Int.reduceToNat, Nat.reduceMul, Nat.reduceBEq, ren1_locm, loc_tips, locT_eq, e4, e8, e9, e10, e55, e56, e30, eA, eS, okRefsT, renCellsT, okRefsB, renCellsB, okRefsJ, renCellsJ, hro, List.take_length, refsL_B, mapLs_B, refsL_J, mapLs_J, refsV_outA, mapL_outA, compact, compactW, refsEnv, refsV, refsL, refsStore, refsAt, mapEnv, mapL, mapLs, newName, posOf, mapStore, pickStore, namesOk, refsV_sl, mapL_sl, refsL_T, mapLs_T, refsV_t, mapL_t, ren1_t, List.contains_nil, List.contains_cons, Option.getD_some, hasKey] <;> rfl, ?_, ?_, fun x en s hq => ?_⟩
        · dsimp only; exact ⟨by omega, by omega⟩
        · dsimp only; omega
        · exact hq
  · have hr : N - m = 0 := by omega
    have hlt : ((m : Int) < (N : Int)) = False := eq_false (by omega)
    rw [hr]
    have e : X ++ kerL (maxJ n w) (List.range' m 0) = X := by simp [kerL]
    simp only [go_sem, reduceIte, Nat.reduceEqDiff, Nat.reduceAdd, Nat.reduceSub, Nat.reduceLeDiff, Nat.reduceLT, reduceCtorEq, Int.reduceLT, Int.reduceLE, Int.reduceEq, Int.reduceBEq, Int.reduceSub, Int.reduceAdd, Int.reduceMul, Int.reduceNeg, Int.reduceToNat, Nat.reduceMul, Nat.reduceBEq, index_rsl_if, setm, make_ints, condK_dec, wantK_dec, not_dec, and_dec, or_dec, seqK_ite, seqK_none, blockK_ite, blockK_none, opsK_ite, opsK_none, stepK_ite, stepK_none, bodyK_ite, bodyK_none, resK_ite, resK_none, leaveK_ite, leaveK_none, only_ite, only_none, bind_ite, gives_some, gives_none, gives_ite, then_normal, then_ret, then_exit, then_none, then_ite, Option.bind_none, Bool.not_eq_true', decide_eq_false_iff_not, Bool.and_eq_true, Bool.or_eq_true, Option.some.injEq, Int.not_lt, Int.not_le, lp10_2, hlt]
    rw [e]; exact ⟨rfl, rfl⟩


/-! ### references both ways: choices are the sets to which nothing can be added -/
theorem free_iff {w : List Nat} {m : Nat} (hm : m < 128) : freeB w m = true ↔ ∀ y z, m.testBit y = true → m.testBit z = true → ¬ (w.getD y 0).testBit z = true := by
  unfold freeB
  rw [List.all_eq_true]
  constructor
  · intro h y z hy hz hw
    have := h y ((bits_mem hm y).2 hy)
    rw [decide_eq_true_iff, and_zero] at this
    exact this z ⟨hw, hz⟩
  · intro h y hy
    rw [decide_eq_true_iff, and_zero]
    rintro z ⟨hw, hz⟩
    exact h y z ((bits_mem hm y).1 hy) hz hw
theorem or_bit (m y z : Nat) : (m ||| 2 ^ y).testBit z = true ↔ m.testBit z = true ∨ z = y := by
  rw [Nat.testBit_or, Nat.testBit_two_pow, Bool.or_eq_true, decide_eq_true_iff]
  exact or_congr_right ⟨fun h => h.symm, fun h => h.symm⟩
theorem lt128 {n m : Nat} (hn : n ≤ 7) (hm : m < 2 ^ n) : m < 128 := Nat.lt_of_lt_of_le hm (Nat.le_trans (Nat.pow_le_pow_right (by omega) hn) (by decide))
theorem or_lt {n m y : Nat} (hm : m < 2 ^ n) (hy : y < n) : m ||| 2 ^ y < 2 ^ n := Nat.or_lt_two_pow hm (Nat.pow_lt_pow_right (by omega) hy)
theorem max_iff {n : Nat} (hn : n ≤ 7) {w : List Nat} (hsym : ∀ a b, (w.getD a 0).testBit b = true → (w.getD b 0).testBit a = true) (hself : ∀ a, ¬ (w.getD a 0).testBit a = true) {m : Nat} (hm : m < 2 ^ n) : maxB n w m = true ↔ ∀ x, x < n → (m.testBit x = true ↔ w.getD x 0 &&& m = 0) := by
  have hm7 := lt128 hn hm
  unfold maxB
  rw [Bool.and_eq_true, free_iff hm7, List.all_eq_true]
  constructor
  · rintro ⟨hf, ha⟩ x hx
    rw [and_zero]
    constructor
    · rintro h z ⟨h1, h2⟩
      exact hf x z h h2 h1
    · intro h
      have hax := ha x (by rw [List.mem_range'_1]; omega)
      unfold addB at hax
      rw [Bool.or_eq_true] at hax
      rcases hax with hax | hax
      · exact hax
      · exfalso
        rw [Bool.not_eq_true'] at hax
        have : freeB w (m ||| 2 ^ x) = true := by
          rw [free_iff (lt128 hn (or_lt hm hx))]
          intro a b h1 h2 h3
          rw [or_bit] at h1 h2
          rcases h1 with h1 | rfl
          · rcases h2 with h2 | rfl
            · exact hf a b h1 h2 h3
            · exact h a ⟨hsym _ _ h3, h1⟩
          · rcases h2 with h2 | rfl
            · exact h b ⟨h3, h2⟩
            · exact hself _ h3
        rw [this] at hax
        simp at hax
  · intro h
    have hf : ∀ y z, m.testBit y = true → m.testBit z = true → ¬ (w.getD y 0).testBit z = true := fun y z hy hz hw => by
      have := (h y (bit_lt hm hy)).1 hy
      rw [and_zero] at this
      exact this z ⟨hw, hz⟩
    refine ⟨hf, fun y hy => ?_⟩
    rw [List.mem_range'_1] at hy
    unfold addB
    rw [Bool.or_eq_true]
    by_cases hb : m.testBit y = true
    · exact .inl hb
    · right
      rw [Bool.not_eq_true']
      have hy2 : ¬ (w.getD y 0 &&& m = 0) := fun e => hb ((h y (by omega)).2 e)
      cases hff : freeB w (m ||| 2 ^ y) with
      | false => rfl
      | true =>
        exfalso
        rw [free_iff (lt128 hn (or_lt hm (by omega)))] at hff
        apply hy2
        rw [and_zero]
        rintro z ⟨h1, h2⟩
        exact hff y z ((or_bit _ _ _).2 (.inr rfl)) ((or_bit _ _ _).2 (.inl h2)) h1
theorem max_some {n : Nat} (hn : n ≤ 7) (w : List Nat) : ∃ m, m < 2 ^ n ∧ maxB n w m = true := by
  have key : ∀ (k m : Nat), 2 ^ n - m ≤ k → m < 2 ^ n → freeB w m = true → ∃ m, m < 2 ^ n ∧ maxB n w m = true := by
    intro k
    induction k with
    | zero => intro m h1 h2; omega
    | succ k ih =>
      intro m h1 h2 h3
      by_cases hm : maxB n w m = true
      · exact ⟨m, h2, hm⟩
      · have ⟨y, hy, hb, hf⟩ : ∃ y, y < n ∧ m.testBit y = false ∧ freeB w (m ||| 2 ^ y) = true := by
          apply Classical.byContradiction
          intro hno
          apply hm
          unfold maxB
          rw [h3, Bool.true_and, List.all_eq_true]
          intro y hy
          rw [List.mem_range'_1] at hy
          unfold addB
          cases hb : m.testBit y with
          | true => rfl
          | false =>
            cases hf : freeB w (m ||| 2 ^ y) with
            | false => rfl
            | true => exact absurd ⟨y, by omega, hb, hf⟩ hno
        have hle : m ≤ m ||| 2 ^ y := Nat.left_le_or
        have hne : m ≠ m ||| 2 ^ y := fun e => by
          have : (m ||| 2 ^ y).testBit y = true := (or_bit _ _ _).2 (.inr rfl)
          rw [← e, hb] at this
          simp at this
        exact ih _ (by omega) (or_lt h2 hy) hf
  refine key (2 ^ n) 0 (Nat.sub_le _ _) (Nat.two_pow_pos n) ?_
  rw [free_iff (by omega)]
  intro y z hy
  simp at hy
/-- The law's list is the program's. -/
theorem mut_chos {n : Nat} (h1 : 1 ≤ n) (hn : n ≤ 7) {oo : List (Int × Int)} (h : MutInv (n : Int) oo) :
    chk (n : Int) oo = 0 ∧ (∀ p ∈ oo, okP p) ∧ kerL (maxJ n (seeL 8 oo)) (List.range' 0 (2 ^ n)) = kerL (jdg n (seeL 7 oo)) (List.range' 0 (2 ^ n)) ∧ kerL (maxJ n (seeL 8 oo)) (List.range' 0 (2 ^ n)) ≠ [] := by
  have hok : ∀ p ∈ oo, okP p := fun p hp => by have := h.good p hp; unfold goodP at this; unfold okP; omega
  have hbit := fun a b => seeL_bit (z := 8) (by omega) hok a b
  have hsym : ∀ a b, ((seeL 8 oo).getD a 0).testBit b = true → ((seeL 8 oo).getD b 0).testBit a = true := fun a b hab => by
    rw [hbit, decide_eq_true_iff] at hab ⊢
    exact h.sym _ hab
  have hself : ∀ a, ¬ ((seeL 8 oo).getD a 0).testBit a = true := fun a ha => by
    rw [hbit, decide_eq_true_iff] at ha
    exact (h.good _ ha).2.2.2.2 rfl
  have hiff : ∀ m, m < 2 ^ n → (maxJ n (seeL 8 oo) m = 0 ↔ jdg n (seeL 7 oo) m = 0) := fun m hm => by
    have h2 := max_iff hn hsym hself hm
    have h3 : maxJ n (seeL 8 oo) m = 0 ↔ maxB n (seeL 8 oo) m = true := by
      unfold maxJ
      by_cases hb : maxB n (seeL 8 oo) m = true
      · simp [hb]
      · simp [hb]
    rw [h3, h2, jdg_zero]
    have h87 := seeL_87 hok
    constructor
    · intro g x hx
      rw [← h87]; exact g x hx
    · intro g x hx
      rw [h87]; exact g x hx
  have heq : kerL (maxJ n (seeL 8 oo)) (List.range' 0 (2 ^ n)) = kerL (jdg n (seeL 7 oo)) (List.range' 0 (2 ^ n)) := by
    unfold kerL
    congr 1
    apply List.filter_congr
    intro m hm
    rw [List.mem_range'_1] at hm
    exact decide_eq_decide.2 (hiff m (by omega))
  refine ⟨?_, hok, heq, fun e => ?_⟩
  · unfold chk
    rw [if_neg (by omega), if_neg (by have := h.len; omega)]
    exact prsErr_ok _ [] h.good (by simpa using h.nd)
  · obtain ⟨m, hm, hb⟩ := max_some hn (seeL 8 oo)
    have : memb m ∈ kerL (maxJ n (seeL 8 oo)) (List.range' 0 (2 ^ n)) := by
      unfold kerL
      refine List.mem_map.2 ⟨m, List.mem_filter.2 ⟨by rw [List.mem_range'_1]; omega, decide_eq_true ?_⟩, rfl⟩
      unfold maxJ; rw [if_pos hb]
    rw [e] at this; simp at this

attribute [local go_sem] shaped_t cells_t isAgg_t storable_t okRef_t pub_t okRef_out storable_out shaped_out cells_out fin_out pub_out

theorem frzL4m {a b c d cs : List AV} (hne : cs ≠ []) (T : List Nat) (env : Env) :
    frzL 4 env ⟨[a, b, c, d, cs], T⟩ = (frzEnv 4 cs env, ⟨[frzVs 4 cs a, frzVs 4 cs b, frzVs 4 cs c, frzVs 4 cs d, []], T⟩) := by
  cases cs with
  | nil => exact absurd rfl hne
  | cons x r => rfl

set_option maxHeartbeats 2000000 in
theorem c10 (zs : List Int) (hzl : zs.length = 34) (hz : ∀ a ∈ zs, Byte a) (st : St) :
    run L 10 [qAV zs] st = some (B true, st) := by
  rw [run_pure (fn := ir10) rfl rfl]
  obtain ⟨n, hN, h1, h2, h3, h4, h5, h6, h7, h8⟩ := made_ok (.inr rfl) zs
  have h45 := fun st => c45 zs hzl hz 7 (.inr rfl) st
  rw [hN] at h45
  generalize madeP 7 zs = ps at *
  have htk : (zs.map B8).take 34 = zs.map B8 := List.take_of_length_le (by rw [List.length_map]; omega)
  have hinv := mut_inv (n := (n : Int)) (ps := ps) (fun p hp => h5 p hp)
  have hmu : ps.foldl mutStep [] = mutL ps := rfl
  simp only [ir10, go_sem, reduceIte, Nat.reduceEqDiff, Nat.reduceAdd, Nat.reduceSub, Nat.reduceLeDiff, Nat.reduceLT, reduceCtorEq, Int.reduceLT, Int.reduceLE, Int.reduceEq, Int.reduceBEq, Int.reduceSub, Int.reduceAdd, Int.reduceMul, Int.reduceNeg, Int.reduceToNat, Nat.reduceMul, Nat.reduceBEq, okRefsB, renCellsB, pubsB, storableB, h45, hzl, htk, List.length_map]
  generalize hg : lim (headed pure (run L) true _ lp10_0 _ _) _ _ = o
  obtain ⟨x, en, s, rfl, h2⟩ : ∃ x en s, o = some (x, en, s) ∧ _ := by rw [← hg]; exact loop10_0 zs n h3 ps h4 0 [] ⟨by omega, by simp⟩ _ _ (by simp only [go_sem, reduceIte, Nat.reduceEqDiff, Nat.reduceAdd, Nat.reduceSub, Nat.reduceLeDiff, Nat.reduceLT, reduceCtorEq, Int.reduceLT, Int.reduceLE, Int.reduceEq, Int.reduceBEq, Int.reduceSub, Int.reduceAdd, Int.reduceMul, Int.reduceNeg, Int.reduceToNat, Nat.reduceMul, Nat.reduceBEq, okRefsB, renCellsB, show outAV [] = .v (.slice none 0 0) from rfl, show outT [] = [] from rfl, Int.natCast_zero] <;> rfl)
  clear hg
  rw [List.drop_zero, hmu] at h2
  obtain ⟨rfl, e4, e30, rfl⟩ := h2
  generalize mutL ps = oo at *
  obtain ⟨k1, k4, heq, hne⟩ := mut_chos h1 h3 hinv
  have hout : ∀ f fn, L.fns f = some fn → L.pure f = true → ∀ st, run L f [.agg [I (n : Int), outAV oo]] st = run L f [bkAV true (n : Int) oo] st := fun f fn hf hp st => run_args hf hp st (by simp only [pubs, pub, pub_out, pub_sl])
  have h20 : ∀ st, run L 20 [.agg [I (n : Int), outAV oo]] st = some (.tup [sl 1 true ((chosL n oo).map tAV), I 0], st) := fun st => by
    rw [hout 20 ir20 rfl rfl, c20 true (n : Int) oo st, k1, allV_ok k1]
  have h50 : ∀ st, run L 50 [.agg [I (n : Int), outAV oo]] st = some (.agg ((seeL 8 oo).map J), st) := fun st => by
    rw [hout 50 ir50 rfl rfl, c50 true (n : Int) oo (by have := hinv.len; omega) k4 st]
  have hpj := putJ (seeL 8 oo) (seeL_len 8 oo)
  have hlj := seeL_len 8 oo
  have hsm := seeL_small 8 k4
  have hsh := shl_i n (by omega)
  have h12 := ker12 (n := n) h3 (fun p hp => hinv.good p hp) k4
  have hsm7 := kerL_small (jdg n (seeL 7 oo)) (List.range' 0 (2 ^ n))
  obtain ⟨_, h23⟩ := lists_self n ⟨h1, h3⟩ (ps := oo) (fun p hp => hinv.good p hp) k4
  have hso : sortL lexLt (kerL (maxJ n (seeL 8 oo)) (List.range' 0 (2 ^ n))) = chosL n oo := by unfold chosL; rw [heq]
  rw [← heq] at h12 hsm7
  generalize hw : seeL 8 oo = w at *
  have hro := fun T acc => ren1_outG (o := oo) (k := (outT oo).length) (Nat.le_refl _) T acc
  simp only [go_sem, reduceIte, Nat.reduceEqDiff, Nat.reduceAdd, Nat.reduceSub, Nat.reduceLeDiff, Nat.reduceLT, reduceCtorEq, Int.reduceLT, Int.reduceLE, Int.reduceEq, Int.reduceBEq, Int.reduceSub, Int.reduceAdd, Int.reduceMul, Int.reduceNeg, Int.reduceToNat, Nat.reduceMul, Nat.reduceBEq, e4, h50, hpj, hlj, hsh, pubsJ, storableJ, List.length_map]
  generalize hg : lim (headed pure (run L) true _ lp10_2 _ _) _ _ = o
  obtain ⟨x, en, s, rfl, h2⟩ : ∃ x en s, o = some (x, en, s) ∧ _ := by rw [← hg]; exact loop10_2 zs n h3 ps oo w hlj hsm _ rfl 0 [] ⟨Nat.zero_le _, by simp⟩ _ _ (by simp only [go_sem, reduceIte, Nat.reduceEqDiff, Nat.reduceAdd, Nat.reduceSub, Nat.reduceLeDiff, Nat.reduceLT, reduceCtorEq, Int.reduceLT, Int.reduceLE, Int.reduceEq, Int.reduceBEq, Int.reduceSub, Int.reduceAdd, Int.reduceMul, Int.reduceNeg, Int.reduceToNat, Nat.reduceMul, Nat.reduceBEq, e4, e30, show k4A [] = .v (.slice none 0 0) from rfl, show kS [] = [] from rfl, okRefsB, renCellsB, okRefsJ, renCellsJ, hro, List.take_length, refsL_B, mapLs_B, refsL_J, mapLs_J, refsV_outA, mapL_outA, compact, compactW, refsEnv, refsV, refsL, refsStore, refsAt, mapEnv, mapL, mapLs, newName, posOf, mapStore, pickStore, namesOk, refsV_sl, mapL_sl, List.contains_nil, List.contains_cons, Option.getD_some, hasKey, Int.natCast_zero] <;> rfl)
  clear hg
  rw [List.nil_append, Nat.sub_zero] at h2
  obtain ⟨rfl, e4, e9, rfl⟩ := h2
  generalize kerL (maxJ n w) (List.range' 0 (2 ^ n)) = X at *
  have eA := k4A_ne hne
  have eS := kS_ne hne
  have hpos : 1 ≤ X.length := List.length_pos_iff.2 hne
  have h54 := c54 [zs.map B8, bkCells true (n : Int) ps, [I (n : Int), outAV oo], w.map J, X.map tAV] (outT oo) 4 X rfl hpos h12 (fun l hl => by have := hsm7 l hl; omega)
  have hperm := (sortL_perm lexLt X).length_eq
  rw [hso] at h54 hperm
  have hset : ∀ c : List AV, [zs.map B8, bkCells true (n : Int) ps, [I (n : Int), outAV oo], w.map J, X.map tAV].set 4 c = [zs.map B8, bkCells true (n : Int) ps, [I (n : Int), outAV oo], w.map J, c] := fun c => rfl
  rw [hset] at h54
  have hCne : chosL n oo ≠ [] := by intro e; rw [e] at hperm; simp at hperm; omega
  have hfz := fun T env => frzL4m (a := zs.map B8) (b := bkCells true (n : Int) ps) (c := [I (n : Int), outAV oo]) (d := w.map J) (cs := (chosL n oo).map tAV) (by simpa using hCne) T env
  have hfv := frzV_madeT 4 (chosL n oo) hCne
  rw [hperm] at hfv
  have hlc : lenAV (sl 1 true ((chosL n oo).map tAV)) = some (I (chosL n oo).length) := len_t true _
  have q1 : ((0 : Int) < ((chosL n oo).length : Int)) = True := eq_true (by omega)
  have q2 : (0 < (chosL n oo).length) = True := eq_true (by omega)
  generalize chosL n oo = C at *
  simp only [go_sem, reduceIte, Nat.reduceEqDiff, Nat.reduceAdd, Nat.reduceSub, Nat.reduceLeDiff, Nat.reduceLT, reduceCtorEq, Int.reduceLT, Int.reduceLE, Int.reduceEq, Int.reduceBEq, Int.reduceSub, Int.reduceAdd, Int.reduceMul, Int.reduceNeg, Int.reduceToNat, Nat.reduceMul, Nat.reduceBEq, e4, e9, eA, eS, h54, show pure 54 = false from rfl, h20, code_frz, frzAV, frzT, frzLs, rslsOf, hfz, frzEnv, frzEnv_get, frzStore, frzVs, frzV_v, frzV_ptr, frzV_sl, hfv, frzV_tA, frzV_outA, frzVs_B8, frzVs_J, h23, hlc, q1, q2, c17]
end Go.Proofs.YtgohohiaaiogcaaDoor.Vm
