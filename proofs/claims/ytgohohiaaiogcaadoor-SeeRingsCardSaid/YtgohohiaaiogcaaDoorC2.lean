/- What is proved: what each function of this program computes, as equations on the evaluator. No condition. -/
import Derived.Test.YtgohohiaaiogcaaDoorC1
set_option linter.all false
namespace Go.Proofs.YtgohohiaaiogcaaDoor.Vm
open Go Go.Ev
set_option maxRecDepth 100000
attribute [local go_sem] cells_any storable_any ren1_any shaped_ptr cells_ptr storable_ptr ren1_ptr shaped_eptr cells_eptr storable_eptr ren1_eptr shaped_rsl cells_rsl storable_rsl ren1_rsl shaped_int cells_int storable_int ren1_int shaped_bool cells_bool storable_bool ren1_bool shaped_nils cells_nils storable_nils ren1_nils shaped_lst cells_lst storable_lst shaped_fn cells_fn storable_fn ren1_fn shaped_ifc cells_ifc storable_ifc ren1_ifc shaped_agg cells_agg storable_agg ren1_agg shaped_tup cells_tup storable_tup ren1_tup shaped_nif cells_nif storable_nif ren1_nif ren1_lany ren1_lfull ren1_lown len_lst len_rsl len_nil load_ptr load_eptr isRsl_lst isRsl_nil isRsl_rsl elems_nil elems_lst elems_sl isRsl_sl body_eq bodyK_normal bodyK_ret resK_some leaveK_some only_some code_skip code_exit code_ret code_ops code_seq code_cond code_block seqK_normal seqK_ret seqK_exit condK_true condK_false blockK_normal blockK_ret blockK_exit opsK_some ops_nil ops_cons wantK_true wantK_false stepK_some pubs pub pub_sl params okRef_loc storable_loc shaped_loc cells_loc isRsl_loc elems_loc len_loc untips untip untip_sl wantedAV setElems withO isAgg_v isAgg_agg isAgg_lst isAgg_ptr isAgg_fn isAgg_ifc isAgg_rsl isAgg_sl isAgg_loc List.replicate_succ List.replicate_zero opAV valAV aval avals ofVal Env.get setD canon gcAV renAll renEnv renStore renCells ren1_sl cutSt okEnv okStore okRefs okRef okRef_sl bin_int bin_bool bin_lst bin_rsl bin_nil bin_agg cellsEq cellEq isShift intOp boolOp min_int max_int beq_int bne resAV tupAV leave_eq fin_sl fin_loc fins fin_v fin_lst fin_agg fin_tup fin_fn storeAV readCells putCells cells_sl shaped_sl storable_sl fieldAddrAV len_sl goI List.getElem?_cons_zero List.getElem?_cons_succ List.getElem?_nil Option.bind_some Option.map_some List.length_cons List.length_nil List.all_cons List.all_nil Bool.and_true Bool.true_and Bool.and_false Bool.false_and and_true true_and and_false false_and Bool.false_eq_true List.set_cons_zero List.set_cons_succ List.append_nil List.nil_append List.cons_append List.take_zero List.take_succ_cons List.take_nil List.drop_zero List.drop_succ_cons List.map_cons List.map_nil decide_true decide_false beq_self_eq_true Bool.not_true Bool.not_false or_true true_or or_false false_or Nat.zero_add Nat.add_zero Nat.le_refl Nat.lt_irrefl decide_eq_true_eq eq_self_iff_true not_true_eq_false not_false_eq_true List.getD_cons_zero code_loop Nat.zero_le Nat.not_lt_zero Bool.true_beq Bool.false_beq beq_true beq_false ge_iff_le gt_iff_lt Lpure pus Option.map_none assert_ifc assert_nil idxA_ptr idxA_eptr idxV_agg Int.cast_ofNat_Int Nat.mul_one Nat.zero_mul Int.toNat_natCast Int.toNat_zero setParts withO2 hasKey eqnil_sl nenil_sl eqnil_loc nenil_loc map_nil_iff okRefs_ints renCells_ints
attribute [local go_sem] shaped_t cells_t isAgg_t storable_t okRef_t pub_t

theorem append_oo (X : List (List Nat)) (c : List Nat) (S : List (List AV)) (h : X.length < 100000000) : appendAV 1 (ooA X) [oA c] ⟨S, ooT X⟩ = some (ooA (X ++ [c]), ⟨S, ooT (X ++ [c])⟩) :=
  append_locm (z := 1) (k := 0) oA X c S (by omega) (by unfold maxGrow; omega)
theorem oo_ren (X : List (List Nat)) (th : Nat) (h : th = 0 ∨ (th = 1 ∧ X ≠ [])) : ∃ q, ren1 th (ooT X) [] (ooA X) = (ooA X, q) ∧ (ooT X).take th ++ q.map (fun x => x.2) = ooT X := by
  rcases h with rfl | ⟨rfl, hne⟩
  · obtain ⟨q, h1, h2⟩ := outOk_ren (ooA_ok X)
    exact ⟨q, h1, by simpa using h2⟩
  · have hl : (X.map oA).length ≠ 0 := by simpa using hne
    refine ⟨[], ?_, ?_⟩
    · unfold ooA loc
      rw [if_neg hl, ren1_lown, if_pos (by omega)]
    · unfold ooT locT
      rw [if_neg hl]; rfl
/-- Whether a circle's first word is its smallest one, and is seen by the last one. -/
def ccP (w : List Nat) (m a : Nat) (c : List Nat) : Bool := decide (minL a c (List.range' 0 m) = a) && (w.getD (c.getD (m - 1) 0) 0).testBit a

set_option maxHeartbeats 1000000 in
theorem loop95_1 (nl : Bool) (n : Int) (ps : List (Int × Int)) (hps : ps.length < 1000000) (h7 : ∀ p ∈ ps, okP p) (m : Nat) (hm1 : 1 ≤ m) (hm50 : m ≤ 50) (Z : List (List Nat)) (hZ : ∀ c ∈ Z, c.length = m) (hZl : Z.length < 1000000) (a : Nat) (th : Nat) (B : Nat) (hB : B < 50000000) (i : Nat) (X : List (List Nat)) (hok : i ≤ Z.length ∧ (th = 0 ∨ (th = 1 ∧ X ≠ [])) ∧ X.length ≤ B + i) (env : Env) (st : St)
    (hg : gcAV true 1 th (canon env [1, 2, 5, 6, 7, 8]) st = ([(1, I m), (2, .ptr 0 0), (5, ooA X), (6, I a), (7, LA Z), (8, I i)], ⟨[bkCells nl n ps], ooT X⟩)) :
    ∃ x_1 en s, lim (headed pure (run L) true [1, 2, 5, 6, 7, 8] lp95_1 1 th) env st = some (x_1, en, s) ∧ (x_1 = .exit 2 ∧ en.get 1 = I m ∧ en.get 2 = .ptr 0 0 ∧ en.get 5 = ooA (X ++ (Z.drop i).filter (ccP (seeL 7 ps) m a)) ∧ en.get 6 = I a ∧ s = ⟨[bkCells nl n ps], ooT (X ++ (Z.drop i).filter (ccP (seeL 7 ps) m a))⟩) := by
  refine loop_wp (α := Nat × List (List Nat)) (fun ⟨i, X⟩ => Z.length - i) (fun ⟨i, X⟩ => i ≤ Z.length ∧ (th = 0 ∨ (th = 1 ∧ X ≠ [])) ∧ X.length ≤ B + i) (fun ⟨i, X⟩ => ([(1, I m), (2, .ptr 0 0), (5, ooA X), (6, I a), (7, LA Z), (8, I i)], ⟨[bkCells nl n ps], ooT X⟩)) (fun ⟨i, X⟩ x_1 en s => x_1 = .exit 2 ∧ en.get 1 = I m ∧ en.get 2 = .ptr 0 0 ∧ en.get 5 = ooA (X ++ (Z.drop i).filter (ccP (seeL 7 ps) m a)) ∧ en.get 6 = I a ∧ s = ⟨[bkCells nl n ps], ooT (X ++ (Z.drop i).filter (ccP (seeL 7 ps) m a))⟩) (fun ⟨i, X⟩ hok => ?_) ⟨i, X⟩ hok env st hg
  simp only at hok
  obtain ⟨h1, h2, h3⟩ := hok
  dsimp only at h1 h2 h3 ⊢
  have hth := h2
  have hth' : ∀ c : List Nat, th = 0 ∨ (th = 1 ∧ X ++ [c] ≠ []) := fun c => hth.imp id (fun h => ⟨h.1, by simp⟩)
  by_cases h : i < Z.length
  · have hs := succ64 i (by omega)
    have hlt : ((i : Int) < (Z.length : Int)) = True := eq_true (by omega)
    have hd : Z.drop i = Z[i] :: Z.drop (i + 1) := List.drop_eq_getElem_cons h
    have hix := index_LA Z i h
    have hoa : oA Z[i] = .lst .any 1 (Z[i].map J) := rfl
    have hcl := hZ _ (List.getElem_mem h)
    have hl1 : IntKind.i64.wrap ((m : Int) - 1) = ((m - 1 : Nat) : Int) := by rw [wrap64] <;> omega
    have hx1 := index_lstJ .any Z[i] (m - 1) (by omega)
    have h71 := fun st => c71 nl n ps hps ((Z[i].getD (m - 1) 0 : Nat) : Int) ((a : Nat) : Int) st
    have hbit : decide ((((Z[i].getD (m - 1) 0 : Nat) : Int), ((a : Nat) : Int)) ∈ ps) = ((seeL 7 ps).getD (Z[i].getD (m - 1) 0) 0).testBit a := (seeL_bit (Nat.le_refl 7) h7 _ _).symm
    rw [hbit] at h71
    have hcc : ccP (seeL 7 ps) m a Z[i] = (decide (minL a Z[i] (List.range' 0 m) = a) && ((seeL 7 ps).getD (Z[i].getD (m - 1) 0) 0).testBit a) := rfl
    rw [hd]
    obtain ⟨q0, hq01, hq02⟩ := oo_ren X th h2
    have hor0 := outOk_ref (ooA_ok X) 1
    have hrr : ∀ acc, ren1 (ooT X).length (ooT X) acc (ooA X) = (ooA X, acc) := fun acc => by
      unfold ooA ooT loc locT
      split
      · rfl
      · simp [ren1]
    have hap := fun S => append_oo X Z[i] S (by omega)
    have hcell : (oA Z[i]) = .lst .any 1 (Z[i].map J) := rfl
    simp only [go_sem, reduceIte, Nat.reduceEqDiff, Nat.reduceAdd, Nat.reduceSub, Nat.reduceLeDiff, Nat.reduceLT, reduceCtorEq, Int.reduceLT, Int.reduceLE, Int.reduceEq, Int.reduceBEq, Int.reduceSub, Int.reduceAdd, Int.reduceMul, Int.reduceNeg, Int.reduceToNat, Nat.reduceMul, Nat.reduceBEq, index_rsl_if, setm, make_ints, condK_dec, wantK_dec, not_dec, and_dec, or_dec, seqK_ite, seqK_none, blockK_ite, blockK_none, opsK_ite, opsK_none, stepK_ite, stepK_none, bodyK_ite, bodyK_none, resK_ite, resK_none, leaveK_ite, leaveK_none, only_ite, only_none, bind_ite, gives_some, gives_none, gives_ite, then_normal, then_ret, then_exit, then_none, then_ite, Option.bind_none, Bool.not_eq_true', decide_eq_false_iff_not, Bool.and_eq_true, Bool.or_eq_true, Option.some.injEq, Int.not_lt, Int.not_le, lp95_1, hlt, hs, len_LA]
    generalize hg : lim (headed pure (run L) true _ lp95_0 _ _) _ _ = o
    obtain ⟨x, en, s, rfl, h2⟩ : ∃ x en s, o = some (x, en, s) ∧ _ := by rw [← hg]; exact loop95_0 nl n ps m Z X a i h (by omega) hcl hm50 (ooT X).length rfl 0 a (by omega) _ _ (by simp only [go_sem, reduceIte, Nat.reduceEqDiff, Nat.reduceAdd, Nat.reduceSub, Nat.reduceLeDiff, Nat.reduceLT, reduceCtorEq, Int.reduceLT, Int.reduceLE, Int.reduceEq, Int.reduceBEq, Int.reduceSub, Int.reduceAdd, Int.reduceMul, Int.reduceNeg, Int.reduceToNat, Nat.reduceMul, Nat.reduceBEq, hor0, hrr, ren1_LA, okRef_LA, List.take_length, Int.natCast_zero] <;> rfl)
    clear hg
    rw [Nat.sub_zero] at h2
    obtain ⟨rfl, e1, e2, e5, e6, e7, e8, e9, rfl⟩ := h2
    rw [hcell] at hap hix
    by_cases p1 : minL a Z[i] (List.range' 0 m) = a
    · by_cases p2 : ((seeL 7 ps).getD (Z[i].getD (m - 1) 0) 0).testBit a = true
      · rw [List.filter_cons_of_pos (by rw [hcc, p2]; simp [p1])]
        have q1 : (((minL a Z[i] (List.range' 0 m) : Nat) : Int) = (a : Int)) = True := eq_true (by omega)
        obtain ⟨q3, hq31, hq32⟩ := oo_ren (X ++ [Z[i]]) th (hth' _)
        have hor3 := outOk_ref (ooA_ok (X ++ [Z[i]])) 1
        generalize Z[i] = c at *
        simp only [go_sem, reduceIte, Nat.reduceEqDiff, Nat.reduceAdd, Nat.reduceSub, Nat.reduceLeDiff, Nat.reduceLT, reduceCtorEq, Int.reduceLT, Int.reduceLE, Int.reduceEq, Int.reduceBEq, Int.reduceSub, Int.reduceAdd, Int.reduceMul, Int.reduceNeg, Int.reduceToNat, Nat.reduceMul, Nat.reduceBEq, index_rsl_if, setm, make_ints, condK_dec, wantK_dec, not_dec, and_dec, or_dec, seqK_ite, seqK_none, blockK_ite, blockK_none, opsK_ite, opsK_none, stepK_ite, stepK_none, bodyK_ite, bodyK_none, resK_ite, resK_none, leaveK_ite, leaveK_none, only_ite, only_none, bind_ite, gives_some, gives_none, gives_ite, then_normal, then_ret, then_exit, then_none, then_ite, Option.bind_none, Bool.not_eq_true', decide_eq_false_iff_not, Bool.and_eq_true, Bool.or_eq_true, Option.some.injEq, Int.not_lt, Int.not_le, lp95_1, hs, e1, e2, e5, e6, e7, e8, e9, q1, hl1, hix, hx1, h71, p2, hap]
        refine ⟨(i + 1, X ++ [c]), by simp only [go_sem, reduceIte, Nat.reduceEqDiff, Nat.reduceAdd, Nat.reduceSub, Nat.reduceLeDiff, Nat.reduceLT, reduceCtorEq, Int.reduceLT, Int.reduceLE, Int.reduceEq, Int.reduceBEq, Int.reduceSub, Int.reduceAdd, Int.reduceMul, Int.reduceNeg, Int.reduceToNat, Nat.reduceMul, Nat.reduceBEq, ren1_locm, loc_tips, locT_eq, hq31, hq32, hor3, ren1_LA, okRef_LA, e1, e2, e5, e6, e7, e8, e9] <;> rfl, ?_, ?_, fun x en s hq => ?_⟩
        · dsimp only
          exact ⟨by omega, hth' _, by rw [List.length_append, List.length_singleton]; omega⟩
        · dsimp only; omega
        · simp only [List.append_assoc, List.cons_append, List.nil_append] at hq; exact hq
      · have p2' : ((seeL 7 ps).getD (Z[i].getD (m - 1) 0) 0).testBit a = false := by simpa using p2
        rw [List.filter_cons_of_neg (by rw [hcc, p2']; simp)]
        have q1 : (((minL a Z[i] (List.range' 0 m) : Nat) : Int) = (a : Int)) = True := eq_true (by omega)
        generalize Z[i] = c at *
        simp only [go_sem, reduceIte, Nat.reduceEqDiff, Nat.reduceAdd, Nat.reduceSub, Nat.reduceLeDiff, Nat.reduceLT, reduceCtorEq, Int.reduceLT, Int.reduceLE, Int.reduceEq, Int.reduceBEq, Int.reduceSub, Int.reduceAdd, Int.reduceMul, Int.reduceNeg, Int.reduceToNat, Nat.reduceMul, Nat.reduceBEq, index_rsl_if, setm, make_ints, condK_dec, wantK_dec, not_dec, and_dec, or_dec, seqK_ite, seqK_none, blockK_ite, blockK_none, opsK_ite, opsK_none, stepK_ite, stepK_none, bodyK_ite, bodyK_none, resK_ite, resK_none, leaveK_ite, leaveK_none, only_ite, only_none, bind_ite, gives_some, gives_none, gives_ite, then_normal, then_ret, then_exit, then_none, then_ite, Option.bind_none, Bool.not_eq_true', decide_eq_false_iff_not, Bool.and_eq_true, Bool.or_eq_true, Option.some.injEq, Int.not_lt, Int.not_le, lp95_1, hs, e1, e2, e5, e6, e7, e8, e9, q1, hl1, hix, hx1, h71, p2']
        refine ⟨(i + 1, X), by simp only [go_sem, reduceIte, Nat.reduceEqDiff, Nat.reduceAdd, Nat.reduceSub, Nat.reduceLeDiff, Nat.reduceLT, reduceCtorEq, Int.reduceLT, Int.reduceLE, Int.reduceEq, Int.reduceBEq, Int.reduceSub, Int.reduceAdd, Int.reduceMul, Int.reduceNeg, Int.reduceToNat, Nat.reduceMul, Nat.reduceBEq, ren1_locm, loc_tips, locT_eq, hq01, hq02, hor0, ren1_LA, okRef_LA, e1, e2, e5, e6, e7, e8, e9] <;> rfl, ?_, ?_, fun x en s hq => ?_⟩
        · dsimp only; exact ⟨by omega, hth, by omega⟩
        · dsimp only; omega
        · exact hq
    · rw [List.filter_cons_of_neg (by rw [hcc]; simp [p1])]
      have q1 : (((minL a Z[i] (List.range' 0 m) : Nat) : Int) = (a : Int)) = False := eq_false (by omega)
      generalize Z[i] = c at *
      simp only [go_sem, reduceIte, Nat.reduceEqDiff, Nat.reduceAdd, Nat.reduceSub, Nat.reduceLeDiff, Nat.reduceLT, reduceCtorEq, Int.reduceLT, Int.reduceLE, Int.reduceEq, Int.reduceBEq, Int.reduceSub, Int.reduceAdd, Int.reduceMul, Int.reduceNeg, Int.reduceToNat, Nat.reduceMul, Nat.reduceBEq, index_rsl_if, setm, make_ints, condK_dec, wantK_dec, not_dec, and_dec, or_dec, seqK_ite, seqK_none, blockK_ite, blockK_none, opsK_ite, opsK_none, stepK_ite, stepK_none, bodyK_ite, bodyK_none, resK_ite, resK_none, leaveK_ite, leaveK_none, only_ite, only_none, bind_ite, gives_some, gives_none, gives_ite, then_normal, then_ret, then_exit, then_none, then_ite, Option.bind_none, Bool.not_eq_true', decide_eq_false_iff_not, Bool.and_eq_true, Bool.or_eq_true, Option.some.injEq, Int.not_lt, Int.not_le, lp95_1, hs, e1, e2, e5, e6, e7, e8, e9, q1]
      refine ⟨(i + 1, X), by simp only [go_sem, reduceIte, Nat.reduceEqDiff, Nat.reduceAdd, Nat.reduceSub, Nat.reduceLeDiff, Nat.reduceLT, reduceCtorEq, Int.reduceLT, Int.reduceLE, Int.reduceEq, Int.reduceBEq, Int.reduceSub, Int.reduceAdd, Int.reduceMul, Int.reduceNeg, Int.reduceToNat, Nat.reduceMul, Nat.reduceBEq, ren1_locm, loc_tips, locT_eq, hq01, hq02, hor0, ren1_LA, okRef_LA, e1, e2, e5, e6, e7, e8, e9] <;> rfl, ?_, ?_, fun x en s hq => ?_⟩
      · dsimp only; exact ⟨by omega, hth, by omega⟩
      · dsimp only; omega
      · exact hq
  · have hd : Z.drop i = [] := List.drop_eq_nil_of_le (by omega)
    have hlt : ((i : Int) < (Z.length : Int)) = False := eq_false (by omega)
    rw [hd]
    simp only [go_sem, reduceIte, Nat.reduceEqDiff, Nat.reduceAdd, Nat.reduceSub, Nat.reduceLeDiff, Nat.reduceLT, reduceCtorEq, Int.reduceLT, Int.reduceLE, Int.reduceEq, Int.reduceBEq, Int.reduceSub, Int.reduceAdd, Int.reduceMul, Int.reduceNeg, Int.reduceToNat, Nat.reduceMul, Nat.reduceBEq, index_rsl_if, setm, make_ints, condK_dec, wantK_dec, not_dec, and_dec, or_dec, seqK_ite, seqK_none, blockK_ite, blockK_none, opsK_ite, opsK_none, stepK_ite, stepK_none, bodyK_ite, bodyK_none, resK_ite, resK_none, leaveK_ite, leaveK_none, only_ite, only_none, bind_ite, gives_some, gives_none, gives_ite, then_normal, then_ret, then_exit, then_none, then_ite, Option.bind_none, Bool.not_eq_true', decide_eq_false_iff_not, Bool.and_eq_true, Bool.or_eq_true, Option.some.injEq, Int.not_lt, Int.not_le, lp95_1, hlt, len_LA]
    simp

attribute [local go_sem] shaped_t cells_t isAgg_t storable_t okRef_t pub_t

theorem oo_th (X : List (List Nat)) : ((ooT X).length = 0 ∨ ((ooT X).length = 1 ∧ X ≠ [])) := by
  by_cases h : X = []
  · subst h; exact .inl rfl
  · have hl : (X.map oA).length ≠ 0 := by simpa using h
    right
    refine ⟨?_, h⟩
    unfold ooT locT; rw [if_neg hl]; rfl
def crW (w : List Nat) (n m a : Nat) : List (List Nat) := (wys w n (m - 1) [a]).filter (ccP w m a)

theorem loop95_2 (nl : Bool) (n : Nat) (hn : n ≤ 7) (ps : List (Int × Int)) (hps : ps.length < 1000000) (h7 : ∀ p ∈ ps, okP p) (m : Nat) (hm1 : 1 ≤ m) (hm7 : m ≤ 7) (Bd : Nat) (hBd : Bd ≤ 900000) (hZB : ∀ a, (wys (seeL 7 ps) n (m - 1) [a]).length ≤ Bd) (a : Nat) (X : List (List Nat)) (hok : a ≤ n ∧ X.length ≤ a * Bd) (env : Env) (st : St)
    (hg : gcAV true 1 0 (canon env [1, 2, 5, 6]) st = ([(1, I m), (2, .ptr 0 0), (5, ooA X), (6, I a)], ⟨[bkCells nl (n : Int) ps], ooT X⟩)) :
    ∃ x_1 en s, lim (headed pure (run L) true [1, 2, 5, 6] lp95_2 1 0) env st = some (x_1, en, s) ∧ (x_1 = .exit 0 ∧ en.get 5 = ooA (X ++ (List.range' a (n - a)).flatMap (crW (seeL 7 ps) n m)) ∧ s = ⟨[bkCells nl (n : Int) ps], ooT (X ++ (List.range' a (n - a)).flatMap (crW (seeL 7 ps) n m))⟩) := by
  refine loop_wp (α := Nat × List (List Nat)) (fun ⟨a, X⟩ => n - a) (fun ⟨a, X⟩ => a ≤ n ∧ X.length ≤ a * Bd) (fun ⟨a, X⟩ => ([(1, I m), (2, .ptr 0 0), (5, ooA X), (6, I a)], ⟨[bkCells nl (n : Int) ps], ooT X⟩)) (fun ⟨a, X⟩ x_1 en s => x_1 = .exit 0 ∧ en.get 5 = ooA (X ++ (List.range' a (n - a)).flatMap (crW (seeL 7 ps) n m)) ∧ s = ⟨[bkCells nl (n : Int) ps], ooT (X ++ (List.range' a (n - a)).flatMap (crW (seeL 7 ps) n m))⟩) (fun ⟨a, X⟩ hok => ?_) ⟨a, X⟩ hok env st hg
  simp only at hok
  obtain ⟨h1, h2⟩ := hok
  dsimp only at h1 h2 ⊢
  have hb0 : (bkCells nl (n : Int) ps)[0]? = some (I (n : Int)) := rfl
  by_cases h : a < n
  · have hs := succ64 a (by omega)
    have hlt : ((a : Int) < (n : Int)) = True := eq_true (by omega)
    have hr : List.range' a (n - a) = a :: List.range' (a + 1) (n - (a + 1)) := by
      rw [show n - a = (n - (a + 1)) + 1 by omega, List.range'_succ]
    rw [hr, List.flatMap_cons, ← List.append_assoc]
    have hmul : (a + 1) * Bd = a * Bd + Bd := Nat.succ_mul a Bd
    have hxb : a * Bd ≤ 7 * 900000 := Nat.mul_le_mul (by omega) hBd
    have hZ1 := hZB a
    have h78 : ∀ st, run L 78 [bkAV nl (n : Int) ps, .lst .full 1 [J a], I m] st = some (LA (wys (seeL 7 ps) n (m - 1) [a]), st) := fun st => by
      have := c78 nl n hn ps hps h7 (m - 1) [a] (by simp) (by omega) (by simp; omega) st
      rw [List.length_singleton, show 1 + (m - 1) = m by omega] at this
      rw [← this]
      exact run_args (fn := ir78) rfl rfl st rfl
    have hZm : ∀ c ∈ wys (seeL 7 ps) n (m - 1) [a], c.length = m := fun c hc => by
      obtain ⟨s, e, hl⟩ := wys_has _ n (m - 1) [a] c hc
      rw [e, List.length_append, List.length_singleton, hl]; omega
    have hor0 := outOk_ref (ooA_ok X) 1
    have hrr : ∀ acc, ren1 (ooT X).length (ooT X) acc (ooA X) = (ooA X, acc) := fun acc => by
      unfold ooA ooT loc locT
      split
      · rfl
      · simp [ren1]
    have hcw : (wys (seeL 7 ps) n (m - 1) [a]).filter (ccP (seeL 7 ps) m a) = crW (seeL 7 ps) n m a := rfl
    have hcl : (crW (seeL 7 ps) n m a).length ≤ Bd := by
      have := List.length_filter_le (ccP (seeL 7 ps) m a) (wys (seeL 7 ps) n (m - 1) [a])
      unfold crW; omega
    generalize wys (seeL 7 ps) n (m - 1) [a] = Z at *
    simp only [go_sem, reduceIte, Nat.reduceEqDiff, Nat.reduceAdd, Nat.reduceSub, Nat.reduceLeDiff, Nat.reduceLT, reduceCtorEq, Int.reduceLT, Int.reduceLE, Int.reduceEq, Int.reduceBEq, Int.reduceSub, Int.reduceAdd, Int.reduceMul, Int.reduceNeg, Int.reduceToNat, Nat.reduceMul, Nat.reduceBEq, index_rsl_if, setm, make_ints, condK_dec, wantK_dec, not_dec, and_dec, or_dec, seqK_ite, seqK_none, blockK_ite, blockK_none, opsK_ite, opsK_none, stepK_ite, stepK_none, bodyK_ite, bodyK_none, resK_ite, resK_none, leaveK_ite, leaveK_none, only_ite, only_none, bind_ite, gives_some, gives_none, gives_ite, then_normal, then_ret, then_exit, then_none, then_ite, Option.bind_none, Bool.not_eq_true', decide_eq_false_iff_not, Bool.and_eq_true, Bool.or_eq_true, Option.some.injEq, Int.not_lt, Int.not_le, lp95_2, hb0, hlt, hs, h78]
    generalize hg : lim (headed pure (run L) true _ lp95_1 _ _) _ _ = o
    obtain ⟨x, en, s, rfl, h2⟩ : ∃ x en s, o = some (x, en, s) ∧ _ := by rw [← hg]; exact loop95_1 nl (n : Int) ps hps h7 m hm1 (by omega) Z hZm (by omega) a (ooT X).length (X.length) (by omega) 0 X ⟨by omega, oo_th X, by omega⟩ _ _ (by simp only [go_sem, reduceIte, Nat.reduceEqDiff, Nat.reduceAdd, Nat.reduceSub, Nat.reduceLeDiff, Nat.reduceLT, reduceCtorEq, Int.reduceLT, Int.reduceLE, Int.reduceEq, Int.reduceBEq, Int.reduceSub, Int.reduceAdd, Int.reduceMul, Int.reduceNeg, Int.reduceToNat, Nat.reduceMul, Nat.reduceBEq, hor0, hrr, ren1_LA, okRef_LA, List.take_length, Int.natCast_zero] <;> rfl)
    clear hg
    rw [List.drop_zero, hcw] at h2
    obtain ⟨rfl, e1, e2, e5, e6, rfl⟩ := h2
    obtain ⟨q3, hq31, hq32⟩ := oo_ren (X ++ crW (seeL 7 ps) n m a) 0 (.inl rfl)
    rw [List.take_zero, List.nil_append] at hq32
    have hor3 := outOk_ref (ooA_ok (X ++ crW (seeL 7 ps) n m a)) 1
    generalize crW (seeL 7 ps) n m a = Y at *
    simp only [go_sem, reduceIte, Nat.reduceEqDiff, Nat.reduceAdd, Nat.reduceSub, Nat.reduceLeDiff, Nat.reduceLT, reduceCtorEq, Int.reduceLT, Int.reduceLE, Int.reduceEq, Int.reduceBEq, Int.reduceSub, Int.reduceAdd, Int.reduceMul, Int.reduceNeg, Int.reduceToNat, Nat.reduceMul, Nat.reduceBEq, index_rsl_if, setm, make_ints, condK_dec, wantK_dec, not_dec, and_dec, or_dec, seqK_ite, seqK_none, blockK_ite, blockK_none, opsK_ite, opsK_none, stepK_ite, stepK_none, bodyK_ite, bodyK_none, resK_ite, resK_none, leaveK_ite, leaveK_none, only_ite, only_none, bind_ite, gives_some, gives_none, gives_ite, then_normal, then_ret, then_exit, then_none, then_ite, Option.bind_none, Bool.not_eq_true', decide_eq_false_iff_not, Bool.and_eq_true, Bool.or_eq_true, Option.some.injEq, Int.not_lt, Int.not_le, lp95_2, hs, e1, e2, e5, e6]
    refine ⟨(a + 1, X ++ Y), by simp only [go_sem, reduceIte, Nat.reduceEqDiff, Nat.reduceAdd, Nat.reduceSub, Nat.reduceLeDiff, Nat.reduceLT, reduceCtorEq, Int.reduceLT, Int.reduceLE, Int.reduceEq, Int.reduceBEq, Int.reduceSub, Int.reduceAdd, Int.reduceMul, Int.reduceNeg, Int.reduceToNat, Nat.reduceMul, Nat.reduceBEq, ren1_locm, loc_tips, locT_eq, hq31, hq32, hor3, e1, e2, e5, e6] <;> rfl, ?_, ?_, fun x en s hq => ?_⟩
    · dsimp only; exact ⟨by omega, by rw [hmul, List.length_append]; omega⟩
    · dsimp only; omega
    · exact hq
  · have hr : n - a = 0 := by omega
    have hlt : ((a : Int) < (n : Int)) = False := eq_false (by omega)
    rw [hr]
    simp only [go_sem, reduceIte, Nat.reduceEqDiff, Nat.reduceAdd, Nat.reduceSub, Nat.reduceLeDiff, Nat.reduceLT, reduceCtorEq, Int.reduceLT, Int.reduceLE, Int.reduceEq, Int.reduceBEq, Int.reduceSub, Int.reduceAdd, Int.reduceMul, Int.reduceNeg, Int.reduceToNat, Nat.reduceMul, Nat.reduceBEq, index_rsl_if, setm, make_ints, condK_dec, wantK_dec, not_dec, and_dec, or_dec, seqK_ite, seqK_none, blockK_ite, blockK_none, opsK_ite, opsK_none, stepK_ite, stepK_none, bodyK_ite, bodyK_none, resK_ite, resK_none, leaveK_ite, leaveK_none, only_ite, only_none, bind_ite, gives_some, gives_none, gives_ite, then_normal, then_ret, then_exit, then_none, then_ite, Option.bind_none, Bool.not_eq_true', decide_eq_false_iff_not, Bool.and_eq_true, Bool.or_eq_true, Option.some.injEq, Int.not_lt, Int.not_le, lp95_2, hb0, hlt]
    simp

/-- The reference's circles of so many words. -/
def crR (w : List Nat) (n m : Nat) : List (List Nat) := (List.range' 0 n).flatMap (crW w n m)
theorem c95 (nl : Bool) (n : Nat) (hn : n ≤ 7) (ps : List (Int × Int)) (hps : ps.length < 1000000) (h7 : ∀ p ∈ ps, okP p) (m : Nat) (hm1 : 1 ≤ m) (hm7 : m ≤ 7) (st : St) :
    run L 95 [bkAV nl (n : Int) ps, I m] st = some (LA (crR (seeL 7 ps) n m), st) := by
  rw [run_pure (fn := ir95) rfl rfl]
  simp only [ir95, go_sem, reduceIte, Nat.reduceEqDiff, Nat.reduceAdd, Nat.reduceSub, Nat.reduceLeDiff, Nat.reduceLT, reduceCtorEq, Int.reduceLT, Int.reduceLE, Int.reduceEq, Int.reduceBEq, Int.reduceSub, Int.reduceAdd, Int.reduceMul, Int.reduceNeg, Int.reduceToNat, Nat.reduceMul, Nat.reduceBEq]
  generalize hg : lim (headed pure (run L) true _ lp95_2 _ _) _ _ = o
  obtain ⟨x, en, s, rfl, h2⟩ : ∃ x en s, o = some (x, en, s) ∧ _ := by rw [← hg]; exact loop95_2 nl n hn ps hps h7 m hm1 hm7 823543 (by omega) (fun a => wys_bound _ hn _ (by omega) _) 0 [] ⟨by omega, by simp⟩ _ _ (by simp only [go_sem, reduceIte, Nat.reduceEqDiff, Nat.reduceAdd, Nat.reduceSub, Nat.reduceLeDiff, Nat.reduceLT, reduceCtorEq, Int.reduceLT, Int.reduceLE, Int.reduceEq, Int.reduceBEq, Int.reduceSub, Int.reduceAdd, Int.reduceMul, Int.reduceNeg, Int.reduceToNat, Nat.reduceMul, Nat.reduceBEq, show ooA [] = .v (.slice none 0 0) from rfl, show ooT [] = [] from rfl, Int.natCast_zero] <;> rfl)
  clear hg
  rw [Nat.sub_zero, List.nil_append] at h2
  obtain ⟨rfl, e5, rfl⟩ := h2
  have hw : (List.range' 0 n).flatMap (crW (seeL 7 ps) n m) = crR (seeL 7 ps) n m := rfl
  rw [hw] at e5 ⊢
  have hok := ooA_ok (crR (seeL 7 ps) n m)
  have hf := fun st => fin_oo hok st
  obtain ⟨z1, z2, z3⟩ := outOk_st hok
  simp only [go_sem, reduceIte, Nat.reduceEqDiff, Nat.reduceAdd, Nat.reduceSub, Nat.reduceLeDiff, Nat.reduceLT, reduceCtorEq, Int.reduceLT, Int.reduceLE, Int.reduceEq, Int.reduceBEq, Int.reduceSub, Int.reduceAdd, Int.reduceMul, Int.reduceNeg, Int.reduceToNat, Nat.reduceMul, Nat.reduceBEq, e5, hf]

/-! ### all circles, shorter ones first -/
def evR (w : List Nat) (n : Nat) (a k : Nat) : List (List Nat) := (List.range' a k).flatMap (crR w n)
theorem crR_len' (w : List Nat) {n : Nat} (hn : n ≤ 7) (m : Nat) (Bd : Nat) (hB : ∀ a, (wys w n (m - 1) [a]).length ≤ Bd) : (crR w n m).length ≤ 7 * Bd := by
  have hs : ∀ l : List Nat, (l.flatMap (crW w n m)).length ≤ l.length * Bd := by
    intro l
    induction l with
    | nil => simp
    | cons x r ih =>
      have h1 := hB x
      have h2 := List.length_filter_le (ccP w m x) (wys w n (m - 1) [x])
      have h3 : (crW w n m x).length ≤ Bd := by unfold crW; omega
      rw [List.flatMap_cons, List.length_append, List.length_cons, Nat.add_mul]; omega
  have h := hs (List.range' 0 n)
  rw [List.length_range'] at h
  have : n * Bd ≤ 7 * Bd := Nat.mul_le_mul_right _ hn
  unfold crR; omega
theorem crR_len (w : List Nat) {n : Nat} (hn : n ≤ 7) (m : Nat) (hm : m ≤ 8) : (crR w n m).length ≤ 6000000 := by
  have h := crR_len' w hn m 850000 (fun a => by have := wys_bound w hn (m - 1) (by omega) [a]; omega)
  omega

theorem loop76_0 (nl : Bool) (n : Nat) (hn : n ≤ 7) (ps : List (Int × Int)) (hps : ps.length < 1000000) (h7 : ∀ p ∈ ps, okP p) (Bd : Nat) (hBd : Bd ≤ 6000000) (hZB : ∀ m, m ≤ 7 → (crR (seeL 7 ps) n m).length ≤ Bd) (m : Nat) (X : List (List Nat)) (hok : 2 ≤ m ∧ m ≤ 8 ∧ X.length ≤ m * Bd) (env : Env) (st : St)
    (hg : gcAV true 1 0 (canon env [1, 3, 4]) st = ([(1, .ptr 0 0), (3, ooA X), (4, I m)], ⟨[bkCells nl (n : Int) ps], ooT X⟩)) :
    ∃ x_1 en s, lim (headed pure (run L) true [1, 3, 4] lp76_0 1 0) env st = some (x_1, en, s) ∧ (x_1 = .exit 0 ∧ ∃ a' T', outOk (X ++ evR (seeL 7 ps) n m (n + 1 - m)) a' T' ∧ en.get 3 = a' ∧ s = ⟨[bkCells nl (n : Int) ps], T'⟩) := by
  refine loop_wp (α := Nat × List (List Nat)) (fun ⟨m, X⟩ => 8 - m) (fun ⟨m, X⟩ => 2 ≤ m ∧ m ≤ 8 ∧ X.length ≤ m * Bd) (fun ⟨m, X⟩ => ([(1, .ptr 0 0), (3, ooA X), (4, I m)], ⟨[bkCells nl (n : Int) ps], ooT X⟩)) (fun ⟨m, X⟩ x_1 en s => x_1 = .exit 0 ∧ ∃ a' T', outOk (X ++ evR (seeL 7 ps) n m (n + 1 - m)) a' T' ∧ en.get 3 = a' ∧ s = ⟨[bkCells nl (n : Int) ps], T'⟩) (fun ⟨m, X⟩ hok => ?_) ⟨m, X⟩ hok env st hg
  simp only at hok
  obtain ⟨h0, h1, h2⟩ := hok
  dsimp only at h0 h1 h2 ⊢
  have hb0 : (bkCells nl (n : Int) ps)[0]? = some (I (n : Int)) := rfl
  by_cases h : m ≤ n
  · have hs := succ64 m (by omega)
    have hlt : ((m : Int) ≤ (n : Int)) = True := eq_true (by omega)
    have hr : evR (seeL 7 ps) n m (n + 1 - m) = crR (seeL 7 ps) n m ++ evR (seeL 7 ps) n (m + 1) (n + 1 - (m + 1)) := by
      unfold evR
      rw [show n + 1 - m = (n + 1 - (m + 1)) + 1 by omega, List.range'_succ, List.flatMap_cons]
    rw [hr, ← List.append_assoc]
    have hmul : (m + 1) * Bd = m * Bd + Bd := Nat.succ_mul m Bd
    have hxb : m * Bd ≤ 8 * 6000000 := Nat.mul_le_mul (by omega) hBd
    have hZ1 := hZB m (by omega)
    have h95 := fun st => c95 nl n hn ps hps h7 m (by omega) (by omega) st
    obtain ⟨a', T', happ, hok'⟩ := outOk_apps (ooA_ok X) (crR (seeL 7 ps) n m) (by omega)
    have hnl : isRsl (LA (crR (seeL 7 ps) n m)) = false := isRsl_LA _
    obtain ⟨q, hq1, hq2⟩ := outOk_ren hok'
    have hor := outOk_ref hok' 1
    generalize crR (seeL 7 ps) n m = Y at *
    simp only [go_sem, reduceIte, Nat.reduceEqDiff, Nat.reduceAdd, Nat.reduceSub, Nat.reduceLeDiff, Nat.reduceLT, reduceCtorEq, Int.reduceLT, Int.reduceLE, Int.reduceEq, Int.reduceBEq, Int.reduceSub, Int.reduceAdd, Int.reduceMul, Int.reduceNeg, Int.reduceToNat, Nat.reduceMul, Nat.reduceBEq, index_rsl_if, setm, make_ints, condK_dec, wantK_dec, not_dec, and_dec, or_dec, seqK_ite, seqK_none, blockK_ite, blockK_none, opsK_ite, opsK_none, stepK_ite, stepK_none, bodyK_ite, bodyK_none, resK_ite, resK_none, leaveK_ite, leaveK_none, only_ite, only_none, bind_ite, gives_some, gives_none, gives_ite, then_normal, then_ret, then_exit, then_none, then_ite, Option.bind_none, Bool.not_eq_true', decide_eq_false_iff_not, Bool.and_eq_true, Bool.or_eq_true, Option.some.injEq, Int.not_lt, Int.not_le, lp76_0, hb0, hlt, hs, h95, hnl, happ, elems_LA]
    refine ⟨(m + 1, X ++ Y), by simp only [go_sem, reduceIte, Nat.reduceEqDiff, Nat.reduceAdd, Nat.reduceSub, Nat.reduceLeDiff, Nat.reduceLT, reduceCtorEq, Int.reduceLT, Int.reduceLE, Int.reduceEq, Int.reduceBEq, Int.reduceSub, Int.reduceAdd, Int.reduceMul, Int.reduceNeg, Int.reduceToNat, Nat.reduceMul, Nat.reduceBEq, ren1_locm, loc_tips, locT_eq, hq1, hq2, hor] <;> rfl, ?_, ?_, fun x en s hq => ?_⟩
    · dsimp only; exact ⟨by omega, by omega, by rw [hmul, List.length_append]; omega⟩
    · dsimp only; omega
    · exact hq
  · have hr : n + 1 - m = 0 := by omega
    have hlt : ((m : Int) ≤ (n : Int)) = False := eq_false (by omega)
    rw [hr]
    simp only [go_sem, reduceIte, Nat.reduceEqDiff, Nat.reduceAdd, Nat.reduceSub, Nat.reduceLeDiff, Nat.reduceLT, reduceCtorEq, Int.reduceLT, Int.reduceLE, Int.reduceEq, Int.reduceBEq, Int.reduceSub, Int.reduceAdd, Int.reduceMul, Int.reduceNeg, Int.reduceToNat, Nat.reduceMul, Nat.reduceBEq, index_rsl_if, setm, make_ints, condK_dec, wantK_dec, not_dec, and_dec, or_dec, seqK_ite, seqK_none, blockK_ite, blockK_none, opsK_ite, opsK_none, stepK_ite, stepK_none, bodyK_ite, bodyK_none, resK_ite, resK_none, leaveK_ite, leaveK_none, only_ite, only_none, bind_ite, gives_some, gives_none, gives_ite, then_normal, then_ret, then_exit, then_none, then_ite, Option.bind_none, Bool.not_eq_true', decide_eq_false_iff_not, Bool.and_eq_true, Bool.or_eq_true, Option.some.injEq, Int.not_lt, Int.not_le, lp76_0, hb0, hlt]
    simpa [evR] using ooA_ok X

/-- All circles of the reference. -/
def evL (w : List Nat) (n : Nat) : List (List Nat) := evR w n 2 (n - 1)
theorem c76 (nl : Bool) (n : Nat) (hn : n ≤ 7) (ps : List (Int × Int)) (hps : ps.length < 1000000) (h7 : ∀ p ∈ ps, okP p) (st : St) : run L 76 [bkAV nl (n : Int) ps] st = some (LA (evL (seeL 7 ps) n), st) := by
  rw [run_pure (fn := ir76) rfl rfl]
  simp only [ir76, go_sem, reduceIte, Nat.reduceEqDiff, Nat.reduceAdd, Nat.reduceSub, Nat.reduceLeDiff, Nat.reduceLT, reduceCtorEq, Int.reduceLT, Int.reduceLE, Int.reduceEq, Int.reduceBEq, Int.reduceSub, Int.reduceAdd, Int.reduceMul, Int.reduceNeg, Int.reduceToNat, Nat.reduceMul, Nat.reduceBEq]
  generalize hg : lim (headed pure (run L) true _ lp76_0 _ _) _ _ = o
  obtain ⟨x, en, s, rfl, h2⟩ : ∃ x en s, o = some (x, en, s) ∧ _ := by rw [← hg]; exact loop76_0 nl n hn ps hps h7 6000000 (by omega) (fun m hm => crR_len _ hn m (by omega)) 2 [] ⟨by omega, by omega, by simp⟩ _ _ (by simp only [go_sem, reduceIte, Nat.reduceEqDiff, Nat.reduceAdd, Nat.reduceSub, Nat.reduceLeDiff, Nat.reduceLT, reduceCtorEq, Int.reduceLT, Int.reduceLE, Int.reduceEq, Int.reduceBEq, Int.reduceSub, Int.reduceAdd, Int.reduceMul, Int.reduceNeg, Int.reduceToNat, Nat.reduceMul, Nat.reduceBEq, show ooA [] = .v (.slice none 0 0) from rfl, show ooT [] = [] from rfl] <;> rfl)
  clear hg
  rw [List.nil_append, show n + 1 - 2 = n - 1 by omega] at h2
  obtain ⟨rfl, a', T', hok, e3, rfl⟩ := h2
  have hw : evR (seeL 7 ps) n 2 (n - 1) = evL (seeL 7 ps) n := rfl
  rw [hw] at hok
  have hf := fun st => fin_oo hok st
  obtain ⟨z1, z2, z3⟩ := outOk_st hok
  simp only [go_sem, reduceIte, Nat.reduceEqDiff, Nat.reduceAdd, Nat.reduceSub, Nat.reduceLeDiff, Nat.reduceLT, reduceCtorEq, Int.reduceLT, Int.reduceLE, Int.reduceEq, Int.reduceBEq, Int.reduceSub, Int.reduceAdd, Int.reduceMul, Int.reduceNeg, Int.reduceToNat, Nat.reduceMul, Nat.reduceBEq, e3, hf]


/-! ### the reference's circles are those that are found -/
def wysF (w : List Nat) : Nat → List Nat → Nat → List (List Nat)
  | 0, c, _ => [c]
  | j + 1, c, free => (bitsL (w.getD (lastW c) 0 &&& free)).flatMap fun x => wysF w j (c ++ [x]) (dfN free (2 ^ x))
theorem filter_flatMap' {α β : Type} (p : β → Bool) (f : α → List β) : ∀ l : List α, (l.flatMap f).filter p = l.flatMap fun x => (f x).filter p
  | [] => rfl
  | x :: r => by rw [List.flatMap_cons, List.flatMap_cons, List.filter_append, filter_flatMap' p f r]
def geP (a : Nat) (c : List Nat) : Bool := c.all fun y => decide (a ≤ y)
theorem getD0_snoc {c : List Nat} (h : 1 ≤ c.length) (x : Nat) : (c ++ [x]).getD 0 0 = c.getD 0 0 := by
  rw [List.getD_eq_getElem?_getD, List.getElem?_append_left (by omega), ← List.getD_eq_getElem?_getD]
theorem wys_free (w : List Nat) {n : Nat} (hn : n ≤ 7) : ∀ (j : Nat) (c : List Nat) (free : Nat), isFree n c free → free < 128 → 1 ≤ c.length → geP (c.getD 0 0) c = true → (wys w n j c).filter (geP (c.getD 0 0)) = wysF w j c free
  | 0, c, free, _, _, _, hg => by
    show [c].filter _ = [c]
    rw [List.filter_cons_of_pos hg]; rfl
  | j + 1, c, free, hf, hfl, h1, hg => by
    show (((List.range' 0 n).flatMap fun x => if x ∉ c ∧ (w.getD (lastW c) 0).testBit x = true then wys w n j (c ++ [x]) else []).filter _) = (bitsL (w.getD (lastW c) 0 &&& free)).flatMap _
    rw [filter_flatMap', bits_range hn (a := 0) (by omega) (fun y hy => by
      rw [Nat.testBit_and, Bool.and_eq_true] at hy
      have := (hf y).1 hy.2; omega), flatMap_filter, Nat.sub_zero]
    refine flatMap_congr' fun x hx => ?_
    rw [List.mem_range'_1] at hx
    by_cases h : x ∉ c ∧ (w.getD (lastW c) 0).testBit x = true
    · rw [if_pos h]
      by_cases hlt : c.getD 0 0 < x
      · have hb : free.testBit x = true := (hf x).2 ⟨hlt, by omega, h.1⟩
        rw [if_pos (by rw [Nat.testBit_and, Bool.and_eq_true]; exact ⟨h.2, hb⟩)]
        have hd := getD0_snoc h1 x
        have := wys_free w hn j (c ++ [x]) (dfN free (2 ^ x)) (free_snoc hf hfl h1 hb) (dfN_lt hfl) (by simp) (by
          rw [hd]
          unfold geP at hg ⊢
          rw [List.all_append, hg, Bool.true_and, List.all_cons, List.all_nil, Bool.and_true, decide_eq_true_iff]
          exact Nat.le_of_lt hlt)
        rw [hd] at this
        exact this
      · rw [if_neg (by
          rw [Nat.testBit_and, Bool.and_eq_true]
          intro hh
          have := (hf x).1 hh.2; omega)]
        have hne : x ≠ c.getD 0 0 := by
          rintro rfl
          apply h.1
          rw [List.getD_eq_getElem?_getD, List.getElem?_eq_getElem (by omega)]
          exact List.getElem_mem (by omega)
        refine filter_nil_of fun y hy => ?_
        obtain ⟨s, e, _⟩ := wys_has w n j (c ++ [x]) y hy
        cases hgy : geP (c.getD 0 0) y
        · rfl
        · unfold geP at hgy
          rw [List.all_eq_true] at hgy
          have := hgy x (by rw [e]; simp)
          rw [decide_eq_true_iff] at this; omega
    · rw [if_neg h, if_neg (by
        rw [Nat.testBit_and, Bool.and_eq_true]
        intro hh
        exact h ⟨((hf x).1 hh.2).2.2, hh.1⟩)]
      rfl
def clP (w : List Nat) (c : List Nat) : Bool := decide (1 < c.length) && (w.getD (lastW c) 0).testBit (c.getD 0 0)
theorem hdR_clP (w c : List Nat) : hdR w c = [c].filter (clP w) := by
  unfold hdR
  by_cases h : 1 < c.length ∧ (w.getD (lastW c) 0).testBit (c.getD 0 0) = true
  · rw [if_pos h, List.filter_cons_of_pos (by unfold clP; rw [Bool.and_eq_true, decide_eq_true_iff]; exact h)]; rfl
  · rw [if_neg h, List.filter_cons_of_neg (by unfold clP; rw [Bool.and_eq_true, decide_eq_true_iff]; exact h)]; rfl
theorem hdR_len (w c : List Nat) (j : Nat) : (hdR w c).filter (fun x => decide (x.length = c.length + j)) = if j = 0 then hdR w c else [] := by
  unfold hdR
  split
  · by_cases hj : j = 0
    · subst hj; simp
    · rw [if_neg hj, List.filter_cons_of_neg (by simp; omega)]; rfl
  · split <;> rfl
theorem rg_ge {w : List Nat} {k : Nat} {c : List Nat} {free : Nat} (h1 : (bitsL free).length ≤ k) (h2 : free < 128) (h3 : c ≠ []) : ∀ x ∈ rg w k c free, c.length ≤ x.length := by
  intro x hx
  obtain ⟨s, e, _⟩ := (rg_iff w k c free h1 h2 h3 x).1 hx
  rw [e, List.length_append]; omega
theorem rg_wys (w : List Nat) : ∀ (k : Nat) (c : List Nat) (free : Nat) (j : Nat), (bitsL free).length ≤ k → free < 128 → c ≠ [] → (rg w k c free).filter (fun x => decide (x.length = c.length + j)) = (wysF w j c free).filter (clP w)
  | 0, c, free, j, hk, hf, hc => by
    have h0 := bits_nil hf (by omega)
    subst h0
    show (hdR w c).filter _ = _
    rw [hdR_len]
    cases j with
    | zero => rw [if_pos rfl, hdR_clP]; rfl
    | succ j =>
      rw [if_neg (by omega)]
      show [] = ((bitsL (w.getD (lastW c) 0 &&& 0)).flatMap _).filter _
      rw [Nat.and_zero, bits_zero]; rfl
  | k + 1, c, free, j, hk, hf, hc => by
    have hlt : w.getD (lastW c) 0 &&& free < 128 := Nat.lt_of_le_of_lt Nat.and_le_right hf
    have hmem : ∀ x ∈ bitsL (w.getD (lastW c) 0 &&& free), free.testBit x = true := fun x hx => by
      rw [bits_mem hlt, Nat.testBit_and, Bool.and_eq_true] at hx; exact hx.2
    show (hdR w c ++ (bitsL (w.getD (lastW c) 0 &&& free)).flatMap fun x => rg w k (c ++ [x]) (dfN free (2 ^ x))).filter _ = _
    rw [List.filter_append, hdR_len, filter_flatMap']
    cases j with
    | zero =>
      rw [if_pos rfl, hdR_clP]
      have : (bitsL (w.getD (lastW c) 0 &&& free)).flatMap (fun x => (rg w k (c ++ [x]) (dfN free (2 ^ x))).filter fun x => decide (x.length = c.length + 0)) = [] := by
        rw [List.flatMap_eq_nil_iff]
        intro x hx
        have hcard := df_card hf (hmem x hx)
        refine filter_nil_of fun y hy => ?_
        have := rg_ge (by omega) (dfN_lt hf) (by simp) y hy
        rw [List.length_append, List.length_singleton] at this
        rw [decide_eq_false_iff_not]; omega
      rw [this, List.append_nil]; rfl
    | succ j =>
      rw [if_neg (by omega), List.nil_append]
      show _ = ((bitsL (w.getD (lastW c) 0 &&& free)).flatMap fun x => wysF w j (c ++ [x]) (dfN free (2 ^ x))).filter (clP w)
      rw [filter_flatMap']
      refine flatMap_congr' fun x hx => ?_
      have hcard := df_card hf (hmem x hx)
      have := rg_wys w k (c ++ [x]) (dfN free (2 ^ x)) j (by omega) (dfN_lt hf) (by simp)
      rw [List.length_append, List.length_singleton, show c.length + 1 + j = c.length + (j + 1) by omega] at this
      exact this
theorem minL_le (c : List Nat) : ∀ (l : List Nat) (a : Nat), minL a c l ≤ a
  | [], _ => Nat.le_refl _
  | k :: r, a => Nat.le_trans (minL_le c r _) (Nat.min_le_left _ _)
theorem minL_eq (c : List Nat) (a : Nat) : ∀ (l : List Nat), minL a c l = a ↔ ∀ k ∈ l, a ≤ c.getD k 0
  | [] => by simp [minL]
  | k :: r => by
    have h1 := minL_le c r (min a (c.getD k 0))
    have ih := minL_eq c a r
    show minL (min a (c.getD k 0)) c r = a ↔ _
    constructor
    · intro h
      have h2 : a ≤ c.getD k 0 := by have := Nat.min_le_right a (c.getD k 0); omega
      rw [Nat.min_eq_left h2] at h
      intro j hj
      rcases List.mem_cons.1 hj with rfl | hj
      · exact h2
      · exact ih.1 h j hj
    · intro h
      have h2 := h k (by simp)
      rw [Nat.min_eq_left h2]
      exact ih.2 fun j hj => h j (by simp [hj])
theorem crW_rg (w : List Nat) {n m a : Nat} (hn : n ≤ 7) (ha : a < n) (hm : 2 ≤ m) : crW w n m a = (rg w 7 [a] (frN n a)).filter fun x => decide (x.length = m) := by
  have hcard := frN_card hn ha
  have h1 := wys_free w hn (m - 1) [a] (frN n a) (fr_free hn ha) (frN_lt hn) (by simp) (by simp [geP])
  have h2 := rg_wys w 7 [a] (frN n a) (m - 1) (by omega) (frN_lt hn) (by simp)
  rw [List.length_singleton, show 1 + (m - 1) = m by omega] at h2
  rw [h2, ← h1]
  have e : [a].getD 0 0 = a := rfl
  rw [e, List.filter_filter]
  unfold crW
  apply List.filter_congr
  intro x hx
  obtain ⟨s, ex, hs⟩ := wys_has w n (m - 1) [a] x hx
  have hl : x.length = m := by rw [ex, List.length_append, List.length_singleton, hs]; omega
  have h0 : x.getD 0 0 = a := by rw [ex]; rfl
  unfold ccP clP
  have e1 : x.getD (m - 1) 0 = lastW x := by unfold lastW; rw [hl]
  rw [e1, h0, hl]
  have e2 : decide (minL a x (List.range' 0 m) = a) = geP a x := by
    rw [Bool.eq_iff_iff, decide_eq_true_iff, minL_eq]
    unfold geP
    rw [List.all_eq_true]
    constructor
    · intro h y hy
      obtain ⟨i, hi, rfl⟩ := List.getElem_of_mem hy
      have := h i (by rw [List.mem_range'_1]; omega)
      rw [List.getD_eq_getElem?_getD, List.getElem?_eq_getElem hi] at this
      exact decide_eq_true this
    · intro h k hk
      rw [List.mem_range'_1] at hk
      have := h (x[k]'(by omega)) (List.getElem_mem _)
      rw [decide_eq_true_iff] at this
      rw [List.getD_eq_getElem?_getD, List.getElem?_eq_getElem (by omega)]
      exact this
  rw [e2, decide_eq_true (show 1 < m by omega), Bool.true_and, Bool.and_comm]
theorem crR_eq (w : List Nat) {n m : Nat} (hn : n ≤ 7) (hm : 2 ≤ m) : crR w n m = (circL n w).filter fun x => decide (x.length = m) := by
  unfold crR circL
  rw [filter_flatMap']
  refine flatMap_congr' fun a ha => ?_
  rw [List.mem_range'_1] at ha
  exact crW_rg w hn (by omega) hm
theorem evL_eq (w : List Nat) {n : Nat} (hn : n ≤ 7) : evL w n = (List.range' 2 (n - 1)).flatMap fun m => (circL n w).filter fun x => decide (x.length = m) := by
  unfold evL evR
  refine flatMap_congr' fun m hm => ?_
  rw [List.mem_range'_1] at hm
  exact crR_eq w hn (by omega)

attribute [local go_sem] shaped_t cells_t isAgg_t storable_t okRef_t pub_t

/-! ### circles come in ascending order -/
theorem lex_app (s t : List Nat) : ∀ c : List Nat, lexLt (up (c ++ s)) (up (c ++ t)) = lexLt (up s) (up t)
  | [] => rfl
  | x :: r => by
    have := lex_app s t r
    have e0 : lexLt (up (x :: r ++ s)) (up (x :: r ++ t)) = lexLt ((x : Int) :: up (r ++ s)) ((x : Int) :: up (r ++ t)) := rfl
    rw [e0]
    have e : lexLt ((x : Int) :: up (r ++ s)) ((x : Int) :: up (r ++ t)) = (decide ((x : Int) < x) || (decide ((x : Int) = x) && lexLt (up (r ++ s)) (up (r ++ t)))) := rfl
    rw [e, this]; simp
theorem rg_pre (w : List Nat) : ∀ (k : Nat) (c : List Nat) (free : Nat), ∀ x ∈ rg w k c free, ∃ s, x = c ++ s
  | 0, c, _, x, hx => by
    have := (mem_hdR.1 (show x ∈ hdR w c from hx)).1
    exact ⟨[], by simp [this]⟩
  | k + 1, c, free, x, hx => by
    have hx' : x ∈ hdR w c ++ (bitsL (w.getD (lastW c) 0 &&& free)).flatMap fun x => rg w k (c ++ [x]) (dfN free (2 ^ x)) := hx
    rcases List.mem_append.1 hx' with h | h
    · exact ⟨[], by simp [(mem_hdR.1 h).1]⟩
    · obtain ⟨y, _, h⟩ := List.mem_flatMap.1 h
      obtain ⟨s, e⟩ := rg_pre w k _ _ x h
      exact ⟨y :: s, by rw [e]; simp⟩
def Asc (l : List (List Nat)) : Prop := l.Pairwise fun a b => lexLt (up a) (up b) = true
theorem asc_flat {f : Nat → List (List Nat)} {c : List Nat} {l : List Nat} (h1 : ∀ x, Asc (f x)) (h2 : ∀ x, ∀ y ∈ f x, ∃ s, y = c ++ x :: s) (hl : l.Pairwise (· < ·)) : Asc (l.flatMap f) := by
  unfold Asc
  rw [List.pairwise_flatMap]
  refine ⟨fun x _ => h1 x, hl.imp fun {a b} hab x hx y hy => ?_⟩
  obtain ⟨s, rfl⟩ := h2 a x hx
  obtain ⟨t, rfl⟩ := h2 b y hy
  rw [lex_app]
  show lexLt ((a : Int) :: up s) ((b : Int) :: up t) = true
  unfold lexLt
  rw [decide_eq_true (show (a : Int) < (b : Int) by omega)]; rfl
theorem bits_asc (m : Nat) : (bitsL m).Pairwise (· < ·) := List.pairwise_lt_range.filter _
theorem rg_asc (w : List Nat) : ∀ (k : Nat) (c : List Nat) (free : Nat), Asc (rg w k c free)
  | 0, c, _ => by
    show Asc (hdR w c)
    unfold hdR Asc; split <;> simp
  | k + 1, c, free => by
    show Asc (hdR w c ++ (bitsL (w.getD (lastW c) 0 &&& free)).flatMap fun x => rg w k (c ++ [x]) (dfN free (2 ^ x)))
    have hp : ∀ x, ∀ y ∈ rg w k (c ++ [x]) (dfN free (2 ^ x)), ∃ s, y = c ++ x :: s := fun x y hy => by
      obtain ⟨s, e⟩ := rg_pre w k _ _ y hy
      exact ⟨s, by rw [e]; simp⟩
    unfold Asc
    rw [List.pairwise_append]
    refine ⟨by unfold hdR; split <;> simp, asc_flat (c := c) (fun x => rg_asc w k _ _) hp (bits_asc _), fun a ha b hb => ?_⟩
    have ea := (mem_hdR.1 ha).1
    obtain ⟨x, _, hb⟩ := List.mem_flatMap.1 hb
    obtain ⟨s, rfl⟩ := hp x b hb
    subst ea
    have := lex_app [] (x :: s) a
    rw [List.append_nil] at this
    rw [this]; rfl
theorem circ_asc (n : Nat) (w : List Nat) : Asc (circL n w) := by
  unfold circL
  refine asc_flat (c := []) (fun x => rg_asc w 7 _ _) (fun x y hy => ?_) List.pairwise_lt_range'
  obtain ⟨s, e⟩ := rg_pre w 7 _ _ y hy
  exact ⟨s, by rw [e]; simp⟩

/-! ### the first shortest odd one -/
def oddP (c : List Nat) : Bool := decide (c.length % 2 = 1)
def OInv (P : List (List Nat)) (o : Option (List Nat)) : Prop :=
  (o = none ∧ ∀ c ∈ P, c.length % 2 = 0) ∨ ∃ b, o = some b ∧ b.length % 2 = 1 ∧ (∀ c ∈ P, c.length % 2 = 1 → b.length ≤ c.length) ∧ (P.filter fun x => decide (x.length = b.length)).head? = some b
theorem head_mem {α : Type} {l : List α} {b : α} (h : l.head? = some b) : b ∈ l := by
  cases l with
  | nil => simp at h
  | cons x r => simp at h; subst h; simp
theorem oinv_step {P : List (List Nat)} {o : Option (List Nat)} {c : List Nat} (h : OInv P o) (ha : ∀ b ∈ P, lexLt (up b) (up c) = true) : OInv (P ++ [c]) (stO o c) := by
  unfold stO
  rcases h with ⟨rfl, h⟩ | ⟨b, rfl, h1, h2, h3⟩
  · by_cases ho : c.length % 2 = 1
    · rw [if_pos (by unfold better; simp [ho])]
      refine .inr ⟨c, rfl, ho, fun d hd ho2 => ?_, ?_⟩
      · rcases List.mem_append.1 hd with hd | hd
        · have := h d hd; omega
        · simp at hd; subst hd; omega
      · rw [List.filter_append, filter_nil_of (l := P)]
        · simp
        · intro d hd
          have := h d hd
          rw [decide_eq_false_iff_not]; omega
    · rw [if_neg (by unfold better; simp [ho])]
      refine .inl ⟨rfl, fun d hd => ?_⟩
      rcases List.mem_append.1 hd with hd | hd
      · exact h d hd
      · simp at hd; subst hd; omega
  · have hbP : b ∈ P := (List.mem_filter.1 (head_mem h3)).1
    have hbc := lex_asymm (ha b hbP)
    by_cases ho : c.length % 2 = 1
    · by_cases hl : c.length < b.length
      · rw [if_pos (by unfold better; simp [ho, hl])]
        refine .inr ⟨c, rfl, ho, fun d hd ho2 => ?_, ?_⟩
        · rcases List.mem_append.1 hd with hd | hd
          · have := h2 d hd ho2; omega
          · simp at hd; subst hd; omega
        · rw [List.filter_append, filter_nil_of (l := P)]
          · simp
          · intro d hd
            rw [decide_eq_false_iff_not]
            intro e
            have := h2 d hd (by omega); omega
      · rw [if_neg (by unfold better; simp [ho, hl, hbc])]
        refine .inr ⟨b, rfl, h1, fun d hd ho2 => ?_, ?_⟩
        · rcases List.mem_append.1 hd with hd | hd
          · exact h2 d hd ho2
          · simp at hd; subst hd; omega
        · rw [List.filter_append, List.head?_append, h3]; rfl
    · rw [if_neg (by unfold better; simp [ho])]
      refine .inr ⟨b, rfl, h1, fun d hd ho2 => ?_, ?_⟩
      · rcases List.mem_append.1 hd with hd | hd
        · exact h2 d hd ho2
        · simp at hd; subst hd; omega
      · rw [List.filter_append, List.head?_append, h3]; rfl
theorem oinv_all : ∀ (R P : List (List Nat)) (o : Option (List Nat)), OInv P o → Asc (P ++ R) → OInv (P ++ R) (R.foldl stO o)
  | [], P, o, h, _ => by rw [List.append_nil]; exact h
  | c :: r, P, o, h, ha => by
    have h1 : ∀ b ∈ P, lexLt (up b) (up c) = true := fun b hb => by
      unfold Asc at ha
      rw [List.pairwise_append] at ha
      exact ha.2.2 b hb c (by simp)
    have e : P ++ c :: r = (P ++ [c]) ++ r := by simp
    rw [e] at ha ⊢
    rw [List.foldl_cons]
    exact oinv_all r (P ++ [c]) _ (oinv_step h h1) ha
theorem find_flat_none {α β : Type} {p : β → Bool} {f : α → List β} {l : List α} (h : ∀ x ∈ l, ∀ y ∈ f x, p y = false) : (l.flatMap f).find? p = none := by
  rw [List.find?_eq_none]
  intro y hy
  obtain ⟨x, hx, hy⟩ := List.mem_flatMap.1 hy
  rw [h x hx y hy]; simp
/-- What the reference returns is what the program does. -/
theorem find_odd {n : Nat} (hn : n ≤ 7) (w : List Nat) : (evL w n).find? oddP = oddB n w := by
  rw [oddB_fold]
  have h := oinv_all (circL n w) [] none (.inl ⟨rfl, by simp⟩) (by rw [List.nil_append]; exact circ_asc n w)
  rw [List.nil_append] at h
  rw [evL_eq w hn]
  generalize (circL n w).foldl stO none = o at *
  have hlen := fun c hc => circ_lt hn (w := w) c hc
  rcases h with ⟨rfl, h⟩ | ⟨b, rfl, h1, h2, h3⟩
  · refine find_flat_none fun m _ y hy => ?_
    have := h y (List.mem_filter.1 hy).1
    unfold oddP
    rw [decide_eq_false_iff_not]; omega
  · have hb := (List.mem_filter.1 (head_mem h3)).1
    obtain ⟨b1, b2, b3, b4⟩ := hlen b hb
    have hbn : b.length ≤ n := by
      have := nodup_len_le b (List.range n) b4 (fun x hx => List.mem_range.2 (b3 x hx))
      rwa [List.length_range] at this
    have e : List.range' 2 (n - 1) = List.range' 2 (b.length - 2) ++ b.length :: List.range' (b.length + 1) (n - b.length) := by
      have e1 := List.range'_append (s := 2) (m := b.length - 2) (n := n - b.length + 1) (step := 1)
      simp only [Nat.one_mul] at e1
      rw [show 2 + (b.length - 2) = b.length by omega, List.range'_succ] at e1
      rw [e1]; congr 1; omega
    rw [e, List.flatMap_append, List.find?_append, find_flat_none, Option.none_or, List.flatMap_cons, List.find?_append]
    · have : ((circL n w).filter fun x => decide (x.length = b.length)).find? oddP = some b := by
        cases hF : (circL n w).filter fun x => decide (x.length = b.length) with
        | nil => rw [hF] at h3; simp at h3
        | cons x r =>
          rw [hF] at h3
          simp at h3; subst h3
          rw [List.find?_cons_of_pos (by unfold oddP; simpa using h1)]
      rw [this]; rfl
    · intro m hm y hy
      rw [List.mem_range'_1] at hm
      obtain ⟨hy1, hy2⟩ := List.mem_filter.1 hy
      rw [decide_eq_true_iff] at hy2
      unfold oddP
      rw [decide_eq_false_iff_not]
      intro ho
      have := h2 y hy1 ho; omega

attribute [local go_sem] shaped_t cells_t isAgg_t storable_t okRef_t pub_t shaped_oA cells_oA storable_oA

theorem loop29_0 (nl : Bool) (n : Int) (ps : List (Int × Int)) (Z : List (List Nat)) (hZ : ∀ c ∈ Z, c.length < 1000000) (hZl : Z.length < 1000000000) (i : Nat) (hok : i ≤ Z.length) (env : Env) (st : St)
    (hg : gcAV true 1 0 (canon env [5, 6]) st = ([(5, LA Z), (6, I i)], ⟨[bkCells nl n ps], []⟩)) :
    ∃ x_1 en s, lim (headed pure (run L) true [5, 6] lp29_0 1 0) env st = some (x_1, en, s) ∧ ((∃ b, (Z.drop i).find? oddP = some b ∧ x_1 = .ret ∧ en.get 2 = oA b ∧ en.get 3 = I 0) ∨ ((Z.drop i).find? oddP = none ∧ x_1 = .exit 0)) := by
  refine loop_wp (α := Nat) (fun i => Z.length - i) (fun i => i ≤ Z.length) (fun i => ([(5, LA Z), (6, I i)], ⟨[bkCells nl n ps], []⟩)) (fun i x_1 en s => (∃ b, (Z.drop i).find? oddP = some b ∧ x_1 = .ret ∧ en.get 2 = oA b ∧ en.get 3 = I 0) ∨ ((Z.drop i).find? oddP = none ∧ x_1 = .exit 0)) (fun i hok => ?_) i hok env st hg
  by_cases h : i < Z.length
  · have hs := wrap64 ((i : Int) + 1) (by omega) (by omega)
    have hlt : ((i : Int) < (Z.length : Int)) = True := eq_true (by omega)
    have hd : Z.drop i = Z[i] :: Z.drop (i + 1) := List.drop_eq_getElem_cons h
    have hix := index_LA Z i h
    have hcl := hZ _ (List.getElem_mem h)
    rw [hd]
    generalize Z[i] = c at *
    have hlo : lenAV (oA c) = some (I c.length) := by unfold oA; rw [len_lst, List.length_map]
    have ht2 : (c.length : Int).tmod 2 = ((c.length % 2 : Nat) : Int) := tmod_nat c.length 2
    have hcn : (I ((i : Int) + 1)) = I ((i + 1 : Nat) : Int) := rfl
    by_cases p : c.length % 2 = 1
    · have q : (((c.length % 2 : Nat) : Int) = 1) = True := eq_true (by omega)
      have hf : (c :: Z.drop (i + 1)).find? oddP = some c := List.find?_cons_of_pos (by unfold oddP; simpa using p)
      rw [hf]
      simp only [go_sem, reduceIte, Nat.reduceEqDiff, Nat.reduceAdd, Nat.reduceSub, Nat.reduceLeDiff, Nat.reduceLT, reduceCtorEq, Int.reduceLT, Int.reduceLE, Int.reduceEq, Int.reduceBEq, Int.reduceSub, Int.reduceAdd, Int.reduceMul, Int.reduceNeg, Int.reduceToNat, Nat.reduceMul, Nat.reduceBEq, index_rsl_if, setm, make_ints, condK_dec, wantK_dec, not_dec, and_dec, or_dec, seqK_ite, seqK_none, blockK_ite, blockK_none, opsK_ite, opsK_none, stepK_ite, stepK_none, bodyK_ite, bodyK_none, resK_ite, resK_none, leaveK_ite, leaveK_none, only_ite, only_none, bind_ite, gives_some, gives_none, gives_ite, then_normal, then_ret, then_exit, then_none, then_ite, Option.bind_none, Bool.not_eq_true', decide_eq_false_iff_not, Bool.and_eq_true, Bool.or_eq_true, Option.some.injEq, Int.not_lt, Int.not_le, lp29_0, hix, hlt, hs, hlo, ht2, q, len_LA]
      exact ⟨c, rfl, rfl⟩
    · have q : (((c.length % 2 : Nat) : Int) = 1) = False := eq_false (by omega)
      have hf : (c :: Z.drop (i + 1)).find? oddP = (Z.drop (i + 1)).find? oddP := List.find?_cons_of_neg (by unfold oddP; simpa using p)
      rw [hf]
      simp only [go_sem, reduceIte, Nat.reduceEqDiff, Nat.reduceAdd, Nat.reduceSub, Nat.reduceLeDiff, Nat.reduceLT, reduceCtorEq, Int.reduceLT, Int.reduceLE, Int.reduceEq, Int.reduceBEq, Int.reduceSub, Int.reduceAdd, Int.reduceMul, Int.reduceNeg, Int.reduceToNat, Nat.reduceMul, Nat.reduceBEq, index_rsl_if, setm, make_ints, condK_dec, wantK_dec, not_dec, and_dec, or_dec, seqK_ite, seqK_none, blockK_ite, blockK_none, opsK_ite, opsK_none, stepK_ite, stepK_none, bodyK_ite, bodyK_none, resK_ite, resK_none, leaveK_ite, leaveK_none, only_ite, only_none, bind_ite, gives_some, gives_none, gives_ite, then_normal, then_ret, then_exit, then_none, then_ite, Option.bind_none, Bool.not_eq_true', decide_eq_false_iff_not, Bool.and_eq_true, Bool.or_eq_true, Option.some.injEq, Int.not_lt, Int.not_le, lp29_0, hix, hlt, hs, hlo, ht2, q, len_LA]
      refine ⟨i + 1, by simp only [go_sem, reduceIte, Nat.reduceEqDiff, Nat.reduceAdd, Nat.reduceSub, Nat.reduceLeDiff, Nat.reduceLT, reduceCtorEq, Int.reduceLT, Int.reduceLE, Int.reduceEq, Int.reduceBEq, Int.reduceSub, Int.reduceAdd, Int.reduceMul, Int.reduceNeg, Int.reduceToNat, Nat.reduceMul, Nat.reduceBEq, ren1_locm, loc_tips, locT_eq, ren1_LA, okRef_LA] <;> rfl, ?_, ?_, fun x en s hq => ?_⟩
      · omega
      · omega
      · exact hq
  · have hd : Z.drop i = [] := List.drop_eq_nil_of_le (by omega)
    have hlt : ((i : Int) < (Z.length : Int)) = False := eq_false (by omega)
    rw [hd]
    simp only [go_sem, reduceIte, Nat.reduceEqDiff, Nat.reduceAdd, Nat.reduceSub, Nat.reduceLeDiff, Nat.reduceLT, reduceCtorEq, Int.reduceLT, Int.reduceLE, Int.reduceEq, Int.reduceBEq, Int.reduceSub, Int.reduceAdd, Int.reduceMul, Int.reduceNeg, Int.reduceToNat, Nat.reduceMul, Nat.reduceBEq, index_rsl_if, setm, make_ints, condK_dec, wantK_dec, not_dec, and_dec, or_dec, seqK_ite, seqK_none, blockK_ite, blockK_none, opsK_ite, opsK_none, stepK_ite, stepK_none, bodyK_ite, bodyK_none, resK_ite, resK_none, leaveK_ite, leaveK_none, only_ite, only_none, bind_ite, gives_some, gives_none, gives_ite, then_normal, then_ret, then_exit, then_none, then_ite, Option.bind_none, Bool.not_eq_true', decide_eq_false_iff_not, Bool.and_eq_true, Bool.or_eq_true, Option.some.injEq, Int.not_lt, Int.not_le, lp29_0, hlt, len_LA]
    simp

theorem evL_facts {n : Int} {ps : List (Int × Int)} (h : chk n ps = 0) : (evL (seeL 7 ps) n.toNat).length ≤ 40000000 ∧ ∀ c ∈ evL (seeL 7 ps) n.toNat, c ∈ allN n ps := by
  obtain ⟨h1, _, _, _, _⟩ := chk_zero h
  have hn : n.toNat ≤ 7 := by omega
  constructor
  · have hs : ∀ l : List Nat, (∀ m ∈ l, m ≤ 7) → (l.flatMap (crR (seeL 7 ps) n.toNat)).length ≤ l.length * 6000000 := by
      intro l
      induction l with
      | nil => intro _; simp
      | cons x r ih =>
        intro hl
        have h1 := crR_len (seeL 7 ps) hn x (by have := hl x (by simp); omega)
        have h2 := ih (fun m hm => hl m (by simp [hm]))
        rw [List.flatMap_cons, List.length_append, List.length_cons, Nat.add_mul]; omega
    have := hs (List.range' 2 (n.toNat - 1)) (fun m hm => by rw [List.mem_range'_1] at hm; omega)
    rw [List.length_range'] at this
    have h3 : (n.toNat - 1) * 6000000 ≤ 6 * 6000000 := Nat.mul_le_mul_right _ (by omega)
    unfold evL evR; omega
  · intro c hc
    rw [evL_eq _ hn] at hc
    obtain ⟨m, _, hc⟩ := List.mem_flatMap.1 hc
    exact (List.mem_filter.1 hc).1
theorem oA_up {c : List Nat} (h : c ≠ []) : oA c = tAV (up c) := by
  unfold oA tAV
  rw [up_J, sl_ne (by simpa using h)]
theorem c29 (nl : Bool) (n : Int) (ps : List (Int × Int)) (st : St) : run L 29 [bkAV nl n ps] st = some (.tup [tAV (ringV n ps), I (ringE n ps)], st) := by
  rw [run_pure (fn := ir29) rfl rfl]
  have h25 := fun st => c25 nl n ps st
  unfold ringV ringE
  by_cases h : chk n ps = 0
  · obtain ⟨h1, hl16, h3, h4, h5⟩ := chk_zero h
    obtain ⟨f1, f2⟩ := evL_facts h
    obtain ⟨g1, g2⟩ := allN_ok h
    obtain ⟨k, rfl⟩ := Int.eq_ofNat_of_zero_le (show 0 ≤ n by omega)
    rw [if_pos h, if_pos h, Int.toNat_natCast]
    rw [Int.toNat_natCast] at f1 f2
    have h76 := fun st => c76 nl k (by omega) ps (by omega) h4 st
    have hfo := find_odd (n := k) (by omega) (seeL 7 ps)
    have hcl : ∀ c ∈ evL (seeL 7 ps) k, c.length < 1000000 := fun c hc => by have := (g2 c (f2 c hc)).2.1; omega
    simp only [ir29, go_sem, reduceIte, Nat.reduceEqDiff, Nat.reduceAdd, Nat.reduceSub, Nat.reduceLeDiff, Nat.reduceLT, reduceCtorEq, Int.reduceLT, Int.reduceLE, Int.reduceEq, Int.reduceBEq, Int.reduceSub, Int.reduceAdd, Int.reduceMul, Int.reduceNeg, Int.reduceToNat, Nat.reduceMul, Nat.reduceBEq, h25, h, h76]
    generalize hg : lim (headed pure (run L) true _ lp29_0 _ _) _ _ = o
    obtain ⟨x, en, s, rfl, h2⟩ : ∃ x en s, o = some (x, en, s) ∧ _ := by rw [← hg]; exact loop29_0 nl (k : Int) ps (evL (seeL 7 ps) k) hcl (by omega) 0 (by omega) _ _ (by simp only [go_sem, reduceIte, Nat.reduceEqDiff, Nat.reduceAdd, Nat.reduceSub, Nat.reduceLeDiff, Nat.reduceLT, reduceCtorEq, Int.reduceLT, Int.reduceLE, Int.reduceEq, Int.reduceBEq, Int.reduceSub, Int.reduceAdd, Int.reduceMul, Int.reduceNeg, Int.reduceToNat, Nat.reduceMul, Nat.reduceBEq, ren1_LA, okRef_LA, Int.natCast_zero] <;> rfl)
    clear hg
    rw [List.drop_zero, hfo] at h2
    rcases h2 with ⟨b, hb, rfl, e2, e3⟩ | ⟨hb, rfl⟩
    · rw [hb]
      have hbc := (oddB_some hb).1
      have hbne : b ≠ [] := by
        have := (circ_lt (by omega) b hbc).1
        intro e; rw [e] at this; simp at this
      rw [oA_up hbne] at e2
      simp only [go_sem, reduceIte, Nat.reduceEqDiff, Nat.reduceAdd, Nat.reduceSub, Nat.reduceLeDiff, Nat.reduceLT, reduceCtorEq, Int.reduceLT, Int.reduceLE, Int.reduceEq, Int.reduceBEq, Int.reduceSub, Int.reduceAdd, Int.reduceMul, Int.reduceNeg, Int.reduceToNat, Nat.reduceMul, Nat.reduceBEq, e2, e3, fin_t]
    · rw [hb]
      simp only [go_sem, reduceIte, Nat.reduceEqDiff, Nat.reduceAdd, Nat.reduceSub, Nat.reduceLeDiff, Nat.reduceLT, reduceCtorEq, Int.reduceLT, Int.reduceLE, Int.reduceEq, Int.reduceBEq, Int.reduceSub, Int.reduceAdd, Int.reduceMul, Int.reduceNeg, Int.reduceToNat, Nat.reduceMul, Nat.reduceBEq]
      rfl
  · rw [if_neg h, if_neg h]
    simp only [ir29, go_sem, reduceIte, Nat.reduceEqDiff, Nat.reduceAdd, Nat.reduceSub, Nat.reduceLeDiff, Nat.reduceLT, reduceCtorEq, Int.reduceLT, Int.reduceLE, Int.reduceEq, Int.reduceBEq, Int.reduceSub, Int.reduceAdd, Int.reduceMul, Int.reduceNeg, Int.reduceToNat, Nat.reduceMul, Nat.reduceBEq, h25, h]
    rfl

/-! ### the reference's check of an odd circle -/
theorem loop31_0 (nl n2 : Bool) (n : Int) (ps : List (Int × Int)) (l : List Int) (hlen : l.length < 1000000) (i : Nat) (e : Int) (hok : i ≤ l.length ∧ (e = 0 → -1000000 ≤ n ∧ n ≤ 1000000)) (env : Env) (st : St)
    (hg : gcAV true 1 0 (canon env [1, 2, 5, 6]) st = ([(1, sl 1 n2 (l.map I)), (2, .ptr 0 0), (5, I e), (6, I i)], ⟨[bkCells nl n ps], []⟩)) :
    ∃ x_1 en s, lim (headed pure (run L) true [1, 2, 5, 6] lp31_0 1 0) env st = some (x_1, en, s) ∧ (x_1 = .exit 0 ∧ en.get 1 = sl 1 n2 (l.map I) ∧ en.get 2 = .ptr 0 0 ∧ en.get 5 = I (if e = 0 then ringErr n (l.take i) (l.drop i) else e) ∧ s = ⟨[bkCells nl n ps], []⟩) := by
  refine loop_wp (α := Nat × Int) (fun ⟨i, e⟩ => if e = 0 then l.length - i + 1 else 0) (fun ⟨i, e⟩ => i ≤ l.length ∧ (e = 0 → -1000000 ≤ n ∧ n ≤ 1000000)) (fun ⟨i, e⟩ => ([(1, sl 1 n2 (l.map I)), (2, .ptr 0 0), (5, I e), (6, I i)], ⟨[bkCells nl n ps], []⟩)) (fun ⟨i, e⟩ x_1 en s => x_1 = .exit 0 ∧ en.get 1 = sl 1 n2 (l.map I) ∧ en.get 2 = .ptr 0 0 ∧ en.get 5 = I (if e = 0 then ringErr n (l.take i) (l.drop i) else e) ∧ s = ⟨[bkCells nl n ps], []⟩) (fun ⟨i, e⟩ hok => ?_) ⟨i, e⟩ hok env st hg
  simp only at hok
  obtain ⟨hok, hn0⟩ := hok
  dsimp only at hok hn0 ⊢
  by_cases h : i < l.length
  · have hs := succ64 i (by omega)
    have hlt : ((i : Int) < (l.length : Int)) = True := eq_true (by omega)
    by_cases he : e = 0
    · subst he
      have hn := hn0 rfl
      have hx := index_ints n2 l i h
      have hd : l.drop i = l[i] :: l.drop (i + 1) := List.drop_eq_getElem_cons h
      have ht : l.take (i + 1) = l.take i ++ [l[i]] := by rw [List.take_succ_eq_append_getElem h]
      have hw := wrap64 (n - 1) (by omega) (by omega)
      have h70 := fun a st => c70 a 0 (n - 1) st
      rw [hd]
      generalize l[i] = x at *
      have hre : ringErr n (l.take i) (x :: l.drop (i + 1)) = if x < 0 ∨ n ≤ x then 2 else if x ∈ l.take i then 6 else ringErr n (l.take (i + 1)) (l.drop (i + 1)) := by rw [ht]; rfl
      rw [hre]
      by_cases p1 : x < 0 ∨ n ≤ x
      · have q1 : (0 ≤ x ∧ x ≤ n - 1) = False := eq_false (by omega)
        simp only [if_pos p1]
        simp only [go_sem, reduceIte, Nat.reduceEqDiff, Nat.reduceAdd, Nat.reduceSub, Nat.reduceLeDiff, Nat.reduceLT, reduceCtorEq, Int.reduceLT, Int.reduceLE, Int.reduceEq, Int.reduceBEq, Int.reduceSub, Int.reduceAdd, Int.reduceMul, Int.reduceNeg, Int.reduceToNat, Nat.reduceMul, Nat.reduceBEq, index_rsl_if, setm, make_ints, condK_dec, wantK_dec, not_dec, and_dec, or_dec, seqK_ite, seqK_none, blockK_ite, blockK_none, opsK_ite, opsK_none, stepK_ite, stepK_none, bodyK_ite, bodyK_none, resK_ite, resK_none, leaveK_ite, leaveK_none, only_ite, only_none, bind_ite, gives_some, gives_none, gives_ite, then_normal, then_ret, then_exit, then_none, then_ite, Option.bind_none, Bool.not_eq_true', decide_eq_false_iff_not, Bool.and_eq_true, Bool.or_eq_true, Option.some.injEq, Int.not_lt, Int.not_le, lp31_0, hx, hlt, hs, hw, h70, q1, List.length_map]
        refine ⟨(i + 1, (2 : Int)), by simp only [go_sem, reduceIte, Nat.reduceEqDiff, Nat.reduceAdd, Nat.reduceSub, Nat.reduceLeDiff, Nat.reduceLT, reduceCtorEq, Int.reduceLT, Int.reduceLE, Int.reduceEq, Int.reduceBEq, Int.reduceSub, Int.reduceAdd, Int.reduceMul, Int.reduceNeg, Int.reduceToNat, Nat.reduceMul, Nat.reduceBEq, ren1_locm, loc_tips, locT_eq] <;> rfl, ?_, ?_, fun x en s hq => ?_⟩
        · dsimp only; exact ⟨by omega, fun h => by omega⟩
        · dsimp only; simp
        · exact hq
      · have q1 : (0 ≤ x ∧ x ≤ n - 1) = True := eq_true (by omega)
        have hne : l ≠ [] := by intro e; rw [e] at h; simp at h
        have hsl : sliceAV 1 (sl 1 n2 (l.map I)) none (some (.v (.int .i64 (i : Int)))) none = some (sl 1 false ((l.take i).map I)) := by
          rw [sl_ne (by simpa using hne), ← sl_false]
          have h9 : i ≤ l.length := by omega
          simp [sliceAV, natOr, natOf, tagSlice, h9, List.map_take]
        have h77 := fun st => c77 false (l.take i) (by rw [List.length_take]; omega) x st
        simp only [if_neg p1]
        by_cases p2 : x ∈ l.take i
        · simp only [if_pos p2]
          simp only [go_sem, reduceIte, Nat.reduceEqDiff, Nat.reduceAdd, Nat.reduceSub, Nat.reduceLeDiff, Nat.reduceLT, reduceCtorEq, Int.reduceLT, Int.reduceLE, Int.reduceEq, Int.reduceBEq, Int.reduceSub, Int.reduceAdd, Int.reduceMul, Int.reduceNeg, Int.reduceToNat, Nat.reduceMul, Nat.reduceBEq, index_rsl_if, setm, make_ints, condK_dec, wantK_dec, not_dec, and_dec, or_dec, seqK_ite, seqK_none, blockK_ite, blockK_none, opsK_ite, opsK_none, stepK_ite, stepK_none, bodyK_ite, bodyK_none, resK_ite, resK_none, leaveK_ite, leaveK_none, only_ite, only_none, bind_ite, gives_some, gives_none, gives_ite, then_normal, then_ret, then_exit, then_none, then_ite, Option.bind_none, Bool.not_eq_true', decide_eq_false_iff_not, Bool.and_eq_true, Bool.or_eq_true, Option.some.injEq, Int.not_lt, Int.not_le, lp31_0, hx, hlt, hs, hw, h70, q1, hsl, h77, p2, List.length_map]
          refine ⟨(i + 1, (6 : Int)), by simp only [go_sem, reduceIte, Nat.reduceEqDiff, Nat.reduceAdd, Nat.reduceSub, Nat.reduceLeDiff, Nat.reduceLT, reduceCtorEq, Int.reduceLT, Int.reduceLE, Int.reduceEq, Int.reduceBEq, Int.reduceSub, Int.reduceAdd, Int.reduceMul, Int.reduceNeg, Int.reduceToNat, Nat.reduceMul, Nat.reduceBEq, ren1_locm, loc_tips, locT_eq] <;> rfl, ?_, ?_, fun x en s hq => ?_⟩
          · dsimp only; exact ⟨by omega, fun h => by omega⟩
          · dsimp only; simp
          · exact hq
        · simp only [if_neg p2]
          simp only [go_sem, reduceIte, Nat.reduceEqDiff, Nat.reduceAdd, Nat.reduceSub, Nat.reduceLeDiff, Nat.reduceLT, reduceCtorEq, Int.reduceLT, Int.reduceLE, Int.reduceEq, Int.reduceBEq, Int.reduceSub, Int.reduceAdd, Int.reduceMul, Int.reduceNeg, Int.reduceToNat, Nat.reduceMul, Nat.reduceBEq, index_rsl_if, setm, make_ints, condK_dec, wantK_dec, not_dec, and_dec, or_dec, seqK_ite, seqK_none, blockK_ite, blockK_none, opsK_ite, opsK_none, stepK_ite, stepK_none, bodyK_ite, bodyK_none, resK_ite, resK_none, leaveK_ite, leaveK_none, only_ite, only_none, bind_ite, gives_some, gives_none, gives_ite, then_normal, then_ret, then_exit, then_none, then_ite, Option.bind_none, Bool.not_eq_true', decide_eq_false_iff_not, Bool.and_eq_true, Bool.or_eq_true, Option.some.injEq, Int.not_lt, Int.not_le, lp31_0, hx, hlt, hs, hw, h70, q1, hsl, h77, p2, List.length_map]
          refine ⟨(i + 1, (0 : Int)), by simp only [go_sem, reduceIte, Nat.reduceEqDiff, Nat.reduceAdd, Nat.reduceSub, Nat.reduceLeDiff, Nat.reduceLT, reduceCtorEq, Int.reduceLT, Int.reduceLE, Int.reduceEq, Int.reduceBEq, Int.reduceSub, Int.reduceAdd, Int.reduceMul, Int.reduceNeg, Int.reduceToNat, Nat.reduceMul, Nat.reduceBEq, ren1_locm, loc_tips, locT_eq] <;> rfl, ?_, ?_, fun x en s hq => ?_⟩
          · dsimp only; exact ⟨by omega, fun h => by omega⟩
          · dsimp only; simp only [if_true]; omega
          · exact hq
    · have q : (e = 0) = False := eq_false he
      simp only [go_sem, reduceIte, Nat.reduceEqDiff, Nat.reduceAdd, Nat.reduceSub, Nat.reduceLeDiff, Nat.reduceLT, reduceCtorEq, Int.reduceLT, Int.reduceLE, Int.reduceEq, Int.reduceBEq, Int.reduceSub, Int.reduceAdd, Int.reduceMul, Int.reduceNeg, Int.reduceToNat, Nat.reduceMul, Nat.reduceBEq, index_rsl_if, setm, make_ints, condK_dec, wantK_dec, not_dec, and_dec, or_dec, seqK_ite, seqK_none, blockK_ite, blockK_none, opsK_ite, opsK_none, stepK_ite, stepK_none, bodyK_ite, bodyK_none, resK_ite, resK_none, leaveK_ite, leaveK_none, only_ite, only_none, bind_ite, gives_some, gives_none, gives_ite, then_normal, then_ret, then_exit, then_none, then_ite, Option.bind_none, Bool.not_eq_true', decide_eq_false_iff_not, Bool.and_eq_true, Bool.or_eq_true, Option.some.injEq, Int.not_lt, Int.not_le, lp31_0, hlt, q, List.length_map]
  · have hd : l.drop i = [] := List.drop_eq_nil_of_le (by omega)
    have hlt : ((i : Int) < (l.length : Int)) = False := eq_false (by omega)
    have hre : (if e = 0 then ringErr n (l.take i) [] else e) = e := by
      split
      · next h => rw [h]; rfl
      · rfl
    rw [hd, hre]
    simp only [go_sem, reduceIte, Nat.reduceEqDiff, Nat.reduceAdd, Nat.reduceSub, Nat.reduceLeDiff, Nat.reduceLT, reduceCtorEq, Int.reduceLT, Int.reduceLE, Int.reduceEq, Int.reduceBEq, Int.reduceSub, Int.reduceAdd, Int.reduceMul, Int.reduceNeg, Int.reduceToNat, Nat.reduceMul, Nat.reduceBEq, index_rsl_if, setm, make_ints, condK_dec, wantK_dec, not_dec, and_dec, or_dec, seqK_ite, seqK_none, blockK_ite, blockK_none, opsK_ite, opsK_none, stepK_ite, stepK_none, bodyK_ite, bodyK_none, resK_ite, resK_none, leaveK_ite, leaveK_none, only_ite, only_none, bind_ite, gives_some, gives_none, gives_ite, then_normal, then_ret, then_exit, then_none, then_ite, Option.bind_none, Bool.not_eq_true', decide_eq_false_iff_not, Bool.and_eq_true, Bool.or_eq_true, Option.some.injEq, Int.not_lt, Int.not_le, lp31_0, hlt, List.length_map]

theorem loop31_1 (nl n2 : Bool) (n : Int) (ps : List (Int × Int)) (hps : ps.length < 1000000) (l : List Int) (hlen : l.length < 1000000) (i : Nat) (e : Int) (hok : i ≤ l.length) (env : Env) (st : St)
    (hg : gcAV true 1 0 (canon env [1, 2, 5, 7]) st = ([(1, sl 1 n2 (l.map I)), (2, .ptr 0 0), (5, I e), (7, I i)], ⟨[bkCells nl n ps], []⟩)) :
    ∃ x_1 en s, lim (headed pure (run L) true [1, 2, 5, 7] lp31_1 1 0) env st = some (x_1, en, s) ∧ (x_1 = .exit 2 ∧ en.get 5 = I (if e = 0 then (if (List.range' i (l.length - i)).all (nextOk ps l) = true then 0 else 14) else e)) := by
  refine loop_wp (α := Nat × Int) (fun ⟨i, e⟩ => if e = 0 then l.length - i + 1 else 0) (fun ⟨i, e⟩ => i ≤ l.length) (fun ⟨i, e⟩ => ([(1, sl 1 n2 (l.map I)), (2, .ptr 0 0), (5, I e), (7, I i)], ⟨[bkCells nl n ps], []⟩)) (fun ⟨i, e⟩ x_1 en s => x_1 = .exit 2 ∧ en.get 5 = I (if e = 0 then (if (List.range' i (l.length - i)).all (nextOk ps l) = true then 0 else 14) else e)) (fun ⟨i, e⟩ hok => ?_) ⟨i, e⟩ hok env st hg
  simp only at hok
  dsimp only at hok ⊢
  by_cases h : i < l.length
  · have hs := succ64 i (by omega)
    have hlt : ((i : Int) < (l.length : Int)) = True := eq_true (by omega)
    by_cases he : e = 0
    · subst he
      have hr : List.range' i (l.length - i) = i :: List.range' (i + 1) (l.length - (i + 1)) := by
        rw [show l.length - i = (l.length - (i + 1)) + 1 by omega, List.range'_succ]
      have hmod : (i + 1) % l.length < l.length := Nat.mod_lt _ (by omega)
      have hx := index_ints n2 l i h
      have hy := index_ints n2 l ((i + 1) % l.length) hmod
      have htm : (((i + 1 : Nat) : Int)).tmod (l.length : Int) = (((i + 1) % l.length : Nat) : Int) := tmod_nat _ _
      have hz : ((l.length : Int) = 0) = False := eq_false (by omega)
      have h71 := fun st => c71 nl n ps hps l[i] (l[(i + 1) % l.length]) st
      have hno : nextOk ps l i = decide ((l[i], l[(i + 1) % l.length]) ∈ ps) := by
        unfold nextOk
        rw [List.getD_eq_getElem?_getD, List.getElem?_eq_getElem h, List.getD_eq_getElem?_getD, List.getElem?_eq_getElem hmod]; rfl
      rw [← hno] at h71
      rw [hr, List.all_cons]
      generalize l[i] = x at *
      generalize l[(i + 1) % l.length] = y at *
      cases hb : nextOk ps l i
      · rw [hb] at h71
        simp only [go_sem, reduceIte, Nat.reduceEqDiff, Nat.reduceAdd, Nat.reduceSub, Nat.reduceLeDiff, Nat.reduceLT, reduceCtorEq, Int.reduceLT, Int.reduceLE, Int.reduceEq, Int.reduceBEq, Int.reduceSub, Int.reduceAdd, Int.reduceMul, Int.reduceNeg, Int.reduceToNat, Nat.reduceMul, Nat.reduceBEq, index_rsl_if, setm, make_ints, condK_dec, wantK_dec, not_dec, and_dec, or_dec, seqK_ite, seqK_none, blockK_ite, blockK_none, opsK_ite, opsK_none, stepK_ite, stepK_none, bodyK_ite, bodyK_none, resK_ite, resK_none, leaveK_ite, leaveK_none, only_ite, only_none, bind_ite, gives_some, gives_none, gives_ite, then_normal, then_ret, then_exit, then_none, then_ite, Option.bind_none, Bool.not_eq_true', decide_eq_false_iff_not, Bool.and_eq_true, Bool.or_eq_true, Option.some.injEq, Int.not_lt, Int.not_le, lp31_1, hx, hy, htm, hz, hlt, hs, h71, List.length_map]
        refine ⟨(i + 1, (14 : Int)), by simp only [go_sem, reduceIte, Nat.reduceEqDiff, Nat.reduceAdd, Nat.reduceSub, Nat.reduceLeDiff, Nat.reduceLT, reduceCtorEq, Int.reduceLT, Int.reduceLE, Int.reduceEq, Int.reduceBEq, Int.reduceSub, Int.reduceAdd, Int.reduceMul, Int.reduceNeg, Int.reduceToNat, Nat.reduceMul, Nat.reduceBEq, ren1_locm, loc_tips, locT_eq] <;> rfl, ?_, ?_, fun x en s hq => ?_⟩
        · dsimp only; omega
        · dsimp only; simp
        · exact hq
      · rw [hb] at h71
        simp only [go_sem, reduceIte, Nat.reduceEqDiff, Nat.reduceAdd, Nat.reduceSub, Nat.reduceLeDiff, Nat.reduceLT, reduceCtorEq, Int.reduceLT, Int.reduceLE, Int.reduceEq, Int.reduceBEq, Int.reduceSub, Int.reduceAdd, Int.reduceMul, Int.reduceNeg, Int.reduceToNat, Nat.reduceMul, Nat.reduceBEq, index_rsl_if, setm, make_ints, condK_dec, wantK_dec, not_dec, and_dec, or_dec, seqK_ite, seqK_none, blockK_ite, blockK_none, opsK_ite, opsK_none, stepK_ite, stepK_none, bodyK_ite, bodyK_none, resK_ite, resK_none, leaveK_ite, leaveK_none, only_ite, only_none, bind_ite, gives_some, gives_none, gives_ite, then_normal, then_ret, then_exit, then_none, then_ite, Option.bind_none, Bool.not_eq_true', decide_eq_false_iff_not, Bool.and_eq_true, Bool.or_eq_true, Option.some.injEq, Int.not_lt, Int.not_le, lp31_1, hx, hy, htm, hz, hlt, hs, h71, List.length_map]
        refine ⟨(i + 1, (0 : Int)), by simp only [go_sem, reduceIte, Nat.reduceEqDiff, Nat.reduceAdd, Nat.reduceSub, Nat.reduceLeDiff, Nat.reduceLT, reduceCtorEq, Int.reduceLT, Int.reduceLE, Int.reduceEq, Int.reduceBEq, Int.reduceSub, Int.reduceAdd, Int.reduceMul, Int.reduceNeg, Int.reduceToNat, Nat.reduceMul, Nat.reduceBEq, ren1_locm, loc_tips, locT_eq] <;> rfl, ?_, ?_, fun x en s hq => ?_⟩
        · dsimp only; omega
        · dsimp only; simp only [if_true]; omega
        · simpa using hq
    · have q : (e = 0) = False := eq_false he
      simp only [go_sem, reduceIte, Nat.reduceEqDiff, Nat.reduceAdd, Nat.reduceSub, Nat.reduceLeDiff, Nat.reduceLT, reduceCtorEq, Int.reduceLT, Int.reduceLE, Int.reduceEq, Int.reduceBEq, Int.reduceSub, Int.reduceAdd, Int.reduceMul, Int.reduceNeg, Int.reduceToNat, Nat.reduceMul, Nat.reduceBEq, index_rsl_if, setm, make_ints, condK_dec, wantK_dec, not_dec, and_dec, or_dec, seqK_ite, seqK_none, blockK_ite, blockK_none, opsK_ite, opsK_none, stepK_ite, stepK_none, bodyK_ite, bodyK_none, resK_ite, resK_none, leaveK_ite, leaveK_none, only_ite, only_none, bind_ite, gives_some, gives_none, gives_ite, then_normal, then_ret, then_exit, then_none, then_ite, Option.bind_none, Bool.not_eq_true', decide_eq_false_iff_not, Bool.and_eq_true, Bool.or_eq_true, Option.some.injEq, Int.not_lt, Int.not_le, lp31_1, hlt, q, List.length_map]
  · have hr : l.length - i = 0 := by omega
    have hlt : ((i : Int) < (l.length : Int)) = False := eq_false (by omega)
    have hre : (if e = 0 then (if (List.range' i 0).all (nextOk ps l) = true then (0 : Int) else 14) else e) = e := by
      split
      · next h => rw [h]; rfl
      · rfl
    rw [hr, hre]
    simp only [go_sem, reduceIte, Nat.reduceEqDiff, Nat.reduceAdd, Nat.reduceSub, Nat.reduceLeDiff, Nat.reduceLT, reduceCtorEq, Int.reduceLT, Int.reduceLE, Int.reduceEq, Int.reduceBEq, Int.reduceSub, Int.reduceAdd, Int.reduceMul, Int.reduceNeg, Int.reduceToNat, Nat.reduceMul, Nat.reduceBEq, index_rsl_if, setm, make_ints, condK_dec, wantK_dec, not_dec, and_dec, or_dec, seqK_ite, seqK_none, blockK_ite, blockK_none, opsK_ite, opsK_none, stepK_ite, stepK_none, bodyK_ite, bodyK_none, resK_ite, resK_none, leaveK_ite, leaveK_none, only_ite, only_none, bind_ite, gives_some, gives_none, gives_ite, then_normal, then_ret, then_exit, then_none, then_ite, Option.bind_none, Bool.not_eq_true', decide_eq_false_iff_not, Bool.and_eq_true, Bool.or_eq_true, Option.some.injEq, Int.not_lt, Int.not_le, lp31_1, hlt, List.length_map]

theorem c31 (nl n2 : Bool) (n : Int) (ps : List (Int × Int)) (l : List Int) (hps : ps.length < 1000000) (hlen : l.length < 1000000) (st : St) :
    run L 31 [bkAV nl n ps, sl 1 n2 (l.map I)] st = some (I (provE n ps l), st) := by
  rw [run_pure (fn := ir31) rfl rfl]
  have h25 := fun st => c25 nl n ps st
  have ht2 : (l.length : Int).tmod 2 = ((l.length % 2 : Nat) : Int) := tmod_nat l.length 2
  by_cases h : chk n ps = 0
  · obtain ⟨h1, hl16, h3, h4, h5⟩ := chk_zero h
    rw [prov_want h l]
    by_cases p1 : l.length < 3
    · rw [if_pos (.inl p1)]
      have q1 : ((l.length : Int) < 3) = True := eq_true (by omega)
      simp only [ir31, go_sem, reduceIte, Nat.reduceEqDiff, Nat.reduceAdd, Nat.reduceSub, Nat.reduceLeDiff, Nat.reduceLT, reduceCtorEq, Int.reduceLT, Int.reduceLE, Int.reduceEq, Int.reduceBEq, Int.reduceSub, Int.reduceAdd, Int.reduceMul, Int.reduceNeg, Int.reduceToNat, Nat.reduceMul, Nat.reduceBEq, h25, h, q1, List.length_map]
      generalize hg : lim (headed pure (run L) true _ lp31_0 _ _) _ _ = o
      obtain ⟨x, en, s, rfl, h2⟩ : ∃ x en s, o = some (x, en, s) ∧ _ := by rw [← hg]; exact loop31_0 nl n2 n ps l hlen 0 5 ⟨by omega, fun h => by omega⟩ _ _ (by simp only [go_sem, reduceIte, Nat.reduceEqDiff, Nat.reduceAdd, Nat.reduceSub, Nat.reduceLeDiff, Nat.reduceLT, reduceCtorEq, Int.reduceLT, Int.reduceLE, Int.reduceEq, Int.reduceBEq, Int.reduceSub, Int.reduceAdd, Int.reduceMul, Int.reduceNeg, Int.reduceToNat, Nat.reduceMul, Nat.reduceBEq, Int.natCast_zero] <;> rfl)
      clear hg
      rw [if_neg (by omega)] at h2
      obtain ⟨rfl, g1, g2, g5, rfl⟩ := h2
      simp only [go_sem, reduceIte, Nat.reduceEqDiff, Nat.reduceAdd, Nat.reduceSub, Nat.reduceLeDiff, Nat.reduceLT, reduceCtorEq, Int.reduceLT, Int.reduceLE, Int.reduceEq, Int.reduceBEq, Int.reduceSub, Int.reduceAdd, Int.reduceMul, Int.reduceNeg, Int.reduceToNat, Nat.reduceMul, Nat.reduceBEq, g1, g2, g5]
      generalize hg : lim (headed pure (run L) true _ lp31_1 _ _) _ _ = o
      obtain ⟨x, en, s, rfl, h2⟩ : ∃ x en s, o = some (x, en, s) ∧ _ := by rw [← hg]; exact loop31_1 nl n2 n ps hps l hlen 0 5 (by omega) _ _ (by simp only [go_sem, reduceIte, Nat.reduceEqDiff, Nat.reduceAdd, Nat.reduceSub, Nat.reduceLeDiff, Nat.reduceLT, reduceCtorEq, Int.reduceLT, Int.reduceLE, Int.reduceEq, Int.reduceBEq, Int.reduceSub, Int.reduceAdd, Int.reduceMul, Int.reduceNeg, Int.reduceToNat, Nat.reduceMul, Nat.reduceBEq, Int.natCast_zero, g1, g2, g5] <;> rfl)
      clear hg
      rw [if_neg (by omega)] at h2
      obtain ⟨rfl, g5⟩ := h2
      simp only [go_sem, reduceIte, Nat.reduceEqDiff, Nat.reduceAdd, Nat.reduceSub, Nat.reduceLeDiff, Nat.reduceLT, reduceCtorEq, Int.reduceLT, Int.reduceLE, Int.reduceEq, Int.reduceBEq, Int.reduceSub, Int.reduceAdd, Int.reduceMul, Int.reduceNeg, Int.reduceToNat, Nat.reduceMul, Nat.reduceBEq, g5]
    · have q1 : ((l.length : Int) < 3) = False := eq_false (by omega)
      by_cases p2 : l.length % 2 = 0
      · rw [if_pos (.inr p2)]
        have q2 : (((l.length % 2 : Nat) : Int) = 0) = True := eq_true (by omega)
        simp only [ir31, go_sem, reduceIte, Nat.reduceEqDiff, Nat.reduceAdd, Nat.reduceSub, Nat.reduceLeDiff, Nat.reduceLT, reduceCtorEq, Int.reduceLT, Int.reduceLE, Int.reduceEq, Int.reduceBEq, Int.reduceSub, Int.reduceAdd, Int.reduceMul, Int.reduceNeg, Int.reduceToNat, Nat.reduceMul, Nat.reduceBEq, h25, h, q1, ht2, q2, List.length_map]
        generalize hg : lim (headed pure (run L) true _ lp31_0 _ _) _ _ = o
        obtain ⟨x, en, s, rfl, h2⟩ : ∃ x en s, o = some (x, en, s) ∧ _ := by rw [← hg]; exact loop31_0 nl n2 n ps l hlen 0 5 ⟨by omega, fun h => by omega⟩ _ _ (by simp only [go_sem, reduceIte, Nat.reduceEqDiff, Nat.reduceAdd, Nat.reduceSub, Nat.reduceLeDiff, Nat.reduceLT, reduceCtorEq, Int.reduceLT, Int.reduceLE, Int.reduceEq, Int.reduceBEq, Int.reduceSub, Int.reduceAdd, Int.reduceMul, Int.reduceNeg, Int.reduceToNat, Nat.reduceMul, Nat.reduceBEq, Int.natCast_zero] <;> rfl)
        clear hg
        rw [if_neg (by omega)] at h2
        obtain ⟨rfl, g1, g2, g5, rfl⟩ := h2
        simp only [go_sem, reduceIte, Nat.reduceEqDiff, Nat.reduceAdd, Nat.reduceSub, Nat.reduceLeDiff, Nat.reduceLT, reduceCtorEq, Int.reduceLT, Int.reduceLE, Int.reduceEq, Int.reduceBEq, Int.reduceSub, Int.reduceAdd, Int.reduceMul, Int.reduceNeg, Int.reduceToNat, Nat.reduceMul, Nat.reduceBEq, g1, g2, g5]
        generalize hg : lim (headed pure (run L) true _ lp31_1 _ _) _ _ = o
        obtain ⟨x, en, s, rfl, h2⟩ : ∃ x en s, o = some (x, en, s) ∧ _ := by rw [← hg]; exact loop31_1 nl n2 n ps hps l hlen 0 5 (by omega) _ _ (by simp only [go_sem, reduceIte, Nat.reduceEqDiff, Nat.reduceAdd, Nat.reduceSub, Nat.reduceLeDiff, Nat.reduceLT, reduceCtorEq, Int.reduceLT, Int.reduceLE, Int.reduceEq, Int.reduceBEq, Int.reduceSub, Int.reduceAdd, Int.reduceMul, Int.reduceNeg, Int.reduceToNat, Nat.reduceMul, Nat.reduceBEq, Int.natCast_zero, g1, g2, g5] <;> rfl)
        clear hg
        rw [if_neg (by omega)] at h2
        obtain ⟨rfl, g5⟩ := h2
        simp only [go_sem, reduceIte, Nat.reduceEqDiff, Nat.reduceAdd, Nat.reduceSub, Nat.reduceLeDiff, Nat.reduceLT, reduceCtorEq, Int.reduceLT, Int.reduceLE, Int.reduceEq, Int.reduceBEq, Int.reduceSub, Int.reduceAdd, Int.reduceMul, Int.reduceNeg, Int.reduceToNat, Nat.reduceMul, Nat.reduceBEq, g5]
      · rw [if_neg (by omega)]
        have q2 : (((l.length % 2 : Nat) : Int) = 0) = False := eq_false (by omega)
        simp only [ir31, go_sem, reduceIte, Nat.reduceEqDiff, Nat.reduceAdd, Nat.reduceSub, Nat.reduceLeDiff, Nat.reduceLT, reduceCtorEq, Int.reduceLT, Int.reduceLE, Int.reduceEq, Int.reduceBEq, Int.reduceSub, Int.reduceAdd, Int.reduceMul, Int.reduceNeg, Int.reduceToNat, Nat.reduceMul, Nat.reduceBEq, h25, h, q1, ht2, q2, List.length_map]
        generalize hg : lim (headed pure (run L) true _ lp31_0 _ _) _ _ = o
        obtain ⟨x, en, s, rfl, h2⟩ : ∃ x en s, o = some (x, en, s) ∧ _ := by rw [← hg]; exact loop31_0 nl n2 n ps l hlen 0 0 ⟨by omega, fun h => by omega⟩ _ _ (by simp only [go_sem, reduceIte, Nat.reduceEqDiff, Nat.reduceAdd, Nat.reduceSub, Nat.reduceLeDiff, Nat.reduceLT, reduceCtorEq, Int.reduceLT, Int.reduceLE, Int.reduceEq, Int.reduceBEq, Int.reduceSub, Int.reduceAdd, Int.reduceMul, Int.reduceNeg, Int.reduceToNat, Nat.reduceMul, Nat.reduceBEq, Int.natCast_zero] <;> rfl)
        clear hg
        rw [if_pos rfl, List.take_zero, List.drop_zero] at h2
        obtain ⟨rfl, g1, g2, g5, rfl⟩ := h2
        simp only [go_sem, reduceIte, Nat.reduceEqDiff, Nat.reduceAdd, Nat.reduceSub, Nat.reduceLeDiff, Nat.reduceLT, reduceCtorEq, Int.reduceLT, Int.reduceLE, Int.reduceEq, Int.reduceBEq, Int.reduceSub, Int.reduceAdd, Int.reduceMul, Int.reduceNeg, Int.reduceToNat, Nat.reduceMul, Nat.reduceBEq, g1, g2, g5]
        generalize hg : lim (headed pure (run L) true _ lp31_1 _ _) _ _ = o
        obtain ⟨x, en, s, rfl, h2⟩ : ∃ x en s, o = some (x, en, s) ∧ _ := by rw [← hg]; exact loop31_1 nl n2 n ps hps l hlen 0 (ringErr n [] l) (by omega) _ _ (by simp only [go_sem, reduceIte, Nat.reduceEqDiff, Nat.reduceAdd, Nat.reduceSub, Nat.reduceLeDiff, Nat.reduceLT, reduceCtorEq, Int.reduceLT, Int.reduceLE, Int.reduceEq, Int.reduceBEq, Int.reduceSub, Int.reduceAdd, Int.reduceMul, Int.reduceNeg, Int.reduceToNat, Nat.reduceMul, Nat.reduceBEq, Int.natCast_zero, g1, g2, g5] <;> rfl)
        clear hg
        have hwt : (if ringErr n [] l = 0 then (if (List.range' 0 (l.length - 0)).all (nextOk ps l) = true then (0 : Int) else 14) else ringErr n [] l) = wantE n ps l := rfl
        rw [hwt] at h2
        obtain ⟨rfl, g5⟩ := h2
        simp only [go_sem, reduceIte, Nat.reduceEqDiff, Nat.reduceAdd, Nat.reduceSub, Nat.reduceLeDiff, Nat.reduceLT, reduceCtorEq, Int.reduceLT, Int.reduceLE, Int.reduceEq, Int.reduceBEq, Int.reduceSub, Int.reduceAdd, Int.reduceMul, Int.reduceNeg, Int.reduceToNat, Nat.reduceMul, Nat.reduceBEq, g5]
  · have hpe : provE n ps l = chk n ps := by unfold provE; rw [if_neg h]
    rw [hpe]
    generalize chk n ps = e at *
    simp only [ir31, go_sem, reduceIte, Nat.reduceEqDiff, Nat.reduceAdd, Nat.reduceSub, Nat.reduceLeDiff, Nat.reduceLT, reduceCtorEq, Int.reduceLT, Int.reduceLE, Int.reduceEq, Int.reduceBEq, Int.reduceSub, Int.reduceAdd, Int.reduceMul, Int.reduceNeg, Int.reduceToNat, Nat.reduceMul, Nat.reduceBEq, h25, h, List.length_map]
    generalize hg : lim (headed pure (run L) true _ lp31_0 _ _) _ _ = o
    obtain ⟨x, en, s, rfl, h2⟩ : ∃ x en s, o = some (x, en, s) ∧ _ := by rw [← hg]; exact loop31_0 nl n2 n ps l hlen 0 e ⟨by omega, fun h2 => absurd h2 h⟩ _ _ (by simp only [go_sem, reduceIte, Nat.reduceEqDiff, Nat.reduceAdd, Nat.reduceSub, Nat.reduceLeDiff, Nat.reduceLT, reduceCtorEq, Int.reduceLT, Int.reduceLE, Int.reduceEq, Int.reduceBEq, Int.reduceSub, Int.reduceAdd, Int.reduceMul, Int.reduceNeg, Int.reduceToNat, Nat.reduceMul, Nat.reduceBEq, Int.natCast_zero] <;> rfl)
    clear hg
    rw [if_neg h] at h2
    obtain ⟨rfl, g1, g2, g5, rfl⟩ := h2
    simp only [go_sem, reduceIte, Nat.reduceEqDiff, Nat.reduceAdd, Nat.reduceSub, Nat.reduceLeDiff, Nat.reduceLT, reduceCtorEq, Int.reduceLT, Int.reduceLE, Int.reduceEq, Int.reduceBEq, Int.reduceSub, Int.reduceAdd, Int.reduceMul, Int.reduceNeg, Int.reduceToNat, Nat.reduceMul, Nat.reduceBEq, g1, g2, g5]
    generalize hg : lim (headed pure (run L) true _ lp31_1 _ _) _ _ = o
    obtain ⟨x, en, s, rfl, h2⟩ : ∃ x en s, o = some (x, en, s) ∧ _ := by rw [← hg]; exact loop31_1 nl n2 n ps hps l hlen 0 e (by omega) _ _ (by simp only [go_sem, reduceIte, Nat.reduceEqDiff, Nat.reduceAdd, Nat.reduceSub, Nat.reduceLeDiff, Nat.reduceLT, reduceCtorEq, Int.reduceLT, Int.reduceLE, Int.reduceEq, Int.reduceBEq, Int.reduceSub, Int.reduceAdd, Int.reduceMul, Int.reduceNeg, Int.reduceToNat, Nat.reduceMul, Nat.reduceBEq, Int.natCast_zero, g1, g2, g5] <;> rfl)
    clear hg
    rw [if_neg h] at h2
    obtain ⟨rfl, g5⟩ := h2
    simp only [go_sem, reduceIte, Nat.reduceEqDiff, Nat.reduceAdd, Nat.reduceSub, Nat.reduceLeDiff, Nat.reduceLT, reduceCtorEq, Int.reduceLT, Int.reduceLE, Int.reduceEq, Int.reduceBEq, Int.reduceSub, Int.reduceAdd, Int.reduceMul, Int.reduceNeg, Int.reduceToNat, Nat.reduceMul, Nat.reduceBEq, g5]
set_option maxHeartbeats 1000000 in
theorem c4 (nl n2 : Bool) (n : Int) (ps : List (Int × Int)) (l : List Int) (st : St) : run L 4 [bkAV nl n ps, sl 1 n2 (l.map I)] st = some (B true, st) := by
  rw [run_pure (fn := ir4) rfl rfl]
  by_cases p1 : 40 < ps.length
  · have q1 : ((40 : Int) < (ps.length : Int)) = True := eq_true (by omega)
    simp only [ir4, go_sem, reduceIte, Nat.reduceEqDiff, Nat.reduceAdd, Nat.reduceSub, Nat.reduceLeDiff, Nat.reduceLT, reduceCtorEq, Int.reduceLT, Int.reduceLE, Int.reduceEq, Int.reduceBEq, Int.reduceSub, Int.reduceAdd, Int.reduceMul, Int.reduceNeg, Int.reduceToNat, Nat.reduceMul, Nat.reduceBEq, List.length_map, q1, c17]
  · have q1 : ((40 : Int) < (ps.length : Int)) = False := eq_false (by omega)
    by_cases p2 : 40 < l.length
    · have q2 : ((40 : Int) < (l.length : Int)) = True := eq_true (by omega)
      simp only [ir4, go_sem, reduceIte, Nat.reduceEqDiff, Nat.reduceAdd, Nat.reduceSub, Nat.reduceLeDiff, Nat.reduceLT, reduceCtorEq, Int.reduceLT, Int.reduceLE, Int.reduceEq, Int.reduceBEq, Int.reduceSub, Int.reduceAdd, Int.reduceMul, Int.reduceNeg, Int.reduceToNat, Nat.reduceMul, Nat.reduceBEq, List.length_map, q1, q2, c17]
    · have q2 : ((40 : Int) < (l.length : Int)) = False := eq_false (by omega)
      have h28 := fun st => c28 nl n ps st
      have h29 := fun st => c29 nl n ps st
      have h30 := fun st => c30 nl n2 n ps l (by omega) st
      have h31 := fun st => c31 nl n2 n ps l (by omega) (by omega) st
      have hx : (ringV n ps).length < 1000000 := by
        unfold ringV
        split
        · next h =>
          cases ho : oddB n.toNat (seeL 7 ps) with
          | none => simp
          | some b =>
            have := ((allN_ok h).2 b (oddB_some ho).1).2.1
            simp only [up_len]; omega
        · simp
      have h22 := fun st => same_self (ringV n ps) hx st
      generalize tAV (ringV n ps) = X at *
      generalize ringE n ps = e1 at *
      generalize provE n ps l = e2 at *
      simp only [ir4, go_sem, reduceIte, Nat.reduceEqDiff, Nat.reduceAdd, Nat.reduceSub, Nat.reduceLeDiff, Nat.reduceLT, reduceCtorEq, Int.reduceLT, Int.reduceLE, Int.reduceEq, Int.reduceBEq, Int.reduceSub, Int.reduceAdd, Int.reduceMul, Int.reduceNeg, Int.reduceToNat, Nat.reduceMul, Nat.reduceBEq, List.length_map, q1, q2, c17, h22, h28, h29, h30, h31]
end Go.Proofs.YtgohohiaaiogcaaDoor.Vm
