/- What is proved: what each function of this program computes, as equations on the evaluator. No condition. -/
import Derived.Test.YtgohohiaaiogcaaDoorC1
import Derived.Test.YtgohohiaaiogcaaDoorS0
set_option linter.all false
namespace Go.Proofs.YtgohohiaaiogcaaDoor.Vm
open Go Go.Ev
set_option maxRecDepth 100000
attribute [local go_sem] cells_any storable_any ren1_any shaped_ptr cells_ptr storable_ptr ren1_ptr shaped_eptr cells_eptr storable_eptr ren1_eptr shaped_rsl cells_rsl storable_rsl ren1_rsl shaped_int cells_int storable_int ren1_int shaped_bool cells_bool storable_bool ren1_bool shaped_nils cells_nils storable_nils ren1_nils shaped_lst cells_lst storable_lst shaped_fn cells_fn storable_fn ren1_fn shaped_ifc cells_ifc storable_ifc ren1_ifc shaped_agg cells_agg storable_agg ren1_agg shaped_tup cells_tup storable_tup ren1_tup shaped_nif cells_nif storable_nif ren1_nif ren1_lany ren1_lfull ren1_lown len_lst len_rsl len_nil load_ptr load_eptr isRsl_lst isRsl_nil isRsl_rsl elems_nil elems_lst elems_sl isRsl_sl body_eq bodyK_normal bodyK_ret resK_some leaveK_some only_some code_skip code_exit code_ret code_ops code_seq code_cond code_block seqK_normal seqK_ret seqK_exit condK_true condK_false blockK_normal blockK_ret blockK_exit opsK_some ops_nil ops_cons wantK_true wantK_false stepK_some pubs pub pub_sl params okRef_loc storable_loc shaped_loc cells_loc isRsl_loc elems_loc len_loc untips untip untip_sl wantedAV setElems withO isAgg_v isAgg_agg isAgg_lst isAgg_ptr isAgg_fn isAgg_ifc isAgg_rsl isAgg_sl isAgg_loc List.replicate_succ List.replicate_zero opAV valAV aval avals ofVal Env.get setD canon gcAV renAll renEnv renStore renCells ren1_sl cutSt okEnv okStore okRefs okRef okRef_sl bin_int bin_bool bin_lst bin_rsl bin_nil bin_agg cellsEq cellEq isShift intOp boolOp min_int max_int beq_int bne resAV tupAV leave_eq fin_sl fin_loc fins fin_v fin_lst fin_agg fin_tup fin_fn storeAV readCells putCells cells_sl shaped_sl storable_sl fieldAddrAV len_sl goI List.getElem?_cons_zero List.getElem?_cons_succ List.getElem?_nil Option.bind_some Option.map_some List.length_cons List.length_nil List.all_cons List.all_nil Bool.and_true Bool.true_and Bool.and_false Bool.false_and and_true true_and and_false false_and Bool.false_eq_true List.set_cons_zero List.set_cons_succ List.append_nil List.nil_append List.cons_append List.take_zero List.take_succ_cons List.take_nil List.drop_zero List.drop_succ_cons List.map_cons List.map_nil decide_true decide_false beq_self_eq_true Bool.not_true Bool.not_false or_true true_or or_false false_or Nat.zero_add Nat.add_zero Nat.le_refl Nat.lt_irrefl decide_eq_true_eq eq_self_iff_true not_true_eq_false not_false_eq_true List.getD_cons_zero code_loop Nat.zero_le Nat.not_lt_zero Bool.true_beq Bool.false_beq beq_true beq_false ge_iff_le gt_iff_lt Lpure pus Option.map_none assert_ifc assert_nil idxA_ptr idxA_eptr idxV_agg Int.cast_ofNat_Int Nat.mul_one Nat.zero_mul Int.toNat_natCast Int.toNat_zero setParts withO2 hasKey eqnil_sl nenil_sl eqnil_loc nenil_loc map_nil_iff okRefs_ints renCells_ints
attribute [local go_sem] shaped_t cells_t isAgg_t storable_t okRef_t pub_t

theorem LA_one (c : List Nat) : LA [c] = .lst .any 1 [.lst .any 1 (c.map J)] := rfl
theorem c78 (nl : Bool) (n : Nat) (hn : n ≤ 7) (ps : List (Int × Int)) (hps : ps.length < 1000000) (h7 : ∀ p ∈ ps, okP p) :
    ∀ (k : Nat) (c : List Nat), 1 ≤ c.length → k ≤ 7 → c.length + k ≤ 50 → ∀ st, run L 78 [bkAV nl (n : Int) ps, .lst .any 1 (c.map J), I ((c.length + k : Nat) : Int)] st = some (LA (wys (seeL 7 ps) n k c), st)
  | 0, c, h1, _, h50, st => by
    rw [run_pure (fn := ir78) rfl rfl]
    have e : wys (seeL 7 ps) n 0 c = [c] := rfl
    rw [e, LA_one, Nat.add_zero]
    simp only [ir78, go_sem, reduceIte, Nat.reduceEqDiff, Nat.reduceAdd, Nat.reduceSub, Nat.reduceLeDiff, Nat.reduceLT, reduceCtorEq, Int.reduceLT, Int.reduceLE, Int.reduceEq, Int.reduceBEq, Int.reduceSub, Int.reduceAdd, Int.reduceMul, Int.reduceNeg, Int.reduceToNat, Nat.reduceMul, Nat.reduceBEq, List.length_map]
  | k + 1, c, h1, hk, h50, st => by
    rw [run_pure (fn := ir78) rfl rfl]
    have hne : ((c.length : Int) = ((c.length + (k + 1) : Nat) : Int)) = False := eq_false (by omega)
    have hrec : ∀ x, ∀ st, run L 78 [bkAV nl (n : Int) ps, .lst .any 1 ((c ++ [x]).map J), I ((c.length + (k + 1) : Nat) : Int)] st = some (LA (wys (seeL 7 ps) n k (c ++ [x])), st) := fun x st => by
      have := c78 nl n hn ps hps h7 k (c ++ [x]) (by simp) (by omega) (by simp; omega) st
      rw [List.length_append, List.length_singleton, show c.length + 1 + k = c.length + (k + 1) by omega] at this
      exact this
    simp only [ir78, go_sem, reduceIte, Nat.reduceEqDiff, Nat.reduceAdd, Nat.reduceSub, Nat.reduceLeDiff, Nat.reduceLT, reduceCtorEq, Int.reduceLT, Int.reduceLE, Int.reduceEq, Int.reduceBEq, Int.reduceSub, Int.reduceAdd, Int.reduceMul, Int.reduceNeg, Int.reduceToNat, Nat.reduceMul, Nat.reduceBEq, hne, List.length_map]
    generalize hg : lim (headed pure (run L) true _ lp78_0 _ _) _ _ = o
    obtain ⟨x, en, s, rfl, h2⟩ : ∃ x en s, o = some (x, en, s) ∧ _ := by rw [← hg]; exact loop78_0 nl n hn ps hps h7 c h1 (by omega) _ (fun x => wys (seeL 7 ps) n k (c ++ [x])) 823543 (by omega) (fun x => wys_bound _ hn k (by omega) _) hrec 0 [] ⟨by omega, by simp⟩ _ _ (by simp only [go_sem, reduceIte, Nat.reduceEqDiff, Nat.reduceAdd, Nat.reduceSub, Nat.reduceLeDiff, Nat.reduceLT, reduceCtorEq, Int.reduceLT, Int.reduceLE, Int.reduceEq, Int.reduceBEq, Int.reduceSub, Int.reduceAdd, Int.reduceMul, Int.reduceNeg, Int.reduceToNat, Nat.reduceMul, Nat.reduceBEq, show ooA [] = .v (.slice none 0 0) from rfl, show ooT [] = [] from rfl, Int.natCast_zero] <;> rfl)
    clear hg
    rw [Nat.sub_zero, List.nil_append] at h2
    obtain ⟨rfl, a', T', hok, e7, rfl⟩ := h2
    have hw : (List.range' 0 n).flatMap (wyStep (seeL 7 ps) c fun x => wys (seeL 7 ps) n k (c ++ [x])) = wys (seeL 7 ps) n (k + 1) c := rfl
    rw [hw] at hok
    have hf := fun st => fin_oo hok st
    obtain ⟨z1, z2, z3⟩ := outOk_st hok
    simp only [go_sem, reduceIte, Nat.reduceEqDiff, Nat.reduceAdd, Nat.reduceSub, Nat.reduceLeDiff, Nat.reduceLT, reduceCtorEq, Int.reduceLT, Int.reduceLE, Int.reduceEq, Int.reduceBEq, Int.reduceSub, Int.reduceAdd, Int.reduceMul, Int.reduceNeg, Int.reduceToNat, Nat.reduceMul, Nat.reduceBEq, e7, hf]

/-! ### the reference's circles -/
def minL (a : Nat) (c : List Nat) (l : List Nat) : Nat := l.foldl (fun m k => min m (c.getD k 0)) a
theorem loop95_0 (nl : Bool) (n : Int) (ps : List (Int × Int)) (m : Nat) (Z X : List (List Nat)) (a : Nat) (i : Nat) (hi : i < Z.length) (hil : i < 1000000) (hm : (Z[i]).length = m) (hm7 : m ≤ 50) (th : Nat) (hth : th = (ooT X).length) (k : Nat) (q : Nat) (hok : k ≤ m) (env : Env) (st : St)
    (hg : gcAV true 1 th (canon env [1, 2, 5, 6, 7, 8, 9, 10]) st = ([(1, I m), (2, .ptr 0 0), (5, ooA X), (6, I a), (7, LA Z), (8, I i), (9, J q), (10, I k)], ⟨[bkCells nl n ps], ooT X⟩)) :
    ∃ x_1 en s, lim (headed pure (run L) true [1, 2, 5, 6, 7, 8, 9, 10] lp95_0 1 th) env st = some (x_1, en, s) ∧ (x_1 = .exit 4 ∧ en.get 1 = I m ∧ en.get 2 = .ptr 0 0 ∧ en.get 5 = ooA X ∧ en.get 6 = I a ∧ en.get 7 = LA Z ∧ en.get 8 = I i ∧ en.get 9 = J (minL q (Z[i]) (List.range' k (m - k))) ∧ s = ⟨[bkCells nl n ps], ooT X⟩) := by
  refine loop_wp (α := Nat × Nat) (fun ⟨k, q⟩ => m - k) (fun ⟨k, q⟩ => k ≤ m) (fun ⟨k, q⟩ => ([(1, I m), (2, .ptr 0 0), (5, ooA X), (6, I a), (7, LA Z), (8, I i), (9, J q), (10, I k)], ⟨[bkCells nl n ps], ooT X⟩)) (fun ⟨k, q⟩ x_1 en s => x_1 = .exit 4 ∧ en.get 1 = I m ∧ en.get 2 = .ptr 0 0 ∧ en.get 5 = ooA X ∧ en.get 6 = I a ∧ en.get 7 = LA Z ∧ en.get 8 = I i ∧ en.get 9 = J (minL q (Z[i]) (List.range' k (m - k))) ∧ s = ⟨[bkCells nl n ps], ooT X⟩) (fun ⟨k, q⟩ hok => ?_) ⟨k, q⟩ hok env st hg
  simp only at hok
  subst hth
  dsimp only at hok ⊢
  have hix := index_LA Z i hi
  have hoa : oA Z[i] = .lst .any 1 (Z[i].map J) := rfl
  rw [hoa] at hix
  by_cases h : k < m
  · have hs := succ64 k (by omega)
    have hlt : ((k : Int) < (m : Int)) = True := eq_true (by omega)
    have hr : List.range' k (m - k) = k :: List.range' (k + 1) (m - (k + 1)) := by
      rw [show m - k = (m - (k + 1)) + 1 by omega, List.range'_succ]
    have hx := index_lstJ .any Z[i] k (by omega)
    have hmn : min (q : Int) ((Z[i].getD k 0 : Nat) : Int) = ((min q (Z[i].getD k 0) : Nat) : Int) := by omega
    have hst : minL q Z[i] (k :: List.range' (k + 1) (m - (k + 1))) = minL (min q (Z[i].getD k 0)) Z[i] (List.range' (k + 1) (m - (k + 1))) := rfl
    rw [hr, hst]
    have hor0 := outOk_ref (ooA_ok X) 1
    have hrr : ∀ acc, ren1 (ooT X).length (ooT X) acc (ooA X) = (ooA X, acc) := fun acc => by
      unfold ooA ooT loc locT
      split
      · rfl
      · simp [ren1]
    generalize Z[i].getD k 0 = v at *
    simp only [go_sem, reduceIte, Nat.reduceEqDiff, Nat.reduceAdd, Nat.reduceSub, Nat.reduceLeDiff, Nat.reduceLT, reduceCtorEq, Int.reduceLT, Int.reduceLE, Int.reduceEq, Int.reduceBEq, Int.reduceSub, Int.reduceAdd, Int.reduceMul, Int.reduceNeg, Int.reduceToNat, Nat.reduceMul, Nat.reduceBEq, index_rsl_if, setm, make_ints, condK_dec, wantK_dec, not_dec, and_dec, or_dec, seqK_ite, seqK_none, blockK_ite, blockK_none, opsK_ite, opsK_none, stepK_ite, stepK_none, bodyK_ite, bodyK_none, resK_ite, resK_none, leaveK_ite, leaveK_none, only_ite, only_none, bind_ite, gives_some, gives_none, gives_ite, then_normal, then_ret, then_exit, then_none, then_ite, Option.bind_none, Bool.not_eq_true', decide_eq_false_iff_not, Bool.and_eq_true, Bool.or_eq_true, Option.some.injEq, Int.not_lt, Int.not_le, lp95_0, hix, hx, hlt, hs, hmn]
    refine ⟨(k + 1, min q v), by simp only [go_sem, reduceIte, Nat.reduceEqDiff, Nat.reduceAdd, Nat.reduceSub, Nat.reduceLeDiff, Nat.reduceLT, reduceCtorEq, Int.reduceLT, Int.reduceLE, Int.reduceEq, Int.reduceBEq, Int.reduceSub, Int.reduceAdd, Int.reduceMul, Int.reduceNeg, Int.reduceToNat, Nat.reduceMul, Nat.reduceBEq, ren1_locm, loc_tips, locT_eq, hor0, hrr, ren1_LA, okRef_LA, List.take_length] <;> rfl, ?_, ?_, fun x en s hq => ?_⟩
    · dsimp only; omega
    · dsimp only; omega
    · exact hq
  · have hr : m - k = 0 := by omega
    have hlt : ((k : Int) < (m : Int)) = False := eq_false (by omega)
    rw [hr]
    simp only [go_sem, reduceIte, Nat.reduceEqDiff, Nat.reduceAdd, Nat.reduceSub, Nat.reduceLeDiff, Nat.reduceLT, reduceCtorEq, Int.reduceLT, Int.reduceLE, Int.reduceEq, Int.reduceBEq, Int.reduceSub, Int.reduceAdd, Int.reduceMul, Int.reduceNeg, Int.reduceToNat, Nat.reduceMul, Nat.reduceBEq, index_rsl_if, setm, make_ints, condK_dec, wantK_dec, not_dec, and_dec, or_dec, seqK_ite, seqK_none, blockK_ite, blockK_none, opsK_ite, opsK_none, stepK_ite, stepK_none, bodyK_ite, bodyK_none, resK_ite, resK_none, leaveK_ite, leaveK_none, only_ite, only_none, bind_ite, gives_some, gives_none, gives_ite, then_normal, then_ret, then_exit, then_none, then_ite, Option.bind_none, Bool.not_eq_true', decide_eq_false_iff_not, Bool.and_eq_true, Bool.or_eq_true, Option.some.injEq, Int.not_lt, Int.not_le, lp95_0, hlt]
    rfl

attribute [local go_sem] shaped_t cells_t isAgg_t storable_t okRef_t pub_t

theorem append_oo (X : List (List Nat)) (c : List Nat) (S : List (List AV)) (h : X.length < 100000000) : appendAV 1 (ooA X) [oA c] ⟨S, ooT X⟩ = some (ooA (X ++ [c]), ⟨S, ooT (X ++ [c])⟩) :=
  append_locm (z := 1) (k := 0) oA X c S (by omega) (by unfold maxGrow; omega)
theorem oo_ren (X : List (List Nat)) (th : Nat) (h : th = 0 ∨ (th = 1 ∧ X ≠ [])) : ∃ q, ren1 th (ooT X) [] (ooA X) = (ooA X, q) ∧ (ooT X).take th ++ q.map (fun x => x.2) = ooT X := by
  rcases h with rfl | ⟨rfl, hne⟩
  · obtain ⟨q, h1, h2⟩ := outOk_ren (ooA_ok X)
    exact ⟨q, h1, by simpa using h2⟩
  · have hl : (X.map oA).length ≠ 0 := by simpa using hne
    refine ⟨[], ?_, ?_⟩
    · unfold ooA loc
      rw [if_neg hl, ren1_lown, if_pos (by omega)]
    · unfold ooT locT
      rw [if_neg hl]; rfl
/-- Whether a circle's first word is its smallest one, and is seen by the last one. -/
def ccP (w : List Nat) (m a : Nat) (c : List Nat) : Bool := decide (minL a c (List.range' 0 m) = a) && (w.getD (c.getD (m - 1) 0) 0).testBit a

set_option maxHeartbeats 1000000 in
theorem loop95_1 (nl : Bool) (n : Int) (ps : List (Int × Int)) (hps : ps.length < 1000000) (h7 : ∀ p ∈ ps, okP p) (m : Nat) (hm1 : 1 ≤ m) (hm50 : m ≤ 50) (Z : List (List Nat)) (hZ : ∀ c ∈ Z, c.length = m) (hZl : Z.length < 1000000) (a : Nat) (th : Nat) (B : Nat) (hB : B < 50000000) (i : Nat) (X : List (List Nat)) (hok : i ≤ Z.length ∧ (th = 0 ∨ (th = 1 ∧ X ≠ [])) ∧ X.length ≤ B + i) (env : Env) (st : St)
    (hg : gcAV true 1 th (canon env [1, 2, 5, 6, 7, 8]) st = ([(1, I m), (2, .ptr 0 0), (5, ooA X), (6, I a), (7, LA Z), (8, I i)], ⟨[bkCells nl n ps], ooT X⟩)) :
    ∃ x_1 en s, lim (headed pure (run L) true [1, 2, 5, 6, 7, 8] lp95_1 1 th) env st = some (x_1, en, s) ∧ (x_1 = .exit 2 ∧ en.get 1 = I m ∧ en.get 2 = .ptr 0 0 ∧ en.get 5 = ooA (X ++ (Z.drop i).filter (ccP (seeL 7 ps) m a)) ∧ en.get 6 = I a ∧ s = ⟨[bkCells nl n ps], ooT (X ++ (Z.drop i).filter (ccP (seeL 7 ps) m a))⟩) := by
  refine loop_wp (α := Nat × List (List Nat)) (fun ⟨i, X⟩ => Z.length - i) (fun ⟨i, X⟩ => i ≤ Z.length ∧ (th = 0 ∨ (th = 1 ∧ X ≠ [])) ∧ X.length ≤ B + i) (fun ⟨i, X⟩ => ([(1, I m), (2, .ptr 0 0), (5, ooA X), (6, I a), (7, LA Z), (8, I i)], ⟨[bkCells nl n ps], ooT X⟩)) (fun ⟨i, X⟩ x_1 en s => x_1 = .exit 2 ∧ en.get 1 = I m ∧ en.get 2 = .ptr 0 0 ∧ en.get 5 = ooA (X ++ (Z.drop i).filter (ccP (seeL 7 ps) m a)) ∧ en.get 6 = I a ∧ s = ⟨[bkCells nl n ps], ooT (X ++ (Z.drop i).filter (ccP (seeL 7 ps) m a))⟩) (fun ⟨i, X⟩ hok => ?_) ⟨i, X⟩ hok env st hg
  simp only at hok
  obtain ⟨h1, h2, h3⟩ := hok
  dsimp only at h1 h2 h3 ⊢
  have hth := h2
  have hth' : ∀ c : List Nat, th = 0 ∨ (th = 1 ∧ X ++ [c] ≠ []) := fun c => hth.imp id (fun h => ⟨h.1, by simp⟩)
  by_cases h : i < Z.length
  · have hs := succ64 i (by omega)
    have hlt : ((i : Int) < (Z.length : Int)) = True := eq_true (by omega)
    have hd : Z.drop i = Z[i] :: Z.drop (i + 1) := List.drop_eq_getElem_cons h
    have hix := index_LA Z i h
    have hoa : oA Z[i] = .lst .any 1 (Z[i].map J) := rfl
    have hcl := hZ _ (List.getElem_mem h)
    have hl1 : IntKind.i64.wrap ((m : Int) - 1) = ((m - 1 : Nat) : Int) := by rw [wrap64] <;> omega
    have hx1 := index_lstJ .any Z[i] (m - 1) (by omega)
    have h71 := fun st => c71 nl n ps hps ((Z[i].getD (m - 1) 0 : Nat) : Int) ((a : Nat) : Int) st
    have hbit : decide ((((Z[i].getD (m - 1) 0 : Nat) : Int), ((a : Nat) : Int)) ∈ ps) = ((seeL 7 ps).getD (Z[i].getD (m - 1) 0) 0).testBit a := (seeL_bit (Nat.le_refl 7) h7 _ _).symm
    rw [hbit] at h71
    have hcc : ccP (seeL 7 ps) m a Z[i] = (decide (minL a Z[i] (List.range' 0 m) = a) && ((seeL 7 ps).getD (Z[i].getD (m - 1) 0) 0).testBit a) := rfl
    rw [hd]
    obtain ⟨q0, hq01, hq02⟩ := oo_ren X th h2
    have hor0 := outOk_ref (ooA_ok X) 1
    have hrr : ∀ acc, ren1 (ooT X).length (ooT X) acc (ooA X) = (ooA X, acc) := fun acc => by
      unfold ooA ooT loc locT
      split
      · rfl
      · simp [ren1]
    have hap := fun S => append_oo X Z[i] S (by omega)
    have hcell : (oA Z[i]) = .lst .any 1 (Z[i].map J) := rfl
    simp only [go_sem, reduceIte, Nat.reduceEqDiff, Nat.reduceAdd, Nat.reduceSub, Nat.reduceLeDiff, Nat.reduceLT, reduceCtorEq, Int.reduceLT, Int.reduceLE, Int.reduceEq, Int.reduceBEq, Int.reduceSub, Int.reduceAdd, Int.reduceMul, Int.reduceNeg, Int.reduceToNat, Nat.reduceMul, Nat.reduceBEq, index_rsl_if, setm, make_ints, condK_dec, wantK_dec, not_dec, and_dec, or_dec, seqK_ite, seqK_none, blockK_ite, blockK_none, opsK_ite, opsK_none, stepK_ite, stepK_none, bodyK_ite, bodyK_none, resK_ite, resK_none, leaveK_ite, leaveK_none, only_ite, only_none, bind_ite, gives_some, gives_none, gives_ite, then_normal, then_ret, then_exit, then_none, then_ite, Option.bind_none, Bool.not_eq_true', decide_eq_false_iff_not, Bool.and_eq_true, Bool.or_eq_true, Option.some.injEq, Int.not_lt, Int.not_le, lp95_1, hlt, hs, len_LA]
    generalize hg : lim (headed pure (run L) true _ lp95_0 _ _) _ _ = o
    obtain ⟨x, en, s, rfl, h2⟩ : ∃ x en s, o = some (x, en, s) ∧ _ := by rw [← hg]; exact loop95_0 nl n ps m Z X a i h (by omega) hcl hm50 (ooT X).length rfl 0 a (by omega) _ _ (by simp only [go_sem, reduceIte, Nat.reduceEqDiff, Nat.reduceAdd, Nat.reduceSub, Nat.reduceLeDiff, Nat.reduceLT, reduceCtorEq, Int.reduceLT, Int.reduceLE, Int.reduceEq, Int.reduceBEq, Int.reduceSub, Int.reduceAdd, Int.reduceMul, Int.reduceNeg, Int.reduceToNat, Nat.reduceMul, Nat.reduceBEq, hor0, hrr, ren1_LA, okRef_LA, List.take_length, Int.natCast_zero] <;> rfl)
    clear hg
    rw [Nat.sub_zero] at h2
    obtain ⟨rfl, e1, e2, e5, e6, e7, e8, e9, rfl⟩ := h2
    rw [hcell] at hap hix
    by_cases p1 : minL a Z[i] (List.range' 0 m) = a
    · by_cases p2 : ((seeL 7 ps).getD (Z[i].getD (m - 1) 0) 0).testBit a = true
      · rw [List.filter_cons_of_pos (by rw [hcc, p2]; simp [p1])]
        have q1 : (((minL a Z[i] (List.range' 0 m) : Nat) : Int) = (a : Int)) = True := eq_true (by omega)
        obtain ⟨q3, hq31, hq32⟩ := oo_ren (X ++ [Z[i]]) th (hth' _)
        have hor3 := outOk_ref (ooA_ok (X ++ [Z[i]])) 1
        generalize Z[i] = c at *
        simp only [go_sem, reduceIte, Nat.reduceEqDiff, Nat.reduceAdd, Nat.reduceSub, Nat.reduceLeDiff, Nat.reduceLT, reduceCtorEq, Int.reduceLT, Int.reduceLE, Int.reduceEq, Int.reduceBEq, Int.reduceSub, Int.reduceAdd, Int.reduceMul, Int.reduceNeg, Int.reduceToNat, Nat.reduceMul, Nat.reduceBEq, index_rsl_if, setm, make_ints, condK_dec, wantK_dec, not_dec, and_dec, or_dec, seqK_ite, seqK_none, blockK_ite, blockK_none, opsK_ite, opsK_none, stepK_ite, stepK_none, bodyK_ite, bodyK_none, resK_ite, resK_none, leaveK_ite, leaveK_none, only_ite, only_none, bind_ite, gives_some, gives_none, gives_ite, then_normal, then_ret, then_exit, then_none, then_ite, Option.bind_none, Bool.not_eq_true', decide_eq_false_iff_not, Bool.and_eq_true, Bool.or_eq_true, Option.some.injEq, Int.not_lt, Int.not_le, lp95_1, hs, e1, e2, e5, e6, e7, e8, e9, q1, hl1, hix, hx1, h71, p2, hap]
        refine ⟨(i + 1, X ++ [c]), by simp only [go_sem, reduceIte, Nat.reduceEqDiff, Nat.reduceAdd, Nat.reduceSub, Nat.reduceLeDiff, Nat.reduceLT, reduceCtorEq, Int.reduceLT, Int.reduceLE, Int.reduceEq, Int.reduceBEq, Int.reduceSub, Int.reduceAdd, Int.reduceMul, Int.reduceNeg, Int.reduceToNat, Nat.reduceMul, Nat.reduceBEq, ren1_locm, loc_tips, locT_eq, hq31, hq32, hor3, ren1_LA, okRef_LA, e1, e2, e5, e6, e7, e8, e9] <;> rfl, ?_, ?_, fun x en s hq => ?_⟩
        · dsimp only
          exact ⟨by omega, hth' _, by rw [List.length_append, List.length_singleton]; omega⟩
        · dsimp only; omega
        · simp only [List.append_assoc, List.cons_append, List.nil_append] at hq; exact hq
      · have p2' : ((seeL 7 ps).getD (Z[i].getD (m - 1) 0) 0).testBit a = false := by simpa using p2
        rw [List.filter_cons_of_neg (by rw [hcc, p2']; simp)]
        have q1 : (((minL a Z[i] (List.range' 0 m) : Nat) : Int) = (a : Int)) = True := eq_true (by omega)
        generalize Z[i] = c at *
        simp only [go_sem, reduceIte, Nat.reduceEqDiff, Nat.reduceAdd, Nat.reduceSub, Nat.reduceLeDiff, Nat.reduceLT, reduceCtorEq, Int.reduceLT, Int.reduceLE, Int.reduceEq, Int.reduceBEq, Int.reduceSub, Int.reduceAdd, Int.reduceMul, Int.reduceNeg, Int.reduceToNat, Nat.reduceMul, Nat.reduceBEq, index_rsl_if, setm, make_ints, condK_dec, wantK_dec, not_dec, and_dec, or_dec, seqK_ite, seqK_none, blockK_ite, blockK_none, opsK_ite, opsK_none, stepK_ite, stepK_none, bodyK_ite, bodyK_none, resK_ite, resK_none, leaveK_ite, leaveK_none, only_ite, only_none, bind_ite, gives_some, gives_none, gives_ite, then_normal, then_ret, then_exit, then_none, then_ite, Option.bind_none, Bool.not_eq_true', decide_eq_false_iff_not, Bool.and_eq_true, Bool.or_eq_true, Option.some.injEq, Int.not_lt, Int.not_le, lp95_1, hs, e1, e2, e5, e6, e7, e8, e9, q1, hl1, hix, hx1, h71, p2']
        refine ⟨(i + 1, X), by simp only [go_sem, reduceIte, Nat.reduceEqDiff, Nat.reduceAdd, Nat.reduceSub, Nat.reduceLeDiff, Nat.reduceLT, reduceCtorEq, Int.reduceLT, Int.reduceLE, Int.reduceEq, Int.reduceBEq, Int.reduceSub, Int.reduceAdd, Int.reduceMul, Int.reduceNeg, Int.reduceToNat, Nat.reduceMul, Nat.reduceBEq, ren1_locm, loc_tips, locT_eq, hq01, hq02, hor0, ren1_LA, okRef_LA, e1, e2, e5, e6, e7, e8, e9] <;> rfl, ?_, ?_, fun x en s hq => ?_⟩
        · dsimp only; exact ⟨by omega, hth, by omega⟩
        · dsimp only; omega
        · exact hq
    · rw [List.filter_cons_of_neg (by rw [hcc]; simp [p1])]
      have q1 : (((minL a Z[i] (List.range' 0 m) : Nat) : Int) = (a : Int)) = False := eq_false (by omega)
      generalize Z[i] = c at *
      simp only [go_sem, reduceIte, Nat.reduceEqDiff, Nat.reduceAdd, Nat.reduceSub, Nat.reduceLeDiff, Nat.reduceLT, reduceCtorEq, Int.reduceLT, Int.reduceLE, Int.reduceEq, Int.reduceBEq, Int.reduceSub, Int.reduceAdd, Int.reduceMul, Int.reduceNeg, Int.reduceToNat, Nat.reduceMul, Nat.reduceBEq, index_rsl_if, setm, make_ints, condK_dec, wantK_dec, not_dec, and_dec, or_dec, seqK_ite, seqK_none, blockK_ite, blockK_none, opsK_ite, opsK_none, stepK_ite, stepK_none, bodyK_ite, bodyK_none, resK_ite, resK_none, leaveK_ite, leaveK_none, only_ite, only_none, bind_ite, gives_some, gives_none, gives_ite, then_normal, then_ret, then_exit, then_none, then_ite, Option.bind_none, Bool.not_eq_true', decide_eq_false_iff_not, Bool.and_eq_true, Bool.or_eq_true, Option.some.injEq, Int.not_lt, Int.not_le, lp95_1, hs, e1, e2, e5, e6, e7, e8, e9, q1]
      refine ⟨(i + 1, X), by simp only [go_sem, reduceIte, Nat.reduceEqDiff, Nat.reduceAdd, Nat.reduceSub, Nat.reduceLeDiff, Nat.reduceLT, reduceCtorEq, Int.reduceLT, Int.reduceLE, Int.reduceEq, Int.reduceBEq, Int.reduceSub, Int.reduceAdd, Int.reduceMul, Int.reduceNeg, Int.reduceToNat, Nat.reduceMul, Nat.reduceBEq, ren1_locm, loc_tips, locT_eq, hq01, hq02, hor0, ren1_LA, okRef_LA, e1, e2, e5, e6, e7, e8, e9] <;> rfl, ?_, ?_, fun x en s hq => ?_⟩
      · dsimp only; exact ⟨by omega, hth, by omega⟩
      · dsimp only; omega
      · exact hq
  · have hd : Z.drop i = [] := List.drop_eq_nil_of_le (by omega)
    have hlt : ((i : Int) < (Z.length : Int)) = False := eq_false (by omega)
    rw [hd]
    simp only [go_sem, reduceIte, Nat.reduceEqDiff, Nat.reduceAdd, Nat.reduceSub, Nat.reduceLeDiff, Nat.reduceLT, reduceCtorEq, Int.reduceLT, Int.reduceLE, Int.reduceEq, Int.reduceBEq, Int.reduceSub, Int.reduceAdd, Int.reduceMul, Int.reduceNeg, Int.reduceToNat, Nat.reduceMul, Nat.reduceBEq, index_rsl_if, setm, make_ints, condK_dec, wantK_dec, not_dec, and_dec, or_dec, seqK_ite, seqK_none, blockK_ite, blockK_none, opsK_ite, opsK_none, stepK_ite, stepK_none, bodyK_ite, bodyK_none, resK_ite, resK_none, leaveK_ite, leaveK_none, only_ite, only_none, bind_ite, gives_some, gives_none, gives_ite, then_normal, then_ret, then_exit, then_none, then_ite, Option.bind_none, Bool.not_eq_true', decide_eq_false_iff_not, Bool.and_eq_true, Bool.or_eq_true, Option.some.injEq, Int.not_lt, Int.not_le, lp95_1, hlt, len_LA]
    simp

attribute [local go_sem] shaped_t cells_t isAgg_t storable_t okRef_t pub_t

theorem oo_th (X : List (List Nat)) : ((ooT X).length = 0 ∨ ((ooT X).length = 1 ∧ X ≠ [])) := by
  by_cases h : X = []
  · subst h; exact .inl rfl
  · have hl : (X.map oA).length ≠ 0 := by simpa using h
    right
    refine ⟨?_, h⟩
    unfold ooT locT; rw [if_neg hl]; rfl
def crW (w : List Nat) (n m a : Nat) : List (List Nat) := (wys w n (m - 1) [a]).filter (ccP w m a)

theorem loop95_2 (nl : Bool) (n : Nat) (hn : n ≤ 7) (ps : List (Int × Int)) (hps : ps.length < 1000000) (h7 : ∀ p ∈ ps, okP p) (m : Nat) (hm1 : 1 ≤ m) (hm7 : m ≤ 7) (Bd : Nat) (hBd : Bd ≤ 900000) (hZB : ∀ a, (wys (seeL 7 ps) n (m - 1) [a]).length ≤ Bd) (a : Nat) (X : List (List Nat)) (hok : a ≤ n ∧ X.length ≤ a * Bd) (env : Env) (st : St)
    (hg : gcAV true 1 0 (canon env [1, 2, 5, 6]) st = ([(1, I m), (2, .ptr 0 0), (5, ooA X), (6, I a)], ⟨[bkCells nl (n : Int) ps], ooT X⟩)) :
    ∃ x_1 en s, lim (headed pure (run L) true [1, 2, 5, 6] lp95_2 1 0) env st = some (x_1, en, s) ∧ (x_1 = .exit 0 ∧ en.get 5 = ooA (X ++ (List.range' a (n - a)).flatMap (crW (seeL 7 ps) n m)) ∧ s = ⟨[bkCells nl (n : Int) ps], ooT (X ++ (List.range' a (n - a)).flatMap (crW (seeL 7 ps) n m))⟩) := by
  refine loop_wp (α := Nat × List (List Nat)) (fun ⟨a, X⟩ => n - a) (fun ⟨a, X⟩ => a ≤ n ∧ X.length ≤ a * Bd) (fun ⟨a, X⟩ => ([(1, I m), (2, .ptr 0 0), (5, ooA X), (6, I a)], ⟨[bkCells nl (n : Int) ps], ooT X⟩)) (fun ⟨a, X⟩ x_1 en s => x_1 = .exit 0 ∧ en.get 5 = ooA (X ++ (List.range' a (n - a)).flatMap (crW (seeL 7 ps) n m)) ∧ s = ⟨[bkCells nl (n : Int) ps], ooT (X ++ (List.range' a (n - a)).flatMap (crW (seeL 7 ps) n m))⟩) (fun ⟨a, X⟩ hok => ?_) ⟨a, X⟩ hok env st hg
  simp only at hok
  obtain ⟨h1, h2⟩ := hok
  dsimp only at h1 h2 ⊢
  have hb0 : (bkCells nl (n : Int) ps)[0]? = some (I (n : Int)) := rfl
  by_cases h : a < n
  · have hs := succ64 a (by omega)
    have hlt : ((a : Int) < (n : Int)) = True := eq_true (by omega)
    have hr : List.range' a (n - a) = a :: List.range' (a + 1) (n - (a + 1)) := by
      rw [show n - a = (n - (a + 1)) + 1 by omega, List.range'_succ]
    rw [hr, List.flatMap_cons, ← List.append_assoc]
    have hmul : (a + 1) * Bd = a * Bd + Bd := Nat.succ_mul a Bd
    have hxb : a * Bd ≤ 7 * 900000 := Nat.mul_le_mul (by omega) hBd
    have hZ1 := hZB a
    have h78 : ∀ st, run L 78 [bkAV nl (n : Int) ps, .lst .full 1 [J a], I m] st = some (LA (wys (seeL 7 ps) n (m - 1) [a]), st) := fun st => by
      have := c78 nl n hn ps hps h7 (m - 1) [a] (by simp) (by omega) (by simp; omega) st
      rw [List.length_singleton, show 1 + (m - 1) = m by omega] at this
      rw [← this]
      exact run_args (fn := ir78) rfl rfl st rfl
    have hZm : ∀ c ∈ wys (seeL 7 ps) n (m - 1) [a], c.length = m := fun c hc => by
      obtain ⟨s, e, hl⟩ := wys_has _ n (m - 1) [a] c hc
      rw [e, List.length_append, List.length_singleton, hl]; omega
    have hor0 := outOk_ref (ooA_ok X) 1
    have hrr : ∀ acc, ren1 (ooT X).length (ooT X) acc (ooA X) = (ooA X, acc) := fun acc => by
      unfold ooA ooT loc locT
      split
      · rfl
      · simp [ren1]
    have hcw : (wys (seeL 7 ps) n (m - 1) [a]).filter (ccP (seeL 7 ps) m a) = crW (seeL 7 ps) n m a := rfl
    have hcl : (crW (seeL 7 ps) n m a).length ≤ Bd := by
      have := List.length_filter_le (ccP (seeL 7 ps) m a) (wys (seeL 7 ps) n (m - 1) [a])
      unfold crW; omega
    generalize wys (seeL 7 ps) n (m - 1) [a] = Z at *
    simp only [go_sem, reduceIte, Nat.reduceEqDiff, Nat.reduceAdd, Nat.reduceSub, Nat.reduceLeDiff, Nat.reduceLT, reduceCtorEq, Int.reduceLT, Int.reduceLE, Int.reduceEq, Int.reduceBEq, Int.reduceSub, Int.reduceAdd, Int.reduceMul, Int.reduceNeg, Int.reduceToNat, Nat.reduceMul, Nat.reduceBEq, index_rsl_if, setm, make_ints, condK_dec, wantK_dec, not_dec, and_dec, or_dec, seqK_ite, seqK_none, blockK_ite, blockK_none, opsK_ite, opsK_none, stepK_ite, stepK_none, bodyK_ite, bodyK_none, resK_ite, resK_none, leaveK_ite, leaveK_none, only_ite, only_none, bind_ite, gives_some, gives_none, gives_ite, then_normal, then_ret, then_exit, then_none, then_ite, Option.bind_none, Bool.not_eq_true', decide_eq_false_iff_not, Bool.and_eq_true, Bool.or_eq_true, Option.some.injEq, Int.not_lt, Int.not_le, lp95_2, hb0, hlt, hs, h78]
    generalize hg : lim (headed pure (run L) true _ lp95_1 _ _) _ _ = o
    obtain ⟨x, en, s, rfl, h2⟩ : ∃ x en s, o = some (x, en, s) ∧ _ := by rw [← hg]; exact loop95_1 nl (n : Int) ps hps h7 m hm1 (by omega) Z hZm (by omega) a (ooT X).length (X.length) (by omega) 0 X ⟨by omega, oo_th X, by omega⟩ _ _ (by simp only [go_sem, reduceIte, Nat.reduceEqDiff, Nat.reduceAdd, Nat.reduceSub, Nat.reduceLeDiff, Nat.reduceLT, reduceCtorEq, Int.reduceLT, Int.reduceLE, Int.reduceEq, Int.reduceBEq, Int.reduceSub, Int.reduceAdd, Int.reduceMul, Int.reduceNeg, Int.reduceToNat, Nat.reduceMul, Nat.reduceBEq, hor0, hrr, ren1_LA, okRef_LA, List.take_length, Int.natCast_zero] <;> rfl)
    clear hg
    rw [List.drop_zero, hcw] at h2
    obtain ⟨rfl, e1, e2, e5, e6, rfl⟩ := h2
    obtain ⟨q3, hq31, hq32⟩ := oo_ren (X ++ crW (seeL 7 ps) n m a) 0 (.inl rfl)
    rw [List.take_zero, List.nil_append] at hq32
    have hor3 := outOk_ref (ooA_ok (X ++ crW (seeL 7 ps) n m a)) 1
    generalize crW (seeL 7 ps) n m a = Y at *
    simp only [go_sem, reduceIte, Nat.reduceEqDiff, Nat.reduceAdd, Nat.reduceSub, Nat.reduceLeDiff, Nat.reduceLT, reduceCtorEq, Int.reduceLT, Int.reduceLE, Int.reduceEq, Int.reduceBEq, Int.reduceSub, Int.reduceAdd, Int.reduceMul, Int.reduceNeg, Int.reduceToNat, Nat.reduceMul, Nat.reduceBEq, index_rsl_if, setm, make_ints, condK_dec, wantK_dec, not_dec, and_dec, or_dec, seqK_ite, seqK_none, blockK_ite, blockK_none, opsK_ite, opsK_none, stepK_ite, stepK_none, bodyK_ite, bodyK_none, resK_ite, resK_none, leaveK_ite, leaveK_none, only_ite, only_none, bind_ite, gives_some, gives_none, gives_ite, then_normal, then_ret, then_exit, then_none, then_ite, Option.bind_none, Bool.not_eq_true', decide_eq_false_iff_not, Bool.and_eq_true, Bool.or_eq_true, Option.some.injEq, Int.not_lt, Int.not_le, lp95_2, hs, e1, e2, e5, e6]
    refine ⟨(a + 1, X ++ Y), by simp only [go_sem, reduceIte, Nat.reduceEqDiff, Nat.reduceAdd, Nat.reduceSub, Nat.reduceLeDiff, Nat.reduceLT, reduceCtorEq, Int.reduceLT, Int.reduceLE, Int.reduceEq, Int.reduceBEq, Int.reduceSub, Int.reduceAdd, Int.reduceMul, Int.reduceNeg, Int.reduceToNat, Nat.reduceMul, Nat.reduceBEq, ren1_locm, loc_tips, locT_eq, hq31, hq32, hor3, e1, e2, e5, e6] <;> rfl, ?_, ?_, fun x en s hq => ?_⟩
    · dsimp only; exact ⟨by omega, by rw [hmul, List.length_append]; omega⟩
    · dsimp only; omega
    · exact hq
  · have hr : n - a = 0 := by omega
    have hlt : ((a : Int) < (n : Int)) = False := eq_false (by omega)
    rw [hr]
    simp only [go_sem, reduceIte, Nat.reduceEqDiff, Nat.reduceAdd, Nat.reduceSub, Nat.reduceLeDiff, Nat.reduceLT, reduceCtorEq, Int.reduceLT, Int.reduceLE, Int.reduceEq, Int.reduceBEq, Int.reduceSub, Int.reduceAdd, Int.reduceMul, Int.reduceNeg, Int.reduceToNat, Nat.reduceMul, Nat.reduceBEq, index_rsl_if, setm, make_ints, condK_dec, wantK_dec, not_dec, and_dec, or_dec, seqK_ite, seqK_none, blockK_ite, blockK_none, opsK_ite, opsK_none, stepK_ite, stepK_none, bodyK_ite, bodyK_none, resK_ite, resK_none, leaveK_ite, leaveK_none, only_ite, only_none, bind_ite, gives_some, gives_none, gives_ite, then_normal, then_ret, then_exit, then_none, then_ite, Option.bind_none, Bool.not_eq_true', decide_eq_false_iff_not, Bool.and_eq_true, Bool.or_eq_true, Option.some.injEq, Int.not_lt, Int.not_le, lp95_2, hb0, hlt]
    simp

/-- The reference's circles of so many words. -/
def crR (w : List Nat) (n m : Nat) : List (List Nat) := (List.range' 0 n).flatMap (crW w n m)
theorem c95 (nl : Bool) (n : Nat) (hn : n ≤ 7) (ps : List (Int × Int)) (hps : ps.length < 1000000) (h7 : ∀ p ∈ ps, okP p) (m : Nat) (hm1 : 1 ≤ m) (hm7 : m ≤ 7) (st : St) :
    run L 95 [bkAV nl (n : Int) ps, I m] st = some (LA (crR (seeL 7 ps) n m), st) := by
  rw [run_pure (fn := ir95) rfl rfl]
  simp only [ir95, go_sem, reduceIte, Nat.reduceEqDiff, Nat.reduceAdd, Nat.reduceSub, Nat.reduceLeDiff, Nat.reduceLT, reduceCtorEq, Int.reduceLT, Int.reduceLE, Int.reduceEq, Int.reduceBEq, Int.reduceSub, Int.reduceAdd, Int.reduceMul, Int.reduceNeg, Int.reduceToNat, Nat.reduceMul, Nat.reduceBEq]
  generalize hg : lim (headed pure (run L) true _ lp95_2 _ _) _ _ = o
  obtain ⟨x, en, s, rfl, h2⟩ : ∃ x en s, o = some (x, en, s) ∧ _ := by rw [← hg]; exact loop95_2 nl n hn ps hps h7 m hm1 hm7 823543 (by omega) (fun a => wys_bound _ hn _ (by omega) _) 0 [] ⟨by omega, by simp⟩ _ _ (by simp only [go_sem, reduceIte, Nat.reduceEqDiff, Nat.reduceAdd, Nat.reduceSub, Nat.reduceLeDiff, Nat.reduceLT, reduceCtorEq, Int.reduceLT, Int.reduceLE, Int.reduceEq, Int.reduceBEq, Int.reduceSub, Int.reduceAdd, Int.reduceMul, Int.reduceNeg, Int.reduceToNat, Nat.reduceMul, Nat.reduceBEq, show ooA [] = .v (.slice none 0 0) from rfl, show ooT [] = [] from rfl, Int.natCast_zero] <;> rfl)
  clear hg
  rw [Nat.sub_zero, List.nil_append] at h2
  obtain ⟨rfl, e5, rfl⟩ := h2
  have hw : (List.range' 0 n).flatMap (crW (seeL 7 ps) n m) = crR (seeL 7 ps) n m := rfl
  rw [hw] at e5 ⊢
  have hok := ooA_ok (crR (seeL 7 ps) n m)
  have hf := fun st => fin_oo hok st
  obtain ⟨z1, z2, z3⟩ := outOk_st hok
  simp only [go_sem, reduceIte, Nat.reduceEqDiff, Nat.reduceAdd, Nat.reduceSub, Nat.reduceLeDiff, Nat.reduceLT, reduceCtorEq, Int.reduceLT, Int.reduceLE, Int.reduceEq, Int.reduceBEq, Int.reduceSub, Int.reduceAdd, Int.reduceMul, Int.reduceNeg, Int.reduceToNat, Nat.reduceMul, Nat.reduceBEq, e5, hf]

/-! ### all circles, shorter ones first -/
def evR (w : List Nat) (n : Nat) (a k : Nat) : List (List Nat) := (List.range' a k).flatMap (crR w n)
theorem crR_len' (w : List Nat) {n : Nat} (hn : n ≤ 7) (m : Nat) (Bd : Nat) (hB : ∀ a, (wys w n (m - 1) [a]).length ≤ Bd) : (crR w n m).length ≤ 7 * Bd := by
  have hs : ∀ l : List Nat, (l.flatMap (crW w n m)).length ≤ l.length * Bd := by
    intro l
    induction l with
    | nil => simp
    | cons x r ih =>
      have h1 := hB x
      have h2 := List.length_filter_le (ccP w m x) (wys w n (m - 1) [x])
      have h3 : (crW w n m x).length ≤ Bd := by unfold crW; omega
      rw [List.flatMap_cons, List.length_append, List.length_cons, Nat.add_mul]; omega
  have h := hs (List.range' 0 n)
  rw [List.length_range'] at h
  have : n * Bd ≤ 7 * Bd := Nat.mul_le_mul_right _ hn
  unfold crR; omega
theorem crR_len (w : List Nat) {n : Nat} (hn : n ≤ 7) (m : Nat) (hm : m ≤ 8) : (crR w n m).length ≤ 6000000 := by
  have h := crR_len' w hn m 850000 (fun a => by have := wys_bound w hn (m - 1) (by omega) [a]; omega)
  omega

theorem loop76_0 (nl : Bool) (n : Nat) (hn : n ≤ 7) (ps : List (Int × Int)) (hps : ps.length < 1000000) (h7 : ∀ p ∈ ps, okP p) (Bd : Nat) (hBd : Bd ≤ 6000000) (hZB : ∀ m, m ≤ 7 → (crR (seeL 7 ps) n m).length ≤ Bd) (m : Nat) (X : List (List Nat)) (hok : 2 ≤ m ∧ m ≤ 8 ∧ X.length ≤ m * Bd) (env : Env) (st : St)
    (hg : gcAV true 1 0 (canon env [1, 3, 4]) st = ([(1, .ptr 0 0), (3, ooA X), (4, I m)], ⟨[bkCells nl (n : Int) ps], ooT X⟩)) :
    ∃ x_1 en s, lim (headed pure (run L) true [1, 3, 4] lp76_0 1 0) env st = some (x_1, en, s) ∧ (x_1 = .exit 0 ∧ ∃ a' T', outOk (X ++ evR (seeL 7 ps) n m (n + 1 - m)) a' T' ∧ en.get 3 = a' ∧ s = ⟨[bkCells nl (n : Int) ps], T'⟩) := by
  refine loop_wp (α := Nat × List (List Nat)) (fun ⟨m, X⟩ => 8 - m) (fun ⟨m, X⟩ => 2 ≤ m ∧ m ≤ 8 ∧ X.length ≤ m * Bd) (fun ⟨m, X⟩ => ([(1, .ptr 0 0), (3, ooA X), (4, I m)], ⟨[bkCells nl (n : Int) ps], ooT X⟩)) (fun ⟨m, X⟩ x_1 en s => x_1 = .exit 0 ∧ ∃ a' T', outOk (X ++ evR (seeL 7 ps) n m (n + 1 - m)) a' T' ∧ en.get 3 = a' ∧ s = ⟨[bkCells nl (n : Int) ps], T'⟩) (fun ⟨m, X⟩ hok => ?_) ⟨m, X⟩ hok env st hg
  simp only at hok
  obtain ⟨h0, h1, h2⟩ := hok
  dsimp only at h0 h1 h2 ⊢
  have hb0 : (bkCells nl (n : Int) ps)[0]? = some (I (n : Int)) := rfl
  by_cases h : m ≤ n
  · have hs := succ64 m (by omega)
    have hlt : ((m : Int) ≤ (n : Int)) = True := eq_true (by omega)
    have hr : evR (seeL 7 ps) n m (n + 1 - m) = crR (seeL 7 ps) n m ++ evR (seeL 7 ps) n (m + 1) (n + 1 - (m + 1)) := by
      unfold evR
      rw [show n + 1 - m = (n + 1 - (m + 1)) + 1 by omega, List.range'_succ, List.flatMap_cons]
    rw [hr, ← List.append_assoc]
    have hmul : (m + 1) * Bd = m * Bd + Bd := Nat.succ_mul m Bd
    have hxb : m * Bd ≤ 8 * 6000000 := Nat.mul_le_mul (by omega) hBd
    have hZ1 := hZB m (by omega)
    have h95 := fun st => c95 nl n hn ps hps h7 m (by omega) (by omega) st
    obtain ⟨a', T', happ, hok'⟩ := outOk_apps (ooA_ok X) (crR (seeL 7 ps) n m) (by omega)
    have hnl : isRsl (LA (crR (seeL 7 ps) n m)) = false := isRsl_LA _
    obtain ⟨q, hq1, hq2⟩ := outOk_ren hok'
    have hor := outOk_ref hok' 1
    generalize crR (seeL 7 ps) n m = Y at *
    simp only [go_sem, reduceIte, Nat.reduceEqDiff, Nat.reduceAdd, Nat.reduceSub, Nat.reduceLeDiff, Nat.reduceLT, reduceCtorEq, Int.reduceLT, Int.reduceLE, Int.reduceEq, Int.reduceBEq, Int.reduceSub, Int.reduceAdd, Int.reduceMul, Int.reduceNeg, Int.reduceToNat, Nat.reduceMul, Nat.reduceBEq, index_rsl_if, setm, make_ints, condK_dec, wantK_dec, not_dec, and_dec, or_dec, seqK_ite, seqK_none, blockK_ite, blockK_none, opsK_ite, opsK_none, stepK_ite, stepK_none, bodyK_ite, bodyK_none, resK_ite, resK_none, leaveK_ite, leaveK_none, only_ite, only_none, bind_ite, gives_some, gives_none, gives_ite, then_normal, then_ret, then_exit, then_none, then_ite, Option.bind_none, Bool.not_eq_true', decide_eq_false_iff_not, Bool.and_eq_true, Bool.or_eq_true, Option.some.injEq, Int.not_lt, Int.not_le, lp76_0, hb0, hlt, hs, h95, hnl, happ, elems_LA]
    refine ⟨(m + 1, X ++ Y), by simp only [go_sem, reduceIte, Nat.reduceEqDiff, Nat.reduceAdd, Nat.reduceSub, Nat.reduceLeDiff, Nat.reduceLT, reduceCtorEq, Int.reduceLT, Int.reduceLE, Int.reduceEq, Int.reduceBEq, Int.reduceSub, Int.reduceAdd, Int.reduceMul, Int.reduceNeg, Int.reduceToNat, Nat.reduceMul, Nat.reduceBEq, ren1_locm, loc_tips, locT_eq, hq1, hq2, hor] <;> rfl, ?_, ?_, fun x en s hq => ?_⟩
    · dsimp only; exact ⟨by omega, by omega, by rw [hmul, List.length_append]; omega⟩
    · dsimp only; omega
    · exact hq
  · have hr : n + 1 - m = 0 := by omega
    have hlt : ((m : Int) ≤ (n : Int)) = False := eq_false (by omega)
    rw [hr]
    simp only [go_sem, reduceIte, Nat.reduceEqDiff, Nat.reduceAdd, Nat.reduceSub, Nat.reduceLeDiff, Nat.reduceLT, reduceCtorEq, Int.reduceLT, Int.reduceLE, Int.reduceEq, Int.reduceBEq, Int.reduceSub, Int.reduceAdd, Int.reduceMul, Int.reduceNeg, Int.reduceToNat, Nat.reduceMul, Nat.reduceBEq, index_rsl_if, setm, make_ints, condK_dec, wantK_dec, not_dec, and_dec, or_dec, seqK_ite, seqK_none, blockK_ite, blockK_none, opsK_ite, opsK_none, stepK_ite, stepK_none, bodyK_ite, bodyK_none, resK_ite, resK_none, leaveK_ite, leaveK_none, only_ite, only_none, bind_ite, gives_some, gives_none, gives_ite, then_normal, then_ret, then_exit, then_none, then_ite, Option.bind_none, Bool.not_eq_true', decide_eq_false_iff_not, Bool.and_eq_true, Bool.or_eq_true, Option.some.injEq, Int.not_lt, Int.not_le, lp76_0, hb0, hlt]
    simpa [evR] using ooA_ok X

/-- All circles of the reference. -/
def evL (w : List Nat) (n : Nat) : List (List Nat) := evR w n 2 (n - 1)
theorem c76 (nl : Bool) (n : Nat) (hn : n ≤ 7) (ps : List (Int × Int)) (hps : ps.length < 1000000) (h7 : ∀ p ∈ ps, okP p) (st : St) : run L 76 [bkAV nl (n : Int) ps] st = some (LA (evL (seeL 7 ps) n), st) := by
  rw [run_pure (fn := ir76) rfl rfl]
  simp only [ir76, go_sem, reduceIte, Nat.reduceEqDiff, Nat.reduceAdd, Nat.reduceSub, Nat.reduceLeDiff, Nat.reduceLT, reduceCtorEq, Int.reduceLT, Int.reduceLE, Int.reduceEq, Int.reduceBEq, Int.reduceSub, Int.reduceAdd, Int.reduceMul, Int.reduceNeg, Int.reduceToNat, Nat.reduceMul, Nat.reduceBEq]
  generalize hg : lim (headed pure (run L) true _ lp76_0 _ _) _ _ = o
  obtain ⟨x, en, s, rfl, h2⟩ : ∃ x en s, o = some (x, en, s) ∧ _ := by rw [← hg]; exact loop76_0 nl n hn ps hps h7 6000000 (by omega) (fun m hm => crR_len _ hn m (by omega)) 2 [] ⟨by omega, by omega, by simp⟩ _ _ (by simp only [go_sem, reduceIte, Nat.reduceEqDiff, Nat.reduceAdd, Nat.reduceSub, Nat.reduceLeDiff, Nat.reduceLT, reduceCtorEq, Int.reduceLT, Int.reduceLE, Int.reduceEq, Int.reduceBEq, Int.reduceSub, Int.reduceAdd, Int.reduceMul, Int.reduceNeg, Int.reduceToNat, Nat.reduceMul, Nat.reduceBEq, show ooA [] = .v (.slice none 0 0) from rfl, show ooT [] = [] from rfl] <;> rfl)
  clear hg
  rw [List.nil_append, show n + 1 - 2 = n - 1 by omega] at h2
  obtain ⟨rfl, a', T', hok, e3, rfl⟩ := h2
  have hw : evR (seeL 7 ps) n 2 (n - 1) = evL (seeL 7 ps) n := rfl
  rw [hw] at hok
  have hf := fun st => fin_oo hok st
  obtain ⟨z1, z2, z3⟩ := outOk_st hok
  simp only [go_sem, reduceIte, Nat.reduceEqDiff, Nat.reduceAdd, Nat.reduceSub, Nat.reduceLeDiff, Nat.reduceLT, reduceCtorEq, Int.reduceLT, Int.reduceLE, Int.reduceEq, Int.reduceBEq, Int.reduceSub, Int.reduceAdd, Int.reduceMul, Int.reduceNeg, Int.reduceToNat, Nat.reduceMul, Nat.reduceBEq, e3, hf]


/-! ### the reference's circles are those that are found -/
def wysF (w : List Nat) : Nat → List Nat → Nat → List (List Nat)
  | 0, c, _ => [c]
  | j + 1, c, free => (bitsL (w.getD (lastW c) 0 &&& free)).flatMap fun x => wysF w j (c ++ [x]) (dfN free (2 ^ x))
theorem filter_flatMap' {α β : Type} (p : β → Bool) (f : α → List β) : ∀ l : List α, (l.flatMap f).filter p = l.flatMap fun x => (f x).filter p
  | [] => rfl
  | x :: r => by rw [List.flatMap_cons, List.flatMap_cons, List.filter_append, filter_flatMap' p f r]
def geP (a : Nat) (c : List Nat) : Bool := c.all fun y => decide (a ≤ y)
theorem getD0_snoc {c : List Nat} (h : 1 ≤ c.length) (x : Nat) : (c ++ [x]).getD 0 0 = c.getD 0 0 := by
  rw [List.getD_eq_getElem?_getD, List.getElem?_append_left (by omega), ← List.getD_eq_getElem?_getD]
theorem wys_free (w : List Nat) {n : Nat} (hn : n ≤ 7) : ∀ (j : Nat) (c : List Nat) (free : Nat), isFree n c free → free < 128 → 1 ≤ c.length → geP (c.getD 0 0) c = true → (wys w n j c).filter (geP (c.getD 0 0)) = wysF w j c free
  | 0, c, free, _, _, _, hg => by
    show [c].filter _ = [c]
    rw [List.filter_cons_of_pos hg]; rfl
  | j + 1, c, free, hf, hfl, h1, hg => by
    show (((List.range' 0 n).flatMap fun x => if x ∉ c ∧ (w.getD (lastW c) 0).testBit x = true then wys w n j (c ++ [x]) else []).filter _) = (bitsL (w.getD (lastW c) 0 &&& free)).flatMap _
    rw [filter_flatMap', bits_range hn (a := 0) (by omega) (fun y hy => by
      rw [Nat.testBit_and, Bool.and_eq_true] at hy
      have := (hf y).1 hy.2; omega), flatMap_filter, Nat.sub_zero]
    refine flatMap_congr' fun x hx => ?_
    rw [List.mem_range'_1] at hx
    by_cases h : x ∉ c ∧ (w.getD (lastW c) 0).testBit x = true
    · rw [if_pos h]
      by_cases hlt : c.getD 0 0 < x
      · have hb : free.testBit x = true := (hf x).2 ⟨hlt, by omega, h.1⟩
        rw [if_pos (by rw [Nat.testBit_and, Bool.and_eq_true]; exact ⟨h.2, hb⟩)]
        have hd := getD0_snoc h1 x
        have := wys_free w hn j (c ++ [x]) (dfN free (2 ^ x)) (free_snoc hf hfl h1 hb) (dfN_lt hfl) (by simp) (by
          rw [hd]
          unfold geP at hg ⊢
          rw [List.all_append, hg, Bool.true_and, List.all_cons, List.all_nil, Bool.and_true, decide_eq_true_iff]
          exact Nat.le_of_lt hlt)
        rw [hd] at this
        exact this
      · rw [if_neg (by
          rw [Nat.testBit_and, Bool.and_eq_true]
          intro hh
          have := (hf x).1 hh.2; omega)]
        have hne : x ≠ c.getD 0 0 := by
          rintro rfl
          apply h.1
          rw [List.getD_eq_getElem?_getD, List.getElem?_eq_getElem (by omega)]
          exact List.getElem_mem (by omega)
        refine filter_nil_of fun y hy => ?_
        obtain ⟨s, e, _⟩ := wys_has w n j (c ++ [x]) y hy
        cases hgy : geP (c.getD 0 0) y
        · rfl
        · unfold geP at hgy
          rw [List.all_eq_true] at hgy
          have := hgy x (by rw [e]; simp)
          rw [decide_eq_true_iff] at this; omega
    · rw [if_neg h, if_neg (by
        rw [Nat.testBit_and, Bool.and_eq_true]
        intro hh
        exact h ⟨((hf x).1 hh.2).2.2, hh.1⟩)]
      rfl
def clP (w : List Nat) (c : List Nat) : Bool := decide (1 < c.length) && (w.getD (lastW c) 0).testBit (c.getD 0 0)
theorem hdR_clP (w c : List Nat) : hdR w c = [c].filter (clP w) := by
  unfold hdR
  by_cases h : 1 < c.length ∧ (w.getD (lastW c) 0).testBit (c.getD 0 0) = true
  · rw [if_pos h, List.filter_cons_of_pos (by unfold clP; rw [Bool.and_eq_true, decide_eq_true_iff]; exact h)]; rfl
  · rw [if_neg h, List.filter_cons_of_neg (by unfold clP; rw [Bool.and_eq_true, decide_eq_true_iff]; exact h)]; rfl
theorem hdR_len (w c : List Nat) (j : Nat) : (hdR w c).filter (fun x => decide (x.length = c.length + j)) = if j = 0 then hdR w c else [] := by
  unfold hdR
  split
  · by_cases hj : j = 0
    · subst hj; simp
    · rw [if_neg hj, List.filter_cons_of_neg (by simp; omega)]; rfl
  · split <;> rfl
theorem rg_ge {w : List Nat} {k : Nat} {c : List Nat} {free : Nat} (h1 : (bitsL free).length ≤ k) (h2 : free < 128) (h3 : c ≠ []) : ∀ x ∈ rg w k c free, c.length ≤ x.length := by
  intro x hx
  obtain ⟨s, e, _⟩ := (rg_iff w k c free h1 h2 h3 x).1 hx
  rw [e, List.length_append]; omega
theorem rg_wys (w : List Nat) : ∀ (k : Nat) (c : List Nat) (free : Nat) (j : Nat), (bitsL free).length ≤ k → free < 128 → c ≠ [] → (rg w k c free).filter (fun x => decide (x.length = c.length + j)) = (wysF w j c free).filter (clP w)
  | 0, c, free, j, hk, hf, hc => by
    have h0 := bits_nil hf (by omega)
    subst h0
    show (hdR w c).filter _ = _
    rw [hdR_len]
    cases j with
    | zero => rw [if_pos rfl, hdR_clP]; rfl
    | succ j =>
      rw [if_neg (by omega)]
      show [] = ((bitsL (w.getD (lastW c) 0 &&& 0)).flatMap _).filter _
      rw [Nat.and_zero, bits_zero]; rfl
  | k + 1, c, free, j, hk, hf, hc => by
    have hlt : w.getD (lastW c) 0 &&& free < 128 := Nat.lt_of_le_of_lt Nat.and_le_right hf
    have hmem : ∀ x ∈ bitsL (w.getD (lastW c) 0 &&& free), free.testBit x = true := fun x hx => by
      rw [bits_mem hlt, Nat.testBit_and, Bool.and_eq_true] at hx; exact hx.2
    show (hdR w c ++ (bitsL (w.getD (lastW c) 0 &&& free)).flatMap fun x => rg w k (c ++ [x]) (dfN free (2 ^ x))).filter _ = _
    rw [List.filter_append, hdR_len, filter_flatMap']
    cases j with
    | zero =>
      rw [if_pos rfl, hdR_clP]
      have : (bitsL (w.getD (lastW c) 0 &&& free)).flatMap (fun x => (rg w k (c ++ [x]) (dfN free (2 ^ x))).filter fun x => decide (x.length = c.length + 0)) = [] := by
        rw [List.flatMap_eq_nil_iff]
        intro x hx
        have hcard := df_card hf (hmem x hx)
        refine filter_nil_of fun y hy => ?_
        have := rg_ge (by omega) (dfN_lt hf) (by simp) y hy
        rw [List.length_append, List.length_singleton] at this
        rw [decide_eq_false_iff_not]; omega
      rw [this, List.append_nil]; rfl
    | succ j =>
      rw [if_neg (by omega), List.nil_append]
      show _ = ((bitsL (w.getD (lastW c) 0 &&& free)).flatMap fun x => wysF w j (c ++ [x]) (dfN free (2 ^ x))).filter (clP w)
      rw [filter_flatMap']
      refine flatMap_congr' fun x hx => ?_
      have hcard := df_card hf (hmem x hx)
      have := rg_wys w k (c ++ [x]) (dfN free (2 ^ x)) j (by omega) (dfN_lt hf) (by simp)
      rw [List.length_append, List.length_singleton, show c.length + 1 + j = c.length + (j + 1) by omega] at this
      exact this
theorem minL_le (c : List Nat) : ∀ (l : List Nat) (a : Nat), minL a c l ≤ a
  | [], _ => Nat.le_refl _
  | k :: r, a => Nat.le_trans (minL_le c r _) (Nat.min_le_left _ _)
theorem minL_eq (c : List Nat) (a : Nat) : ∀ (l : List Nat), minL a c l = a ↔ ∀ k ∈ l, a ≤ c.getD k 0
  | [] => by simp [minL]
  | k :: r => by
    have h1 := minL_le c r (min a (c.getD k 0))
    have ih := minL_eq c a r
    show minL (min a (c.getD k 0)) c r = a ↔ _
    constructor
    · intro h
      have h2 : a ≤ c.getD k 0 := by have := Nat.min_le_right a (c.getD k 0); omega
      rw [Nat.min_eq_left h2] at h
      intro j hj
      rcases List.mem_cons.1 hj with rfl | hj
      · exact h2
      · exact ih.1 h j hj
    · intro h
      have h2 := h k (by simp)
      rw [Nat.min_eq_left h2]
      exact ih.2 fun j hj => h j (by simp [hj])
theorem crW_rg (w : List Nat) {n m a : Nat} (hn : n ≤ 7) (ha : a < n) (hm : 2 ≤ m) : crW w n m a = (rg w 7 [a] (frN n a)).filter fun x => decide (x.length = m) := by
  have hcard := frN_card hn ha
  have h1 := wys_free w hn (m - 1) [a] (frN n a) (fr_free hn ha) (frN_lt hn) (by simp) (by simp [geP])
  have h2 := rg_wys w 7 [a] (frN n a) (m - 1) (by omega) (frN_lt hn) (by simp)
  rw [List.length_singleton, show 1 + (m - 1) = m by omega] at h2
  rw [h2, ← h1]
  have e : [a].getD 0 0 = a := rfl
  rw [e, List.filter_filter]
  unfold crW
  apply List.filter_congr
  intro x hx
  obtain ⟨s, ex, hs⟩ := wys_has w n (m - 1) [a] x hx
  have hl : x.length = m := by rw [ex, List.length_append, List.length_singleton, hs]; omega
  have h0 : x.getD 0 0 = a := by rw [ex]; rfl
  unfold ccP clP
  have e1 : x.getD (m - 1) 0 = lastW x := by unfold lastW; rw [hl]
  rw [e1, h0, hl]
  have e2 : decide (minL a x (List.range' 0 m) = a) = geP a x := by
    rw [Bool.eq_iff_iff, decide_eq_true_iff, minL_eq]
    unfold geP
    rw [List.all_eq_true]
    constructor
    · intro h y hy
      obtain ⟨i, hi, rfl⟩ := List.getElem_of_mem hy
      have := h i (by rw [List.mem_range'_1]; omega)
      rw [List.getD_eq_getElem?_getD, List.getElem?_eq_getElem hi] at this
      exact decide_eq_true this
    · intro h k hk
      rw [List.mem_range'_1] at hk
      have := h (x[k]'(by omega)) (List.getElem_mem _)
      rw [decide_eq_true_iff] at this
      rw [List.getD_eq_getElem?_getD, List.getElem?_eq_getElem (by omega)]
      exact this
  rw [e2, decide_eq_true (show 1 < m by omega), Bool.true_and, Bool.and_comm]
theorem crR_eq (w : List Nat) {n m : Nat} (hn : n ≤ 7) (hm : 2 ≤ m) : crR w n m = (circL n w).filter fun x => decide (x.length = m) := by
  unfold crR circL
  rw [filter_flatMap']
  refine flatMap_congr' fun a ha => ?_
  rw [List.mem_range'_1] at ha
  exact crW_rg w hn (by omega) hm
theorem evL_eq (w : List Nat) {n : Nat} (hn : n ≤ 7) : evL w n = (List.range' 2 (n - 1)).flatMap fun m => (circL n w).filter fun x => decide (x.length = m) := by
  unfold evL evR
  refine flatMap_congr' fun m hm => ?_
  rw [List.mem_range'_1] at hm
  exact crR_eq w hn (by omega)

attribute [local go_sem] shaped_t cells_t isAgg_t storable_t okRef_t pub_t shaped_oA cells_oA storable_oA

theorem evL_facts {n : Int} {ps : List (Int × Int)} (h : chk n ps = 0) : (evL (seeL 7 ps) n.toNat).length ≤ 40000000 ∧ ∀ c ∈ evL (seeL 7 ps) n.toNat, c ∈ allN n ps := by
  obtain ⟨h1, _, _, _, _⟩ := chk_zero h
  have hn : n.toNat ≤ 7 := by omega
  constructor
  · have hs : ∀ l : List Nat, (∀ m ∈ l, m ≤ 7) → (l.flatMap (crR (seeL 7 ps) n.toNat)).length ≤ l.length * 6000000 := by
      intro l
      induction l with
      | nil => intro _; simp
      | cons x r ih =>
        intro hl
        have h1 := crR_len (seeL 7 ps) hn x (by have := hl x (by simp); omega)
        have h2 := ih (fun m hm => hl m (by simp [hm]))
        rw [List.flatMap_cons, List.length_append, List.length_cons, Nat.add_mul]; omega
    have := hs (List.range' 2 (n.toNat - 1)) (fun m hm => by rw [List.mem_range'_1] at hm; omega)
    rw [List.length_range'] at this
    have h3 : (n.toNat - 1) * 6000000 ≤ 6 * 6000000 := Nat.mul_le_mul_right _ (by omega)
    unfold evL evR; omega
  · intro c hc
    rw [evL_eq _ hn] at hc
    obtain ⟨m, _, hc⟩ := List.mem_flatMap.1 hc
    exact (List.mem_filter.1 hc).1
/-! ### the reference's check of an odd circle -/

attribute [local go_sem] shaped_t cells_t isAgg_t storable_t okRef_t pub_t shaped_oA cells_oA storable_oA

/-! ### the reference counts circles on a reference -/
theorem len_oA (c : List Nat) : lenAV (oA c) = some (I c.length) := by unfold oA; rw [len_lst, List.length_map]
theorem index_oA (c : List Nat) (i : Nat) (h : i < c.length) : indexSAV 1 (oA c) (.v (.int .i64 (i : Int))) = some (.eptr (J (c.getD i 0)) 0) := index_lstJ .any c i h

set_option maxHeartbeats 1000000 in
theorem loop83_0 (Z : List (List Nat)) (hZl : Z.length < 100000000) (i : Nat) (hi : i < Z.length) (hc7 : ∀ x ∈ Z[i], x < 7) (hcl : (Z[i]).length ≤ 7) (p q : Nat) (hp : p < 7) (hq7 : q < 7) (Tb : Nat) (hTb : Tb ≤ 1000000000) (k : Nat) (t : Nat) (hok : k ≤ (Z[i]).length ∧ t ≤ Tb + k) (env : Env) (st : St)
    (hg : gcAV true 1 0 (canon env [0, 3, 5, 6, 7]) st = ([(0, LA Z), (3, .ptr 0 0), (5, J t), (6, I i), (7, I k)], ⟨[[J p, J q]], []⟩)) :
    ∃ x_1 en s, lim (headed pure (run L) true [0, 3, 5, 6, 7] lp83_0 1 0) env st = some (x_1, en, s) ∧ (x_1 = .exit 2 ∧ en.get 0 = LA Z ∧ en.get 3 = .ptr 0 0 ∧ en.get 5 = J (t + ((List.range' k ((Z[i]).length - k)).filter fun j => atP Z[i] j == p * 7 + q).length) ∧ en.get 6 = I i ∧ s = ⟨[[J p, J q]], []⟩) := by
  refine loop_wp (α := Nat × Nat) (fun ⟨k, t⟩ => (Z[i]).length - k) (fun ⟨k, t⟩ => k ≤ (Z[i]).length ∧ t ≤ Tb + k) (fun ⟨k, t⟩ => ([(0, LA Z), (3, .ptr 0 0), (5, J t), (6, I i), (7, I k)], ⟨[[J p, J q]], []⟩)) (fun ⟨k, t⟩ x_1 en s => x_1 = .exit 2 ∧ en.get 0 = LA Z ∧ en.get 3 = .ptr 0 0 ∧ en.get 5 = J (t + ((List.range' k ((Z[i]).length - k)).filter fun j => atP Z[i] j == p * 7 + q).length) ∧ en.get 6 = I i ∧ s = ⟨[[J p, J q]], []⟩) (fun ⟨k, t⟩ hok => ?_) ⟨k, t⟩ hok env st hg
  simp only at hok
  obtain ⟨h1, h2⟩ := hok
  dsimp only at h1 h2 ⊢
  have hix := index_LA Z i hi
  generalize Z[i] = c at *
  have hlo := len_oA c
  by_cases h : k < c.length
  · have hs := succ64 k (by omega)
    have hlt : ((k : Int) < (c.length : Int)) = True := eq_true (by omega)
    have hr : List.range' k (c.length - k) = k :: List.range' (k + 1) (c.length - (k + 1)) := by
      rw [show c.length - k = (c.length - (k + 1)) + 1 by omega, List.range'_succ]
    have hmod : (k + 1) % c.length < c.length := Nat.mod_lt _ (by omega)
    have hx := index_oA c k h
    have hy := index_oA c ((k + 1) % c.length) hmod
    have hx7 := getD_lt hc7 k h
    have hy7 := getD_lt hc7 _ hmod
    have htm : (((k + 1 : Nat) : Int)).tmod (c.length : Int) = (((k + 1) % c.length : Nat) : Int) := tmod_nat _ _
    have hz : ((c.length : Int) = 0) = False := eq_false (by omega)
    have hst : IntKind.i64.wrap ((t : Int) + 1) = ((t + 1 : Nat) : Int) := by rw [wrap64] <;> omega
    have hat : atP c k = c.getD k 0 * 7 + c.getD ((k + 1) % c.length) 0 := rfl
    rw [hr]
    generalize c.getD ((k + 1) % c.length) 0 = y at *
    generalize c.getD k 0 = x at *
    by_cases p1 : x = p
    · subst p1
      by_cases p2 : y = q
      · subst p2
        rw [List.filter_cons_of_pos (by rw [hat]; simp), List.length_cons]
        simp only [go_sem, reduceIte, Nat.reduceEqDiff, Nat.reduceAdd, Nat.reduceSub, Nat.reduceLeDiff, Nat.reduceLT, reduceCtorEq, Int.reduceLT, Int.reduceLE, Int.reduceEq, Int.reduceBEq, Int.reduceSub, Int.reduceAdd, Int.reduceMul, Int.reduceNeg, Int.reduceToNat, Nat.reduceMul, Nat.reduceBEq, index_rsl_if, setm, make_ints, condK_dec, wantK_dec, not_dec, and_dec, or_dec, seqK_ite, seqK_none, blockK_ite, blockK_none, opsK_ite, opsK_none, stepK_ite, stepK_none, bodyK_ite, bodyK_none, resK_ite, resK_none, leaveK_ite, leaveK_none, only_ite, only_none, bind_ite, gives_some, gives_none, gives_ite, then_normal, then_ret, then_exit, then_none, then_ite, Option.bind_none, Bool.not_eq_true', decide_eq_false_iff_not, Bool.and_eq_true, Bool.or_eq_true, Option.some.injEq, Int.not_lt, Int.not_le, lp83_0, hix, hlo, hx, hy, htm, hz, hlt, hs, hst, len_LA]
        refine ⟨(k + 1, t + 1), by simp only [go_sem, reduceIte, Nat.reduceEqDiff, Nat.reduceAdd, Nat.reduceSub, Nat.reduceLeDiff, Nat.reduceLT, reduceCtorEq, Int.reduceLT, Int.reduceLE, Int.reduceEq, Int.reduceBEq, Int.reduceSub, Int.reduceAdd, Int.reduceMul, Int.reduceNeg, Int.reduceToNat, Nat.reduceMul, Nat.reduceBEq, ren1_locm, loc_tips, locT_eq, ren1_LA, okRef_LA] <;> rfl, ?_, ?_, fun x en s hq => ?_⟩
        · dsimp only; omega
        · dsimp only; omega
        · rw [show ∀ a : Nat, t + (a + 1) = t + 1 + a from fun a => by omega]; exact hq
      · have q2 : (((y : Nat) : Int) = (q : Int)) = False := eq_false (by omega)
        rw [List.filter_cons_of_neg (by rw [hat]; simp; omega)]
        simp only [go_sem, reduceIte, Nat.reduceEqDiff, Nat.reduceAdd, Nat.reduceSub, Nat.reduceLeDiff, Nat.reduceLT, reduceCtorEq, Int.reduceLT, Int.reduceLE, Int.reduceEq, Int.reduceBEq, Int.reduceSub, Int.reduceAdd, Int.reduceMul, Int.reduceNeg, Int.reduceToNat, Nat.reduceMul, Nat.reduceBEq, index_rsl_if, setm, make_ints, condK_dec, wantK_dec, not_dec, and_dec, or_dec, seqK_ite, seqK_none, blockK_ite, blockK_none, opsK_ite, opsK_none, stepK_ite, stepK_none, bodyK_ite, bodyK_none, resK_ite, resK_none, leaveK_ite, leaveK_none, only_ite, only_none, bind_ite, gives_some, gives_none, gives_ite, then_normal, then_ret, then_exit, then_none, then_ite, Option.bind_none, Bool.not_eq_true', decide_eq_false_iff_not, Bool.and_eq_true, Bool.or_eq_true, Option.some.injEq, Int.not_lt, Int.not_le, lp83_0, hix, hlo, hx, hy, htm, hz, hlt, hs, q2, len_LA]
        refine ⟨(k + 1, t), by simp only [go_sem, reduceIte, Nat.reduceEqDiff, Nat.reduceAdd, Nat.reduceSub, Nat.reduceLeDiff, Nat.reduceLT, reduceCtorEq, Int.reduceLT, Int.reduceLE, Int.reduceEq, Int.reduceBEq, Int.reduceSub, Int.reduceAdd, Int.reduceMul, Int.reduceNeg, Int.reduceToNat, Nat.reduceMul, Nat.reduceBEq, ren1_locm, loc_tips, locT_eq, ren1_LA, okRef_LA] <;> rfl, ?_, ?_, fun x en s hq => ?_⟩
        · dsimp only; omega
        · dsimp only; omega
        · exact hq
    · have q1 : (((x : Nat) : Int) = (p : Int)) = False := eq_false (by omega)
      rw [List.filter_cons_of_neg (by rw [hat]; simp; omega)]
      simp only [go_sem, reduceIte, Nat.reduceEqDiff, Nat.reduceAdd, Nat.reduceSub, Nat.reduceLeDiff, Nat.reduceLT, reduceCtorEq, Int.reduceLT, Int.reduceLE, Int.reduceEq, Int.reduceBEq, Int.reduceSub, Int.reduceAdd, Int.reduceMul, Int.reduceNeg, Int.reduceToNat, Nat.reduceMul, Nat.reduceBEq, index_rsl_if, setm, make_ints, condK_dec, wantK_dec, not_dec, and_dec, or_dec, seqK_ite, seqK_none, blockK_ite, blockK_none, opsK_ite, opsK_none, stepK_ite, stepK_none, bodyK_ite, bodyK_none, resK_ite, resK_none, leaveK_ite, leaveK_none, only_ite, only_none, bind_ite, gives_some, gives_none, gives_ite, then_normal, then_ret, then_exit, then_none, then_ite, Option.bind_none, Bool.not_eq_true', decide_eq_false_iff_not, Bool.and_eq_true, Bool.or_eq_true, Option.some.injEq, Int.not_lt, Int.not_le, lp83_0, hix, hlo, hx, hlt, hs, q1, len_LA]
      refine ⟨(k + 1, t), by simp only [go_sem, reduceIte, Nat.reduceEqDiff, Nat.reduceAdd, Nat.reduceSub, Nat.reduceLeDiff, Nat.reduceLT, reduceCtorEq, Int.reduceLT, Int.reduceLE, Int.reduceEq, Int.reduceBEq, Int.reduceSub, Int.reduceAdd, Int.reduceMul, Int.reduceNeg, Int.reduceToNat, Nat.reduceMul, Nat.reduceBEq, ren1_locm, loc_tips, locT_eq, ren1_LA, okRef_LA] <;> rfl, ?_, ?_, fun x en s hq => ?_⟩
      · dsimp only; omega
      · dsimp only; omega
      · exact hq
  · have hr : c.length - k = 0 := by omega
    have hlt : ((k : Int) < (c.length : Int)) = False := eq_false (by omega)
    rw [hr]
    simp only [go_sem, reduceIte, Nat.reduceEqDiff, Nat.reduceAdd, Nat.reduceSub, Nat.reduceLeDiff, Nat.reduceLT, reduceCtorEq, Int.reduceLT, Int.reduceLE, Int.reduceEq, Int.reduceBEq, Int.reduceSub, Int.reduceAdd, Int.reduceMul, Int.reduceNeg, Int.reduceToNat, Nat.reduceMul, Nat.reduceBEq, index_rsl_if, setm, make_ints, condK_dec, wantK_dec, not_dec, and_dec, or_dec, seqK_ite, seqK_none, blockK_ite, blockK_none, opsK_ite, opsK_none, stepK_ite, stepK_none, bodyK_ite, bodyK_none, resK_ite, resK_none, leaveK_ite, leaveK_none, only_ite, only_none, bind_ite, gives_some, gives_none, gives_ite, then_normal, then_ret, then_exit, then_none, then_ite, Option.bind_none, Bool.not_eq_true', decide_eq_false_iff_not, Bool.and_eq_true, Bool.or_eq_true, Option.some.injEq, Int.not_lt, Int.not_le, lp83_0, hix, hlo, hlt]
    rfl

theorem thN_cons (c : List Nat) (r : List (List Nat)) (p : Nat) : thN (c :: r) p = cntC c p + thN r p := by unfold thN; rw [List.map_cons, List.sum_cons]

theorem loop83_1 (Z : List (List Nat)) (hZl : Z.length < 100000000) (hZ7 : ∀ c ∈ Z, c.length ≤ 7 ∧ ∀ x ∈ c, x < 7) (p q : Nat) (hp : p < 7) (hq7 : q < 7) (i : Nat) (t : Nat) (hok : i ≤ Z.length ∧ t ≤ 7 * i) (env : Env) (st : St)
    (hg : gcAV true 1 0 (canon env [0, 3, 5, 6]) st = ([(0, LA Z), (3, .ptr 0 0), (5, J t), (6, I i)], ⟨[[J p, J q]], []⟩)) :
    ∃ x_1 en s, lim (headed pure (run L) true [0, 3, 5, 6] lp83_1 1 0) env st = some (x_1, en, s) ∧ (x_1 = .exit 0 ∧ en.get 5 = J (t + thN (Z.drop i) (p * 7 + q))) := by
  refine loop_wp (α := Nat × Nat) (fun ⟨i, t⟩ => Z.length - i) (fun ⟨i, t⟩ => i ≤ Z.length ∧ t ≤ 7 * i) (fun ⟨i, t⟩ => ([(0, LA Z), (3, .ptr 0 0), (5, J t), (6, I i)], ⟨[[J p, J q]], []⟩)) (fun ⟨i, t⟩ x_1 en s => x_1 = .exit 0 ∧ en.get 5 = J (t + thN (Z.drop i) (p * 7 + q))) (fun ⟨i, t⟩ hok => ?_) ⟨i, t⟩ hok env st hg
  simp only at hok
  obtain ⟨h1, h2⟩ := hok
  dsimp only at h1 h2 ⊢
  by_cases h : i < Z.length
  · have hs : IntKind.i64.wrap ((i : Int) + 1) = ((i + 1 : Nat) : Int) := by rw [wrap64] <;> omega
    have hlt : ((i : Int) < (Z.length : Int)) = True := eq_true (by omega)
    have hd : Z.drop i = Z[i] :: Z.drop (i + 1) := List.drop_eq_getElem_cons h
    obtain ⟨hc1, hc2⟩ := hZ7 _ (List.getElem_mem h)
    have hle : cntC Z[i] (p * 7 + q) ≤ 7 := by
      have := List.length_filter_le (fun j => atP Z[i] j == p * 7 + q) (List.range' 0 (Z[i]).length)
      rw [List.length_range'] at this
      unfold cntC; omega
    rw [hd, thN_cons]
    simp only [go_sem, reduceIte, Nat.reduceEqDiff, Nat.reduceAdd, Nat.reduceSub, Nat.reduceLeDiff, Nat.reduceLT, reduceCtorEq, Int.reduceLT, Int.reduceLE, Int.reduceEq, Int.reduceBEq, Int.reduceSub, Int.reduceAdd, Int.reduceMul, Int.reduceNeg, Int.reduceToNat, Nat.reduceMul, Nat.reduceBEq, index_rsl_if, setm, make_ints, condK_dec, wantK_dec, not_dec, and_dec, or_dec, seqK_ite, seqK_none, blockK_ite, blockK_none, opsK_ite, opsK_none, stepK_ite, stepK_none, bodyK_ite, bodyK_none, resK_ite, resK_none, leaveK_ite, leaveK_none, only_ite, only_none, bind_ite, gives_some, gives_none, gives_ite, then_normal, then_ret, then_exit, then_none, then_ite, Option.bind_none, Bool.not_eq_true', decide_eq_false_iff_not, Bool.and_eq_true, Bool.or_eq_true, Option.some.injEq, Int.not_lt, Int.not_le, lp83_1, hlt, hs, len_LA]
    generalize hg : lim (headed pure (run L) true _ lp83_0 _ _) _ _ = o
    obtain ⟨x, en, s, rfl, h2⟩ : ∃ x en s, o = some (x, en, s) ∧ _ := by rw [← hg]; exact loop83_0 Z hZl i h hc2 hc1 p q hp hq7 t (by omega) 0 t ⟨by omega, by omega⟩ _ _ (by simp only [go_sem, reduceIte, Nat.reduceEqDiff, Nat.reduceAdd, Nat.reduceSub, Nat.reduceLeDiff, Nat.reduceLT, reduceCtorEq, Int.reduceLT, Int.reduceLE, Int.reduceEq, Int.reduceBEq, Int.reduceSub, Int.reduceAdd, Int.reduceMul, Int.reduceNeg, Int.reduceToNat, Nat.reduceMul, Nat.reduceBEq, ren1_LA, okRef_LA, Int.natCast_zero] <;> rfl)
    clear hg
    rw [Nat.sub_zero] at h2
    have hcc : ((List.range' 0 (Z[i]).length).filter fun j => atP Z[i] j == p * 7 + q).length = cntC Z[i] (p * 7 + q) := rfl
    rw [hcc] at h2
    obtain ⟨rfl, e0, e3, e5, e6, rfl⟩ := h2
    generalize cntC Z[i] (p * 7 + q) = d at *
    simp only [go_sem, reduceIte, Nat.reduceEqDiff, Nat.reduceAdd, Nat.reduceSub, Nat.reduceLeDiff, Nat.reduceLT, reduceCtorEq, Int.reduceLT, Int.reduceLE, Int.reduceEq, Int.reduceBEq, Int.reduceSub, Int.reduceAdd, Int.reduceMul, Int.reduceNeg, Int.reduceToNat, Nat.reduceMul, Nat.reduceBEq, index_rsl_if, setm, make_ints, condK_dec, wantK_dec, not_dec, and_dec, or_dec, seqK_ite, seqK_none, blockK_ite, blockK_none, opsK_ite, opsK_none, stepK_ite, stepK_none, bodyK_ite, bodyK_none, resK_ite, resK_none, leaveK_ite, leaveK_none, only_ite, only_none, bind_ite, gives_some, gives_none, gives_ite, then_normal, then_ret, then_exit, then_none, then_ite, Option.bind_none, Bool.not_eq_true', decide_eq_false_iff_not, Bool.and_eq_true, Bool.or_eq_true, Option.some.injEq, Int.not_lt, Int.not_le, lp83_1, hs, e0, e3, e5, e6]
    refine ⟨(i + 1, t + d), by simp only [go_sem, reduceIte, Nat.reduceEqDiff, Nat.reduceAdd, Nat.reduceSub, Nat.reduceLeDiff, Nat.reduceLT, reduceCtorEq, Int.reduceLT, Int.reduceLE, Int.reduceEq, Int.reduceBEq, Int.reduceSub, Int.reduceAdd, Int.reduceMul, Int.reduceNeg, Int.reduceToNat, Nat.reduceMul, Nat.reduceBEq, ren1_locm, loc_tips, locT_eq, ren1_LA, okRef_LA, e0, e3, e5, e6] <;> rfl, ?_, ?_, fun x en s hq => ?_⟩
    · dsimp only; omega
    · dsimp only; omega
    · rw [show ∀ a : Nat, t + (d + a) = t + d + a from fun a => by omega]; exact hq
  · have hd : Z.drop i = [] := List.drop_eq_nil_of_le (by omega)
    have hlt : ((i : Int) < (Z.length : Int)) = False := eq_false (by omega)
    rw [hd]
    simp only [go_sem, reduceIte, Nat.reduceEqDiff, Nat.reduceAdd, Nat.reduceSub, Nat.reduceLeDiff, Nat.reduceLT, reduceCtorEq, Int.reduceLT, Int.reduceLE, Int.reduceEq, Int.reduceBEq, Int.reduceSub, Int.reduceAdd, Int.reduceMul, Int.reduceNeg, Int.reduceToNat, Nat.reduceMul, Nat.reduceBEq, index_rsl_if, setm, make_ints, condK_dec, wantK_dec, not_dec, and_dec, or_dec, seqK_ite, seqK_none, blockK_ite, blockK_none, opsK_ite, opsK_none, stepK_ite, stepK_none, bodyK_ite, bodyK_none, resK_ite, resK_none, leaveK_ite, leaveK_none, only_ite, only_none, bind_ite, gives_some, gives_none, gives_ite, then_normal, then_ret, then_exit, then_none, then_ite, Option.bind_none, Bool.not_eq_true', decide_eq_false_iff_not, Bool.and_eq_true, Bool.or_eq_true, Option.some.injEq, Int.not_lt, Int.not_le, lp83_1, hlt, len_LA]
    rfl

theorem c83 (Z : List (List Nat)) (hZl : Z.length < 100000000) (hZ7 : ∀ c ∈ Z, c.length ≤ 7 ∧ ∀ x ∈ c, x < 7) (p q : Nat) (hp : p < 7) (hq7 : q < 7) (st : St) : run L 83 [LA Z, .agg [J p, J q]] st = some (J (thN Z (p * 7 + q)), st) := by
  rw [run_pure (fn := ir83) rfl rfl]
  have hpub : pub (LA Z) = LA Z := pub_sl _ _ _
  simp only [ir83, go_sem, reduceIte, Nat.reduceEqDiff, Nat.reduceAdd, Nat.reduceSub, Nat.reduceLeDiff, Nat.reduceLT, reduceCtorEq, Int.reduceLT, Int.reduceLE, Int.reduceEq, Int.reduceBEq, Int.reduceSub, Int.reduceAdd, Int.reduceMul, Int.reduceNeg, Int.reduceToNat, Nat.reduceMul, Nat.reduceBEq, hpub]
  generalize hg : lim (headed pure (run L) true _ lp83_1 _ _) _ _ = o
  obtain ⟨x, en, s, rfl, h2⟩ : ∃ x en s, o = some (x, en, s) ∧ _ := by rw [← hg]; exact loop83_1 Z hZl hZ7 p q hp hq7 0 0 ⟨by omega, by omega⟩ _ _ (by simp only [go_sem, reduceIte, Nat.reduceEqDiff, Nat.reduceAdd, Nat.reduceSub, Nat.reduceLeDiff, Nat.reduceLT, reduceCtorEq, Int.reduceLT, Int.reduceLE, Int.reduceEq, Int.reduceBEq, Int.reduceSub, Int.reduceAdd, Int.reduceMul, Int.reduceNeg, Int.reduceToNat, Nat.reduceMul, Nat.reduceBEq, ren1_LA, okRef_LA, Int.natCast_zero] <;> rfl)
  clear hg
  rw [List.drop_zero, Nat.zero_add] at h2
  obtain ⟨rfl, e5⟩ := h2
  simp only [go_sem, reduceIte, Nat.reduceEqDiff, Nat.reduceAdd, Nat.reduceSub, Nat.reduceLeDiff, Nat.reduceLT, reduceCtorEq, Int.reduceLT, Int.reduceLE, Int.reduceEq, Int.reduceBEq, Int.reduceSub, Int.reduceAdd, Int.reduceMul, Int.reduceNeg, Int.reduceToNat, Nat.reduceMul, Nat.reduceBEq, e5]
theorem c82 (nl : Bool) (n : Int) (ps : List (Int × Int)) (hps : ps.length < 1000000) (r : Int) (st : St) : run L 82 [bkAV nl n ps, I r] st = some (I (thrE n ps r), st) := by
  rw [run_pure (fn := ir82) rfl rfl]
  have h25 := fun st => c25 nl n ps st
  have h70 := fun st => c70 r 0 ((ps.length : Int) - 1) st
  have hw := wrap64 ((ps.length : Int) - 1) (by omega) (by omega)
  unfold thrE
  by_cases h : chk n ps = 0
  · rw [if_pos h]
    by_cases p1 : r < 0 ∨ (ps.length : Int) ≤ r
    · have q1 : (0 ≤ r ∧ r ≤ (ps.length : Int) - 1) = False := eq_false (by omega)
      rw [if_pos p1]
      simp only [ir82, go_sem, reduceIte, Nat.reduceEqDiff, Nat.reduceAdd, Nat.reduceSub, Nat.reduceLeDiff, Nat.reduceLT, reduceCtorEq, Int.reduceLT, Int.reduceLE, Int.reduceEq, Int.reduceBEq, Int.reduceSub, Int.reduceAdd, Int.reduceMul, Int.reduceNeg, Int.reduceToNat, Nat.reduceMul, Nat.reduceBEq, h25, h, h70, hw, q1, List.length_map]
    · have q1 : (0 ≤ r ∧ r ≤ (ps.length : Int) - 1) = True := eq_true (by omega)
      rw [if_neg p1]
      simp only [ir82, go_sem, reduceIte, Nat.reduceEqDiff, Nat.reduceAdd, Nat.reduceSub, Nat.reduceLeDiff, Nat.reduceLT, reduceCtorEq, Int.reduceLT, Int.reduceLE, Int.reduceEq, Int.reduceBEq, Int.reduceSub, Int.reduceAdd, Int.reduceMul, Int.reduceNeg, Int.reduceToNat, Nat.reduceMul, Nat.reduceBEq, h25, h, h70, hw, q1, List.length_map]
  · rw [if_neg h]
    simp only [ir82, go_sem, reduceIte, Nat.reduceEqDiff, Nat.reduceAdd, Nat.reduceSub, Nat.reduceLeDiff, Nat.reduceLT, reduceCtorEq, Int.reduceLT, Int.reduceLE, Int.reduceEq, Int.reduceBEq, Int.reduceSub, Int.reduceAdd, Int.reduceMul, Int.reduceNeg, Int.reduceToNat, Nat.reduceMul, Nat.reduceBEq, h25, h, List.length_map]

attribute [local go_sem] shaped_t cells_t isAgg_t storable_t okRef_t pub_t shaped_oA cells_oA storable_oA

/-! ### the reference's circles are as many -/
theorem sum_filter_len {α : Type} (f : α → Nat) (g : α → Nat) : ∀ (X : List α) (a k : Nat), (∀ c ∈ X, a ≤ f c ∧ f c < a + k) → (((List.range' a k).flatMap fun m => X.filter fun x => decide (f x = m)).map g).sum = (X.map g).sum
  | X, a, 0, h => by
    have : X = [] := by
      cases X with
      | nil => rfl
      | cons c r => have := h c (by simp); omega
    subst this; rfl
  | X, a, k + 1, h => by
    have ih := sum_filter_len f g (X.filter fun x => !decide (f x = a)) (a + 1) k (fun c hc => by
      obtain ⟨h1, h2⟩ := List.mem_filter.1 hc
      have := h c h1
      simp at h2; omega)
    have hsplit : ∀ X : List α, (X.map g).sum = ((X.filter fun x => decide (f x = a)).map g).sum + ((X.filter fun x => !decide (f x = a)).map g).sum := by
      intro X
      induction X with
      | nil => rfl
      | cons c r ihr =>
        by_cases hc : f c = a
        · rw [List.filter_cons_of_pos (by simpa using hc), List.filter_cons_of_neg (by simpa using hc)]
          simp only [List.map_cons, List.sum_cons, ihr]; omega
        · rw [List.filter_cons_of_neg (by simpa using hc), List.filter_cons_of_pos (by simpa using hc)]
          simp only [List.map_cons, List.sum_cons, ihr]; omega
    rw [List.range'_succ, List.flatMap_cons, List.map_append, List.sum_append, hsplit X, ← ih]
    congr 3
    refine flatMap_congr' fun m hm => ?_
    rw [List.mem_range'_1] at hm
    rw [List.filter_filter]
    apply List.filter_congr
    intro x _
    rw [Bool.eq_iff_iff, Bool.and_eq_true, decide_eq_true_iff, Bool.not_eq_true', decide_eq_false_iff_not]
    omega
theorem ev_sum {n : Nat} (hn : n ≤ 7) (w : List Nat) (g : List Nat → Nat) : ((evL w n).map g).sum = ((circL n w).map g).sum := by
  rw [evL_eq w hn]
  refine sum_filter_len List.length g (circL n w) 2 (n - 1) fun c hc => ?_
  obtain ⟨h1, _, h3, h4⟩ := circ_lt hn c hc
  have := nodup_len_le c (List.range n) h4 (fun x hx => List.mem_range.2 (h3 x hx))
  rw [List.length_range] at this
  omega
theorem ev_th {n : Nat} (hn : n ≤ 7) (w : List Nat) (p : Nat) : thN (evL w n) p = thN (circL n w) p := ev_sum hn w _
theorem ev_len {n : Nat} (hn : n ≤ 7) (w : List Nat) : (evL w n).length = (circL n w).length := by
  have h1 : ∀ l : List (List Nat), (l.map fun _ => 1).sum = l.length := by
    intro l
    induction l with
    | nil => rfl
    | cons x r ih => rw [List.map_cons, List.sum_cons, ih, List.length_cons]; omega
  have := ev_sum hn w fun _ => 1
  rw [h1, h1] at this
  exact this
theorem c37 (nl : Bool) (n : Int) (ps : List (Int × Int)) (st : St) : run L 37 [bkAV nl n ps] st = some (.tup [I (circV n ps), I (chk n ps)], st) := by
  rw [run_pure (fn := ir37) rfl rfl]
  have h25 := fun st => c25 nl n ps st
  unfold circV allN
  by_cases h : chk n ps = 0
  · obtain ⟨h1, hl16, h3, h4, h5⟩ := chk_zero h
    obtain ⟨k, rfl⟩ := Int.eq_ofNat_of_zero_le (show 0 ≤ n by omega)
    rw [if_pos h, Int.toNat_natCast, ← ev_len (by omega)]
    have h76 := fun st => c76 nl k (by omega) ps (by omega) h4 st
    simp only [ir37, go_sem, reduceIte, Nat.reduceEqDiff, Nat.reduceAdd, Nat.reduceSub, Nat.reduceLeDiff, Nat.reduceLT, reduceCtorEq, Int.reduceLT, Int.reduceLE, Int.reduceEq, Int.reduceBEq, Int.reduceSub, Int.reduceAdd, Int.reduceMul, Int.reduceNeg, Int.reduceToNat, Nat.reduceMul, Nat.reduceBEq, h25, h, h76, len_LA]
  · rw [if_neg h]
    simp only [ir37, go_sem, reduceIte, Nat.reduceEqDiff, Nat.reduceAdd, Nat.reduceSub, Nat.reduceLeDiff, Nat.reduceLT, reduceCtorEq, Int.reduceLT, Int.reduceLE, Int.reduceEq, Int.reduceBEq, Int.reduceSub, Int.reduceAdd, Int.reduceMul, Int.reduceNeg, Int.reduceToNat, Nat.reduceMul, Nat.reduceBEq, h25, h]
theorem evZ {n : Int} {ps : List (Int × Int)} (h : chk n ps = 0) : (evL (seeL 7 ps) n.toNat).length < 100000000 ∧ ∀ c ∈ evL (seeL 7 ps) n.toNat, c.length ≤ 7 ∧ ∀ x ∈ c, x < 7 := by
  obtain ⟨f1, f2⟩ := evL_facts h
  obtain ⟨g1, g2⟩ := allN_ok h
  exact ⟨by omega, fun c hc => ⟨(g2 c (f2 c hc)).2.1, (g2 c (f2 c hc)).2.2.1⟩⟩
/-- What `through` answers for a reference of the book. -/
theorem c83r {n : Int} {ps : List (Int × Int)} (h : chk n ps = 0) (k : Nat) (hk : k < ps.length) (st : St) : run L 83 [LA (evL (seeL 7 ps) n.toNat), prAV ps[k]] st = some (J (thN (allN n ps) (refP ps k)), st) := by
  obtain ⟨h1, hl16, h3, h4, h5⟩ := chk_zero h
  obtain ⟨z1, z2⟩ := evZ h
  have hp := h4 ps[k] (List.getElem_mem hk)
  have hrf : refP ps k = ps[k].1.toNat * 7 + ps[k].2.toNat := by
    unfold refP
    rw [List.getD_eq_getElem?_getD, List.getElem?_eq_getElem hk]; rfl
  rw [hrf]
  generalize ps[k] = c at *
  obtain ⟨u, v⟩ := c
  obtain ⟨a1, a2, a3, a4⟩ := hp
  simp only at a1 a2 a3 a4
  obtain ⟨u, rfl⟩ := Int.eq_ofNat_of_zero_le a1
  obtain ⟨v, rfl⟩ := Int.eq_ofNat_of_zero_le a3
  have := c83 _ z1 z2 u v (by omega) (by omega) st
  rw [ev_th (by omega)] at this
  exact this
theorem c39 (nl : Bool) (n : Int) (ps : List (Int × Int)) (hps : ps.length < 1000000) (r : Int) (st : St) : run L 39 [bkAV nl n ps, I r] st = some (.tup [I (thrV n ps r), I (thrE n ps r)], st) := by
  rw [run_pure (fn := ir39) rfl rfl]
  have h82 := fun st => c82 nl n ps hps r st
  by_cases he : thrE n ps r = 0
  · have h : chk n ps = 0 := by
      unfold thrE at he
      split at he
      · assumption
      · exact he
    have hr : ¬(r < 0 ∨ (ps.length : Int) ≤ r) := by
      intro hr
      unfold thrE at he
      rw [if_pos h, if_pos hr] at he
      omega
    obtain ⟨h1, hl16, h3, h4, h5⟩ := chk_zero h
    obtain ⟨k, rfl⟩ := Int.eq_ofNat_of_zero_le (show 0 ≤ r by omega)
    have hk : k < ps.length := by omega
    have hv : thrV n ps (k : Int) = (thN (allN n ps) (refP ps k) : Int) := by
      unfold thrV; rw [if_pos h, if_neg hr, Int.toNat_natCast]
    rw [hv]
    have h83 := fun st => c83r h k hk st
    have hx := index_prs nl ps k hk
    obtain ⟨m, hm⟩ : ∃ m : Nat, n = m := Int.eq_ofNat_of_zero_le (by omega)
    subst hm
    rw [Int.toNat_natCast] at h83
    have h76 := fun st => c76 nl m (by omega) ps (by omega) h4 st
    generalize ps[k] = c at *
    simp only [ir39, go_sem, reduceIte, Nat.reduceEqDiff, Nat.reduceAdd, Nat.reduceSub, Nat.reduceLeDiff, Nat.reduceLT, reduceCtorEq, Int.reduceLT, Int.reduceLE, Int.reduceEq, Int.reduceBEq, Int.reduceSub, Int.reduceAdd, Int.reduceMul, Int.reduceNeg, Int.reduceToNat, Nat.reduceMul, Nat.reduceBEq, h82, he, h76, hx, h83, List.length_map]
  · have hv : thrV n ps r = 0 := by
      unfold thrV
      by_cases h : chk n ps = 0
      · rw [if_pos h, if_pos]
        apply Classical.byContradiction
        intro hr
        apply he
        unfold thrE; rw [if_pos h, if_neg hr]
      · rw [if_neg h]
    rw [hv]
    simp only [ir39, go_sem, reduceIte, Nat.reduceEqDiff, Nat.reduceAdd, Nat.reduceSub, Nat.reduceLeDiff, Nat.reduceLT, reduceCtorEq, Int.reduceLT, Int.reduceLE, Int.reduceEq, Int.reduceBEq, Int.reduceSub, Int.reduceAdd, Int.reduceMul, Int.reduceNeg, Int.reduceToNat, Nat.reduceMul, Nat.reduceBEq, h82, he]

attribute [local go_sem] shaped_t cells_t isAgg_t storable_t okRef_t pub_t shaped_oA cells_oA storable_oA okRef_out storable_out shaped_out cells_out fin_out pub_out

/-! ### the reference's worst reference -/
def rwStep (f : Nat → Nat) (w i : Nat) : Nat := if f w < f i then i else w
def rwL (f : Nat → Nat) (k : Nat) : Nat := (List.range' 1 (k - 1)).foldl (rwStep f) 0
theorem worst_eq (f : Nat → Nat) : ∀ (k i w : Nat), (List.range' i k).foldl (wstep f) (if 0 < f w then ((w : Int), (f w : Int)) else (-1, 0)) = (if 0 < f ((List.range' i k).foldl (rwStep f) w) then ((((List.range' i k).foldl (rwStep f) w : Nat) : Int), (f ((List.range' i k).foldl (rwStep f) w) : Int)) else (-1, 0))
  | 0, _, _ => rfl
  | k + 1, i, w => by
    rw [List.range'_succ, List.foldl_cons, List.foldl_cons]
    have : wstep f (if 0 < f w then ((w : Int), (f w : Int)) else (-1, 0)) i = (if 0 < f (rwStep f w i) then ((rwStep f w i : Int), (f (rwStep f w i) : Int)) else (-1, 0)) := by
      unfold wstep rwStep
      by_cases h1 : 0 < f w
      · rw [if_pos h1]
        by_cases h2 : f w < f i
        · rw [if_pos (show (((w : Int), (f w : Int)) : Int × Int).2 < (f i : Int) by simp; omega), if_pos h2, if_pos (by omega)]
        · rw [if_neg (show ¬(((w : Int), (f w : Int)) : Int × Int).2 < (f i : Int) by simp; omega), if_neg h2, if_pos h1]
      · rw [if_neg h1]
        by_cases h2 : f w < f i
        · rw [if_pos (show (((-1 : Int), (0 : Int)) : Int × Int).2 < (f i : Int) by simp; omega), if_pos h2, if_pos (by omega)]
        · rw [if_neg (show ¬(((-1 : Int), (0 : Int)) : Int × Int).2 < (f i : Int) by simp; omega), if_neg h2, if_neg h1]
    rw [this]
    exact worst_eq f k (i + 1) (rwStep f w i)
theorem rw_max (f : Nat → Nat) : ∀ (k i w : Nat), f w ≤ f ((List.range' i k).foldl (rwStep f) w) ∧ ∀ j, i ≤ j → j < i + k → f j ≤ f ((List.range' i k).foldl (rwStep f) w)
  | 0, _, _ => ⟨Nat.le_refl _, fun j _ _ => by omega⟩
  | k + 1, i, w => by
    rw [List.range'_succ, List.foldl_cons]
    obtain ⟨h1, h2⟩ := rw_max f k (i + 1) (rwStep f w i)
    have h3 : f w ≤ f (rwStep f w i) ∧ f i ≤ f (rwStep f w i) := by unfold rwStep; split <;> omega
    refine ⟨by omega, fun j hj hj2 => ?_⟩
    by_cases e : j = i
    · subst e; omega
    · exact h2 j (by omega) (by omega)
/-- The first reference on the most circles, if there is one on some. -/
theorem worst_rw (n : Int) (ps : List (Int × Int)) (hps : 1 ≤ ps.length) : worstI n ps = if 0 < thN (allN n ps) (refP ps (rwL (fun i => thN (allN n ps) (refP ps i)) ps.length)) then ((rwL (fun i => thN (allN n ps) (refP ps i)) ps.length : Nat) : Int) else -1 := by
  unfold worstI rwL
  have e : List.range' 0 ps.length = 0 :: List.range' 1 (ps.length - 1) := by
    rw [show ps.length = (ps.length - 1) + 1 by omega, List.range'_succ, Nat.add_sub_cancel]
  rw [e, List.foldl_cons]
  generalize hf : (fun i => thN (allN n ps) (refP ps i)) = f
  have h0 : wstep f (-1, 0) 0 = if 0 < f 0 then (((0 : Nat) : Int), (f 0 : Int)) else (-1, 0) := by
    unfold wstep
    by_cases h : 0 < f 0
    · rw [if_pos (show (((-1 : Int), (0 : Int)) : Int × Int).2 < (f 0 : Int) by simp; omega), if_pos h]
    · rw [if_neg (show ¬(((-1 : Int), (0 : Int)) : Int × Int).2 < (f 0 : Int) by simp; omega), if_neg h]
  rw [h0, worst_eq]
  have hfx : ∀ x, f x = thN (allN n ps) (refP ps x) := fun x => by rw [← hf]
  rw [hfx]
  split <;> rfl
/-- A circle lies on some reference. -/
theorem circ_ref {n : Int} {ps : List (Int × Int)} (h : chk n ps = 0) (hne : allN n ps ≠ []) : ∃ k, k < ps.length ∧ 0 < thN (allN n ps) (refP ps k) := by
  obtain ⟨h1, hl16, h3, h4, h5⟩ := chk_zero h
  obtain ⟨c, r, hc⟩ := List.exists_cons_of_ne_nil hne
  have hcm : c ∈ circL n.toNat (seeL 7 ps) := by
    have : c ∈ allN n ps := by rw [hc]; simp
    exact this
  obtain ⟨a, s, e, ha, h6, h7, h8, h9, h10⟩ := (circ_iff (by omega) _ c).1 hcm
  have ⟨b, t, es⟩ : ∃ b t, s = b :: t := by
    cases s with
    | nil => rw [e] at h8; simp at h8
    | cons b t => exact ⟨b, t, rfl⟩
  subst es
  have hj : Jw (seeL 7 ps) a b := by rw [e] at h9; exact h9.1
  unfold Jw at hj
  rw [seeL_bit (Nat.le_refl 7) h4, decide_eq_true_iff] at hj
  obtain ⟨k, hk, hke⟩ := List.getElem_of_mem hj
  refine ⟨k, hk, ?_⟩
  have hrf : refP ps k = a * 7 + b := by
    unfold refP
    rw [List.getD_eq_getElem?_getD, List.getElem?_eq_getElem hk, Option.getD_some, hke]; simp
  rw [hc, thN_cons, hrf]
  have : 0 < cntC c (a * 7 + b) := by
    unfold cntC
    refine List.length_pos_of_mem (a := 0) (List.mem_filter.2 ⟨by rw [List.mem_range'_1]; omega, ?_⟩)
    rw [beq_iff_eq]
    unfold atP
    rw [Nat.mod_eq_of_lt (by omega), e]; rfl
  omega

theorem loop41_0 (nl : Bool) (n : Int) (ps : List (Int × Int)) (hps : ps.length < 1000000) (Z : List (List Nat)) (f : Nat → Nat) (h83 : ∀ k (hk : k < ps.length) st, run L 83 [LA Z, prAV ps[k]] st = some (J (f k), st)) (i : Nat) (w : Nat) (hok : w < ps.length) (env : Env) (st : St)
    (hg : gcAV true 1 0 (canon env [1, 5, 6, 7]) st = ([(1, .ptr 0 0), (5, LA Z), (6, J w), (7, I i)], ⟨[bkCells nl n ps], []⟩)) :
    ∃ x_1 en s, lim (headed pure (run L) true [1, 5, 6, 7] lp41_0 1 0) env st = some (x_1, en, s) ∧ (x_1 = .exit 0 ∧ en.get 6 = J ((List.range' i (ps.length - i)).foldl (rwStep f) w)) := by
  refine loop_wp (α := Nat × Nat) (fun ⟨i, w⟩ => ps.length - i) (fun ⟨i, w⟩ => w < ps.length) (fun ⟨i, w⟩ => ([(1, .ptr 0 0), (5, LA Z), (6, J w), (7, I i)], ⟨[bkCells nl n ps], []⟩)) (fun ⟨i, w⟩ x_1 en s => x_1 = .exit 0 ∧ en.get 6 = J ((List.range' i (ps.length - i)).foldl (rwStep f) w)) (fun ⟨i, w⟩ hok => ?_) ⟨i, w⟩ hok env st hg
  simp only at hok
  dsimp only at hok ⊢
  by_cases h : i < ps.length
  · have hs := succ64 i (by omega)
    have hlt : ((i : Int) < (ps.length : Int)) = True := eq_true (by omega)
    have hr : List.range' i (ps.length - i) = i :: List.range' (i + 1) (ps.length - (i + 1)) := by
      rw [show ps.length - i = (ps.length - (i + 1)) + 1 by omega, List.range'_succ]
    have hx := index_prs nl ps i h
    have hy := index_prs nl ps w hok
    have h1 := h83 i h
    have h2 := h83 w hok
    have hst : rwStep f w i = if f w < f i then i else w := rfl
    rw [hr, List.foldl_cons, hst]
    generalize ps[i] = x at *
    generalize ps[w] = y at *
    by_cases p : f w < f i
    · have q : ((f w : Int) < (f i : Int)) = True := eq_true (by omega)
      rw [if_pos p]
      simp only [go_sem, reduceIte, Nat.reduceEqDiff, Nat.reduceAdd, Nat.reduceSub, Nat.reduceLeDiff, Nat.reduceLT, reduceCtorEq, Int.reduceLT, Int.reduceLE, Int.reduceEq, Int.reduceBEq, Int.reduceSub, Int.reduceAdd, Int.reduceMul, Int.reduceNeg, Int.reduceToNat, Nat.reduceMul, Nat.reduceBEq, index_rsl_if, setm, make_ints, condK_dec, wantK_dec, not_dec, and_dec, or_dec, seqK_ite, seqK_none, blockK_ite, blockK_none, opsK_ite, opsK_none, stepK_ite, stepK_none, bodyK_ite, bodyK_none, resK_ite, resK_none, leaveK_ite, leaveK_none, only_ite, only_none, bind_ite, gives_some, gives_none, gives_ite, then_normal, then_ret, then_exit, then_none, then_ite, Option.bind_none, Bool.not_eq_true', decide_eq_false_iff_not, Bool.and_eq_true, Bool.or_eq_true, Option.some.injEq, Int.not_lt, Int.not_le, lp41_0, hx, hy, hlt, hs, h1, h2, q, List.length_map]
      refine ⟨(i + 1, i), by simp only [go_sem, reduceIte, Nat.reduceEqDiff, Nat.reduceAdd, Nat.reduceSub, Nat.reduceLeDiff, Nat.reduceLT, reduceCtorEq, Int.reduceLT, Int.reduceLE, Int.reduceEq, Int.reduceBEq, Int.reduceSub, Int.reduceAdd, Int.reduceMul, Int.reduceNeg, Int.reduceToNat, Nat.reduceMul, Nat.reduceBEq, ren1_locm, loc_tips, locT_eq, ren1_LA, okRef_LA] <;> rfl, ?_, ?_, fun x en s hq => ?_⟩
      · dsimp only; exact h
      · dsimp only; omega
      · exact hq
    · have q : ((f w : Int) < (f i : Int)) = False := eq_false (by omega)
      rw [if_neg p]
      simp only [go_sem, reduceIte, Nat.reduceEqDiff, Nat.reduceAdd, Nat.reduceSub, Nat.reduceLeDiff, Nat.reduceLT, reduceCtorEq, Int.reduceLT, Int.reduceLE, Int.reduceEq, Int.reduceBEq, Int.reduceSub, Int.reduceAdd, Int.reduceMul, Int.reduceNeg, Int.reduceToNat, Nat.reduceMul, Nat.reduceBEq, index_rsl_if, setm, make_ints, condK_dec, wantK_dec, not_dec, and_dec, or_dec, seqK_ite, seqK_none, blockK_ite, blockK_none, opsK_ite, opsK_none, stepK_ite, stepK_none, bodyK_ite, bodyK_none, resK_ite, resK_none, leaveK_ite, leaveK_none, only_ite, only_none, bind_ite, gives_some, gives_none, gives_ite, then_normal, then_ret, then_exit, then_none, then_ite, Option.bind_none, Bool.not_eq_true', decide_eq_false_iff_not, Bool.and_eq_true, Bool.or_eq_true, Option.some.injEq, Int.not_lt, Int.not_le, lp41_0, hx, hy, hlt, hs, h1, h2, q, List.length_map]
      refine ⟨(i + 1, w), by simp only [go_sem, reduceIte, Nat.reduceEqDiff, Nat.reduceAdd, Nat.reduceSub, Nat.reduceLeDiff, Nat.reduceLT, reduceCtorEq, Int.reduceLT, Int.reduceLE, Int.reduceEq, Int.reduceBEq, Int.reduceSub, Int.reduceAdd, Int.reduceMul, Int.reduceNeg, Int.reduceToNat, Nat.reduceMul, Nat.reduceBEq, ren1_locm, loc_tips, locT_eq, ren1_LA, okRef_LA] <;> rfl, ?_, ?_, fun x en s hq => ?_⟩
      · dsimp only; exact hok
      · dsimp only; omega
      · exact hq
  · have hr : ps.length - i = 0 := by omega
    have hlt : ((i : Int) < (ps.length : Int)) = False := eq_false (by omega)
    rw [hr]
    simp only [go_sem, reduceIte, Nat.reduceEqDiff, Nat.reduceAdd, Nat.reduceSub, Nat.reduceLeDiff, Nat.reduceLT, reduceCtorEq, Int.reduceLT, Int.reduceLE, Int.reduceEq, Int.reduceBEq, Int.reduceSub, Int.reduceAdd, Int.reduceMul, Int.reduceNeg, Int.reduceToNat, Nat.reduceMul, Nat.reduceBEq, index_rsl_if, setm, make_ints, condK_dec, wantK_dec, not_dec, and_dec, or_dec, seqK_ite, seqK_none, blockK_ite, blockK_none, opsK_ite, opsK_none, stepK_ite, stepK_none, bodyK_ite, bodyK_none, resK_ite, resK_none, leaveK_ite, leaveK_none, only_ite, only_none, bind_ite, gives_some, gives_none, gives_ite, then_normal, then_ret, then_exit, then_none, then_ite, Option.bind_none, Bool.not_eq_true', decide_eq_false_iff_not, Bool.and_eq_true, Bool.or_eq_true, Option.some.injEq, Int.not_lt, Int.not_le, lp41_0, hlt, List.length_map]
    rfl

theorem c41 (nl : Bool) (n : Int) (ps : List (Int × Int)) (hps : ps.length < 1000000) (st : St) : run L 41 [bkAV nl n ps] st = some (.tup [I (worstV n ps), I (worstE n ps)], st) := by
  rw [run_pure (fn := ir41) rfl rfl]
  have h25 := fun st => c25 nl n ps st
  unfold worstV worstE
  by_cases h : chk n ps = 0
  · obtain ⟨h1, hl16, h3, h4, h5⟩ := chk_zero h
    rw [if_pos h, if_pos h]
    have h83 := fun k hk st => c83r h k hk st
    have hel := ev_len (n := n.toNat) (by omega) (seeL 7 ps)
    obtain ⟨m, rfl⟩ : ∃ m : Nat, n = m := Int.eq_ofNat_of_zero_le (by omega)
    rw [Int.toNat_natCast] at h83 hel
    have h76 := fun st => c76 nl m (by omega) ps (by omega) h4 st
    have hall : circL m (seeL 7 ps) = allN (m : Int) ps := by unfold allN; rw [Int.toNat_natCast]
    rw [hall] at hel
    by_cases he : allN (m : Int) ps = []
    · have hw : worstI (m : Int) ps = -1 := by
        by_cases hp : 1 ≤ ps.length
        · rw [worst_rw _ _ hp, he]; rfl
        · have : ps = [] := List.eq_nil_of_length_eq_zero (by omega)
          subst this; rfl
      have hl0 : (((evL (seeL 7 ps) m).length : Int) = 0) = True := eq_true (by rw [hel, he]; rfl)
      rw [hw, if_pos (by omega), if_pos (by omega)]
      simp only [ir41, go_sem, reduceIte, Nat.reduceEqDiff, Nat.reduceAdd, Nat.reduceSub, Nat.reduceLeDiff, Nat.reduceLT, reduceCtorEq, Int.reduceLT, Int.reduceLE, Int.reduceEq, Int.reduceBEq, Int.reduceSub, Int.reduceAdd, Int.reduceMul, Int.reduceNeg, Int.reduceToNat, Nat.reduceMul, Nat.reduceBEq, h25, h, h76, len_LA, hl0]
    · have hpos := List.length_pos_iff.2 he
      have hl0 : (((evL (seeL 7 ps) m).length : Int) = 0) = False := eq_false (by omega)
      obtain ⟨k, hk, hk2⟩ := circ_ref h he
      have hw := worst_rw (m : Int) ps (by omega)
      have hmx := rw_max (fun i => thN (allN (m : Int) ps) (refP ps i)) (ps.length - 1) 1 0
      have hfk : thN (allN (m : Int) ps) (refP ps k) ≤ thN (allN (m : Int) ps) (refP ps (rwL (fun i => thN (allN (m : Int) ps) (refP ps i)) ps.length)) := by
        by_cases hk0 : k = 0
        · subst hk0; exact hmx.1
        · exact hmx.2 k (by omega) (by omega)
      rw [if_pos (by omega)] at hw
      rw [hw, if_neg (by omega), if_neg (by omega)]
      simp only [ir41, go_sem, reduceIte, Nat.reduceEqDiff, Nat.reduceAdd, Nat.reduceSub, Nat.reduceLeDiff, Nat.reduceLT, reduceCtorEq, Int.reduceLT, Int.reduceLE, Int.reduceEq, Int.reduceBEq, Int.reduceSub, Int.reduceAdd, Int.reduceMul, Int.reduceNeg, Int.reduceToNat, Nat.reduceMul, Nat.reduceBEq, h25, h, h76, len_LA, hl0]
      generalize hg : lim (headed pure (run L) true _ lp41_0 _ _) _ _ = o
      obtain ⟨x, en, s, rfl, h2⟩ : ∃ x en s, o = some (x, en, s) ∧ _ := by rw [← hg]; exact loop41_0 nl (m : Int) ps hps (evL (seeL 7 ps) m) (fun i => thN (allN (m : Int) ps) (refP ps i)) h83 1 0 (by omega) _ _ (by simp only [go_sem, reduceIte, Nat.reduceEqDiff, Nat.reduceAdd, Nat.reduceSub, Nat.reduceLeDiff, Nat.reduceLT, reduceCtorEq, Int.reduceLT, Int.reduceLE, Int.reduceEq, Int.reduceBEq, Int.reduceSub, Int.reduceAdd, Int.reduceMul, Int.reduceNeg, Int.reduceToNat, Nat.reduceMul, Nat.reduceBEq, ren1_LA, okRef_LA, Int.natCast_zero] <;> rfl)
      clear hg
      have hR : (List.range' 1 (ps.length - 1)).foldl (rwStep fun i => thN (allN (m : Int) ps) (refP ps i)) 0 = rwL (fun i => thN (allN (m : Int) ps) (refP ps i)) ps.length := rfl
      rw [hR] at h2
      obtain ⟨rfl, e6⟩ := h2
      simp only [go_sem, reduceIte, Nat.reduceEqDiff, Nat.reduceAdd, Nat.reduceSub, Nat.reduceLeDiff, Nat.reduceLT, reduceCtorEq, Int.reduceLT, Int.reduceLE, Int.reduceEq, Int.reduceBEq, Int.reduceSub, Int.reduceAdd, Int.reduceMul, Int.reduceNeg, Int.reduceToNat, Nat.reduceMul, Nat.reduceBEq, e6]
  · rw [if_neg h, if_neg h]
    simp only [ir41, go_sem, reduceIte, Nat.reduceEqDiff, Nat.reduceAdd, Nat.reduceSub, Nat.reduceLeDiff, Nat.reduceLT, reduceCtorEq, Int.reduceLT, Int.reduceLE, Int.reduceEq, Int.reduceBEq, Int.reduceSub, Int.reduceAdd, Int.reduceMul, Int.reduceNeg, Int.reduceToNat, Nat.reduceMul, Nat.reduceBEq, h25, h]

attribute [local go_sem] shaped_t cells_t isAgg_t storable_t okRef_t pub_t shaped_oA cells_oA storable_oA okRef_out storable_out shaped_out cells_out fin_out pub_out

/-! ### the reference's book without a reference -/
def cutTo (ps : List (Int × Int)) (k i : Nat) : List (Int × Int) := if i ≤ k then ps.take i else ps.take k ++ (ps.take i).drop (k + 1)
theorem cutTo_succ {ps : List (Int × Int)} {k i : Nat} (hi : i < ps.length) (hk : k < ps.length) : cutTo ps k (i + 1) = if i = k then cutTo ps k i else cutTo ps k i ++ [ps[i]] := by
  have ht : ps.take (i + 1) = ps.take i ++ [ps[i]] := by rw [List.take_succ_eq_append_getElem hi]
  unfold cutTo
  by_cases h1 : i + 1 ≤ k
  · rw [if_pos h1, if_neg (by omega), if_pos (by omega), ht]
  · by_cases h2 : i = k
    · subst h2
      rw [if_neg h1, if_pos rfl, if_pos (Nat.le_refl _), List.drop_of_length_le (by rw [List.length_take]; omega), List.append_nil]
    · rw [if_neg h1, if_neg h2, if_neg (by omega), ht, List.drop_append_of_le_length (by rw [List.length_take]; omega), List.append_assoc]
theorem cutTo_end {ps : List (Int × Int)} {k : Nat} (hk : k < ps.length) : cutTo ps k ps.length = cutP ps k := by
  unfold cutTo cutP
  rw [if_neg (by omega), List.take_length]

theorem loop43_0 (nl : Bool) (n : Int) (ps : List (Int × Int)) (hps : ps.length < 1000) (k : Nat) (hk : k < ps.length) (i : Nat) (hok : i ≤ ps.length) (env : Env) (st : St)
    (hg : gcAV true 3 0 (canon env [1, 2, 4, 7, 8]) st = ([(1, I k), (2, .ptr 0 0), (4, .ptr 1 0), (7, .ptr 2 0), (8, I i)], ⟨[bkCells nl n ps, [I 0, .v (.slice none 0 0)], [I n, outAV (cutTo ps k i)]], outT (cutTo ps k i)⟩)) :
    ∃ x_1 en s, lim (headed pure (run L) true [1, 2, 4, 7, 8] lp43_0 3 0) env st = some (x_1, en, s) ∧ (x_1 = .exit 0 ∧ en.get 4 = .ptr 1 0 ∧ en.get 7 = .ptr 2 0 ∧ s = ⟨[bkCells nl n ps, [I 0, .v (.slice none 0 0)], [I n, outAV (cutTo ps k ps.length)]], outT (cutTo ps k ps.length)⟩) := by
  refine loop_wp (α := Nat) (fun i => ps.length - i) (fun i => i ≤ ps.length) (fun i => ([(1, I k), (2, .ptr 0 0), (4, .ptr 1 0), (7, .ptr 2 0), (8, I i)], ⟨[bkCells nl n ps, [I 0, .v (.slice none 0 0)], [I n, outAV (cutTo ps k i)]], outT (cutTo ps k i)⟩)) (fun i x_1 en s => x_1 = .exit 0 ∧ en.get 4 = .ptr 1 0 ∧ en.get 7 = .ptr 2 0 ∧ s = ⟨[bkCells nl n ps, [I 0, .v (.slice none 0 0)], [I n, outAV (cutTo ps k ps.length)]], outT (cutTo ps k ps.length)⟩) (fun i hok => ?_) i hok env st hg
  by_cases h : i < ps.length
  · have hs := succ64 i (by omega)
    have hlt : ((i : Int) < (ps.length : Int)) = True := eq_true (by omega)
    have hx := index_prs nl ps i h
    have hsu := cutTo_succ h hk
    by_cases p : i = k
    · have q : ((i : Int) = (k : Int)) = True := eq_true (by omega)
      rw [if_pos p] at hsu
      simp only [go_sem, reduceIte, Nat.reduceEqDiff, Nat.reduceAdd, Nat.reduceSub, Nat.reduceLeDiff, Nat.reduceLT, reduceCtorEq, Int.reduceLT, Int.reduceLE, Int.reduceEq, Int.reduceBEq, Int.reduceSub, Int.reduceAdd, Int.reduceMul, Int.reduceNeg, Int.reduceToNat, Nat.reduceMul, Nat.reduceBEq, index_rsl_if, setm, make_ints, condK_dec, wantK_dec, not_dec, and_dec, or_dec, seqK_ite, seqK_none, blockK_ite, blockK_none, opsK_ite, opsK_none, stepK_ite, stepK_none, bodyK_ite, bodyK_none, resK_ite, resK_none, leaveK_ite, leaveK_none, only_ite, only_none, bind_ite, gives_some, gives_none, gives_ite, then_normal, then_ret, then_exit, then_none, then_ite, Option.bind_none, Bool.not_eq_true', decide_eq_false_iff_not, Bool.and_eq_true, Bool.or_eq_true, Option.some.injEq, Int.not_lt, Int.not_le, lp43_0, hlt, hs, q, List.length_map]
      refine ⟨i + 1, by simp only [go_sem, reduceIte, Nat.reduceEqDiff, Nat.reduceAdd, Nat.reduceSub, Nat.reduceLeDiff, Nat.reduceLT, reduceCtorEq, Int.reduceLT, Int.reduceLE, Int.reduceEq, Int.reduceBEq, Int.reduceSub, Int.reduceAdd, Int.reduceMul, Int.reduceNeg, Int.reduceToNat, Nat.reduceMul, Nat.reduceBEq, ren1_locm, loc_tips, locT_eq, ren1_out, outAcc_snd, hsu] <;> rfl, ?_, ?_, fun x en s hq => ?_⟩
      · omega
      · omega
      · exact hq
    · have q : ((i : Int) = (k : Int)) = False := eq_false (by omega)
      rw [if_neg p] at hsu
      have hcl : (cutTo ps k i).length < 1000 := by
        unfold cutTo
        split
        · rw [List.length_take]; omega
        · rw [List.length_append, List.length_drop, List.length_take, List.length_take]; omega
      have happ := fun S => append_out (cutTo ps k i) ps[i].1 ps[i].2 S hcl
      have hpe : (ps[i].1, ps[i].2) = ps[i] := rfl
      rw [hpe, ← hsu] at happ
      generalize ps[i] = x at *
      simp only [go_sem, reduceIte, Nat.reduceEqDiff, Nat.reduceAdd, Nat.reduceSub, Nat.reduceLeDiff, Nat.reduceLT, reduceCtorEq, Int.reduceLT, Int.reduceLE, Int.reduceEq, Int.reduceBEq, Int.reduceSub, Int.reduceAdd, Int.reduceMul, Int.reduceNeg, Int.reduceToNat, Nat.reduceMul, Nat.reduceBEq, index_rsl_if, setm, make_ints, condK_dec, wantK_dec, not_dec, and_dec, or_dec, seqK_ite, seqK_none, blockK_ite, blockK_none, opsK_ite, opsK_none, stepK_ite, stepK_none, bodyK_ite, bodyK_none, resK_ite, resK_none, leaveK_ite, leaveK_none, only_ite, only_none, bind_ite, gives_some, gives_none, gives_ite, then_normal, then_ret, then_exit, then_none, then_ite, Option.bind_none, Bool.not_eq_true', decide_eq_false_iff_not, Bool.and_eq_true, Bool.or_eq_true, Option.some.injEq, Int.not_lt, Int.not_le, lp43_0, hlt, hs, hx, q, happ, List.length_map]
      refine ⟨i + 1, by simp only [go_sem, reduceIte, Nat.reduceEqDiff, Nat.reduceAdd, Nat.reduceSub, Nat.reduceLeDiff, Nat.reduceLT, reduceCtorEq, Int.reduceLT, Int.reduceLE, Int.reduceEq, Int.reduceBEq, Int.reduceSub, Int.reduceAdd, Int.reduceMul, Int.reduceNeg, Int.reduceToNat, Nat.reduceMul, Nat.reduceBEq, ren1_locm, loc_tips, locT_eq, ren1_out, outAcc_snd] <;> rfl, ?_, ?_, fun x en s hq => ?_⟩
      · omega
      · omega
      · exact hq
  · obtain rfl : i = ps.length := by omega
    have hlt : ((ps.length : Int) < (ps.length : Int)) = False := eq_false (by omega)
    simp only [go_sem, reduceIte, Nat.reduceEqDiff, Nat.reduceAdd, Nat.reduceSub, Nat.reduceLeDiff, Nat.reduceLT, reduceCtorEq, Int.reduceLT, Int.reduceLE, Int.reduceEq, Int.reduceBEq, Int.reduceSub, Int.reduceAdd, Int.reduceMul, Int.reduceNeg, Int.reduceToNat, Nat.reduceMul, Nat.reduceBEq, index_rsl_if, setm, make_ints, condK_dec, wantK_dec, not_dec, and_dec, or_dec, seqK_ite, seqK_none, blockK_ite, blockK_none, opsK_ite, opsK_none, stepK_ite, stepK_none, bodyK_ite, bodyK_none, resK_ite, resK_none, leaveK_ite, leaveK_none, only_ite, only_none, bind_ite, gives_some, gives_none, gives_ite, then_normal, then_ret, then_exit, then_none, then_ite, Option.bind_none, Bool.not_eq_true', decide_eq_false_iff_not, Bool.and_eq_true, Bool.or_eq_true, Option.some.injEq, Int.not_lt, Int.not_le, lp43_0, hlt, List.length_map]

theorem c43 (nl : Bool) (n : Int) (ps : List (Int × Int)) (hps : ps.length < 1000) (r : Int) (st : St) : run L 43 [bkAV nl n ps, I r] st = some (.tup [bkAV true (woN n ps r) (woP n ps r), I (thrE n ps r)], st) := by
  rw [run_pure (fn := ir43) rfl rfl]
  have h82 := fun st => c82 nl n ps (by omega) r st
  by_cases he : thrE n ps r = 0
  · have h : chk n ps = 0 := by
      unfold thrE at he
      split at he
      · assumption
      · exact he
    have hr : ¬(r < 0 ∨ (ps.length : Int) ≤ r) := by
      intro hr
      unfold thrE at he
      rw [if_pos h, if_pos hr] at he
      omega
    obtain ⟨k, rfl⟩ := Int.eq_ofNat_of_zero_le (show 0 ≤ r by omega)
    have hk : k < ps.length := by omega
    have hN : woN n ps (k : Int) = n := by unfold woN; rw [if_pos h, if_neg hr]
    have hP : woP n ps (k : Int) = cutP ps k := by unfold woP; rw [if_pos h, if_neg hr, Int.toNat_natCast]
    rw [hN, hP]
    have hc0 : cutTo ps k 0 = [] := by unfold cutTo; rw [if_pos (Nat.zero_le _)]; rfl
    simp only [ir43, go_sem, reduceIte, Nat.reduceEqDiff, Nat.reduceAdd, Nat.reduceSub, Nat.reduceLeDiff, Nat.reduceLT, reduceCtorEq, Int.reduceLT, Int.reduceLE, Int.reduceEq, Int.reduceBEq, Int.reduceSub, Int.reduceAdd, Int.reduceMul, Int.reduceNeg, Int.reduceToNat, Nat.reduceMul, Nat.reduceBEq, h82, he]
    generalize hg : lim (headed pure (run L) true _ lp43_0 _ _) _ _ = o
    obtain ⟨x, en, s, rfl, h2⟩ : ∃ x en s, o = some (x, en, s) ∧ _ := by rw [← hg]; exact loop43_0 nl n ps hps k hk 0 (by omega) _ _ (by simp only [go_sem, reduceIte, Nat.reduceEqDiff, Nat.reduceAdd, Nat.reduceSub, Nat.reduceLeDiff, Nat.reduceLT, reduceCtorEq, Int.reduceLT, Int.reduceLE, Int.reduceEq, Int.reduceBEq, Int.reduceSub, Int.reduceAdd, Int.reduceMul, Int.reduceNeg, Int.reduceToNat, Nat.reduceMul, Nat.reduceBEq, hc0, show outAV [] = .v (.slice none 0 0) from rfl, show outT [] = [] from rfl, Int.natCast_zero] <;> rfl)
    clear hg
    rw [cutTo_end hk] at h2
    obtain ⟨rfl, e4, e7, rfl⟩ := h2
    simp only [go_sem, reduceIte, Nat.reduceEqDiff, Nat.reduceAdd, Nat.reduceSub, Nat.reduceLeDiff, Nat.reduceLT, reduceCtorEq, Int.reduceLT, Int.reduceLE, Int.reduceEq, Int.reduceBEq, Int.reduceSub, Int.reduceAdd, Int.reduceMul, Int.reduceNeg, Int.reduceToNat, Nat.reduceMul, Nat.reduceBEq, e4, e7]
  · have hN : woN n ps r = 0 := by
      unfold woN
      by_cases h : chk n ps = 0
      · rw [if_pos h, if_pos]
        apply Classical.byContradiction
        intro hr
        apply he
        unfold thrE; rw [if_pos h, if_neg hr]
      · rw [if_neg h]
    have hP : woP n ps r = [] := by
      unfold woP
      by_cases h : chk n ps = 0
      · rw [if_pos h, if_pos]
        apply Classical.byContradiction
        intro hr
        apply he
        unfold thrE; rw [if_pos h, if_neg hr]
      · rw [if_neg h]
    rw [hN, hP]
    simp only [ir43, go_sem, reduceIte, Nat.reduceEqDiff, Nat.reduceAdd, Nat.reduceSub, Nat.reduceLeDiff, Nat.reduceLT, reduceCtorEq, Int.reduceLT, Int.reduceLE, Int.reduceEq, Int.reduceBEq, Int.reduceSub, Int.reduceAdd, Int.reduceMul, Int.reduceNeg, Int.reduceToNat, Nat.reduceMul, Nat.reduceBEq, h82, he]
    rfl
set_option maxHeartbeats 1000000 in
theorem c6 (nl : Bool) (n : Int) (ps : List (Int × Int)) (r : Int) (st : St) : run L 6 [bkAV nl n ps, I r] st = some (B true, st) := by
  rw [run_pure (fn := ir6) rfl rfl]
  by_cases p1 : 40 < ps.length
  · have q1 : ((40 : Int) < (ps.length : Int)) = True := eq_true (by omega)
    simp only [ir6, go_sem, reduceIte, Nat.reduceEqDiff, Nat.reduceAdd, Nat.reduceSub, Nat.reduceLeDiff, Nat.reduceLT, reduceCtorEq, Int.reduceLT, Int.reduceLE, Int.reduceEq, Int.reduceBEq, Int.reduceSub, Int.reduceAdd, Int.reduceMul, Int.reduceNeg, Int.reduceToNat, Nat.reduceMul, Nat.reduceBEq, List.length_map, q1, c17]
  · have q1 : ((40 : Int) < (ps.length : Int)) = False := eq_false (by omega)
    have h36 := fun st => c36 nl n ps st
    have h37 := fun st => c37 nl n ps st
    have h38 := fun st => c38 nl n ps r st
    have h39 := fun st => c39 nl n ps (by omega) r st
    have h40 := fun st => c40 nl n ps st
    have h41 := fun st => c41 nl n ps (by omega) st
    have h42 := fun st => c42 nl n ps r st
    have h43 := fun st => c43 nl n ps (by omega) r st
    have hl : (woP n ps r).length < 1000000 := by
      unfold woP cutP
      split
      · split
        · simp
        · rw [List.length_append, List.length_take, List.length_drop]; omega
      · simp
    have h44 : ∀ st, run L 44 [sl 2 true ((woP n ps r).map prAV), sl 2 true ((woP n ps r).map prAV)] st = some (B true, st) := fun st => by
      have := c44 true true (woP n ps r) (woP n ps r) hl st
      rw [decide_eq_true rfl] at this
      exact this
    generalize woP n ps r = P at *
    generalize circV n ps = e1 at *
    generalize thrV n ps r = e3 at *
    generalize thrE n ps r = e4 at *
    generalize worstV n ps = e5 at *
    generalize worstE n ps = e6 at *
    generalize woN n ps r = e7 at *
    generalize chk n ps = e2 at *
    simp only [ir6, go_sem, reduceIte, Nat.reduceEqDiff, Nat.reduceAdd, Nat.reduceSub, Nat.reduceLeDiff, Nat.reduceLT, reduceCtorEq, Int.reduceLT, Int.reduceLE, Int.reduceEq, Int.reduceBEq, Int.reduceSub, Int.reduceAdd, Int.reduceMul, Int.reduceNeg, Int.reduceToNat, Nat.reduceMul, Nat.reduceBEq, List.length_map, q1, c17, h36, h37, h38, h39, h40, h41, h42, h43, h44]
end Go.Proofs.YtgohohiaaiogcaaDoor.Vm
