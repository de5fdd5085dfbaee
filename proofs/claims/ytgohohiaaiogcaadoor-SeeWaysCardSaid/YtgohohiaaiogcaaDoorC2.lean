/- What is proved: what each function of this program computes, as equations on the evaluator. No condition. -/
import Derived.Test.YtgohohiaaiogcaaDoorC1
import Derived.KernelRfl
import Derived.Test.YtgohohiaaiogcaaDoorS0
set_option linter.all false
namespace Go.Proofs.YtgohohiaaiogcaaDoor.Vm
open Go Go.Ev
set_option maxRecDepth 100000
attribute [local go_sem] cells_any storable_any ren1_any shaped_ptr cells_ptr storable_ptr ren1_ptr shaped_eptr cells_eptr storable_eptr ren1_eptr shaped_rsl cells_rsl storable_rsl ren1_rsl shaped_int cells_int storable_int ren1_int shaped_bool cells_bool storable_bool ren1_bool shaped_nils cells_nils storable_nils ren1_nils shaped_lst cells_lst storable_lst shaped_fn cells_fn storable_fn ren1_fn shaped_ifc cells_ifc storable_ifc ren1_ifc shaped_agg cells_agg storable_agg ren1_agg shaped_tup cells_tup storable_tup ren1_tup shaped_nif cells_nif storable_nif ren1_nif ren1_lany ren1_lfull ren1_lown len_lst len_rsl len_nil load_ptr load_eptr isRsl_lst isRsl_nil isRsl_rsl elems_nil elems_lst elems_sl isRsl_sl body_eq bodyK_normal bodyK_ret resK_some leaveK_some only_some code_skip code_exit code_ret code_ops code_seq code_cond code_block seqK_normal seqK_ret seqK_exit condK_true condK_false blockK_normal blockK_ret blockK_exit opsK_some ops_nil ops_cons wantK_true wantK_false stepK_some pubs pub pub_sl params okRef_loc storable_loc shaped_loc cells_loc isRsl_loc elems_loc len_loc untips untip untip_sl wantedAV setElems withO isAgg_v isAgg_agg isAgg_lst isAgg_ptr isAgg_fn isAgg_ifc isAgg_rsl isAgg_sl isAgg_loc List.replicate_succ List.replicate_zero opAV valAV aval avals ofVal Env.get setD canon gcAV renAll renEnv renStore renCells ren1_sl cutSt okEnv okStore okRefs okRef okRef_sl bin_int bin_bool bin_lst bin_rsl bin_nil bin_agg cellsEq cellEq isShift intOp boolOp min_int max_int beq_int bne resAV tupAV leave_eq fin_sl fin_loc fins fin_v fin_lst fin_agg fin_tup fin_fn storeAV readCells putCells cells_sl shaped_sl storable_sl fieldAddrAV len_sl goI List.getElem?_cons_zero List.getElem?_cons_succ List.getElem?_nil Option.bind_some Option.map_some List.length_cons List.length_nil List.all_cons List.all_nil Bool.and_true Bool.true_and Bool.and_false Bool.false_and and_true true_and and_false false_and Bool.false_eq_true List.set_cons_zero List.set_cons_succ List.append_nil List.nil_append List.cons_append List.take_zero List.take_succ_cons List.take_nil List.drop_zero List.drop_succ_cons List.map_cons List.map_nil decide_true decide_false beq_self_eq_true Bool.not_true Bool.not_false or_true true_or or_false false_or Nat.zero_add Nat.add_zero Nat.le_refl Nat.lt_irrefl decide_eq_true_eq eq_self_iff_true not_true_eq_false not_false_eq_true List.getD_cons_zero code_loop Nat.zero_le Nat.not_lt_zero Bool.true_beq Bool.false_beq beq_true beq_false ge_iff_le gt_iff_lt Lpure pus Option.map_none assert_ifc assert_nil idxA_ptr idxA_eptr idxV_agg Int.cast_ofNat_Int Nat.mul_one Nat.zero_mul Int.toNat_natCast Int.toNat_zero setParts withO2 hasKey eqnil_sl nenil_sl eqnil_loc nenil_loc map_nil_iff okRefs_ints renCells_ints
attribute [local go_sem] shaped_t cells_t isAgg_t storable_t okRef_t pub_t

theorem oo_th (X : List (List Nat)) : ((ooT X).length = 0 ∨ ((ooT X).length = 1 ∧ X ≠ [])) := by
  by_cases h : X = []
  · subst h; exact .inl rfl
  · have hl : (X.map oA).length ≠ 0 := by simpa using h
    right
    refine ⟨?_, h⟩
    unfold ooT locT; rw [if_neg hl]; rfl
def crW (w : List Nat) (n m a : Nat) : List (List Nat) := (wys w n (m - 1) [a]).filter (ccP w m a)

theorem loop95_2 (nl : Bool) (n : Nat) (hn : n ≤ 7) (ps : List (Int × Int)) (hps : ps.length < 1000000) (h7 : ∀ p ∈ ps, okP p) (m : Nat) (hm1 : 1 ≤ m) (hm7 : m ≤ 7) (Bd : Nat) (hBd : Bd ≤ 900000) (hZB : ∀ a, (wys (seeL 7 ps) n (m - 1) [a]).length ≤ Bd) (a : Nat) (X : List (List Nat)) (hok : a ≤ n ∧ X.length ≤ a * Bd) (env : Env) (st : St)
    (hg : gcAV true 1 0 (canon env [1, 2, 5, 6]) st = ([(1, I m), (2, .ptr 0 0), (5, ooA X), (6, I a)], ⟨[bkCells nl (n : Int) ps], ooT X⟩)) :
    ∃ x_1 en s, lim (headed pure (run L) true [1, 2, 5, 6] lp95_2 1 0) env st = some (x_1, en, s) ∧ (x_1 = .exit 0 ∧ en.get 5 = ooA (X ++ (List.range' a (n - a)).flatMap (crW (seeL 7 ps) n m)) ∧ s = ⟨[bkCells nl (n : Int) ps], ooT (X ++ (List.range' a (n - a)).flatMap (crW (seeL 7 ps) n m))⟩) := by
  refine loop_wp (α := Nat × List (List Nat)) (fun ⟨a, X⟩ => n - a) (fun ⟨a, X⟩ => a ≤ n ∧ X.length ≤ a * Bd) (fun ⟨a, X⟩ => ([(1, I m), (2, .ptr 0 0), (5, ooA X), (6, I a)], ⟨[bkCells nl (n : Int) ps], ooT X⟩)) (fun ⟨a, X⟩ x_1 en s => x_1 = .exit 0 ∧ en.get 5 = ooA (X ++ (List.range' a (n - a)).flatMap (crW (seeL 7 ps) n m)) ∧ s = ⟨[bkCells nl (n : Int) ps], ooT (X ++ (List.range' a (n - a)).flatMap (crW (seeL 7 ps) n m))⟩) (fun ⟨a, X⟩ hok => ?_) ⟨a, X⟩ hok env st hg
  simp only at hok
  obtain ⟨h1, h2⟩ := hok
  dsimp only at h1 h2 ⊢
  have hb0 : (bkCells nl (n : Int) ps)[0]? = some (I (n : Int)) := rfl
  by_cases h : a < n
  · have hs := succ64 a (by omega)
    have hlt : ((a : Int) < (n : Int)) = True := eq_true (by omega)
    have hr : List.range' a (n - a) = a :: List.range' (a + 1) (n - (a + 1)) := by
      rw [show n - a = (n - (a + 1)) + 1 by omega, List.range'_succ]
    rw [hr, List.flatMap_cons, ← List.append_assoc]
    have hmul : (a + 1) * Bd = a * Bd + Bd := Nat.succ_mul a Bd
    have hxb : a * Bd ≤ 7 * 900000 := Nat.mul_le_mul (by omega) hBd
    have hZ1 := hZB a
    have h78 : ∀ st, run L 78 [bkAV nl (n : Int) ps, .lst .full 1 [J a], I m] st = some (LA (wys (seeL 7 ps) n (m - 1) [a]), st) := fun st => by
      have := c78 nl n hn ps hps h7 (m - 1) [a] (by simp) (by omega) (by simp; omega) st
      rw [List.length_singleton, show 1 + (m - 1) = m by omega] at this
      rw [← this]
      exact run_args (fn := ir78) rfl rfl st rfl
    have hZm : ∀ c ∈ wys (seeL 7 ps) n (m - 1) [a], c.length = m := fun c hc => by
      obtain ⟨s, e, hl⟩ := wys_has _ n (m - 1) [a] c hc
      rw [e, List.length_append, List.length_singleton, hl]; omega
    have hor0 := outOk_ref (ooA_ok X) 1
    have hrr : ∀ acc, ren1 (ooT X).length (ooT X) acc (ooA X) = (ooA X, acc) := fun acc => by
      unfold ooA ooT loc locT
      split
      · rfl
      · simp [ren1]
    have hcw : (wys (seeL 7 ps) n (m - 1) [a]).filter (ccP (seeL 7 ps) m a) = crW (seeL 7 ps) n m a := rfl
    have hcl : (crW (seeL 7 ps) n m a).length ≤ Bd := by
      have := List.length_filter_le (ccP (seeL 7 ps) m a) (wys (seeL 7 ps) n (m - 1) [a])
      unfold crW; omega
    generalize wys (seeL 7 ps) n (m - 1) [a] = Z at *
    simp only [go_sem, reduceIte, Nat.reduceEqDiff, Nat.reduceAdd, Nat.reduceSub, Nat.reduceLeDiff, Nat.reduceLT, reduceCtorEq, Int.reduceLT, Int.reduceLE, Int.reduceEq, Int.reduceBEq, Int.reduceSub, Int.reduceAdd, Int.reduceMul, Int.reduceNeg, Int.reduceToNat, Nat.reduceMul, Nat.reduceBEq, index_rsl_if, setm, make_ints, condK_dec, wantK_dec, not_dec, and_dec, or_dec, seqK_ite, seqK_none, blockK_ite, blockK_none, opsK_ite, opsK_none, stepK_ite, stepK_none, bodyK_ite, bodyK_none, resK_ite, resK_none, leaveK_ite, leaveK_none, only_ite, only_none, bind_ite, gives_some, gives_none, gives_ite, then_normal, then_ret, then_exit, then_none, then_ite, Option.bind_none, Bool.not_eq_true', decide_eq_false_iff_not, Bool.and_eq_true, Bool.or_eq_true, Option.some.injEq, Int.not_lt, Int.not_le, lp95_2, hb0, hlt, hs, h78]
    generalize hg : lim (headed pure (run L) true _ lp95_1 _ _) _ _ = o
    obtain ⟨x, en, s, rfl, h2⟩ : ∃ x en s, o = some (x, en, s) ∧ _ := by rw [← hg]; exact loop95_1 nl (n : Int) ps hps h7 m hm1 (by omega) Z hZm (by omega) a (ooT X).length (X.length) (by omega) 0 X ⟨by omega, oo_th X, by omega⟩ _ _ (by simp only [go_sem, reduceIte, Nat.reduceEqDiff, Nat.reduceAdd, Nat.reduceSub, Nat.reduceLeDiff, Nat.reduceLT, reduceCtorEq, Int.reduceLT, Int.reduceLE, Int.reduceEq, Int.reduceBEq, Int.reduceSub, Int.reduceAdd, Int.reduceMul, Int.reduceNeg, Int.reduceToNat, Nat.reduceMul, Nat.reduceBEq, hor0, hrr, ren1_LA, okRef_LA, List.take_length, Int.natCast_zero] <;> rfl)
    clear hg
    rw [List.drop_zero, hcw] at h2
    obtain ⟨rfl, e1, e2, e5, e6, rfl⟩ := h2
    obtain ⟨q3, hq31, hq32⟩ := oo_ren (X ++ crW (seeL 7 ps) n m a) 0 (.inl rfl)
    rw [List.take_zero, List.nil_append] at hq32
    have hor3 := outOk_ref (ooA_ok (X ++ crW (seeL 7 ps) n m a)) 1
    generalize crW (seeL 7 ps) n m a = Y at *
    simp only [go_sem, reduceIte, Nat.reduceEqDiff, Nat.reduceAdd, Nat.reduceSub, Nat.reduceLeDiff, Nat.reduceLT, reduceCtorEq, Int.reduceLT, Int.reduceLE, Int.reduceEq, Int.reduceBEq, Int.reduceSub, Int.reduceAdd, Int.reduceMul, Int.reduceNeg, Int.reduceToNat, Nat.reduceMul, Nat.reduceBEq, index_rsl_if, setm, make_ints, condK_dec, wantK_dec, not_dec, and_dec, or_dec, seqK_ite, seqK_none, blockK_ite, blockK_none, opsK_ite, opsK_none, stepK_ite, stepK_none, bodyK_ite, bodyK_none, resK_ite, resK_none, leaveK_ite, leaveK_none, only_ite, only_none, bind_ite, gives_some, gives_none, gives_ite, then_normal, then_ret, then_exit, then_none, then_ite, Option.bind_none, Bool.not_eq_true', decide_eq_false_iff_not, Bool.and_eq_true, Bool.or_eq_true, Option.some.injEq, Int.not_lt, Int.not_le, lp95_2, hs, e1, e2, e5, e6]
    refine ⟨(a + 1, X ++ Y), by simp only [go_sem, reduceIte, Nat.reduceEqDiff, Nat.reduceAdd, Nat.reduceSub, Nat.reduceLeDiff, Nat.reduceLT, reduceCtorEq, Int.reduceLT, Int.reduceLE, Int.reduceEq, Int.reduceBEq, Int.reduceSub, Int.reduceAdd, Int.reduceMul, Int.reduceNeg, Int.reduceToNat, Nat.reduceMul, Nat.reduceBEq, ren1_locm, loc_tips, locT_eq, hq31, hq32, hor3, e1, e2, e5, e6] <;> rfl, ?_, ?_, fun x en s hq => ?_⟩
    · dsimp only; exact ⟨by omega, by rw [hmul, List.length_append]; omega⟩
    · dsimp only; omega
    · exact hq
  · have hr : n - a = 0 := by omega
    have hlt : ((a : Int) < (n : Int)) = False := eq_false (by omega)
    rw [hr]
    simp only [go_sem, reduceIte, Nat.reduceEqDiff, Nat.reduceAdd, Nat.reduceSub, Nat.reduceLeDiff, Nat.reduceLT, reduceCtorEq, Int.reduceLT, Int.reduceLE, Int.reduceEq, Int.reduceBEq, Int.reduceSub, Int.reduceAdd, Int.reduceMul, Int.reduceNeg, Int.reduceToNat, Nat.reduceMul, Nat.reduceBEq, index_rsl_if, setm, make_ints, condK_dec, wantK_dec, not_dec, and_dec, or_dec, seqK_ite, seqK_none, blockK_ite, blockK_none, opsK_ite, opsK_none, stepK_ite, stepK_none, bodyK_ite, bodyK_none, resK_ite, resK_none, leaveK_ite, leaveK_none, only_ite, only_none, bind_ite, gives_some, gives_none, gives_ite, then_normal, then_ret, then_exit, then_none, then_ite, Option.bind_none, Bool.not_eq_true', decide_eq_false_iff_not, Bool.and_eq_true, Bool.or_eq_true, Option.some.injEq, Int.not_lt, Int.not_le, lp95_2, hb0, hlt]
    simp

/-- The reference's circles of so many words. -/
def crR (w : List Nat) (n m : Nat) : List (List Nat) := (List.range' 0 n).flatMap (crW w n m)
theorem c95 (nl : Bool) (n : Nat) (hn : n ≤ 7) (ps : List (Int × Int)) (hps : ps.length < 1000000) (h7 : ∀ p ∈ ps, okP p) (m : Nat) (hm1 : 1 ≤ m) (hm7 : m ≤ 7) (st : St) :
    run L 95 [bkAV nl (n : Int) ps, I m] st = some (LA (crR (seeL 7 ps) n m), st) := by
  rw [run_pure (fn := ir95) rfl rfl]
  simp only [ir95, go_sem, reduceIte, Nat.reduceEqDiff, Nat.reduceAdd, Nat.reduceSub, Nat.reduceLeDiff, Nat.reduceLT, reduceCtorEq, Int.reduceLT, Int.reduceLE, Int.reduceEq, Int.reduceBEq, Int.reduceSub, Int.reduceAdd, Int.reduceMul, Int.reduceNeg, Int.reduceToNat, Nat.reduceMul, Nat.reduceBEq]
  generalize hg : lim (headed pure (run L) true _ lp95_2 _ _) _ _ = o
  obtain ⟨x, en, s, rfl, h2⟩ : ∃ x en s, o = some (x, en, s) ∧ _ := by rw [← hg]; exact loop95_2 nl n hn ps hps h7 m hm1 hm7 823543 (by omega) (fun a => wys_bound _ hn _ (by omega) _) 0 [] ⟨by omega, by simp⟩ _ _ (by simp only [go_sem, reduceIte, Nat.reduceEqDiff, Nat.reduceAdd, Nat.reduceSub, Nat.reduceLeDiff, Nat.reduceLT, reduceCtorEq, Int.reduceLT, Int.reduceLE, Int.reduceEq, Int.reduceBEq, Int.reduceSub, Int.reduceAdd, Int.reduceMul, Int.reduceNeg, Int.reduceToNat, Nat.reduceMul, Nat.reduceBEq, show ooA [] = .v (.slice none 0 0) from rfl, show ooT [] = [] from rfl, Int.natCast_zero] <;> rfl)
  clear hg
  rw [Nat.sub_zero, List.nil_append] at h2
  obtain ⟨rfl, e5, rfl⟩ := h2
  have hw : (List.range' 0 n).flatMap (crW (seeL 7 ps) n m) = crR (seeL 7 ps) n m := rfl
  rw [hw] at e5 ⊢
  have hok := ooA_ok (crR (seeL 7 ps) n m)
  have hf := fun st => fin_oo hok st
  obtain ⟨z1, z2, z3⟩ := outOk_st hok
  simp only [go_sem, reduceIte, Nat.reduceEqDiff, Nat.reduceAdd, Nat.reduceSub, Nat.reduceLeDiff, Nat.reduceLT, reduceCtorEq, Int.reduceLT, Int.reduceLE, Int.reduceEq, Int.reduceBEq, Int.reduceSub, Int.reduceAdd, Int.reduceMul, Int.reduceNeg, Int.reduceToNat, Nat.reduceMul, Nat.reduceBEq, e5, hf]

/-! ### all circles, shorter ones first -/
def evR (w : List Nat) (n : Nat) (a k : Nat) : List (List Nat) := (List.range' a k).flatMap (crR w n)
theorem crR_len' (w : List Nat) {n : Nat} (hn : n ≤ 7) (m : Nat) (Bd : Nat) (hB : ∀ a, (wys w n (m - 1) [a]).length ≤ Bd) : (crR w n m).length ≤ 7 * Bd := by
  have hs : ∀ l : List Nat, (l.flatMap (crW w n m)).length ≤ l.length * Bd := by
    intro l
    induction l with
    | nil => simp
    | cons x r ih =>
      have h1 := hB x
      have h2 := List.length_filter_le (ccP w m x) (wys w n (m - 1) [x])
      have h3 : (crW w n m x).length ≤ Bd := by unfold crW; omega
      rw [List.flatMap_cons, List.length_append, List.length_cons, Nat.add_mul]; omega
  have h := hs (List.range' 0 n)
  rw [List.length_range'] at h
  have : n * Bd ≤ 7 * Bd := Nat.mul_le_mul_right _ hn
  unfold crR; omega
theorem crR_len (w : List Nat) {n : Nat} (hn : n ≤ 7) (m : Nat) (hm : m ≤ 8) : (crR w n m).length ≤ 6000000 := by
  have h := crR_len' w hn m 850000 (fun a => by have := wys_bound w hn (m - 1) (by omega) [a]; omega)
  omega

theorem loop76_0 (nl : Bool) (n : Nat) (hn : n ≤ 7) (ps : List (Int × Int)) (hps : ps.length < 1000000) (h7 : ∀ p ∈ ps, okP p) (Bd : Nat) (hBd : Bd ≤ 6000000) (hZB : ∀ m, m ≤ 7 → (crR (seeL 7 ps) n m).length ≤ Bd) (m : Nat) (X : List (List Nat)) (hok : 2 ≤ m ∧ m ≤ 8 ∧ X.length ≤ m * Bd) (env : Env) (st : St)
    (hg : gcAV true 1 0 (canon env [1, 3, 4]) st = ([(1, .ptr 0 0), (3, ooA X), (4, I m)], ⟨[bkCells nl (n : Int) ps], ooT X⟩)) :
    ∃ x_1 en s, lim (headed pure (run L) true [1, 3, 4] lp76_0 1 0) env st = some (x_1, en, s) ∧ (x_1 = .exit 0 ∧ ∃ a' T', outOk (X ++ evR (seeL 7 ps) n m (n + 1 - m)) a' T' ∧ en.get 3 = a' ∧ s = ⟨[bkCells nl (n : Int) ps], T'⟩) := by
  refine loop_wp (α := Nat × List (List Nat)) (fun ⟨m, X⟩ => 8 - m) (fun ⟨m, X⟩ => 2 ≤ m ∧ m ≤ 8 ∧ X.length ≤ m * Bd) (fun ⟨m, X⟩ => ([(1, .ptr 0 0), (3, ooA X), (4, I m)], ⟨[bkCells nl (n : Int) ps], ooT X⟩)) (fun ⟨m, X⟩ x_1 en s => x_1 = .exit 0 ∧ ∃ a' T', outOk (X ++ evR (seeL 7 ps) n m (n + 1 - m)) a' T' ∧ en.get 3 = a' ∧ s = ⟨[bkCells nl (n : Int) ps], T'⟩) (fun ⟨m, X⟩ hok => ?_) ⟨m, X⟩ hok env st hg
  simp only at hok
  obtain ⟨h0, h1, h2⟩ := hok
  dsimp only at h0 h1 h2 ⊢
  have hb0 : (bkCells nl (n : Int) ps)[0]? = some (I (n : Int)) := rfl
  by_cases h : m ≤ n
  · have hs := succ64 m (by omega)
    have hlt : ((m : Int) ≤ (n : Int)) = True := eq_true (by omega)
    have hr : evR (seeL 7 ps) n m (n + 1 - m) = crR (seeL 7 ps) n m ++ evR (seeL 7 ps) n (m + 1) (n + 1 - (m + 1)) := by
      unfold evR
      rw [show n + 1 - m = (n + 1 - (m + 1)) + 1 by omega, List.range'_succ, List.flatMap_cons]
    rw [hr, ← List.append_assoc]
    have hmul : (m + 1) * Bd = m * Bd + Bd := Nat.succ_mul m Bd
    have hxb : m * Bd ≤ 8 * 6000000 := Nat.mul_le_mul (by omega) hBd
    have hZ1 := hZB m (by omega)
    have h95 := fun st => c95 nl n hn ps hps h7 m (by omega) (by omega) st
    obtain ⟨a', T', happ, hok'⟩ := outOk_apps (ooA_ok X) (crR (seeL 7 ps) n m) (by omega)
    have hnl : isRsl (LA (crR (seeL 7 ps) n m)) = false := isRsl_LA _
    obtain ⟨q, hq1, hq2⟩ := outOk_ren hok'
    have hor := outOk_ref hok' 1
    generalize crR (seeL 7 ps) n m = Y at *
    simp only [go_sem, reduceIte, Nat.reduceEqDiff, Nat.reduceAdd, Nat.reduceSub, Nat.reduceLeDiff, Nat.reduceLT, reduceCtorEq, Int.reduceLT, Int.reduceLE, Int.reduceEq, Int.reduceBEq, Int.reduceSub, Int.reduceAdd, Int.reduceMul, Int.reduceNeg, Int.reduceToNat, Nat.reduceMul, Nat.reduceBEq, index_rsl_if, setm, make_ints, condK_dec, wantK_dec, not_dec, and_dec, or_dec, seqK_ite, seqK_none, blockK_ite, blockK_none, opsK_ite, opsK_none, stepK_ite, stepK_none, bodyK_ite, bodyK_none, resK_ite, resK_none, leaveK_ite, leaveK_none, only_ite, only_none, bind_ite, gives_some, gives_none, gives_ite, then_normal, then_ret, then_exit, then_none, then_ite, Option.bind_none, Bool.not_eq_true', decide_eq_false_iff_not, Bool.and_eq_true, Bool.or_eq_true, Option.some.injEq, Int.not_lt, Int.not_le, lp76_0, hb0, hlt, hs, h95, hnl, happ, elems_LA]
    refine ⟨(m + 1, X ++ Y), by simp only [go_sem, reduceIte, Nat.reduceEqDiff, Nat.reduceAdd, Nat.reduceSub, Nat.reduceLeDiff, Nat.reduceLT, reduceCtorEq, Int.reduceLT, Int.reduceLE, Int.reduceEq, Int.reduceBEq, Int.reduceSub, Int.reduceAdd, Int.reduceMul, Int.reduceNeg, Int.reduceToNat, Nat.reduceMul, Nat.reduceBEq, ren1_locm, loc_tips, locT_eq, hq1, hq2, hor] <;> rfl, ?_, ?_, fun x en s hq => ?_⟩
    · dsimp only; exact ⟨by omega, by omega, by rw [hmul, List.length_append]; omega⟩
    · dsimp only; omega
    · exact hq
  · have hr : n + 1 - m = 0 := by omega
    have hlt : ((m : Int) ≤ (n : Int)) = False := eq_false (by omega)
    rw [hr]
    simp only [go_sem, reduceIte, Nat.reduceEqDiff, Nat.reduceAdd, Nat.reduceSub, Nat.reduceLeDiff, Nat.reduceLT, reduceCtorEq, Int.reduceLT, Int.reduceLE, Int.reduceEq, Int.reduceBEq, Int.reduceSub, Int.reduceAdd, Int.reduceMul, Int.reduceNeg, Int.reduceToNat, Nat.reduceMul, Nat.reduceBEq, index_rsl_if, setm, make_ints, condK_dec, wantK_dec, not_dec, and_dec, or_dec, seqK_ite, seqK_none, blockK_ite, blockK_none, opsK_ite, opsK_none, stepK_ite, stepK_none, bodyK_ite, bodyK_none, resK_ite, resK_none, leaveK_ite, leaveK_none, only_ite, only_none, bind_ite, gives_some, gives_none, gives_ite, then_normal, then_ret, then_exit, then_none, then_ite, Option.bind_none, Bool.not_eq_true', decide_eq_false_iff_not, Bool.and_eq_true, Bool.or_eq_true, Option.some.injEq, Int.not_lt, Int.not_le, lp76_0, hb0, hlt]
    simpa [evR] using ooA_ok X

/-- All circles of the reference. -/
def evL (w : List Nat) (n : Nat) : List (List Nat) := evR w n 2 (n - 1)
theorem c76 (nl : Bool) (n : Nat) (hn : n ≤ 7) (ps : List (Int × Int)) (hps : ps.length < 1000000) (h7 : ∀ p ∈ ps, okP p) (st : St) : run L 76 [bkAV nl (n : Int) ps] st = some (LA (evL (seeL 7 ps) n), st) := by
  rw [run_pure (fn := ir76) rfl rfl]
  simp only [ir76, go_sem, reduceIte, Nat.reduceEqDiff, Nat.reduceAdd, Nat.reduceSub, Nat.reduceLeDiff, Nat.reduceLT, reduceCtorEq, Int.reduceLT, Int.reduceLE, Int.reduceEq, Int.reduceBEq, Int.reduceSub, Int.reduceAdd, Int.reduceMul, Int.reduceNeg, Int.reduceToNat, Nat.reduceMul, Nat.reduceBEq]
  generalize hg : lim (headed pure (run L) true _ lp76_0 _ _) _ _ = o
  obtain ⟨x, en, s, rfl, h2⟩ : ∃ x en s, o = some (x, en, s) ∧ _ := by rw [← hg]; exact loop76_0 nl n hn ps hps h7 6000000 (by omega) (fun m hm => crR_len _ hn m (by omega)) 2 [] ⟨by omega, by omega, by simp⟩ _ _ (by simp only [go_sem, reduceIte, Nat.reduceEqDiff, Nat.reduceAdd, Nat.reduceSub, Nat.reduceLeDiff, Nat.reduceLT, reduceCtorEq, Int.reduceLT, Int.reduceLE, Int.reduceEq, Int.reduceBEq, Int.reduceSub, Int.reduceAdd, Int.reduceMul, Int.reduceNeg, Int.reduceToNat, Nat.reduceMul, Nat.reduceBEq, show ooA [] = .v (.slice none 0 0) from rfl, show ooT [] = [] from rfl] <;> rfl)
  clear hg
  rw [List.nil_append, show n + 1 - 2 = n - 1 by omega] at h2
  obtain ⟨rfl, a', T', hok, e3, rfl⟩ := h2
  have hw : evR (seeL 7 ps) n 2 (n - 1) = evL (seeL 7 ps) n := rfl
  rw [hw] at hok
  have hf := fun st => fin_oo hok st
  obtain ⟨z1, z2, z3⟩ := outOk_st hok
  simp only [go_sem, reduceIte, Nat.reduceEqDiff, Nat.reduceAdd, Nat.reduceSub, Nat.reduceLeDiff, Nat.reduceLT, reduceCtorEq, Int.reduceLT, Int.reduceLE, Int.reduceEq, Int.reduceBEq, Int.reduceSub, Int.reduceAdd, Int.reduceMul, Int.reduceNeg, Int.reduceToNat, Nat.reduceMul, Nat.reduceBEq, e3, hf]


/-! ### the reference's circles are those that are found -/
def wysF (w : List Nat) : Nat → List Nat → Nat → List (List Nat)
  | 0, c, _ => [c]
  | j + 1, c, free => (bitsL (w.getD (lastW c) 0 &&& free)).flatMap fun x => wysF w j (c ++ [x]) (dfN free (2 ^ x))
theorem filter_flatMap' {α β : Type} (p : β → Bool) (f : α → List β) : ∀ l : List α, (l.flatMap f).filter p = l.flatMap fun x => (f x).filter p
  | [] => rfl
  | x :: r => by rw [List.flatMap_cons, List.flatMap_cons, List.filter_append, filter_flatMap' p f r]
def geP (a : Nat) (c : List Nat) : Bool := c.all fun y => decide (a ≤ y)
theorem getD0_snoc {c : List Nat} (h : 1 ≤ c.length) (x : Nat) : (c ++ [x]).getD 0 0 = c.getD 0 0 := by
  rw [List.getD_eq_getElem?_getD, List.getElem?_append_left (by omega), ← List.getD_eq_getElem?_getD]
theorem wys_free (w : List Nat) {n : Nat} (hn : n ≤ 7) : ∀ (j : Nat) (c : List Nat) (free : Nat), isFree n c free → free < 128 → 1 ≤ c.length → geP (c.getD 0 0) c = true → (wys w n j c).filter (geP (c.getD 0 0)) = wysF w j c free
  | 0, c, free, _, _, _, hg => by
    show [c].filter _ = [c]
    rw [List.filter_cons_of_pos hg]; rfl
  | j + 1, c, free, hf, hfl, h1, hg => by
    show (((List.range' 0 n).flatMap fun x => if x ∉ c ∧ (w.getD (lastW c) 0).testBit x = true then wys w n j (c ++ [x]) else []).filter _) = (bitsL (w.getD (lastW c) 0 &&& free)).flatMap _
    rw [filter_flatMap', bits_range hn (a := 0) (by omega) (fun y hy => by
      rw [Nat.testBit_and, Bool.and_eq_true] at hy
      have := (hf y).1 hy.2; omega), flatMap_filter, Nat.sub_zero]
    refine flatMap_congr' fun x hx => ?_
    rw [List.mem_range'_1] at hx
    by_cases h : x ∉ c ∧ (w.getD (lastW c) 0).testBit x = true
    · rw [if_pos h]
      by_cases hlt : c.getD 0 0 < x
      · have hb : free.testBit x = true := (hf x).2 ⟨hlt, by omega, h.1⟩
        rw [if_pos (by rw [Nat.testBit_and, Bool.and_eq_true]; exact ⟨h.2, hb⟩)]
        have hd := getD0_snoc h1 x
        have := wys_free w hn j (c ++ [x]) (dfN free (2 ^ x)) (free_snoc hf hfl h1 hb) (dfN_lt hfl) (by simp) (by
          rw [hd]
          unfold geP at hg ⊢
          rw [List.all_append, hg, Bool.true_and, List.all_cons, List.all_nil, Bool.and_true, decide_eq_true_iff]
          exact Nat.le_of_lt hlt)
        rw [hd] at this
        exact this
      · rw [if_neg (by
          rw [Nat.testBit_and, Bool.and_eq_true]
          intro hh
          have := (hf x).1 hh.2; omega)]
        have hne : x ≠ c.getD 0 0 := by
          rintro rfl
          apply h.1
          rw [List.getD_eq_getElem?_getD, List.getElem?_eq_getElem (by omega)]
          exact List.getElem_mem (by omega)
        refine filter_nil_of fun y hy => ?_
        obtain ⟨s, e, _⟩ := wys_has w n j (c ++ [x]) y hy
        cases hgy : geP (c.getD 0 0) y
        · rfl
        · unfold geP at hgy
          rw [List.all_eq_true] at hgy
          have := hgy x (by rw [e]; simp)
          rw [decide_eq_true_iff] at this; omega
    · rw [if_neg h, if_neg (by
        rw [Nat.testBit_and, Bool.and_eq_true]
        intro hh
        exact h ⟨((hf x).1 hh.2).2.2, hh.1⟩)]
      rfl
def clP (w : List Nat) (c : List Nat) : Bool := decide (1 < c.length) && (w.getD (lastW c) 0).testBit (c.getD 0 0)
theorem hdR_clP (w c : List Nat) : hdR w c = [c].filter (clP w) := by
  unfold hdR
  by_cases h : 1 < c.length ∧ (w.getD (lastW c) 0).testBit (c.getD 0 0) = true
  · rw [if_pos h, List.filter_cons_of_pos (by unfold clP; rw [Bool.and_eq_true, decide_eq_true_iff]; exact h)]; rfl
  · rw [if_neg h, List.filter_cons_of_neg (by unfold clP; rw [Bool.and_eq_true, decide_eq_true_iff]; exact h)]; rfl
theorem hdR_len (w c : List Nat) (j : Nat) : (hdR w c).filter (fun x => decide (x.length = c.length + j)) = if j = 0 then hdR w c else [] := by
  unfold hdR
  split
  · by_cases hj : j = 0
    · subst hj; simp
    · rw [if_neg hj, List.filter_cons_of_neg (by simp; omega)]; rfl
  · split <;> rfl
theorem rg_ge {w : List Nat} {k : Nat} {c : List Nat} {free : Nat} (h1 : (bitsL free).length ≤ k) (h2 : free < 128) (h3 : c ≠ []) : ∀ x ∈ rg w k c free, c.length ≤ x.length := by
  intro x hx
  obtain ⟨s, e, _⟩ := (rg_iff w k c free h1 h2 h3 x).1 hx
  rw [e, List.length_append]; omega
theorem rg_wys (w : List Nat) : ∀ (k : Nat) (c : List Nat) (free : Nat) (j : Nat), (bitsL free).length ≤ k → free < 128 → c ≠ [] → (rg w k c free).filter (fun x => decide (x.length = c.length + j)) = (wysF w j c free).filter (clP w)
  | 0, c, free, j, hk, hf, hc => by
    have h0 := bits_nil hf (by omega)
    subst h0
    show (hdR w c).filter _ = _
    rw [hdR_len]
    cases j with
    | zero => rw [if_pos rfl, hdR_clP]; rfl
    | succ j =>
      rw [if_neg (by omega)]
      show [] = ((bitsL (w.getD (lastW c) 0 &&& 0)).flatMap _).filter _
      rw [Nat.and_zero, bits_zero]; rfl
  | k + 1, c, free, j, hk, hf, hc => by
    have hlt : w.getD (lastW c) 0 &&& free < 128 := Nat.lt_of_le_of_lt Nat.and_le_right hf
    have hmem : ∀ x ∈ bitsL (w.getD (lastW c) 0 &&& free), free.testBit x = true := fun x hx => by
      rw [bits_mem hlt, Nat.testBit_and, Bool.and_eq_true] at hx; exact hx.2
    show (hdR w c ++ (bitsL (w.getD (lastW c) 0 &&& free)).flatMap fun x => rg w k (c ++ [x]) (dfN free (2 ^ x))).filter _ = _
    rw [List.filter_append, hdR_len, filter_flatMap']
    cases j with
    | zero =>
      rw [if_pos rfl, hdR_clP]
      have : (bitsL (w.getD (lastW c) 0 &&& free)).flatMap (fun x => (rg w k (c ++ [x]) (dfN free (2 ^ x))).filter fun x => decide (x.length = c.length + 0)) = [] := by
        rw [List.flatMap_eq_nil_iff]
        intro x hx
        have hcard := df_card hf (hmem x hx)
        refine filter_nil_of fun y hy => ?_
        have := rg_ge (by omega) (dfN_lt hf) (by simp) y hy
        rw [List.length_append, List.length_singleton] at this
        rw [decide_eq_false_iff_not]; omega
      rw [this, List.append_nil]; rfl
    | succ j =>
      rw [if_neg (by omega), List.nil_append]
      show _ = ((bitsL (w.getD (lastW c) 0 &&& free)).flatMap fun x => wysF w j (c ++ [x]) (dfN free (2 ^ x))).filter (clP w)
      rw [filter_flatMap']
      refine flatMap_congr' fun x hx => ?_
      have hcard := df_card hf (hmem x hx)
      have := rg_wys w k (c ++ [x]) (dfN free (2 ^ x)) j (by omega) (dfN_lt hf) (by simp)
      rw [List.length_append, List.length_singleton, show c.length + 1 + j = c.length + (j + 1) by omega] at this
      exact this
theorem minL_le (c : List Nat) : ∀ (l : List Nat) (a : Nat), minL a c l ≤ a
  | [], _ => Nat.le_refl _
  | k :: r, a => Nat.le_trans (minL_le c r _) (Nat.min_le_left _ _)
theorem minL_eq (c : List Nat) (a : Nat) : ∀ (l : List Nat), minL a c l = a ↔ ∀ k ∈ l, a ≤ c.getD k 0
  | [] => by simp [minL]
  | k :: r => by
    have h1 := minL_le c r (min a (c.getD k 0))
    have ih := minL_eq c a r
    show minL (min a (c.getD k 0)) c r = a ↔ _
    constructor
    · intro h
      have h2 : a ≤ c.getD k 0 := by have := Nat.min_le_right a (c.getD k 0); omega
      rw [Nat.min_eq_left h2] at h
      intro j hj
      rcases List.mem_cons.1 hj with rfl | hj
      · exact h2
      · exact ih.1 h j hj
    · intro h
      have h2 := h k (by simp)
      rw [Nat.min_eq_left h2]
      exact ih.2 fun j hj => h j (by simp [hj])
theorem crW_rg (w : List Nat) {n m a : Nat} (hn : n ≤ 7) (ha : a < n) (hm : 2 ≤ m) : crW w n m a = (rg w 7 [a] (frN n a)).filter fun x => decide (x.length = m) := by
  have hcard := frN_card hn ha
  have h1 := wys_free w hn (m - 1) [a] (frN n a) (fr_free hn ha) (frN_lt hn) (by simp) (by simp [geP])
  have h2 := rg_wys w 7 [a] (frN n a) (m - 1) (by omega) (frN_lt hn) (by simp)
  rw [List.length_singleton, show 1 + (m - 1) = m by omega] at h2
  rw [h2, ← h1]
  have e : [a].getD 0 0 = a := rfl
  rw [e, List.filter_filter]
  unfold crW
  apply List.filter_congr
  intro x hx
  obtain ⟨s, ex, hs⟩ := wys_has w n (m - 1) [a] x hx
  have hl : x.length = m := by rw [ex, List.length_append, List.length_singleton, hs]; omega
  have h0 : x.getD 0 0 = a := by rw [ex]; rfl
  unfold ccP clP
  have e1 : x.getD (m - 1) 0 = lastW x := by unfold lastW; rw [hl]
  rw [e1, h0, hl]
  have e2 : decide (minL a x (List.range' 0 m) = a) = geP a x := by
    rw [Bool.eq_iff_iff, decide_eq_true_iff, minL_eq]
    unfold geP
    rw [List.all_eq_true]
    constructor
    · intro h y hy
      obtain ⟨i, hi, rfl⟩ := List.getElem_of_mem hy
      have := h i (by rw [List.mem_range'_1]; omega)
      rw [List.getD_eq_getElem?_getD, List.getElem?_eq_getElem hi] at this
      exact decide_eq_true this
    · intro h k hk
      rw [List.mem_range'_1] at hk
      have := h (x[k]'(by omega)) (List.getElem_mem _)
      rw [decide_eq_true_iff] at this
      rw [List.getD_eq_getElem?_getD, List.getElem?_eq_getElem (by omega)]
      exact this
  rw [e2, decide_eq_true (show 1 < m by omega), Bool.true_and, Bool.and_comm]
theorem crR_eq (w : List Nat) {n m : Nat} (hn : n ≤ 7) (hm : 2 ≤ m) : crR w n m = (circL n w).filter fun x => decide (x.length = m) := by
  unfold crR circL
  rw [filter_flatMap']
  refine flatMap_congr' fun a ha => ?_
  rw [List.mem_range'_1] at ha
  exact crW_rg w hn (by omega) hm
theorem evL_eq (w : List Nat) {n : Nat} (hn : n ≤ 7) : evL w n = (List.range' 2 (n - 1)).flatMap fun m => (circL n w).filter fun x => decide (x.length = m) := by
  unfold evL evR
  refine flatMap_congr' fun m hm => ?_
  rw [List.mem_range'_1] at hm
  exact crR_eq w hn (by omega)

attribute [local go_sem] shaped_t cells_t isAgg_t storable_t okRef_t pub_t

/-! ### circles come in ascending order -/
/-! ### the first shortest odd one -/
theorem find_flat_none {α β : Type} {p : β → Bool} {f : α → List β} {l : List α} (h : ∀ x ∈ l, ∀ y ∈ f x, p y = false) : (l.flatMap f).find? p = none := by
  rw [List.find?_eq_none]
  intro y hy
  obtain ⟨x, hx, hy⟩ := List.mem_flatMap.1 hy
  rw [h x hx y hy]; simp

attribute [local go_sem] shaped_t cells_t isAgg_t storable_t okRef_t pub_t shaped_oA cells_oA storable_oA

theorem evL_facts {n : Int} {ps : List (Int × Int)} (h : chk n ps = 0) : (evL (seeL 7 ps) n.toNat).length ≤ 40000000 ∧ ∀ c ∈ evL (seeL 7 ps) n.toNat, c ∈ allN n ps := by
  obtain ⟨h1, _, _, _, _⟩ := chk_zero h
  have hn : n.toNat ≤ 7 := by omega
  constructor
  · have hs : ∀ l : List Nat, (∀ m ∈ l, m ≤ 7) → (l.flatMap (crR (seeL 7 ps) n.toNat)).length ≤ l.length * 6000000 := by
      intro l
      induction l with
      | nil => intro _; simp
      | cons x r ih =>
        intro hl
        have h1 := crR_len (seeL 7 ps) hn x (by have := hl x (by simp); omega)
        have h2 := ih (fun m hm => hl m (by simp [hm]))
        rw [List.flatMap_cons, List.length_append, List.length_cons, Nat.add_mul]; omega
    have := hs (List.range' 2 (n.toNat - 1)) (fun m hm => by rw [List.mem_range'_1] at hm; omega)
    rw [List.length_range'] at this
    have h3 : (n.toNat - 1) * 6000000 ≤ 6 * 6000000 := Nat.mul_le_mul_right _ (by omega)
    unfold evL evR; omega
  · intro c hc
    rw [evL_eq _ hn] at hc
    obtain ⟨m, _, hc⟩ := List.mem_flatMap.1 hc
    exact (List.mem_filter.1 hc).1
theorem oA_up {c : List Nat} (h : c ≠ []) : oA c = tAV (up c) := by
  unfold oA tAV
  rw [up_J, sl_ne (by simpa using h)]
/-! ### the reference's check of an odd circle -/

attribute [local go_sem] shaped_t cells_t isAgg_t storable_t okRef_t pub_t shaped_oA cells_oA storable_oA

/-! ### the reference counts circles on a reference -/
theorem index_oA (c : List Nat) (i : Nat) (h : i < c.length) : indexSAV 1 (oA c) (.v (.int .i64 (i : Int))) = some (.eptr (J (c.getD i 0)) 0) := index_lstJ .any c i h

attribute [local go_sem] shaped_t cells_t isAgg_t storable_t okRef_t pub_t shaped_oA cells_oA storable_oA

/-! ### the reference's circles are as many -/
theorem sum_filter_len {α : Type} (f : α → Nat) (g : α → Nat) : ∀ (X : List α) (a k : Nat), (∀ c ∈ X, a ≤ f c ∧ f c < a + k) → (((List.range' a k).flatMap fun m => X.filter fun x => decide (f x = m)).map g).sum = (X.map g).sum
  | X, a, 0, h => by
    have : X = [] := by
      cases X with
      | nil => rfl
      | cons c r => have := h c (by simp); omega
    subst this; rfl
  | X, a, k + 1, h => by
    have ih := sum_filter_len f g (X.filter fun x => !decide (f x = a)) (a + 1) k (fun c hc => by
      obtain ⟨h1, h2⟩ := List.mem_filter.1 hc
      have := h c h1
      simp at h2; omega)
    have hsplit : ∀ X : List α, (X.map g).sum = ((X.filter fun x => decide (f x = a)).map g).sum + ((X.filter fun x => !decide (f x = a)).map g).sum := by
      intro X
      induction X with
      | nil => rfl
      | cons c r ihr =>
        by_cases hc : f c = a
        · rw [List.filter_cons_of_pos (by simpa using hc), List.filter_cons_of_neg (by simpa using hc)]
          simp only [List.map_cons, List.sum_cons, ihr]; omega
        · rw [List.filter_cons_of_neg (by simpa using hc), List.filter_cons_of_pos (by simpa using hc)]
          simp only [List.map_cons, List.sum_cons, ihr]; omega
    rw [List.range'_succ, List.flatMap_cons, List.map_append, List.sum_append, hsplit X, ← ih]
    congr 3
    refine flatMap_congr' fun m hm => ?_
    rw [List.mem_range'_1] at hm
    rw [List.filter_filter]
    apply List.filter_congr
    intro x _
    rw [Bool.eq_iff_iff, Bool.and_eq_true, decide_eq_true_iff, Bool.not_eq_true', decide_eq_false_iff_not]
    omega
theorem ev_sum {n : Nat} (hn : n ≤ 7) (w : List Nat) (g : List Nat → Nat) : ((evL w n).map g).sum = ((circL n w).map g).sum := by
  rw [evL_eq w hn]
  refine sum_filter_len List.length g (circL n w) 2 (n - 1) fun c hc => ?_
  obtain ⟨h1, _, h3, h4⟩ := circ_lt hn c hc
  have := nodup_len_le c (List.range n) h4 (fun x hx => List.mem_range.2 (h3 x hx))
  rw [List.length_range] at this
  omega
theorem ev_len {n : Nat} (hn : n ≤ 7) (w : List Nat) : (evL w n).length = (circL n w).length := by
  have h1 : ∀ l : List (List Nat), (l.map fun _ => 1).sum = l.length := by
    intro l
    induction l with
    | nil => rfl
    | cons x r ih => rw [List.map_cons, List.sum_cons, ih, List.length_cons]; omega
  have := ev_sum hn w fun _ => 1
  rw [h1, h1] at this
  exact this

attribute [local go_sem high] and_one shr_u shl_one or_u and_u

/-! ### the first number that is not in a set -/
def mexM (m : Nat) : Nat := ((List.range 8).find? fun i => !m.testBit i).getD 0
abbrev cU (m : Nat) : AV := .v (.int .u64 (18446744073709551615 - (m : Int)))
theorem all52c : (List.range 128).map (fun m => callAV L 60 52 [cU m] ⟨[], []⟩) = (List.range 128).map (fun m => some (I (mexM m : Nat), (⟨[], []⟩ : St))) := by kernel_rfl
theorem c52c (m : Nat) (hm : m < 128) (st : St) : run L 52 [cU m] st = some (I (mexM m : Nat), st) :=
  run_any' (fn := ir52) rfl rfl (callAV_run L 60 _ _ _ _ (all_of all52c m hm)) st
def negL (n : Nat) : List Int := List.replicate n (-1)
theorem all79 : (List.range 7).map (fun n => callAV L 100 79 [.lst .any 1 [I (-1)], J (n + 1)] ⟨[], []⟩) = (List.range 7).map (fun n => some (.rsl 0 0 (n + 1) (n + 1) 1 false, (⟨[(negL (n + 1)).map I], []⟩ : St))) := by kernel_rfl
theorem c79 (n : Nat) (h1 : 1 ≤ n) (hn : n ≤ 7) : run L 79 [.lst .any 1 [I (-1)], J n] ⟨[], []⟩ = some (.rsl 0 0 n n 1 false, ⟨[(negL n).map I], []⟩) := by
  have := callAV_run L 100 _ _ _ _ (all_of all79 (n - 1) (by omega))
  rw [show n - 1 + 1 = n by omega] at this
  exact this


/-! ### numbers of words, without the program -/
def isMex (l : List Nat) (v : Nat) : Prop := v ∉ l ∧ ∀ j, j < v → j ∈ l
/-- A word has a number if all that it sees have. -/
inductive Num (w : List Nat) : Nat → Nat → Prop
  | mk (x : Nat) (f : Nat → Nat) (v : Nat) (h : ∀ y, y ∈ bitsL (w.getD x 0) → Num w y (f y)) (hm : isMex ((bitsL (w.getD x 0)).map f) v) : Num w x v
/-- In words that see one another on and on none has a number. -/
theorem num_stop {w : List Nat} {S : Nat → Prop} (hS : ∀ x, S x → ∃ y, S y ∧ y ∈ bitsL (w.getD x 0)) {x v : Nat} (h : Num w x v) : ¬ S x := by
  induction h with
  | mk x f v h hm ih =>
    intro hx
    obtain ⟨y, hy, hb⟩ := hS x hx
    exact ih y hb hy
def mexS (O : List Int) (l : List Nat) (m : Nat) : Nat := l.foldl (fun m y => m ||| 2 ^ (O.getD y (-1)).toNat) m
def numStep (w : List Nat) (q : List Int × Nat) (x : Nat) : List Int × Nat :=
  if q.2.testBit x = true ∨ dfN (w.getD x 0) q.2 ≠ 0 then q else (q.1.set x ((mexM (mexS q.1 (bitsL (w.getD x 0)) 0) : Nat) : Int), q.2 ||| 2 ^ x)
def numRound (w : List Nat) (n : Nat) (q : List Int × Nat) : List Int × Nat := (List.range' 0 n).foldl (numStep w) q
def numR (w : List Nat) (n : Nat) : Nat → List Int × Nat → List Int × Nat
  | 0, q => q
  | k + 1, q => numR w n k (numRound w n q)
theorem mexS_bit (O : List Int) (b : Nat) : ∀ (l : List Nat) (m : Nat), (mexS O l m).testBit b = (m.testBit b || decide (b ∈ l.map fun y => (O.getD y (-1)).toNat))
  | [], m => by simp [mexS]
  | y :: r, m => by
    show (mexS O r (m ||| 2 ^ (O.getD y (-1)).toNat)).testBit b = _
    rw [mexS_bit O b r, Nat.testBit_or, Nat.testBit_two_pow, Bool.or_assoc]
    congr 1
    rw [Bool.eq_iff_iff]
    simp only [Bool.or_eq_true, decide_eq_true_eq, List.map_cons, List.mem_cons]
    exact or_congr ⟨fun h => h.symm, fun h => h.symm⟩ Iff.rfl
theorem mexS_lt (O : List Int) (c : Nat) : ∀ (l : List Nat) (m : Nat), m < 2 ^ c → (∀ y ∈ l, (O.getD y (-1)).toNat < c) → mexS O l m < 2 ^ c
  | [], m, h, _ => h
  | y :: r, m, h, hl => mexS_lt O c r _ (Nat.or_lt_two_pow h (Nat.pow_lt_pow_right (by omega) (hl y (by simp)))) (fun z hz => hl z (by simp [hz]))
theorem mexM_all : (List.range 128).all (fun m => (List.range 8).all fun c => (!decide (m < 2 ^ c)) || decide (mexM m ≤ c)) = true := by kernel_rfl
theorem mexM_le {m c : Nat} (hc : c ≤ 7) (h : m < 2 ^ c) : mexM m ≤ c := by
  have hm : m < 128 := Nat.lt_of_lt_of_le h (Nat.pow_le_pow_right (n := 2) (by omega) hc)
  have := List.all_eq_true.1 (List.all_eq_true.1 mexM_all m (List.mem_range.2 hm)) c (List.mem_range.2 (by omega))
  rw [Bool.or_eq_true, Bool.not_eq_true', decide_eq_false_iff_not, decide_eq_true_iff] at this
  exact this.resolve_left (fun h2 => h2 h)
theorem mexM_spec_all : (List.range 128).all (fun m => !m.testBit (mexM m) && (List.range (mexM m)).all m.testBit) = true := by kernel_rfl
theorem mexM_spec {m : Nat} (hm : m < 128) : m.testBit (mexM m) = false ∧ ∀ j, j < mexM m → m.testBit j = true := by
  have := List.all_eq_true.1 mexM_spec_all m (List.mem_range.2 hm)
  rw [Bool.and_eq_true, Bool.not_eq_true', List.all_eq_true] at this
  exact ⟨this.1, fun j hj => this.2 j (List.mem_range.2 hj)⟩
structure Know (w : List Nat) (n : Nat) (q : List Int × Nat) : Prop where
  len : q.1.length = n
  lt : q.2 < 2 ^ n
  yes : ∀ y, q.2.testBit y = true → ∃ v : Nat, q.1.getD y (-1) = v ∧ v < cardN n q.2 ∧ Num w y v
  no : ∀ y, y < n → q.2.testBit y = false → q.1.getD y (-1) = -1
theorem getDi_set (F : List Int) (x : Nat) (v : Int) (z : Nat) (hx : x < F.length) : (F.set x v).getD z (-1) = if z = x then v else F.getD z (-1) := by
  split
  · next h => subst h; rw [List.getD_eq_getElem?_getD, List.getElem?_set_self hx]; rfl
  · next h => rw [List.getD_eq_getElem?_getD, List.getElem?_set_ne (Ne.symm h), ← List.getD_eq_getElem?_getD]
theorem df_zero {a b : Nat} (ha : a < 128) (hb : b < 128) : dfN a b = 0 ↔ ∀ y, a.testBit y = true → b.testBit y = true := by
  constructor
  · intro h y hy
    cases e : b.testBit y
    · have : (dfN a b).testBit y = true := by rw [dfN_bit hb, hy, e, decide_eq_true (bit_lt7 ha hy)]; rfl
      rw [h] at this; simp at this
    · rfl
  · intro h
    apply Nat.eq_of_testBit_eq
    intro y
    rw [Nat.zero_testBit, dfN_bit hb]
    cases e : a.testBit y
    · rfl
    · rw [h y e]; simp
theorem card_add {n k x : Nat} (hx : x < n) (h : k.testBit x = false) : cardN n k < cardN n (k ||| 2 ^ x) := by
  unfold cardN
  refine filter_len_lt _ (fun y _ hy => by rw [Nat.testBit_or, hy]; rfl) ⟨x, List.mem_range.2 hx, ?_, h⟩
  rw [Nat.testBit_or, Nat.testBit_two_pow_self]; simp
/-- One step: what is known stays right. -/
theorem num_step {w : List Nat} {n : Nat} (hn : n ≤ 7) (hsm : ∀ x ∈ w, x < 128) (hwn : ∀ a b, (w.getD a 0).testBit b = true → b < n) {q : List Int × Nat} (h : Know w n q) {x : Nat} (hx : x < n) :
    Know w n (numStep w q x) ∧ (numStep w q x = q ∧ (q.2.testBit x = true ∨ dfN (w.getD x 0) q.2 ≠ 0) ∨ q.2.testBit x = false ∧ (numStep w q x).2 = q.2 ||| 2 ^ x) := by
  unfold numStep
  have hq128 : q.2 < 128 := Nat.lt_of_lt_of_le h.lt (Nat.pow_le_pow_right (n := 2) (by omega) hn)
  by_cases hc : q.2.testBit x = true ∨ dfN (w.getD x 0) q.2 ≠ 0
  · rw [if_pos hc]
    exact ⟨h, .inl ⟨rfl, hc⟩⟩
  · rw [if_neg hc]
    have hxf : q.2.testBit x = false := by
      cases e : q.2.testBit x
      · rfl
      · exact absurd (.inl e) hc
    have hdf : dfN (w.getD x 0) q.2 = 0 := Classical.byContradiction fun e => hc (.inr e)
    have hsub := (df_zero (small_getD hsm x) hq128).1 hdf
    have hcard := card_add hx hxf
    have hcn := cardN_le n (q.2 ||| 2 ^ x)
    have hval : ∀ y ∈ bitsL (w.getD x 0), ∃ v : Nat, q.1.getD y (-1) = v ∧ v < cardN n q.2 ∧ Num w y v := fun y hy => h.yes y (hsub y (List.mem_filter.1 hy).2)
    have hmlt : mexS q.1 (bitsL (w.getD x 0)) 0 < 2 ^ cardN n q.2 := mexS_lt _ _ _ _ Nat.one_le_two_pow (fun y hy => by
      obtain ⟨v, e, hv, _⟩ := hval y hy
      rw [e]; simpa using hv)
    have hp7 : 2 ^ cardN n q.2 ≤ 2 ^ 7 := Nat.pow_le_pow_right (by omega) (by omega)
    have hm128 : mexS q.1 (bitsL (w.getD x 0)) 0 < 128 := by omega
    have hml := mexM_le (by omega) hmlt
    obtain ⟨hs1, hs2⟩ := mexM_spec hm128
    have hnum : Num w x (mexM (mexS q.1 (bitsL (w.getD x 0)) 0)) := by
      refine .mk x (fun y => (q.1.getD y (-1)).toNat) _ (fun y hy => ?_) ⟨fun hm => ?_, fun j hj => ?_⟩
      · obtain ⟨v, e, _, hv⟩ := hval y hy
        rw [e, Int.toNat_natCast]; exact hv
      · rw [mexS_bit, Nat.zero_testBit, Bool.false_or, decide_eq_false_iff_not] at hs1
        exact hs1 hm
      · have := hs2 j hj
        rw [mexS_bit, Nat.zero_testBit, Bool.false_or, decide_eq_true_iff] at this
        exact this
    refine ⟨⟨?_, ?_, fun y hy => ?_, fun y hy hb => ?_⟩, .inr ⟨hxf, rfl⟩⟩
    · show (q.1.set x _).length = n
      rw [List.length_set]; exact h.len
    · exact Nat.or_lt_two_pow h.lt (Nat.pow_lt_pow_right (by omega) hx)
    · show ∃ v : Nat, (q.1.set x _).getD y (-1) = v ∧ v < cardN n (q.2 ||| 2 ^ x) ∧ Num w y v
      rw [getDi_set _ _ _ _ (by rw [h.len]; exact hx)]
      by_cases e : y = x
      · subst e
        exact ⟨_, if_pos rfl, by omega, hnum⟩
      · rw [if_neg e]
        have hy' : q.2.testBit y = true := by
          have hy2 : (q.2 ||| 2 ^ x).testBit y = true := hy
          rw [Nat.testBit_or, Nat.testBit_two_pow, Bool.or_eq_true, decide_eq_true_iff] at hy2
          exact hy2.resolve_right (fun h2 => e h2.symm)
        obtain ⟨v, e1, e2, e3⟩ := h.yes y hy'
        exact ⟨v, e1, by omega, e3⟩
    · show (q.1.set x _).getD y (-1) = -1
      have hb2 : (q.2 ||| 2 ^ x).testBit y = false := hb
      rw [Nat.testBit_or, Nat.testBit_two_pow, Bool.or_eq_false_iff, decide_eq_false_iff_not] at hb2
      rw [getDi_set _ _ _ _ (by rw [h.len]; exact hx), if_neg (fun e => hb2.2 e.symm)]
      exact h.no y hy hb2.1
def Closed (w : List Nat) (n : Nat) (K : Nat) : Prop := ∀ x, x < n → K.testBit x = true ∨ dfN (w.getD x 0) K ≠ 0
/-- A round: all that could be known is, or one more is. -/
theorem num_round {w : List Nat} {n : Nat} (hn : n ≤ 7) (hsm : ∀ x ∈ w, x < 128) (hwn : ∀ a b, (w.getD a 0).testBit b = true → b < n) : ∀ (l : List Nat) (q : List Int × Nat), Know w n q → (∀ x ∈ l, x < n) →
    Know w n (l.foldl (numStep w) q) ∧ ((l.foldl (numStep w) q = q ∧ ∀ x ∈ l, q.2.testBit x = true ∨ dfN (w.getD x 0) q.2 ≠ 0) ∨ cardN n q.2 < cardN n (l.foldl (numStep w) q).2)
  | [], q, h, _ => ⟨h, .inl ⟨rfl, by simp⟩⟩
  | x :: r, q, h, hl => by
    obtain ⟨h1, h2⟩ := num_step hn hsm hwn h (hl x (by simp))
    obtain ⟨h3, h4⟩ := num_round hn hsm hwn r _ h1 (fun y hy => hl y (by simp [hy]))
    rw [List.foldl_cons]
    refine ⟨h3, ?_⟩
    rcases h2 with ⟨e, hc⟩ | ⟨hf, e⟩
    · rw [e] at h4 ⊢
      rcases h4 with ⟨e2, h5⟩ | h5
      · left
        refine ⟨e2, fun y hy => ?_⟩
        rcases List.mem_cons.1 hy with rfl | hy
        · exact hc
        · exact h5 y hy
      · exact .inr h5
    · right
      have hca := card_add (hl x (by simp)) hf
      rw [← e] at hca
      rcases h4 with ⟨e2, _⟩ | h5
      · rw [e2]; exact hca
      · omega
theorem num_rounds {w : List Nat} {n : Nat} (hn : n ≤ 7) (hsm : ∀ x ∈ w, x < 128) (hwn : ∀ a b, (w.getD a 0).testBit b = true → b < n) : ∀ (k : Nat) (q : List Int × Nat), Know w n q → Know w n (numR w n k q) ∧ (Closed w n (numR w n k q).2 ∨ cardN n q.2 + k ≤ cardN n (numR w n k q).2)
  | 0, q, h => ⟨h, .inr (Nat.le_refl _)⟩
  | k + 1, q, h => by
    obtain ⟨h1, h2⟩ := num_round hn hsm hwn (List.range' 0 n) q h (fun x hx => by rw [List.mem_range'_1] at hx; omega)
    have e : (List.range' 0 n).foldl (numStep w) q = numRound w n q := rfl
    rw [e] at h1 h2
    obtain ⟨h3, h4⟩ := num_rounds hn hsm hwn k (numRound w n q) h1
    refine ⟨h3, ?_⟩
    show Closed w n (numR w n k (numRound w n q)).2 ∨ cardN n q.2 + (k + 1) ≤ cardN n (numR w n k (numRound w n q)).2
    rcases h2 with ⟨e2, hc⟩ | h2
    · left
      have hfix : ∀ k, numR w n k q = q := by
        intro k
        induction k with
        | zero => rfl
        | succ k ih => show numR w n k (numRound w n q) = q; rw [e2]; exact ih
      rw [e2, hfix]
      exact fun x hx => hc x (by rw [List.mem_range'_1]; omega)
    · rcases h4 with h4 | h4
      · exact .inl h4
      · right; omega
theorem know_start (w : List Nat) (n : Nat) : Know w n (negL n, 0) := by
  refine ⟨by simp [negL], Nat.one_le_two_pow, fun y hy => by simp at hy, fun y hy _ => ?_⟩
  unfold negL
  rw [List.getD_eq_getElem?_getD, List.getElem?_replicate]; split <;> rfl
theorem card_full {n k : Nat} (h : n ≤ cardN n k) {x : Nat} (hx : x < n) : k.testBit x = true := by
  cases e : k.testBit x
  · have := filter_len_lt (p := k.testBit) (q := fun _ => true) (List.range n) (fun _ _ _ => rfl) ⟨x, List.mem_range.2 hx, rfl, e⟩
    have h2 : ((List.range n).filter fun _ => true).length = n := by rw [List.filter_eq_self.2 (fun _ _ => rfl), List.length_range]
    unfold cardN at h; omega
  · rfl

attribute [local go_sem high] and_one shr_u shl_one or_u and_u
attribute [local go_sem] shaped_t cells_t isAgg_t storable_t okRef_t pub_t

/-! ### numbers, or a circle -/
theorem walk_cyc {J : Nat → Nat → Prop} : ∀ (k : Nat) (c : List Nat), c.length = k → Ch J c → ¬ c.Nodup → ∃ d, d.Nodup ∧ Cyc J d ∧ ∀ y ∈ d, y ∈ c := by
  intro k
  induction k using Nat.strongRecOn with
  | ind k ih =>
    intro c hl hc hn
    obtain ⟨A, x, B, C, rfl⟩ := not_nodup c hn
    have h1 := (ch_split x (B ++ x :: C) A).1 hc
    have e2 : x :: (B ++ x :: C) = (x :: B) ++ x :: C := rfl
    have h2 := (ch_split x C (x :: B)).1 (by rw [← e2]; exact h1.2)
    by_cases hb : (x :: B).Nodup
    · exact ⟨x :: B, hb, ⟨x, B, rfl, h2.1⟩, fun y hy => by
        simp only [List.mem_append, List.mem_cons] at hy ⊢
        rcases hy with rfl | hy
        · exact .inr (.inl rfl)
        · exact .inr (.inr (.inl hy))⟩
    · have hch : Ch J (x :: B) := by
        have := h2.1
        rw [ch_snoc x (x :: B) (by simp)] at this
        exact this.1
      obtain ⟨d, d1, d2, d3⟩ := ih (x :: B).length (by rw [← hl]; simp; omega) (x :: B) rfl hch hb
      exact ⟨d, d1, d2, fun y hy => by
        have := d3 y hy
        simp only [List.mem_append, List.mem_cons] at this ⊢
        rcases this with rfl | h
        · exact .inr (.inl rfl)
        · exact .inr (.inr (.inl h))⟩
theorem walk_on {J : Nat → Nat → Prop} {S : Nat → Prop} (hS : ∀ x, S x → ∃ y, S y ∧ J x y) : ∀ (k : Nat) (x : Nat), S x → ∃ c, c.length = k + 1 ∧ Ch J c ∧ (∀ y ∈ c, S y) ∧ ∃ r, c = x :: r
  | 0, x, h => ⟨[x], rfl, trivial, by simpa using h, [], rfl⟩
  | k + 1, x, h => by
    obtain ⟨y, hy, hj⟩ := hS x h
    obtain ⟨c, h1, h2, h3, r, rfl⟩ := walk_on hS k y hy
    exact ⟨x :: y :: r, by rw [← h1]; rfl, ⟨hj, h2⟩, fun z hz => by
      rcases List.mem_cons.1 hz with rfl | hz
      · exact h
      · exact h3 z hz, y :: r, rfl⟩
theorem cyc_next {J : Nat → Nat → Prop} {c : List Nat} (h : Cyc J c) : ∀ x ∈ c, ∃ y ∈ c, J x y := by
  obtain ⟨a, r, rfl, hc⟩ := h
  have key : ∀ (l : List Nat) (z : Nat), Ch J (l ++ [z]) → ∀ x ∈ l, ∃ y, (y ∈ l ∨ y = z) ∧ J x y := by
    intro l
    induction l with
    | nil => intro z _ x hx; simp at hx
    | cons b l ih =>
      intro z hch x hx
      cases l with
      | nil =>
        simp at hx; subst hx
        exact ⟨z, .inr rfl, hch.1⟩
      | cons b2 l =>
        rcases List.mem_cons.1 hx with rfl | hx
        · exact ⟨b2, .inl (by simp), hch.1⟩
        · obtain ⟨y, hy, hj⟩ := ih z hch.2 x hx
          exact ⟨y, hy.imp (fun h => by simp only [List.mem_cons] at h ⊢; exact .inr h) id, hj⟩
  intro x hx
  obtain ⟨y, hy, hj⟩ := key (a :: r) a hc x hx
  exact ⟨y, hy.elim id (fun h => by rw [h]; simp), hj⟩
/-- If all have numbers there is no circle; if some word sees on and on there is one. -/
theorem no_circ {n : Nat} (hn : n ≤ 7) {w : List Nat} (h : ∀ x, x < n → ∃ v, Num w x v) : circL n w = [] := by
  cases hc : circL n w with
  | nil => rfl
  | cons c r =>
    exfalso
    have hm : c ∈ circL n w := by rw [hc]; simp
    obtain ⟨a, s, e, ha, h2, h3, h4, h5, h6⟩ := (circ_iff hn w c).1 hm
    have hcyc : Cyc (Jw w) c := ⟨a, s, e, (ch_snoc a c (by rw [e]; simp)).2 ⟨h5, h6⟩⟩
    have hcl := (circ_lt hn c hm).2.2.1
    have hS : ∀ x, x ∈ c → ∃ y, y ∈ c ∧ y ∈ bitsL (w.getD x 0) := fun x hx => by
      obtain ⟨y, hy, hj⟩ := cyc_next hcyc x hx
      exact ⟨y, hy, List.mem_filter.2 ⟨List.mem_range.2 (by have := hcl y hy; omega), hj⟩⟩
    obtain ⟨v, hv⟩ := h a ha
    exact num_stop hS hv (by rw [e]; simp)
theorem some_circ {n : Nat} (hn : n ≤ 7) {w : List Nat} (hsm : ∀ x ∈ w, x < 128) (hwn : ∀ a b, (w.getD a 0).testBit b = true → b < n) (hself : ∀ x, (w.getD x 0).testBit x = false) {K : Nat} (hK : K < 128) (hc : Closed w n K) {x : Nat} (hx : x < n) (hb : K.testBit x = false) : circL n w ≠ [] := by
  have hS : ∀ x, (x < n ∧ K.testBit x = false) → ∃ y, (y < n ∧ K.testBit y = false) ∧ Jw w x y := by
    rintro x ⟨hx, hb⟩
    have h1 := (hc x hx).resolve_left (by rw [hb]; simp)
    apply Classical.byContradiction
    intro hno
    apply h1
    rw [df_zero (small_getD hsm x) hK]
    intro y hy
    cases e : K.testBit y
    · exact absurd ⟨y, ⟨hwn x y hy, e⟩, hy⟩ hno
    · rfl
  obtain ⟨c, h1, h2, h3, _⟩ := walk_on hS n x ⟨hx, hb⟩
  have hnn : ¬ c.Nodup := fun hnd => by
    have := nodup_len_le c (List.range n) hnd (fun y hy => List.mem_range.2 (h3 y hy).1)
    rw [List.length_range] at this; omega
  obtain ⟨d, d1, d2, d3⟩ := walk_cyc _ c rfl h2 hnn
  have hl : 1 < d.length := by
    obtain ⟨a, r, rfl, hch⟩ := d2
    cases r with
    | nil =>
      have hj : Jw w a a := hch.1
      unfold Jw at hj
      rw [hself] at hj; simp at hj
    | cons b r => simp
  obtain ⟨A, m, B, _, hm⟩ := circ_of hn d1 hl d2 (fun y hy => (h3 y (d3 y hy)).1)
  intro e
  rw [e] at hm; simp at hm

/-! ### the program's loops -/
theorem getI (O : List Int) (a : Nat) (h : a < O.length) : (O.map I)[a]? = some (I (O.getD a (-1))) := by
  rw [getm I O (-1) a, if_pos h]
theorem loop34_0 (nl : Bool) (n : Nat) (hn : n ≤ 7) (ps : List (Int × Int)) (w : List Nat) (O : List Int) (hO : O.length = n) (K x : Nat) (r : Int) (G : List Nat) (hG : ∀ y ∈ G, y < n ∧ ∃ v : Nat, O.getD y (-1) = v ∧ v < 7) (hGl : G.length ≤ 7) (i : Nat) (m : Nat) (hok : i ≤ G.length ∧ m < 128) (env : Env) (st : St)
    (hg : gcAV true 3 0 (canon env [4, 6, 7, 8, 10, 26, 27, 32, 33, 34, 51, 52, 53]) st = ([(4, .ptr 1 0), (6, .rsl 2 0 n n 1 false), (7, U K), (8, J x), (10, U m), (26, J n), (27, I r), (32, .rsl 1 1 n 7 1 false), (33, J n), (34, J x), (51, sl 1 true (G.map J)), (52, J G.length), (53, J i)], ⟨[bkCells nl (n : Int) ps, webC (n : Int) w, O.map I], []⟩)) :
    ∃ x_1 en s, lim (headed pure (run L) true [4, 6, 7, 8, 10, 26, 27, 32, 33, 34, 51, 52, 53] lp34_0 3 0) env st = some (x_1, en, s) ∧ (x_1 = .exit 4 ∧ en.get 4 = .ptr 1 0 ∧ en.get 6 = .rsl 2 0 n n 1 false ∧ en.get 7 = U K ∧ en.get 8 = J x ∧ en.get 10 = U (mexS O (G.drop i) m) ∧ en.get 26 = J n ∧ en.get 27 = I r ∧ en.get 32 = .rsl 1 1 n 7 1 false ∧ en.get 33 = J n ∧ en.get 34 = J x ∧ s = ⟨[bkCells nl (n : Int) ps, webC (n : Int) w, O.map I], []⟩) := by
  refine loop_wp (α := Nat × Nat) (fun ⟨i, m⟩ => G.length - i) (fun ⟨i, m⟩ => i ≤ G.length ∧ m < 128) (fun ⟨i, m⟩ => ([(4, .ptr 1 0), (6, .rsl 2 0 n n 1 false), (7, U K), (8, J x), (10, U m), (26, J n), (27, I r), (32, .rsl 1 1 n 7 1 false), (33, J n), (34, J x), (51, sl 1 true (G.map J)), (52, J G.length), (53, J i)], ⟨[bkCells nl (n : Int) ps, webC (n : Int) w, O.map I], []⟩)) (fun ⟨i, m⟩ x_1 en s => x_1 = .exit 4 ∧ en.get 4 = .ptr 1 0 ∧ en.get 6 = .rsl 2 0 n n 1 false ∧ en.get 7 = U K ∧ en.get 8 = J x ∧ en.get 10 = U (mexS O (G.drop i) m) ∧ en.get 26 = J n ∧ en.get 27 = I r ∧ en.get 32 = .rsl 1 1 n 7 1 false ∧ en.get 33 = J n ∧ en.get 34 = J x ∧ s = ⟨[bkCells nl (n : Int) ps, webC (n : Int) w, O.map I], []⟩) (fun ⟨i, m⟩ hok => ?_) ⟨i, m⟩ hok env st hg
  simp only at hok
  obtain ⟨h1, h2⟩ := hok
  dsimp only at h1 h2 ⊢
  by_cases h : i < G.length
  · have hx := index_J true G i h
    have hs := succ64 i (by omega)
    have hlt : ((i : Int) < (G.length : Int)) = True := eq_true (by omega)
    have hd : G.drop i = G[i] :: G.drop (i + 1) := List.drop_eq_getElem_cons h
    obtain ⟨hy, v, hv, hv7⟩ := hG _ (List.getElem_mem h)
    rw [hd]
    generalize G[i] = y at *
    have hms : mexS O (y :: G.drop (i + 1)) m = mexS O (G.drop (i + 1)) (m ||| 2 ^ v) := by
      show mexS O (G.drop (i + 1)) (m ||| 2 ^ (O.getD y (-1)).toNat) = _
      rw [hv, Int.toNat_natCast]
    have g1 := getI O y (by omega)
    rw [hv] at g1
    have b1 : ((0 : Int) ≤ (y : Int)) = True := eq_true (by omega)
    have b2 : ((y : Int) < (n : Int)) = True := eq_true (by omega)
    have e1 : orU m (sh1 v) = m ||| 2 ^ v := by rw [(sh1_lt v hv7).1, orU_eq _ _ h2 (sh1_lt v hv7).2]
    have hlt2 : m ||| 2 ^ v < 128 := Nat.or_lt_two_pow (n := 7) h2 (sh1_lt v hv7).2
    rw [hms]
    generalize m ||| 2 ^ v = m2 at *
    simp only [go_sem, reduceIte, Nat.reduceEqDiff, Nat.reduceAdd, Nat.reduceSub, Nat.reduceLeDiff, Nat.reduceLT, reduceCtorEq, Int.reduceLT, Int.reduceLE, Int.reduceEq, Int.reduceBEq, Int.reduceSub, Int.reduceAdd, Int.reduceMul, Int.reduceNeg, Int.reduceToNat, Nat.reduceMul, Nat.reduceBEq, index_rsl_if, setm, make_ints, condK_dec, wantK_dec, not_dec, and_dec, or_dec, seqK_ite, seqK_none, blockK_ite, blockK_none, opsK_ite, opsK_none, stepK_ite, stepK_none, bodyK_ite, bodyK_none, resK_ite, resK_none, leaveK_ite, leaveK_none, only_ite, only_none, bind_ite, gives_some, gives_none, gives_ite, then_normal, then_ret, then_exit, then_none, then_ite, Option.bind_none, Bool.not_eq_true', decide_eq_false_iff_not, Bool.and_eq_true, Bool.or_eq_true, Option.some.injEq, Int.not_lt, Int.not_le, lp34_0, hx, hlt, hs, b1, b2, g1, e1]
    refine ⟨(i + 1, m2), by simp only [go_sem, reduceIte, Nat.reduceEqDiff, Nat.reduceAdd, Nat.reduceSub, Nat.reduceLeDiff, Nat.reduceLT, reduceCtorEq, Int.reduceLT, Int.reduceLE, Int.reduceEq, Int.reduceBEq, Int.reduceSub, Int.reduceAdd, Int.reduceMul, Int.reduceNeg, Int.reduceToNat, Nat.reduceMul, Nat.reduceBEq, ren1_locm, loc_tips, locT_eq, okRefsW, renCellsW] <;> rfl, ?_, ?_, fun x en s hq => ?_⟩
    · dsimp only; exact ⟨by omega, hlt2⟩
    · dsimp only; omega
    · exact hq
  · have hd : G.drop i = [] := List.drop_eq_nil_of_le (by omega)
    have hlt : ((i : Int) < (G.length : Int)) = False := eq_false (by omega)
    rw [hd]
    simp only [go_sem, reduceIte, Nat.reduceEqDiff, Nat.reduceAdd, Nat.reduceSub, Nat.reduceLeDiff, Nat.reduceLT, reduceCtorEq, Int.reduceLT, Int.reduceLE, Int.reduceEq, Int.reduceBEq, Int.reduceSub, Int.reduceAdd, Int.reduceMul, Int.reduceNeg, Int.reduceToNat, Nat.reduceMul, Nat.reduceBEq, index_rsl_if, setm, make_ints, condK_dec, wantK_dec, not_dec, and_dec, or_dec, seqK_ite, seqK_none, blockK_ite, blockK_none, opsK_ite, opsK_none, stepK_ite, stepK_none, bodyK_ite, bodyK_none, resK_ite, resK_none, leaveK_ite, leaveK_none, only_ite, only_none, bind_ite, gives_some, gives_none, gives_ite, then_normal, then_ret, then_exit, then_none, then_ite, Option.bind_none, Bool.not_eq_true', decide_eq_false_iff_not, Bool.and_eq_true, Bool.or_eq_true, Option.some.injEq, Int.not_lt, Int.not_le, lp34_0, hlt]
    rfl

attribute [local go_sem high] and_one shr_u shl_one or_u and_u
attribute [local go_sem] shaped_t cells_t isAgg_t storable_t okRef_t pub_t

theorem compl_all : (List.range 128).all (fun m => match binAV .xor none (.v (.int .u64 (if IntKind.u64.signed = true then -1 else IntKind.u64.max))) (U m) with | some (.v (.int .u64 z)) => decide (z = 18446744073709551615 - (m : Int)) | _ => false) = true := by kernel_rfl
theorem compl_u (m : Nat) (hm : m < 128) : binAV .xor none (.v (.int .u64 (if IntKind.u64.signed = true then -1 else IntKind.u64.max))) (U m) = some (cU m) := by
  have h := List.all_eq_true.1 compl_all m (List.mem_range.2 hm)
  revert h
  generalize binAV .xor none (.v (.int .u64 (if IntKind.u64.signed = true then -1 else IntKind.u64.max))) (U m) = o
  intro h
  match o with
  | some (.v (.int .u64 z)) =>
    simp only [decide_eq_true_eq] at h
    rw [h]

set_option maxHeartbeats 1000000 in
theorem loop34_1 (nl : Bool) (n : Nat) (hn : 1 ≤ n ∧ n ≤ 7) (ps : List (Int × Int)) (w : List Nat) (ho : w.length = 7) (hsm : ∀ x ∈ w, x < 128) (hwn : ∀ a b, (w.getD a 0).testBit b = true → b < n) (r : Int) (x : Nat) (q : List Int × Nat) (hok : x ≤ n ∧ Know w n q) (env : Env) (st : St)
    (hg : gcAV true 3 0 (canon env [4, 6, 7, 26, 27, 32, 33, 34]) st = ([(4, .ptr 1 0), (6, .rsl 2 0 n n 1 false), (7, U q.2), (26, J n), (27, I r), (32, .rsl 1 1 n 7 1 false), (33, J n), (34, J x)], ⟨[bkCells nl (n : Int) ps, webC (n : Int) w, q.1.map I], []⟩)) :
    ∃ x_1 en s, lim (headed pure (run L) true [4, 6, 7, 26, 27, 32, 33, 34] lp34_1 3 0) env st = some (x_1, en, s) ∧ (x_1 = .exit 2 ∧ en.get 4 = .ptr 1 0 ∧ en.get 6 = .rsl 2 0 n n 1 false ∧ en.get 7 = U ((List.range' x (n - x)).foldl (numStep w) q).2 ∧ en.get 26 = J n ∧ en.get 27 = I r ∧ s = ⟨[bkCells nl (n : Int) ps, webC (n : Int) w, ((List.range' x (n - x)).foldl (numStep w) q).1.map I], []⟩ ∧ Know w n ((List.range' x (n - x)).foldl (numStep w) q)) := by
  refine loop_wp (α := Nat × List Int × Nat) (fun ⟨x, q⟩ => n - x) (fun ⟨x, q⟩ => x ≤ n ∧ Know w n q) (fun ⟨x, q⟩ => ([(4, .ptr 1 0), (6, .rsl 2 0 n n 1 false), (7, U q.2), (26, J n), (27, I r), (32, .rsl 1 1 n 7 1 false), (33, J n), (34, J x)], ⟨[bkCells nl (n : Int) ps, webC (n : Int) w, q.1.map I], []⟩)) (fun ⟨x, q⟩ x_1 en s => x_1 = .exit 2 ∧ en.get 4 = .ptr 1 0 ∧ en.get 6 = .rsl 2 0 n n 1 false ∧ en.get 7 = U ((List.range' x (n - x)).foldl (numStep w) q).2 ∧ en.get 26 = J n ∧ en.get 27 = I r ∧ s = ⟨[bkCells nl (n : Int) ps, webC (n : Int) w, ((List.range' x (n - x)).foldl (numStep w) q).1.map I], []⟩ ∧ Know w n ((List.range' x (n - x)).foldl (numStep w) q)) (fun ⟨x, q⟩ hok => ?_) ⟨x, q⟩ hok env st hg
  simp only at hok
  obtain ⟨h1, h2⟩ := hok
  dsimp only at h1 h2 ⊢
  by_cases h : x < n
  · have hs := succ64 x (by omega)
    have hlt : ((x : Int) < (n : Int)) = True := eq_true (by omega)
    have hr : List.range' x (n - x) = x :: List.range' (x + 1) (n - (x + 1)) := by
      rw [show n - x = (n - (x + 1)) + 1 by omega, List.range'_succ]
    have hk2 := (num_step hn.2 hsm hwn h2 h).1
    have hns : numStep w q x = if q.2.testBit x = true ∨ dfN (w.getD x 0) q.2 ≠ 0 then q else (q.1.set x ((mexM (mexS q.1 (bitsL (w.getD x 0)) 0) : Nat) : Int), q.2 ||| 2 ^ x) := rfl
    have hq128 : q.2 < 128 := Nat.lt_of_lt_of_le h2.lt (Nat.pow_le_pow_right (n := 2) (by omega) hn.2)
    have g1 := getW (n : Int) w x (by omega)
    have hlw := lenW (n : Int) w
    rw [ho] at hlw
    have b0 : ((0 : Int) ≤ (x : Int)) = True := eq_true (by omega)
    have b1 : (1 + x + 1 ≤ 8) = True := eq_true (by omega)
    have b7 : (x + 1 ≤ n) = True := eq_true (by omega)
    have hb := bit_one q.2 x
    have hmk := min64 x (by omega)
    have hsx := small_getD hsm x
    have hdf := dfU_eq (w.getD x 0) q.2 hsx hq128
    have hdf0 : (((dfN (w.getD x 0) q.2 : Nat) : Int) = 0) = (dfN (w.getD x 0) q.2 = 0) := propext (by omega)
    rw [hr, List.foldl_cons]
    by_cases p1 : q.2.testBit x = true
    · rw [if_pos (.inl p1)] at hns
      rw [hns]
      generalize w.getD x 0 = v at *
      simp only [go_sem, reduceIte, Nat.reduceEqDiff, Nat.reduceAdd, Nat.reduceSub, Nat.reduceLeDiff, Nat.reduceLT, reduceCtorEq, Int.reduceLT, Int.reduceLE, Int.reduceEq, Int.reduceBEq, Int.reduceSub, Int.reduceAdd, Int.reduceMul, Int.reduceNeg, Int.reduceToNat, Nat.reduceMul, Nat.reduceBEq, index_rsl_if, setm, make_ints, condK_dec, wantK_dec, not_dec, and_dec, or_dec, seqK_ite, seqK_none, blockK_ite, blockK_none, opsK_ite, opsK_none, stepK_ite, stepK_none, bodyK_ite, bodyK_none, resK_ite, resK_none, leaveK_ite, leaveK_none, only_ite, only_none, bind_ite, gives_some, gives_none, gives_ite, then_normal, then_ret, then_exit, then_none, then_ite, Option.bind_none, Bool.not_eq_true', decide_eq_false_iff_not, Bool.and_eq_true, Bool.or_eq_true, Option.some.injEq, Int.not_lt, Int.not_le, lp34_1, hlt, hs, g1, hlw, b0, b1, hmk, hb, p1]
      refine ⟨(x + 1, q), by simp only [go_sem, reduceIte, Nat.reduceEqDiff, Nat.reduceAdd, Nat.reduceSub, Nat.reduceLeDiff, Nat.reduceLT, reduceCtorEq, Int.reduceLT, Int.reduceLE, Int.reduceEq, Int.reduceBEq, Int.reduceSub, Int.reduceAdd, Int.reduceMul, Int.reduceNeg, Int.reduceToNat, Nat.reduceMul, Nat.reduceBEq, ren1_locm, loc_tips, locT_eq, okRefsW, renCellsW] <;> rfl, ?_, ?_, fun x en s hq => ?_⟩
      · dsimp only; exact ⟨by omega, h2⟩
      · dsimp only; omega
      · exact hq
    · have p1' : (q.2.testBit x = true) = False := eq_false p1
      by_cases p2 : dfN (w.getD x 0) q.2 = 0
      · rw [if_neg (fun hh => hh.elim p1 (fun h => h p2))] at hns
        have hxf : q.2.testBit x = false := by simpa using p1
        have hsub := (df_zero hsx hq128).1 p2
        have hcn := cardN_le n q.2
        have hcx := card_add h hxf
        have hcn2 := cardN_le n (q.2 ||| 2 ^ x)
        have hG : ∀ y ∈ bitsL (w.getD x 0), y < n ∧ ∃ v : Nat, q.1.getD y (-1) = v ∧ v < 7 := fun y hy => by
          have hyb := (List.mem_filter.1 hy).2
          obtain ⟨v, e, hv, _⟩ := h2.yes y (hsub y hyb)
          exact ⟨hwn x y hyb, v, e, by omega⟩
        have hp7 : 2 ^ cardN n q.2 ≤ 2 ^ 6 := Nat.pow_le_pow_right (by omega) (by omega)
        have hmlt : mexS q.1 (bitsL (w.getD x 0)) 0 < 2 ^ cardN n q.2 := mexS_lt _ _ _ _ Nat.one_le_two_pow (fun y hy => by
          obtain ⟨v, e, hv, _⟩ := h2.yes y (hsub y (List.mem_filter.1 hy).2)
          rw [e]; simpa using hv)
        have hm128 : mexS q.1 (bitsL (w.getD x 0)) 0 < 128 := by omega
        have hcm := compl_u _ hm128
        have h52 := fun st => c52c _ hm128 st
        have h67 := fun st => c67 (w.getD x 0) hsx st
        rw [memb_J] at h67
        have hbl := bits_len (w.getD x 0)
        have hset : (q.1.map I).set x (I (((mexM (mexS q.1 (bitsL (w.getD x 0)) 0)) : Nat) : Int)) = (numStep w q x).1.map I := by rw [hns, List.map_set]
        have hor : orU q.2 (sh1 x) = (numStep w q x).2 := by rw [hns, (sh1_lt x (by omega)).1, orU_eq _ _ hq128 (sh1_lt x (by omega)).2]
        have hql : q.1.length = n := h2.len
        have hlG : lenAV (sl 1 true ((bitsL (w.getD x 0)).map J)) = some (I (bitsL (w.getD x 0)).length) := by rw [len_sl, List.length_map]
        simp only [go_sem, reduceIte, Nat.reduceEqDiff, Nat.reduceAdd, Nat.reduceSub, Nat.reduceLeDiff, Nat.reduceLT, reduceCtorEq, Int.reduceLT, Int.reduceLE, Int.reduceEq, Int.reduceBEq, Int.reduceSub, Int.reduceAdd, Int.reduceMul, Int.reduceNeg, Int.reduceToNat, Nat.reduceMul, Nat.reduceBEq, index_rsl_if, setm, make_ints, condK_dec, wantK_dec, not_dec, and_dec, or_dec, seqK_ite, seqK_none, blockK_ite, blockK_none, opsK_ite, opsK_none, stepK_ite, stepK_none, bodyK_ite, bodyK_none, resK_ite, resK_none, leaveK_ite, leaveK_none, only_ite, only_none, bind_ite, gives_some, gives_none, gives_ite, then_normal, then_ret, then_exit, then_none, then_ite, Option.bind_none, Bool.not_eq_true', decide_eq_false_iff_not, Bool.and_eq_true, Bool.or_eq_true, Option.some.injEq, Int.not_lt, Int.not_le, lp34_1, hlt, hs, g1, hlw, b0, b1, hmk, hb, p1', hdf, hdf0, p2, h67, List.length_map]
        generalize hg : lim (headed pure (run L) true _ lp34_0 _ _) _ _ = o
        obtain ⟨x, en, s, rfl, h2⟩ : ∃ x en s, o = some (x, en, s) ∧ _ := by rw [← hg]; exact loop34_0 nl n hn.2 ps w q.1 hql q.2 x r (bitsL (w.getD x 0)) hG hbl 0 0 ⟨by omega, by omega⟩ _ _ (by simp only [go_sem, reduceIte, Nat.reduceEqDiff, Nat.reduceAdd, Nat.reduceSub, Nat.reduceLeDiff, Nat.reduceLT, reduceCtorEq, Int.reduceLT, Int.reduceLE, Int.reduceEq, Int.reduceBEq, Int.reduceSub, Int.reduceAdd, Int.reduceMul, Int.reduceNeg, Int.reduceToNat, Nat.reduceMul, Nat.reduceBEq, okRefsW, renCellsW, Int.natCast_zero] <;> rfl)
        clear hg
        rw [List.drop_zero] at h2
        obtain ⟨rfl, e4, e6, e7, e8, e10, e26, e27, e32, e33, e34, rfl⟩ := h2
        generalize numStep w q x = q2 at *
        generalize mexS q.1 (bitsL (w.getD x 0)) 0 = m at *
        simp only [go_sem, reduceIte, Nat.reduceEqDiff, Nat.reduceAdd, Nat.reduceSub, Nat.reduceLeDiff, Nat.reduceLT, reduceCtorEq, Int.reduceLT, Int.reduceLE, Int.reduceEq, Int.reduceBEq, Int.reduceSub, Int.reduceAdd, Int.reduceMul, Int.reduceNeg, Int.reduceToNat, Nat.reduceMul, Nat.reduceBEq, index_rsl_if, setm, make_ints, condK_dec, wantK_dec, not_dec, and_dec, or_dec, seqK_ite, seqK_none, blockK_ite, blockK_none, opsK_ite, opsK_none, stepK_ite, stepK_none, bodyK_ite, bodyK_none, resK_ite, resK_none, leaveK_ite, leaveK_none, only_ite, only_none, bind_ite, gives_some, gives_none, gives_ite, then_normal, then_ret, then_exit, then_none, then_ite, Option.bind_none, Bool.not_eq_true', decide_eq_false_iff_not, Bool.and_eq_true, Bool.or_eq_true, Option.some.injEq, Int.not_lt, Int.not_le, lp34_1, hs, e4, e6, e7, e8, e10, e26, e27, e32, e33, e34, hcm, h52, b0, hlt, hset, hor, hql, b7, List.length_map]
        refine ⟨(x + 1, q2), by simp only [go_sem, reduceIte, Nat.reduceEqDiff, Nat.reduceAdd, Nat.reduceSub, Nat.reduceLeDiff, Nat.reduceLT, reduceCtorEq, Int.reduceLT, Int.reduceLE, Int.reduceEq, Int.reduceBEq, Int.reduceSub, Int.reduceAdd, Int.reduceMul, Int.reduceNeg, Int.reduceToNat, Nat.reduceMul, Nat.reduceBEq, ren1_locm, loc_tips, locT_eq, okRefsW, renCellsW, e4, e6, e7, e8, e10, e26, e27, e32, e33, e34] <;> rfl, ?_, ?_, fun x en s hq => ?_⟩
        · dsimp only; exact ⟨by omega, hk2⟩
        · dsimp only; omega
        · exact hq
      · rw [if_pos (.inr p2)] at hns
        rw [hns]
        generalize w.getD x 0 = v at *
        simp only [go_sem, reduceIte, Nat.reduceEqDiff, Nat.reduceAdd, Nat.reduceSub, Nat.reduceLeDiff, Nat.reduceLT, reduceCtorEq, Int.reduceLT, Int.reduceLE, Int.reduceEq, Int.reduceBEq, Int.reduceSub, Int.reduceAdd, Int.reduceMul, Int.reduceNeg, Int.reduceToNat, Nat.reduceMul, Nat.reduceBEq, index_rsl_if, setm, make_ints, condK_dec, wantK_dec, not_dec, and_dec, or_dec, seqK_ite, seqK_none, blockK_ite, blockK_none, opsK_ite, opsK_none, stepK_ite, stepK_none, bodyK_ite, bodyK_none, resK_ite, resK_none, leaveK_ite, leaveK_none, only_ite, only_none, bind_ite, gives_some, gives_none, gives_ite, then_normal, then_ret, then_exit, then_none, then_ite, Option.bind_none, Bool.not_eq_true', decide_eq_false_iff_not, Bool.and_eq_true, Bool.or_eq_true, Option.some.injEq, Int.not_lt, Int.not_le, lp34_1, hlt, hs, g1, hlw, b0, b1, hmk, hb, p1', hdf, hdf0, p2]
        refine ⟨(x + 1, q), by simp only [go_sem, reduceIte, Nat.reduceEqDiff, Nat.reduceAdd, Nat.reduceSub, Nat.reduceLeDiff, Nat.reduceLT, reduceCtorEq, Int.reduceLT, Int.reduceLE, Int.reduceEq, Int.reduceBEq, Int.reduceSub, Int.reduceAdd, Int.reduceMul, Int.reduceNeg, Int.reduceToNat, Nat.reduceMul, Nat.reduceBEq, ren1_locm, loc_tips, locT_eq, okRefsW, renCellsW] <;> rfl, ?_, ?_, fun x en s hq => ?_⟩
        · dsimp only; exact ⟨by omega, h2⟩
        · dsimp only; omega
        · exact hq
  · have hr : n - x = 0 := by omega
    have hlt : ((x : Int) < (n : Int)) = False := eq_false (by omega)
    rw [hr]
    simp only [go_sem, reduceIte, Nat.reduceEqDiff, Nat.reduceAdd, Nat.reduceSub, Nat.reduceLeDiff, Nat.reduceLT, reduceCtorEq, Int.reduceLT, Int.reduceLE, Int.reduceEq, Int.reduceBEq, Int.reduceSub, Int.reduceAdd, Int.reduceMul, Int.reduceNeg, Int.reduceToNat, Nat.reduceMul, Nat.reduceBEq, index_rsl_if, setm, make_ints, condK_dec, wantK_dec, not_dec, and_dec, or_dec, seqK_ite, seqK_none, blockK_ite, blockK_none, opsK_ite, opsK_none, stepK_ite, stepK_none, bodyK_ite, bodyK_none, resK_ite, resK_none, leaveK_ite, leaveK_none, only_ite, only_none, bind_ite, gives_some, gives_none, gives_ite, then_normal, then_ret, then_exit, then_none, then_ite, Option.bind_none, Bool.not_eq_true', decide_eq_false_iff_not, Bool.and_eq_true, Bool.or_eq_true, Option.some.injEq, Int.not_lt, Int.not_le, lp34_1, hlt]
    exact ⟨rfl, rfl, h2⟩

attribute [local go_sem high] and_one shr_u shl_one or_u and_u
attribute [local go_sem] shaped_t cells_t isAgg_t storable_t okRef_t pub_t

theorem loop34_2 (nl : Bool) (n : Nat) (hn : 1 ≤ n ∧ n ≤ 7) (ps : List (Int × Int)) (w : List Nat) (ho : w.length = 7) (hsm : ∀ x ∈ w, x < 128) (hwn : ∀ a b, (w.getD a 0).testBit b = true → b < n) (r : Nat) (q : List Int × Nat) (hok : r ≤ n ∧ Know w n q) (env : Env) (st : St)
    (hg : gcAV true 3 0 (canon env [4, 6, 7, 26, 27]) st = ([(4, .ptr 1 0), (6, .rsl 2 0 n n 1 false), (7, U q.2), (26, J n), (27, J r)], ⟨[bkCells nl (n : Int) ps, webC (n : Int) w, q.1.map I], []⟩)) :
    ∃ x_1 en s, lim (headed pure (run L) true [4, 6, 7, 26, 27] lp34_2 3 0) env st = some (x_1, en, s) ∧ (x_1 = .exit 0 ∧ en.get 6 = .rsl 2 0 n n 1 false ∧ s = ⟨[bkCells nl (n : Int) ps, webC (n : Int) w, (numR w n (n - r) q).1.map I], []⟩) := by
  refine loop_wp (α := Nat × List Int × Nat) (fun ⟨r, q⟩ => n - r) (fun ⟨r, q⟩ => r ≤ n ∧ Know w n q) (fun ⟨r, q⟩ => ([(4, .ptr 1 0), (6, .rsl 2 0 n n 1 false), (7, U q.2), (26, J n), (27, J r)], ⟨[bkCells nl (n : Int) ps, webC (n : Int) w, q.1.map I], []⟩)) (fun ⟨r, q⟩ x_1 en s => x_1 = .exit 0 ∧ en.get 6 = .rsl 2 0 n n 1 false ∧ s = ⟨[bkCells nl (n : Int) ps, webC (n : Int) w, (numR w n (n - r) q).1.map I], []⟩) (fun ⟨r, q⟩ hok => ?_) ⟨r, q⟩ hok env st hg
  simp only at hok
  obtain ⟨h1, h2⟩ := hok
  dsimp only at h1 h2 ⊢
  by_cases h : r < n
  · have hs := succ64 r (by omega)
    have hlt : ((r : Int) < (n : Int)) = True := eq_true (by omega)
    have hr : numR w n (n - r) q = numR w n (n - (r + 1)) (numRound w n q) := by
      rw [show n - r = (n - (r + 1)) + 1 by omega]; rfl
    have g0 := getW0 (n : Int) w
    have hlw := lenW (n : Int) w
    rw [ho] at hlw
    have hsl : sliceaAV 7 1 false (.ptr 1 1) none (some (.v (.int .i64 (n : Int)))) none = some (.rsl 1 1 n 7 1 false) := by
      simp only [sliceaAV, natOr, natOf]
      simp; omega
    rw [hr]
    simp only [go_sem, reduceIte, Nat.reduceEqDiff, Nat.reduceAdd, Nat.reduceSub, Nat.reduceLeDiff, Nat.reduceLT, reduceCtorEq, Int.reduceLT, Int.reduceLE, Int.reduceEq, Int.reduceBEq, Int.reduceSub, Int.reduceAdd, Int.reduceMul, Int.reduceNeg, Int.reduceToNat, Nat.reduceMul, Nat.reduceBEq, index_rsl_if, setm, make_ints, condK_dec, wantK_dec, not_dec, and_dec, or_dec, seqK_ite, seqK_none, blockK_ite, blockK_none, opsK_ite, opsK_none, stepK_ite, stepK_none, bodyK_ite, bodyK_none, resK_ite, resK_none, leaveK_ite, leaveK_none, only_ite, only_none, bind_ite, gives_some, gives_none, gives_ite, then_normal, then_ret, then_exit, then_none, then_ite, Option.bind_none, Bool.not_eq_true', decide_eq_false_iff_not, Bool.and_eq_true, Bool.or_eq_true, Option.some.injEq, Int.not_lt, Int.not_le, lp34_2, hlt, hs, g0, hlw, hsl]
    generalize hg : lim (headed pure (run L) true _ lp34_1 _ _) _ _ = o
    obtain ⟨x, en, s, rfl, h2⟩ : ∃ x en s, o = some (x, en, s) ∧ _ := by rw [← hg]; exact loop34_1 nl n hn ps w ho hsm hwn (r : Int) 0 q ⟨by omega, h2⟩ _ _ (by simp only [go_sem, reduceIte, Nat.reduceEqDiff, Nat.reduceAdd, Nat.reduceSub, Nat.reduceLeDiff, Nat.reduceLT, reduceCtorEq, Int.reduceLT, Int.reduceLE, Int.reduceEq, Int.reduceBEq, Int.reduceSub, Int.reduceAdd, Int.reduceMul, Int.reduceNeg, Int.reduceToNat, Nat.reduceMul, Nat.reduceBEq, okRefsW, renCellsW, Int.natCast_zero] <;> rfl)
    clear hg
    rw [Nat.sub_zero] at h2
    obtain ⟨rfl, e4, e6, e7, e26, e27, rfl, hk⟩ := h2
    have hR : (List.range' 0 n).foldl (numStep w) q = numRound w n q := rfl
    rw [hR] at e7 hk
    rw [hR]
    generalize numRound w n q = q2 at *
    simp only [go_sem, reduceIte, Nat.reduceEqDiff, Nat.reduceAdd, Nat.reduceSub, Nat.reduceLeDiff, Nat.reduceLT, reduceCtorEq, Int.reduceLT, Int.reduceLE, Int.reduceEq, Int.reduceBEq, Int.reduceSub, Int.reduceAdd, Int.reduceMul, Int.reduceNeg, Int.reduceToNat, Nat.reduceMul, Nat.reduceBEq, index_rsl_if, setm, make_ints, condK_dec, wantK_dec, not_dec, and_dec, or_dec, seqK_ite, seqK_none, blockK_ite, blockK_none, opsK_ite, opsK_none, stepK_ite, stepK_none, bodyK_ite, bodyK_none, resK_ite, resK_none, leaveK_ite, leaveK_none, only_ite, only_none, bind_ite, gives_some, gives_none, gives_ite, then_normal, then_ret, then_exit, then_none, then_ite, Option.bind_none, Bool.not_eq_true', decide_eq_false_iff_not, Bool.and_eq_true, Bool.or_eq_true, Option.some.injEq, Int.not_lt, Int.not_le, lp34_2, hs, e4, e6, e7, e26, e27]
    refine ⟨(r + 1, q2), by simp only [go_sem, reduceIte, Nat.reduceEqDiff, Nat.reduceAdd, Nat.reduceSub, Nat.reduceLeDiff, Nat.reduceLT, reduceCtorEq, Int.reduceLT, Int.reduceLE, Int.reduceEq, Int.reduceBEq, Int.reduceSub, Int.reduceAdd, Int.reduceMul, Int.reduceNeg, Int.reduceToNat, Nat.reduceMul, Nat.reduceBEq, ren1_locm, loc_tips, locT_eq, okRefsW, renCellsW, e4, e6, e7, e26, e27] <;> rfl, ?_, ?_, fun x en s hq => ?_⟩
    · dsimp only; exact ⟨by omega, hk⟩
    · dsimp only; omega
    · exact hq
  · have hr : n - r = 0 := by omega
    have hlt : ((r : Int) < (n : Int)) = False := eq_false (by omega)
    rw [hr]
    simp only [go_sem, reduceIte, Nat.reduceEqDiff, Nat.reduceAdd, Nat.reduceSub, Nat.reduceLeDiff, Nat.reduceLT, reduceCtorEq, Int.reduceLT, Int.reduceLE, Int.reduceEq, Int.reduceBEq, Int.reduceSub, Int.reduceAdd, Int.reduceMul, Int.reduceNeg, Int.reduceToNat, Nat.reduceMul, Nat.reduceBEq, index_rsl_if, setm, make_ints, condK_dec, wantK_dec, not_dec, and_dec, or_dec, seqK_ite, seqK_none, blockK_ite, blockK_none, opsK_ite, opsK_none, stepK_ite, stepK_none, bodyK_ite, bodyK_none, resK_ite, resK_none, leaveK_ite, leaveK_none, only_ite, only_none, bind_ite, gives_some, gives_none, gives_ite, then_normal, then_ret, then_exit, then_none, then_ite, Option.bind_none, Bool.not_eq_true', decide_eq_false_iff_not, Bool.and_eq_true, Bool.or_eq_true, Option.some.injEq, Int.not_lt, Int.not_le, lp34_2, hlt]
    rfl

def numO (n : Nat) (w : List Nat) : List Int := (numR w n n (negL n, 0)).1
theorem num_all {n : Nat} (hn : n ≤ 7) {w : List Nat} (hsm : ∀ x ∈ w, x < 128) (hwn : ∀ a b, (w.getD a 0).testBit b = true → b < n) (hself : ∀ x, (w.getD x 0).testBit x = false) :
    (numO n w).length = n ∧ (circL n w = [] → ∀ x, x < n → ∃ v : Nat, (numO n w).getD x (-1) = v ∧ Num w x v) ∧ (circL n w ≠ [] → (-1 : Int) ∈ numO n w) := by
  obtain ⟨h1, h2⟩ := num_rounds hn hsm hwn n (negL n, 0) (know_start w n)
  have hK : (numR w n n (negL n, 0)).2 < 128 := Nat.lt_of_lt_of_le h1.lt (Nat.pow_le_pow_right (n := 2) (by omega) hn)
  refine ⟨h1.len, fun he x hx => ?_, fun he => ?_⟩
  · have hb : (numR w n n (negL n, 0)).2.testBit x = true := by
      rcases h2 with h2 | h2
      · cases e : (numR w n n (negL n, 0)).2.testBit x
        · exact absurd he (some_circ hn hsm hwn hself hK h2 hx e)
        · rfl
      · exact card_full (by omega) hx
    obtain ⟨v, e, _, hv⟩ := h1.yes x hb
    exact ⟨v, e, hv⟩
  · apply Classical.byContradiction
    intro hno
    apply he
    refine no_circ hn fun x hx => ?_
    cases e : (numR w n n (negL n, 0)).2.testBit x
    · have := h1.no x hx e
      exfalso
      apply hno
      have hl : x < (numO n w).length := by
        have := h1.len
        unfold numO; omega
      have e2 : (numO n w)[x] = -1 := by
        have : (numO n w).getD x (-1) = -1 := this
        rw [List.getD_eq_getElem?_getD, List.getElem?_eq_getElem hl] at this
        exact this
      rw [← e2]
      exact List.getElem_mem hl
    · obtain ⟨v, _, _, hv⟩ := h1.yes x e
      exact ⟨v, hv⟩
/-- What Numbers answers. -/
def numV (n : Int) (ps : List (Int × Int)) : List Int := if chk n ps = 0 then if allN n ps = [] then numO n.toNat (seeL 7 ps) else [] else []
def numE (n : Int) (ps : List (Int × Int)) : Int := if chk n ps = 0 then if allN n ps = [] then 0 else 13 else chk n ps
theorem self_no {ps : List (Int × Int)} {n : Int} (h3 : ∀ p ∈ ps, goodP n p) (h4 : ∀ p ∈ ps, okP p) (x : Nat) : ((seeL 7 ps).getD x 0).testBit x = false := by
  rw [seeL_bit (Nat.le_refl 7) h4, decide_eq_false_iff_not]
  intro h
  exact (h3 _ h).2.2.2.2 rfl
theorem frzV_made (l : Nat) (O : List Int) (h : O ≠ []) : frzV l (O.map I) (.rsl l 0 O.length O.length 1 false) = sl 1 true (O.map I) := by
  simp only [frzV, List.length_map, List.drop_zero]
  rw [if_pos ⟨trivial, by omega, .inr trivial, Nat.le_refl _⟩, pubs_map I (fun _ => rfl), groupm_one I (fun _ => rfl), sl_ne (by simpa using h)]
theorem frzVs_web (l : Nat) (cs : List AV) (n : Int) (w : List Nat) : frzVs l cs (webC n w) = webC n w := by
  unfold webC
  simp only [frzVs, frzV_v, frzVs_U]
set_option maxHeartbeats 1000000 in
theorem c34 (nl : Bool) (n : Int) (ps : List (Int × Int)) (st : St) : run L 34 [bkAV nl n ps] st = some (.tup [tAV (numV n ps), I (numE n ps)], st) := by
  rw [run_pure (fn := ir34) rfl rfl]
  have h65 := fun st => c65 nl n ps st
  unfold numV numE
  by_cases h : chk n ps = 0
  · obtain ⟨h1, hl16, h3, h4, h5⟩ := chk_zero h
    obtain ⟨k, rfl⟩ := Int.eq_ofNat_of_zero_le (show 0 ≤ n by omega)
    have hw : wovL (k : Int) ps = seeL 7 ps := by unfold wovL; rw [if_pos h]
    rw [hw] at h65
    rw [if_pos h, if_pos h, Int.toNat_natCast]
    have hwn := seeL_in (Nat.le_refl 7) (fun p hp => h3 p hp) h4
    obtain ⟨hol, ho1, ho2⟩ := num_all (by omega) (seeL_small 7 h4) hwn (self_no (fun p hp => h3 p hp) h4)
    have hall : circL k (seeL 7 ps) = allN (k : Int) ps := by unfold allN; rw [Int.toNat_natCast]
    rw [hall] at ho1 ho2
    have hlw := lenW (k : Int) (seeL 7 ps)
    rw [seeL_len] at hlw
    have hpw := putW (k : Int) (seeL 7 ps) (seeL_len 7 ps)
    have g0 := getW0 (k : Int) (seeL 7 ps)
    have h79 := c79 k (by omega) (by omega)
    have hshI : ∀ (m : Nat) (O : List Int), shVs m (O.map I) = O.map I := by
      intro m O
      induction O with
      | nil => rfl
      | cons x r ih => simp only [List.map_cons, shVs, shV, ih]
    have hone : numO k (seeL 7 ps) ≠ [] := by intro e; rw [e] at hol; simp at hol; omega
    have hfz := fun T env => frzL2c (a := bkCells nl (k : Int) ps) (b := webC (k : Int) (seeL 7 ps)) (cs := (numO k (seeL 7 ps)).map I) (by simpa using hone) T env
    have hfv := frzV_made 2 (numO k (seeL 7 ps)) hone
    rw [hol] at hfv
    have h57 := fun st => c57 true (numO k (seeL 7 ps)) (by omega) (-1) st
    have hnO : (numR (seeL 7 ps) k k (negL k, 0)).1 = numO k (seeL 7 ps) := rfl
    have et : tAV (numO k (seeL 7 ps)) = sl 1 true ((numO k (seeL 7 ps)).map I) := rfl
    simp only [ir34, go_sem, reduceIte, Nat.reduceEqDiff, Nat.reduceAdd, Nat.reduceSub, Nat.reduceLeDiff, Nat.reduceLT, reduceCtorEq, Int.reduceLT, Int.reduceLE, Int.reduceEq, Int.reduceBEq, Int.reduceSub, Int.reduceAdd, Int.reduceMul, Int.reduceNeg, Int.reduceToNat, Nat.reduceMul, Nat.reduceBEq, h65, h, hlw, hpw, g0, pubsW, storableW, h79, shV, shStore, hshI, show pure 79 = false from rfl]
    generalize hg : lim (headed pure (run L) true _ lp34_2 _ _) _ _ = o
    obtain ⟨x, en, s, rfl, h2⟩ : ∃ x en s, o = some (x, en, s) ∧ _ := by rw [← hg]; exact loop34_2 nl k (by omega) ps (seeL 7 ps) (seeL_len 7 ps) (seeL_small 7 h4) hwn 0 (negL k, 0) ⟨by omega, know_start _ _⟩ _ _ (by simp only [go_sem, reduceIte, Nat.reduceEqDiff, Nat.reduceAdd, Nat.reduceSub, Nat.reduceLeDiff, Nat.reduceLT, reduceCtorEq, Int.reduceLT, Int.reduceLE, Int.reduceEq, Int.reduceBEq, Int.reduceSub, Int.reduceAdd, Int.reduceMul, Int.reduceNeg, Int.reduceToNat, Nat.reduceMul, Nat.reduceBEq, okRefsW, renCellsW, Int.natCast_zero] <;> rfl)
    clear hg
    rw [Nat.sub_zero, hnO] at h2
    obtain ⟨rfl, e6, rfl⟩ := h2
    by_cases he : allN (k : Int) ps = []
    · have hno : ((-1 : Int) ∈ numO k (seeL 7 ps)) = False := eq_false (fun hm => by
        obtain ⟨x, hx, e⟩ := List.getElem_of_mem hm
        obtain ⟨v, e2, _⟩ := ho1 he x (by omega)
        rw [List.getD_eq_getElem?_getD, List.getElem?_eq_getElem hx, Option.getD_some, e] at e2
        omega)
      rw [if_pos he, if_pos he, et]
      simp only [go_sem, reduceIte, Nat.reduceEqDiff, Nat.reduceAdd, Nat.reduceSub, Nat.reduceLeDiff, Nat.reduceLT, reduceCtorEq, Int.reduceLT, Int.reduceLE, Int.reduceEq, Int.reduceBEq, Int.reduceSub, Int.reduceAdd, Int.reduceMul, Int.reduceNeg, Int.reduceToNat, Nat.reduceMul, Nat.reduceBEq, e6, code_frz, frzAV, frzT, frzLs, rslsOf, hfz, frzEnv, frzEnv_get, frzV_v, frzV_ptr, frzV_sl, frzV_agg, frzV_tup, frzVs, frzVs_web, hfv, h57, hno]
    · have hye : ((-1 : Int) ∈ numO k (seeL 7 ps)) = True := eq_true (ho2 he)
      rw [if_neg he, if_neg he]
      simp only [go_sem, reduceIte, Nat.reduceEqDiff, Nat.reduceAdd, Nat.reduceSub, Nat.reduceLeDiff, Nat.reduceLT, reduceCtorEq, Int.reduceLT, Int.reduceLE, Int.reduceEq, Int.reduceBEq, Int.reduceSub, Int.reduceAdd, Int.reduceMul, Int.reduceNeg, Int.reduceToNat, Nat.reduceMul, Nat.reduceBEq, e6, code_frz, frzAV, frzT, frzLs, rslsOf, hfz, frzEnv, frzEnv_get, frzV_v, frzV_ptr, frzV_sl, frzV_agg, frzV_tup, frzVs, frzVs_web, hfv, h57, hye]
      rfl
  · rw [if_neg h, if_neg h]
    have hl7 : (wovL n ps).length = 7 := by unfold wovL; rw [if_neg h]; simp
    have hlw := lenW n (wovL n ps)
    rw [hl7] at hlw
    have hpw := putW n (wovL n ps) hl7
    simp only [ir34, go_sem, reduceIte, Nat.reduceEqDiff, Nat.reduceAdd, Nat.reduceSub, Nat.reduceLeDiff, Nat.reduceLT, reduceCtorEq, Int.reduceLT, Int.reduceLE, Int.reduceEq, Int.reduceBEq, Int.reduceSub, Int.reduceAdd, Int.reduceMul, Int.reduceNeg, Int.reduceToNat, Nat.reduceMul, Nat.reduceBEq, h65, h, hlw, hpw, pubsW, storableW]
    rfl

attribute [local go_sem] shaped_t cells_t isAgg_t storable_t okRef_t pub_t okRef_v pub_v len_v

/-! ### the reference's numbers -/
theorem loop80_0 (nl : Bool) (n : Nat) (hn : n ≤ 7) (ps : List (Int × Int)) (hps : ps.length < 1000000) (h7 : ∀ p ∈ ps, okP p) (x : Nat) (f : Nat → Nat) (hrec : ∀ y, y ∈ bitsL ((seeL 7 ps).getD x 0) → ∀ st, run L 80 [bkAV nl (n : Int) ps, J y] st = some (J (f y), st)) (i : Nat) (V : List Int) (hok : i ≤ n ∧ V.length ≤ i) (env : Env) (st : St)
    (hg : gcAV true 1 0 (canon env [1, 2, 5, 6]) st = ([(1, J x), (2, .ptr 0 0), (5, vAV V), (6, J i)], ⟨[bkCells nl (n : Int) ps], vT V⟩)) :
    ∃ x_1 en s, lim (headed pure (run L) true [1, 2, 5, 6] lp80_0 1 0) env st = some (x_1, en, s) ∧ (x_1 = .exit 0 ∧ en.get 5 = vAV (V ++ ((List.range' i (n - i)).filter ((seeL 7 ps).getD x 0).testBit).map fun y => ((f y : Nat) : Int)) ∧ s = ⟨[bkCells nl (n : Int) ps], vT (V ++ ((List.range' i (n - i)).filter ((seeL 7 ps).getD x 0).testBit).map fun y => ((f y : Nat) : Int))⟩) := by
  refine loop_wp (α := Nat × List Int) (fun ⟨i, V⟩ => n - i) (fun ⟨i, V⟩ => i ≤ n ∧ V.length ≤ i) (fun ⟨i, V⟩ => ([(1, J x), (2, .ptr 0 0), (5, vAV V), (6, J i)], ⟨[bkCells nl (n : Int) ps], vT V⟩)) (fun ⟨i, V⟩ x_1 en s => x_1 = .exit 0 ∧ en.get 5 = vAV (V ++ ((List.range' i (n - i)).filter ((seeL 7 ps).getD x 0).testBit).map fun y => ((f y : Nat) : Int)) ∧ s = ⟨[bkCells nl (n : Int) ps], vT (V ++ ((List.range' i (n - i)).filter ((seeL 7 ps).getD x 0).testBit).map fun y => ((f y : Nat) : Int))⟩) (fun ⟨i, V⟩ hok => ?_) ⟨i, V⟩ hok env st hg
  simp only at hok
  obtain ⟨h1, h2⟩ := hok
  dsimp only at h1 h2 ⊢
  have hb0 : (bkCells nl (n : Int) ps)[0]? = some (I (n : Int)) := rfl
  by_cases h : i < n
  · have hs := succ64 i (by omega)
    have hlt : ((i : Int) < (n : Int)) = True := eq_true (by omega)
    have hr : List.range' i (n - i) = i :: List.range' (i + 1) (n - (i + 1)) := by
      rw [show n - i = (n - (i + 1)) + 1 by omega, List.range'_succ]
    have h71 := fun st => c71 nl (n : Int) ps hps ((x : Nat) : Int) ((i : Nat) : Int) st
    have hbit : decide ((((x : Nat) : Int), ((i : Nat) : Int)) ∈ ps) = ((seeL 7 ps).getD x 0).testBit i := (seeL_bit (Nat.le_refl 7) h7 _ _).symm
    rw [hbit] at h71
    rw [hr]
    cases hb : ((seeL 7 ps).getD x 0).testBit i
    · rw [hb] at h71
      rw [List.filter_cons_of_neg (by rw [hb]; simp)]
      simp only [go_sem, reduceIte, Nat.reduceEqDiff, Nat.reduceAdd, Nat.reduceSub, Nat.reduceLeDiff, Nat.reduceLT, reduceCtorEq, Int.reduceLT, Int.reduceLE, Int.reduceEq, Int.reduceBEq, Int.reduceSub, Int.reduceAdd, Int.reduceMul, Int.reduceNeg, Int.reduceToNat, Nat.reduceMul, Nat.reduceBEq, index_rsl_if, setm, make_ints, condK_dec, wantK_dec, not_dec, and_dec, or_dec, seqK_ite, seqK_none, blockK_ite, blockK_none, opsK_ite, opsK_none, stepK_ite, stepK_none, bodyK_ite, bodyK_none, resK_ite, resK_none, leaveK_ite, leaveK_none, only_ite, only_none, bind_ite, gives_some, gives_none, gives_ite, then_normal, then_ret, then_exit, then_none, then_ite, Option.bind_none, Bool.not_eq_true', decide_eq_false_iff_not, Bool.and_eq_true, Bool.or_eq_true, Option.some.injEq, Int.not_lt, Int.not_le, lp80_0, hb0, hlt, hs, h71]
      refine ⟨(i + 1, V), by simp only [go_sem, reduceIte, Nat.reduceEqDiff, Nat.reduceAdd, Nat.reduceSub, Nat.reduceLeDiff, Nat.reduceLT, reduceCtorEq, Int.reduceLT, Int.reduceLE, Int.reduceEq, Int.reduceBEq, Int.reduceSub, Int.reduceAdd, Int.reduceMul, Int.reduceNeg, Int.reduceToNat, Nat.reduceMul, Nat.reduceBEq, ren1_locm, loc_tips, locT_eq, ren1_v, vAcc_snd] <;> rfl, ?_, ?_, fun x en s hq => ?_⟩
      · dsimp only; omega
      · dsimp only; omega
      · exact hq
    · rw [hb] at h71
      rw [List.filter_cons_of_pos hb, List.map_cons]
      have h80 := hrec i (List.mem_filter.2 ⟨List.mem_range.2 (by omega), hb⟩)
      have happ := fun S => append_v V ((f i : Nat) : Int) S (by omega)
      simp only [go_sem, reduceIte, Nat.reduceEqDiff, Nat.reduceAdd, Nat.reduceSub, Nat.reduceLeDiff, Nat.reduceLT, reduceCtorEq, Int.reduceLT, Int.reduceLE, Int.reduceEq, Int.reduceBEq, Int.reduceSub, Int.reduceAdd, Int.reduceMul, Int.reduceNeg, Int.reduceToNat, Nat.reduceMul, Nat.reduceBEq, index_rsl_if, setm, make_ints, condK_dec, wantK_dec, not_dec, and_dec, or_dec, seqK_ite, seqK_none, blockK_ite, blockK_none, opsK_ite, opsK_none, stepK_ite, stepK_none, bodyK_ite, bodyK_none, resK_ite, resK_none, leaveK_ite, leaveK_none, only_ite, only_none, bind_ite, gives_some, gives_none, gives_ite, then_normal, then_ret, then_exit, then_none, then_ite, Option.bind_none, Bool.not_eq_true', decide_eq_false_iff_not, Bool.and_eq_true, Bool.or_eq_true, Option.some.injEq, Int.not_lt, Int.not_le, lp80_0, hb0, hlt, hs, h71, h80, happ]
      refine ⟨(i + 1, V ++ [((f i : Nat) : Int)]), by simp only [go_sem, reduceIte, Nat.reduceEqDiff, Nat.reduceAdd, Nat.reduceSub, Nat.reduceLeDiff, Nat.reduceLT, reduceCtorEq, Int.reduceLT, Int.reduceLE, Int.reduceEq, Int.reduceBEq, Int.reduceSub, Int.reduceAdd, Int.reduceMul, Int.reduceNeg, Int.reduceToNat, Nat.reduceMul, Nat.reduceBEq, ren1_locm, loc_tips, locT_eq, ren1_v, vAcc_snd] <;> rfl, ?_, ?_, fun x en s hq => ?_⟩
      · dsimp only; exact ⟨by omega, by rw [List.length_append, List.length_singleton]; omega⟩
      · dsimp only; omega
      · simp only [List.append_assoc, List.cons_append, List.nil_append] at hq; exact hq
  · have hr : n - i = 0 := by omega
    have hlt : ((i : Int) < (n : Int)) = False := eq_false (by omega)
    rw [hr]
    simp only [go_sem, reduceIte, Nat.reduceEqDiff, Nat.reduceAdd, Nat.reduceSub, Nat.reduceLeDiff, Nat.reduceLT, reduceCtorEq, Int.reduceLT, Int.reduceLE, Int.reduceEq, Int.reduceBEq, Int.reduceSub, Int.reduceAdd, Int.reduceMul, Int.reduceNeg, Int.reduceToNat, Nat.reduceMul, Nat.reduceBEq, index_rsl_if, setm, make_ints, condK_dec, wantK_dec, not_dec, and_dec, or_dec, seqK_ite, seqK_none, blockK_ite, blockK_none, opsK_ite, opsK_none, stepK_ite, stepK_none, bodyK_ite, bodyK_none, resK_ite, resK_none, leaveK_ite, leaveK_none, only_ite, only_none, bind_ite, gives_some, gives_none, gives_ite, then_normal, then_ret, then_exit, then_none, then_ite, Option.bind_none, Bool.not_eq_true', decide_eq_false_iff_not, Bool.and_eq_true, Bool.or_eq_true, Option.some.injEq, Int.not_lt, Int.not_le, lp80_0, hb0, hlt]
    simp

theorem loop80_1 (nl : Bool) (n : Nat) (ps : List (Int × Int)) (G : List Nat) (hGl : G.length < 1000) (V : List Int) (hV : V = G.map fun y => ((y : Nat) : Int)) (v : Nat) (hm : isMex G v) (hv : v < 1000) (th : Nat) (hth : th = (vT V).length) (m : Nat) (hok : m ≤ v) (env : Env) (st : St)
    (hg : gcAV true 1 th (canon env [5, 7]) st = ([(5, vAV V), (7, J m)], ⟨[bkCells nl (n : Int) ps], vT V⟩)) :
    ∃ x_1 en s, lim (headed pure (run L) true [5, 7] lp80_1 1 th) env st = some (x_1, en, s) ∧ (x_1 = .exit 2 ∧ en.get 7 = J v) := by
  refine loop_wp (α := Nat) (fun m => v - m) (fun m => m ≤ v) (fun m => ([(5, vAV V), (7, J m)], ⟨[bkCells nl (n : Int) ps], vT V⟩)) (fun m x_1 en s => x_1 = .exit 2 ∧ en.get 7 = J v) (fun m hok => ?_) m hok env st hg
  subst hth
  have h77 : ∀ st, run L 77 [vAV V, J m] st = some (B (decide (m ∈ G)), st) := fun st => by
    have := c77 true V (by rw [hV, List.length_map]; omega) (m : Int) st
    have e : decide (((m : Nat) : Int) ∈ V) = decide (m ∈ G) := by
      rw [decide_eq_decide, hV, List.mem_map]
      exact ⟨fun ⟨y, hy, e⟩ => by obtain rfl : y = m := by omega
                                  exact hy, fun h => ⟨m, h, rfl⟩⟩
    rw [e] at this
    rw [← this]
    exact run_args (fn := ir77) rfl rfl st (by simp only [pubs, pub_v, pub_sl])
  by_cases h : m = v
  · have hno : (m ∈ G) = False := eq_false (by rw [h]; exact hm.1)
    simp only [go_sem, reduceIte, Nat.reduceEqDiff, Nat.reduceAdd, Nat.reduceSub, Nat.reduceLeDiff, Nat.reduceLT, reduceCtorEq, Int.reduceLT, Int.reduceLE, Int.reduceEq, Int.reduceBEq, Int.reduceSub, Int.reduceAdd, Int.reduceMul, Int.reduceNeg, Int.reduceToNat, Nat.reduceMul, Nat.reduceBEq, index_rsl_if, setm, make_ints, condK_dec, wantK_dec, not_dec, and_dec, or_dec, seqK_ite, seqK_none, blockK_ite, blockK_none, opsK_ite, opsK_none, stepK_ite, stepK_none, bodyK_ite, bodyK_none, resK_ite, resK_none, leaveK_ite, leaveK_none, only_ite, only_none, bind_ite, gives_some, gives_none, gives_ite, then_normal, then_ret, then_exit, then_none, then_ite, Option.bind_none, Bool.not_eq_true', decide_eq_false_iff_not, Bool.and_eq_true, Bool.or_eq_true, Option.some.injEq, Int.not_lt, Int.not_le, lp80_1, h77, hno]
    rw [h]
  · have hye : (m ∈ G) = True := eq_true (hm.2 m (by omega))
    have hs := succ64 m (by omega)
    simp only [go_sem, reduceIte, Nat.reduceEqDiff, Nat.reduceAdd, Nat.reduceSub, Nat.reduceLeDiff, Nat.reduceLT, reduceCtorEq, Int.reduceLT, Int.reduceLE, Int.reduceEq, Int.reduceBEq, Int.reduceSub, Int.reduceAdd, Int.reduceMul, Int.reduceNeg, Int.reduceToNat, Nat.reduceMul, Nat.reduceBEq, index_rsl_if, setm, make_ints, condK_dec, wantK_dec, not_dec, and_dec, or_dec, seqK_ite, seqK_none, blockK_ite, blockK_none, opsK_ite, opsK_none, stepK_ite, stepK_none, bodyK_ite, bodyK_none, resK_ite, resK_none, leaveK_ite, leaveK_none, only_ite, only_none, bind_ite, gives_some, gives_none, gives_ite, then_normal, then_ret, then_exit, then_none, then_ite, Option.bind_none, Bool.not_eq_true', decide_eq_false_iff_not, Bool.and_eq_true, Bool.or_eq_true, Option.some.injEq, Int.not_lt, Int.not_le, lp80_1, h77, hye, hs]
    refine ⟨m + 1, by simp only [go_sem, reduceIte, Nat.reduceEqDiff, Nat.reduceAdd, Nat.reduceSub, Nat.reduceLeDiff, Nat.reduceLT, reduceCtorEq, Int.reduceLT, Int.reduceLE, Int.reduceEq, Int.reduceBEq, Int.reduceSub, Int.reduceAdd, Int.reduceMul, Int.reduceNeg, Int.reduceToNat, Nat.reduceMul, Nat.reduceBEq, ren1_locm, loc_tips, locT_eq, ren1_vh, List.take_length] <;> rfl, ?_, ?_, fun x en s hq => ?_⟩
    · omega
    · omega
    · exact hq

theorem c80 (nl : Bool) (n : Nat) (hn : n ≤ 7) (ps : List (Int × Int)) (hps : ps.length < 1000000) (h7 : ∀ p ∈ ps, okP p) (hwn : ∀ a b, ((seeL 7 ps).getD a 0).testBit b = true → b < n) {x v : Nat} (h : Num (seeL 7 ps) x v) :
    ∀ st, run L 80 [bkAV nl (n : Int) ps, J x] st = some (J v, st) := by
  induction h with
  | mk x f v h hm ih =>
    intro st
    rw [run_pure (fn := ir80) rfl rfl]
    have hbl := bits_len ((seeL 7 ps).getD x 0)
    have hv : v ≤ 7 := by
      have h1 : (List.range v).length ≤ ((bitsL ((seeL 7 ps).getD x 0)).map f).length := nodup_len_le _ _ List.nodup_range (fun j hj => hm.2 j (List.mem_range.1 hj))
      rw [List.length_range, List.length_map] at h1; omega
    have hbr := bits_range hn (a := 0) (by omega) (m := (seeL 7 ps).getD x 0) (fun y hy => ⟨Nat.zero_le _, hwn x y hy⟩)
    rw [Nat.sub_zero] at hbr
    simp only [ir80, go_sem, reduceIte, Nat.reduceEqDiff, Nat.reduceAdd, Nat.reduceSub, Nat.reduceLeDiff, Nat.reduceLT, reduceCtorEq, Int.reduceLT, Int.reduceLE, Int.reduceEq, Int.reduceBEq, Int.reduceSub, Int.reduceAdd, Int.reduceMul, Int.reduceNeg, Int.reduceToNat, Nat.reduceMul, Nat.reduceBEq]
    generalize hg : lim (headed pure (run L) true _ lp80_0 _ _) _ _ = o
    obtain ⟨x, en, s, rfl, h2⟩ : ∃ x en s, o = some (x, en, s) ∧ _ := by rw [← hg]; exact loop80_0 nl n hn ps hps h7 x f ih 0 [] ⟨by omega, by simp⟩ _ _ (by simp only [go_sem, reduceIte, Nat.reduceEqDiff, Nat.reduceAdd, Nat.reduceSub, Nat.reduceLeDiff, Nat.reduceLT, reduceCtorEq, Int.reduceLT, Int.reduceLE, Int.reduceEq, Int.reduceBEq, Int.reduceSub, Int.reduceAdd, Int.reduceMul, Int.reduceNeg, Int.reduceToNat, Nat.reduceMul, Nat.reduceBEq, show vAV [] = .v (.slice none 0 0) from rfl, show vT [] = [] from rfl, Int.natCast_zero] <;> rfl)
    clear hg
    rw [Nat.sub_zero, ← hbr, List.nil_append] at h2
    obtain ⟨rfl, e5, rfl⟩ := h2
    have hren := ren1_vh ((bitsL ((seeL 7 ps).getD x 0)).map fun y => ((f y : Nat) : Int)) []
    simp only [go_sem, reduceIte, Nat.reduceEqDiff, Nat.reduceAdd, Nat.reduceSub, Nat.reduceLeDiff, Nat.reduceLT, reduceCtorEq, Int.reduceLT, Int.reduceLE, Int.reduceEq, Int.reduceBEq, Int.reduceSub, Int.reduceAdd, Int.reduceMul, Int.reduceNeg, Int.reduceToNat, Nat.reduceMul, Nat.reduceBEq, e5]
    generalize hg : lim (headed pure (run L) true _ lp80_1 _ _) _ _ = o
    obtain ⟨x, en, s, rfl, h2⟩ : ∃ x en s, o = some (x, en, s) ∧ _ := by rw [← hg]; exact loop80_1 nl n ps ((bitsL ((seeL 7 ps).getD x 0)).map f) (by rw [List.length_map]; omega) ((bitsL ((seeL 7 ps).getD x 0)).map fun y => ((f y : Nat) : Int)) (by rw [List.map_map]; rfl) v hm (by omega) _ rfl 0 (by omega) _ _ (by simp only [go_sem, reduceIte, Nat.reduceEqDiff, Nat.reduceAdd, Nat.reduceSub, Nat.reduceLeDiff, Nat.reduceLT, reduceCtorEq, Int.reduceLT, Int.reduceLE, Int.reduceEq, Int.reduceBEq, Int.reduceSub, Int.reduceAdd, Int.reduceMul, Int.reduceNeg, Int.reduceToNat, Nat.reduceMul, Nat.reduceBEq, Int.natCast_zero, e5, hren, List.take_length] <;> rfl)
    clear hg
    obtain ⟨rfl, e7⟩ := h2
    simp only [go_sem, reduceIte, Nat.reduceEqDiff, Nat.reduceAdd, Nat.reduceSub, Nat.reduceLeDiff, Nat.reduceLT, reduceCtorEq, Int.reduceLT, Int.reduceLE, Int.reduceEq, Int.reduceBEq, Int.reduceSub, Int.reduceAdd, Int.reduceMul, Int.reduceNeg, Int.reduceToNat, Nat.reduceMul, Nat.reduceBEq, e7]

theorem loop35_0 (nl : Bool) (n : Nat) (hn : n ≤ 7) (ps : List (Int × Int)) (O : List Int) (hO : O.length = n) (h80 : ∀ i, i < n → ∀ st, run L 80 [bkAV nl (n : Int) ps, J i] st = some (I (O.getD i (-1)), st)) (i : Nat) (hok : i ≤ n) (env : Env) (st : St)
    (hg : gcAV true 1 0 (canon env [1, 5, 6]) st = ([(1, .ptr 0 0), (5, vAV (O.take i)), (6, J i)], ⟨[bkCells nl (n : Int) ps], vT (O.take i)⟩)) :
    ∃ x_1 en s, lim (headed pure (run L) true [1, 5, 6] lp35_0 1 0) env st = some (x_1, en, s) ∧ (x_1 = .exit 0 ∧ en.get 5 = vAV O ∧ s = ⟨[bkCells nl (n : Int) ps], vT O⟩) := by
  refine loop_wp (α := Nat) (fun i => n - i) (fun i => i ≤ n) (fun i => ([(1, .ptr 0 0), (5, vAV (O.take i)), (6, J i)], ⟨[bkCells nl (n : Int) ps], vT (O.take i)⟩)) (fun i x_1 en s => x_1 = .exit 0 ∧ en.get 5 = vAV O ∧ s = ⟨[bkCells nl (n : Int) ps], vT O⟩) (fun i hok => ?_) i hok env st hg
  have hb0 : (bkCells nl (n : Int) ps)[0]? = some (I (n : Int)) := rfl
  by_cases h : i < n
  · have hs := succ64 i (by omega)
    have hlt : ((i : Int) < (n : Int)) = True := eq_true (by omega)
    have ht : O.take (i + 1) = O.take i ++ [O.getD i (-1)] := by
      rw [List.take_succ_eq_append_getElem (by omega), List.getD_eq_getElem?_getD, List.getElem?_eq_getElem (by omega)]; rfl
    have h1 := h80 i h
    have happ := fun S => append_v (O.take i) (O.getD i (-1)) S (by rw [List.length_take]; omega)
    rw [← ht] at happ
    simp only [go_sem, reduceIte, Nat.reduceEqDiff, Nat.reduceAdd, Nat.reduceSub, Nat.reduceLeDiff, Nat.reduceLT, reduceCtorEq, Int.reduceLT, Int.reduceLE, Int.reduceEq, Int.reduceBEq, Int.reduceSub, Int.reduceAdd, Int.reduceMul, Int.reduceNeg, Int.reduceToNat, Nat.reduceMul, Nat.reduceBEq, index_rsl_if, setm, make_ints, condK_dec, wantK_dec, not_dec, and_dec, or_dec, seqK_ite, seqK_none, blockK_ite, blockK_none, opsK_ite, opsK_none, stepK_ite, stepK_none, bodyK_ite, bodyK_none, resK_ite, resK_none, leaveK_ite, leaveK_none, only_ite, only_none, bind_ite, gives_some, gives_none, gives_ite, then_normal, then_ret, then_exit, then_none, then_ite, Option.bind_none, Bool.not_eq_true', decide_eq_false_iff_not, Bool.and_eq_true, Bool.or_eq_true, Option.some.injEq, Int.not_lt, Int.not_le, lp35_0, hb0, hlt, hs, h1, happ]
    refine ⟨i + 1, by simp only [go_sem, reduceIte, Nat.reduceEqDiff, Nat.reduceAdd, Nat.reduceSub, Nat.reduceLeDiff, Nat.reduceLT, reduceCtorEq, Int.reduceLT, Int.reduceLE, Int.reduceEq, Int.reduceBEq, Int.reduceSub, Int.reduceAdd, Int.reduceMul, Int.reduceNeg, Int.reduceToNat, Nat.reduceMul, Nat.reduceBEq, ren1_locm, loc_tips, locT_eq, ren1_v, vAcc_snd] <;> rfl, ?_, ?_, fun x en s hq => ?_⟩
    · omega
    · omega
    · exact hq
  · have ht : O.take i = O := List.take_of_length_le (by omega)
    have hlt : ((i : Int) < (n : Int)) = False := eq_false (by omega)
    rw [ht]
    simp only [go_sem, reduceIte, Nat.reduceEqDiff, Nat.reduceAdd, Nat.reduceSub, Nat.reduceLeDiff, Nat.reduceLT, reduceCtorEq, Int.reduceLT, Int.reduceLE, Int.reduceEq, Int.reduceBEq, Int.reduceSub, Int.reduceAdd, Int.reduceMul, Int.reduceNeg, Int.reduceToNat, Nat.reduceMul, Nat.reduceBEq, index_rsl_if, setm, make_ints, condK_dec, wantK_dec, not_dec, and_dec, or_dec, seqK_ite, seqK_none, blockK_ite, blockK_none, opsK_ite, opsK_none, stepK_ite, stepK_none, bodyK_ite, bodyK_none, resK_ite, resK_none, leaveK_ite, leaveK_none, only_ite, only_none, bind_ite, gives_some, gives_none, gives_ite, then_normal, then_ret, then_exit, then_none, then_ite, Option.bind_none, Bool.not_eq_true', decide_eq_false_iff_not, Bool.and_eq_true, Bool.or_eq_true, Option.some.injEq, Int.not_lt, Int.not_le, lp35_0, hb0, hlt]

theorem c35 (nl : Bool) (n : Int) (ps : List (Int × Int)) (st : St) : run L 35 [bkAV nl n ps] st = some (.tup [tAV (numV n ps), I (numE n ps)], st) := by
  rw [run_pure (fn := ir35) rfl rfl]
  have h25 := fun st => c25 nl n ps st
  unfold numV numE
  by_cases h : chk n ps = 0
  · obtain ⟨h1, hl16, h3, h4, h5⟩ := chk_zero h
    have hel := ev_len (n := n.toNat) (by omega) (seeL 7 ps)
    obtain ⟨f1, f2⟩ := evL_facts h
    obtain ⟨k, rfl⟩ := Int.eq_ofNat_of_zero_le (show 0 ≤ n by omega)
    rw [if_pos h, if_pos h, Int.toNat_natCast]
    rw [Int.toNat_natCast] at hel f1
    have hwn := seeL_in (Nat.le_refl 7) (fun p hp => h3 p hp) h4
    obtain ⟨hol, ho1, ho2⟩ := num_all (by omega) (seeL_small 7 h4) hwn (self_no (fun p hp => h3 p hp) h4)
    have hall : circL k (seeL 7 ps) = allN (k : Int) ps := by unfold allN; rw [Int.toNat_natCast]
    rw [hall] at ho1 hel
    have h76 := fun st => c76 nl k (by omega) ps (by omega) h4 st
    by_cases he : allN (k : Int) ps = []
    · rw [if_pos he, if_pos he]
      have hl0 : ((0 : Int) < ((evL (seeL 7 ps) k).length : Int)) = False := eq_false (by rw [hel, he]; simp)
      have h80 : ∀ i, i < k → ∀ st, run L 80 [bkAV nl (k : Int) ps, J i] st = some (I ((numO k (seeL 7 ps)).getD i (-1)), st) := fun i hi st => by
        obtain ⟨v, e, hv⟩ := ho1 he i hi
        rw [e]
        exact c80 nl k (by omega) ps (by omega) h4 hwn hv st
      have hone : numO k (seeL 7 ps) ≠ [] := by intro e; rw [e] at hol; simp at hol; omega
      simp only [ir35, go_sem, reduceIte, Nat.reduceEqDiff, Nat.reduceAdd, Nat.reduceSub, Nat.reduceLeDiff, Nat.reduceLT, reduceCtorEq, Int.reduceLT, Int.reduceLE, Int.reduceEq, Int.reduceBEq, Int.reduceSub, Int.reduceAdd, Int.reduceMul, Int.reduceNeg, Int.reduceToNat, Nat.reduceMul, Nat.reduceBEq, h25, h, h76, len_LA, hl0]
      generalize hg : lim (headed pure (run L) true _ lp35_0 _ _) _ _ = o
      obtain ⟨x, en, s, rfl, h2⟩ : ∃ x en s, o = some (x, en, s) ∧ _ := by rw [← hg]; exact loop35_0 nl k (by omega) ps (numO k (seeL 7 ps)) hol h80 0 (by omega) _ _ (by simp only [go_sem, reduceIte, Nat.reduceEqDiff, Nat.reduceAdd, Nat.reduceSub, Nat.reduceLeDiff, Nat.reduceLT, reduceCtorEq, Int.reduceLT, Int.reduceLE, Int.reduceEq, Int.reduceBEq, Int.reduceSub, Int.reduceAdd, Int.reduceMul, Int.reduceNeg, Int.reduceToNat, Nat.reduceMul, Nat.reduceBEq, show vAV [] = .v (.slice none 0 0) from rfl, show vT [] = [] from rfl, Int.natCast_zero] <;> rfl)
      clear hg
      obtain ⟨rfl, e5, rfl⟩ := h2
      have hf : ∀ st, fin st (vAV (numO k (seeL 7 ps))) = tAV (numO k (seeL 7 ps)) := fun st => fin_loc st 1 0 _
      simp only [go_sem, reduceIte, Nat.reduceEqDiff, Nat.reduceAdd, Nat.reduceSub, Nat.reduceLeDiff, Nat.reduceLT, reduceCtorEq, Int.reduceLT, Int.reduceLE, Int.reduceEq, Int.reduceBEq, Int.reduceSub, Int.reduceAdd, Int.reduceMul, Int.reduceNeg, Int.reduceToNat, Nat.reduceMul, Nat.reduceBEq, e5, hf]
    · rw [if_neg he, if_neg he]
      have hpos := List.length_pos_iff.2 he
      have hl0 : ((0 : Int) < ((evL (seeL 7 ps) k).length : Int)) = True := eq_true (by omega)
      simp only [ir35, go_sem, reduceIte, Nat.reduceEqDiff, Nat.reduceAdd, Nat.reduceSub, Nat.reduceLeDiff, Nat.reduceLT, reduceCtorEq, Int.reduceLT, Int.reduceLE, Int.reduceEq, Int.reduceBEq, Int.reduceSub, Int.reduceAdd, Int.reduceMul, Int.reduceNeg, Int.reduceToNat, Nat.reduceMul, Nat.reduceBEq, h25, h, h76, len_LA, hl0]
      rfl
  · rw [if_neg h, if_neg h]
    simp only [ir35, go_sem, reduceIte, Nat.reduceEqDiff, Nat.reduceAdd, Nat.reduceSub, Nat.reduceLeDiff, Nat.reduceLT, reduceCtorEq, Int.reduceLT, Int.reduceLE, Int.reduceEq, Int.reduceBEq, Int.reduceSub, Int.reduceAdd, Int.reduceMul, Int.reduceNeg, Int.reduceToNat, Nat.reduceMul, Nat.reduceBEq, h25, h]
    rfl


/-! ### the first shortest way, by trying all -/
def endP (g : Nat) (c : List Nat) : Bool := g.testBit (lastW c)
theorem wys_reach {w : List Nat} {n g : Nat} : ∀ (j : Nat) (c : List Nat), lastW c < n → ∀ y ∈ wys w n j c, endP g y = true → (nk w n g j).testBit (lastW c) = true
  | 0, c, _, y, hy, he => by
    simp [wys] at hy
    subst hy; exact he
  | j + 1, c, hc, y, hy, he => by
    unfold wys at hy
    obtain ⟨x, hx, hy⟩ := List.mem_flatMap.1 hy
    rw [List.mem_range'_1] at hx
    split at hy
    · next h =>
      have := wys_reach (g := g) j (c ++ [x]) (by rw [lastW_snoc]; omega) y hy he
      rw [lastW_snoc] at this
      exact (nk_succ hc).2 (.inr ⟨x, h.2, this⟩)
    · simp at hy
theorem wys_none {w : List Nat} {n g j : Nat} {c : List Nat} (hc : lastW c < n) (h : (nk w n g j).testBit (lastW c) = false) : (wys w n j c).find? (endP g) = none := by
  rw [List.find?_eq_none]
  intro y hy he
  have := wys_reach (g := g) j c hc y hy he
  rw [h] at this; simp at this
theorem tz_min_all : (List.range 128).all (fun m => (List.range (min 7 (tzN m))).all fun x => !m.testBit x) = true := by kernel_rfl
theorem tz_min {m : Nat} (hm : m < 128) {x : Nat} (hx : x < tzN m) (hx7 : x < 7) : m.testBit x = false := by
  have := List.all_eq_true.1 (List.all_eq_true.1 tz_min_all m (List.mem_range.2 hm)) x (List.mem_range.2 (by omega))
  rwa [Bool.not_eq_true'] at this
theorem find_flat_first {β : Type} {p : β → Bool} {f : Nat → List β} {n t : Nat} (ht : t < n) (h : ∀ x, x < t → (f x).find? p = none) {r : β} (hr : (f t).find? p = some r) : ((List.range' 0 n).flatMap f).find? p = some r := by
  have e : List.range' 0 n = List.range' 0 t ++ t :: List.range' (t + 1) (n - t - 1) := by
    have e1 := List.range'_append (s := 0) (m := t) (n := n - t - 1 + 1) (step := 1)
    simp only [Nat.one_mul, Nat.zero_add] at e1
    rw [List.range'_succ] at e1
    rw [e1]; congr 1; omega
  rw [e, List.flatMap_append, List.find?_append, find_flat_none (fun x hx y hy => by
    rw [List.mem_range'_1] at hx
    have := List.find?_eq_none.1 (h x (by omega)) y hy
    simpa using this), Option.none_or, List.flatMap_cons, List.find?_append, hr]
  rfl
theorem wys_way {w : List Nat} {n g : Nat} (hn : n ≤ 7) (hsm : ∀ x ∈ w, x < 128) {Y : List Nat} (hY : Nks w n g Y) : ∀ (j : Nat) (c : List Nat), j < Y.length → lastW c < n → (nk w n g j).testBit (lastW c) = true → (∀ y ∈ c, ∀ i, i < j → (nk w n g i).testBit y = false) → lastW c ∈ c → (∀ a b, (w.getD a 0).testBit b = true → b < n) →
    ∃ r, (wys w n j c).find? (endP g) = some r ∧ up r = wayL w Y j (lastW c) (up c)
  | 0, c, _, _, hb, _, _, _ => ⟨c, by
      show [c].find? (endP g) = some c
      rw [List.find?_cons_of_pos (by exact hb)], rfl⟩
  | j + 1, c, hj, hc, hb, hfar, hmem, hwn => by
    have hYj := hY.2 j (by omega)
    have hno := hfar (lastW c) hmem
    have hnz : w.getD (lastW c) 0 &&& Y.getD j 0 ≠ 0 := by
      rw [hYj]
      rcases (nk_succ hc).1 hb with h | ⟨y, h1, h2⟩
      · rw [hno j (by omega)] at h; simp at h
      · exact fun hz => (and_zero _ _).1 hz y ⟨h1, h2⟩
    have hlt : w.getD (lastW c) 0 &&& Y.getD j 0 < 128 := Nat.lt_of_le_of_lt Nat.and_le_left (small_getD hsm _)
    obtain ⟨t1, t2⟩ := tz_spec hlt hnz
    have htm := fun x hx => tz_min hlt (x := x) hx (by omega)
    have hwl : wayL w Y (j + 1) (lastW c) (up c) = wayL w Y j (tzN (w.getD (lastW c) 0 &&& Y.getD j 0)) (up c ++ [((tzN (w.getD (lastW c) 0 &&& Y.getD j 0) : Nat) : Int)]) := rfl
    rw [hwl]
    generalize tzN (w.getD (lastW c) 0 &&& Y.getD j 0) = t at *
    rw [Nat.testBit_and, Bool.and_eq_true, hYj] at t2
    have htn := hwn _ _ t2.1
    have htc : t ∉ c := fun h => by
      have := hfar t h j (by omega)
      rw [this] at t2; simp at t2
    obtain ⟨r, h1, h2⟩ := wys_way hn hsm hY j (c ++ [t]) (by omega) (by rw [lastW_snoc]; exact htn) (by rw [lastW_snoc]; exact t2.2) (fun y hy i hi => by
      rcases List.mem_append.1 hy with hy | hy
      · exact hfar y hy i (by omega)
      · simp at hy; subst hy
        cases e : (nk w n g i).testBit y
        · rfl
        · have := (nk_succ (w := w) (n := n) (g := g) (k := i) hc).2 (.inr ⟨y, t2.1, e⟩)
          rw [hno (i + 1) (by omega)] at this; simp at this) (by rw [lastW_snoc]; simp) hwn
    rw [lastW_snoc] at h2
    have eu : up (c ++ [t]) = up c ++ [((t : Nat) : Int)] := by simp [up]
    rw [eu] at h2
    refine ⟨r, ?_, h2⟩
    unfold wys
    refine find_flat_first htn (fun x hx => ?_) (by rw [if_pos ⟨htc, t2.1⟩]; exact h1)
    split
    · next h =>
      have hbx := htm x hx
      rw [Nat.testBit_and, h.2, Bool.true_and, hYj] at hbx
      exact wys_none (by rw [lastW_snoc]; omega) (by rw [lastW_snoc]; exact hbx)
    · rfl
theorem nk_card1 {w : List Nat} {n g : Nat} : ∀ k, (∃ j, j < k ∧ nk w n g (j + 1) = nk w n g j) ∨ k + cardN n g ≤ cardN n (nk w n g k)
  | 0 => .inr (by show 0 + cardN n g ≤ cardN n g; omega)
  | k + 1 => by
    rcases nk_card1 (w := w) (n := n) (g := g) k with ⟨j, h1, h2⟩ | h
    · exact .inl ⟨j, by omega, h2⟩
    · by_cases he : nk w n g (k + 1) = nk w n g k
      · exact .inl ⟨k, by omega, he⟩
      · right
        have : ∃ x, x < n ∧ (nk w n g (k + 1)).testBit x = true ∧ (nk w n g k).testBit x = false := by
          rcases Classical.em (∃ x, x < n ∧ (nk w n g (k + 1)).testBit x = true ∧ (nk w n g k).testBit x = false) with h3 | h3
          · exact h3
          · exact absurd (wide_same fun x hx hb => by
              cases e : (nk w n g k).testBit x
              · exact absurd ⟨x, hx, hb, e⟩ h3
              · rfl) he
        obtain ⟨x, hx, h1, h2⟩ := this
        have := filter_len_lt (p := (nk w n g k).testBit) (q := (nk w n g (k + 1)).testBit) (List.range n) (fun y hy hb => (nk_succ (List.mem_range.1 hy)).2 (.inl hb)) ⟨x, List.mem_range.2 hx, h1, h2⟩
        unfold cardN at *; omega
/-- What the reference tries, length by length. -/
def tryW (w : List Nat) (n g a m k : Nat) : Option (List Nat) := (List.range' m k).findSome? fun m => (wys w n (m - 1) [a]).find? (endP g)
theorem try_step (w : List Nat) (n g a m k : Nat) : tryW w n g a m (k + 1) = ((wys w n (m - 1) [a]).find? (endP g)).or (tryW w n g a (m + 1) k) := by
  unfold tryW
  rw [List.range'_succ, List.findSome?_cons]
  cases (wys w n (m - 1) [a]).find? (endP g) <;> rfl
theorem try_none {w : List Nat} {n g a : Nat} (h : ∀ j, (nk w n g j).testBit a = false) (ha : a < n) : ∀ (k m : Nat), tryW w n g a m k = none
  | 0, _ => rfl
  | k + 1, m => by
    rw [try_step, wys_none (c := [a]) ha (h _), Option.none_or]
    exact try_none h ha k (m + 1)
theorem try_some {w : List Nat} {n g a K : Nat} (ha : a < n) (hno : ∀ j, j < K → (nk w n g j).testBit a = false) {r : List Nat} (hr : (wys w n K [a]).find? (endP g) = some r) : ∀ (k m : Nat), 1 ≤ m → m ≤ K + 1 → K + 1 < m + k → tryW w n g a m k = some r
  | 0, m, _, _, h => by omega
  | k + 1, m, h1, h2, h3 => by
    rw [try_step]
    by_cases e : m = K + 1
    · subst e
      rw [Nat.add_sub_cancel, hr]; rfl
    · rw [wys_none (c := [a]) ha (hno (m - 1) (by omega)), Option.none_or]
      exact try_some ha hno hr k (m + 1) (by omega) (by omega) (by omega)
/-- The reference's first way is the program's. -/
theorem try_way {w : List Nat} {n g a : Nat} (hn : n ≤ 7) (hsm : ∀ x ∈ w, x < 128) (hwn : ∀ a b, (w.getD a 0).testBit b = true → b < n) (ha : a < n) (hg : ∃ x, x < n ∧ g.testBit x = true) {r : Option (List Nat)} (hN : Near w n a [g] r) :
    (r = none ∧ tryW w n g a 1 n = none) ∨ ∃ Y c, r = some Y ∧ tryW w n g a 1 n = some c ∧ up c = wayL w Y (Y.length - 1) a [(a : Int)] := by
  have h1 := near_nks hN (nks_one w n g)
  cases r with
  | none => exact .inl ⟨rfl, try_none (h1.1 rfl) ha n 1⟩
  | some Y =>
    right
    have hY := h1.2 Y rfl
    obtain ⟨_, hY1, gl, gn⟩ := near_ok hN Y rfl (fun j hj => by simp at hj) (by simp) (fun j hj => by simp at hj)
    rw [nks_last hY] at gl
    have hno : ∀ j, j < Y.length - 1 → (nk w n g j).testBit a = false := fun j hj => by
      have := gn j (by omega)
      rwa [hY.2 j (by omega)] at this
    have hla : lastW [a] = a := rfl
    obtain ⟨c, hc1, hc2⟩ := wys_way hn hsm hY (Y.length - 1) [a] (by omega) (by rw [hla]; exact ha) (by rw [hla]; exact gl) (fun y hy i hi => by simp at hy; subst hy; exact hno i hi) (by rw [hla]; simp) hwn
    have hKn : Y.length - 1 + 1 ≤ n := by
      rcases nk_card1 (w := w) (n := n) (g := g) (Y.length - 1) with ⟨j, hj, he⟩ | hcd
      · have hs := nk_stop he (Y.length - 1 - j)
        rw [show j + (Y.length - 1 - j) = Y.length - 1 by omega] at hs
        rw [hs, hno j hj] at gl; simp at gl
      · have h2 := cardN_le n (nk w n g (Y.length - 1))
        obtain ⟨x, hx, hgx⟩ := hg
        have h3 : 0 < cardN n g := by
          unfold cardN
          exact List.length_pos_of_mem (List.mem_filter.2 ⟨List.mem_range.2 hx, hgx⟩)
        omega
    refine ⟨Y, c, rfl, try_some ha hno hc1 n 1 (Nat.le_refl _) (by omega) (by omega), ?_⟩
    rw [hla] at hc2
    exact hc2

attribute [local go_sem] shaped_t cells_t isAgg_t storable_t okRef_t pub_t shaped_oA cells_oA storable_oA

theorem endP_has {l : List Int} (h : ∀ x ∈ l, 0 ≤ x ∧ x < 7) (c : List Nat) : decide (((lastW c : Nat) : Int) ∈ l) = endP (setL l) c := by
  unfold endP; rw [setL_bit h]

theorem loop33_0 (nl n2 : Bool) (n : Int) (ps : List (Int × Int)) (l : List Int) (hlen : l.length < 1000000) (hl7 : ∀ x ∈ l, 0 ≤ x ∧ x < 7) (a m : Nat) (hm1 : 1 ≤ m) (hm7 : m ≤ 7) (Z : List (List Nat)) (hZ : ∀ c ∈ Z, c.length = m) (hZl : Z.length < 900000) (i : Nat) (hok : i ≤ Z.length) (env : Env) (st : St)
    (hg : gcAV true 1 0 (canon env [1, 2, 3, 9, 10, 11]) st = ([(1, sl 1 n2 (l.map I)), (2, J a), (3, .ptr 0 0), (9, J m), (10, LA Z), (11, J i)], ⟨[bkCells nl n ps], []⟩)) :
    ∃ x_1 en s, lim (headed pure (run L) true [1, 2, 3, 9, 10, 11] lp33_0 1 0) env st = some (x_1, en, s) ∧ ((∃ c, (Z.drop i).find? (endP (setL l)) = some c ∧ x_1 = .ret ∧ en.get 6 = oA c ∧ en.get 7 = I 0) ∨ ((Z.drop i).find? (endP (setL l)) = none ∧ x_1 = .exit 2 ∧ en.get 1 = sl 1 n2 (l.map I) ∧ en.get 2 = J a ∧ en.get 3 = .ptr 0 0 ∧ en.get 9 = J m ∧ s = ⟨[bkCells nl n ps], []⟩)) := by
  refine loop_wp (α := Nat) (fun i => Z.length - i) (fun i => i ≤ Z.length) (fun i => ([(1, sl 1 n2 (l.map I)), (2, J a), (3, .ptr 0 0), (9, J m), (10, LA Z), (11, J i)], ⟨[bkCells nl n ps], []⟩)) (fun i x_1 en s => (∃ c, (Z.drop i).find? (endP (setL l)) = some c ∧ x_1 = .ret ∧ en.get 6 = oA c ∧ en.get 7 = I 0) ∨ ((Z.drop i).find? (endP (setL l)) = none ∧ x_1 = .exit 2 ∧ en.get 1 = sl 1 n2 (l.map I) ∧ en.get 2 = J a ∧ en.get 3 = .ptr 0 0 ∧ en.get 9 = J m ∧ s = ⟨[bkCells nl n ps], []⟩)) (fun i hok => ?_) i hok env st hg
  by_cases h : i < Z.length
  · have hs := succ64 i (by omega)
    have hlt : ((i : Int) < (Z.length : Int)) = True := eq_true (by omega)
    have hd : Z.drop i = Z[i] :: Z.drop (i + 1) := List.drop_eq_getElem_cons h
    have hix := index_LA Z i h
    have hcl := hZ _ (List.getElem_mem h)
    have hl1 : IntKind.i64.wrap ((m : Int) - 1) = ((m - 1 : Nat) : Int) := by rw [wrap64] <;> omega
    have hx := index_oA Z[i] (m - 1) (by omega)
    have hlw : Z[i].getD (m - 1) 0 = lastW Z[i] := by unfold lastW; rw [hcl]
    rw [hlw] at hx
    have h77 := fun st => c77 n2 l hlen ((lastW Z[i] : Nat) : Int) st
    rw [endP_has hl7] at h77
    rw [hd]
    generalize Z[i] = c at *
    cases hb : endP (setL l) c
    · rw [hb] at h77
      rw [List.find?_cons_of_neg (by rw [hb]; simp)]
      simp only [go_sem, reduceIte, Nat.reduceEqDiff, Nat.reduceAdd, Nat.reduceSub, Nat.reduceLeDiff, Nat.reduceLT, reduceCtorEq, Int.reduceLT, Int.reduceLE, Int.reduceEq, Int.reduceBEq, Int.reduceSub, Int.reduceAdd, Int.reduceMul, Int.reduceNeg, Int.reduceToNat, Nat.reduceMul, Nat.reduceBEq, index_rsl_if, setm, make_ints, condK_dec, wantK_dec, not_dec, and_dec, or_dec, seqK_ite, seqK_none, blockK_ite, blockK_none, opsK_ite, opsK_none, stepK_ite, stepK_none, bodyK_ite, bodyK_none, resK_ite, resK_none, leaveK_ite, leaveK_none, only_ite, only_none, bind_ite, gives_some, gives_none, gives_ite, then_normal, then_ret, then_exit, then_none, then_ite, Option.bind_none, Bool.not_eq_true', decide_eq_false_iff_not, Bool.and_eq_true, Bool.or_eq_true, Option.some.injEq, Int.not_lt, Int.not_le, lp33_0, hix, hx, hl1, hlt, hs, h77, len_LA]
      refine ⟨i + 1, by simp only [go_sem, reduceIte, Nat.reduceEqDiff, Nat.reduceAdd, Nat.reduceSub, Nat.reduceLeDiff, Nat.reduceLT, reduceCtorEq, Int.reduceLT, Int.reduceLE, Int.reduceEq, Int.reduceBEq, Int.reduceSub, Int.reduceAdd, Int.reduceMul, Int.reduceNeg, Int.reduceToNat, Nat.reduceMul, Nat.reduceBEq, ren1_locm, loc_tips, locT_eq, ren1_LA, okRef_LA] <;> rfl, ?_, ?_, fun x en s hq => ?_⟩
      · omega
      · omega
      · exact hq
    · rw [hb] at h77
      rw [List.find?_cons_of_pos hb]
      simp only [go_sem, reduceIte, Nat.reduceEqDiff, Nat.reduceAdd, Nat.reduceSub, Nat.reduceLeDiff, Nat.reduceLT, reduceCtorEq, Int.reduceLT, Int.reduceLE, Int.reduceEq, Int.reduceBEq, Int.reduceSub, Int.reduceAdd, Int.reduceMul, Int.reduceNeg, Int.reduceToNat, Nat.reduceMul, Nat.reduceBEq, index_rsl_if, setm, make_ints, condK_dec, wantK_dec, not_dec, and_dec, or_dec, seqK_ite, seqK_none, blockK_ite, blockK_none, opsK_ite, opsK_none, stepK_ite, stepK_none, bodyK_ite, bodyK_none, resK_ite, resK_none, leaveK_ite, leaveK_none, only_ite, only_none, bind_ite, gives_some, gives_none, gives_ite, then_normal, then_ret, then_exit, then_none, then_ite, Option.bind_none, Bool.not_eq_true', decide_eq_false_iff_not, Bool.and_eq_true, Bool.or_eq_true, Option.some.injEq, Int.not_lt, Int.not_le, lp33_0, hix, hx, hl1, hlt, hs, h77, len_LA]
      exact ⟨c, rfl, rfl⟩
  · have hd : Z.drop i = [] := List.drop_eq_nil_of_le (by omega)
    have hlt : ((i : Int) < (Z.length : Int)) = False := eq_false (by omega)
    rw [hd]
    simp only [go_sem, reduceIte, Nat.reduceEqDiff, Nat.reduceAdd, Nat.reduceSub, Nat.reduceLeDiff, Nat.reduceLT, reduceCtorEq, Int.reduceLT, Int.reduceLE, Int.reduceEq, Int.reduceBEq, Int.reduceSub, Int.reduceAdd, Int.reduceMul, Int.reduceNeg, Int.reduceToNat, Nat.reduceMul, Nat.reduceBEq, index_rsl_if, setm, make_ints, condK_dec, wantK_dec, not_dec, and_dec, or_dec, seqK_ite, seqK_none, blockK_ite, blockK_none, opsK_ite, opsK_none, stepK_ite, stepK_none, bodyK_ite, bodyK_none, resK_ite, resK_none, leaveK_ite, leaveK_none, only_ite, only_none, bind_ite, gives_some, gives_none, gives_ite, then_normal, then_ret, then_exit, then_none, then_ite, Option.bind_none, Bool.not_eq_true', decide_eq_false_iff_not, Bool.and_eq_true, Bool.or_eq_true, Option.some.injEq, Int.not_lt, Int.not_le, lp33_0, hlt, len_LA]
    simp

theorem loop33_1 (nl n2 : Bool) (n : Nat) (hn : n ≤ 7) (ps : List (Int × Int)) (hps : ps.length < 1000000) (h7 : ∀ p ∈ ps, okP p) (l : List Int) (hlen : l.length < 1000000) (hl7 : ∀ x ∈ l, 0 ≤ x ∧ x < 7) (a : Nat) (m : Nat) (hok : 1 ≤ m ∧ m ≤ n + 1) (env : Env) (st : St)
    (hg : gcAV true 1 0 (canon env [1, 2, 3, 9]) st = ([(1, sl 1 n2 (l.map I)), (2, J a), (3, .ptr 0 0), (9, J m)], ⟨[bkCells nl (n : Int) ps], []⟩)) :
    ∃ x_1 en s, lim (headed pure (run L) true [1, 2, 3, 9] lp33_1 1 0) env st = some (x_1, en, s) ∧ ((∃ c, tryW (seeL 7 ps) n (setL l) a m (n + 1 - m) = some c ∧ x_1 = .ret ∧ en.get 6 = oA c ∧ en.get 7 = I 0) ∨ (tryW (seeL 7 ps) n (setL l) a m (n + 1 - m) = none ∧ x_1 = .exit 0)) := by
  refine loop_wp (α := Nat) (fun m => n + 1 - m) (fun m => 1 ≤ m ∧ m ≤ n + 1) (fun m => ([(1, sl 1 n2 (l.map I)), (2, J a), (3, .ptr 0 0), (9, J m)], ⟨[bkCells nl (n : Int) ps], []⟩)) (fun m x_1 en s => (∃ c, tryW (seeL 7 ps) n (setL l) a m (n + 1 - m) = some c ∧ x_1 = .ret ∧ en.get 6 = oA c ∧ en.get 7 = I 0) ∨ (tryW (seeL 7 ps) n (setL l) a m (n + 1 - m) = none ∧ x_1 = .exit 0)) (fun m hok => ?_) m hok env st hg
  obtain ⟨h1, h2⟩ := hok
  have hb0 : (bkCells nl (n : Int) ps)[0]? = some (I (n : Int)) := rfl
  by_cases h : m ≤ n
  · have hs := succ64 m (by omega)
    have hlt : ((m : Int) ≤ (n : Int)) = True := eq_true (by omega)
    have ht := try_step (seeL 7 ps) n (setL l) a m (n - m)
    rw [show n - m + 1 = n + 1 - m by omega] at ht
    have h78 : ∀ st, run L 78 [bkAV nl (n : Int) ps, .lst .full 1 [J a], J m] st = some (LA (wys (seeL 7 ps) n (m - 1) [a]), st) := fun st => by
      have := c78 nl n hn ps hps h7 (m - 1) [a] (by simp) (by omega) (by simp; omega) st
      rw [List.length_singleton, show 1 + (m - 1) = m by omega] at this
      rw [← this]
      exact run_args (fn := ir78) rfl rfl st rfl
    have hZm : ∀ c ∈ wys (seeL 7 ps) n (m - 1) [a], c.length = m := fun c hc => by
      obtain ⟨s, e, hl⟩ := wys_has _ n (m - 1) [a] c hc
      rw [e, List.length_append, List.length_singleton, hl]; omega
    have hZl := wys_bound (seeL 7 ps) hn (m - 1) (by omega) [a]
    have hZl2 : (wys (seeL 7 ps) n (m - 1) [a]).length < 900000 := by omega
    clear hZl
    rw [ht]
    generalize wys (seeL 7 ps) n (m - 1) [a] = Z at *
    simp only [go_sem, reduceIte, Nat.reduceEqDiff, Nat.reduceAdd, Nat.reduceSub, Nat.reduceLeDiff, Nat.reduceLT, reduceCtorEq, Int.reduceLT, Int.reduceLE, Int.reduceEq, Int.reduceBEq, Int.reduceSub, Int.reduceAdd, Int.reduceMul, Int.reduceNeg, Int.reduceToNat, Nat.reduceMul, Nat.reduceBEq, index_rsl_if, setm, make_ints, condK_dec, wantK_dec, not_dec, and_dec, or_dec, seqK_ite, seqK_none, blockK_ite, blockK_none, opsK_ite, opsK_none, stepK_ite, stepK_none, bodyK_ite, bodyK_none, resK_ite, resK_none, leaveK_ite, leaveK_none, only_ite, only_none, bind_ite, gives_some, gives_none, gives_ite, then_normal, then_ret, then_exit, then_none, then_ite, Option.bind_none, Bool.not_eq_true', decide_eq_false_iff_not, Bool.and_eq_true, Bool.or_eq_true, Option.some.injEq, Int.not_lt, Int.not_le, lp33_1, hb0, hlt, hs, h78]
    generalize hg : lim (headed pure (run L) true _ lp33_0 _ _) _ _ = o
    obtain ⟨x, en, s, rfl, h2⟩ : ∃ x en s, o = some (x, en, s) ∧ _ := by rw [← hg]; exact loop33_0 nl n2 (n : Int) ps l hlen hl7 a m h1 (by omega) Z hZm hZl2 0 (by omega) _ _ (by simp only [go_sem, reduceIte, Nat.reduceEqDiff, Nat.reduceAdd, Nat.reduceSub, Nat.reduceLeDiff, Nat.reduceLT, reduceCtorEq, Int.reduceLT, Int.reduceLE, Int.reduceEq, Int.reduceBEq, Int.reduceSub, Int.reduceAdd, Int.reduceMul, Int.reduceNeg, Int.reduceToNat, Nat.reduceMul, Nat.reduceBEq, ren1_LA, okRef_LA, Int.natCast_zero] <;> rfl)
    clear hg
    rw [List.drop_zero] at h2
    rcases h2 with ⟨c, hc, rfl, e6, e7⟩ | ⟨hc, rfl, e1, e2, e3, e9, rfl⟩
    · rw [hc]
      simp only [go_sem, reduceIte, Nat.reduceEqDiff, Nat.reduceAdd, Nat.reduceSub, Nat.reduceLeDiff, Nat.reduceLT, reduceCtorEq, Int.reduceLT, Int.reduceLE, Int.reduceEq, Int.reduceBEq, Int.reduceSub, Int.reduceAdd, Int.reduceMul, Int.reduceNeg, Int.reduceToNat, Nat.reduceMul, Nat.reduceBEq, index_rsl_if, setm, make_ints, condK_dec, wantK_dec, not_dec, and_dec, or_dec, seqK_ite, seqK_none, blockK_ite, blockK_none, opsK_ite, opsK_none, stepK_ite, stepK_none, bodyK_ite, bodyK_none, resK_ite, resK_none, leaveK_ite, leaveK_none, only_ite, only_none, bind_ite, gives_some, gives_none, gives_ite, then_normal, then_ret, then_exit, then_none, then_ite, Option.bind_none, Bool.not_eq_true', decide_eq_false_iff_not, Bool.and_eq_true, Bool.or_eq_true, Option.some.injEq, Int.not_lt, Int.not_le, lp33_1, e6, e7]
      exact ⟨c, rfl, rfl⟩
    · rw [hc, Option.none_or]
      simp only [go_sem, reduceIte, Nat.reduceEqDiff, Nat.reduceAdd, Nat.reduceSub, Nat.reduceLeDiff, Nat.reduceLT, reduceCtorEq, Int.reduceLT, Int.reduceLE, Int.reduceEq, Int.reduceBEq, Int.reduceSub, Int.reduceAdd, Int.reduceMul, Int.reduceNeg, Int.reduceToNat, Nat.reduceMul, Nat.reduceBEq, index_rsl_if, setm, make_ints, condK_dec, wantK_dec, not_dec, and_dec, or_dec, seqK_ite, seqK_none, blockK_ite, blockK_none, opsK_ite, opsK_none, stepK_ite, stepK_none, bodyK_ite, bodyK_none, resK_ite, resK_none, leaveK_ite, leaveK_none, only_ite, only_none, bind_ite, gives_some, gives_none, gives_ite, then_normal, then_ret, then_exit, then_none, then_ite, Option.bind_none, Bool.not_eq_true', decide_eq_false_iff_not, Bool.and_eq_true, Bool.or_eq_true, Option.some.injEq, Int.not_lt, Int.not_le, lp33_1, hs, e1, e2, e3, e9]
      refine ⟨m + 1, by simp only [go_sem, reduceIte, Nat.reduceEqDiff, Nat.reduceAdd, Nat.reduceSub, Nat.reduceLeDiff, Nat.reduceLT, reduceCtorEq, Int.reduceLT, Int.reduceLE, Int.reduceEq, Int.reduceBEq, Int.reduceSub, Int.reduceAdd, Int.reduceMul, Int.reduceNeg, Int.reduceToNat, Nat.reduceMul, Nat.reduceBEq, ren1_locm, loc_tips, locT_eq, e1, e2, e3, e9] <;> rfl, ?_, ?_, fun x en s hq => ?_⟩
      · omega
      · omega
      · rw [show n - m = n + 1 - (m + 1) by omega]; exact hq
  · have hr : n + 1 - m = 0 := by omega
    have hlt : ((m : Int) ≤ (n : Int)) = False := eq_false (by omega)
    rw [hr]
    simp only [go_sem, reduceIte, Nat.reduceEqDiff, Nat.reduceAdd, Nat.reduceSub, Nat.reduceLeDiff, Nat.reduceLT, reduceCtorEq, Int.reduceLT, Int.reduceLE, Int.reduceEq, Int.reduceBEq, Int.reduceSub, Int.reduceAdd, Int.reduceMul, Int.reduceNeg, Int.reduceToNat, Nat.reduceMul, Nat.reduceBEq, index_rsl_if, setm, make_ints, condK_dec, wantK_dec, not_dec, and_dec, or_dec, seqK_ite, seqK_none, blockK_ite, blockK_none, opsK_ite, opsK_none, stepK_ite, stepK_none, bodyK_ite, bodyK_none, resK_ite, resK_none, leaveK_ite, leaveK_none, only_ite, only_none, bind_ite, gives_some, gives_none, gives_ite, then_normal, then_ret, then_exit, then_none, then_ite, Option.bind_none, Bool.not_eq_true', decide_eq_false_iff_not, Bool.and_eq_true, Bool.or_eq_true, Option.some.injEq, Int.not_lt, Int.not_le, lp33_1, hb0, hlt]
    exact .inr rfl

attribute [local go_sem] shaped_t cells_t isAgg_t storable_t okRef_t pub_t shaped_oA cells_oA storable_oA

theorem wys_ne {w : List Nat} {n a m : Nat} {c : List Nat} {g k : Nat} (h : tryW w n g a m k = some c) : c ≠ [] := by
  unfold tryW at h
  obtain ⟨m', hm', h2⟩ := List.exists_of_findSome?_eq_some h
  have := List.mem_of_find?_eq_some h2
  obtain ⟨s, e, _⟩ := wys_has w n (m' - 1) [a] c this
  rw [e]; simp
set_option maxHeartbeats 1000000 in
theorem c33 (nl n2 : Bool) (n : Int) (ps : List (Int × Int)) (hps : ps.length < 1000000) (l : List Int) (hlen : l.length < 1000000) (a : Int) {V : List Int} {e : Int} (hW : WayR n ps l a V e) (st : St) :
    run L 33 [bkAV nl n ps, sl 1 n2 (l.map I), I a] st = some (.tup [tAV V, I e], st) := by
  rw [run_pure (fn := ir33) rfl rfl]
  have h25 := fun st => c25 nl n ps st
  have h73 := fun st => c73 nl n2 n ps l hlen st
  have hnil : tAV [] = .v (.slice none 0 0) := rfl
  unfold WayR at hW
  by_cases h : chk n ps = 0
  · obtain ⟨h1, hl16, h3, h4, h5⟩ := chk_zero h
    obtain ⟨k, rfl⟩ := Int.eq_ofNat_of_zero_le (show 0 ≤ n by omega)
    have hle : listedE (k : Int) ps l = setErr (k : Int) (-1) l := by unfold listedE; rw [if_pos h]
    rw [hle] at h73
    rw [if_pos h] at hW
    have hw := wrap64 ((k : Int) - 1) (by omega) (by omega)
    have h70 := fun st => c70 a 0 ((k : Int) - 1) st
    by_cases p0 : l.length = 0
    · have q0 : ((l.length : Int) = 0) = True := eq_true (by omega)
      rw [if_pos p0] at hW
      obtain ⟨rfl, rfl⟩ := hW
      simp only [ir33, go_sem, reduceIte, Nat.reduceEqDiff, Nat.reduceAdd, Nat.reduceSub, Nat.reduceLeDiff, Nat.reduceLT, reduceCtorEq, Int.reduceLT, Int.reduceLE, Int.reduceEq, Int.reduceBEq, Int.reduceSub, Int.reduceAdd, Int.reduceMul, Int.reduceNeg, Int.reduceToNat, Nat.reduceMul, Nat.reduceBEq, h25, h, q0, hnil, List.length_map]
    · have q0 : ((l.length : Int) = 0) = False := eq_false (by omega)
      rw [if_neg p0] at hW
      by_cases p : setErr (k : Int) (-1) l = 0
      · rw [if_pos p] at hW
        by_cases p1 : a < 0 ∨ (k : Int) ≤ a
        · have q1 : (0 ≤ a ∧ a ≤ (k : Int) - 1) = False := eq_false (by omega)
          rw [if_pos p1] at hW
          obtain ⟨rfl, rfl⟩ := hW
          simp only [ir33, go_sem, reduceIte, Nat.reduceEqDiff, Nat.reduceAdd, Nat.reduceSub, Nat.reduceLeDiff, Nat.reduceLT, reduceCtorEq, Int.reduceLT, Int.reduceLE, Int.reduceEq, Int.reduceBEq, Int.reduceSub, Int.reduceAdd, Int.reduceMul, Int.reduceNeg, Int.reduceToNat, Nat.reduceMul, Nat.reduceBEq, h25, h, q0, h73, p, hw, h70, q1, hnil, List.length_map]
        · have q1 : (0 ≤ a ∧ a ≤ (k : Int) - 1) = True := eq_true (by omega)
          rw [if_neg p1] at hW
          obtain ⟨r, hN, h2⟩ := hW
          obtain ⟨b, rfl⟩ := Int.eq_ofNat_of_zero_le (show 0 ≤ a by omega)
          rw [Int.toNat_natCast, Int.toNat_natCast] at hN
          have hin := fun x hx => setErr_in p x hx
          have hl7 : ∀ x ∈ l, 0 ≤ x ∧ x < 7 := fun x hx => by have := hin x hx; omega
          have hwn := seeL_in (Nat.le_refl 7) (fun p hp => h3 p hp) h4
          have hg : ∃ x, x < k ∧ (setL l).testBit x = true := by
            cases l with
            | nil => simp at p0
            | cons x r =>
              have hx := hin x (by simp)
              obtain ⟨m, hm⟩ := Int.eq_ofNat_of_zero_le hx.1
              refine ⟨m, by omega, ?_⟩
              rw [setL_bit hl7, decide_eq_true_iff, ← hm]; simp
          have htw := try_way (by omega) (seeL_small 7 h4) hwn (show b < k by omega) hg hN
          simp only [ir33, go_sem, reduceIte, Nat.reduceEqDiff, Nat.reduceAdd, Nat.reduceSub, Nat.reduceLeDiff, Nat.reduceLT, reduceCtorEq, Int.reduceLT, Int.reduceLE, Int.reduceEq, Int.reduceBEq, Int.reduceSub, Int.reduceAdd, Int.reduceMul, Int.reduceNeg, Int.reduceToNat, Nat.reduceMul, Nat.reduceBEq, h25, h, q0, h73, p, hw, h70, q1, List.length_map]
          generalize hg : lim (headed pure (run L) true _ lp33_1 _ _) _ _ = o
          obtain ⟨x, en, s, rfl, h2⟩ : ∃ x en s, o = some (x, en, s) ∧ _ := by rw [← hg]; exact loop33_1 nl n2 k (by omega) ps hps h4 l hlen hl7 b 1 ⟨by omega, by omega⟩ _ _ (by simp only [go_sem, reduceIte, Nat.reduceEqDiff, Nat.reduceAdd, Nat.reduceSub, Nat.reduceLeDiff, Nat.reduceLT, reduceCtorEq, Int.reduceLT, Int.reduceLE, Int.reduceEq, Int.reduceBEq, Int.reduceSub, Int.reduceAdd, Int.reduceMul, Int.reduceNeg, Int.reduceToNat, Nat.reduceMul, Nat.reduceBEq, Int.natCast_zero] <;> rfl)
          clear hg
          rw [Nat.add_sub_cancel] at h2
          rename_i h2'
          rcases htw with ⟨rfl, ht⟩ | ⟨Y, c, rfl, ht, hu⟩
          · rcases h2 with ⟨c, hc, _⟩ | ⟨_, rfl⟩
            · rw [ht] at hc; simp at hc
            · rcases h2' with ⟨_, rfl, rfl⟩ | ⟨Y, hY, _⟩
              · simp only [go_sem, reduceIte, Nat.reduceEqDiff, Nat.reduceAdd, Nat.reduceSub, Nat.reduceLeDiff, Nat.reduceLT, reduceCtorEq, Int.reduceLT, Int.reduceLE, Int.reduceEq, Int.reduceBEq, Int.reduceSub, Int.reduceAdd, Int.reduceMul, Int.reduceNeg, Int.reduceToNat, Nat.reduceMul, Nat.reduceBEq, hnil]
              · simp at hY
          · rcases h2 with ⟨c', hc, rfl, e6, e7⟩ | ⟨hc, _⟩
            · rw [ht] at hc
              cases hc
              rcases h2' with ⟨hY, _⟩ | ⟨Y', hY, rfl, rfl⟩
              · simp at hY
              · cases hY
                rw [oA_up (wys_ne ht), hu] at e6
                rw [Int.toNat_natCast]
                simp only [go_sem, reduceIte, Nat.reduceEqDiff, Nat.reduceAdd, Nat.reduceSub, Nat.reduceLeDiff, Nat.reduceLT, reduceCtorEq, Int.reduceLT, Int.reduceLE, Int.reduceEq, Int.reduceBEq, Int.reduceSub, Int.reduceAdd, Int.reduceMul, Int.reduceNeg, Int.reduceToNat, Nat.reduceMul, Nat.reduceBEq, e6, e7, fin_t]
            · rw [ht] at hc; simp at hc
      · rw [if_neg p] at hW
        obtain ⟨rfl, rfl⟩ := hW
        simp only [ir33, go_sem, reduceIte, Nat.reduceEqDiff, Nat.reduceAdd, Nat.reduceSub, Nat.reduceLeDiff, Nat.reduceLT, reduceCtorEq, Int.reduceLT, Int.reduceLE, Int.reduceEq, Int.reduceBEq, Int.reduceSub, Int.reduceAdd, Int.reduceMul, Int.reduceNeg, Int.reduceToNat, Nat.reduceMul, Nat.reduceBEq, h25, h, q0, h73, p, hnil, List.length_map]
  · rw [if_neg h] at hW
    obtain ⟨rfl, rfl⟩ := hW
    simp only [ir33, go_sem, reduceIte, Nat.reduceEqDiff, Nat.reduceAdd, Nat.reduceSub, Nat.reduceLeDiff, Nat.reduceLT, reduceCtorEq, Int.reduceLT, Int.reduceLE, Int.reduceEq, Int.reduceBEq, Int.reduceSub, Int.reduceAdd, Int.reduceMul, Int.reduceNeg, Int.reduceToNat, Nat.reduceMul, Nat.reduceBEq, h25, h, hnil, List.length_map]
theorem wayR_len {n : Int} {ps : List (Int × Int)} {l : List Int} {a : Int} {V : List Int} {e : Int} (h : WayR n ps l a V e) : V.length < 1000000 := by
  unfold WayR at h
  by_cases hc : chk n ps = 0
  · obtain ⟨h1, _, h3, h4, _⟩ := chk_zero hc
    rw [if_pos hc] at h
    split at h
    · rw [h.1]; simp
    · split at h
      · next hs =>
        split at h
        · rw [h.1]; simp
        · next ha =>
          obtain ⟨r, hN, h2⟩ := h
          rcases h2 with ⟨_, rfl, _⟩ | ⟨Y, rfl, _, rfl⟩
          · simp
          · rw [wayL_len]
            have hn7 : n.toNat ≤ 7 := by omega
            obtain ⟨k, rfl⟩ := Int.eq_ofNat_of_zero_le (show 0 ≤ n by omega)
            rw [Int.toNat_natCast] at hN hn7
            have hin := fun x hx => setErr_in hs x hx
            have hl7 : ∀ x ∈ l, 0 ≤ x ∧ x < 7 := fun x hx => by have := hin x hx; omega
            have hY := (near_nks hN (nks_one _ _ _)).2 Y rfl
            obtain ⟨_, hY1, gl, gn⟩ := near_ok hN Y rfl (fun j hj => by simp at hj) (by simp) (fun j hj => by simp at hj)
            rw [nks_last hY] at gl
            have : Y.length - 1 ≤ k := by
              rcases nk_card (w := seeL 7 ps) (n := k) (g := setL l) (Y.length - 1) with ⟨j, hj, he⟩ | hcd
              · have hst := nk_stop he (Y.length - 1 - j)
                rw [show j + (Y.length - 1 - j) = Y.length - 1 by omega] at hst
                have h5 := gn j (by omega)
                rw [hY.2 j (by omega), ← hst, gl] at h5; simp at h5
              · have := cardN_le k (nk (seeL 7 ps) k (setL l) (Y.length - 1)); omega
            simp only [List.length_singleton]; omega
      · rw [h.1]; simp
  · rw [if_neg hc] at h
    rw [h.1]; simp
set_option maxHeartbeats 1000000 in
theorem c5 (nl n2 : Bool) (n : Int) (ps : List (Int × Int)) (l : List Int) (a : Int) (st : St) : run L 5 [bkAV nl n ps, sl 1 n2 (l.map I), I a] st = some (B true, st) := by
  rw [run_pure (fn := ir5) rfl rfl]
  by_cases p1 : 40 < ps.length
  · have q1 : ((40 : Int) < (ps.length : Int)) = True := eq_true (by omega)
    simp only [ir5, go_sem, reduceIte, Nat.reduceEqDiff, Nat.reduceAdd, Nat.reduceSub, Nat.reduceLeDiff, Nat.reduceLT, reduceCtorEq, Int.reduceLT, Int.reduceLE, Int.reduceEq, Int.reduceBEq, Int.reduceSub, Int.reduceAdd, Int.reduceMul, Int.reduceNeg, Int.reduceToNat, Nat.reduceMul, Nat.reduceBEq, List.length_map, q1, c17]
  · have q1 : ((40 : Int) < (ps.length : Int)) = False := eq_false (by omega)
    by_cases p2 : 40 < l.length
    · have q2 : ((40 : Int) < (l.length : Int)) = True := eq_true (by omega)
      simp only [ir5, go_sem, reduceIte, Nat.reduceEqDiff, Nat.reduceAdd, Nat.reduceSub, Nat.reduceLeDiff, Nat.reduceLT, reduceCtorEq, Int.reduceLT, Int.reduceLE, Int.reduceEq, Int.reduceBEq, Int.reduceSub, Int.reduceAdd, Int.reduceMul, Int.reduceNeg, Int.reduceToNat, Nat.reduceMul, Nat.reduceBEq, List.length_map, q1, q2, c17]
    · have q2 : ((40 : Int) < (l.length : Int)) = False := eq_false (by omega)
      obtain ⟨V, e, hW, h32⟩ := c32 nl n2 n ps l (by omega) a
      have h33 := fun st => c33 nl n2 n ps (by omega) l (by omega) a hW st
      have h34 := fun st => c34 nl n ps st
      have h35 := fun st => c35 nl n ps st
      have hV := wayR_len hW
      have et : tAV V = sl 1 true (V.map I) := rfl
      rw [← et] at h32
      have hnv : (numV n ps).length < 1000000 := by
        unfold numV
        by_cases h : chk n ps = 0
        · obtain ⟨h1, _, h3, h4, _⟩ := chk_zero h
          rw [if_pos h]
          split
          · obtain ⟨k, rfl⟩ := Int.eq_ofNat_of_zero_le (show 0 ≤ n by omega)
            rw [Int.toNat_natCast]
            have := (num_all (n := k) (by omega) (seeL_small 7 h4) (seeL_in (Nat.le_refl 7) (fun p hp => h3 p hp) h4) (self_no (fun p hp => h3 p hp) h4)).1
            omega
          · simp
        · rw [if_neg h]; simp
      have h22 := fun st => same_self V hV st
      have h22b := fun st => same_self (numV n ps) hnv st
      generalize tAV V = X at *
      generalize tAV (numV n ps) = Y at *
      generalize numE n ps = e2 at *
      simp only [ir5, go_sem, reduceIte, Nat.reduceEqDiff, Nat.reduceAdd, Nat.reduceSub, Nat.reduceLeDiff, Nat.reduceLT, reduceCtorEq, Int.reduceLT, Int.reduceLE, Int.reduceEq, Int.reduceBEq, Int.reduceSub, Int.reduceAdd, Int.reduceMul, Int.reduceNeg, Int.reduceToNat, Nat.reduceMul, Nat.reduceBEq, List.length_map, q1, q2, c17, h22, h22b, h32, h33, h34, h35]
end Go.Proofs.YtgohohiaaiogcaaDoor.Vm
