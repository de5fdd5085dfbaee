/- What is proved: what each function of this program computes, as equations on the evaluator. No condition. -/
import Derived.Test.YtgohohiaaiogcaaDoorC1
import Derived.Test.YtgohohiaaiogcaaDoorS0
set_option linter.all false
namespace Go.Proofs.YtgohohiaaiogcaaDoor.Vm
open Go Go.Ev
set_option maxRecDepth 100000
attribute [local go_sem] cells_any storable_any ren1_any shaped_ptr cells_ptr storable_ptr ren1_ptr shaped_eptr cells_eptr storable_eptr ren1_eptr shaped_rsl cells_rsl storable_rsl ren1_rsl shaped_int cells_int storable_int ren1_int shaped_bool cells_bool storable_bool ren1_bool shaped_nils cells_nils storable_nils ren1_nils shaped_lst cells_lst storable_lst shaped_fn cells_fn storable_fn ren1_fn shaped_ifc cells_ifc storable_ifc ren1_ifc shaped_agg cells_agg storable_agg ren1_agg shaped_tup cells_tup storable_tup ren1_tup shaped_nif cells_nif storable_nif ren1_nif ren1_lany ren1_lfull ren1_lown len_lst len_rsl len_nil load_ptr load_eptr isRsl_lst isRsl_nil isRsl_rsl elems_nil elems_lst elems_sl isRsl_sl body_eq bodyK_normal bodyK_ret resK_some leaveK_some only_some code_skip code_exit code_ret code_ops code_seq code_cond code_block seqK_normal seqK_ret seqK_exit condK_true condK_false blockK_normal blockK_ret blockK_exit opsK_some ops_nil ops_cons wantK_true wantK_false stepK_some pubs pub pub_sl params okRef_loc storable_loc shaped_loc cells_loc isRsl_loc elems_loc len_loc untips untip untip_sl wantedAV setElems withO isAgg_v isAgg_agg isAgg_lst isAgg_ptr isAgg_fn isAgg_ifc isAgg_rsl isAgg_sl isAgg_loc List.replicate_succ List.replicate_zero opAV valAV aval avals ofVal Env.get setD canon gcAV renAll renEnv renStore renCells ren1_sl cutSt okEnv okStore okRefs okRef okRef_sl bin_int bin_bool bin_lst bin_rsl bin_nil bin_agg cellsEq cellEq isShift intOp boolOp min_int max_int beq_int bne resAV tupAV leave_eq fin_sl fin_loc fins fin_v fin_lst fin_agg fin_tup fin_fn storeAV readCells putCells cells_sl shaped_sl storable_sl fieldAddrAV len_sl goI List.getElem?_cons_zero List.getElem?_cons_succ List.getElem?_nil Option.bind_some Option.map_some List.length_cons List.length_nil List.all_cons List.all_nil Bool.and_true Bool.true_and Bool.and_false Bool.false_and and_true true_and and_false false_and Bool.false_eq_true List.set_cons_zero List.set_cons_succ List.append_nil List.nil_append List.cons_append List.take_zero List.take_succ_cons List.take_nil List.drop_zero List.drop_succ_cons List.map_cons List.map_nil decide_true decide_false beq_self_eq_true Bool.not_true Bool.not_false or_true true_or or_false false_or Nat.zero_add Nat.add_zero Nat.le_refl Nat.lt_irrefl decide_eq_true_eq eq_self_iff_true not_true_eq_false not_false_eq_true List.getD_cons_zero code_loop Nat.zero_le Nat.not_lt_zero Bool.true_beq Bool.false_beq beq_true beq_false ge_iff_le gt_iff_lt keepR keepT ownTop Lpure pus Option.map_none assert_ifc assert_nil idxA_ptr idxA_eptr idxV_agg Int.cast_ofNat_Int Nat.mul_one Nat.zero_mul Int.toNat_natCast Int.toNat_zero setParts withO2 hasKey eqnil_sl nenil_sl eqnil_loc nenil_loc map_nil_iff okRefs_ints renCells_ints
attribute [local go_sem] shaped_t cells_t isAgg_t storable_t okRef_t pub_t
attribute [local go_sem high] and_one shr_u shl_one or_u and_u

/-! ### lists as sets -/
def setErr (n : Int) : Int → List Int → Int
  | _, [] => 0
  | last, x :: r => if x < 0 ∨ n ≤ x then 2 else if x ≤ last then 7 else setErr n x r

theorem loop72 (nl : Bool) (n : Int) (hn : 1 ≤ n ∧ n ≤ 7) (l : List Int) (hlen : l.length < 1000000) (w : List Nat) (ho : w.length = 7) (i : Nat) (last : Int) (hok : i ≤ l.length ∧ ∀ x ∈ l.take i, 0 ≤ x ∧ x < n) (env : Env) (st : St)
    (hg : gcAV true 1 0 (canon env [2, 6, 7, 10, 11, 12]) st = ([(2, .ptr 0 0), (6, U (setL (l.take i))), (7, I last), (10, sl 1 nl (l.map I)), (11, I l.length), (12, I i)], ⟨[webC n w], []⟩)) :
    ∃ x_1 en s, lim (headed pure (run L) true [2, 6, 7, 10, 11, 12] lp72_0 1 0) env st = some (x_1, en, s) ∧ (if setErr n last (l.drop i) = 0 then x_1 = .exit 0 ∧ en.get 6 = U (setL l) ∧ (∀ x ∈ l, 0 ≤ x ∧ x < n) else x_1 = .ret ∧ en.get 4 = U 0 ∧ en.get 5 = I (setErr n last (l.drop i))) := by
  refine loop_wp (α := Nat × Int) (fun ⟨i, last⟩ => l.length - i) (fun ⟨i, last⟩ => i ≤ l.length ∧ ∀ x ∈ l.take i, 0 ≤ x ∧ x < n) (fun ⟨i, last⟩ => ([(2, .ptr 0 0), (6, U (setL (l.take i))), (7, I last), (10, sl 1 nl (l.map I)), (11, I l.length), (12, I i)], ⟨[webC n w], []⟩)) (fun ⟨i, last⟩ x_1 en s => if setErr n last (l.drop i) = 0 then x_1 = .exit 0 ∧ en.get 6 = U (setL l) ∧ (∀ x ∈ l, 0 ≤ x ∧ x < n) else x_1 = .ret ∧ en.get 4 = U 0 ∧ en.get 5 = I (setErr n last (l.drop i))) (fun ⟨i, last⟩ hok => ?_) ⟨i, last⟩ hok env st hg
  simp only at hok
  obtain ⟨h1, h2⟩ := hok
  dsimp only at h1 h2 ⊢
  by_cases h : i < l.length
  · have hx := index_ints nl l i h
    have hs := succ64 i (by omega)
    have hd : l.drop i = l[i] :: l.drop (i + 1) := List.drop_eq_getElem_cons h
    have ht : l.take (i + 1) = l.take i ++ [l[i]] := by rw [List.take_succ_eq_append_getElem h]
    have h2' : ∀ x ∈ l.take i, 0 ≤ x ∧ x < 7 := fun x hx => by have := h2 x hx; omega
    have hm1 := setL_lt h2'
    have hsn := setL_snoc (l.take i) l[i]
    rw [← ht] at hsn
    rw [hd]
    generalize l[i] = x at *
    have hlt : ((i : Int) < (l.length : Int)) = True := eq_true (by omega)
    have hlw := lenW n w
    have g0 := getW0 n w
    rw [ho] at hlw
    by_cases p1 : x < 0
    · have he : setErr n last (x :: l.drop (i + 1)) = 2 := by simp only [setErr]; rw [if_pos (by omega)]
      simp only [go_sem, reduceIte, Nat.reduceEqDiff, Nat.reduceAdd, Nat.reduceSub, Nat.reduceLeDiff, Nat.reduceLT, reduceCtorEq, Int.reduceLT, Int.reduceLE, Int.reduceEq, Int.reduceBEq, Int.reduceSub, Int.reduceAdd, Int.reduceMul, Int.reduceNeg, Int.reduceToNat, Nat.reduceMul, Nat.reduceBEq, index_rsl_if, setm, make_ints, condK_dec, wantK_dec, not_dec, and_dec, or_dec, seqK_ite, seqK_none, blockK_ite, blockK_none, opsK_ite, opsK_none, stepK_ite, stepK_none, bodyK_ite, bodyK_none, resK_ite, resK_none, leaveK_ite, leaveK_none, only_ite, only_none, bind_ite, gives_some, gives_none, gives_ite, then_normal, then_ret, then_exit, then_none, then_ite, Option.bind_none, Bool.not_eq_true', decide_eq_false_iff_not, Bool.and_eq_true, Bool.or_eq_true, Option.some.injEq, Int.not_lt, Int.not_le, lp72_0, hx, hlt, p1, hlw, g0, List.length_map]
      simp [he]
    by_cases p2 : n ≤ x
    · have he : setErr n last (x :: l.drop (i + 1)) = 2 := by simp only [setErr]; rw [if_pos (by omega)]
      simp only [go_sem, reduceIte, Nat.reduceEqDiff, Nat.reduceAdd, Nat.reduceSub, Nat.reduceLeDiff, Nat.reduceLT, reduceCtorEq, Int.reduceLT, Int.reduceLE, Int.reduceEq, Int.reduceBEq, Int.reduceSub, Int.reduceAdd, Int.reduceMul, Int.reduceNeg, Int.reduceToNat, Nat.reduceMul, Nat.reduceBEq, index_rsl_if, setm, make_ints, condK_dec, wantK_dec, not_dec, and_dec, or_dec, seqK_ite, seqK_none, blockK_ite, blockK_none, opsK_ite, opsK_none, stepK_ite, stepK_none, bodyK_ite, bodyK_none, resK_ite, resK_none, leaveK_ite, leaveK_none, only_ite, only_none, bind_ite, gives_some, gives_none, gives_ite, then_normal, then_ret, then_exit, then_none, then_ite, Option.bind_none, Bool.not_eq_true', decide_eq_false_iff_not, Bool.and_eq_true, Bool.or_eq_true, Option.some.injEq, Int.not_lt, Int.not_le, lp72_0, hx, hlt, p1, p2, hlw, g0, List.length_map]
      simp [he]
    obtain ⟨k, rfl⟩ := Int.eq_ofNat_of_zero_le (show 0 ≤ x by omega)
    have hk : k < 7 := by omega
    have p1' : ((k : Int) < 0) = False := eq_false p1
    rw [Int.toNat_natCast] at hsn
    have e1 : orU (setL (l.take i)) (sh1 k) = setL (l.take (i + 1)) := by rw [hsn, (sh1_lt k hk).1, orU_eq _ _ hm1 (sh1_lt k hk).2]
    by_cases p3 : (k : Int) ≤ last
    · have he : setErr n last ((k : Int) :: l.drop (i + 1)) = 7 := by simp only [setErr]; rw [if_neg (by omega), if_pos p3]
      simp only [go_sem, reduceIte, Nat.reduceEqDiff, Nat.reduceAdd, Nat.reduceSub, Nat.reduceLeDiff, Nat.reduceLT, reduceCtorEq, Int.reduceLT, Int.reduceLE, Int.reduceEq, Int.reduceBEq, Int.reduceSub, Int.reduceAdd, Int.reduceMul, Int.reduceNeg, Int.reduceToNat, Nat.reduceMul, Nat.reduceBEq, index_rsl_if, setm, make_ints, condK_dec, wantK_dec, not_dec, and_dec, or_dec, seqK_ite, seqK_none, blockK_ite, blockK_none, opsK_ite, opsK_none, stepK_ite, stepK_none, bodyK_ite, bodyK_none, resK_ite, resK_none, leaveK_ite, leaveK_none, only_ite, only_none, bind_ite, gives_some, gives_none, gives_ite, then_normal, then_ret, then_exit, then_none, then_ite, Option.bind_none, Bool.not_eq_true', decide_eq_false_iff_not, Bool.and_eq_true, Bool.or_eq_true, Option.some.injEq, Int.not_lt, Int.not_le, lp72_0, hx, hlt, p1', p2, p3, hlw, g0, List.length_map]
      simp [he]
    · have he : setErr n last ((k : Int) :: l.drop (i + 1)) = setErr n (k : Int) (l.drop (i + 1)) := by simp only [setErr]; rw [if_neg (by omega), if_neg p3]
      rw [he]
      simp only [go_sem, reduceIte, Nat.reduceEqDiff, Nat.reduceAdd, Nat.reduceSub, Nat.reduceLeDiff, Nat.reduceLT, reduceCtorEq, Int.reduceLT, Int.reduceLE, Int.reduceEq, Int.reduceBEq, Int.reduceSub, Int.reduceAdd, Int.reduceMul, Int.reduceNeg, Int.reduceToNat, Nat.reduceMul, Nat.reduceBEq, index_rsl_if, setm, make_ints, condK_dec, wantK_dec, not_dec, and_dec, or_dec, seqK_ite, seqK_none, blockK_ite, blockK_none, opsK_ite, opsK_none, stepK_ite, stepK_none, bodyK_ite, bodyK_none, resK_ite, resK_none, leaveK_ite, leaveK_none, only_ite, only_none, bind_ite, gives_some, gives_none, gives_ite, then_normal, then_ret, then_exit, then_none, then_ite, Option.bind_none, Bool.not_eq_true', decide_eq_false_iff_not, Bool.and_eq_true, Bool.or_eq_true, Option.some.injEq, Int.not_lt, Int.not_le, lp72_0, hx, hlt, hs, p1', p2, p3, hlw, g0, e1, List.length_map]
      refine ⟨(i + 1, (k : Int)), by simp only [go_sem, reduceIte, Nat.reduceEqDiff, Nat.reduceAdd, Nat.reduceSub, Nat.reduceLeDiff, Nat.reduceLT, reduceCtorEq, Int.reduceLT, Int.reduceLE, Int.reduceEq, Int.reduceBEq, Int.reduceSub, Int.reduceAdd, Int.reduceMul, Int.reduceNeg, Int.reduceToNat, Nat.reduceMul, Nat.reduceBEq, ren1_locm, loc_tips, locT_eq, okRefsW, renCellsW] <;> rfl, ?_, ?_, fun x en s hq => ?_⟩
      · dsimp only
        refine ⟨by omega, fun x hx => ?_⟩
        rw [ht] at hx
        rcases List.mem_append.1 hx with hx | hx
        · exact h2 x hx
        · simp at hx; omega
      · dsimp only; omega
      · exact hq
  · have hd : l.drop i = [] := List.drop_eq_nil_of_le (by omega)
    have hlt : ((i : Int) < (l.length : Int)) = False := eq_false (by omega)
    have htl : l.take i = l := List.take_of_length_le (by omega)
    rw [htl] at h2
    simp only [go_sem, reduceIte, Nat.reduceEqDiff, Nat.reduceAdd, Nat.reduceSub, Nat.reduceLeDiff, Nat.reduceLT, reduceCtorEq, Int.reduceLT, Int.reduceLE, Int.reduceEq, Int.reduceBEq, Int.reduceSub, Int.reduceAdd, Int.reduceMul, Int.reduceNeg, Int.reduceToNat, Nat.reduceMul, Nat.reduceBEq, index_rsl_if, setm, make_ints, condK_dec, wantK_dec, not_dec, and_dec, or_dec, seqK_ite, seqK_none, blockK_ite, blockK_none, opsK_ite, opsK_none, stepK_ite, stepK_none, bodyK_ite, bodyK_none, resK_ite, resK_none, leaveK_ite, leaveK_none, only_ite, only_none, bind_ite, gives_some, gives_none, gives_ite, then_normal, then_ret, then_exit, then_none, then_ite, Option.bind_none, Bool.not_eq_true', decide_eq_false_iff_not, Bool.and_eq_true, Bool.or_eq_true, Option.some.injEq, Int.not_lt, Int.not_le, lp72_0, hlt, List.length_map, htl]
    rw [hd]
    simp only [setErr, if_true]
    exact h2

theorem c72 (nl : Bool) (n : Int) (hn : 1 ≤ n ∧ n ≤ 7) (l : List Int) (hlen : l.length < 1000000) (w : List Nat) (ho : w.length = 7) (st : St) :
    run L 72 [webAV n w, sl 1 nl (l.map I)] st = some (.tup [U (if setErr n (-1) l = 0 then setL l else 0), I (setErr n (-1) l)], st) ∧ (setErr n (-1) l = 0 → ∀ x ∈ l, 0 ≤ x ∧ x < n) := by
  rw [run_pure (fn := ir72) rfl rfl]
  have hlw := lenW n w
  rw [ho] at hlw
  have e0 : U (setL (l.take 0)) = U 0 := rfl
  simp only [ir72, go_sem, reduceIte, Nat.reduceEqDiff, Nat.reduceAdd, Nat.reduceSub, Nat.reduceLeDiff, Nat.reduceLT, reduceCtorEq, Int.reduceLT, Int.reduceLE, Int.reduceEq, Int.reduceBEq, Int.reduceSub, Int.reduceAdd, Int.reduceMul, Int.reduceNeg, Int.reduceToNat, Nat.reduceMul, Nat.reduceBEq, List.length_map, hlw, pubsW, storableW]
  generalize hg : lim (headed pure (run L) true _ lp72_0 _ _) _ _ = o
  obtain ⟨x, en, s, rfl, h2⟩ : ∃ x en s, o = some (x, en, s) ∧ _ := by rw [← hg]; exact loop72 nl n hn l hlen w ho 0 (-1) ⟨by omega, by simp⟩ _ _ (by simp only [go_sem, reduceIte, Nat.reduceEqDiff, Nat.reduceAdd, Nat.reduceSub, Nat.reduceLeDiff, Nat.reduceLT, reduceCtorEq, Int.reduceLT, Int.reduceLE, Int.reduceEq, Int.reduceBEq, Int.reduceSub, Int.reduceAdd, Int.reduceMul, Int.reduceNeg, Int.reduceToNat, Nat.reduceMul, Nat.reduceBEq, okRefsW, renCellsW, e0] <;> rfl)
  clear hg
  rw [List.drop_zero] at h2
  by_cases h : setErr n (-1) l = 0
  · rw [if_pos h] at h2 ⊢
    obtain ⟨rfl, h3, h4⟩ := h2
    exact ⟨by simp only [go_sem, reduceIte, Nat.reduceEqDiff, Nat.reduceAdd, Nat.reduceSub, Nat.reduceLeDiff, Nat.reduceLT, reduceCtorEq, Int.reduceLT, Int.reduceLE, Int.reduceEq, Int.reduceBEq, Int.reduceSub, Int.reduceAdd, Int.reduceMul, Int.reduceNeg, Int.reduceToNat, Nat.reduceMul, Nat.reduceBEq, h3, h], fun _ => h4⟩
  · rw [if_neg h] at h2 ⊢
    obtain ⟨rfl, h3, h4⟩ := h2
    exact ⟨by simp only [go_sem, reduceIte, Nat.reduceEqDiff, Nat.reduceAdd, Nat.reduceSub, Nat.reduceLeDiff, Nat.reduceLT, reduceCtorEq, Int.reduceLT, Int.reduceLE, Int.reduceEq, Int.reduceBEq, Int.reduceSub, Int.reduceAdd, Int.reduceMul, Int.reduceNeg, Int.reduceToNat, Nat.reduceMul, Nat.reduceBEq, h3, h4]; rfl, fun h5 => absurd h5 h⟩

attribute [local go_sem] shaped_t cells_t isAgg_t storable_t okRef_t pub_t
attribute [local go_sem high] and_one shr_u shl_one or_u and_u

/-- What Valid answers. -/
def validE (n : Int) (ps : List (Int × Int)) (l : List Int) : Int :=
  if chk n ps = 0 then if setErr n (-1) l = 0 then jdg n.toNat (seeL 7 ps) (setL l) else setErr n (-1) l else chk n ps
theorem c26 (nl n2 : Bool) (n : Int) (ps : List (Int × Int)) (l : List Int) (hlen : l.length < 1000000) (st : St) :
    run L 26 [bkAV nl n ps, sl 1 n2 (l.map I)] st = some (I (validE n ps l), st) := by
  rw [run_pure (fn := ir26) rfl rfl]
  have h65 := fun st => c65 nl n ps st
  unfold validE
  by_cases h : chk n ps = 0
  · obtain ⟨h1, hl16, h3, h4, h5⟩ := chk_zero h
    obtain ⟨k, rfl⟩ := Int.eq_ofNat_of_zero_le (show 0 ≤ n by omega)
    have hw : wovL (k : Int) ps = seeL 7 ps := by unfold wovL; rw [if_pos h]
    rw [hw] at h65
    rw [if_pos h, Int.toNat_natCast]
    have hlw := lenW (k : Int) (seeL 7 ps)
    rw [seeL_len] at hlw
    have hpw := putW (k : Int) (seeL 7 ps) (seeL_len 7 ps)
    have htkw : (webC (k : Int) (seeL 7 ps)).take 8 = webC (k : Int) (seeL 7 ps) := List.take_of_length_le (by omega)
    have h72 := fun st => (c72 n2 (k : Int) h1 l hlen (seeL 7 ps) (seeL_len 7 ps) st).1
    have h72b := (c72 n2 (k : Int) h1 l hlen (seeL 7 ps) (seeL_len 7 ps) ⟨[], []⟩).2
    by_cases p : setErr (k : Int) (-1) l = 0
    · have hm : setL l < 128 := setL_lt (fun x hx => by have := h72b p x hx; omega)
      have h66 := fun st => c66 k (by omega) (seeL 7 ps) (seeL_len 7 ps) (seeL_small 7 h4) (setL l) hm st
      rw [if_pos p]
      rw [if_pos p] at h72
      simp only [ir26, go_sem, reduceIte, Nat.reduceEqDiff, Nat.reduceAdd, Nat.reduceSub, Nat.reduceLeDiff, Nat.reduceLT, reduceCtorEq, Int.reduceLT, Int.reduceLE, Int.reduceEq, Int.reduceBEq, Int.reduceSub, Int.reduceAdd, Int.reduceMul, Int.reduceNeg, Int.reduceToNat, Nat.reduceMul, Nat.reduceBEq, h65, h, hlw, hpw, htkw, pubsW, storableW, h72, p, h66]
    · rw [if_neg p]
      rw [if_neg p] at h72
      simp only [ir26, go_sem, reduceIte, Nat.reduceEqDiff, Nat.reduceAdd, Nat.reduceSub, Nat.reduceLeDiff, Nat.reduceLT, reduceCtorEq, Int.reduceLT, Int.reduceLE, Int.reduceEq, Int.reduceBEq, Int.reduceSub, Int.reduceAdd, Int.reduceMul, Int.reduceNeg, Int.reduceToNat, Nat.reduceMul, Nat.reduceBEq, h65, h, hlw, hpw, htkw, pubsW, storableW, h72, p]
  · rw [if_neg h]
    have hl7 : (wovL n ps).length = 7 := by unfold wovL; rw [if_neg h]; simp
    have hlw := lenW n (wovL n ps)
    rw [hl7] at hlw
    have hpw := putW n (wovL n ps) hl7
    simp only [ir26, go_sem, reduceIte, Nat.reduceEqDiff, Nat.reduceAdd, Nat.reduceSub, Nat.reduceLeDiff, Nat.reduceLT, reduceCtorEq, Int.reduceLT, Int.reduceLE, Int.reduceEq, Int.reduceBEq, Int.reduceSub, Int.reduceAdd, Int.reduceMul, Int.reduceNeg, Int.reduceToNat, Nat.reduceMul, Nat.reduceBEq, h65, h, hlw, hpw, pubsW, storableW]
theorem c23t (n1 n2 : Bool) (xs ys : List (List Int)) (hlen : xs.length < 1000000) (hx : ∀ l ∈ xs, l.length < 1000000) (h1 : ∀ l ∈ xs, l ≠ []) (h2 : ∀ l ∈ ys, l ≠ []) (st : St) : run L 23 [sl 1 n1 (xs.map tAV), sl 1 n2 (ys.map tAV)] st = some (B (decide (xs = ys)), st) := by
  have e : ∀ X : List (List Int), (∀ l ∈ X, l ≠ []) → X.map tAV = X.map listAV := fun X h => List.map_congr_left fun l hl => by
    unfold tAV listAV
    rw [sl_ne (by simpa using h l hl), sl_ne (by simpa using h l hl)]
  rw [e xs h1, e ys h2]
  exact c23 n1 n2 xs ys hlen hx st
/-- Choices are not empty. -/
theorem chos_ne {n : Nat} (hn : 1 ≤ n) (hn7 : n ≤ 7) {ps : List (Int × Int)} : ∀ l ∈ chosL n ps, l ≠ [] ∧ l.length ≤ 7 := by
  intro l hl
  unfold chosL at hl
  have := (sortL_perm lexLt _).mem_iff.1 hl
  unfold kerL at this
  obtain ⟨m, hm, rfl⟩ := List.mem_map.1 this
  obtain ⟨hmr, h2⟩ := List.mem_filter.1 hm
  rw [decide_eq_true_iff, jdg_zero] at h2
  rw [List.mem_range'_1] at hmr
  have h128 : 2 ^ n ≤ 128 := Nat.pow_le_pow_right (by omega) hn7
  refine ⟨fun e => ?_, memb_len m⟩
  have hz : ∀ x, x < 7 → m.testBit x = false := by
    intro x hx
    cases hb : m.testBit x
    · rfl
    · have : ((x : Nat) : Int) ∈ memb m := by
        unfold memb
        exact List.mem_map.2 ⟨x, List.mem_filter.2 ⟨List.mem_range.2 hx, hb⟩, rfl⟩
      rw [e] at this; simp at this
  have h0 := h2 0 (by omega)
  rw [hz 0 (by omega)] at h0
  simp only [Bool.false_eq_true, false_iff] at h0
  have hm0 : m = 0 := by
    apply Nat.eq_of_testBit_eq
    intro i
    rw [Nat.zero_testBit]
    by_cases hi : i < 7
    · exact hz i hi
    · exact Nat.testBit_lt_two_pow (Nat.lt_of_lt_of_le (show m < 2 ^ 7 by omega) (Nat.pow_le_pow_right (by omega) (by omega)))
  apply h0
  rw [hm0, Nat.and_zero]


/-! ### a list of lists that grows -/
def oAV (X : List (List Int)) : AV := loc 1 0 (X.map tAV)
theorem okRef_o (n : Nat) (X : List (List Int)) : okRef n (oAV X) = true := okRef_loc _ _ _ _
theorem fin_o (st : St) (X : List (List Int)) : fin st (oAV X) = sl 1 true (X.map tAV) := fin_loc st 1 0 _
theorem index_t (nl : Bool) (xs : List (List Int)) (i : Nat) (h : i < xs.length) : indexSAV 1 (sl 1 nl (xs.map tAV)) (.v (.int .i64 i)) = some (.eptr (tAV xs[i]) 0) := by
  rw [index_sl _ _ _ _ _ (by omega) (by simpa using h)]
  simp
theorem len_t (nl : Bool) (X : List (List Int)) : lenAV (sl 1 nl (X.map tAV)) = some (I X.length) := by rw [len_sl]; simp
attribute [local go_sem] shaped_t cells_t isAgg_t storable_t okRef_t pub_t okRef_o fin_o

attribute [local go_sem] shaped_t cells_t isAgg_t storable_t okRef_t pub_t

/-! ### the code and the reference say the same -/
theorem setL_memb {m : Nat} (hm : m < 128) : setL (memb m) = m := by
  have hr : ∀ x ∈ memb m, 0 ≤ x ∧ x < 7 := by
    intro x hx
    unfold memb at hx
    obtain ⟨i, hi, rfl⟩ := List.mem_map.1 hx
    have := List.mem_range.1 (List.mem_filter.1 hi).1
    omega
  apply Nat.eq_of_testBit_eq
  intro b
  rw [setL_bit hr, Bool.eq_iff_iff, decide_eq_true_iff]
  unfold memb
  rw [List.mem_map]
  constructor
  · rintro ⟨i, hi, he⟩
    have hib : i = b := by omega
    subst hib
    exact (List.mem_filter.1 hi).2
  · intro h
    exact ⟨b, List.mem_filter.2 ⟨List.mem_range.2 (bit_lt (n := 7) hm h), h⟩, rfl⟩

attribute [local go_sem high] and_one shr_u shl_one or_u and_u

/-! ### a list of sets that grows -/
def qA (X : List Nat) : AV := loc 1 1 (X.map U)
def qT (X : List Nat) : List Nat := locT 1 (X.map U)
theorem okRef_q (n : Nat) (X : List Nat) : okRef n (qA X) = true := okRef_loc _ _ _ _
theorem len_q (X : List Nat) : lenAV (qA X) = some (I X.length) := by unfold qA; rw [len_loc]; simp
/-! ### how wide it gets -/

attribute [local go_sem high] and_one shr_u shl_one or_u and_u
attribute [local go_sem] okRef_q len_q

/-! ### the way, above the sets -/
def pA (X : List Nat) (o : List Int) : AV := if o.length = 1 then .lst .full 1 (o.map I) else .lst (.own (qT X).length o.length) 1 (o.map I)
theorem okRef_p (n : Nat) (X : List Nat) (o : List Int) : okRef n (pA X o) = true := by unfold pA; split <;> rfl


/-! ### how far each word has to go, without the program -/
/-! ### the law's numbers -/
def bitsL (m : Nat) : List Nat := (List.range 7).filter m.testBit

attribute [local go_sem] shaped_t cells_t isAgg_t storable_t okRef_t pub_t

theorem memb_J (m : Nat) : (memb m).map I = (bitsL m).map J := by simp [memb, bitsL, List.map_map, Function.comp]
theorem index_J (nl : Bool) (l : List Nat) (i : Nat) (h : i < l.length) : indexSAV 1 (sl 1 nl (l.map J)) (.v (.int .i64 (i : Int))) = some (.eptr (J l[i]) 0) := by
  have := index_sl 1 nl (l.map J) .i64 (i : Int) (by omega) (by simpa using h)
  simpa using this

attribute [local go_sem] shaped_t cells_t isAgg_t storable_t okRef_t pub_t

/-! ### the law's way grows -/
def rA (o : List Int) : AV := loc 1 1 (o.map I)
theorem okRef_r (n : Nat) (o : List Int) : okRef n (rA o) = true := okRef_loc _ _ _ _


theorem setErr_ok {n : Int} : ∀ (l : List Int) (last : Int), (∀ x ∈ l, last < x ∧ 0 ≤ x ∧ x < n) → l.Pairwise (· < ·) → setErr n last l = 0
  | [], _, _, _ => rfl
  | x :: r, last, h, hp => by
    have hx := h x (by simp)
    rw [List.pairwise_cons] at hp
    unfold setErr
    rw [if_neg (by omega), if_neg (by omega)]
    exact setErr_ok r x (fun y hy => by have := h y (by simp [hy]); exact ⟨hp.1 y hy, this.2⟩) hp.2
theorem setErr_memb {n m : Nat} (hm : m < 2 ^ n) : setErr (n : Int) (-1) (memb m) = 0 := by
  refine setErr_ok _ _ (fun x hx => ?_) ?_
  · unfold memb at hx
    obtain ⟨i, hi, rfl⟩ := List.mem_map.1 hx
    have := bit_lt hm (List.mem_filter.1 hi).2
    omega
  · unfold memb
    rw [List.pairwise_map]
    exact (List.pairwise_lt_range.filter _).imp (fun h => by omega)
/-- The choices are sets. -/
theorem chos_set {n : Nat} {ps : List (Int × Int)} {c : List Int} (hc : c ∈ chosL n ps) : ∃ m, m < 2 ^ n ∧ c = memb m ∧ jdg n (seeL 7 ps) m = 0 := by
  unfold chosL at hc
  have := (sortL_perm lexLt _).mem_iff.1 hc
  unfold kerL at this
  obtain ⟨m, hm, rfl⟩ := List.mem_map.1 this
  obtain ⟨hmr, h2⟩ := List.mem_filter.1 hm
  rw [decide_eq_true_iff] at h2
  rw [List.mem_range'_1] at hmr
  exact ⟨m, by omega, rfl, h2⟩
/-! ### the law's numbers in the beginning -/
/-! ### what hangs on the web's sets alone -/

attribute [local go_sem] shaped_t cells_t isAgg_t storable_t okRef_t pub_t okRef_r

theorem allV_ok {n : Nat} {ps : List (Int × Int)} (h : chk (n : Int) ps = 0) : allV (n : Int) ps = chosL n ps := by
  unfold allV; rw [if_pos h, Int.toNat_natCast]


/-! ### all circles, without the program -/
theorem bits_mem {m : Nat} (hm : m < 128) (x : Nat) : x ∈ bitsL m ↔ m.testBit x = true :=
  ⟨fun h => (List.mem_filter.1 h).2, fun h => List.mem_filter.2 ⟨List.mem_range.2 (bit_lt7 hm h), h⟩⟩
/-! ### what lies ahead of the goal in the store -/

attribute [local go_sem] shaped_t cells_t isAgg_t storable_t okRef_t pub_t

/-! ### the law's circles: a list of lists that grows, with a tip anywhere -/
def oA (c : List Nat) : AV := .lst .any 1 (c.map J)
theorem shaped_oA (c : List Nat) : (oA c).shaped = true := rfl
theorem cells_oA (c : List Nat) : (oA c).cells = [oA c] := rfl
theorem storable_oA (c : List Nat) : storable (oA c) = true := rfl

attribute [local go_sem] shaped_t cells_t isAgg_t storable_t okRef_t pub_t

theorem len_tAV (l : List Int) : lenAV (tAV l) = some (I l.length) := by unfold tAV; rw [len_sl, List.length_map]
theorem ren1_t' (n : Nat) (T : List Nat) (acc : List (Nat × Nat)) (l : List Int) : ren1 n T acc (tAV l) = (tAV l, acc) := ren1_sl _ _ _ _ _ _

attribute [local go_sem] shaped_t cells_t isAgg_t storable_t okRef_t pub_t

theorem lists_self (n : Nat) (hn : 1 ≤ n ∧ n ≤ 7) {ps : List (Int × Int)} (h5 : ∀ p ∈ ps, goodP (n : Int) p) (h6 : ∀ p ∈ ps, okP p) :
    (chosL n ps).length ≤ 12 ∧ ∀ st, run L 23 [sl 1 true ((chosL n ps).map tAV), sl 1 true ((chosL n ps).map tAV)] st = some (B true, st) := by
  have hcl : (chosL n ps).length ≤ 12 := by
    unfold chosL; rw [(sortL_perm lexLt _).length_eq]; exact ker12 hn.2 (fun p hp => h5 p hp) h6
  have hce := fun c hc => chos_ne hn.1 hn.2 (ps := ps) c hc
  refine ⟨hcl, fun st => ?_⟩
  have := c23t true true (chosL n ps) (chosL n ps) (by omega) (fun l hl => by have := (hce l hl).2; omega) (fun l hl => (hce l hl).1) (fun l hl => (hce l hl).1) st
  rw [decide_eq_true rfl] at this
  exact this

attribute [local go_sem high] and_one shr_u shl_one or_u and_u
attribute [local go_sem] shaped_t cells_t isAgg_t storable_t okRef_t pub_t okRef_out storable_out shaped_out cells_out fin_out pub_out

/-! ### a list above the book's -/
theorem ren1_outG {o : List (Int × Int)} {k : Nat} (h : (outT o).length ≤ k) (T : List Nat) (acc : List (Nat × Nat)) : ren1 k T acc (outAV o) = (outAV o, acc) := by
  unfold outAV outT loc locT at *
  by_cases h0 : (o.map prAV).length = 0
  · rw [if_pos h0, if_pos rfl]; rfl
  · rw [if_neg h0] at h ⊢
    simp only [List.length_singleton] at h
    rw [ren1_lown, if_pos (by omega)]

attribute [local go_sem] shaped_t cells_t isAgg_t storable_t okRef_t pub_t shaped_oA cells_oA storable_oA

/-! ### a copy of a list of references, and what it gains -/
theorem c55 (A : List (Int × Int)) (hl : A.length ≤ 1000) : run L 55 [sl 2 false (A.map prAV)] ⟨[], []⟩ = some (if A = [] then .lst .full 2 [] else .lst (.own 0 A.length) 2 (A.map prAV), ⟨[], if A = [] then [] else [A.length]⟩) := by
  rw [run_shared (fn := ir55) rfl rfl]
  have hm : A.length ≤ maxGrow := by unfold maxGrow; omega
  have hs : sl 2 false (A.map prAV) = .lst .any 2 (A.map prAV) := rfl
  have hap : appendAV 2 (.lst .full 2 []) (A.map prAV) ⟨[], []⟩ = some (if A = [] then .lst .full 2 [] else .lst (.own 0 A.length) 2 (A.map prAV), ⟨[], if A = [] then [] else [A.length]⟩) := by
    cases A with
    | nil => rfl
    | cons x r =>
      rw [List.map_cons, if_neg (by simp), if_neg (by simp)]
      simp only [appendAV, if_true, List.length_nil, Nat.zero_add, List.length_cons, List.length_map] at hm ⊢
      rw [if_pos hm]; rfl
  rw [hs]
  simp only [ir55, go_sem, reduceIte, Nat.reduceEqDiff, Nat.reduceAdd, Nat.reduceSub, Nat.reduceLeDiff, Nat.reduceLT, reduceCtorEq, Int.reduceLT, Int.reduceLE, Int.reduceEq, Int.reduceBEq, Int.reduceSub, Int.reduceAdd, Int.reduceMul, Int.reduceNeg, Int.reduceToNat, Nat.reduceMul, Nat.reduceBEq, hap]

attribute [local go_sem] shaped_t cells_t isAgg_t storable_t okRef_t pub_t okRef_out storable_out shaped_out cells_out fin_out pub_out

/-! ### whether no word of a set sees another -/
theorem bitsL_le (m : Nat) : (bitsL m).length ≤ 7 := by
  unfold bitsL
  exact Nat.le_trans (List.length_filter_le _ _) (by simp)
theorem bitsL_lt {m y : Nat} (h : y ∈ bitsL m) : y < 7 := by
  unfold bitsL at h
  exact List.mem_range.1 (List.mem_filter.1 h).1

attribute [local go_sem] shaped_t cells_t isAgg_t storable_t okRef_t pub_t okRef_out storable_out shaped_out cells_out fin_out pub_out

/-! ### sets to which nothing can be added -/
theorem bit_shr (m y : Nat) : (m >>> y) % 2 = if m.testBit y = true then 1 else 0 := by
  rw [Nat.testBit_eq_decide_div_mod_eq, Nat.shiftRight_eq_div_pow]
  have := Nat.mod_lt (m / 2 ^ y) (show 2 > 0 by omega)
  split
  · next h => rw [decide_eq_true_iff] at h; exact h
  · next h => rw [decide_eq_true_iff] at h; omega


/-! ### references both ways: choices are the sets to which nothing can be added -/
theorem or_bit (m y z : Nat) : (m ||| 2 ^ y).testBit z = true ↔ m.testBit z = true ∨ z = y := by
  rw [Nat.testBit_or, Nat.testBit_two_pow, Bool.or_eq_true, decide_eq_true_iff]
  exact or_congr_right ⟨fun h => h.symm, fun h => h.symm⟩
theorem lt128 {n m : Nat} (hn : n ≤ 7) (hm : m < 2 ^ n) : m < 128 := Nat.lt_of_lt_of_le hm (Nat.le_trans (Nat.pow_le_pow_right (by omega) hn) (by decide))


/-! ### a new word -/
theorem jdgL_app (w : List Nat) (m : Nat) (r : List Nat) : ∀ l : List Nat, (∀ x ∈ l, jdg1 w m x = 0) → jdgL w m false (l ++ r) = jdgL w m false r
  | [], _ => rfl
  | x :: l, h => by
    have h0 := h x (by simp)
    rw [List.cons_append]
    show (if jdg1 w m x = 13 then 13 else jdgL w m (false || decide (jdg1 w m x = 21)) (l ++ r)) = _
    rw [h0, if_neg (by omega)]
    exact jdgL_app w m r l (fun y hy => h y (by simp [hy]))
theorem jdg_new {n : Nat} {w w' : List Nat} {m : Nat} (hm : m < 2 ^ n) (hj : jdg n w m = 0) (hw : ∀ x, x < n → w'.getD x 0 = w.getD x 0) : jdg (n + 1) w' m = if w'.getD n 0 &&& m = 0 then 21 else 0 := by
  unfold jdg at hj ⊢
  rw [jdgL_zero] at hj
  have hr : List.range' 0 (n + 1) = List.range' 0 n ++ [n] := by rw [List.range'_1_concat, Nat.zero_add]
  rw [hr, jdgL_app]
  · have hb : ¬ m.testBit n = true := by
      rw [Nat.testBit_lt_two_pow hm]; simp
    show (if jdg1 w' m n = 13 then 13 else jdgL w' m (false || decide (jdg1 w' m n = 21)) []) = _
    unfold jdg1
    rw [if_neg hb]
    by_cases h : w'.getD n 0 &&& m = 0
    · rw [if_pos h]; simp [jdgL]
    · rw [if_neg h]; simp [jdgL]
  · intro x hx
    have h0 := hj.2 x hx
    rw [List.mem_range'_1] at hx
    unfold jdg1 at h0 ⊢
    rw [hw x (by omega)]; exact h0
theorem jdg_join {n : Nat} {w w' : List Nat} {m : Nat} (hm : m < 2 ^ n) (hj : jdg n w m = 0) (hw : ∀ x, x < n → w'.getD x 0 = w.getD x 0) (hwn : ∀ x, (w.getD x 0).testBit n = false) (h0 : w'.getD n 0 = 0) : jdg (n + 1) w' (m ||| 2 ^ n) = 0 := by
  rw [jdg_zero] at hj ⊢
  intro x hx
  rw [or_bit]
  by_cases hxn : x = n
  · subst hxn
    rw [h0]
    exact ⟨fun _ => Nat.zero_and _, fun _ => .inr rfl⟩
  · rw [hw x (by omega)]
    have h1 := hj x (by omega)
    have h2 : w.getD x 0 &&& (m ||| 2 ^ n) = 0 ↔ w.getD x 0 &&& m = 0 := by
      rw [and_zero, and_zero]
      constructor
      · rintro h i ⟨a, b⟩
        exact h i ⟨a, (or_bit _ _ _).2 (.inl b)⟩
      · rintro h i ⟨a, b⟩
        rcases (or_bit _ _ _).1 b with b | rfl
        · exact h i ⟨a, b⟩
        · rw [hwn x] at a; simp at a
    rw [h2, ← h1]
    exact ⟨fun h => h.resolve_right hxn, .inl⟩
def newP (n : Nat) (G : List Nat) : List (Int × Int) := G.map fun (x : Nat) => ((n : Int), (x : Int))
theorem newP_mem {n : Nat} {G : List Nat} (p : Int × Int) : p ∈ newP n G ↔ ∃ x ∈ G, p = ((n : Int), (x : Int)) := by
  unfold newP
  rw [List.mem_map]
  exact ⟨fun ⟨x, h, e⟩ => ⟨x, h, e.symm⟩, fun ⟨x, h, e⟩ => ⟨x, h, e.symm⟩⟩
/-- The three books. -/
theorem grown_ok {n : Nat} (h1 : 1 ≤ n) (h6 : n ≤ 6) {ps : List (Int × Int)} (h : chk (n : Int) ps = 0) (hl : ps.length ≤ 10) {z : Nat} (hz : z < 2 ^ n) {m : Nat} (hm : m < 2 ^ n) (hj : jdg n (seeL 7 ps) m = 0) :
    validE ((n + 1 : Nat) : Int) ps (memb m ++ [(n : Int)]) = 0 ∧ validE ((n + 1 : Nat) : Int) ps (memb m) = 21 ∧ validE ((n + 1 : Nat) : Int) (ps ++ newP n (bitsL z)) (memb m) = if (bitsL m).any (fun x => z.testBit x) = true then 0 else 21 := by
  obtain ⟨_, _, h3, h4, h5⟩ := chk_zero h
  have hz7 : z < 128 := lt128 (by omega) hz
  have hm7 : m < 128 := lt128 (by omega) hm
  have hm1 : m < 2 ^ (n + 1) := Nat.lt_trans hm (Nat.pow_lt_pow_right (by omega) (by omega))
  have hgood : ∀ p ∈ ps ++ newP n (bitsL z), goodP ((n + 1 : Nat) : Int) p := fun p hp => by
    rcases List.mem_append.1 hp with hp | hp
    · obtain ⟨a, b, c, d, e⟩ := h3 p hp
      exact ⟨a, by omega, c, by omega, e⟩
    · obtain ⟨x, hx, rfl⟩ := (newP_mem p).1 hp
      have := bit_lt hz ((bits_mem hz7 x).1 hx)
      exact ⟨by show (0 : Int) ≤ (n : Int); omega, by show (n : Int) < ((n + 1 : Nat) : Int); omega, by show (0 : Int) ≤ (x : Int); omega, by show (x : Int) < ((n + 1 : Nat) : Int); omega, by show (n : Int) ≠ (x : Int); omega⟩
  have hgood1 : ∀ p ∈ ps, goodP ((n + 1 : Nat) : Int) p := fun p hp => hgood p (List.mem_append_left _ hp)
  have hokP : ∀ p, goodP ((n + 1 : Nat) : Int) p → okP p := fun p hp => by unfold goodP at hp; unfold okP; omega
  have hok2 : ∀ p ∈ ps ++ newP n (bitsL z), okP p := fun p hp => hokP p (hgood p hp)
  have hnd : (ps ++ newP n (bitsL z)).Nodup := by
    rw [List.nodup_append]
    refine ⟨h5, nodup_map_inj (List.Pairwise.filter _ List.nodup_range) (fun a _ b _ e => by
      have : (a : Int) = (b : Int) := congrArg Prod.snd e
      omega), fun a ha b hb e => ?_⟩
    obtain ⟨x, _, rfl⟩ := (newP_mem b).1 hb
    have := (h3 a ha).2.1
    rw [e] at this
    have h9 : (n : Int) < (n : Int) := this
    omega
  have hbl : (bitsL z).length ≤ n := by
    have := nodup_len_le (bitsL z) (List.range n) (List.Pairwise.filter _ List.nodup_range) (fun x hx => List.mem_range.2 (bit_lt hz ((bits_mem hz7 x).1 hx)))
    rwa [List.length_range] at this
  have hc1 : chk ((n + 1 : Nat) : Int) ps = 0 := by
    unfold chk
    rw [if_neg (by omega), if_neg (by omega)]
    exact prsErr_ok _ [] hgood1 (by simpa using h5)
  have hc2 : chk ((n + 1 : Nat) : Int) (ps ++ newP n (bitsL z)) = 0 := by
    unfold chk
    rw [if_neg (by omega), if_neg (by rw [List.length_append, newP, List.length_map]; omega)]
    exact prsErr_ok _ [] hgood (by simpa using hnd)
  have hse : setErr ((n + 1 : Nat) : Int) (-1) (memb m) = 0 := setErr_memb hm1
  have hb1 := fun a b => seeL_bit (Nat.le_refl 7) h4 a b
  have hb2 := fun a b => seeL_bit (Nat.le_refl 7) hok2 a b
  have hw2 : ∀ x, x < n → (seeL 7 (ps ++ newP n (bitsL z))).getD x 0 = (seeL 7 ps).getD x 0 := fun x hx => by
    apply Nat.eq_of_testBit_eq
    intro b
    rw [hb1, hb2]
    apply decide_eq_decide.2
    rw [List.mem_append]
    constructor
    · rintro (hp | hp)
      · exact hp
      · obtain ⟨y, _, e⟩ := (newP_mem _).1 hp
        have : (x : Int) = (n : Int) := congrArg Prod.fst e
        omega
    · exact .inl
  have hwn0 : (seeL 7 ps).getD n 0 = 0 := by
    apply Nat.eq_of_testBit_eq
    intro b
    rw [hb1, Nat.zero_testBit, decide_eq_false_iff_not]
    intro hp
    have := (h3 _ hp).2.1
    have h9 : (n : Int) < (n : Int) := this
    omega
  have hwnb : ∀ x, ((seeL 7 ps).getD x 0).testBit n = false := fun x => by
    rw [hb1, decide_eq_false_iff_not]
    intro hp
    have := (h3 _ hp).2.2.2.1
    have h9 : (n : Int) < (n : Int) := this
    omega
  have hw2n : (seeL 7 (ps ++ newP n (bitsL z))).getD n 0 = z := by
    apply Nat.eq_of_testBit_eq
    intro b
    rw [hb2, Bool.eq_iff_iff, decide_eq_true_iff, List.mem_append]
    constructor
    · rintro (hp | hp)
      · have := (h3 _ hp).2.1
        have h9 : (n : Int) < (n : Int) := this
        omega
      · obtain ⟨y, hy, e⟩ := (newP_mem _).1 hp
        have : (b : Int) = (y : Int) := congrArg Prod.snd e
        have e2 : b = y := by omega
        rw [e2]; exact (bits_mem hz7 y).1 hy
    · intro hp
      exact .inr ((newP_mem _).2 ⟨b, (bits_mem hz7 b).2 hp, rfl⟩)
  have hsl := setL_memb hm7
  refine ⟨?_, ?_, ?_⟩
  · have hse2 : setErr ((n + 1 : Nat) : Int) (-1) (memb m ++ [(n : Int)]) = 0 := by
      refine setErr_ok _ _ (fun x hx => ?_) ?_
      · rcases List.mem_append.1 hx with hx | hx
        · unfold memb at hx
          obtain ⟨i, hi, rfl⟩ := List.mem_map.1 hx
          have := bit_lt hm (List.mem_filter.1 hi).2
          omega
        · rw [List.mem_singleton] at hx
          subst hx; omega
      · rw [List.pairwise_append]
        refine ⟨?_, List.pairwise_singleton _ _, fun a ha b hb => ?_⟩
        · unfold memb
          rw [List.pairwise_map]
          exact (List.pairwise_lt_range.filter _).imp (fun h => by omega)
        · unfold memb at ha
          obtain ⟨i, hi, rfl⟩ := List.mem_map.1 ha
          have := bit_lt hm (List.mem_filter.1 hi).2
          rw [List.mem_singleton] at hb
          subst hb; omega
    unfold validE
    rw [if_pos hc1, if_pos hse2, Int.toNat_natCast, setL_snoc, hsl, Int.toNat_natCast]
    exact jdg_join hm hj (fun _ _ => rfl) hwnb hwn0
  · unfold validE
    rw [if_pos hc1, if_pos hse, Int.toNat_natCast, hsl, jdg_new hm hj (fun _ _ => rfl), hwn0, if_pos (Nat.zero_and _)]
  · unfold validE
    rw [if_pos hc2, if_pos hse, Int.toNat_natCast, hsl, jdg_new hm hj hw2, hw2n]
    by_cases ha : (bitsL m).any (fun x => z.testBit x) = true
    · rw [if_pos ha, if_neg]
      rw [List.any_eq_true] at ha
      obtain ⟨x, hx, hzx⟩ := ha
      intro e
      rw [and_zero] at e
      exact e x ⟨hzx, (bits_mem hm7 x).1 hx⟩
    · rw [if_neg ha, if_pos]
      rw [and_zero]
      rintro i ⟨a, b⟩
      exact ha (List.any_eq_true.2 ⟨i, (bits_mem hm7 i).2 b, a⟩)

attribute [local go_sem] shaped_t cells_t isAgg_t storable_t okRef_t pub_t okRef_out storable_out shaped_out cells_out fin_out pub_out

/-! ### a new word: the loops -/
theorem loop13_0 (zs : List Int) (n : Nat) (hn : n ≤ 6) (ps : List (Int × Int)) (C : List (List Int)) (z : Nat) (i : Nat) (o : List (Int × Int)) (hok : i ≤ (bitsL z).length ∧ o.length ≤ 10 + i) (env : Env) (st : St)
    (hg : gcAV true 4 0 (canon env [6, 7, 10, 11, 12, 67, 68, 69]) st = ([(6, J n), (7, sl 1 true (C.map tAV)), (10, .ptr 2 0), (11, .ptr 3 0), (12, J z), (67, sl 1 true ((bitsL z).map J)), (68, J (bitsL z).length), (69, J i)], ⟨[zs.map B8, bkCells true (n : Int) ps, bkCells true ((n + 1 : Nat) : Int) ps, [J (n + 1), outAV o]], outT o⟩)) :
    ∃ x_1 en s, lim (headed pure (run L) true [6, 7, 10, 11, 12, 67, 68, 69] lp13_0 4 0) env st = some (x_1, en, s) ∧ (x_1 = .exit 0 ∧ en.get 6 = J n ∧ en.get 7 = sl 1 true (C.map tAV) ∧ en.get 10 = .ptr 2 0 ∧ en.get 11 = .ptr 3 0 ∧ en.get 12 = J z ∧ s = ⟨[zs.map B8, bkCells true (n : Int) ps, bkCells true ((n + 1 : Nat) : Int) ps, [J (n + 1), outAV (o ++ newP n ((bitsL z).drop i))]], outT (o ++ newP n ((bitsL z).drop i))⟩) := by
  refine loop_wp (α := Nat × List (Int × Int)) (fun ⟨i, o⟩ => (bitsL z).length - i) (fun ⟨i, o⟩ => i ≤ (bitsL z).length ∧ o.length ≤ 10 + i) (fun ⟨i, o⟩ => ([(6, J n), (7, sl 1 true (C.map tAV)), (10, .ptr 2 0), (11, .ptr 3 0), (12, J z), (67, sl 1 true ((bitsL z).map J)), (68, J (bitsL z).length), (69, J i)], ⟨[zs.map B8, bkCells true (n : Int) ps, bkCells true ((n + 1 : Nat) : Int) ps, [J (n + 1), outAV o]], outT o⟩)) (fun ⟨i, o⟩ x_1 en s => x_1 = .exit 0 ∧ en.get 6 = J n ∧ en.get 7 = sl 1 true (C.map tAV) ∧ en.get 10 = .ptr 2 0 ∧ en.get 11 = .ptr 3 0 ∧ en.get 12 = J z ∧ s = ⟨[zs.map B8, bkCells true (n : Int) ps, bkCells true ((n + 1 : Nat) : Int) ps, [J (n + 1), outAV (o ++ newP n ((bitsL z).drop i))]], outT (o ++ newP n ((bitsL z).drop i))⟩) (fun ⟨i, o⟩ hok => ?_) ⟨i, o⟩ hok env st hg
  simp only at hok
  obtain ⟨h1, h2⟩ := hok
  dsimp only at h1 h2 ⊢
  have hl7 := bitsL_le z
  by_cases h : i < (bitsL z).length
  · have hx := index_J true (bitsL z) i h
    have hs := succ64 i (by omega)
    have hlt : ((i : Int) < ((bitsL z).length : Int)) = True := eq_true (by omega)
    have hd : (bitsL z).drop i = (bitsL z)[i] :: (bitsL z).drop (i + 1) := List.drop_eq_getElem_cons h
    rw [hd]
    generalize (bitsL z)[i] = y at *
    have hnp : newP n (y :: (bitsL z).drop (i + 1)) = [((n : Int), (y : Int))] ++ newP n ((bitsL z).drop (i + 1)) := rfl
    have happ := fun S => append_out o (n : Int) (y : Int) S (by omega)
    rw [hnp, ← List.append_assoc]
    simp only [go_sem, reduceIte, Nat.reduceEqDiff, Nat.reduceAdd, Nat.reduceSub, Nat.reduceLeDiff, Nat.reduceLT, reduceCtorEq, Int.reduceLT, Int.reduceLE, Int.reduceEq, Int.reduceBEq, Int.reduceSub, Int.reduceAdd, Int.reduceMul, Int.reduceNeg, Int.reduceToNat, Nat.reduceMul, Nat.reduceBEq, index_rsl_if, setm, make_ints, condK_dec, wantK_dec, not_dec, and_dec, or_dec, seqK_ite, seqK_none, blockK_ite, blockK_none, opsK_ite, opsK_none, stepK_ite, stepK_none, bodyK_ite, bodyK_none, resK_ite, resK_none, leaveK_ite, leaveK_none, only_ite, only_none, bind_ite, gives_some, gives_none, gives_ite, then_normal, then_ret, then_exit, then_none, then_ite, Option.bind_none, Bool.not_eq_true', decide_eq_false_iff_not, Bool.and_eq_true, Bool.or_eq_true, Option.some.injEq, Int.not_lt, Int.not_le, lp13_0, hx, hlt, hs, happ]
    refine ⟨(i + 1, o ++ [((n : Int), (y : Int))]), by simp only [go_sem, reduceIte, Nat.reduceEqDiff, Nat.reduceAdd, Nat.reduceSub, Nat.reduceLeDiff, Nat.reduceLT, reduceCtorEq, Int.reduceLT, Int.reduceLE, Int.reduceEq, Int.reduceBEq, Int.reduceSub, Int.reduceAdd, Int.reduceMul, Int.reduceNeg, Int.reduceToNat, Nat.reduceMul, Nat.reduceBEq, ren1_locm, loc_tips, locT_eq, okRefsB, renCellsB, ren1_t', ren1_out, outAcc_snd] <;> rfl, ?_, ?_, fun x en s hq => ?_⟩
    · dsimp only; exact ⟨by omega, by rw [List.length_append, List.length_singleton]; omega⟩
    · dsimp only; omega
    · exact hq
  · have hd : (bitsL z).drop i = [] := List.drop_eq_nil_of_le (by omega)
    have hlt : ((i : Int) < ((bitsL z).length : Int)) = False := eq_false (by omega)
    have he : o ++ newP n [] = o := by unfold newP; simp
    rw [hd, he]
    simp only [go_sem, reduceIte, Nat.reduceEqDiff, Nat.reduceAdd, Nat.reduceSub, Nat.reduceLeDiff, Nat.reduceLT, reduceCtorEq, Int.reduceLT, Int.reduceLE, Int.reduceEq, Int.reduceBEq, Int.reduceSub, Int.reduceAdd, Int.reduceMul, Int.reduceNeg, Int.reduceToNat, Nat.reduceMul, Nat.reduceBEq, index_rsl_if, setm, make_ints, condK_dec, wantK_dec, not_dec, and_dec, or_dec, seqK_ite, seqK_none, blockK_ite, blockK_none, opsK_ite, opsK_none, stepK_ite, stepK_none, bodyK_ite, bodyK_none, resK_ite, resK_none, leaveK_ite, leaveK_none, only_ite, only_none, bind_ite, gives_some, gives_none, gives_ite, then_normal, then_ret, then_exit, then_none, then_ite, Option.bind_none, Bool.not_eq_true', decide_eq_false_iff_not, Bool.and_eq_true, Bool.or_eq_true, Option.some.injEq, Int.not_lt, Int.not_le, lp13_0, hlt]

theorem loop13_0b (zs : List Int) (n : Nat) (hn : n ≤ 6) (ps : List (Int × Int)) (C : List (List Int)) (z : Nat) (i : Nat) (o : List (Int × Int)) (hok : i ≤ (bitsL z).length ∧ o.length ≤ 10 + i ∧ 1 ≤ o.length) (env : Env) (st : St)
    (hg : gcAV true 4 1 (canon env [6, 7, 10, 11, 12, 67, 68, 69]) st = ([(6, J n), (7, sl 1 true (C.map tAV)), (10, .ptr 2 0), (11, .ptr 3 0), (12, J z), (67, sl 1 true ((bitsL z).map J)), (68, J (bitsL z).length), (69, J i)], ⟨[zs.map B8, bkCells true (n : Int) ps, bkCells true ((n + 1 : Nat) : Int) ps, [J (n + 1), outAV o]], outT o⟩)) :
    ∃ x_1 en s, lim (headed pure (run L) true [6, 7, 10, 11, 12, 67, 68, 69] lp13_0 4 1) env st = some (x_1, en, s) ∧ (x_1 = .exit 0 ∧ en.get 6 = J n ∧ en.get 7 = sl 1 true (C.map tAV) ∧ en.get 10 = .ptr 2 0 ∧ en.get 11 = .ptr 3 0 ∧ en.get 12 = J z ∧ s = ⟨[zs.map B8, bkCells true (n : Int) ps, bkCells true ((n + 1 : Nat) : Int) ps, [J (n + 1), outAV (o ++ newP n ((bitsL z).drop i))]], outT (o ++ newP n ((bitsL z).drop i))⟩) := by
  refine loop_wp (α := Nat × List (Int × Int)) (fun ⟨i, o⟩ => (bitsL z).length - i) (fun ⟨i, o⟩ => i ≤ (bitsL z).length ∧ o.length ≤ 10 + i ∧ 1 ≤ o.length) (fun ⟨i, o⟩ => ([(6, J n), (7, sl 1 true (C.map tAV)), (10, .ptr 2 0), (11, .ptr 3 0), (12, J z), (67, sl 1 true ((bitsL z).map J)), (68, J (bitsL z).length), (69, J i)], ⟨[zs.map B8, bkCells true (n : Int) ps, bkCells true ((n + 1 : Nat) : Int) ps, [J (n + 1), outAV o]], outT o⟩)) (fun ⟨i, o⟩ x_1 en s => x_1 = .exit 0 ∧ en.get 6 = J n ∧ en.get 7 = sl 1 true (C.map tAV) ∧ en.get 10 = .ptr 2 0 ∧ en.get 11 = .ptr 3 0 ∧ en.get 12 = J z ∧ s = ⟨[zs.map B8, bkCells true (n : Int) ps, bkCells true ((n + 1 : Nat) : Int) ps, [J (n + 1), outAV (o ++ newP n ((bitsL z).drop i))]], outT (o ++ newP n ((bitsL z).drop i))⟩) (fun ⟨i, o⟩ hok => ?_) ⟨i, o⟩ hok env st hg
  simp only at hok
  obtain ⟨h1, h2, h3⟩ := hok
  dsimp only at h1 h2 h3 ⊢
  have hl7 := bitsL_le z
  by_cases h : i < (bitsL z).length
  · have hx := index_J true (bitsL z) i h
    have hs := succ64 i (by omega)
    have hlt : ((i : Int) < ((bitsL z).length : Int)) = True := eq_true (by omega)
    have hd : (bitsL z).drop i = (bitsL z)[i] :: (bitsL z).drop (i + 1) := List.drop_eq_getElem_cons h
    rw [hd]
    generalize (bitsL z)[i] = y at *
    have hnp : newP n (y :: (bitsL z).drop (i + 1)) = [((n : Int), (y : Int))] ++ newP n ((bitsL z).drop (i + 1)) := rfl
    have happ := fun S => append_out o (n : Int) (y : Int) S (by omega)
    have hto : outT (o ++ [((n : Int), (y : Int))]) = [o.length + 1] := by
      unfold outT locT
      rw [if_neg (by simp), List.length_map, List.length_append]; rfl
    have hro := fun T acc => ren1_outG (o := o ++ [((n : Int), (y : Int))]) (k := 1) (by rw [hto]; exact Nat.le_refl 1) T acc
    have htk : List.take 1 (outT (o ++ [((n : Int), (y : Int))])) = outT (o ++ [((n : Int), (y : Int))]) := by rw [hto]; rfl
    rw [hnp, ← List.append_assoc]
    simp only [go_sem, reduceIte, Nat.reduceEqDiff, Nat.reduceAdd, Nat.reduceSub, Nat.reduceLeDiff, Nat.reduceLT, reduceCtorEq, Int.reduceLT, Int.reduceLE, Int.reduceEq, Int.reduceBEq, Int.reduceSub, Int.reduceAdd, Int.reduceMul, Int.reduceNeg, Int.reduceToNat, Nat.reduceMul, Nat.reduceBEq, index_rsl_if, setm, make_ints, condK_dec, wantK_dec, not_dec, and_dec, or_dec, seqK_ite, seqK_none, blockK_ite, blockK_none, opsK_ite, opsK_none, stepK_ite, stepK_none, bodyK_ite, bodyK_none, resK_ite, resK_none, leaveK_ite, leaveK_none, only_ite, only_none, bind_ite, gives_some, gives_none, gives_ite, then_normal, then_ret, then_exit, then_none, then_ite, Option.bind_none, Bool.not_eq_true', decide_eq_false_iff_not, Bool.and_eq_true, Bool.or_eq_true, Option.some.injEq, Int.not_lt, Int.not_le, lp13_0, hx, hlt, hs, happ]
    refine ⟨(i + 1, o ++ [((n : Int), (y : Int))]), by simp only [go_sem, reduceIte, Nat.reduceEqDiff, Nat.reduceAdd, Nat.reduceSub, Nat.reduceLeDiff, Nat.reduceLT, reduceCtorEq, Int.reduceLT, Int.reduceLE, Int.reduceEq, Int.reduceBEq, Int.reduceSub, Int.reduceAdd, Int.reduceMul, Int.reduceNeg, Int.reduceToNat, Nat.reduceMul, Nat.reduceBEq, ren1_locm, loc_tips, locT_eq, okRefsB, renCellsB, ren1_t', hro, htk, List.append_nil] <;> rfl, ?_, ?_, fun x en s hq => ?_⟩
    · dsimp only; exact ⟨by omega, by rw [List.length_append, List.length_singleton]; omega, by rw [List.length_append, List.length_singleton]; omega⟩
    · dsimp only; omega
    · exact hq
  · have hd : (bitsL z).drop i = [] := List.drop_eq_nil_of_le (by omega)
    have hlt : ((i : Int) < ((bitsL z).length : Int)) = False := eq_false (by omega)
    have he : o ++ newP n [] = o := by unfold newP; simp
    rw [hd, he]
    simp only [go_sem, reduceIte, Nat.reduceEqDiff, Nat.reduceAdd, Nat.reduceSub, Nat.reduceLeDiff, Nat.reduceLT, reduceCtorEq, Int.reduceLT, Int.reduceLE, Int.reduceEq, Int.reduceBEq, Int.reduceSub, Int.reduceAdd, Int.reduceMul, Int.reduceNeg, Int.reduceToNat, Nat.reduceMul, Nat.reduceBEq, index_rsl_if, setm, make_ints, condK_dec, wantK_dec, not_dec, and_dec, or_dec, seqK_ite, seqK_none, blockK_ite, blockK_none, opsK_ite, opsK_none, stepK_ite, stepK_none, bodyK_ite, bodyK_none, resK_ite, resK_none, leaveK_ite, leaveK_none, only_ite, only_none, bind_ite, gives_some, gives_none, gives_ite, then_normal, then_ret, then_exit, then_none, then_ite, Option.bind_none, Bool.not_eq_true', decide_eq_false_iff_not, Bool.and_eq_true, Bool.or_eq_true, Option.some.injEq, Int.not_lt, Int.not_le, lp13_0, hlt]

theorem loop13_1 (zs : List Int) (n : Nat) (hn : n ≤ 6) (ps oo : List (Int × Int)) (C : List (List Int)) (k : Nat) (z : Nat) (hz : z < 128) (m : Nat) (e : Nat) (th : Nat) (hth : th = (outT oo ++ [e]).length) (i : Nat) (b : Bool) (hok : i ≤ (bitsL m).length) (env : Env) (st : St)
    (hg : gcAV true 4 th (canon env [6, 10, 11, 12, 16, 17, 82, 83, 84, 102, 103, 104]) st = ([(6, J n), (10, .ptr 2 0), (11, .ptr 3 0), (12, J z), (16, tAV (memb m)), (17, B b), (82, sl 1 true (C.map tAV)), (83, I C.length), (84, J k), (102, tAV (memb m)), (103, J (bitsL m).length), (104, J i)], ⟨[zs.map B8, bkCells true (n : Int) ps, bkCells true ((n + 1 : Nat) : Int) ps, [J (n + 1), outAV oo]], outT oo ++ [e]⟩)) :
    ∃ x_1 en s, lim (headed pure (run L) true [6, 10, 11, 12, 16, 17, 82, 83, 84, 102, 103, 104] lp13_1 4 th) env st = some (x_1, en, s) ∧ (x_1 = .exit 4 ∧ en.get 6 = J n ∧ en.get 10 = .ptr 2 0 ∧ en.get 11 = .ptr 3 0 ∧ en.get 12 = J z ∧ en.get 16 = tAV (memb m) ∧ en.get 17 = B (b || ((bitsL m).drop i).any fun x => z.testBit x) ∧ en.get 82 = sl 1 true (C.map tAV) ∧ en.get 83 = I C.length ∧ en.get 84 = J k ∧ s = ⟨[zs.map B8, bkCells true (n : Int) ps, bkCells true ((n + 1 : Nat) : Int) ps, [J (n + 1), outAV oo]], outT oo ++ [e]⟩) := by
  refine loop_wp (α := Nat × Bool) (fun ⟨i, b⟩ => (bitsL m).length - i) (fun ⟨i, b⟩ => i ≤ (bitsL m).length) (fun ⟨i, b⟩ => ([(6, J n), (10, .ptr 2 0), (11, .ptr 3 0), (12, J z), (16, tAV (memb m)), (17, B b), (82, sl 1 true (C.map tAV)), (83, I C.length), (84, J k), (102, tAV (memb m)), (103, J (bitsL m).length), (104, J i)], ⟨[zs.map B8, bkCells true (n : Int) ps, bkCells true ((n + 1 : Nat) : Int) ps, [J (n + 1), outAV oo]], outT oo ++ [e]⟩)) (fun ⟨i, b⟩ x_1 en s => x_1 = .exit 4 ∧ en.get 6 = J n ∧ en.get 10 = .ptr 2 0 ∧ en.get 11 = .ptr 3 0 ∧ en.get 12 = J z ∧ en.get 16 = tAV (memb m) ∧ en.get 17 = B (b || ((bitsL m).drop i).any fun x => z.testBit x) ∧ en.get 82 = sl 1 true (C.map tAV) ∧ en.get 83 = I C.length ∧ en.get 84 = J k ∧ s = ⟨[zs.map B8, bkCells true (n : Int) ps, bkCells true ((n + 1 : Nat) : Int) ps, [J (n + 1), outAV oo]], outT oo ++ [e]⟩) (fun ⟨i, b⟩ hok => ?_) ⟨i, b⟩ hok env st hg
  simp only at hok
  subst hth
  dsimp only at hok ⊢
  have hro := fun T acc => ren1_outG (o := oo) (k := (outT oo ++ [e]).length) (by rw [List.length_append]; omega) T acc
  have hl7 := bitsL_le m
  have et : tAV (memb m) = sl 1 true ((bitsL m).map J) := by unfold tAV; rw [memb_J]
  by_cases h : i < (bitsL m).length
  · have hx := index_J true (bitsL m) i h
    rw [← et] at hx
    have hs := succ64 i (by omega)
    have hlt : ((i : Int) < ((bitsL m).length : Int)) = True := eq_true (by omega)
    have hd : (bitsL m).drop i = (bitsL m)[i] :: (bitsL m).drop (i + 1) := List.drop_eq_getElem_cons h
    have hy7 := bitsL_lt (List.getElem_mem h)
    rw [hd, List.any_cons]
    generalize (bitsL m)[i] = y at *
    have q3 := shr_i z y (by omega)
    have hsl : z >>> y < 2 ^ 62 := Nat.lt_of_le_of_lt (Nat.shiftRight_le _ _) (by omega)
    have q4 := and_one_i (z >>> y) hsl
    rw [bit_shr] at q4
    cases b with
    | true =>
      rw [Bool.true_or]
      simp only [go_sem, reduceIte, Nat.reduceEqDiff, Nat.reduceAdd, Nat.reduceSub, Nat.reduceLeDiff, Nat.reduceLT, reduceCtorEq, Int.reduceLT, Int.reduceLE, Int.reduceEq, Int.reduceBEq, Int.reduceSub, Int.reduceAdd, Int.reduceMul, Int.reduceNeg, Int.reduceToNat, Nat.reduceMul, Nat.reduceBEq, index_rsl_if, setm, make_ints, condK_dec, wantK_dec, not_dec, and_dec, or_dec, seqK_ite, seqK_none, blockK_ite, blockK_none, opsK_ite, opsK_none, stepK_ite, stepK_none, bodyK_ite, bodyK_none, resK_ite, resK_none, leaveK_ite, leaveK_none, only_ite, only_none, bind_ite, gives_some, gives_none, gives_ite, then_normal, then_ret, then_exit, then_none, then_ite, Option.bind_none, Bool.not_eq_true', decide_eq_false_iff_not, Bool.and_eq_true, Bool.or_eq_true, Option.some.injEq, Int.not_lt, Int.not_le, lp13_1, hx, hlt, hs]
      refine ⟨(i + 1, true), by simp only [go_sem, reduceIte, Nat.reduceEqDiff, Nat.reduceAdd, Nat.reduceSub, Nat.reduceLeDiff, Nat.reduceLT, reduceCtorEq, Int.reduceLT, Int.reduceLE, Int.reduceEq, Int.reduceBEq, Int.reduceSub, Int.reduceAdd, Int.reduceMul, Int.reduceNeg, Int.reduceToNat, Nat.reduceMul, Nat.reduceBEq, ren1_locm, loc_tips, locT_eq, okRefsB, renCellsB, ren1_t', hro, List.take_length] <;> rfl, ?_, ?_, fun x en s hq => ?_⟩
      · dsimp only; omega
      · dsimp only; omega
      · rw [Bool.true_or] at hq; exact hq
    | false =>
      rw [Bool.false_or]
      by_cases p : z.testBit y = true
      · rw [if_pos p] at q4
        rw [p]
        simp only [go_sem, reduceIte, Nat.reduceEqDiff, Nat.reduceAdd, Nat.reduceSub, Nat.reduceLeDiff, Nat.reduceLT, reduceCtorEq, Int.reduceLT, Int.reduceLE, Int.reduceEq, Int.reduceBEq, Int.reduceSub, Int.reduceAdd, Int.reduceMul, Int.reduceNeg, Int.reduceToNat, Nat.reduceMul, Nat.reduceBEq, index_rsl_if, setm, make_ints, condK_dec, wantK_dec, not_dec, and_dec, or_dec, seqK_ite, seqK_none, blockK_ite, blockK_none, opsK_ite, opsK_none, stepK_ite, stepK_none, bodyK_ite, bodyK_none, resK_ite, resK_none, leaveK_ite, leaveK_none, only_ite, only_none, bind_ite, gives_some, gives_none, gives_ite, then_normal, then_ret, then_exit, then_none, then_ite, Option.bind_none, Bool.not_eq_true', decide_eq_false_iff_not, Bool.and_eq_true, Bool.or_eq_true, Option.some.injEq, Int.not_lt, Int.not_le, lp13_1, hx, hlt, hs, q3, q4]
        refine ⟨(i + 1, true), by simp only [go_sem, reduceIte, Nat.reduceEqDiff, Nat.reduceAdd, Nat.reduceSub, Nat.reduceLeDiff, Nat.reduceLT, reduceCtorEq, Int.reduceLT, Int.reduceLE, Int.reduceEq, Int.reduceBEq, Int.reduceSub, Int.reduceAdd, Int.reduceMul, Int.reduceNeg, Int.reduceToNat, Nat.reduceMul, Nat.reduceBEq, ren1_locm, loc_tips, locT_eq, okRefsB, renCellsB, ren1_t', hro, List.take_length] <;> rfl, ?_, ?_, fun x en s hq => ?_⟩
        · dsimp only; omega
        · dsimp only; omega
        · exact hq
      · rw [if_neg p] at q4
        have p2 : z.testBit y = false := by simpa using p
        rw [p2, Bool.false_or]
        simp only [go_sem, reduceIte, Nat.reduceEqDiff, Nat.reduceAdd, Nat.reduceSub, Nat.reduceLeDiff, Nat.reduceLT, reduceCtorEq, Int.reduceLT, Int.reduceLE, Int.reduceEq, Int.reduceBEq, Int.reduceSub, Int.reduceAdd, Int.reduceMul, Int.reduceNeg, Int.reduceToNat, Nat.reduceMul, Nat.reduceBEq, index_rsl_if, setm, make_ints, condK_dec, wantK_dec, not_dec, and_dec, or_dec, seqK_ite, seqK_none, blockK_ite, blockK_none, opsK_ite, opsK_none, stepK_ite, stepK_none, bodyK_ite, bodyK_none, resK_ite, resK_none, leaveK_ite, leaveK_none, only_ite, only_none, bind_ite, gives_some, gives_none, gives_ite, then_normal, then_ret, then_exit, then_none, then_ite, Option.bind_none, Bool.not_eq_true', decide_eq_false_iff_not, Bool.and_eq_true, Bool.or_eq_true, Option.some.injEq, Int.not_lt, Int.not_le, lp13_1, hx, hlt, hs, q3, q4]
        refine ⟨(i + 1, false), by simp only [go_sem, reduceIte, Nat.reduceEqDiff, Nat.reduceAdd, Nat.reduceSub, Nat.reduceLeDiff, Nat.reduceLT, reduceCtorEq, Int.reduceLT, Int.reduceLE, Int.reduceEq, Int.reduceBEq, Int.reduceSub, Int.reduceAdd, Int.reduceMul, Int.reduceNeg, Int.reduceToNat, Nat.reduceMul, Nat.reduceBEq, ren1_locm, loc_tips, locT_eq, okRefsB, renCellsB, ren1_t', hro, List.take_length] <;> rfl, ?_, ?_, fun x en s hq => ?_⟩
        · dsimp only; omega
        · dsimp only; omega
        · rw [Bool.false_or] at hq; exact hq
  · have hd : (bitsL m).drop i = [] := List.drop_eq_nil_of_le (by omega)
    have hlt : ((i : Int) < ((bitsL m).length : Int)) = False := eq_false (by omega)
    rw [hd]
    simp only [go_sem, reduceIte, Nat.reduceEqDiff, Nat.reduceAdd, Nat.reduceSub, Nat.reduceLeDiff, Nat.reduceLT, reduceCtorEq, Int.reduceLT, Int.reduceLE, Int.reduceEq, Int.reduceBEq, Int.reduceSub, Int.reduceAdd, Int.reduceMul, Int.reduceNeg, Int.reduceToNat, Nat.reduceMul, Nat.reduceBEq, index_rsl_if, setm, make_ints, condK_dec, wantK_dec, not_dec, and_dec, or_dec, seqK_ite, seqK_none, blockK_ite, blockK_none, opsK_ite, opsK_none, stepK_ite, stepK_none, bodyK_ite, bodyK_none, resK_ite, resK_none, leaveK_ite, leaveK_none, only_ite, only_none, bind_ite, gives_some, gives_none, gives_ite, then_normal, then_ret, then_exit, then_none, then_ite, Option.bind_none, Bool.not_eq_true', decide_eq_false_iff_not, Bool.and_eq_true, Bool.or_eq_true, Option.some.injEq, Int.not_lt, Int.not_le, lp13_1, hlt]
    simp

attribute [local go_sem] shaped_t cells_t isAgg_t storable_t okRef_t pub_t okRef_out storable_out shaped_out cells_out fin_out pub_out

theorem flat_I : ∀ c : List Int, flatAV (c.map I) = c.map I
  | [] => rfl
  | x :: r => by
    have := flat_I r
    unfold flatAV at *
    rw [List.map_cons, List.flatMap_cons, this]; rfl
theorem c58o (c : List Int) (h : c ≠ []) (hl : c.length ≤ 1000) : run L 58 [tAV c] ⟨[], []⟩ = some (.rsl 0 0 c.length c.length 1 false, ⟨[c.map I], []⟩) := by
  rw [run_shared (fn := ir58) rfl rfl]
  have hm : c.length ≤ maxGrow := by unfold maxGrow; omega
  have et : tAV c = .lst .any 1 (c.map I) := by unfold tAV; rw [sl_ne (by simpa using h)]
  have hf := flat_I c
  have hap : appendmAV 1 false (.lst .full 1 []) (c.map I) ⟨[], []⟩ = some (.rsl 0 0 c.length c.length 1 false, ⟨[c.map I], []⟩) := by
    cases c with
    | nil => exact absurd rfl h
    | cons x r =>
      rw [List.map_cons] at hf ⊢
      simp only [appendmAV, newM, List.nil_append, if_true, List.length_cons, List.length_map] at hm ⊢
      rw [if_pos hm, hf]
      simp
  rw [et]
  simp only [ir58, go_sem, reduceIte, Nat.reduceEqDiff, Nat.reduceAdd, Nat.reduceSub, Nat.reduceLeDiff, Nat.reduceLT, reduceCtorEq, Int.reduceLT, Int.reduceLE, Int.reduceEq, Int.reduceBEq, Int.reduceSub, Int.reduceAdd, Int.reduceMul, Int.reduceNeg, Int.reduceToNat, Nat.reduceMul, Nat.reduceBEq, hap]
theorem lock58 (c : List Int) (h : c ≠ []) : lockR ⟨[c.map I], []⟩ (.rsl 0 0 c.length c.length 1 false) = (.lst (.own 0 c.length) 1 (c.map I), ⟨[], [c.length]⟩) := by
  have hp := pubs_map I (fun _ => rfl) c
  have hg := groupm_one I (fun _ => rfl) c
  have hl : (c.map I).length = c.length := List.length_map _
  cases c with
  | nil => exact absurd rfl h
  | cons x r =>
    rw [List.map_cons] at hp hg hl ⊢
    simp only [lockR, List.getElem?_cons_zero]
    rw [if_pos ⟨by rw [hl]; omega, .inr trivial, trivial⟩, hp, hg]
theorem app_new (c : List Int) (n : Int) (hl : c.length ≤ 1000) (S : List (List AV)) (T : List Nat) : appendAV 1 (.lst (.own T.length c.length) 1 (c.map I)) [I n] ⟨S, T ++ [c.length]⟩ = some (.lst (.own T.length (c.length + 1)) 1 ((c ++ [n]).map I), ⟨S, T ++ [c.length + 1]⟩) := by
  have hm : c.length + 1 ≤ maxGrow := by unfold maxGrow; omega
  simp only [appendAV, if_true, List.length_cons, List.length_nil, List.length_map, Nat.zero_add]
  rw [if_pos hm, if_pos (by simp)]
  simp
def grownB (z : Nat) (m : Nat) : Bool := (bitsL m).any fun x => z.testBit x

set_option maxHeartbeats 2000000 in
theorem loop13_2 (zs : List Int) (n : Nat) (hn : n ≤ 6) (ps oo : List (Int × Int)) (C : List (List Int)) (hCl : C.length ≤ 100) (z : Nat) (hz : z < 128) (hC : ∀ c ∈ C, ∃ m, c = memb m ∧ c ≠ [] ∧ validE ((n + 1 : Nat) : Int) ps (c ++ [(n : Int)]) = 0 ∧ validE ((n + 1 : Nat) : Int) ps c = 21 ∧ validE ((n + 1 : Nat) : Int) oo c = if grownB z m = true then 0 else 21) (th : Nat) (hth : th = (outT oo).length) (k : Nat) (hok : k ≤ C.length) (env : Env) (st : St)
    (hg : gcAV true 4 th (canon env [6, 10, 11, 12, 82, 83, 84]) st = ([(6, J n), (10, .ptr 2 0), (11, .ptr 3 0), (12, J z), (82, sl 1 true (C.map tAV)), (83, I C.length), (84, J k)], ⟨[zs.map B8, bkCells true (n : Int) ps, bkCells true ((n + 1 : Nat) : Int) ps, [J (n + 1), outAV oo]], outT oo⟩)) :
    ∃ x_1 en s, lim (headed pure (run L) true [6, 10, 11, 12, 82, 83, 84] lp13_2 4 th) env st = some (x_1, en, s) ∧ (x_1 = .exit 2) := by
  refine loop_wp (α := Nat) (fun k => C.length - k) (fun k => k ≤ C.length) (fun k => ([(6, J n), (10, .ptr 2 0), (11, .ptr 3 0), (12, J z), (82, sl 1 true (C.map tAV)), (83, I C.length), (84, J k)], ⟨[zs.map B8, bkCells true (n : Int) ps, bkCells true ((n + 1 : Nat) : Int) ps, [J (n + 1), outAV oo]], outT oo⟩)) (fun k x_1 en s => x_1 = .exit 2) (fun k hok => ?_) k hok env st hg
  subst hth
  have hro := fun T acc => ren1_outG (o := oo) (k := (outT oo).length) (Nat.le_refl _) T acc
  by_cases h : k < C.length
  · have hx := index_t true C k h
    have hs := succ64 k (by omega)
    have hlt : ((k : Int) < (C.length : Int)) = True := eq_true (by omega)
    obtain ⟨m, hcm, hne, v1, v2, v3⟩ := hC _ (List.getElem_mem h)
    generalize C[k] = c at *
    have hl7 : c.length ≤ 7 := by rw [hcm]; exact memb_len m
    have h58 := c58o c hne (by omega)
    have hlk := lock58 c hne
    have happ := fun S => app_new c (n : Int) (by omega) S (outT oo)
    have h26a : ∀ st g, run L 26 [bkAV true ((n + 1 : Nat) : Int) ps, .lst g 1 ((c ++ [(n : Int)]).map I)] st = some (I 0, st) := fun st g => by
      have e := c26 true false ((n + 1 : Nat) : Int) ps (c ++ [(n : Int)]) (by rw [List.length_append, List.length_singleton]; omega) st
      rw [v1] at e
      rw [← e]
      exact run_args (fn := ir26) rfl rfl st rfl
    have h26b : ∀ st, run L 26 [bkAV true ((n + 1 : Nat) : Int) ps, tAV c] st = some (I 21, st) := fun st => by
      have e := c26 true true ((n + 1 : Nat) : Int) ps c (by omega) st
      rw [v2] at e
      exact e
    have h26c : ∀ st, run L 26 [.agg [J (n + 1), outAV oo], tAV c] st = some (I (if grownB z m = true then 0 else 21), st) := fun st => by
      have e := c26 true true ((n + 1 : Nat) : Int) oo c (by omega) st
      rw [v3] at e
      have e2 := run_args (f := 26) (fn := ir26) rfl rfl (args := [.agg [J (n + 1), outAV oo], tAV c]) (args' := [bkAV true ((n + 1 : Nat) : Int) oo, tAV c]) st (by simp only [pubs, pub, pub_out, pub_sl, pub_t])
      rw [e2]; exact e
    have hlc : lenAV (tAV c) = some (J (bitsL m).length) := by
      rw [len_tAV, hcm]; simp [memb, bitsL]
    subst hcm
    simp only [go_sem, reduceIte, Nat.reduceEqDiff, Nat.reduceAdd, Nat.reduceSub, Nat.reduceLeDiff, Nat.reduceLT, reduceCtorEq, Int.reduceLT, Int.reduceLE, Int.reduceEq, Int.reduceBEq, Int.reduceSub, Int.reduceAdd, Int.reduceMul, Int.reduceNeg, Int.reduceToNat, Nat.reduceMul, Nat.reduceBEq, index_rsl_if, setm, make_ints, condK_dec, wantK_dec, not_dec, and_dec, or_dec, seqK_ite, seqK_none, blockK_ite, blockK_none, opsK_ite, opsK_none, stepK_ite, stepK_none, bodyK_ite, bodyK_none, resK_ite, resK_none, leaveK_ite, leaveK_none, only_ite, only_none, bind_ite, gives_some, gives_none, gives_ite, then_normal, then_ret, then_exit, then_none, then_ite, Option.bind_none, Bool.not_eq_true', decide_eq_false_iff_not, Bool.and_eq_true, Bool.or_eq_true, Option.some.injEq, Int.not_lt, Int.not_le, lp13_2, hx, hlt, hs, h58, hlk, happ, h26a, h26b, hlc, List.length_map, beq_self_eq_true, show shStore 4 [] = [] from rfl]
    have hro2 := fun T acc => ren1_outG (o := oo) (k := (outT oo ++ [(memb m).length + 1]).length) (by rw [List.length_append]; omega) T acc
    generalize hg : lim (headed pure (run L) true _ lp13_1 _ _) _ _ = o
    obtain ⟨x, en, s, rfl, h2⟩ : ∃ x en s, o = some (x, en, s) ∧ _ := by rw [← hg]; exact loop13_1 zs n hn ps oo C k z hz m ((memb m).length + 1) _ rfl 0 false (by omega) _ _ (by simp only [go_sem, reduceIte, Nat.reduceEqDiff, Nat.reduceAdd, Nat.reduceSub, Nat.reduceLeDiff, Nat.reduceLT, reduceCtorEq, Int.reduceLT, Int.reduceLE, Int.reduceEq, Int.reduceBEq, Int.reduceSub, Int.reduceAdd, Int.reduceMul, Int.reduceNeg, Int.reduceToNat, Nat.reduceMul, Nat.reduceBEq, okRefsB, renCellsB, ren1_t', hro2, List.take_length, Int.natCast_zero] <;> rfl)
    clear hg
    rw [List.drop_zero, Bool.false_or] at h2
    have hgb : ((bitsL m).any fun x => z.testBit x) = grownB z m := rfl
    rw [hgb] at h2
    obtain ⟨rfl, e6, e10, e11, e12, e16, e17, e82, e83, e84, rfl⟩ := h2
    cases hg : grownB z m with
    | true =>
      rw [hg] at e17 h26c
      simp only [if_true] at h26c
      simp only [go_sem, reduceIte, Nat.reduceEqDiff, Nat.reduceAdd, Nat.reduceSub, Nat.reduceLeDiff, Nat.reduceLT, reduceCtorEq, Int.reduceLT, Int.reduceLE, Int.reduceEq, Int.reduceBEq, Int.reduceSub, Int.reduceAdd, Int.reduceMul, Int.reduceNeg, Int.reduceToNat, Nat.reduceMul, Nat.reduceBEq, index_rsl_if, setm, make_ints, condK_dec, wantK_dec, not_dec, and_dec, or_dec, seqK_ite, seqK_none, blockK_ite, blockK_none, opsK_ite, opsK_none, stepK_ite, stepK_none, bodyK_ite, bodyK_none, resK_ite, resK_none, leaveK_ite, leaveK_none, only_ite, only_none, bind_ite, gives_some, gives_none, gives_ite, then_normal, then_ret, then_exit, then_none, then_ite, Option.bind_none, Bool.not_eq_true', decide_eq_false_iff_not, Bool.and_eq_true, Bool.or_eq_true, Option.some.injEq, Int.not_lt, Int.not_le, lp13_2, hs, e6, e10, e11, e12, e16, e17, e82, e83, e84, h26c]
      refine ⟨k + 1, by simp only [go_sem, reduceIte, Nat.reduceEqDiff, Nat.reduceAdd, Nat.reduceSub, Nat.reduceLeDiff, Nat.reduceLT, reduceCtorEq, Int.reduceLT, Int.reduceLE, Int.reduceEq, Int.reduceBEq, Int.reduceSub, Int.reduceAdd, Int.reduceMul, Int.reduceNeg, Int.reduceToNat, Nat.reduceMul, Nat.reduceBEq, ren1_locm, loc_tips, locT_eq, okRefsB, renCellsB, ren1_t', hro, List.take_length, List.take_left, e6, e10, e11, e12, e82, e83, e84] <;> rfl, ?_, ?_, fun x en s hq => ?_⟩
      · omega
      · omega
      · exact hq
    | false =>
      rw [hg] at e17 h26c
      simp only [Bool.false_eq_true, if_false] at h26c
      simp only [go_sem, reduceIte, Nat.reduceEqDiff, Nat.reduceAdd, Nat.reduceSub, Nat.reduceLeDiff, Nat.reduceLT, reduceCtorEq, Int.reduceLT, Int.reduceLE, Int.reduceEq, Int.reduceBEq, Int.reduceSub, Int.reduceAdd, Int.reduceMul, Int.reduceNeg, Int.reduceToNat, Nat.reduceMul, Nat.reduceBEq, index_rsl_if, setm, make_ints, condK_dec, wantK_dec, not_dec, and_dec, or_dec, seqK_ite, seqK_none, blockK_ite, blockK_none, opsK_ite, opsK_none, stepK_ite, stepK_none, bodyK_ite, bodyK_none, resK_ite, resK_none, leaveK_ite, leaveK_none, only_ite, only_none, bind_ite, gives_some, gives_none, gives_ite, then_normal, then_ret, then_exit, then_none, then_ite, Option.bind_none, Bool.not_eq_true', decide_eq_false_iff_not, Bool.and_eq_true, Bool.or_eq_true, Option.some.injEq, Int.not_lt, Int.not_le, lp13_2, hs, e6, e10, e11, e12, e16, e17, e82, e83, e84, h26c]
      refine ⟨k + 1, by simp only [go_sem, reduceIte, Nat.reduceEqDiff, Nat.reduceAdd, Nat.reduceSub, Nat.reduceLeDiff, Nat.reduceLT, reduceCtorEq, Int.reduceLT, Int.reduceLE, Int.reduceEq, Int.reduceBEq, Int.reduceSub, Int.reduceAdd, Int.reduceMul, Int.reduceNeg, Int.reduceToNat, Nat.reduceMul, Nat.reduceBEq, ren1_locm, loc_tips, locT_eq, okRefsB, renCellsB, ren1_t', hro, List.take_length, List.take_left, e6, e10, e11, e12, e82, e83, e84] <;> rfl, ?_, ?_, fun x en s hq => ?_⟩
      · omega
      · omega
      · exact hq
  · have hlt : ((k : Int) < (C.length : Int)) = False := eq_false (by omega)
    simp only [go_sem, reduceIte, Nat.reduceEqDiff, Nat.reduceAdd, Nat.reduceSub, Nat.reduceLeDiff, Nat.reduceLT, reduceCtorEq, Int.reduceLT, Int.reduceLE, Int.reduceEq, Int.reduceBEq, Int.reduceSub, Int.reduceAdd, Int.reduceMul, Int.reduceNeg, Int.reduceToNat, Nat.reduceMul, Nat.reduceBEq, index_rsl_if, setm, make_ints, condK_dec, wantK_dec, not_dec, and_dec, or_dec, seqK_ite, seqK_none, blockK_ite, blockK_none, opsK_ite, opsK_none, stepK_ite, stepK_none, bodyK_ite, bodyK_none, resK_ite, resK_none, leaveK_ite, leaveK_none, only_ite, only_none, bind_ite, gives_some, gives_none, gives_ite, then_normal, then_ret, then_exit, then_none, then_ite, Option.bind_none, Bool.not_eq_true', decide_eq_false_iff_not, Bool.and_eq_true, Bool.or_eq_true, Option.some.injEq, Int.not_lt, Int.not_le, lp13_2, hlt]

attribute [local go_sem] shaped_t cells_t isAgg_t storable_t okRef_t pub_t okRef_out storable_out shaped_out cells_out fin_out pub_out

theorem clone_out (ps : List (Int × Int)) (hl : ps.length ≤ 1000) : ∃ r1 st1, run L 55 [sl 2 true (ps.map prAV)] ⟨[], []⟩ = some (r1, st1) ∧ st1.store = [] ∧ keepR 3 0 st1 r1 = outAV ps ∧ keepT st1 r1 = outT ps := by
  by_cases h : ps = []
  · subst h
    refine ⟨.v (.slice none 0 0), ⟨[], []⟩, ?_, rfl, rfl, rfl⟩
    rw [run_shared (fn := ir55) rfl rfl]
    have e : sl 2 true (([] : List (Int × Int)).map prAV) = .v (.slice none 0 0) := rfl
    rw [e]
    simp only [ir55, go_sem, reduceIte, Nat.reduceEqDiff, Nat.reduceAdd, Nat.reduceSub, Nat.reduceLeDiff, Nat.reduceLT, reduceCtorEq, Int.reduceLT, Int.reduceLE, Int.reduceEq, Int.reduceBEq, Int.reduceSub, Int.reduceAdd, Int.reduceMul, Int.reduceNeg, Int.reduceToNat, Nat.reduceMul, Nat.reduceBEq]
  · have h2 := c55 ps hl
    rw [if_neg h, if_neg h] at h2
    have e : sl 2 true (ps.map prAV) = sl 2 false (ps.map prAV) := by rw [sl_ne (by simpa using h)]; rfl
    rw [e]
    have ho : ownTop ⟨[], [ps.length]⟩ (.lst (.own 0 ps.length) 2 (ps.map prAV)) = true := by
      simp [ownTop, List.length_map]
    have h0 : ¬ (ps.map prAV).length = 0 := by simpa using h
    refine ⟨_, _, h2, rfl, ?_, ?_⟩
    · simp only [keepR, ho, if_true]
      unfold outAV loc
      rw [if_neg h0, List.length_map]
    · simp only [keepT, ho, if_true]
      unfold outT locT
      rw [if_neg h0, List.length_map]
theorem short_ok {n : Int} {ps : List (Int × Int)} (h : chk n ps = 0) (k : Nat) : chk n (ps.take k) = 0 := by
  obtain ⟨h1, hl16, h3, h4, h5⟩ := chk_zero h
  unfold chk
  rw [if_neg (by omega), if_neg (by rw [List.length_take]; omega)]
  exact prsErr_ok _ [] (fun p hp => h3 p (List.mem_of_mem_take hp)) (by rw [List.nil_append]; exact List.Sublist.nodup (List.take_sublist _ _) h5)
theorem slice_short (ps : List (Int × Int)) (k : Nat) (hk : k ≤ ps.length) (hk0 : ps ≠ [] → k ≠ 0) : sliceAV 2 (sl 2 true (ps.map prAV)) none (some (J k)) none = some (sl 2 true ((ps.take k).map prAV)) := by
  by_cases h : ps = []
  · subst h
    have : k = 0 := by simpa using hk
    subst this; rfl
  · have h1 : ps.take k ≠ [] := by
      intro e
      have := congrArg List.length e
      rw [List.length_take, List.length_nil] at this
      have := hk0 h
      have := List.length_pos_iff.2 h
      omega
    rw [sl_ne (by simpa using h), sl_ne (by simpa using h1)]
    simp [sliceAV, natOr, natOf, tagSlice, hk, List.map_take]

set_option maxHeartbeats 2000000 in
theorem c13 (zs : List Int) (hzl : zs.length = 34) (hz : ∀ a ∈ zs, Byte a) (sv : Int) (hsv : Byte sv) (st : St) :
    run L 13 [qAV zs, B8 sv] st = some (B true, st) := by
  rw [run_pure (fn := ir13) rfl rfl]
  obtain ⟨n, hN, h1, h2, h3, h4, h5, h6, h7, h8⟩ := made_ok (.inl rfl) zs
  have hn6 : n ≤ 6 := by omega
  have h45 := fun st => c45 zs hzl hz 6 (.inl rfl) st
  rw [hN] at h45
  generalize madeP 6 zs = pa at *
  have htk : (zs.map B8).take 34 = zs.map B8 := List.take_of_length_le (by rw [List.length_map]; omega)
  have h46a := fun st => c46 true n pa h8 st
  have h20 := fun st => c20 true (n : Int) pa st
  rw [allV_ok h8, h8] at h20
  obtain ⟨_, h23⟩ := lists_self n ⟨h1, h3⟩ (ps := pa) (fun p hp => h5 p hp) h6
  have hmin : min (pa.length : Int) 10 = ((min pa.length 10 : Nat) : Int) := by omega
  have hsl := slice_short pa (min pa.length 10) (Nat.min_le_left _ _) (fun h => by have := List.length_pos_iff.2 h; omega)
  have h8s := short_ok h8 (min pa.length 10)
  have hpl : (pa.take (min pa.length 10)).length ≤ 10 := by rw [List.length_take]; omega
  generalize pa.take (min pa.length 10) = ps at *
  have h46b := fun st => c46 true n ps h8s st
  obtain ⟨t1, t2, t3, t4, t5⟩ := chk_zero h8s
  obtain ⟨hch, _⟩ := lists_self n ⟨h1, h3⟩ (ps := ps) (fun p hp => t3 p hp) t4
  have hsn := succ64 n (by omega)
  obtain ⟨r1, st1, h55, hst1, hkr, hkt⟩ := clone_out ps (by omega)
  simp only [keepR, keepT, ownTop] at hkr hkt
  unfold Byte at hsv
  obtain ⟨sv, rfl⟩ := Int.eq_ofNat_of_zero_le hsv.1
  have hwr := wrap64 (sv : Int) (by omega) (by omega)
  have hsh := shl_i n (by omega)
  have h2n : 0 < 2 ^ n := Nat.two_pow_pos n
  have htm : ((sv : Int)).tmod ((2 ^ n : Nat) : Int) = ((sv % 2 ^ n : Nat) : Int) := tmod_nat _ _
  have hz0 : (((2 ^ n : Nat) : Int) = 0) = False := eq_false (by omega)
  have hzlt : sv % 2 ^ n < 2 ^ n := Nat.mod_lt _ h2n
  generalize sv % 2 ^ n = z at *
  have hz7 : z < 128 := lt128 h3 hzlt
  have h51 : ∀ st, run L 51 [J z] st = some (sl 1 true ((bitsL z).map J), st) := fun st => by rw [c51 z hz7 st, memb_J]
  have hll : lenAV (sl 1 true ((bitsL z).map J)) = some (J (bitsL z).length) := by rw [len_sl, List.length_map]
  have hlc := len_t true (chosL n ps)
  have hC : ∀ c ∈ chosL n ps, ∃ m, c = memb m ∧ c ≠ [] ∧ validE ((n + 1 : Nat) : Int) ps (c ++ [(n : Int)]) = 0 ∧ validE ((n + 1 : Nat) : Int) ps c = 21 ∧ validE ((n + 1 : Nat) : Int) (ps ++ newP n (bitsL z)) c = if grownB z m = true then 0 else 21 := fun c hc => by
    obtain ⟨m, hm, hcm, hj⟩ := chos_set hc
    obtain ⟨g1, g2, g3⟩ := grown_ok h1 hn6 h8s hpl hzlt hm hj
    refine ⟨m, hcm, (chos_ne h1 h3 c hc).1, ?_, ?_, ?_⟩
    · rw [hcm]; exact g1
    · rw [hcm]; exact g2
    · rw [hcm]; exact g3
  generalize chosL n ps = C at *
  by_cases hps : ps = []
  · have hot : (outT ps).length = 0 := by rw [hps]; rfl
    simp only [ir13, go_sem, reduceIte, Nat.reduceEqDiff, Nat.reduceAdd, Nat.reduceSub, Nat.reduceLeDiff, Nat.reduceLT, reduceCtorEq, Int.reduceLT, Int.reduceLE, Int.reduceEq, Int.reduceBEq, Int.reduceSub, Int.reduceAdd, Int.reduceMul, Int.reduceNeg, Int.reduceToNat, Nat.reduceMul, Nat.reduceBEq, okRefsB, renCellsB, pubsB, storableB, h45, hzl, htk, h46a, h20, h23, hmin, hsl, h46b, hsn, h55, hst1, hkr, hkt, hwr, hsh, htm, hz0, h51, hll, show shStore 3 [] = [] from rfl, hot, List.length_map]
    generalize hg : lim (headed pure (run L) true _ lp13_0 _ _) _ _ = o
    obtain ⟨x, en, s, rfl, h2⟩ : ∃ x en s, o = some (x, en, s) ∧ _ := by rw [← hg]; exact loop13_0 zs n hn6 ps C z 0 ps ⟨by omega, by omega⟩ _ _ (by simp only [go_sem, reduceIte, Nat.reduceEqDiff, Nat.reduceAdd, Nat.reduceSub, Nat.reduceLeDiff, Nat.reduceLT, reduceCtorEq, Int.reduceLT, Int.reduceLE, Int.reduceEq, Int.reduceBEq, Int.reduceSub, Int.reduceAdd, Int.reduceMul, Int.reduceNeg, Int.reduceToNat, Nat.reduceMul, Nat.reduceBEq, okRefsB, renCellsB, ren1_t', ren1_out, outAcc_snd, Int.natCast_zero] <;> rfl)
    clear hg
    rw [List.drop_zero] at h2
    obtain ⟨rfl, e6, e7, e10, e11, e12, rfl⟩ := h2
    generalize ps ++ newP n (bitsL z) = oo at *
    have hro := fun T acc => ren1_outG (o := oo) (k := (outT oo).length) (Nat.le_refl _) T acc
    simp only [go_sem, reduceIte, Nat.reduceEqDiff, Nat.reduceAdd, Nat.reduceSub, Nat.reduceLeDiff, Nat.reduceLT, reduceCtorEq, Int.reduceLT, Int.reduceLE, Int.reduceEq, Int.reduceBEq, Int.reduceSub, Int.reduceAdd, Int.reduceMul, Int.reduceNeg, Int.reduceToNat, Nat.reduceMul, Nat.reduceBEq, e6, e7, e10, e11, e12, hlc]
    generalize hg : lim (headed pure (run L) true _ lp13_2 _ _) _ _ = o
    obtain ⟨x, en, s, rfl, h2⟩ : ∃ x en s, o = some (x, en, s) ∧ _ := by rw [← hg]; exact loop13_2 zs n hn6 ps oo C (by omega) z hz7 hC _ rfl 0 (by omega) _ _ (by simp only [go_sem, reduceIte, Nat.reduceEqDiff, Nat.reduceAdd, Nat.reduceSub, Nat.reduceLeDiff, Nat.reduceLT, reduceCtorEq, Int.reduceLT, Int.reduceLE, Int.reduceEq, Int.reduceBEq, Int.reduceSub, Int.reduceAdd, Int.reduceMul, Int.reduceNeg, Int.reduceToNat, Nat.reduceMul, Nat.reduceBEq, okRefsB, renCellsB, ren1_t', hro, List.take_length, e6, e7, e10, e11, e12, Int.natCast_zero] <;> rfl)
    clear hg
    subst h2
    simp only [go_sem, reduceIte, Nat.reduceEqDiff, Nat.reduceAdd, Nat.reduceSub, Nat.reduceLeDiff, Nat.reduceLT, reduceCtorEq, Int.reduceLT, Int.reduceLE, Int.reduceEq, Int.reduceBEq, Int.reduceSub, Int.reduceAdd, Int.reduceMul, Int.reduceNeg, Int.reduceToNat, Nat.reduceMul, Nat.reduceBEq, c17]
  · have hp1 : 1 ≤ ps.length := List.length_pos_iff.2 hps
    have hto : outT ps = [ps.length] := by
      unfold outT locT
      rw [if_neg (by simpa using hps), List.length_map]
    have hot : (outT ps).length = 1 := by rw [hto]; rfl
    have hro0 := fun T acc => ren1_outG (o := ps) (k := 1) (by rw [hot]; exact Nat.le_refl 1) T acc
    have htk0 : List.take 1 (outT ps) = outT ps := by rw [hto]; rfl
    simp only [ir13, go_sem, reduceIte, Nat.reduceEqDiff, Nat.reduceAdd, Nat.reduceSub, Nat.reduceLeDiff, Nat.reduceLT, reduceCtorEq, Int.reduceLT, Int.reduceLE, Int.reduceEq, Int.reduceBEq, Int.reduceSub, Int.reduceAdd, Int.reduceMul, Int.reduceNeg, Int.reduceToNat, Nat.reduceMul, Nat.reduceBEq, okRefsB, renCellsB, pubsB, storableB, h45, hzl, htk, h46a, h20, h23, hmin, hsl, h46b, hsn, h55, hst1, hkr, hkt, hwr, hsh, htm, hz0, h51, hll, show shStore 3 [] = [] from rfl, hot, List.length_map]
    generalize hg : lim (headed pure (run L) true _ lp13_0 _ _) _ _ = o
    obtain ⟨x, en, s, rfl, h2⟩ : ∃ x en s, o = some (x, en, s) ∧ _ := by rw [← hg]; exact loop13_0b zs n hn6 ps C z 0 ps ⟨by omega, by omega, hp1⟩ _ _ (by simp only [go_sem, reduceIte, Nat.reduceEqDiff, Nat.reduceAdd, Nat.reduceSub, Nat.reduceLeDiff, Nat.reduceLT, reduceCtorEq, Int.reduceLT, Int.reduceLE, Int.reduceEq, Int.reduceBEq, Int.reduceSub, Int.reduceAdd, Int.reduceMul, Int.reduceNeg, Int.reduceToNat, Nat.reduceMul, Nat.reduceBEq, okRefsB, renCellsB, ren1_t', hro0, htk0, List.append_nil, Int.natCast_zero] <;> rfl)
    clear hg
    rw [List.drop_zero] at h2
    obtain ⟨rfl, e6, e7, e10, e11, e12, rfl⟩ := h2
    generalize ps ++ newP n (bitsL z) = oo at *
    have hro := fun T acc => ren1_outG (o := oo) (k := (outT oo).length) (Nat.le_refl _) T acc
    simp only [go_sem, reduceIte, Nat.reduceEqDiff, Nat.reduceAdd, Nat.reduceSub, Nat.reduceLeDiff, Nat.reduceLT, reduceCtorEq, Int.reduceLT, Int.reduceLE, Int.reduceEq, Int.reduceBEq, Int.reduceSub, Int.reduceAdd, Int.reduceMul, Int.reduceNeg, Int.reduceToNat, Nat.reduceMul, Nat.reduceBEq, e6, e7, e10, e11, e12, hlc]
    generalize hg : lim (headed pure (run L) true _ lp13_2 _ _) _ _ = o
    obtain ⟨x, en, s, rfl, h2⟩ : ∃ x en s, o = some (x, en, s) ∧ _ := by rw [← hg]; exact loop13_2 zs n hn6 ps oo C (by omega) z hz7 hC _ rfl 0 (by omega) _ _ (by simp only [go_sem, reduceIte, Nat.reduceEqDiff, Nat.reduceAdd, Nat.reduceSub, Nat.reduceLeDiff, Nat.reduceLT, reduceCtorEq, Int.reduceLT, Int.reduceLE, Int.reduceEq, Int.reduceBEq, Int.reduceSub, Int.reduceAdd, Int.reduceMul, Int.reduceNeg, Int.reduceToNat, Nat.reduceMul, Nat.reduceBEq, okRefsB, renCellsB, ren1_t', hro, List.take_length, e6, e7, e10, e11, e12, Int.natCast_zero] <;> rfl)
    clear hg
    subst h2
    simp only [go_sem, reduceIte, Nat.reduceEqDiff, Nat.reduceAdd, Nat.reduceSub, Nat.reduceLeDiff, Nat.reduceLT, reduceCtorEq, Int.reduceLT, Int.reduceLE, Int.reduceEq, Int.reduceBEq, Int.reduceSub, Int.reduceAdd, Int.reduceMul, Int.reduceNeg, Int.reduceToNat, Nat.reduceMul, Nat.reduceBEq, c17]
end Go.Proofs.YtgohohiaaiogcaaDoor.Vm
