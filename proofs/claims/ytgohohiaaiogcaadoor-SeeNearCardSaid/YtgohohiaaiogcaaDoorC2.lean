/- What is proved: what each function of this program computes, as equations on the evaluator. No condition. -/
import Derived.Test.YtgohohiaaiogcaaDoorC1
set_option linter.all false
namespace Go.Proofs.YtgohohiaaiogcaaDoor.Vm
open Go Go.Ev
set_option maxRecDepth 100000
attribute [local go_sem] cells_any storable_any ren1_any shaped_ptr cells_ptr storable_ptr ren1_ptr shaped_eptr cells_eptr storable_eptr ren1_eptr shaped_rsl cells_rsl storable_rsl ren1_rsl shaped_int cells_int storable_int ren1_int shaped_bool cells_bool storable_bool ren1_bool shaped_nils cells_nils storable_nils ren1_nils shaped_lst cells_lst storable_lst shaped_fn cells_fn storable_fn ren1_fn shaped_ifc cells_ifc storable_ifc ren1_ifc shaped_agg cells_agg storable_agg ren1_agg shaped_tup cells_tup storable_tup ren1_tup shaped_nif cells_nif storable_nif ren1_nif ren1_lany ren1_lfull ren1_lown len_lst len_rsl len_nil load_ptr load_eptr isRsl_lst isRsl_nil isRsl_rsl elems_nil elems_lst elems_sl isRsl_sl body_eq bodyK_normal bodyK_ret resK_some leaveK_some only_some code_skip code_exit code_ret code_ops code_seq code_cond code_block seqK_normal seqK_ret seqK_exit condK_true condK_false blockK_normal blockK_ret blockK_exit opsK_some ops_nil ops_cons wantK_true wantK_false stepK_some pubs pub pub_sl params okRef_loc storable_loc shaped_loc cells_loc isRsl_loc elems_loc len_loc untips untip untip_sl wantedAV setElems withO isAgg_v isAgg_agg isAgg_lst isAgg_ptr isAgg_fn isAgg_ifc isAgg_rsl isAgg_sl isAgg_loc List.replicate_succ List.replicate_zero opAV valAV aval avals ofVal Env.get setD canon gcAV renAll renEnv renStore renCells ren1_sl cutSt okEnv okStore okRefs okRef okRef_sl bin_int bin_bool bin_lst bin_rsl bin_nil bin_agg cellsEq cellEq isShift intOp boolOp min_int max_int beq_int bne resAV tupAV leave_eq fin_sl fin_loc fins fin_v fin_lst fin_agg fin_tup fin_fn storeAV readCells putCells cells_sl shaped_sl storable_sl fieldAddrAV len_sl goI List.getElem?_cons_zero List.getElem?_cons_succ List.getElem?_nil Option.bind_some Option.map_some List.length_cons List.length_nil List.all_cons List.all_nil Bool.and_true Bool.true_and Bool.and_false Bool.false_and and_true true_and and_false false_and Bool.false_eq_true List.set_cons_zero List.set_cons_succ List.append_nil List.nil_append List.cons_append List.take_zero List.take_succ_cons List.take_nil List.drop_zero List.drop_succ_cons List.map_cons List.map_nil decide_true decide_false beq_self_eq_true Bool.not_true Bool.not_false or_true true_or or_false false_or Nat.zero_add Nat.add_zero Nat.le_refl Nat.lt_irrefl decide_eq_true_eq eq_self_iff_true not_true_eq_false not_false_eq_true List.getD_cons_zero code_loop Nat.zero_le Nat.not_lt_zero Bool.true_beq Bool.false_beq beq_true beq_false ge_iff_le gt_iff_lt Lpure pus Option.map_none assert_ifc assert_nil idxA_ptr idxA_eptr idxV_agg Int.cast_ofNat_Int Nat.mul_one Nat.zero_mul Int.toNat_natCast Int.toNat_zero setParts withO2 hasKey eqnil_sl nenil_sl eqnil_loc nenil_loc map_nil_iff okRefs_ints renCells_ints
attribute [local go_sem] shaped_t cells_t isAgg_t storable_t okRef_t pub_t

theorem frzVs_J (l : Nat) (cs : List AV) (xs : List Nat) : frzVs l cs (xs.map J) = xs.map J := frzVs_kind l cs (fun (n : Nat) => Value.int .i64 (n : Int)) xs
theorem kerL_87 {n : Nat} {ps : List (Int × Int)} (h7 : ∀ p ∈ ps, okP p) (l : List Nat) : kerL (jdg n (seeL 8 ps)) l = kerL (jdg n (seeL 7 ps)) l := by
  unfold kerL
  congr 1
  apply List.filter_congr
  intro m _
  rw [decide_eq_decide, ker_iff h7 (by omega), ker_iff h7 (by omega)]
set_option maxHeartbeats 1000000 in
theorem c46 (nl : Bool) (n : Nat) (ps : List (Int × Int)) (h : chk (n : Int) ps = 0) (st : St) : run L 46 [bkAV nl (n : Int) ps] st = some (sl 1 true ((chosL n ps).map tAV), st) := by
  rw [run_pure (fn := ir46) rfl rfl]
  obtain ⟨h1, hl16, h3, h4, h5⟩ := chk_zero h
  have h50 := fun st => c50 nl (n : Int) ps (by omega) h4 st
  have hpj := putJ (seeL 8 ps) (seeL_len 8 ps)
  have hlj := seeL_len 8 ps
  have hsh := shl_i n (by omega)
  have h12 := ker12 (n := n) (by omega) (fun p hp => h3 p hp) h4
  have hsm7 := kerL_small (jdg n (seeL 7 ps)) (List.range' 0 (2 ^ n))
  unfold chosL
  simp only [ir46, go_sem, reduceIte, Nat.reduceEqDiff, Nat.reduceAdd, Nat.reduceSub, Nat.reduceLeDiff, Nat.reduceLT, reduceCtorEq, Int.reduceLT, Int.reduceLE, Int.reduceEq, Int.reduceBEq, Int.reduceSub, Int.reduceAdd, Int.reduceMul, Int.reduceNeg, Int.reduceToNat, Nat.reduceMul, Nat.reduceBEq, h50, hpj, hlj, hsh, pubsJ, storableJ, List.length_map]
  generalize hg : lim (headed pure (run L) true _ lp46_1 _ _) _ _ = o
  obtain ⟨x, en, s, rfl, h2⟩ : ∃ x en s, o = some (x, en, s) ∧ _ := by rw [← hg]; exact loop46_1 nl n (by omega) ps (seeL 8 ps) (seeL_len 8 ps) (seeL_small 8 h4) 0 [] ⟨Nat.zero_le _, by simp⟩ _ _ (by simp only [go_sem, reduceIte, Nat.reduceEqDiff, Nat.reduceAdd, Nat.reduceSub, Nat.reduceLeDiff, Nat.reduceLT, reduceCtorEq, Int.reduceLT, Int.reduceLE, Int.reduceEq, Int.reduceBEq, Int.reduceSub, Int.reduceAdd, Int.reduceMul, Int.reduceNeg, Int.reduceToNat, Nat.reduceMul, Nat.reduceBEq, okRefsJ, renCellsJ, refsL_J, mapLs_J, compact, compactW, refsEnv, refsV, refsL, refsStore, refsAt, mapEnv, mapL, mapLs, newName, posOf, mapStore, pickStore, namesOk, refsV_sl, mapL_sl, List.contains_nil, List.contains_cons, Option.getD_some, hasKey, Int.natCast_zero, show kA [] = .v (.slice none 0 0) from rfl, show kS [] = [] from rfl] <;> rfl)
  clear hg
  rw [List.nil_append, Nat.sub_zero, kerL_87 h4] at h2
  obtain ⟨rfl, e4, rfl⟩ := h2
  generalize kerL (jdg n (seeL 7 ps)) (List.range' 0 (2 ^ n)) = X at *
  by_cases hX : X = []
  · subst hX
    have eA : kA [] = .v (.slice none 0 0) := rfl
    have eS : kS [] = [] := rfl
    have h54 := fun st => c54n st
    simp only [go_sem, reduceIte, Nat.reduceEqDiff, Nat.reduceAdd, Nat.reduceSub, Nat.reduceLeDiff, Nat.reduceLT, reduceCtorEq, Int.reduceLT, Int.reduceLE, Int.reduceEq, Int.reduceBEq, Int.reduceSub, Int.reduceAdd, Int.reduceMul, Int.reduceNeg, Int.reduceToNat, Nat.reduceMul, Nat.reduceBEq, e4, eA, eS, h54, show pure 54 = false from rfl, code_frz, frzAV, frzT, frzLs, rslsOf, frzEnv, frzEnv_get, frzStore, frzVs, frzV_v, frzV_ptr, frzV_sl]
    rfl
  · have eA := kA_ne hX
    have eS := kS_ne hX
    have hpos : 1 ≤ X.length := by
      cases X with
      | nil => exact absurd rfl hX
      | cons x r => simp
    have hperm := (sortL_perm lexLt X).length_eq
    have hneS : sortL lexLt X ≠ [] := by
      intro e
      rw [e] at hperm; simp at hperm; omega
    have h54 := c54 [bkCells nl (n : Int) ps, (seeL 8 ps).map J, X.map tAV] [] 2 X rfl hpos h12 (fun l hl => by have := hsm7 l hl; omega)
    have hfz := fun T env => frzL2c (a := bkCells nl (n : Int) ps) (b := (seeL 8 ps).map J) (cs := (sortL lexLt X).map tAV) (by simpa using hneS) T env
    have hfv := frzV_madeT 2 (sortL lexLt X) hneS
    rw [hperm] at hfv
    have hset : [bkCells nl (n : Int) ps, (seeL 8 ps).map J, X.map tAV].set 2 ((sortL lexLt X).map tAV) = [bkCells nl (n : Int) ps, (seeL 8 ps).map J, (sortL lexLt X).map tAV] := rfl
    rw [hset] at h54
    simp only [go_sem, reduceIte, Nat.reduceEqDiff, Nat.reduceAdd, Nat.reduceSub, Nat.reduceLeDiff, Nat.reduceLT, reduceCtorEq, Int.reduceLT, Int.reduceLE, Int.reduceEq, Int.reduceBEq, Int.reduceSub, Int.reduceAdd, Int.reduceMul, Int.reduceNeg, Int.reduceToNat, Nat.reduceMul, Nat.reduceBEq, e4, eA, eS, h54, show pure 54 = false from rfl, code_frz, frzAV, frzT, frzLs, rslsOf, hfz, frzEnv, frzEnv_get, frzStore, frzVs, frzV_v, frzV_ptr, frzV_sl, hfv, frzVs_J]

attribute [local go_sem] shaped_t cells_t isAgg_t storable_t okRef_t pub_t
attribute [local go_sem high] and_one shr_u shl_one or_u and_u

/-! ### lists as sets -/
def setErr (n : Int) : Int → List Int → Int
  | _, [] => 0
  | last, x :: r => if x < 0 ∨ n ≤ x then 2 else if x ≤ last then 7 else setErr n x r

theorem loop72 (nl : Bool) (n : Int) (hn : 1 ≤ n ∧ n ≤ 7) (l : List Int) (hlen : l.length < 1000000) (w : List Nat) (ho : w.length = 7) (i : Nat) (last : Int) (hok : i ≤ l.length ∧ ∀ x ∈ l.take i, 0 ≤ x ∧ x < n) (env : Env) (st : St)
    (hg : gcAV true 1 0 (canon env [2, 6, 7, 10, 11, 12]) st = ([(2, .ptr 0 0), (6, U (setL (l.take i))), (7, I last), (10, sl 1 nl (l.map I)), (11, I l.length), (12, I i)], ⟨[webC n w], []⟩)) :
    ∃ x_1 en s, lim (headed pure (run L) true [2, 6, 7, 10, 11, 12] lp72_0 1 0) env st = some (x_1, en, s) ∧ (if setErr n last (l.drop i) = 0 then x_1 = .exit 0 ∧ en.get 6 = U (setL l) ∧ (∀ x ∈ l, 0 ≤ x ∧ x < n) else x_1 = .ret ∧ en.get 4 = U 0 ∧ en.get 5 = I (setErr n last (l.drop i))) := by
  refine loop_wp (α := Nat × Int) (fun ⟨i, last⟩ => l.length - i) (fun ⟨i, last⟩ => i ≤ l.length ∧ ∀ x ∈ l.take i, 0 ≤ x ∧ x < n) (fun ⟨i, last⟩ => ([(2, .ptr 0 0), (6, U (setL (l.take i))), (7, I last), (10, sl 1 nl (l.map I)), (11, I l.length), (12, I i)], ⟨[webC n w], []⟩)) (fun ⟨i, last⟩ x_1 en s => if setErr n last (l.drop i) = 0 then x_1 = .exit 0 ∧ en.get 6 = U (setL l) ∧ (∀ x ∈ l, 0 ≤ x ∧ x < n) else x_1 = .ret ∧ en.get 4 = U 0 ∧ en.get 5 = I (setErr n last (l.drop i))) (fun ⟨i, last⟩ hok => ?_) ⟨i, last⟩ hok env st hg
  simp only at hok
  obtain ⟨h1, h2⟩ := hok
  dsimp only at h1 h2 ⊢
  by_cases h : i < l.length
  · have hx := index_ints nl l i h
    have hs := succ64 i (by omega)
    have hd : l.drop i = l[i] :: l.drop (i + 1) := List.drop_eq_getElem_cons h
    have ht : l.take (i + 1) = l.take i ++ [l[i]] := by rw [List.take_succ_eq_append_getElem h]
    have h2' : ∀ x ∈ l.take i, 0 ≤ x ∧ x < 7 := fun x hx => by have := h2 x hx; omega
    have hm1 := setL_lt h2'
    have hsn := setL_snoc (l.take i) l[i]
    rw [← ht] at hsn
    rw [hd]
    generalize l[i] = x at *
    have hlt : ((i : Int) < (l.length : Int)) = True := eq_true (by omega)
    have hlw := lenW n w
    have g0 := getW0 n w
    rw [ho] at hlw
    by_cases p1 : x < 0
    · have he : setErr n last (x :: l.drop (i + 1)) = 2 := by simp only [setErr]; rw [if_pos (by omega)]
      simp only [go_sem, reduceIte, Nat.reduceEqDiff, Nat.reduceAdd, Nat.reduceSub, Nat.reduceLeDiff, Nat.reduceLT, reduceCtorEq, Int.reduceLT, Int.reduceLE, Int.reduceEq, Int.reduceBEq, Int.reduceSub, Int.reduceAdd, Int.reduceMul, Int.reduceNeg, Int.reduceToNat, Nat.reduceMul, Nat.reduceBEq, index_rsl_if, setm, make_ints, condK_dec, wantK_dec, not_dec, and_dec, or_dec, seqK_ite, seqK_none, blockK_ite, blockK_none, opsK_ite, opsK_none, stepK_ite, stepK_none, bodyK_ite, bodyK_none, resK_ite, resK_none, leaveK_ite, leaveK_none, only_ite, only_none, bind_ite, gives_some, gives_none, gives_ite, then_normal, then_ret, then_exit, then_none, then_ite, Option.bind_none, Bool.not_eq_true', decide_eq_false_iff_not, Bool.and_eq_true, Bool.or_eq_true, Option.some.injEq, Int.not_lt, Int.not_le, lp72_0, hx, hlt, p1, hlw, g0, List.length_map]
      simp [he]
    by_cases p2 : n ≤ x
    · have he : setErr n last (x :: l.drop (i + 1)) = 2 := by simp only [setErr]; rw [if_pos (by omega)]
      simp only [go_sem, reduceIte, Nat.reduceEqDiff, Nat.reduceAdd, Nat.reduceSub, Nat.reduceLeDiff, Nat.reduceLT, reduceCtorEq, Int.reduceLT, Int.reduceLE, Int.reduceEq, Int.reduceBEq, Int.reduceSub, Int.reduceAdd, Int.reduceMul, Int.reduceNeg, Int.reduceToNat, Nat.reduceMul, Nat.reduceBEq, index_rsl_if, setm, make_ints, condK_dec, wantK_dec, not_dec, and_dec, or_dec, seqK_ite, seqK_none, blockK_ite, blockK_none, opsK_ite, opsK_none, stepK_ite, stepK_none, bodyK_ite, bodyK_none, resK_ite, resK_none, leaveK_ite, leaveK_none, only_ite, only_none, bind_ite, gives_some, gives_none, gives_ite, then_normal, then_ret, then_exit, then_none, then_ite, Option.bind_none, Bool.not_eq_true', decide_eq_false_iff_not, Bool.and_eq_true, Bool.or_eq_true, Option.some.injEq, Int.not_lt, Int.not_le, lp72_0, hx, hlt, p1, p2, hlw, g0, List.length_map]
      simp [he]
    obtain ⟨k, rfl⟩ := Int.eq_ofNat_of_zero_le (show 0 ≤ x by omega)
    have hk : k < 7 := by omega
    have p1' : ((k : Int) < 0) = False := eq_false p1
    rw [Int.toNat_natCast] at hsn
    have e1 : orU (setL (l.take i)) (sh1 k) = setL (l.take (i + 1)) := by rw [hsn, (sh1_lt k hk).1, orU_eq _ _ hm1 (sh1_lt k hk).2]
    by_cases p3 : (k : Int) ≤ last
    · have he : setErr n last ((k : Int) :: l.drop (i + 1)) = 7 := by simp only [setErr]; rw [if_neg (by omega), if_pos p3]
      simp only [go_sem, reduceIte, Nat.reduceEqDiff, Nat.reduceAdd, Nat.reduceSub, Nat.reduceLeDiff, Nat.reduceLT, reduceCtorEq, Int.reduceLT, Int.reduceLE, Int.reduceEq, Int.reduceBEq, Int.reduceSub, Int.reduceAdd, Int.reduceMul, Int.reduceNeg, Int.reduceToNat, Nat.reduceMul, Nat.reduceBEq, index_rsl_if, setm, make_ints, condK_dec, wantK_dec, not_dec, and_dec, or_dec, seqK_ite, seqK_none, blockK_ite, blockK_none, opsK_ite, opsK_none, stepK_ite, stepK_none, bodyK_ite, bodyK_none, resK_ite, resK_none, leaveK_ite, leaveK_none, only_ite, only_none, bind_ite, gives_some, gives_none, gives_ite, then_normal, then_ret, then_exit, then_none, then_ite, Option.bind_none, Bool.not_eq_true', decide_eq_false_iff_not, Bool.and_eq_true, Bool.or_eq_true, Option.some.injEq, Int.not_lt, Int.not_le, lp72_0, hx, hlt, p1', p2, p3, hlw, g0, List.length_map]
      simp [he]
    · have he : setErr n last ((k : Int) :: l.drop (i + 1)) = setErr n (k : Int) (l.drop (i + 1)) := by simp only [setErr]; rw [if_neg (by omega), if_neg p3]
      rw [he]
      simp only [go_sem, reduceIte, Nat.reduceEqDiff, Nat.reduceAdd, Nat.reduceSub, Nat.reduceLeDiff, Nat.reduceLT, reduceCtorEq, Int.reduceLT, Int.reduceLE, Int.reduceEq, Int.reduceBEq, Int.reduceSub, Int.reduceAdd, Int.reduceMul, Int.reduceNeg, Int.reduceToNat, Nat.reduceMul, Nat.reduceBEq, index_rsl_if, setm, make_ints, condK_dec, wantK_dec, not_dec, and_dec, or_dec, seqK_ite, seqK_none, blockK_ite, blockK_none, opsK_ite, opsK_none, stepK_ite, stepK_none, bodyK_ite, bodyK_none, resK_ite, resK_none, leaveK_ite, leaveK_none, only_ite, only_none, bind_ite, gives_some, gives_none, gives_ite, then_normal, then_ret, then_exit, then_none, then_ite, Option.bind_none, Bool.not_eq_true', decide_eq_false_iff_not, Bool.and_eq_true, Bool.or_eq_true, Option.some.injEq, Int.not_lt, Int.not_le, lp72_0, hx, hlt, hs, p1', p2, p3, hlw, g0, e1, List.length_map]
      refine ⟨(i + 1, (k : Int)), by simp only [go_sem, reduceIte, Nat.reduceEqDiff, Nat.reduceAdd, Nat.reduceSub, Nat.reduceLeDiff, Nat.reduceLT, reduceCtorEq, Int.reduceLT, Int.reduceLE, Int.reduceEq, Int.reduceBEq, Int.reduceSub, Int.reduceAdd, Int.reduceMul, Int.reduceNeg, Int.reduceToNat, Nat.reduceMul, Nat.reduceBEq, ren1_locm, loc_tips, locT_eq, okRefsW, renCellsW] <;> rfl, ?_, ?_, fun x en s hq => ?_⟩
      · dsimp only
        refine ⟨by omega, fun x hx => ?_⟩
        rw [ht] at hx
        rcases List.mem_append.1 hx with hx | hx
        · exact h2 x hx
        · simp at hx; omega
      · dsimp only; omega
      · exact hq
  · have hd : l.drop i = [] := List.drop_eq_nil_of_le (by omega)
    have hlt : ((i : Int) < (l.length : Int)) = False := eq_false (by omega)
    have htl : l.take i = l := List.take_of_length_le (by omega)
    rw [htl] at h2
    simp only [go_sem, reduceIte, Nat.reduceEqDiff, Nat.reduceAdd, Nat.reduceSub, Nat.reduceLeDiff, Nat.reduceLT, reduceCtorEq, Int.reduceLT, Int.reduceLE, Int.reduceEq, Int.reduceBEq, Int.reduceSub, Int.reduceAdd, Int.reduceMul, Int.reduceNeg, Int.reduceToNat, Nat.reduceMul, Nat.reduceBEq, index_rsl_if, setm, make_ints, condK_dec, wantK_dec, not_dec, and_dec, or_dec, seqK_ite, seqK_none, blockK_ite, blockK_none, opsK_ite, opsK_none, stepK_ite, stepK_none, bodyK_ite, bodyK_none, resK_ite, resK_none, leaveK_ite, leaveK_none, only_ite, only_none, bind_ite, gives_some, gives_none, gives_ite, then_normal, then_ret, then_exit, then_none, then_ite, Option.bind_none, Bool.not_eq_true', decide_eq_false_iff_not, Bool.and_eq_true, Bool.or_eq_true, Option.some.injEq, Int.not_lt, Int.not_le, lp72_0, hlt, List.length_map, htl]
    rw [hd]
    simp only [setErr, if_true]
    exact h2

theorem c72 (nl : Bool) (n : Int) (hn : 1 ≤ n ∧ n ≤ 7) (l : List Int) (hlen : l.length < 1000000) (w : List Nat) (ho : w.length = 7) (st : St) :
    run L 72 [webAV n w, sl 1 nl (l.map I)] st = some (.tup [U (if setErr n (-1) l = 0 then setL l else 0), I (setErr n (-1) l)], st) ∧ (setErr n (-1) l = 0 → ∀ x ∈ l, 0 ≤ x ∧ x < n) := by
  rw [run_pure (fn := ir72) rfl rfl]
  have hlw := lenW n w
  rw [ho] at hlw
  have e0 : U (setL (l.take 0)) = U 0 := rfl
  simp only [ir72, go_sem, reduceIte, Nat.reduceEqDiff, Nat.reduceAdd, Nat.reduceSub, Nat.reduceLeDiff, Nat.reduceLT, reduceCtorEq, Int.reduceLT, Int.reduceLE, Int.reduceEq, Int.reduceBEq, Int.reduceSub, Int.reduceAdd, Int.reduceMul, Int.reduceNeg, Int.reduceToNat, Nat.reduceMul, Nat.reduceBEq, List.length_map, hlw, pubsW, storableW]
  generalize hg : lim (headed pure (run L) true _ lp72_0 _ _) _ _ = o
  obtain ⟨x, en, s, rfl, h2⟩ : ∃ x en s, o = some (x, en, s) ∧ _ := by rw [← hg]; exact loop72 nl n hn l hlen w ho 0 (-1) ⟨by omega, by simp⟩ _ _ (by simp only [go_sem, reduceIte, Nat.reduceEqDiff, Nat.reduceAdd, Nat.reduceSub, Nat.reduceLeDiff, Nat.reduceLT, reduceCtorEq, Int.reduceLT, Int.reduceLE, Int.reduceEq, Int.reduceBEq, Int.reduceSub, Int.reduceAdd, Int.reduceMul, Int.reduceNeg, Int.reduceToNat, Nat.reduceMul, Nat.reduceBEq, okRefsW, renCellsW, e0] <;> rfl)
  clear hg
  rw [List.drop_zero] at h2
  by_cases h : setErr n (-1) l = 0
  · rw [if_pos h] at h2 ⊢
    obtain ⟨rfl, h3, h4⟩ := h2
    exact ⟨by simp only [go_sem, reduceIte, Nat.reduceEqDiff, Nat.reduceAdd, Nat.reduceSub, Nat.reduceLeDiff, Nat.reduceLT, reduceCtorEq, Int.reduceLT, Int.reduceLE, Int.reduceEq, Int.reduceBEq, Int.reduceSub, Int.reduceAdd, Int.reduceMul, Int.reduceNeg, Int.reduceToNat, Nat.reduceMul, Nat.reduceBEq, h3, h], fun _ => h4⟩
  · rw [if_neg h] at h2 ⊢
    obtain ⟨rfl, h3, h4⟩ := h2
    exact ⟨by simp only [go_sem, reduceIte, Nat.reduceEqDiff, Nat.reduceAdd, Nat.reduceSub, Nat.reduceLeDiff, Nat.reduceLT, reduceCtorEq, Int.reduceLT, Int.reduceLE, Int.reduceEq, Int.reduceBEq, Int.reduceSub, Int.reduceAdd, Int.reduceMul, Int.reduceNeg, Int.reduceToNat, Nat.reduceMul, Nat.reduceBEq, h3, h4]; rfl, fun h5 => absurd h5 h⟩

attribute [local go_sem] shaped_t cells_t isAgg_t storable_t okRef_t pub_t
attribute [local go_sem high] and_one shr_u shl_one or_u and_u

theorem c23t (n1 n2 : Bool) (xs ys : List (List Int)) (hlen : xs.length < 1000000) (hx : ∀ l ∈ xs, l.length < 1000000) (h1 : ∀ l ∈ xs, l ≠ []) (h2 : ∀ l ∈ ys, l ≠ []) (st : St) : run L 23 [sl 1 n1 (xs.map tAV), sl 1 n2 (ys.map tAV)] st = some (B (decide (xs = ys)), st) := by
  have e : ∀ X : List (List Int), (∀ l ∈ X, l ≠ []) → X.map tAV = X.map listAV := fun X h => List.map_congr_left fun l hl => by
    unfold tAV listAV
    rw [sl_ne (by simpa using h l hl), sl_ne (by simpa using h l hl)]
  rw [e xs h1, e ys h2]
  exact c23 n1 n2 xs ys hlen hx st
/-- Choices are not empty. -/
theorem chos_ne {n : Nat} (hn : 1 ≤ n) (hn7 : n ≤ 7) {ps : List (Int × Int)} : ∀ l ∈ chosL n ps, l ≠ [] ∧ l.length ≤ 7 := by
  intro l hl
  unfold chosL at hl
  have := (sortL_perm lexLt _).mem_iff.1 hl
  unfold kerL at this
  obtain ⟨m, hm, rfl⟩ := List.mem_map.1 this
  obtain ⟨hmr, h2⟩ := List.mem_filter.1 hm
  rw [decide_eq_true_iff, jdg_zero] at h2
  rw [List.mem_range'_1] at hmr
  have h128 : 2 ^ n ≤ 128 := Nat.pow_le_pow_right (by omega) hn7
  refine ⟨fun e => ?_, memb_len m⟩
  have hz : ∀ x, x < 7 → m.testBit x = false := by
    intro x hx
    cases hb : m.testBit x
    · rfl
    · have : ((x : Nat) : Int) ∈ memb m := by
        unfold memb
        exact List.mem_map.2 ⟨x, List.mem_filter.2 ⟨List.mem_range.2 hx, hb⟩, rfl⟩
      rw [e] at this; simp at this
  have h0 := h2 0 (by omega)
  rw [hz 0 (by omega)] at h0
  simp only [Bool.false_eq_true, false_iff] at h0
  have hm0 : m = 0 := by
    apply Nat.eq_of_testBit_eq
    intro i
    rw [Nat.zero_testBit]
    by_cases hi : i < 7
    · exact hz i hi
    · exact Nat.testBit_lt_two_pow (Nat.lt_of_lt_of_le (show m < 2 ^ 7 by omega) (Nat.pow_le_pow_right (by omega) (by omega)))
  apply h0
  rw [hm0, Nat.and_zero]


/-! ### a list of lists that grows -/
def oAV (X : List (List Int)) : AV := loc 1 0 (X.map tAV)
theorem okRef_o (n : Nat) (X : List (List Int)) : okRef n (oAV X) = true := okRef_loc _ _ _ _
theorem fin_o (st : St) (X : List (List Int)) : fin st (oAV X) = sl 1 true (X.map tAV) := fin_loc st 1 0 _
theorem index_t (nl : Bool) (xs : List (List Int)) (i : Nat) (h : i < xs.length) : indexSAV 1 (sl 1 nl (xs.map tAV)) (.v (.int .i64 i)) = some (.eptr (tAV xs[i]) 0) := by
  rw [index_sl _ _ _ _ _ (by omega) (by simpa using h)]
  simp
attribute [local go_sem] shaped_t cells_t isAgg_t storable_t okRef_t pub_t okRef_o fin_o

attribute [local go_sem] shaped_t cells_t isAgg_t storable_t okRef_t pub_t

/-! ### the code and the reference say the same -/
theorem setL_memb {m : Nat} (hm : m < 128) : setL (memb m) = m := by
  have hr : ∀ x ∈ memb m, 0 ≤ x ∧ x < 7 := by
    intro x hx
    unfold memb at hx
    obtain ⟨i, hi, rfl⟩ := List.mem_map.1 hx
    have := List.mem_range.1 (List.mem_filter.1 hi).1
    omega
  apply Nat.eq_of_testBit_eq
  intro b
  rw [setL_bit hr, Bool.eq_iff_iff, decide_eq_true_iff]
  unfold memb
  rw [List.mem_map]
  constructor
  · rintro ⟨i, hi, he⟩
    have hib : i = b := by omega
    subst hib
    exact (List.mem_filter.1 hi).2
  · intro h
    exact ⟨b, List.mem_filter.2 ⟨List.mem_range.2 (bit_lt (n := 7) hm h), h⟩, rfl⟩

attribute [local go_sem high] and_one shr_u shl_one or_u and_u

/-! ### a list of sets that grows -/
def qA (X : List Nat) : AV := loc 1 1 (X.map U)
def qT (X : List Nat) : List Nat := locT 1 (X.map U)
def qAcc (X : List Nat) : List (Nat × Nat) := if (X.map U).length = 1 then [] else [(0, (X.map U).length)]
theorem okRef_q (n : Nat) (X : List Nat) : okRef n (qA X) = true := okRef_loc _ _ _ _
theorem ren1_qh (X : List Nat) (acc : List (Nat × Nat)) : ren1 (qT X).length (qT X) acc (qA X) = (qA X, acc) := by
  unfold qA qT loc locT
  split
  · rfl
  · simp [ren1]
theorem len_q (X : List Nat) : lenAV (qA X) = some (I X.length) := by unfold qA; rw [len_loc]; simp
theorem append_q (X : List Nat) (x : Nat) (S : List (List AV)) (h1 : 1 ≤ X.length) (h : X.length < 1000) : appendAV 1 (qA X) [U x] ⟨S, qT X⟩ = some (qA (X ++ [x]), ⟨S, qT (X ++ [x])⟩) :=
  append_locm (z := 1) (k := 1) U X x S (by omega) (by simp [maxGrow]; omega)
theorem index_q (X : List Nat) (i : Nat) (h : i < X.length) : indexSAV 1 (qA X) (.v (.int .i64 (i : Int))) = some (.eptr (U (X.getD i 0)) 0) := by
  unfold qA
  rw [index_loc _ _ _ _ _ (by omega) (by simp; omega)]
  simp [List.getD_eq_getElem?_getD, List.getElem?_eq_getElem h]

/-- The words that see one of a set, added to it. -/
def wide1 (w : List Nat) (now m x : Nat) : Nat := if w.getD x 0 &&& now = 0 then m else m ||| 2 ^ x
def wideL (w : List Nat) (now : Nat) (l : List Nat) (m : Nat) : Nat := l.foldl (wide1 w now) m

theorem loop32_0 (nl : Bool) (n : Nat) (hn : 1 ≤ n ∧ n ≤ 7) (ps : List (Int × Int)) (w : List Nat) (ho : w.length = 7) (hsm : ∀ x ∈ w, x < 128) (a : Int) (X : List Nat) (now : Nat) (hnow : now < 128) (th : Nat) (hth : th = (qT X).length) (x : Nat) (m : Nat) (hok : x ≤ n ∧ m < 128) (env : Env) (st : St)
    (hg : gcAV true 2 th (canon env [2, 8, 11, 12, 13, 72, 73, 74]) st = ([(2, I a), (8, .ptr 1 0), (11, qA X), (12, U now), (13, U m), (72, .rsl 1 1 n 7 1 false), (73, I n), (74, I x)], ⟨[bkCells nl (n : Int) ps, webC (n : Int) w], qT X⟩)) :
    ∃ x_1 en s, lim (headed pure (run L) true [2, 8, 11, 12, 13, 72, 73, 74] lp32_0 2 th) env st = some (x_1, en, s) ∧ (x_1 = .exit 4 ∧ en.get 2 = I a ∧ en.get 8 = .ptr 1 0 ∧ en.get 11 = qA X ∧ en.get 12 = U now ∧ en.get 13 = U (wideL w now (List.range' x (n - x)) m) ∧ s = ⟨[bkCells nl (n : Int) ps, webC (n : Int) w], qT X⟩ ∧ wideL w now (List.range' x (n - x)) m < 128) := by
  refine loop_wp (α := Nat × Nat) (fun ⟨x, m⟩ => n - x) (fun ⟨x, m⟩ => x ≤ n ∧ m < 128) (fun ⟨x, m⟩ => ([(2, I a), (8, .ptr 1 0), (11, qA X), (12, U now), (13, U m), (72, .rsl 1 1 n 7 1 false), (73, I n), (74, I x)], ⟨[bkCells nl (n : Int) ps, webC (n : Int) w], qT X⟩)) (fun ⟨x, m⟩ x_1 en s => x_1 = .exit 4 ∧ en.get 2 = I a ∧ en.get 8 = .ptr 1 0 ∧ en.get 11 = qA X ∧ en.get 12 = U now ∧ en.get 13 = U (wideL w now (List.range' x (n - x)) m) ∧ s = ⟨[bkCells nl (n : Int) ps, webC (n : Int) w], qT X⟩ ∧ wideL w now (List.range' x (n - x)) m < 128) (fun ⟨x, m⟩ hok => ?_) ⟨x, m⟩ hok env st hg
  simp only at hok
  subst hth
  obtain ⟨h1, h2⟩ := hok
  dsimp only at h1 h2 ⊢
  by_cases h : x < n
  · have hs := succ64 x (by omega)
    have hlt : ((x : Int) < (n : Int)) = True := eq_true (by omega)
    have hi0 : ((0 : Int) ≤ (x : Int)) = True := eq_true (by omega)
    have hr : List.range' x (n - x) = x :: List.range' (x + 1) (n - (x + 1)) := by
      rw [show n - x = (n - (x + 1)) + 1 by omega, List.range'_succ]
    have g1 := getW (n : Int) w x (by omega)
    have hlw := lenW (n : Int) w
    rw [ho] at hlw
    have b1 : (1 + x + 1 ≤ 8) = True := eq_true (by omega)
    have hand := andN_eq (w.getD x 0) now (small_getD hsm x) hnow
    have e1 : orU m (sh1 x) = m ||| 2 ^ x := by rw [(sh1_lt x (by omega)).1, orU_eq _ _ h2 (sh1_lt x (by omega)).2]
    have hlt2 : m ||| 2 ^ x < 128 := Nat.or_lt_two_pow (n := 7) h2 (sh1_lt x (by omega)).2
    have hw1 : wide1 w now m x = if w.getD x 0 &&& now = 0 then m else m ||| 2 ^ x := rfl
    have hwc : wideL w now (x :: List.range' (x + 1) (n - (x + 1))) m = wideL w now (List.range' (x + 1) (n - (x + 1))) (wide1 w now m x) := rfl
    rw [hr, hwc, hw1]
    generalize m ||| 2 ^ x = m2 at *
    generalize w.getD x 0 = v at *
    generalize v &&& now = c at *
    by_cases p : c = 0
    · have hc : ((c : Int) = 0) = True := eq_true (by omega)
      rw [if_pos p]
      simp only [go_sem, reduceIte, Nat.reduceEqDiff, Nat.reduceAdd, Nat.reduceSub, Nat.reduceLeDiff, Nat.reduceLT, reduceCtorEq, Int.reduceLT, Int.reduceLE, Int.reduceEq, Int.reduceBEq, Int.reduceSub, Int.reduceAdd, Int.reduceMul, Int.reduceNeg, Int.reduceToNat, Nat.reduceMul, Nat.reduceBEq, index_rsl_if, setm, make_ints, condK_dec, wantK_dec, not_dec, and_dec, or_dec, seqK_ite, seqK_none, blockK_ite, blockK_none, opsK_ite, opsK_none, stepK_ite, stepK_none, bodyK_ite, bodyK_none, resK_ite, resK_none, leaveK_ite, leaveK_none, only_ite, only_none, bind_ite, gives_some, gives_none, gives_ite, then_normal, then_ret, then_exit, then_none, then_ite, Option.bind_none, Bool.not_eq_true', decide_eq_false_iff_not, Bool.and_eq_true, Bool.or_eq_true, Option.some.injEq, Int.not_lt, Int.not_le, lp32_0, hlt, hi0, hs, g1, hlw, b1, hand, hc]
      refine ⟨(x + 1, m), by simp only [go_sem, reduceIte, Nat.reduceEqDiff, Nat.reduceAdd, Nat.reduceSub, Nat.reduceLeDiff, Nat.reduceLT, reduceCtorEq, Int.reduceLT, Int.reduceLE, Int.reduceEq, Int.reduceBEq, Int.reduceSub, Int.reduceAdd, Int.reduceMul, Int.reduceNeg, Int.reduceToNat, Nat.reduceMul, Nat.reduceBEq, ren1_locm, loc_tips, locT_eq, okRefsW, renCellsW, okRef_q, ren1_qh, List.take_length] <;> rfl, ?_, ?_, fun x en s hq => ?_⟩
      · dsimp only; exact ⟨by omega, h2⟩
      · dsimp only; omega
      · exact hq
    · have hc : ((c : Int) = 0) = False := eq_false (by omega)
      rw [if_neg p]
      simp only [go_sem, reduceIte, Nat.reduceEqDiff, Nat.reduceAdd, Nat.reduceSub, Nat.reduceLeDiff, Nat.reduceLT, reduceCtorEq, Int.reduceLT, Int.reduceLE, Int.reduceEq, Int.reduceBEq, Int.reduceSub, Int.reduceAdd, Int.reduceMul, Int.reduceNeg, Int.reduceToNat, Nat.reduceMul, Nat.reduceBEq, index_rsl_if, setm, make_ints, condK_dec, wantK_dec, not_dec, and_dec, or_dec, seqK_ite, seqK_none, blockK_ite, blockK_none, opsK_ite, opsK_none, stepK_ite, stepK_none, bodyK_ite, bodyK_none, resK_ite, resK_none, leaveK_ite, leaveK_none, only_ite, only_none, bind_ite, gives_some, gives_none, gives_ite, then_normal, then_ret, then_exit, then_none, then_ite, Option.bind_none, Bool.not_eq_true', decide_eq_false_iff_not, Bool.and_eq_true, Bool.or_eq_true, Option.some.injEq, Int.not_lt, Int.not_le, lp32_0, hlt, hi0, hs, g1, hlw, b1, hand, hc, e1]
      refine ⟨(x + 1, m2), by simp only [go_sem, reduceIte, Nat.reduceEqDiff, Nat.reduceAdd, Nat.reduceSub, Nat.reduceLeDiff, Nat.reduceLT, reduceCtorEq, Int.reduceLT, Int.reduceLE, Int.reduceEq, Int.reduceBEq, Int.reduceSub, Int.reduceAdd, Int.reduceMul, Int.reduceNeg, Int.reduceToNat, Nat.reduceMul, Nat.reduceBEq, ren1_locm, loc_tips, locT_eq, okRefsW, renCellsW, okRef_q, ren1_qh, List.take_length] <;> rfl, ?_, ?_, fun x en s hq => ?_⟩
      · dsimp only; exact ⟨by omega, hlt2⟩
      · dsimp only; omega
      · exact hq
  · have hr : n - x = 0 := by omega
    have hlt : ((x : Int) < (n : Int)) = False := eq_false (by omega)
    rw [hr]
    simp only [go_sem, reduceIte, Nat.reduceEqDiff, Nat.reduceAdd, Nat.reduceSub, Nat.reduceLeDiff, Nat.reduceLT, reduceCtorEq, Int.reduceLT, Int.reduceLE, Int.reduceEq, Int.reduceBEq, Int.reduceSub, Int.reduceAdd, Int.reduceMul, Int.reduceNeg, Int.reduceToNat, Nat.reduceMul, Nat.reduceBEq, index_rsl_if, setm, make_ints, condK_dec, wantK_dec, not_dec, and_dec, or_dec, seqK_ite, seqK_none, blockK_ite, blockK_none, opsK_ite, opsK_none, stepK_ite, stepK_none, bodyK_ite, bodyK_none, resK_ite, resK_none, leaveK_ite, leaveK_none, only_ite, only_none, bind_ite, gives_some, gives_none, gives_ite, then_normal, then_ret, then_exit, then_none, then_ite, Option.bind_none, Bool.not_eq_true', decide_eq_false_iff_not, Bool.and_eq_true, Bool.or_eq_true, Option.some.injEq, Int.not_lt, Int.not_le, lp32_0, hlt]
    exact ⟨rfl, h2⟩

/-! ### how wide it gets -/
def wideN (w : List Nat) (n now : Nat) : Nat := wideL w now (List.range' 0 n) now
theorem wide1_le (w : List Nat) (now m x : Nat) : m ≤ wide1 w now m x := by
  unfold wide1; split
  · exact Nat.le_refl _
  · exact Nat.left_le_or
theorem wideL_le (w : List Nat) (now : Nat) : ∀ (l : List Nat) (m : Nat), m ≤ wideL w now l m
  | [], m => Nat.le_refl _
  | x :: r, m => Nat.le_trans (wide1_le w now m x) (wideL_le w now r _)

attribute [local go_sem high] and_one shr_u shl_one or_u and_u
attribute [local go_sem] okRef_q len_q

theorem ren1_q (X : List Nat) : ren1 0 (qT X) [] (qA X) = (qA X, qAcc X) := ren1_loc (k := 1) 1 (X.map U)
theorem qAcc_snd (X : List Nat) : (qAcc X).map (fun x => x.2) = qT X := by
  unfold qAcc qT locT; split <;> rfl
/-- The last set. -/
def lastN (X : List Nat) : Nat := X.getD (X.length - 1) 0
theorem lastN_snoc (X : List Nat) (x : Nat) : lastN (X ++ [x]) = x := by
  unfold lastN
  rw [List.length_append, List.length_singleton, Nat.add_sub_cancel, List.getD_eq_getElem?_getD, List.getElem?_append_right (by omega)]
  simp
inductive Near (w : List Nat) (n a : Nat) : List Nat → Option (List Nat) → Prop
  | hit (X) : (lastN X).testBit a = true → Near w n a X (some X)
  | stop (X) : (lastN X).testBit a = false → wideN w n (lastN X) = lastN X → Near w n a X none
  | step (X r) : (lastN X).testBit a = false → wideN w n (lastN X) ≠ lastN X → Near w n a (X ++ [wideN w n (lastN X)]) r → Near w n a X r

theorem loop32_1 (nl : Bool) (n : Nat) (hn : 1 ≤ n ∧ n ≤ 7) (ps : List (Int × Int)) (w : List Nat) (ho : w.length = 7) (hsm : ∀ x ∈ w, x < 128) (a : Nat) (ha : a < 7) (X : List Nat) (hok : 1 ≤ X.length ∧ X.length + (128 - lastN X) ≤ 200 ∧ ∀ x ∈ X, x < 128) (env : Env) (st : St)
    (hg : gcAV true 2 0 (canon env [2, 8, 11]) st = ([(2, I a), (8, .ptr 1 0), (11, qA X)], ⟨[bkCells nl (n : Int) ps, webC (n : Int) w], qT X⟩)) :
    ∃ x_1 en s, lim (headed pure (run L) true [2, 8, 11] lp32_1 2 0) env st = some (x_1, en, s) ∧ (∃ r, Near w n a X r ∧ ((r = none ∧ x_1 = .ret ∧ en.get 6 = .v (.slice none 0 0) ∧ en.get 7 = I 12) ∨ ∃ Y, r = some Y ∧ x_1 = .exit 2 ∧ en.get 2 = I a ∧ en.get 8 = .ptr 1 0 ∧ en.get 11 = qA Y ∧ s = ⟨[bkCells nl (n : Int) ps, webC (n : Int) w], qT Y⟩ ∧ 1 ≤ Y.length ∧ Y.length ≤ 200 ∧ ∀ x ∈ Y, x < 128)) := by
  refine loop_wp (α := List Nat) (fun X => 128 - lastN X) (fun X => 1 ≤ X.length ∧ X.length + (128 - lastN X) ≤ 200 ∧ ∀ x ∈ X, x < 128) (fun X => ([(2, I a), (8, .ptr 1 0), (11, qA X)], ⟨[bkCells nl (n : Int) ps, webC (n : Int) w], qT X⟩)) (fun X x_1 en s => ∃ r, Near w n a X r ∧ ((r = none ∧ x_1 = .ret ∧ en.get 6 = .v (.slice none 0 0) ∧ en.get 7 = I 12) ∨ ∃ Y, r = some Y ∧ x_1 = .exit 2 ∧ en.get 2 = I a ∧ en.get 8 = .ptr 1 0 ∧ en.get 11 = qA Y ∧ s = ⟨[bkCells nl (n : Int) ps, webC (n : Int) w], qT Y⟩ ∧ 1 ≤ Y.length ∧ Y.length ≤ 200 ∧ ∀ x ∈ Y, x < 128)) (fun X hok => ?_) X hok env st hg
  obtain ⟨h1, h2, h3⟩ := hok
  have hx := index_q X (X.length - 1) (by omega)
  have hl1 : IntKind.i64.wrap ((X.length : Int) - 1) = ((X.length - 1 : Nat) : Int) := by rw [wrap64] <;> omega
  have hlast : X.getD (X.length - 1) 0 = lastN X := rfl
  have hm : lastN X < 128 := small_getD h3 _
  have hb := bit_zero (lastN X) a
  have hmk := min64 a (by omega)
  rw [hlast] at hx
  cases hbit : (lastN X).testBit a
  · rw [hbit] at hb
    have hwd : wideN w n (lastN X) = wideL w (lastN X) (List.range' 0 n) (lastN X) := rfl
    have hwle := wideL_le w (lastN X) (List.range' 0 n) (lastN X)
    have hsl : sliceaAV 7 1 false (.ptr 1 1) none (some (.v (.int .i64 (n : Int)))) none = some (.rsl 1 1 n 7 1 false) := by
      simp only [sliceaAV, natOr, natOf]
      simp; omega
    have g0 := getW0 (n : Int) w
    have hlw := lenW (n : Int) w
    rw [ho] at hlw
    have hns : wideN w n (lastN X) = lastN X → Near w n a X none := fun e => .stop X hbit e
    have hst : wideN w n (lastN X) ≠ lastN X → ∀ r, Near w n a (X ++ [wideN w n (lastN X)]) r → Near w n a X r := fun e r => .step X r hbit e
    simp only [go_sem, reduceIte, Nat.reduceEqDiff, Nat.reduceAdd, Nat.reduceSub, Nat.reduceLeDiff, Nat.reduceLT, reduceCtorEq, Int.reduceLT, Int.reduceLE, Int.reduceEq, Int.reduceBEq, Int.reduceSub, Int.reduceAdd, Int.reduceMul, Int.reduceNeg, Int.reduceToNat, Nat.reduceMul, Nat.reduceBEq, index_rsl_if, setm, make_ints, condK_dec, wantK_dec, not_dec, and_dec, or_dec, seqK_ite, seqK_none, blockK_ite, blockK_none, opsK_ite, opsK_none, stepK_ite, stepK_none, bodyK_ite, bodyK_none, resK_ite, resK_none, leaveK_ite, leaveK_none, only_ite, only_none, bind_ite, gives_some, gives_none, gives_ite, then_normal, then_ret, then_exit, then_none, then_ite, Option.bind_none, Bool.not_eq_true', decide_eq_false_iff_not, Bool.and_eq_true, Bool.or_eq_true, Option.some.injEq, Int.not_lt, Int.not_le, lp32_1, hx, hl1, hb, hmk, hsl, g0, hlw]
    generalize hg : lim (headed pure (run L) true _ lp32_0 _ _) _ _ = o
    obtain ⟨x, en, s, rfl, h2⟩ : ∃ x en s, o = some (x, en, s) ∧ _ := by rw [← hg]; exact loop32_0 nl n hn ps w ho hsm (a : Int) X (lastN X) hm (qT X).length rfl 0 (lastN X) ⟨by omega, hm⟩ _ _ (by simp only [go_sem, reduceIte, Nat.reduceEqDiff, Nat.reduceAdd, Nat.reduceSub, Nat.reduceLeDiff, Nat.reduceLT, reduceCtorEq, Int.reduceLT, Int.reduceLE, Int.reduceEq, Int.reduceBEq, Int.reduceSub, Int.reduceAdd, Int.reduceMul, Int.reduceNeg, Int.reduceToNat, Nat.reduceMul, Nat.reduceBEq, okRefsW, renCellsW, okRef_q, ren1_qh, List.take_length, Int.natCast_zero] <;> rfl)
    clear hg
    rw [Nat.sub_zero, ← hwd] at h2
    obtain ⟨rfl, e2, e8, e11, e12, e13, rfl, hlt⟩ := h2
    rw [← hwd] at hwle
    have happ := fun S => append_q X (wideN w n (lastN X)) S h1 (by omega)
    have hln := lastN_snoc X (wideN w n (lastN X))
    generalize wideN w n (lastN X) = q at *
    generalize lastN X = m at *
    by_cases p : q = m
    · have p' : ((q : Int) = (m : Int)) = True := eq_true (by omega)
      simp only [go_sem, reduceIte, Nat.reduceEqDiff, Nat.reduceAdd, Nat.reduceSub, Nat.reduceLeDiff, Nat.reduceLT, reduceCtorEq, Int.reduceLT, Int.reduceLE, Int.reduceEq, Int.reduceBEq, Int.reduceSub, Int.reduceAdd, Int.reduceMul, Int.reduceNeg, Int.reduceToNat, Nat.reduceMul, Nat.reduceBEq, index_rsl_if, setm, make_ints, condK_dec, wantK_dec, not_dec, and_dec, or_dec, seqK_ite, seqK_none, blockK_ite, blockK_none, opsK_ite, opsK_none, stepK_ite, stepK_none, bodyK_ite, bodyK_none, resK_ite, resK_none, leaveK_ite, leaveK_none, only_ite, only_none, bind_ite, gives_some, gives_none, gives_ite, then_normal, then_ret, then_exit, then_none, then_ite, Option.bind_none, Bool.not_eq_true', decide_eq_false_iff_not, Bool.and_eq_true, Bool.or_eq_true, Option.some.injEq, Int.not_lt, Int.not_le, lp32_1, e2, e8, e11, e12, e13, p']
      exact ⟨none, hns p, by simp⟩
    · have p' : ((q : Int) = (m : Int)) = False := eq_false (by omega)
      simp only [go_sem, reduceIte, Nat.reduceEqDiff, Nat.reduceAdd, Nat.reduceSub, Nat.reduceLeDiff, Nat.reduceLT, reduceCtorEq, Int.reduceLT, Int.reduceLE, Int.reduceEq, Int.reduceBEq, Int.reduceSub, Int.reduceAdd, Int.reduceMul, Int.reduceNeg, Int.reduceToNat, Nat.reduceMul, Nat.reduceBEq, index_rsl_if, setm, make_ints, condK_dec, wantK_dec, not_dec, and_dec, or_dec, seqK_ite, seqK_none, blockK_ite, blockK_none, opsK_ite, opsK_none, stepK_ite, stepK_none, bodyK_ite, bodyK_none, resK_ite, resK_none, leaveK_ite, leaveK_none, only_ite, only_none, bind_ite, gives_some, gives_none, gives_ite, then_normal, then_ret, then_exit, then_none, then_ite, Option.bind_none, Bool.not_eq_true', decide_eq_false_iff_not, Bool.and_eq_true, Bool.or_eq_true, Option.some.injEq, Int.not_lt, Int.not_le, lp32_1, e2, e8, e11, e12, e13, p', happ]
      refine ⟨X ++ [q], by simp only [go_sem, reduceIte, Nat.reduceEqDiff, Nat.reduceAdd, Nat.reduceSub, Nat.reduceLeDiff, Nat.reduceLT, reduceCtorEq, Int.reduceLT, Int.reduceLE, Int.reduceEq, Int.reduceBEq, Int.reduceSub, Int.reduceAdd, Int.reduceMul, Int.reduceNeg, Int.reduceToNat, Nat.reduceMul, Nat.reduceBEq, ren1_locm, loc_tips, locT_eq, e2, e8, e11, e12, e13, okRefsW, renCellsW, okRef_q, ren1_q, qAcc_snd] <;> rfl, ?_, ?_, fun x en s hq => ?_⟩
      · refine ⟨by simp, by rw [hln, List.length_append, List.length_singleton]; omega, fun x hx => ?_⟩
        rcases List.mem_append.1 hx with hx | hx
        · exact h3 x hx
        · simp at hx; omega
      · rw [hln]; omega
      · obtain ⟨r, hr, hq2⟩ := hq
        exact ⟨r, hst p r hr, hq2⟩
  · rw [hbit] at hb
    have hh : Near w n a X (some X) := .hit X hbit
    simp only [go_sem, reduceIte, Nat.reduceEqDiff, Nat.reduceAdd, Nat.reduceSub, Nat.reduceLeDiff, Nat.reduceLT, reduceCtorEq, Int.reduceLT, Int.reduceLE, Int.reduceEq, Int.reduceBEq, Int.reduceSub, Int.reduceAdd, Int.reduceMul, Int.reduceNeg, Int.reduceToNat, Nat.reduceMul, Nat.reduceBEq, index_rsl_if, setm, make_ints, condK_dec, wantK_dec, not_dec, and_dec, or_dec, seqK_ite, seqK_none, blockK_ite, blockK_none, opsK_ite, opsK_none, stepK_ite, stepK_none, bodyK_ite, bodyK_none, resK_ite, resK_none, leaveK_ite, leaveK_none, only_ite, only_none, bind_ite, gives_some, gives_none, gives_ite, then_normal, then_ret, then_exit, then_none, then_ite, Option.bind_none, Bool.not_eq_true', decide_eq_false_iff_not, Bool.and_eq_true, Bool.or_eq_true, Option.some.injEq, Int.not_lt, Int.not_le, lp32_1, hx, hl1, hb, hmk]
    exact ⟨some X, hh, by simp; exact ⟨h1, by omega, h3⟩⟩

attribute [local go_sem high] and_one shr_u shl_one or_u and_u
attribute [local go_sem] okRef_q len_q

/-! ### the way, above the sets -/
def pA (X : List Nat) (o : List Int) : AV := if o.length = 1 then .lst .full 1 (o.map I) else .lst (.own (qT X).length o.length) 1 (o.map I)
def pT (o : List Int) : List Nat := if o.length = 1 then [] else [o.length]
def pAcc (X : List Nat) (o : List Int) : List (Nat × Nat) := if o.length = 1 then [] else [((qT X).length, o.length)]
theorem okRef_p (n : Nat) (X : List Nat) (o : List Int) : okRef n (pA X o) = true := by unfold pA; split <;> rfl
theorem fin_p (st : St) (X : List Nat) (o : List Int) (h : o ≠ []) : fin st (pA X o) = sl 1 true (o.map I) := by
  unfold pA
  rw [sl_ne (by simpa using h)]
  split <;> rfl
theorem ren1_p (X : List Nat) (o : List Int) : ren1 (qT X).length (qT X ++ pT o) [] (pA X o) = (pA X o, pAcc X o) := by
  unfold pA pT pAcc
  by_cases h : o.length = 1
  · simp [h, ren1]
  · simp [h, ren1]
theorem ren1_qp (X : List Nat) (o : List Int) (acc : List (Nat × Nat)) : ren1 (qT X).length (qT X ++ pT o) acc (qA X) = (qA X, acc) := by
  unfold qA qT loc locT
  split
  · rfl
  · simp [ren1]
theorem pAcc_snd (X : List Nat) (o : List Int) : (pAcc X o).map (fun x => x.2) = pT o := by
  unfold pAcc pT; split <;> rfl
theorem take_qT (X : List Nat) (o : List Int) : (qT X ++ pT o).take (qT X).length = qT X := List.take_left
theorem append_p (X : List Nat) (o : List Int) (x : Int) (S : List (List AV)) (h1 : 1 ≤ o.length) (h : o.length < 1000) : appendAV 1 (pA X o) [I x] ⟨S, qT X ++ pT o⟩ = some (pA X (o ++ [x]), ⟨S, qT X ++ pT (o ++ [x])⟩) := by
  have h2 : o.length + 1 ≤ maxGrow := by unfold maxGrow; omega
  unfold pA pT
  by_cases h0 : o.length = 1
  · simp [h0, appendAV, maxGrow]
  · have h3 : o.length + 1 ≠ 1 := by omega
    have h6 : o ≠ [] := by intro e; subst e; simp at h1
    simp [h0, appendAV, h2, h6]

/-- From word to word: each time the first one that is in the set before. -/
def wayL (w : List Nat) (X : List Nat) : Nat → Nat → List Int → List Int
  | 0, _, o => o
  | j + 1, a, o => wayL w X j (tzN (w.getD a 0 &&& X.getD j 0)) (o ++ [((tzN (w.getD a 0 &&& X.getD j 0) : Nat) : Int)])
/-- On the way there is always a next word. -/
def wayOk (w : List Nat) (X : List Nat) : Nat → Nat → Prop
  | 0, _ => True
  | j + 1, a => w.getD a 0 &&& X.getD j 0 ≠ 0 ∧ wayOk w X j (tzN (w.getD a 0 &&& X.getD j 0))

theorem loop32_2 (nl : Bool) (n : Nat) (hn : 1 ≤ n ∧ n ≤ 7) (ps : List (Int × Int)) (w : List Nat) (ho : w.length = 7) (hsm : ∀ x ∈ w, x < 128) (X : List Nat) (hX : X.length ≤ 200) (hX2 : ∀ x ∈ X, x < 128) (th : Nat) (hth : th = (qT X).length) (j : Nat) (a : Nat) (o : List Int) (hok : j ≤ X.length ∧ a < 7 ∧ wayOk w X j a ∧ 1 ≤ o.length ∧ o.length + j ≤ 400) (env : Env) (st : St)
    (hg : gcAV true 2 th (canon env [2, 8, 11, 16, 17]) st = ([(2, I a), (8, .ptr 1 0), (11, qA X), (16, pA X o), (17, I ((j : Int) - 1))], ⟨[bkCells nl (n : Int) ps, webC (n : Int) w], qT X ++ pT o⟩)) :
    ∃ x_1 en s, lim (headed pure (run L) true [2, 8, 11, 16, 17] lp32_2 2 th) env st = some (x_1, en, s) ∧ (x_1 = .exit 6 ∧ en.get 16 = pA X (wayL w X j a o)) := by
  refine loop_wp (α := Nat × Nat × List Int) (fun ⟨j, a, o⟩ => j) (fun ⟨j, a, o⟩ => j ≤ X.length ∧ a < 7 ∧ wayOk w X j a ∧ 1 ≤ o.length ∧ o.length + j ≤ 400) (fun ⟨j, a, o⟩ => ([(2, I a), (8, .ptr 1 0), (11, qA X), (16, pA X o), (17, I ((j : Int) - 1))], ⟨[bkCells nl (n : Int) ps, webC (n : Int) w], qT X ++ pT o⟩)) (fun ⟨j, a, o⟩ x_1 en s => x_1 = .exit 6 ∧ en.get 16 = pA X (wayL w X j a o)) (fun ⟨j, a, o⟩ hok => ?_) ⟨j, a, o⟩ hok env st hg
  simp only at hok
  subst hth
  obtain ⟨h1, h2, h3, h4, h5⟩ := hok
  dsimp only at h1 h2 h3 h4 h5 ⊢
  cases j with
  | zero =>
    have hge : ((0 : Int) ≤ ((0 : Nat) : Int) - 1) = False := eq_false (by omega)
    simp only [go_sem, reduceIte, Nat.reduceEqDiff, Nat.reduceAdd, Nat.reduceSub, Nat.reduceLeDiff, Nat.reduceLT, reduceCtorEq, Int.reduceLT, Int.reduceLE, Int.reduceEq, Int.reduceBEq, Int.reduceSub, Int.reduceAdd, Int.reduceMul, Int.reduceNeg, Int.reduceToNat, Nat.reduceMul, Nat.reduceBEq, index_rsl_if, setm, make_ints, condK_dec, wantK_dec, not_dec, and_dec, or_dec, seqK_ite, seqK_none, blockK_ite, blockK_none, opsK_ite, opsK_none, stepK_ite, stepK_none, bodyK_ite, bodyK_none, resK_ite, resK_none, leaveK_ite, leaveK_none, only_ite, only_none, bind_ite, gives_some, gives_none, gives_ite, then_normal, then_ret, then_exit, then_none, then_ite, Option.bind_none, Bool.not_eq_true', decide_eq_false_iff_not, Bool.and_eq_true, Bool.or_eq_true, Option.some.injEq, Int.not_lt, Int.not_le, lp32_2, hge]
    rfl
  | succ j =>
    have e0 : (((j + 1 : Nat) : Int) - 1) = (j : Int) := by omega
    rw [e0]
    have hge : ((0 : Int) ≤ (j : Int)) = True := eq_true (by omega)
    have hw : IntKind.i64.wrap ((j : Int) - 1) = (j : Int) - 1 := by rw [wrap64] <;> omega
    have hx := index_q X j (by omega)
    have g1 := getW (n : Int) w a (by omega)
    have hlw := lenW (n : Int) w
    rw [ho] at hlw
    have b1 : ((0 : Int) ≤ (a : Int)) = True := eq_true (by omega)
    have b2 : ((a : Int) < 7) = True := eq_true (by omega)
    have b5 : (1 + a + 1 ≤ 8) = True := eq_true (by omega)
    have hsa := small_getD hsm a
    have hsx := small_getD hX2 j
    have hand := andN_eq (w.getD a 0) (X.getD j 0) hsa hsx
    have hlt : w.getD a 0 &&& X.getD j 0 < 128 := Nat.lt_of_le_of_lt Nat.and_le_left hsa
    have hwl : wayL w X (j + 1) a o = wayL w X j (tzN (w.getD a 0 &&& X.getD j 0)) (o ++ [((tzN (w.getD a 0 &&& X.getD j 0) : Nat) : Int)]) := rfl
    obtain ⟨h6, h7⟩ := h3
    rw [hwl]
    generalize w.getD a 0 = v at *
    generalize X.getD j 0 = u at *
    generalize v &&& u = c at *
    have h52 := fun st => c52 c hlt st
    obtain ⟨t1, t2⟩ := tz_spec hlt h6
    generalize tzN c = t at *
    have happ := fun S => append_p X o (t : Int) S h4 (by omega)
    simp only [go_sem, reduceIte, Nat.reduceEqDiff, Nat.reduceAdd, Nat.reduceSub, Nat.reduceLeDiff, Nat.reduceLT, reduceCtorEq, Int.reduceLT, Int.reduceLE, Int.reduceEq, Int.reduceBEq, Int.reduceSub, Int.reduceAdd, Int.reduceMul, Int.reduceNeg, Int.reduceToNat, Nat.reduceMul, Nat.reduceBEq, index_rsl_if, setm, make_ints, condK_dec, wantK_dec, not_dec, and_dec, or_dec, seqK_ite, seqK_none, blockK_ite, blockK_none, opsK_ite, opsK_none, stepK_ite, stepK_none, bodyK_ite, bodyK_none, resK_ite, resK_none, leaveK_ite, leaveK_none, only_ite, only_none, bind_ite, gives_some, gives_none, gives_ite, then_normal, then_ret, then_exit, then_none, then_ite, Option.bind_none, Bool.not_eq_true', decide_eq_false_iff_not, Bool.and_eq_true, Bool.or_eq_true, Option.some.injEq, Int.not_lt, Int.not_le, lp32_2, hge, hw, hx, g1, hlw, b1, b2, b5, hand, h52, happ]
    refine ⟨(j, t, o ++ [(t : Int)]), by simp only [go_sem, reduceIte, Nat.reduceEqDiff, Nat.reduceAdd, Nat.reduceSub, Nat.reduceLeDiff, Nat.reduceLT, reduceCtorEq, Int.reduceLT, Int.reduceLE, Int.reduceEq, Int.reduceBEq, Int.reduceSub, Int.reduceAdd, Int.reduceMul, Int.reduceNeg, Int.reduceToNat, Nat.reduceMul, Nat.reduceBEq, ren1_locm, loc_tips, locT_eq, okRefsW, renCellsW, okRef_q, okRef_p, ren1_qp, ren1_p, pAcc_snd, take_qT] <;> rfl, ?_, ?_, fun x en s hq => ?_⟩
    · dsimp only; exact ⟨by omega, t1, h7, by simp, by simp; omega⟩
    · dsimp only; omega
    · exact hq


theorem wideL_bit (w : List Nat) (now : Nat) (b : Nat) : ∀ (l : List Nat) (m : Nat), (wideL w now l m).testBit b = (m.testBit b || (decide (b ∈ l) && decide (w.getD b 0 &&& now ≠ 0)))
  | [], m => by simp [wideL]
  | x :: r, m => by
    have hc : wideL w now (x :: r) m = wideL w now r (wide1 w now m x) := rfl
    rw [hc, wideL_bit w now b r]
    unfold wide1
    by_cases p : w.getD x 0 &&& now = 0
    · rw [if_pos p]
      by_cases e : b = x
      · subst e
        have hq : decide (w.getD b 0 &&& now ≠ 0) = false := decide_eq_false (fun h => h p)
        rw [hq]; simp
      · generalize decide (w.getD b 0 &&& now ≠ 0) = q
        simp [e]
    · rw [if_neg p, Nat.testBit_or, Nat.testBit_two_pow]
      by_cases e : b = x
      · subst e
        have hq : decide (w.getD b 0 &&& now ≠ 0) = true := decide_eq_true p
        rw [hq]; simp
      · generalize decide (w.getD b 0 &&& now ≠ 0) = q
        simp [e, Ne.symm e]
theorem wideN_bit {w : List Nat} {n b : Nat} (hb : b < n) (now : Nat) : (wideN w n now).testBit b = (now.testBit b || decide (w.getD b 0 &&& now ≠ 0)) := by
  unfold wideN
  rw [wideL_bit]
  have : b ∈ List.range' 0 n := by rw [List.mem_range'_1]; omega
  simp [this]
/-- Each set is the one before it, made wide. -/
def Grows (w : List Nat) (n : Nat) (X : List Nat) : Prop := ∀ j, j + 1 < X.length → X.getD (j + 1) 0 = wideN w n (X.getD j 0)
theorem grows_snoc {w : List Nat} {n : Nat} {X : List Nat} (h : Grows w n X) (h1 : 1 ≤ X.length) : Grows w n (X ++ [wideN w n (lastN X)]) := by
  intro j hj
  rw [List.length_append, List.length_singleton] at hj
  by_cases h2 : j + 1 < X.length
  · have := h j h2
    rw [List.getD_eq_getElem?_getD, List.getElem?_append_left h2, ← List.getD_eq_getElem?_getD, List.getD_eq_getElem?_getD (l := X ++ _), List.getElem?_append_left (by omega), ← List.getD_eq_getElem?_getD]
    exact this
  · have e : j = X.length - 1 := by omega
    subst e
    rw [List.getD_eq_getElem?_getD, List.getElem?_append_right (by omega), List.getD_eq_getElem?_getD, List.getElem?_append_left (by omega), ← List.getD_eq_getElem?_getD]
    rw [show X.length - 1 + 1 - X.length = 0 by omega]
    rfl
/-- What is known of the sets that are found. -/
theorem near_ok {w : List Nat} {n a : Nat} {X : List Nat} {r : Option (List Nat)} (h : Near w n a X r) : ∀ Y, r = some Y → Grows w n X → 1 ≤ X.length → (∀ j, j + 1 < X.length → (X.getD j 0).testBit a = false) → Grows w n Y ∧ 1 ≤ Y.length ∧ (lastN Y).testBit a = true ∧ ∀ j, j + 1 < Y.length → (Y.getD j 0).testBit a = false := by
  induction h with
  | hit X hb => intro Y e hg h1 h2; cases e; exact ⟨hg, h1, hb, h2⟩
  | stop X _ _ => intro Y e; simp at e
  | step X r hb hne hn ih =>
    intro Y e hg h1 h2
    refine ih Y e (grows_snoc hg h1) (by simp) (fun j hj => ?_)
    rw [List.length_append, List.length_singleton] at hj
    rw [List.getD_eq_getElem?_getD, List.getElem?_append_left (by omega), ← List.getD_eq_getElem?_getD]
    by_cases h3 : j + 1 < X.length
    · exact h2 j h3
    · have e3 : j = X.length - 1 := by omega
      rw [e3]; exact hb


theorem way_ok {w Y : List Nat} {n : Nat} (hg : Grows w n Y) (hsm : ∀ x ∈ w, x < 128) (hwn : ∀ a b, (w.getD a 0).testBit b = true → b < n) : ∀ (j a : Nat), j < Y.length → a < n → (Y.getD j 0).testBit a = true → (∀ i, i + 1 = j → (Y.getD i 0).testBit a = false) → wayOk w Y j a
  | 0, _, _, _, _, _ => trivial
  | j + 1, a, hj, ha, hb, hn => by
    have h0 := hn j rfl
    have hgj := hg j hj
    rw [hgj, wideN_bit ha, h0, Bool.false_or, decide_eq_true_iff] at hb
    have hlt : w.getD a 0 &&& Y.getD j 0 < 128 := Nat.lt_of_le_of_lt Nat.and_le_left (small_getD hsm a)
    obtain ⟨t1, t2⟩ := tz_spec hlt hb
    refine ⟨hb, ?_⟩
    rw [Nat.testBit_and, Bool.and_eq_true] at t2
    have htn := hwn a _ t2.1
    refine way_ok hg hsm hwn j _ (by omega) htn t2.2 (fun i hi => ?_)
    cases e : (Y.getD i 0).testBit (tzN (w.getD a 0 &&& Y.getD j 0))
    · rfl
    · have hgi := hg i (by omega)
      rw [hi] at hgi
      have : (Y.getD j 0).testBit a = true := by
        rw [hgi, wideN_bit ha, Bool.or_eq_true]
        right
        rw [decide_eq_true_iff]
        intro hz
        exact (and_zero _ _).1 hz _ ⟨t2.1, e⟩
      rw [h0] at this; simp at this

attribute [local go_sem high] and_one shr_u shl_one or_u and_u
attribute [local go_sem] okRef_q len_q okRef_p

/-- What Way answers. -/
def WayR (n : Int) (ps : List (Int × Int)) (l : List Int) (a : Int) (V : List Int) (e : Int) : Prop :=
  if chk n ps = 0 then
    if l.length = 0 then V = [] ∧ e = 4
    else if setErr n (-1) l = 0 then
      if a < 0 ∨ n ≤ a then V = [] ∧ e = 2
      else ∃ r, Near (seeL 7 ps) n.toNat a.toNat [setL l] r ∧ ((r = none ∧ V = [] ∧ e = 12) ∨ ∃ Y, r = some Y ∧ e = 0 ∧ V = wayL (seeL 7 ps) Y (Y.length - 1) a.toNat [a])
    else V = [] ∧ e = setErr n (-1) l
  else V = [] ∧ e = chk n ps
theorem seeL_in {z n : Nat} (hz : 7 ≤ z) {ps : List (Int × Int)} (hps : ∀ p ∈ ps, goodP (n : Int) p) (h7 : ∀ p ∈ ps, okP p) (a b : Nat) (h : ((seeL z ps).getD a 0).testBit b = true) : b < n := by
  rw [seeL_bit hz h7, decide_eq_true_iff] at h
  have := (hps _ h).2.2.2.1
  simp only at this; omega
theorem wayL_ne (w X : List Nat) : ∀ (j a : Nat) (o : List Int), o ≠ [] → wayL w X j a o ≠ []
  | 0, _, _, h => h
  | j + 1, _, o, _ => wayL_ne w X j _ _ (by simp)
set_option maxHeartbeats 1000000 in
theorem c32e (nl n2 : Bool) (n : Int) (ps : List (Int × Int)) (l : List Int) (hlen : l.length < 1000000) (a : Int) :
    ∃ V e, WayR n ps l a V e ∧ run L 32 [bkAV nl n ps, sl 1 n2 (l.map I), I a] ⟨[], []⟩ = some (.tup [sl 1 true (V.map I), I e], ⟨[], []⟩) := by
  rw [run_pure (fn := ir32) rfl rfl]
  have h65 := fun st => c65 nl n ps st
  unfold WayR
  by_cases h : chk n ps = 0
  · obtain ⟨h1, hl16, h3, h4, h5⟩ := chk_zero h
    obtain ⟨k, rfl⟩ := Int.eq_ofNat_of_zero_le (show 0 ≤ n by omega)
    have hw : wovL (k : Int) ps = seeL 7 ps := by unfold wovL; rw [if_pos h]
    rw [hw] at h65
    simp only [if_pos h]
    have hlw := lenW (k : Int) (seeL 7 ps)
    rw [seeL_len] at hlw
    have hpw := putW (k : Int) (seeL 7 ps) (seeL_len 7 ps)
    have htkw : (webC (k : Int) (seeL 7 ps)).take 8 = webC (k : Int) (seeL 7 ps) := List.take_of_length_le (by omega)
    have g0 := getW0 (k : Int) (seeL 7 ps)
    have h72 := fun st => (c72 n2 (k : Int) h1 l hlen (seeL 7 ps) (seeL_len 7 ps) st).1
    have h72b := (c72 n2 (k : Int) h1 l hlen (seeL 7 ps) (seeL_len 7 ps) ⟨[], []⟩).2
    by_cases p0 : l.length = 0
    · have q0 : ((l.length : Int) = 0) = True := eq_true (by omega)
      simp only [if_pos p0]
      refine ⟨[], 4, ⟨rfl, rfl⟩, ?_⟩
      simp only [ir32, go_sem, reduceIte, Nat.reduceEqDiff, Nat.reduceAdd, Nat.reduceSub, Nat.reduceLeDiff, Nat.reduceLT, reduceCtorEq, Int.reduceLT, Int.reduceLE, Int.reduceEq, Int.reduceBEq, Int.reduceSub, Int.reduceAdd, Int.reduceMul, Int.reduceNeg, Int.reduceToNat, Nat.reduceMul, Nat.reduceBEq, h65, h, hlw, hpw, htkw, pubsW, storableW, q0, List.length_map]
      rfl
    · have q0 : ((l.length : Int) = 0) = False := eq_false (by omega)
      simp only [if_neg p0]
      by_cases p : setErr (k : Int) (-1) l = 0
      · have hm : setL l < 128 := setL_lt (fun x hx => by have := h72b p x hx; omega)
        simp only [if_pos p] at h72 ⊢
        by_cases p1 : a < 0
        · simp only [if_pos (Or.inl p1 : a < 0 ∨ (k : Int) ≤ a)]
          refine ⟨[], 2, ⟨rfl, rfl⟩, ?_⟩
          simp only [ir32, go_sem, reduceIte, Nat.reduceEqDiff, Nat.reduceAdd, Nat.reduceSub, Nat.reduceLeDiff, Nat.reduceLT, reduceCtorEq, Int.reduceLT, Int.reduceLE, Int.reduceEq, Int.reduceBEq, Int.reduceSub, Int.reduceAdd, Int.reduceMul, Int.reduceNeg, Int.reduceToNat, Nat.reduceMul, Nat.reduceBEq, h65, h, hlw, hpw, htkw, g0, pubsW, storableW, q0, h72, p, p1, List.length_map]
          rfl
        · by_cases p2 : (k : Int) ≤ a
          · simp only [if_pos (Or.inr p2 : a < 0 ∨ (k : Int) ≤ a)]
            refine ⟨[], 2, ⟨rfl, rfl⟩, ?_⟩
            simp only [ir32, go_sem, reduceIte, Nat.reduceEqDiff, Nat.reduceAdd, Nat.reduceSub, Nat.reduceLeDiff, Nat.reduceLT, reduceCtorEq, Int.reduceLT, Int.reduceLE, Int.reduceEq, Int.reduceBEq, Int.reduceSub, Int.reduceAdd, Int.reduceMul, Int.reduceNeg, Int.reduceToNat, Nat.reduceMul, Nat.reduceBEq, h65, h, hlw, hpw, htkw, g0, pubsW, storableW, q0, h72, p, p1, p2, List.length_map]
            rfl
          · obtain ⟨b, rfl⟩ := Int.eq_ofNat_of_zero_le (show 0 ≤ a by omega)
            simp only [if_neg (show ¬((b : Int) < 0 ∨ (k : Int) ≤ (b : Int)) by omega), Int.toNat_natCast]
            have p1' : ((b : Int) < 0) = False := eq_false p1
            have p2' : ((k : Int) ≤ (b : Int)) = False := eq_false p2
            have eq1 : qA [setL l] = .lst .full 1 [U (setL l)] := rfl
            have eq2 : qT [setL l] = [] := rfl
            simp only [ir32, go_sem, reduceIte, Nat.reduceEqDiff, Nat.reduceAdd, Nat.reduceSub, Nat.reduceLeDiff, Nat.reduceLT, reduceCtorEq, Int.reduceLT, Int.reduceLE, Int.reduceEq, Int.reduceBEq, Int.reduceSub, Int.reduceAdd, Int.reduceMul, Int.reduceNeg, Int.reduceToNat, Nat.reduceMul, Nat.reduceBEq, h65, h, hlw, hpw, htkw, g0, pubsW, storableW, q0, h72, p, p1', p2', List.length_map]
            generalize hg : lim (headed pure (run L) true _ lp32_1 _ _) _ _ = o
            obtain ⟨x, en, s, rfl, h2⟩ : ∃ x en s, o = some (x, en, s) ∧ _ := by rw [← hg]; exact loop32_1 nl k (by omega) ps (seeL 7 ps) (seeL_len 7 ps) (seeL_small 7 h4) b (by omega) [setL l] ⟨by simp, by simp [lastN]; omega, by simpa using hm⟩ _ _ (by simp only [go_sem, reduceIte, Nat.reduceEqDiff, Nat.reduceAdd, Nat.reduceSub, Nat.reduceLeDiff, Nat.reduceLT, reduceCtorEq, Int.reduceLT, Int.reduceLE, Int.reduceEq, Int.reduceBEq, Int.reduceSub, Int.reduceAdd, Int.reduceMul, Int.reduceNeg, Int.reduceToNat, Nat.reduceMul, Nat.reduceBEq, okRefsW, renCellsW, eq1, eq2] <;> rfl)
            clear hg
            obtain ⟨r, hN, h2⟩ := h2
            rcases h2 with ⟨rfl, rfl, e6, e7⟩ | ⟨Y, rfl, rfl, e2, e8, e11, rfl, y1, y2, y3⟩
            · refine ⟨[], 12, ⟨none, hN, .inl ⟨rfl, rfl, rfl⟩⟩, ?_⟩
              simp only [go_sem, reduceIte, Nat.reduceEqDiff, Nat.reduceAdd, Nat.reduceSub, Nat.reduceLeDiff, Nat.reduceLT, reduceCtorEq, Int.reduceLT, Int.reduceLE, Int.reduceEq, Int.reduceBEq, Int.reduceSub, Int.reduceAdd, Int.reduceMul, Int.reduceNeg, Int.reduceToNat, Nat.reduceMul, Nat.reduceBEq, e6, e7]
              rfl
            · refine ⟨_, 0, ⟨some Y, hN, .inr ⟨Y, rfl, rfl, rfl⟩⟩, ?_⟩
              obtain ⟨gr, _, gl, gn⟩ := near_ok hN Y rfl (fun j hj => by simp at hj) (by simp) (fun j hj => by simp at hj)
              have hok := way_ok gr (seeL_small 7 h4) (seeL_in (Nat.le_refl 7) (fun p hp => h3 p hp) h4) (Y.length - 1) b (by omega) (by omega) gl (fun i hi => gn i (by omega))
              have hl2 : IntKind.i64.wrap ((Y.length : Int) - 2) = ((Y.length - 1 : Nat) : Int) - 1 := by rw [wrap64] <;> omega
              have ep1 : pA Y [(b : Int)] = .lst .full 1 [I (b : Int)] := rfl
              have ep2 : qT Y ++ pT [(b : Int)] = qT Y := by simp [pT]
              have hne := wayL_ne (seeL 7 ps) Y (Y.length - 1) b [(b : Int)] (by simp)
              simp only [go_sem, reduceIte, Nat.reduceEqDiff, Nat.reduceAdd, Nat.reduceSub, Nat.reduceLeDiff, Nat.reduceLT, reduceCtorEq, Int.reduceLT, Int.reduceLE, Int.reduceEq, Int.reduceBEq, Int.reduceSub, Int.reduceAdd, Int.reduceMul, Int.reduceNeg, Int.reduceToNat, Nat.reduceMul, Nat.reduceBEq, e2, e8, e11, hl2]
              generalize hg : lim (headed pure (run L) true _ lp32_2 _ _) _ _ = o
              obtain ⟨x, en, s, rfl, h2⟩ : ∃ x en s, o = some (x, en, s) ∧ _ := by rw [← hg]; exact loop32_2 nl k (by omega) ps (seeL 7 ps) (seeL_len 7 ps) (seeL_small 7 h4) Y y2 y3 (qT Y).length rfl (Y.length - 1) b [(b : Int)] ⟨by omega, by omega, hok, by simp, by simp; omega⟩ _ _ (by simp only [go_sem, reduceIte, Nat.reduceEqDiff, Nat.reduceAdd, Nat.reduceSub, Nat.reduceLeDiff, Nat.reduceLT, reduceCtorEq, Int.reduceLT, Int.reduceLE, Int.reduceEq, Int.reduceBEq, Int.reduceSub, Int.reduceAdd, Int.reduceMul, Int.reduceNeg, Int.reduceToNat, Nat.reduceMul, Nat.reduceBEq, okRefsW, renCellsW, okRef_q, okRef_p, ren1_qh, ep1, ep2, List.take_length, e2, e8, e11] <;> rfl)
              clear hg
              obtain ⟨rfl, e16⟩ := h2
              simp only [go_sem, reduceIte, Nat.reduceEqDiff, Nat.reduceAdd, Nat.reduceSub, Nat.reduceLeDiff, Nat.reduceLT, reduceCtorEq, Int.reduceLT, Int.reduceLE, Int.reduceEq, Int.reduceBEq, Int.reduceSub, Int.reduceAdd, Int.reduceMul, Int.reduceNeg, Int.reduceToNat, Nat.reduceMul, Nat.reduceBEq, e16, fin_p _ _ _ hne]
      · simp only [if_neg p] at h72 ⊢
        refine ⟨[], _, ⟨rfl, rfl⟩, ?_⟩
        simp only [ir32, go_sem, reduceIte, Nat.reduceEqDiff, Nat.reduceAdd, Nat.reduceSub, Nat.reduceLeDiff, Nat.reduceLT, reduceCtorEq, Int.reduceLT, Int.reduceLE, Int.reduceEq, Int.reduceBEq, Int.reduceSub, Int.reduceAdd, Int.reduceMul, Int.reduceNeg, Int.reduceToNat, Nat.reduceMul, Nat.reduceBEq, h65, h, hlw, hpw, htkw, pubsW, storableW, q0, h72, p, List.length_map]
        rfl
  · simp only [if_neg h]
    refine ⟨[], _, ⟨rfl, rfl⟩, ?_⟩
    have hl7 : (wovL n ps).length = 7 := by unfold wovL; rw [if_neg h]; simp
    have hlw := lenW n (wovL n ps)
    rw [hl7] at hlw
    have hpw := putW n (wovL n ps) hl7
    simp only [ir32, go_sem, reduceIte, Nat.reduceEqDiff, Nat.reduceAdd, Nat.reduceSub, Nat.reduceLeDiff, Nat.reduceLT, reduceCtorEq, Int.reduceLT, Int.reduceLE, Int.reduceEq, Int.reduceBEq, Int.reduceSub, Int.reduceAdd, Int.reduceMul, Int.reduceNeg, Int.reduceToNat, Nat.reduceMul, Nat.reduceBEq, h65, h, hlw, hpw, pubsW, storableW]
    rfl
theorem c32 (nl n2 : Bool) (n : Int) (ps : List (Int × Int)) (l : List Int) (hlen : l.length < 1000000) (a : Int) :
    ∃ V e, WayR n ps l a V e ∧ ∀ st, run L 32 [bkAV nl n ps, sl 1 n2 (l.map I), I a] st = some (.tup [sl 1 true (V.map I), I e], st) := by
  obtain ⟨V, e, h1, h2⟩ := c32e nl n2 n ps l hlen a
  exact ⟨V, e, h1, fun st => run_any' (fn := ir32) rfl rfl h2 st⟩


/-! ### how far each word has to go, without the program -/
/-- The words with so many steps to go, or fewer. -/
def nk (w : List Nat) (n g : Nat) : Nat → Nat
  | 0 => g
  | k + 1 => wideN w n (nk w n g k)
theorem nk_succ {w : List Nat} {n g k x : Nat} (hx : x < n) : (nk w n g (k + 1)).testBit x = true ↔ (nk w n g k).testBit x = true ∨ ∃ y, (w.getD x 0).testBit y = true ∧ (nk w n g k).testBit y = true := by
  show (wideN w n (nk w n g k)).testBit x = true ↔ _
  rw [wideN_bit hx, Bool.or_eq_true, decide_eq_true_iff]
  refine or_congr Iff.rfl ⟨fun h => ?_, fun ⟨y, h1, h2⟩ h => (and_zero _ _).1 h y ⟨h1, h2⟩⟩
  rcases Classical.em (∃ y, (w.getD x 0).testBit y = true ∧ (nk w n g k).testBit y = true) with h2 | h2
  · exact h2
  · exact absurd ((and_zero _ _).2 fun y hy => h2 ⟨y, hy⟩) h
theorem nk_up {w : List Nat} {n g : Nat} {x : Nat} (hx : x < n) {k : Nat} : ∀ d, (nk w n g k).testBit x = true → (nk w n g (k + d)).testBit x = true
  | 0, h => h
  | d + 1, h => (nk_succ hx).2 (.inl (nk_up hx d h))
theorem nk_mono {w : List Nat} {n g x k k' : Nat} (hx : x < n) (hk : k ≤ k') (h : (nk w n g k).testBit x = true) : (nk w n g k').testBit x = true := by
  have := nk_up hx (k' - k) h
  rwa [show k + (k' - k) = k' by omega] at this
/-- If one step brings nothing, nothing does. -/
theorem nk_stop {w : List Nat} {n g k : Nat} (h : nk w n g (k + 1) = nk w n g k) : ∀ d, nk w n g (k + d) = nk w n g k
  | 0 => rfl
  | d + 1 => by
    show wideN w n (nk w n g (k + d)) = _
    rw [nk_stop h d]; exact h
def cardN (n m : Nat) : Nat := ((List.range n).filter m.testBit).length
theorem cardN_le (n m : Nat) : cardN n m ≤ n := by
  have := List.length_filter_le m.testBit (List.range n)
  simpa [cardN] using this
theorem wide_same {w : List Nat} {n m : Nat} (h : ∀ x, x < n → (wideN w n m).testBit x = true → m.testBit x = true) : wideN w n m = m := by
  apply Nat.eq_of_testBit_eq
  intro i
  by_cases hi : i < n
  · cases e : (wideN w n m).testBit i
    · cases e2 : m.testBit i
      · rfl
      · rw [wideN_bit hi, e2] at e; simp at e
    · exact (h i hi e).symm
  · unfold wideN
    rw [wideL_bit]
    have : i ∉ List.range' 0 n := by rw [List.mem_range'_1]; omega
    simp [this]
theorem nk_card {w : List Nat} {n g : Nat} : ∀ k, (∃ j, j < k ∧ nk w n g (j + 1) = nk w n g j) ∨ k ≤ cardN n (nk w n g k)
  | 0 => .inr (Nat.zero_le _)
  | k + 1 => by
    rcases nk_card (w := w) (n := n) (g := g) k with ⟨j, h1, h2⟩ | h
    · exact .inl ⟨j, by omega, h2⟩
    · by_cases he : nk w n g (k + 1) = nk w n g k
      · exact .inl ⟨k, by omega, he⟩
      · right
        have : ∃ x, x < n ∧ (nk w n g (k + 1)).testBit x = true ∧ (nk w n g k).testBit x = false := by
          rcases Classical.em (∃ x, x < n ∧ (nk w n g (k + 1)).testBit x = true ∧ (nk w n g k).testBit x = false) with h3 | h3
          · exact h3
          · exact absurd (wide_same fun x hx hb => by
              cases e : (nk w n g k).testBit x
              · exact absurd ⟨x, hx, hb, e⟩ h3
              · rfl) he
        obtain ⟨x, hx, h1, h2⟩ := this
        have := filter_len_lt (p := (nk w n g k).testBit) (q := (nk w n g (k + 1)).testBit) (List.range n) (fun y hy hb => (nk_succ (List.mem_range.1 hy)).2 (.inl hb)) ⟨x, List.mem_range.2 hx, h1, h2⟩
        unfold cardN at *; omega
/-- After so many steps as there are words, and one, nothing is added. -/
theorem nk_end {w : List Nat} {n g x k : Nat} (hx : x < n) (h : (nk w n g k).testBit x = true) : (nk w n g n).testBit x = true := by
  rcases nk_card (w := w) (n := n) (g := g) (n + 1) with ⟨j, h1, h2⟩ | h1
  · have hs := nk_stop h2
    by_cases hk : k ≤ n
    · exact nk_mono hx hk h
    · have e1 := hs (k - j)
      have e2 := hs (n - j)
      rw [show j + (k - j) = k by omega] at e1
      rw [show j + (n - j) = n by omega] at e2
      rw [e2, ← e1]; exact h
  · have := cardN_le n (nk w n g (n + 1)); omega

/-! ### the law's numbers -/
theorem getD_set (F : List Nat) (x v z : Nat) (hx : x < F.length) : (F.set x v).getD z 0 = if z = x then v else F.getD z 0 := by
  split
  · next h => subst h; rw [List.getD_eq_getElem?_getD, List.getElem?_set_self hx]; rfl
  · next h => rw [List.getD_eq_getElem?_getD, List.getElem?_set_ne (Ne.symm h), ← List.getD_eq_getElem?_getD]
def rel1 (x : Nat) (F : List Nat) (y : Nat) : List Nat := F.set x (min (F.getD x 0) (F.getD y 0 + 1))
def bitsL (m : Nat) : List Nat := (List.range 7).filter m.testBit
def relX (w : List Nat) (F : List Nat) (x : Nat) : List Nat := (bitsL (w.getD x 0)).foldl (rel1 x) F
def relR (w : List Nat) (n : Nat) (F : List Nat) : List Nat := (List.range' 0 n).foldl (relX w) F
def relN (w : List Nat) (n : Nat) : Nat → List Nat → List Nat
  | 0, F => F
  | k + 1, F => relN w n k (relR w n F)
structure Far (w : List Nat) (n g : Nat) (F : List Nat) : Prop where
  len : F.length = 8
  le : ∀ x, x < 8 → F.getD x 0 ≤ 9
  ok : ∀ x, x < n → F.getD x 0 = 9 ∨ (nk w n g (F.getD x 0)).testBit x = true
theorem rel1_far {w : List Nat} {n g : Nat} {F : List Nat} (h : Far w n g F) {x y : Nat} (hx : x < n) (hn : n ≤ 7) (hy : y < n) (hb : (w.getD x 0).testBit y = true) : Far w n g (rel1 x F y) ∧ (∀ z, (rel1 x F y).getD z 0 ≤ F.getD z 0) ∧ (rel1 x F y).getD x 0 ≤ F.getD y 0 + 1 := by
  have hl := h.len
  have hg := fun v z => getD_set F x v z (by omega)
  have h1 := h.le x (by omega)
  unfold rel1
  refine ⟨⟨by simp [hl], fun z hz => ?_, fun z hz => ?_⟩, fun z => ?_, ?_⟩
  · rw [hg]; split
    · omega
    · exact h.le z hz
  · rw [hg]; split
    · next e =>
      subst e
      rcases Nat.le_total (F.getD z 0) (F.getD y 0 + 1) with h2 | h2
      · rw [Nat.min_eq_left h2]; exact h.ok z hz
      · rw [Nat.min_eq_right h2]
        rcases h.ok y hy with h3 | h3
        · left; omega
        · right; exact (nk_succ hz).2 (.inr ⟨y, hb, h3⟩)
    · exact h.ok z hz
  · rw [hg]; split
    · next e => subst e; exact Nat.min_le_left _ _
    · exact Nat.le_refl _
  · rw [hg, if_pos rfl]; exact Nat.min_le_right _ _
theorem fold_far {w : List Nat} {n g : Nat} {x : Nat} (hx : x < n) (hn : n ≤ 7) : ∀ (l : List Nat) (F : List Nat), Far w n g F → (∀ y ∈ l, y < n ∧ (w.getD x 0).testBit y = true) → Far w n g (l.foldl (rel1 x) F) ∧ (∀ z, (l.foldl (rel1 x) F).getD z 0 ≤ F.getD z 0) ∧ ∀ y ∈ l, (l.foldl (rel1 x) F).getD x 0 ≤ F.getD y 0 + 1
  | [], F, h, _ => ⟨h, fun _ => Nat.le_refl _, by simp⟩
  | y :: r, F, h, hl => by
    have hy := hl y (by simp)
    obtain ⟨a1, a2, a3⟩ := rel1_far h hx hn hy.1 hy.2
    obtain ⟨b1, b2, b3⟩ := fold_far hx hn r _ a1 (fun z hz => hl z (by simp [hz]))
    rw [List.foldl_cons]
    refine ⟨b1, fun z => Nat.le_trans (b2 z) (a2 z), fun z hz => ?_⟩
    rcases List.mem_cons.1 hz with rfl | hz
    · exact Nat.le_trans (b2 x) a3
    · exact Nat.le_trans (b3 z hz) (Nat.succ_le_succ (a2 z))
theorem round_far {w : List Nat} {n g : Nat} (hn : n ≤ 7) (hwn : ∀ a b, (w.getD a 0).testBit b = true → b < n) : ∀ (l : List Nat) (F : List Nat), Far w n g F → (∀ x ∈ l, x < n) → Far w n g (l.foldl (relX w) F) ∧ (∀ z, (l.foldl (relX w) F).getD z 0 ≤ F.getD z 0) ∧ ∀ x ∈ l, ∀ y, (w.getD x 0).testBit y = true → (l.foldl (relX w) F).getD x 0 ≤ F.getD y 0 + 1
  | [], F, h, _ => ⟨h, fun _ => Nat.le_refl _, by simp⟩
  | x :: r, F, h, hl => by
    have hx := hl x (by simp)
    obtain ⟨a1, a2, a3⟩ := fold_far hx hn (bitsL (w.getD x 0)) F h (fun y hy => by
      have hb := (List.mem_filter.1 hy).2
      exact ⟨hwn x y hb, hb⟩)
    obtain ⟨b1, b2, b3⟩ := round_far hn hwn r _ a1 (fun z hz => hl z (by simp [hz]))
    rw [List.foldl_cons]
    refine ⟨b1, fun z => Nat.le_trans (b2 z) (a2 z), fun z hz y hy => ?_⟩
    rcases List.mem_cons.1 hz with rfl | hz
    · exact Nat.le_trans (b2 z) (a3 y (List.mem_filter.2 ⟨List.mem_range.2 (by have := hwn z y hy; omega), hy⟩))
    · exact Nat.le_trans (b3 z hz y hy) (Nat.succ_le_succ (a2 y))
def FarTo (w : List Nat) (n g r : Nat) (F : List Nat) : Prop := Far w n g F ∧ ∀ k, k ≤ r → ∀ x, x < n → (nk w n g k).testBit x = true → F.getD x 0 ≤ k
theorem relN_far {w : List Nat} {n g : Nat} (hn : n ≤ 7) (hwn : ∀ a b, (w.getD a 0).testBit b = true → b < n) : ∀ (k r : Nat) (F : List Nat), FarTo w n g r F → FarTo w n g (r + k) (relN w n k F)
  | 0, _, _, h => h
  | k + 1, r, F, h => by
    have h2 := round_far (g := g) hn hwn (List.range' 0 n) F h.1 (fun x hx => by rw [List.mem_range'_1] at hx; omega)
    have := relN_far hn hwn k (r + 1) (relR w n F) ⟨h2.1, fun k hk x hx hb => by
      by_cases e : k ≤ r
      · exact Nat.le_trans (h2.2.1 x) (h.2 k e x hx hb)
      · obtain rfl : k = r + 1 := by omega
        rcases (nk_succ hx).1 hb with hb | ⟨y, h3, h4⟩
        · have := Nat.le_trans (h2.2.1 x) (h.2 r (Nat.le_refl _) x hx hb); unfold relR; omega
        · have h5 := h.2 r (Nat.le_refl _) y (hwn x y h3) h4
          have h6 := h2.2.2 x (by rw [List.mem_range'_1]; omega) y h3
          unfold relR; omega⟩
    rw [show r + (k + 1) = r + 1 + k by omega]
    exact this
/-- What the numbers are in the end: 9 if there is no way, and else how many steps. -/
theorem far_end {w : List Nat} {n g : Nat} {F : List Nat} (hn : n ≤ 7) (h : FarTo w n g n F) {x : Nat} (hx : x < n) :
    (F.getD x 0 = 9 ∧ ∀ k, (nk w n g k).testBit x = false) ∨ (F.getD x 0 ≤ n ∧ (nk w n g (F.getD x 0)).testBit x = true ∧ ∀ k, k < F.getD x 0 → (nk w n g k).testBit x = false) := by
  rcases Classical.em (∃ k, (nk w n g k).testBit x = true) with ⟨k, hk⟩ | hno
  · right
    have h1 := h.2 n (Nat.le_refl _) x hx (nk_end hx hk)
    refine ⟨h1, ?_, fun j hj => ?_⟩
    · rcases h.1.ok x hx with h2 | h2
      · omega
      · exact h2
    · cases e : (nk w n g j).testBit x
      · rfl
      · have := h.2 j (by omega) x hx e; omega
  · left
    have hf : ∀ k, (nk w n g k).testBit x = false := fun k => by
      cases e : (nk w n g k).testBit x
      · rfl
      · exact absurd ⟨k, e⟩ hno
    refine ⟨?_, hf⟩
    rcases h.1.ok x hx with h2 | h2
    · exact h2
    · rw [hf] at h2; simp at h2


/-- A list of sets is the first ones of these. -/
def Nks (w : List Nat) (n g : Nat) (X : List Nat) : Prop := 1 ≤ X.length ∧ ∀ j, j < X.length → X.getD j 0 = nk w n g j
theorem nks_one (w : List Nat) (n g : Nat) : Nks w n g [g] := ⟨by simp, fun j hj => by
  obtain rfl : j = 0 := by simp at hj; omega
  rfl⟩
theorem nks_last {w : List Nat} {n g : Nat} {X : List Nat} (h : Nks w n g X) : lastN X = nk w n g (X.length - 1) := h.2 _ (by have := h.1; omega)
theorem nks_snoc {w : List Nat} {n g : Nat} {X : List Nat} (h : Nks w n g X) : Nks w n g (X ++ [wideN w n (lastN X)]) := by
  refine ⟨by simp, fun j hj => ?_⟩
  rw [List.length_append, List.length_singleton] at hj
  by_cases h2 : j < X.length
  · rw [List.getD_eq_getElem?_getD, List.getElem?_append_left h2, ← List.getD_eq_getElem?_getD]; exact h.2 j h2
  · obtain rfl : j = X.length := by omega
    rw [List.getD_eq_getElem?_getD, List.getElem?_append_right (by omega), Nat.sub_self, nks_last h]
    have h1 := h.1
    show wideN w n (nk w n g (X.length - 1)) = nk w n g X.length
    rw [show X.length = X.length - 1 + 1 by omega]; rfl
theorem near_nks {w : List Nat} {n a : Nat} {X : List Nat} {r : Option (List Nat)} (h : Near w n a X r) {g : Nat} : Nks w n g X →
    (r = none → ∀ k, (nk w n g k).testBit a = false) ∧ ∀ Y, r = some Y → Nks w n g Y := by
  induction h with
  | hit X hb => intro hX; exact ⟨by simp, fun Y e => by cases e; exact hX⟩
  | stop X hb he =>
    intro hX
    rw [nks_last hX] at hb he
    refine ⟨fun _ k => ?_, by simp⟩
    have hs := nk_stop (k := X.length - 1) (w := w) (n := n) (g := g) he
    by_cases hk : k ≤ X.length - 1
    · cases e : (nk w n g k).testBit a
      · rfl
      · have : ∀ d, (nk w n g (k + d)).testBit a = true := by
          intro d
          induction d with
          | zero => exact e
          | succ d ih =>
            show (wideN w n (nk w n g (k + d))).testBit a = true
            unfold wideN; rw [wideL_bit, ih]; rfl
        have := this (X.length - 1 - k)
        rw [show k + (X.length - 1 - k) = X.length - 1 by omega, hb] at this; simp at this
    · have := hs (k - (X.length - 1))
      rw [show X.length - 1 + (k - (X.length - 1)) = k by omega] at this
      rw [this]; exact hb
  | step X r hb hne hn ih => intro hX; exact ih (nks_snoc hX)

/-! ### the law's way -/
def nxtF (w F : List Nat) (a : Nat) : Nat := ((bitsL (w.getD a 0)).find? fun y => F.getD y 0 == F.getD a 0 - 1).getD a
def goF (w F : List Nat) : Nat → Nat → List Int → List Int
  | 0, _, o => o
  | j + 1, a, o => goF w F j (nxtF w F a) (o ++ [((nxtF w F a : Nat) : Int)])
theorem find_filter {α : Type} (p q : α → Bool) : ∀ l : List α, (l.filter p).find? q = l.find? fun x => p x && q x
  | [] => rfl
  | a :: l => by
    cases h : p a
    · rw [List.filter_cons_of_neg (by simp [h]), List.find?_cons_of_neg (by simp [h])]; exact find_filter p q l
    · rw [List.filter_cons_of_pos h]
      cases h2 : q a
      · rw [List.find?_cons_of_neg (by simp [h2]), List.find?_cons_of_neg (by simp [h2])]; exact find_filter p q l
      · rw [List.find?_cons_of_pos h2, List.find?_cons_of_pos (by simp [h, h2])]
theorem find_congr {α : Type} {p q : α → Bool} : ∀ l : List α, (∀ x ∈ l, p x = q x) → l.find? p = l.find? q
  | [], _ => rfl
  | a :: l, h => by
    have h1 := h a (by simp)
    have h2 := find_congr l (fun x hx => h x (by simp [hx]))
    cases e : p a
    · rw [List.find?_cons_of_neg (by simp [e]), List.find?_cons_of_neg (by simp [← h1, e])]; exact h2
    · rw [List.find?_cons_of_pos e, List.find?_cons_of_pos (by rw [← h1]; exact e)]
/-- The first word with one step fewer to go. -/
theorem nxt_eq {w : List Nat} {n g : Nat} {F Y : List Nat} (hn : n ≤ 7) (hsm : ∀ x ∈ w, x < 128) (hwn : ∀ a b, (w.getD a 0).testBit b = true → b < n) (hF : FarTo w n g n F) (hY : Nks w n g Y) {a j : Nat} (ha : a < n) (hj : j + 1 < Y.length) (hFa : F.getD a 0 = j + 1) (hnz : w.getD a 0 &&& Y.getD j 0 ≠ 0) :
    nxtF w F a = tzN (w.getD a 0 &&& Y.getD j 0) ∧ F.getD (nxtF w F a) 0 = j ∧ nxtF w F a < n := by
  have hlt : w.getD a 0 &&& Y.getD j 0 < 128 := Nat.lt_of_le_of_lt Nat.and_le_left (small_getD hsm a)
  obtain ⟨t1, t2⟩ := tz_spec hlt hnz
  have hYj := hY.2 j (by omega)
  have hno : ∀ k, k < j + 1 → (nk w n g k).testBit a = false := fun k hk => by
    rcases far_end hn hF ha with ⟨_, h2⟩ | ⟨_, _, h2⟩
    · exact h2 k
    · exact h2 k (by omega)
  have key : ∀ y, y < 7 → (w.getD a 0).testBit y = true → ((F.getD y 0 == j) = (nk w n g j).testBit y) := by
    intro y _ hb
    have hyn := hwn a y hb
    have hge : ∀ k, (nk w n g k).testBit y = true → j ≤ k := by
      intro k hk
      rcases Nat.lt_or_ge k j with h | h
      · have := hno (k + 1) (by omega)
        have h2 := (nk_succ (w := w) (n := n) (g := g) (k := k) ha).2 (.inr ⟨y, hb, hk⟩)
        rw [this] at h2; simp at h2
      · exact h
    rw [Bool.eq_iff_iff, beq_iff_eq]
    rcases far_end hn hF hyn with ⟨h1, h2⟩ | ⟨h1, h2, h3⟩
    · rw [h2, h1]
      refine ⟨fun h => ?_, fun h => by simp at h⟩
      subst h
      rcases far_end hn hF ha with ⟨h4, _⟩ | ⟨h4, _, _⟩ <;> omega
    · constructor
      · intro h; rw [← h]; exact h2
      · intro h
        have := hge _ h2
        rcases Nat.lt_or_ge j (F.getD y 0) with h4 | h4
        · rw [h3 j h4] at h; simp at h
        · omega
  have e : nxtF w F a = tzN (w.getD a 0 &&& Y.getD j 0) := by
    unfold nxtF bitsL
    rw [find_filter, hFa, Nat.add_sub_cancel]
    have : (List.range 7).find? (fun x => (w.getD a 0).testBit x && (F.getD x 0 == j)) = (List.range 7).find? (w.getD a 0 &&& Y.getD j 0).testBit := by
      refine find_congr _ fun x hx => ?_
      rw [List.mem_range] at hx
      rw [Nat.testBit_and, hYj]
      cases hb : (w.getD a 0).testBit x
      · simp
      · rw [key x hx hb]
    rw [this]
    unfold tzN
    cases hf : (List.range 7).find? (w.getD a 0 &&& Y.getD j 0).testBit with
    | some x => rfl
    | none =>
      exfalso
      rw [List.find?_eq_none] at hf
      exact hf _ (List.mem_range.2 t1) t2
  refine ⟨e, ?_, ?_⟩
  · rw [e]
    rw [Nat.testBit_and, Bool.and_eq_true] at t2
    have := key _ t1 t2.1
    rw [← hYj, t2.2, beq_iff_eq] at this
    exact this
  · rw [e]
    rw [Nat.testBit_and, Bool.and_eq_true] at t2
    exact hwn a _ t2.1
theorem go_eq {w : List Nat} {n g : Nat} {F Y : List Nat} (hn : n ≤ 7) (hsm : ∀ x ∈ w, x < 128) (hwn : ∀ a b, (w.getD a 0).testBit b = true → b < n) (hF : FarTo w n g n F) (hY : Nks w n g Y) : ∀ (j a : Nat) (o : List Int), a < n → j < Y.length → F.getD a 0 = j → wayOk w Y j a → goF w F j a o = wayL w Y j a o
  | 0, _, _, _, _, _, _ => rfl
  | j + 1, a, o, ha, hj, hFa, hok => by
    obtain ⟨e1, e2, e3⟩ := nxt_eq hn hsm hwn hF hY ha hj hFa hok.1
    show goF w F j (nxtF w F a) (o ++ [((nxtF w F a : Nat) : Int)]) = wayL w Y j (tzN (w.getD a 0 &&& Y.getD j 0)) (o ++ [((tzN (w.getD a 0 &&& Y.getD j 0) : Nat) : Int)])
    rw [go_eq hn hsm hwn hF hY j _ _ e3 (by omega) e2 (by rw [e1]; exact hok.2), e1]
theorem wayL_len (w X : List Nat) : ∀ (j a : Nat) (o : List Int), (wayL w X j a o).length = o.length + j
  | 0, _, _ => rfl
  | j + 1, _, o => by
    show (wayL w X j _ _).length = _
    rw [wayL_len w X j]; simp; omega
/-- The number of a word that has a way is one less than the sets that are made. -/
theorem far_near {w : List Nat} {n g a : Nat} {F : List Nat} {r : Option (List Nat)} (hn : n ≤ 7) (hF : FarTo w n g n F) (ha : a < n) (h : Near w n a [g] r) :
    (r = none ∧ F.getD a 0 = 9) ∨ ∃ Y, r = some Y ∧ Nks w n g Y ∧ F.getD a 0 + 1 = Y.length ∧ F.getD a 0 ≤ n := by
  have h1 := near_nks h (nks_one w n g)
  cases r with
  | none =>
    left
    refine ⟨rfl, ?_⟩
    rcases far_end hn hF ha with ⟨h2, _⟩ | ⟨_, h2, _⟩
    · exact h2
    · rw [h1.1 rfl] at h2; simp at h2
  | some Y =>
    right
    have hY := h1.2 Y rfl
    obtain ⟨_, hY1, gl, gn⟩ := near_ok h Y rfl (fun j hj => by simp at hj) (by simp) (fun j hj => by simp at hj)
    rw [nks_last hY] at gl
    refine ⟨Y, rfl, hY, ?_⟩
    rcases far_end hn hF ha with ⟨_, h2⟩ | ⟨h3, h2, h4⟩
    · rw [h2] at gl; simp at gl
    · refine ⟨?_, h3⟩
      have a1 : ¬ F.getD a 0 < Y.length - 1 := fun hlt => by
        have := gn _ (show F.getD a 0 + 1 < Y.length by omega)
        rw [hY.2 _ (by omega), h2] at this; simp at this
      have a2 : ¬ Y.length - 1 < F.getD a 0 := fun hlt => by
        rw [h4 _ hlt] at gl; simp at gl
      omega
theorem nxt_ok {w : List Nat} {n g : Nat} {F : List Nat} (hn : n ≤ 7) (hsm : ∀ x ∈ w, x < 128) (hwn : ∀ a b, (w.getD a 0).testBit b = true → b < n) (hF : FarTo w n g n F) {a j : Nat} (ha : a < n) (hj : j < 8) (hFa : F.getD a 0 = j + 1) : F.getD (nxtF w F a) 0 = j ∧ nxtF w F a < n := by
  have hY : Nks w n g ((List.range 9).map (nk w n g)) := ⟨by simp, fun k hk => by
    rw [List.length_map, List.length_range] at hk
    rw [List.getD_eq_getElem?_getD, List.getElem?_map, List.getElem?_range hk]; rfl⟩
  have hnz : w.getD a 0 &&& ((List.range 9).map (nk w n g)).getD j 0 ≠ 0 := by
    rw [hY.2 j (by simp; omega)]
    rcases far_end hn hF ha with ⟨h1, _⟩ | ⟨_, h2, h3⟩
    · omega
    · rw [hFa] at h2 h3
      rcases (nk_succ ha).1 h2 with h4 | ⟨y, h4, h5⟩
      · rw [h3 j (by omega)] at h4; simp at h4
      · exact fun hz => (and_zero _ _).1 hz y ⟨h4, h5⟩
  exact (nxt_eq hn hsm hwn hF hY ha (by simp; omega) hFa hnz).2

attribute [local go_sem] shaped_t cells_t isAgg_t storable_t okRef_t pub_t

theorem memb_J (m : Nat) : (memb m).map I = (bitsL m).map J := by simp [memb, bitsL, List.map_map, Function.comp]
theorem index_J (nl : Bool) (l : List Nat) (i : Nat) (h : i < l.length) : indexSAV 1 (sl 1 nl (l.map J)) (.v (.int .i64 (i : Int))) = some (.eptr (J l[i]) 0) := by
  have := index_sl 1 nl (l.map J) .i64 (i : Int) (by omega) (by simpa using h)
  simpa using this
theorem J9 : (List.replicate 8 9).map J = [I 9, I 9, I 9, I 9, I 9, I 9, I 9, I 9] := rfl
def zeroF (F : List Nat) (x : Nat) : List Nat := F.set x 0

theorem loop12_0 (zs : List Int) (n : Nat) (ps : List (Int × Int)) (w : List Nat) (a : Int) (V : List Int) (e : Int) (G : List Nat) (hG : ∀ x ∈ G, x < 8) (hGl : G.length ≤ 7) (i : Nat) (F : List Nat) (hok : i ≤ G.length ∧ F.length = 8) (env : Env) (st : St)
    (hg : gcAV true 4 0 (canon env [7, 8, 9, 11, 12, 13, 14, 61, 62, 63]) st = ([(7, .ptr 1 0), (8, I n), (9, .ptr 2 0), (11, I a), (12, sl 1 true (V.map I)), (13, I e), (14, .ptr 3 0), (61, sl 1 true (G.map J)), (62, I G.length), (63, I i)], ⟨[zs.map B8, bkCells true (n : Int) ps, w.map J, F.map J], []⟩)) :
    ∃ x_1 en s, lim (headed pure (run L) true [7, 8, 9, 11, 12, 13, 14, 61, 62, 63] lp12_0 4 0) env st = some (x_1, en, s) ∧ (x_1 = .exit 0 ∧ en.get 7 = .ptr 1 0 ∧ en.get 8 = I n ∧ en.get 9 = .ptr 2 0 ∧ en.get 11 = I a ∧ en.get 12 = sl 1 true (V.map I) ∧ en.get 13 = I e ∧ en.get 14 = .ptr 3 0 ∧ s = ⟨[zs.map B8, bkCells true (n : Int) ps, w.map J, ((G.drop i).foldl zeroF F).map J], []⟩) := by
  refine loop_wp (α := Nat × List Nat) (fun ⟨i, F⟩ => G.length - i) (fun ⟨i, F⟩ => i ≤ G.length ∧ F.length = 8) (fun ⟨i, F⟩ => ([(7, .ptr 1 0), (8, I n), (9, .ptr 2 0), (11, I a), (12, sl 1 true (V.map I)), (13, I e), (14, .ptr 3 0), (61, sl 1 true (G.map J)), (62, I G.length), (63, I i)], ⟨[zs.map B8, bkCells true (n : Int) ps, w.map J, F.map J], []⟩)) (fun ⟨i, F⟩ x_1 en s => x_1 = .exit 0 ∧ en.get 7 = .ptr 1 0 ∧ en.get 8 = I n ∧ en.get 9 = .ptr 2 0 ∧ en.get 11 = I a ∧ en.get 12 = sl 1 true (V.map I) ∧ en.get 13 = I e ∧ en.get 14 = .ptr 3 0 ∧ s = ⟨[zs.map B8, bkCells true (n : Int) ps, w.map J, ((G.drop i).foldl zeroF F).map J], []⟩) (fun ⟨i, F⟩ hok => ?_) ⟨i, F⟩ hok env st hg
  simp only at hok
  obtain ⟨h1, h2⟩ := hok
  dsimp only at h1 h2 ⊢
  by_cases h : i < G.length
  · have hx := index_J true G i h
    have hs := succ64 i (by omega)
    have hlt : ((i : Int) < (G.length : Int)) = True := eq_true (by omega)
    have hd : G.drop i = G[i] :: G.drop (i + 1) := List.drop_eq_getElem_cons h
    have hg := hG _ (List.getElem_mem h)
    rw [hd, List.foldl_cons]
    generalize G[i] = x at *
    have b1 : ((0 : Int) ≤ (x : Int)) = True := eq_true (by omega)
    have b2 : ((x : Int) < 8) = True := eq_true (by omega)
    have b5 : (x + 1 ≤ 8) = True := eq_true (by omega)
    have hset : (F.map J).set x (.v (.int .i64 0)) = (zeroF F x).map J := by unfold zeroF; rw [List.map_set]; rfl
    have hl2 : (zeroF F x).length = 8 := by unfold zeroF; simp [h2]
    simp only [go_sem, reduceIte, Nat.reduceEqDiff, Nat.reduceAdd, Nat.reduceSub, Nat.reduceLeDiff, Nat.reduceLT, reduceCtorEq, Int.reduceLT, Int.reduceLE, Int.reduceEq, Int.reduceBEq, Int.reduceSub, Int.reduceAdd, Int.reduceMul, Int.reduceNeg, Int.reduceToNat, Nat.reduceMul, Nat.reduceBEq, index_rsl_if, setm, make_ints, condK_dec, wantK_dec, not_dec, and_dec, or_dec, seqK_ite, seqK_none, blockK_ite, blockK_none, opsK_ite, opsK_none, stepK_ite, stepK_none, bodyK_ite, bodyK_none, resK_ite, resK_none, leaveK_ite, leaveK_none, only_ite, only_none, bind_ite, gives_some, gives_none, gives_ite, then_normal, then_ret, then_exit, then_none, then_ite, Option.bind_none, Bool.not_eq_true', decide_eq_false_iff_not, Bool.and_eq_true, Bool.or_eq_true, Option.some.injEq, Int.not_lt, Int.not_le, lp12_0, hx, hlt, hs, b1, b2, b5, hset, h2, List.length_map]
    refine ⟨(i + 1, zeroF F x), by simp only [go_sem, reduceIte, Nat.reduceEqDiff, Nat.reduceAdd, Nat.reduceSub, Nat.reduceLeDiff, Nat.reduceLT, reduceCtorEq, Int.reduceLT, Int.reduceLE, Int.reduceEq, Int.reduceBEq, Int.reduceSub, Int.reduceAdd, Int.reduceMul, Int.reduceNeg, Int.reduceToNat, Nat.reduceMul, Nat.reduceBEq, ren1_locm, loc_tips, locT_eq, okRefsB, renCellsB, okRefsJ, renCellsJ] <;> rfl, ?_, ?_, fun x en s hq => ?_⟩
    · dsimp only; exact ⟨by omega, hl2⟩
    · dsimp only; omega
    · exact hq
  · have hd : G.drop i = [] := List.drop_eq_nil_of_le (by omega)
    have hlt : ((i : Int) < (G.length : Int)) = False := eq_false (by omega)
    simp only [go_sem, reduceIte, Nat.reduceEqDiff, Nat.reduceAdd, Nat.reduceSub, Nat.reduceLeDiff, Nat.reduceLT, reduceCtorEq, Int.reduceLT, Int.reduceLE, Int.reduceEq, Int.reduceBEq, Int.reduceSub, Int.reduceAdd, Int.reduceMul, Int.reduceNeg, Int.reduceToNat, Nat.reduceMul, Nat.reduceBEq, index_rsl_if, setm, make_ints, condK_dec, wantK_dec, not_dec, and_dec, or_dec, seqK_ite, seqK_none, blockK_ite, blockK_none, opsK_ite, opsK_none, stepK_ite, stepK_none, bodyK_ite, bodyK_none, resK_ite, resK_none, leaveK_ite, leaveK_none, only_ite, only_none, bind_ite, gives_some, gives_none, gives_ite, then_normal, then_ret, then_exit, then_none, then_ite, Option.bind_none, Bool.not_eq_true', decide_eq_false_iff_not, Bool.and_eq_true, Bool.or_eq_true, Option.some.injEq, Int.not_lt, Int.not_le, lp12_0, hlt]
    rw [hd]; rfl

def Small9 (F : List Nat) : Prop := F.length = 8 ∧ ∀ x, F.getD x 0 ≤ 9
theorem small9_rel {F : List Nat} (h : Small9 F) {x : Nat} (hx : x < 8) (y : Nat) : Small9 (rel1 x F y) := by
  refine ⟨by unfold rel1; simp [h.1], fun z => ?_⟩
  unfold rel1
  rw [getD_set F x _ z (by have := h.1; omega)]
  have h1 := h.2 x
  have h2 := h.2 z
  split <;> omega
theorem small9_X (w : List Nat) {x : Nat} (hx : x < 8) : ∀ (l : List Nat) (F : List Nat), Small9 F → Small9 (l.foldl (rel1 x) F)
  | [], _, h => h
  | y :: r, _, h => small9_X w hx r _ (small9_rel h hx y)

theorem loop12_1 (zs : List Int) (n : Nat) (ps : List (Int × Int)) (w : List Nat) (a : Int) (V : List Int) (e : Int) (x : Nat) (hx8 : x < 7) (r : Int) (G : List Nat) (hG : ∀ x ∈ G, x < 8) (hGl : G.length ≤ 7) (i : Nat) (F : List Nat) (hok : i ≤ G.length ∧ Small9 F) (env : Env) (st : St)
    (hg : gcAV true 4 0 (canon env [7, 8, 9, 11, 12, 13, 14, 17, 70, 71, 73, 74, 80, 81, 82]) st = ([(7, .ptr 1 0), (8, I n), (9, .ptr 2 0), (11, I a), (12, sl 1 true (V.map I)), (13, I e), (14, .ptr 3 0), (17, I x), (70, I n), (71, I r), (73, I n), (74, I x), (80, sl 1 true (G.map J)), (81, I G.length), (82, I i)], ⟨[zs.map B8, bkCells true (n : Int) ps, w.map J, F.map J], []⟩)) :
    ∃ x_1 en s, lim (headed pure (run L) true [7, 8, 9, 11, 12, 13, 14, 17, 70, 71, 73, 74, 80, 81, 82] lp12_1 4 0) env st = some (x_1, en, s) ∧ (x_1 = .exit 6 ∧ en.get 7 = .ptr 1 0 ∧ en.get 8 = I n ∧ en.get 9 = .ptr 2 0 ∧ en.get 11 = I a ∧ en.get 12 = sl 1 true (V.map I) ∧ en.get 13 = I e ∧ en.get 14 = .ptr 3 0 ∧ en.get 70 = I n ∧ en.get 71 = I r ∧ en.get 73 = I n ∧ en.get 74 = I x ∧ s = ⟨[zs.map B8, bkCells true (n : Int) ps, w.map J, ((G.drop i).foldl (rel1 x) F).map J], []⟩) := by
  refine loop_wp (α := Nat × List Nat) (fun ⟨i, F⟩ => G.length - i) (fun ⟨i, F⟩ => i ≤ G.length ∧ Small9 F) (fun ⟨i, F⟩ => ([(7, .ptr 1 0), (8, I n), (9, .ptr 2 0), (11, I a), (12, sl 1 true (V.map I)), (13, I e), (14, .ptr 3 0), (17, I x), (70, I n), (71, I r), (73, I n), (74, I x), (80, sl 1 true (G.map J)), (81, I G.length), (82, I i)], ⟨[zs.map B8, bkCells true (n : Int) ps, w.map J, F.map J], []⟩)) (fun ⟨i, F⟩ x_1 en s => x_1 = .exit 6 ∧ en.get 7 = .ptr 1 0 ∧ en.get 8 = I n ∧ en.get 9 = .ptr 2 0 ∧ en.get 11 = I a ∧ en.get 12 = sl 1 true (V.map I) ∧ en.get 13 = I e ∧ en.get 14 = .ptr 3 0 ∧ en.get 70 = I n ∧ en.get 71 = I r ∧ en.get 73 = I n ∧ en.get 74 = I x ∧ s = ⟨[zs.map B8, bkCells true (n : Int) ps, w.map J, ((G.drop i).foldl (rel1 x) F).map J], []⟩) (fun ⟨i, F⟩ hok => ?_) ⟨i, F⟩ hok env st hg
  simp only at hok
  obtain ⟨h1, h2⟩ := hok
  dsimp only at h1 h2 ⊢
  by_cases h : i < G.length
  · have hx := index_J true G i h
    have hs := succ64 i (by omega)
    have hlt : ((i : Int) < (G.length : Int)) = True := eq_true (by omega)
    have hd : G.drop i = G[i] :: G.drop (i + 1) := List.drop_eq_getElem_cons h
    have hg := hG _ (List.getElem_mem h)
    rw [hd, List.foldl_cons]
    generalize G[i] = y at *
    have hl8 := h2.1
    have b1 : ((0 : Int) ≤ (x : Int)) = True := eq_true (by omega)
    have b2 : ((x : Int) < 8) = True := eq_true (by omega)
    have b5 : (x + 1 ≤ 8) = True := eq_true (by omega)
    have b3 : ((0 : Int) ≤ (y : Int)) = True := eq_true (by omega)
    have b4 : ((y : Int) < 8) = True := eq_true (by omega)
    have b6 : (y + 1 ≤ 8) = True := eq_true (by omega)
    have g1 := getJ F x (by omega)
    have g2 := getJ F y (by omega)
    have hy9 := h2.2 y
    have hx9 := h2.2 x
    have hw : IntKind.i64.wrap ((F.getD y 0 : Int) + 1) = ((F.getD y 0 + 1 : Nat) : Int) := by rw [wrap64] <;> omega
    have hmin : min ((F.getD x 0 : Nat) : Int) ((F.getD y 0 + 1 : Nat) : Int) = ((min (F.getD x 0) (F.getD y 0 + 1) : Nat) : Int) := by omega
    have hset : (F.map J).set x (J (min (F.getD x 0) (F.getD y 0 + 1))) = (rel1 x F y).map J := by unfold rel1; rw [List.map_set]
    have hsm := small9_rel h2 (show x < 8 by omega) y
    generalize rel1 x F y = F2 at *
    generalize min (F.getD x 0) (F.getD y 0 + 1) = v at *
    generalize F.getD x 0 = p at *
    generalize F.getD y 0 = q at *
    simp only [go_sem, reduceIte, Nat.reduceEqDiff, Nat.reduceAdd, Nat.reduceSub, Nat.reduceLeDiff, Nat.reduceLT, reduceCtorEq, Int.reduceLT, Int.reduceLE, Int.reduceEq, Int.reduceBEq, Int.reduceSub, Int.reduceAdd, Int.reduceMul, Int.reduceNeg, Int.reduceToNat, Nat.reduceMul, Nat.reduceBEq, index_rsl_if, setm, make_ints, condK_dec, wantK_dec, not_dec, and_dec, or_dec, seqK_ite, seqK_none, blockK_ite, blockK_none, opsK_ite, opsK_none, stepK_ite, stepK_none, bodyK_ite, bodyK_none, resK_ite, resK_none, leaveK_ite, leaveK_none, only_ite, only_none, bind_ite, gives_some, gives_none, gives_ite, then_normal, then_ret, then_exit, then_none, then_ite, Option.bind_none, Bool.not_eq_true', decide_eq_false_iff_not, Bool.and_eq_true, Bool.or_eq_true, Option.some.injEq, Int.not_lt, Int.not_le, lp12_1, hx, hlt, hs, b1, b2, b5, b3, b4, b6, g1, g2, hw, hmin, hset, hl8, List.length_map]
    refine ⟨(i + 1, F2), by simp only [go_sem, reduceIte, Nat.reduceEqDiff, Nat.reduceAdd, Nat.reduceSub, Nat.reduceLeDiff, Nat.reduceLT, reduceCtorEq, Int.reduceLT, Int.reduceLE, Int.reduceEq, Int.reduceBEq, Int.reduceSub, Int.reduceAdd, Int.reduceMul, Int.reduceNeg, Int.reduceToNat, Nat.reduceMul, Nat.reduceBEq, ren1_locm, loc_tips, locT_eq, okRefsB, renCellsB, okRefsJ, renCellsJ] <;> rfl, ?_, ?_, fun x en s hq => ?_⟩
    · dsimp only; exact ⟨by omega, hsm⟩
    · dsimp only; omega
    · exact hq
  · have hd : G.drop i = [] := List.drop_eq_nil_of_le (by omega)
    have hlt : ((i : Int) < (G.length : Int)) = False := eq_false (by omega)
    simp only [go_sem, reduceIte, Nat.reduceEqDiff, Nat.reduceAdd, Nat.reduceSub, Nat.reduceLeDiff, Nat.reduceLT, reduceCtorEq, Int.reduceLT, Int.reduceLE, Int.reduceEq, Int.reduceBEq, Int.reduceSub, Int.reduceAdd, Int.reduceMul, Int.reduceNeg, Int.reduceToNat, Nat.reduceMul, Nat.reduceBEq, index_rsl_if, setm, make_ints, condK_dec, wantK_dec, not_dec, and_dec, or_dec, seqK_ite, seqK_none, blockK_ite, blockK_none, opsK_ite, opsK_none, stepK_ite, stepK_none, bodyK_ite, bodyK_none, resK_ite, resK_none, leaveK_ite, leaveK_none, only_ite, only_none, bind_ite, gives_some, gives_none, gives_ite, then_normal, then_ret, then_exit, then_none, then_ite, Option.bind_none, Bool.not_eq_true', decide_eq_false_iff_not, Bool.and_eq_true, Bool.or_eq_true, Option.some.injEq, Int.not_lt, Int.not_le, lp12_1, hlt]
    rw [hd]; rfl

theorem bits_lt (m : Nat) : ∀ x ∈ bitsL m, x < 8 := fun x hx => by
  have := List.mem_range.1 (List.mem_filter.1 hx).1; omega
theorem bits_len (m : Nat) : (bitsL m).length ≤ 7 := by
  have := List.length_filter_le m.testBit (List.range 7)
  simpa [bitsL] using this

theorem loop12_2 (zs : List Int) (n : Nat) (hn : n ≤ 7) (ps : List (Int × Int)) (w : List Nat) (ho : w.length = 8) (hsm : ∀ x ∈ w, x < 128) (a : Int) (V : List Int) (e : Int) (r : Int) (x : Nat) (F : List Nat) (hok : x ≤ n ∧ Small9 F) (env : Env) (st : St)
    (hg : gcAV true 4 0 (canon env [7, 8, 9, 11, 12, 13, 14, 70, 71, 73, 74]) st = ([(7, .ptr 1 0), (8, I n), (9, .ptr 2 0), (11, I a), (12, sl 1 true (V.map I)), (13, I e), (14, .ptr 3 0), (70, I n), (71, I r), (73, I n), (74, I x)], ⟨[zs.map B8, bkCells true (n : Int) ps, w.map J, F.map J], []⟩)) :
    ∃ x_1 en s, lim (headed pure (run L) true [7, 8, 9, 11, 12, 13, 14, 70, 71, 73, 74] lp12_2 4 0) env st = some (x_1, en, s) ∧ (x_1 = .exit 4 ∧ en.get 7 = .ptr 1 0 ∧ en.get 8 = I n ∧ en.get 9 = .ptr 2 0 ∧ en.get 11 = I a ∧ en.get 12 = sl 1 true (V.map I) ∧ en.get 13 = I e ∧ en.get 14 = .ptr 3 0 ∧ en.get 70 = I n ∧ en.get 71 = I r ∧ s = ⟨[zs.map B8, bkCells true (n : Int) ps, w.map J, ((List.range' x (n - x)).foldl (relX w) F).map J], []⟩ ∧ Small9 ((List.range' x (n - x)).foldl (relX w) F)) := by
  refine loop_wp (α := Nat × List Nat) (fun ⟨x, F⟩ => n - x) (fun ⟨x, F⟩ => x ≤ n ∧ Small9 F) (fun ⟨x, F⟩ => ([(7, .ptr 1 0), (8, I n), (9, .ptr 2 0), (11, I a), (12, sl 1 true (V.map I)), (13, I e), (14, .ptr 3 0), (70, I n), (71, I r), (73, I n), (74, I x)], ⟨[zs.map B8, bkCells true (n : Int) ps, w.map J, F.map J], []⟩)) (fun ⟨x, F⟩ x_1 en s => x_1 = .exit 4 ∧ en.get 7 = .ptr 1 0 ∧ en.get 8 = I n ∧ en.get 9 = .ptr 2 0 ∧ en.get 11 = I a ∧ en.get 12 = sl 1 true (V.map I) ∧ en.get 13 = I e ∧ en.get 14 = .ptr 3 0 ∧ en.get 70 = I n ∧ en.get 71 = I r ∧ s = ⟨[zs.map B8, bkCells true (n : Int) ps, w.map J, ((List.range' x (n - x)).foldl (relX w) F).map J], []⟩ ∧ Small9 ((List.range' x (n - x)).foldl (relX w) F)) (fun ⟨x, F⟩ hok => ?_) ⟨x, F⟩ hok env st hg
  simp only at hok
  obtain ⟨h1, h2⟩ := hok
  dsimp only at h1 h2 ⊢
  by_cases h : x < n
  · have hs := succ64 x (by omega)
    have hlt : ((x : Int) < (n : Int)) = True := eq_true (by omega)
    have hr : List.range' x (n - x) = x :: List.range' (x + 1) (n - (x + 1)) := by
      rw [show n - x = (n - (x + 1)) + 1 by omega, List.range'_succ]
    have b1 : ((0 : Int) ≤ (x : Int)) = True := eq_true (by omega)
    have b2 : ((x : Int) < 8) = True := eq_true (by omega)
    have b5 : (x + 1 ≤ 8) = True := eq_true (by omega)
    have g1 := getJ w x (by omega)
    have h51 := fun st => c51 (w.getD x 0) (small_getD hsm x) st
    rw [memb_J] at h51
    have hrx : relX w F x = (bitsL (w.getD x 0)).foldl (rel1 x) F := rfl
    have hG := bits_lt (w.getD x 0)
    have hGl := bits_len (w.getD x 0)
    have hsm2 := small9_X w (show x < 8 by omega) (bitsL (w.getD x 0)) F h2
    rw [← hrx] at hsm2
    rw [hr, List.foldl_cons]
    generalize w.getD x 0 = v at *
    generalize bitsL v = G at *
    simp only [go_sem, reduceIte, Nat.reduceEqDiff, Nat.reduceAdd, Nat.reduceSub, Nat.reduceLeDiff, Nat.reduceLT, reduceCtorEq, Int.reduceLT, Int.reduceLE, Int.reduceEq, Int.reduceBEq, Int.reduceSub, Int.reduceAdd, Int.reduceMul, Int.reduceNeg, Int.reduceToNat, Nat.reduceMul, Nat.reduceBEq, index_rsl_if, setm, make_ints, condK_dec, wantK_dec, not_dec, and_dec, or_dec, seqK_ite, seqK_none, blockK_ite, blockK_none, opsK_ite, opsK_none, stepK_ite, stepK_none, bodyK_ite, bodyK_none, resK_ite, resK_none, leaveK_ite, leaveK_none, only_ite, only_none, bind_ite, gives_some, gives_none, gives_ite, then_normal, then_ret, then_exit, then_none, then_ite, Option.bind_none, Bool.not_eq_true', decide_eq_false_iff_not, Bool.and_eq_true, Bool.or_eq_true, Option.some.injEq, Int.not_lt, Int.not_le, lp12_2, hlt, hs, b1, b2, b5, g1, ho, h51, List.length_map]
    generalize hg : lim (headed pure (run L) true _ lp12_1 _ _) _ _ = o
    obtain ⟨x, en, s, rfl, h2⟩ : ∃ x en s, o = some (x, en, s) ∧ _ := by rw [← hg]; exact loop12_1 zs n ps w a V e x (by omega) r G hG hGl 0 F ⟨by omega, h2⟩ _ _ (by simp only [go_sem, reduceIte, Nat.reduceEqDiff, Nat.reduceAdd, Nat.reduceSub, Nat.reduceLeDiff, Nat.reduceLT, reduceCtorEq, Int.reduceLT, Int.reduceLE, Int.reduceEq, Int.reduceBEq, Int.reduceSub, Int.reduceAdd, Int.reduceMul, Int.reduceNeg, Int.reduceToNat, Nat.reduceMul, Nat.reduceBEq, okRefsB, renCellsB, okRefsJ, renCellsJ, Int.natCast_zero] <;> rfl)
    clear hg
    rw [List.drop_zero, ← hrx] at h2
    obtain ⟨rfl, e7, e8, e9, e11, e12, e13, e14, e70, e71, e73, e74, rfl⟩ := h2
    simp only [go_sem, reduceIte, Nat.reduceEqDiff, Nat.reduceAdd, Nat.reduceSub, Nat.reduceLeDiff, Nat.reduceLT, reduceCtorEq, Int.reduceLT, Int.reduceLE, Int.reduceEq, Int.reduceBEq, Int.reduceSub, Int.reduceAdd, Int.reduceMul, Int.reduceNeg, Int.reduceToNat, Nat.reduceMul, Nat.reduceBEq, index_rsl_if, setm, make_ints, condK_dec, wantK_dec, not_dec, and_dec, or_dec, seqK_ite, seqK_none, blockK_ite, blockK_none, opsK_ite, opsK_none, stepK_ite, stepK_none, bodyK_ite, bodyK_none, resK_ite, resK_none, leaveK_ite, leaveK_none, only_ite, only_none, bind_ite, gives_some, gives_none, gives_ite, then_normal, then_ret, then_exit, then_none, then_ite, Option.bind_none, Bool.not_eq_true', decide_eq_false_iff_not, Bool.and_eq_true, Bool.or_eq_true, Option.some.injEq, Int.not_lt, Int.not_le, lp12_2, e7, e8, e9, e11, e12, e13, e14, e70, e71, e73, e74, hs]
    refine ⟨(x + 1, relX w F x), by simp only [go_sem, reduceIte, Nat.reduceEqDiff, Nat.reduceAdd, Nat.reduceSub, Nat.reduceLeDiff, Nat.reduceLT, reduceCtorEq, Int.reduceLT, Int.reduceLE, Int.reduceEq, Int.reduceBEq, Int.reduceSub, Int.reduceAdd, Int.reduceMul, Int.reduceNeg, Int.reduceToNat, Nat.reduceMul, Nat.reduceBEq, ren1_locm, loc_tips, locT_eq, okRefsB, renCellsB, okRefsJ, renCellsJ, e7, e8, e9, e11, e12, e13, e14, e70, e71, e73, e74] <;> rfl, ?_, ?_, fun x en s hq => ?_⟩
    · dsimp only; exact ⟨by omega, hsm2⟩
    · dsimp only; omega
    · exact hq
  · have hr : n - x = 0 := by omega
    have hlt : ((x : Int) < (n : Int)) = False := eq_false (by omega)
    rw [hr]
    simp only [go_sem, reduceIte, Nat.reduceEqDiff, Nat.reduceAdd, Nat.reduceSub, Nat.reduceLeDiff, Nat.reduceLT, reduceCtorEq, Int.reduceLT, Int.reduceLE, Int.reduceEq, Int.reduceBEq, Int.reduceSub, Int.reduceAdd, Int.reduceMul, Int.reduceNeg, Int.reduceToNat, Nat.reduceMul, Nat.reduceBEq, index_rsl_if, setm, make_ints, condK_dec, wantK_dec, not_dec, and_dec, or_dec, seqK_ite, seqK_none, blockK_ite, blockK_none, opsK_ite, opsK_none, stepK_ite, stepK_none, bodyK_ite, bodyK_none, resK_ite, resK_none, leaveK_ite, leaveK_none, only_ite, only_none, bind_ite, gives_some, gives_none, gives_ite, then_normal, then_ret, then_exit, then_none, then_ite, Option.bind_none, Bool.not_eq_true', decide_eq_false_iff_not, Bool.and_eq_true, Bool.or_eq_true, Option.some.injEq, Int.not_lt, Int.not_le, lp12_2, hlt]
    exact ⟨rfl, h2⟩

theorem loop12_3 (zs : List Int) (n : Nat) (hn : n ≤ 7) (ps : List (Int × Int)) (w : List Nat) (ho : w.length = 8) (hsm : ∀ x ∈ w, x < 128) (a : Int) (V : List Int) (e : Int) (r : Nat) (F : List Nat) (hok : r ≤ n ∧ Small9 F) (env : Env) (st : St)
    (hg : gcAV true 4 0 (canon env [7, 8, 9, 11, 12, 13, 14, 70, 71]) st = ([(7, .ptr 1 0), (8, I n), (9, .ptr 2 0), (11, I a), (12, sl 1 true (V.map I)), (13, I e), (14, .ptr 3 0), (70, I n), (71, I r)], ⟨[zs.map B8, bkCells true (n : Int) ps, w.map J, F.map J], []⟩)) :
    ∃ x_1 en s, lim (headed pure (run L) true [7, 8, 9, 11, 12, 13, 14, 70, 71] lp12_3 4 0) env st = some (x_1, en, s) ∧ (x_1 = .exit 2 ∧ en.get 7 = .ptr 1 0 ∧ en.get 8 = I n ∧ en.get 9 = .ptr 2 0 ∧ en.get 11 = I a ∧ en.get 12 = sl 1 true (V.map I) ∧ en.get 13 = I e ∧ en.get 14 = .ptr 3 0 ∧ s = ⟨[zs.map B8, bkCells true (n : Int) ps, w.map J, (relN w n (n - r) F).map J], []⟩) := by
  refine loop_wp (α := Nat × List Nat) (fun ⟨r, F⟩ => n - r) (fun ⟨r, F⟩ => r ≤ n ∧ Small9 F) (fun ⟨r, F⟩ => ([(7, .ptr 1 0), (8, I n), (9, .ptr 2 0), (11, I a), (12, sl 1 true (V.map I)), (13, I e), (14, .ptr 3 0), (70, I n), (71, I r)], ⟨[zs.map B8, bkCells true (n : Int) ps, w.map J, F.map J], []⟩)) (fun ⟨r, F⟩ x_1 en s => x_1 = .exit 2 ∧ en.get 7 = .ptr 1 0 ∧ en.get 8 = I n ∧ en.get 9 = .ptr 2 0 ∧ en.get 11 = I a ∧ en.get 12 = sl 1 true (V.map I) ∧ en.get 13 = I e ∧ en.get 14 = .ptr 3 0 ∧ s = ⟨[zs.map B8, bkCells true (n : Int) ps, w.map J, (relN w n (n - r) F).map J], []⟩) (fun ⟨r, F⟩ hok => ?_) ⟨r, F⟩ hok env st hg
  simp only at hok
  obtain ⟨h1, h2⟩ := hok
  dsimp only at h1 h2 ⊢
  by_cases h : r < n
  · have hs := succ64 r (by omega)
    have hlt : ((r : Int) < (n : Int)) = True := eq_true (by omega)
    have hr : relN w n (n - r) F = relN w n (n - (r + 1)) (relR w n F) := by
      rw [show n - r = (n - (r + 1)) + 1 by omega]; rfl
    rw [hr]
    simp only [go_sem, reduceIte, Nat.reduceEqDiff, Nat.reduceAdd, Nat.reduceSub, Nat.reduceLeDiff, Nat.reduceLT, reduceCtorEq, Int.reduceLT, Int.reduceLE, Int.reduceEq, Int.reduceBEq, Int.reduceSub, Int.reduceAdd, Int.reduceMul, Int.reduceNeg, Int.reduceToNat, Nat.reduceMul, Nat.reduceBEq, index_rsl_if, setm, make_ints, condK_dec, wantK_dec, not_dec, and_dec, or_dec, seqK_ite, seqK_none, blockK_ite, blockK_none, opsK_ite, opsK_none, stepK_ite, stepK_none, bodyK_ite, bodyK_none, resK_ite, resK_none, leaveK_ite, leaveK_none, only_ite, only_none, bind_ite, gives_some, gives_none, gives_ite, then_normal, then_ret, then_exit, then_none, then_ite, Option.bind_none, Bool.not_eq_true', decide_eq_false_iff_not, Bool.and_eq_true, Bool.or_eq_true, Option.some.injEq, Int.not_lt, Int.not_le, lp12_3, hlt, hs]
    generalize hg : lim (headed pure (run L) true _ lp12_2 _ _) _ _ = o
    obtain ⟨x, en, s, rfl, h2⟩ : ∃ x en s, o = some (x, en, s) ∧ _ := by rw [← hg]; exact loop12_2 zs n hn ps w ho hsm a V e (r : Int) 0 F ⟨by omega, h2⟩ _ _ (by simp only [go_sem, reduceIte, Nat.reduceEqDiff, Nat.reduceAdd, Nat.reduceSub, Nat.reduceLeDiff, Nat.reduceLT, reduceCtorEq, Int.reduceLT, Int.reduceLE, Int.reduceEq, Int.reduceBEq, Int.reduceSub, Int.reduceAdd, Int.reduceMul, Int.reduceNeg, Int.reduceToNat, Nat.reduceMul, Nat.reduceBEq, okRefsB, renCellsB, okRefsJ, renCellsJ, Int.natCast_zero] <;> rfl)
    clear hg
    rw [Nat.sub_zero] at h2
    obtain ⟨rfl, e7, e8, e9, e11, e12, e13, e14, e70, e71, rfl, hsm2⟩ := h2
    have hrr : (List.range' 0 n).foldl (relX w) F = relR w n F := rfl
    rw [hrr] at hsm2 ⊢
    simp only [go_sem, reduceIte, Nat.reduceEqDiff, Nat.reduceAdd, Nat.reduceSub, Nat.reduceLeDiff, Nat.reduceLT, reduceCtorEq, Int.reduceLT, Int.reduceLE, Int.reduceEq, Int.reduceBEq, Int.reduceSub, Int.reduceAdd, Int.reduceMul, Int.reduceNeg, Int.reduceToNat, Nat.reduceMul, Nat.reduceBEq, index_rsl_if, setm, make_ints, condK_dec, wantK_dec, not_dec, and_dec, or_dec, seqK_ite, seqK_none, blockK_ite, blockK_none, opsK_ite, opsK_none, stepK_ite, stepK_none, bodyK_ite, bodyK_none, resK_ite, resK_none, leaveK_ite, leaveK_none, only_ite, only_none, bind_ite, gives_some, gives_none, gives_ite, then_normal, then_ret, then_exit, then_none, then_ite, Option.bind_none, Bool.not_eq_true', decide_eq_false_iff_not, Bool.and_eq_true, Bool.or_eq_true, Option.some.injEq, Int.not_lt, Int.not_le, lp12_3, e7, e8, e9, e11, e12, e13, e14, e70, e71, hs]
    refine ⟨(r + 1, relR w n F), by simp only [go_sem, reduceIte, Nat.reduceEqDiff, Nat.reduceAdd, Nat.reduceSub, Nat.reduceLeDiff, Nat.reduceLT, reduceCtorEq, Int.reduceLT, Int.reduceLE, Int.reduceEq, Int.reduceBEq, Int.reduceSub, Int.reduceAdd, Int.reduceMul, Int.reduceNeg, Int.reduceToNat, Nat.reduceMul, Nat.reduceBEq, ren1_locm, loc_tips, locT_eq, okRefsB, renCellsB, okRefsJ, renCellsJ, e7, e8, e9, e11, e12, e13, e14, e70, e71] <;> rfl, ?_, ?_, fun x en s hq => ?_⟩
    · dsimp only; exact ⟨by omega, hsm2⟩
    · dsimp only; omega
    · exact hq
  · have hr : n - r = 0 := by omega
    have hlt : ((r : Int) < (n : Int)) = False := eq_false (by omega)
    rw [hr]
    simp only [go_sem, reduceIte, Nat.reduceEqDiff, Nat.reduceAdd, Nat.reduceSub, Nat.reduceLeDiff, Nat.reduceLT, reduceCtorEq, Int.reduceLT, Int.reduceLE, Int.reduceEq, Int.reduceBEq, Int.reduceSub, Int.reduceAdd, Int.reduceMul, Int.reduceNeg, Int.reduceToNat, Nat.reduceMul, Nat.reduceBEq, index_rsl_if, setm, make_ints, condK_dec, wantK_dec, not_dec, and_dec, or_dec, seqK_ite, seqK_none, blockK_ite, blockK_none, opsK_ite, opsK_none, stepK_ite, stepK_none, bodyK_ite, bodyK_none, resK_ite, resK_none, leaveK_ite, leaveK_none, only_ite, only_none, bind_ite, gives_some, gives_none, gives_ite, then_normal, then_ret, then_exit, then_none, then_ite, Option.bind_none, Bool.not_eq_true', decide_eq_false_iff_not, Bool.and_eq_true, Bool.or_eq_true, Option.some.injEq, Int.not_lt, Int.not_le, lp12_3, hlt]
    rfl

attribute [local go_sem] shaped_t cells_t isAgg_t storable_t okRef_t pub_t

theorem c56 (x : AV) (st : St) : run L 56 [x] st = some (x, st) := by
  rw [run_shared (fn := ir56) rfl rfl]
  simp only [ir56, go_sem, reduceIte, Nat.reduceEqDiff, Nat.reduceAdd, Nat.reduceSub, Nat.reduceLeDiff, Nat.reduceLT, reduceCtorEq, Int.reduceLT, Int.reduceLE, Int.reduceEq, Int.reduceBEq, Int.reduceSub, Int.reduceAdd, Int.reduceMul, Int.reduceNeg, Int.reduceToNat, Nat.reduceMul, Nat.reduceBEq]

/-! ### the law's way grows -/
def rA (o : List Int) : AV := loc 1 1 (o.map I)
def rT (o : List Int) : List Nat := locT 1 (o.map I)
def rAcc (o : List Int) : List (Nat × Nat) := if (o.map I).length = 1 then [] else [(0, (o.map I).length)]
theorem okRef_r (n : Nat) (o : List Int) : okRef n (rA o) = true := okRef_loc _ _ _ _
theorem ren1_r (o : List Int) : ren1 0 (rT o) [] (rA o) = (rA o, rAcc o) := ren1_loc (k := 1) 1 (o.map I)
theorem ren1_rh (o : List Int) (acc : List (Nat × Nat)) : ren1 (rT o).length (rT o) acc (rA o) = (rA o, acc) := by
  unfold rA rT loc locT
  split
  · rfl
  · simp [ren1]
theorem rAcc_snd (o : List Int) : (rAcc o).map (fun x => x.2) = rT o := by
  unfold rAcc rT locT; split <;> rfl
theorem pub_r (o : List Int) (h : o ≠ []) : pub (rA o) = sl 1 true (o.map I) := by
  unfold rA; rw [pub_loc]
  rw [sl_ne (by simpa using h), sl_ne (by simpa using h)]
theorem append_r (o : List Int) (x : Int) (S : List (List AV)) (h1 : 1 ≤ o.length) (h : o.length < 1000) : appendAV 1 (rA o) [I x] ⟨S, rT o⟩ = some (rA (o ++ [x]), ⟨S, rT (o ++ [x])⟩) :=
  append_locm (z := 1) (k := 1) I o x S (by omega) (by simp [maxGrow]; omega)
theorem loop12_4 (zs : List Int) (n : Nat) (ps : List (Int × Int)) (w : List Nat) (a : Int) (V : List Int) (e : Int) (F : List Nat) (hF : Small9 F) (b : Nat) (hb : b < 8) (hb1 : 1 ≤ F.getD b 0) (o : List Int) (G : List Nat) (hG : ∀ x ∈ G, x < 8) (hGl : G.length ≤ 7) (th : Nat) (hth : th = (rT o).length) (i : Nat) (hok : i ≤ G.length) (env : Env) (st : St)
    (hg : gcAV true 4 th (canon env [7, 9, 11, 12, 13, 14, 20, 21, 124, 125, 126]) st = ([(7, .ptr 1 0), (9, .ptr 2 0), (11, I a), (12, sl 1 true (V.map I)), (13, I e), (14, .ptr 3 0), (20, rA o), (21, I b), (124, sl 1 true (G.map J)), (125, I G.length), (126, I i)], ⟨[zs.map B8, bkCells true (n : Int) ps, w.map J, F.map J], rT o⟩)) :
    ∃ x_1 en s, lim (headed pure (run L) true [7, 9, 11, 12, 13, 14, 20, 21, 124, 125, 126] lp12_4 4 th) env st = some (x_1, en, s) ∧ (x_1 = .exit 10 ∧ en.get 7 = .ptr 1 0 ∧ en.get 9 = .ptr 2 0 ∧ en.get 11 = I a ∧ en.get 12 = sl 1 true (V.map I) ∧ en.get 13 = I e ∧ en.get 14 = .ptr 3 0 ∧ en.get 20 = rA o ∧ en.get 21 = J (((G.drop i).find? fun y => F.getD y 0 == F.getD b 0 - 1).getD b) ∧ s = ⟨[zs.map B8, bkCells true (n : Int) ps, w.map J, F.map J], rT o⟩) := by
  refine loop_wp (α := Nat) (fun i => G.length - i) (fun i => i ≤ G.length) (fun i => ([(7, .ptr 1 0), (9, .ptr 2 0), (11, I a), (12, sl 1 true (V.map I)), (13, I e), (14, .ptr 3 0), (20, rA o), (21, I b), (124, sl 1 true (G.map J)), (125, I G.length), (126, I i)], ⟨[zs.map B8, bkCells true (n : Int) ps, w.map J, F.map J], rT o⟩)) (fun i x_1 en s => x_1 = .exit 10 ∧ en.get 7 = .ptr 1 0 ∧ en.get 9 = .ptr 2 0 ∧ en.get 11 = I a ∧ en.get 12 = sl 1 true (V.map I) ∧ en.get 13 = I e ∧ en.get 14 = .ptr 3 0 ∧ en.get 20 = rA o ∧ en.get 21 = J (((G.drop i).find? fun y => F.getD y 0 == F.getD b 0 - 1).getD b) ∧ s = ⟨[zs.map B8, bkCells true (n : Int) ps, w.map J, F.map J], rT o⟩) (fun i hok => ?_) i hok env st hg
  subst hth
  by_cases h : i < G.length
  · have hx := index_J true G i h
    have hs := succ64 i (by omega)
    have hlt : ((i : Int) < (G.length : Int)) = True := eq_true (by omega)
    have hd : G.drop i = G[i] :: G.drop (i + 1) := List.drop_eq_getElem_cons h
    have hg := hG _ (List.getElem_mem h)
    rw [hd]
    generalize G[i] = y at *
    have hl8 := hF.1
    have b1 : ((0 : Int) ≤ (b : Int)) = True := eq_true (by omega)
    have b2 : ((b : Int) < 8) = True := eq_true (by omega)
    have b5 : (b + 1 ≤ 8) = True := eq_true (by omega)
    have b3 : ((0 : Int) ≤ (y : Int)) = True := eq_true (by omega)
    have b4 : ((y : Int) < 8) = True := eq_true (by omega)
    have b6 : (y + 1 ≤ 8) = True := eq_true (by omega)
    have g1 := getJ F b (by omega)
    have g2 := getJ F y (by omega)
    have hb9 := hF.2 b
    have hw : IntKind.i64.wrap ((F.getD b 0 : Int) - 1) = ((F.getD b 0 - 1 : Nat) : Int) := by rw [wrap64] <;> omega
    generalize F.getD b 0 - 1 = q at *
    by_cases p : F.getD y 0 = q
    · have hp : (((F.getD y 0 : Nat) : Int) = (q : Int)) = True := eq_true (by omega)
      rw [List.find?_cons_of_pos (by simpa using p)]
      simp only [go_sem, reduceIte, Nat.reduceEqDiff, Nat.reduceAdd, Nat.reduceSub, Nat.reduceLeDiff, Nat.reduceLT, reduceCtorEq, Int.reduceLT, Int.reduceLE, Int.reduceEq, Int.reduceBEq, Int.reduceSub, Int.reduceAdd, Int.reduceMul, Int.reduceNeg, Int.reduceToNat, Nat.reduceMul, Nat.reduceBEq, index_rsl_if, setm, make_ints, condK_dec, wantK_dec, not_dec, and_dec, or_dec, seqK_ite, seqK_none, blockK_ite, blockK_none, opsK_ite, opsK_none, stepK_ite, stepK_none, bodyK_ite, bodyK_none, resK_ite, resK_none, leaveK_ite, leaveK_none, only_ite, only_none, bind_ite, gives_some, gives_none, gives_ite, then_normal, then_ret, then_exit, then_none, then_ite, Option.bind_none, Bool.not_eq_true', decide_eq_false_iff_not, Bool.and_eq_true, Bool.or_eq_true, Option.some.injEq, Int.not_lt, Int.not_le, lp12_4, hx, hlt, hs, b1, b2, b5, b3, b4, b6, g1, g2, hw, hl8, hp, List.length_map]
      rfl
    · have hp : (((F.getD y 0 : Nat) : Int) = (q : Int)) = False := eq_false (by omega)
      rw [List.find?_cons_of_neg (by simpa using p)]
      simp only [go_sem, reduceIte, Nat.reduceEqDiff, Nat.reduceAdd, Nat.reduceSub, Nat.reduceLeDiff, Nat.reduceLT, reduceCtorEq, Int.reduceLT, Int.reduceLE, Int.reduceEq, Int.reduceBEq, Int.reduceSub, Int.reduceAdd, Int.reduceMul, Int.reduceNeg, Int.reduceToNat, Nat.reduceMul, Nat.reduceBEq, index_rsl_if, setm, make_ints, condK_dec, wantK_dec, not_dec, and_dec, or_dec, seqK_ite, seqK_none, blockK_ite, blockK_none, opsK_ite, opsK_none, stepK_ite, stepK_none, bodyK_ite, bodyK_none, resK_ite, resK_none, leaveK_ite, leaveK_none, only_ite, only_none, bind_ite, gives_some, gives_none, gives_ite, then_normal, then_ret, then_exit, then_none, then_ite, Option.bind_none, Bool.not_eq_true', decide_eq_false_iff_not, Bool.and_eq_true, Bool.or_eq_true, Option.some.injEq, Int.not_lt, Int.not_le, lp12_4, hx, hlt, hs, b1, b2, b5, b3, b4, b6, g1, g2, hw, hl8, hp, List.length_map]
      refine ⟨i + 1, by simp only [go_sem, reduceIte, Nat.reduceEqDiff, Nat.reduceAdd, Nat.reduceSub, Nat.reduceLeDiff, Nat.reduceLT, reduceCtorEq, Int.reduceLT, Int.reduceLE, Int.reduceEq, Int.reduceBEq, Int.reduceSub, Int.reduceAdd, Int.reduceMul, Int.reduceNeg, Int.reduceToNat, Nat.reduceMul, Nat.reduceBEq, ren1_locm, loc_tips, locT_eq, okRefsB, renCellsB, okRefsJ, renCellsJ, okRef_r, ren1_rh, List.take_length] <;> rfl, ?_, ?_, fun x en s hq => ?_⟩
      · omega
      · omega
      · exact hq
  · have hd : G.drop i = [] := List.drop_eq_nil_of_le (by omega)
    have hlt : ((i : Int) < (G.length : Int)) = False := eq_false (by omega)
    rw [hd]
    simp only [go_sem, reduceIte, Nat.reduceEqDiff, Nat.reduceAdd, Nat.reduceSub, Nat.reduceLeDiff, Nat.reduceLT, reduceCtorEq, Int.reduceLT, Int.reduceLE, Int.reduceEq, Int.reduceBEq, Int.reduceSub, Int.reduceAdd, Int.reduceMul, Int.reduceNeg, Int.reduceToNat, Nat.reduceMul, Nat.reduceBEq, index_rsl_if, setm, make_ints, condK_dec, wantK_dec, not_dec, and_dec, or_dec, seqK_ite, seqK_none, blockK_ite, blockK_none, opsK_ite, opsK_none, stepK_ite, stepK_none, bodyK_ite, bodyK_none, resK_ite, resK_none, leaveK_ite, leaveK_none, only_ite, only_none, bind_ite, gives_some, gives_none, gives_ite, then_normal, then_ret, then_exit, then_none, then_ite, Option.bind_none, Bool.not_eq_true', decide_eq_false_iff_not, Bool.and_eq_true, Bool.or_eq_true, Option.some.injEq, Int.not_lt, Int.not_le, lp12_4, hlt]
    rfl

theorem loop12_5 (zs : List Int) (n : Nat) (hn : n ≤ 7) (ps : List (Int × Int)) (w : List Nat) (ho : w.length = 8) (hsm : ∀ x ∈ w, x < 128) (a : Int) (V : List Int) (e : Int) (F : List Nat) (hF : Small9 F) (hnx : ∀ b j, b < n → j < 8 → F.getD b 0 = j + 1 → F.getD (nxtF w F b) 0 = j ∧ nxtF w F b < n) (j : Nat) (b : Nat) (oo : List Int) (hok : b < n ∧ F.getD b 0 = j ∧ j ≤ 8 ∧ 1 ≤ oo.length ∧ oo.length + j ≤ 100) (env : Env) (st : St)
    (hg : gcAV true 4 0 (canon env [7, 9, 11, 12, 13, 14, 20, 21]) st = ([(7, .ptr 1 0), (9, .ptr 2 0), (11, I a), (12, sl 1 true (V.map I)), (13, I e), (14, .ptr 3 0), (20, rA oo), (21, I b)], ⟨[zs.map B8, bkCells true (n : Int) ps, w.map J, F.map J], rT oo⟩)) :
    ∃ x_1 en s, lim (headed pure (run L) true [7, 9, 11, 12, 13, 14, 20, 21] lp12_5 4 0) env st = some (x_1, en, s) ∧ (x_1 = .exit 8 ∧ en.get 7 = .ptr 1 0 ∧ en.get 11 = I a ∧ en.get 12 = sl 1 true (V.map I) ∧ en.get 13 = I e ∧ en.get 20 = rA (goF w F j b oo) ∧ s = ⟨[zs.map B8, bkCells true (n : Int) ps, w.map J, F.map J], rT (goF w F j b oo)⟩) := by
  refine loop_wp (α := Nat × Nat × List Int) (fun ⟨j, b, oo⟩ => j) (fun ⟨j, b, oo⟩ => b < n ∧ F.getD b 0 = j ∧ j ≤ 8 ∧ 1 ≤ oo.length ∧ oo.length + j ≤ 100) (fun ⟨j, b, oo⟩ => ([(7, .ptr 1 0), (9, .ptr 2 0), (11, I a), (12, sl 1 true (V.map I)), (13, I e), (14, .ptr 3 0), (20, rA oo), (21, I b)], ⟨[zs.map B8, bkCells true (n : Int) ps, w.map J, F.map J], rT oo⟩)) (fun ⟨j, b, oo⟩ x_1 en s => x_1 = .exit 8 ∧ en.get 7 = .ptr 1 0 ∧ en.get 11 = I a ∧ en.get 12 = sl 1 true (V.map I) ∧ en.get 13 = I e ∧ en.get 20 = rA (goF w F j b oo) ∧ s = ⟨[zs.map B8, bkCells true (n : Int) ps, w.map J, F.map J], rT (goF w F j b oo)⟩) (fun ⟨j, b, oo⟩ hok => ?_) ⟨j, b, oo⟩ hok env st hg
  simp only at hok
  obtain ⟨h1, h2, h3, h4, h5⟩ := hok
  dsimp only at h1 h2 h3 h4 h5 ⊢
  have hl8 := hF.1
  have b1 : ((0 : Int) ≤ (b : Int)) = True := eq_true (by omega)
  have b2 : ((b : Int) < 8) = True := eq_true (by omega)
  have b5 : (b + 1 ≤ 8) = True := eq_true (by omega)
  have g1 := getJ F b (by omega)
  rw [h2] at g1
  cases j with
  | zero =>
    have hgt : ((0 : Int) < ((0 : Nat) : Int)) = False := eq_false (by omega)
    simp only [go_sem, reduceIte, Nat.reduceEqDiff, Nat.reduceAdd, Nat.reduceSub, Nat.reduceLeDiff, Nat.reduceLT, reduceCtorEq, Int.reduceLT, Int.reduceLE, Int.reduceEq, Int.reduceBEq, Int.reduceSub, Int.reduceAdd, Int.reduceMul, Int.reduceNeg, Int.reduceToNat, Nat.reduceMul, Nat.reduceBEq, index_rsl_if, setm, make_ints, condK_dec, wantK_dec, not_dec, and_dec, or_dec, seqK_ite, seqK_none, blockK_ite, blockK_none, opsK_ite, opsK_none, stepK_ite, stepK_none, bodyK_ite, bodyK_none, resK_ite, resK_none, leaveK_ite, leaveK_none, only_ite, only_none, bind_ite, gives_some, gives_none, gives_ite, then_normal, then_ret, then_exit, then_none, then_ite, Option.bind_none, Bool.not_eq_true', decide_eq_false_iff_not, Bool.and_eq_true, Bool.or_eq_true, Option.some.injEq, Int.not_lt, Int.not_le, lp12_5, b1, b2, b5, g1, hl8, hgt, List.length_map]
    exact ⟨rfl, rfl⟩
  | succ j =>
    have hgt : ((0 : Int) < ((j + 1 : Nat) : Int)) = True := eq_true (by omega)
    have g2 := getJ w b (by omega)
    have h51 := fun st => c51 (w.getD b 0) (small_getD hsm b) st
    rw [memb_J] at h51
    have hG := bits_lt (w.getD b 0)
    have hGl := bits_len (w.getD b 0)
    obtain ⟨n1, n2⟩ := hnx b j h1 (by omega) h2
    have hnf : ((bitsL (w.getD b 0)).find? fun y => F.getD y 0 == F.getD b 0 - 1).getD b = nxtF w F b := rfl
    have hgo : goF w F (j + 1) b oo = goF w F j (nxtF w F b) (oo ++ [((nxtF w F b : Nat) : Int)]) := rfl
    have happ := fun S => append_r oo ((nxtF w F b : Nat) : Int) S h4 (by omega)
    rw [hgo]
    generalize w.getD b 0 = v at *
    generalize bitsL v = G at *
    simp only [go_sem, reduceIte, Nat.reduceEqDiff, Nat.reduceAdd, Nat.reduceSub, Nat.reduceLeDiff, Nat.reduceLT, reduceCtorEq, Int.reduceLT, Int.reduceLE, Int.reduceEq, Int.reduceBEq, Int.reduceSub, Int.reduceAdd, Int.reduceMul, Int.reduceNeg, Int.reduceToNat, Nat.reduceMul, Nat.reduceBEq, index_rsl_if, setm, make_ints, condK_dec, wantK_dec, not_dec, and_dec, or_dec, seqK_ite, seqK_none, blockK_ite, blockK_none, opsK_ite, opsK_none, stepK_ite, stepK_none, bodyK_ite, bodyK_none, resK_ite, resK_none, leaveK_ite, leaveK_none, only_ite, only_none, bind_ite, gives_some, gives_none, gives_ite, then_normal, then_ret, then_exit, then_none, then_ite, Option.bind_none, Bool.not_eq_true', decide_eq_false_iff_not, Bool.and_eq_true, Bool.or_eq_true, Option.some.injEq, Int.not_lt, Int.not_le, lp12_5, b1, b2, b5, g1, g2, ho, hl8, hgt, h51, List.length_map]
    generalize hg : lim (headed pure (run L) true _ lp12_4 _ _) _ _ = o
    obtain ⟨x, en, s, rfl, h2⟩ : ∃ x en s, o = some (x, en, s) ∧ _ := by rw [← hg]; exact loop12_4 zs n ps w a V e F hF b (by omega) (by omega) oo G hG hGl (rT oo).length rfl 0 (by omega) _ _ (by simp only [go_sem, reduceIte, Nat.reduceEqDiff, Nat.reduceAdd, Nat.reduceSub, Nat.reduceLeDiff, Nat.reduceLT, reduceCtorEq, Int.reduceLT, Int.reduceLE, Int.reduceEq, Int.reduceBEq, Int.reduceSub, Int.reduceAdd, Int.reduceMul, Int.reduceNeg, Int.reduceToNat, Nat.reduceMul, Nat.reduceBEq, okRefsB, renCellsB, okRefsJ, renCellsJ, okRef_r, ren1_rh, List.take_length, Int.natCast_zero] <;> rfl)
    clear hg
    rw [List.drop_zero, hnf] at h2
    obtain ⟨rfl, e7, e9, e11, e12, e13, e14, e20, e21, rfl⟩ := h2
    generalize nxtF w F b = c at *
    simp only [go_sem, reduceIte, Nat.reduceEqDiff, Nat.reduceAdd, Nat.reduceSub, Nat.reduceLeDiff, Nat.reduceLT, reduceCtorEq, Int.reduceLT, Int.reduceLE, Int.reduceEq, Int.reduceBEq, Int.reduceSub, Int.reduceAdd, Int.reduceMul, Int.reduceNeg, Int.reduceToNat, Nat.reduceMul, Nat.reduceBEq, index_rsl_if, setm, make_ints, condK_dec, wantK_dec, not_dec, and_dec, or_dec, seqK_ite, seqK_none, blockK_ite, blockK_none, opsK_ite, opsK_none, stepK_ite, stepK_none, bodyK_ite, bodyK_none, resK_ite, resK_none, leaveK_ite, leaveK_none, only_ite, only_none, bind_ite, gives_some, gives_none, gives_ite, then_normal, then_ret, then_exit, then_none, then_ite, Option.bind_none, Bool.not_eq_true', decide_eq_false_iff_not, Bool.and_eq_true, Bool.or_eq_true, Option.some.injEq, Int.not_lt, Int.not_le, lp12_5, e7, e9, e11, e12, e13, e14, e20, e21, happ]
    refine ⟨(j, c, oo ++ [(c : Int)]), by simp only [go_sem, reduceIte, Nat.reduceEqDiff, Nat.reduceAdd, Nat.reduceSub, Nat.reduceLeDiff, Nat.reduceLT, reduceCtorEq, Int.reduceLT, Int.reduceLE, Int.reduceEq, Int.reduceBEq, Int.reduceSub, Int.reduceAdd, Int.reduceMul, Int.reduceNeg, Int.reduceToNat, Nat.reduceMul, Nat.reduceBEq, ren1_locm, loc_tips, locT_eq, okRefsB, renCellsB, okRefsJ, renCellsJ, okRef_r, ren1_r, rAcc_snd, List.take_length, e7, e9, e11, e12, e13, e14, e20, e21] <;> rfl, ?_, ?_, fun x en s hq => ?_⟩
    · dsimp only; exact ⟨n2, n1, by omega, by simp, by simp; omega⟩
    · dsimp only; omega
    · exact hq

theorem loop12_6 (zs : List Int) (n : Nat) (ps : List (Int × Int)) (w : List Nat) (a : Int) (F : List Nat) (T : List Nat) (C : List (List Int)) (hCl : C.length < 1000000) (hC : ∀ c ∈ C, 0 < c.length ∧ c.length < 1000000 ∧ ∃ r : List Int, (∀ st, run L 32 [bkAV true (n : Int) ps, tAV c, I a] st = some (.tup [sl 1 true (r.map I), I 0], st)) ∧ r.length ≤ 2 ∧ (r.length = 2 ↔ ¬a ∈ c)) (th : Nat) (hth : th = T.length) (i : Nat) (hok : i ≤ C.length) (env : Env) (st : St)
    (hg : gcAV true 4 th (canon env [7, 11, 166, 167, 168]) st = ([(7, .ptr 1 0), (11, I a), (166, sl 1 true (C.map tAV)), (167, I C.length), (168, I i)], ⟨[zs.map B8, bkCells true (n : Int) ps, w.map J, F.map J], T⟩)) :
    ∃ x_1 en s, lim (headed pure (run L) true [7, 11, 166, 167, 168] lp12_6 4 th) env st = some (x_1, en, s) ∧ (x_1 = .exit 12) := by
  refine loop_wp (α := Nat) (fun i => C.length - i) (fun i => i ≤ C.length) (fun i => ([(7, .ptr 1 0), (11, I a), (166, sl 1 true (C.map tAV)), (167, I C.length), (168, I i)], ⟨[zs.map B8, bkCells true (n : Int) ps, w.map J, F.map J], T⟩)) (fun i x_1 en s => x_1 = .exit 12) (fun i hok => ?_) i hok env st hg
  subst hth
  by_cases h : i < C.length
  · have hx := index_t true C i h
    have hs := succ64 i (by omega)
    have hlt : ((i : Int) < (C.length : Int)) = True := eq_true (by omega)
    obtain ⟨hc1, hc2, r, h32, hr1, hr2⟩ := hC _ (List.getElem_mem h)
    have h57 := fun st => c57 true C[i] hc2 a st
    generalize C[i] = c at *
    have h0 : ((c.length : Int) = 0) = False := eq_false (by omega)
    have h3 : ((2 : Int) < (r.length : Int)) = False := eq_false (by omega)
    have hlc : lenAV (tAV c) = some (I c.length) := by unfold tAV; rw [len_sl, List.length_map]
    have et : tAV c = sl 1 true (c.map I) := rfl
    rw [← et] at h57
    by_cases p : a ∈ c
    · have h4 : ((r.length : Int) = 2) = False := eq_false (by have := hr2; intro h5; exact (hr2.1 (by omega)) p)
      simp only [go_sem, reduceIte, Nat.reduceEqDiff, Nat.reduceAdd, Nat.reduceSub, Nat.reduceLeDiff, Nat.reduceLT, reduceCtorEq, Int.reduceLT, Int.reduceLE, Int.reduceEq, Int.reduceBEq, Int.reduceSub, Int.reduceAdd, Int.reduceMul, Int.reduceNeg, Int.reduceToNat, Nat.reduceMul, Nat.reduceBEq, index_rsl_if, setm, make_ints, condK_dec, wantK_dec, not_dec, and_dec, or_dec, seqK_ite, seqK_none, blockK_ite, blockK_none, opsK_ite, opsK_none, stepK_ite, stepK_none, bodyK_ite, bodyK_none, resK_ite, resK_none, leaveK_ite, leaveK_none, only_ite, only_none, bind_ite, gives_some, gives_none, gives_ite, then_normal, then_ret, then_exit, then_none, then_ite, Option.bind_none, Bool.not_eq_true', decide_eq_false_iff_not, Bool.and_eq_true, Bool.or_eq_true, Option.some.injEq, Int.not_lt, Int.not_le, lp12_6, hx, hlt, hs, hlc, h0, h3, h4, h32, h57, p, List.length_map]
      refine ⟨i + 1, by simp only [go_sem, reduceIte, Nat.reduceEqDiff, Nat.reduceAdd, Nat.reduceSub, Nat.reduceLeDiff, Nat.reduceLT, reduceCtorEq, Int.reduceLT, Int.reduceLE, Int.reduceEq, Int.reduceBEq, Int.reduceSub, Int.reduceAdd, Int.reduceMul, Int.reduceNeg, Int.reduceToNat, Nat.reduceMul, Nat.reduceBEq, ren1_locm, loc_tips, locT_eq, okRefsB, renCellsB, okRefsJ, renCellsJ, List.take_length] <;> rfl, ?_, ?_, fun x en s hq => ?_⟩
      · omega
      · omega
      · exact hq
    · have h4 : ((r.length : Int) = 2) = True := eq_true (by have := hr2.2 p; omega)
      simp only [go_sem, reduceIte, Nat.reduceEqDiff, Nat.reduceAdd, Nat.reduceSub, Nat.reduceLeDiff, Nat.reduceLT, reduceCtorEq, Int.reduceLT, Int.reduceLE, Int.reduceEq, Int.reduceBEq, Int.reduceSub, Int.reduceAdd, Int.reduceMul, Int.reduceNeg, Int.reduceToNat, Nat.reduceMul, Nat.reduceBEq, index_rsl_if, setm, make_ints, condK_dec, wantK_dec, not_dec, and_dec, or_dec, seqK_ite, seqK_none, blockK_ite, blockK_none, opsK_ite, opsK_none, stepK_ite, stepK_none, bodyK_ite, bodyK_none, resK_ite, resK_none, leaveK_ite, leaveK_none, only_ite, only_none, bind_ite, gives_some, gives_none, gives_ite, then_normal, then_ret, then_exit, then_none, then_ite, Option.bind_none, Bool.not_eq_true', decide_eq_false_iff_not, Bool.and_eq_true, Bool.or_eq_true, Option.some.injEq, Int.not_lt, Int.not_le, lp12_6, hx, hlt, hs, hlc, h0, h3, h4, h32, h57, p, List.length_map]
      refine ⟨i + 1, by simp only [go_sem, reduceIte, Nat.reduceEqDiff, Nat.reduceAdd, Nat.reduceSub, Nat.reduceLeDiff, Nat.reduceLT, reduceCtorEq, Int.reduceLT, Int.reduceLE, Int.reduceEq, Int.reduceBEq, Int.reduceSub, Int.reduceAdd, Int.reduceMul, Int.reduceNeg, Int.reduceToNat, Nat.reduceMul, Nat.reduceBEq, ren1_locm, loc_tips, locT_eq, okRefsB, renCellsB, okRefsJ, renCellsJ, List.take_length] <;> rfl, ?_, ?_, fun x en s hq => ?_⟩
      · omega
      · omega
      · exact hq
  · have hlt : ((i : Int) < (C.length : Int)) = False := eq_false (by omega)
    simp only [go_sem, reduceIte, Nat.reduceEqDiff, Nat.reduceAdd, Nat.reduceSub, Nat.reduceLeDiff, Nat.reduceLT, reduceCtorEq, Int.reduceLT, Int.reduceLE, Int.reduceEq, Int.reduceBEq, Int.reduceSub, Int.reduceAdd, Int.reduceMul, Int.reduceNeg, Int.reduceToNat, Nat.reduceMul, Nat.reduceBEq, index_rsl_if, setm, make_ints, condK_dec, wantK_dec, not_dec, and_dec, or_dec, seqK_ite, seqK_none, blockK_ite, blockK_none, opsK_ite, opsK_none, stepK_ite, stepK_none, bodyK_ite, bodyK_none, resK_ite, resK_none, leaveK_ite, leaveK_none, only_ite, only_none, bind_ite, gives_some, gives_none, gives_ite, then_normal, then_ret, then_exit, then_none, then_ite, Option.bind_none, Bool.not_eq_true', decide_eq_false_iff_not, Bool.and_eq_true, Bool.or_eq_true, Option.some.injEq, Int.not_lt, Int.not_le, lp12_6, hlt]


theorem setErr_ok {n : Int} : ∀ (l : List Int) (last : Int), (∀ x ∈ l, last < x ∧ 0 ≤ x ∧ x < n) → l.Pairwise (· < ·) → setErr n last l = 0
  | [], _, _, _ => rfl
  | x :: r, last, h, hp => by
    have hx := h x (by simp)
    rw [List.pairwise_cons] at hp
    unfold setErr
    rw [if_neg (by omega), if_neg (by omega)]
    exact setErr_ok r x (fun y hy => by have := h y (by simp [hy]); exact ⟨hp.1 y hy, this.2⟩) hp.2
theorem setErr_memb {n m : Nat} (hm : m < 2 ^ n) : setErr (n : Int) (-1) (memb m) = 0 := by
  refine setErr_ok _ _ (fun x hx => ?_) ?_
  · unfold memb at hx
    obtain ⟨i, hi, rfl⟩ := List.mem_map.1 hx
    have := bit_lt hm (List.mem_filter.1 hi).2
    omega
  · unfold memb
    rw [List.pairwise_map]
    exact (List.pairwise_lt_range.filter _).imp (fun h => by omega)
theorem memb_mem {m : Nat} (hm : m < 128) (x : Nat) : ((x : Nat) : Int) ∈ memb m ↔ m.testBit x = true := by
  unfold memb
  rw [List.mem_map]
  constructor
  · rintro ⟨i, hi, e⟩
    obtain rfl : i = x := by omega
    exact (List.mem_filter.1 hi).2
  · intro h
    exact ⟨x, List.mem_filter.2 ⟨List.mem_range.2 (bit_lt7 hm h), h⟩, rfl⟩
theorem memb_nil {m : Nat} (hm : m < 128) (h : m ≠ 0) : memb m ≠ [] := fun e => by
  have h2 := setL_memb hm
  rw [e] at h2
  exact h h2.symm
/-- The choices are sets. -/
theorem chos_set {n : Nat} {ps : List (Int × Int)} {c : List Int} (hc : c ∈ chosL n ps) : ∃ m, m < 2 ^ n ∧ c = memb m ∧ jdg n (seeL 7 ps) m = 0 := by
  unfold chosL at hc
  have := (sortL_perm lexLt _).mem_iff.1 hc
  unfold kerL at this
  obtain ⟨m, hm, rfl⟩ := List.mem_map.1 this
  obtain ⟨hmr, h2⟩ := List.mem_filter.1 hm
  rw [decide_eq_true_iff] at h2
  rw [List.mem_range'_1] at hmr
  exact ⟨m, by omega, rfl, h2⟩
/-- To a choice there is at most one step. -/
theorem near_choice {w : List Nat} {n m a : Nat} (h : jdg n w m = 0) (ha : a < n) {r : Option (List Nat)} (hN : Near w n a [m] r) :
    ∃ Y, r = some Y ∧ Y.length ≤ 2 ∧ (Y.length = 2 ↔ ¬ m.testBit a = true) := by
  rw [jdg_zero] at h
  have h1 := h a ha
  have hw : m.testBit a = false → (wideN w n m).testBit a = true := fun hb => by
    rw [wideN_bit ha, Bool.or_eq_true, decide_eq_true_iff]
    right
    intro hz
    have := h1.2 hz
    rw [hb] at this; simp at this
  have hl : lastN [m] = m := rfl
  cases hN with
  | hit _ hb => exact ⟨[m], rfl, by simp, by rw [hl] at hb; simp [hb]⟩
  | stop _ hb he => rw [hl] at hb he; have := hw hb; rw [he, hb] at this; simp at this
  | step _ _ hb hne hn =>
    rw [hl] at hb hn
    have h2 := hw hb
    have hl2 : lastN ([m] ++ [wideN w n m]) = wideN w n m := lastN_snoc _ _
    generalize hZ : [m] ++ [wideN w n m] = Z at hn hl2
    cases hn with
    | hit _ _ => subst hZ; exact ⟨_, rfl, by simp, by simp [hb]⟩
    | stop _ hb2 _ => rw [hl2, h2] at hb2; simp at hb2
    | step _ _ hb2 _ _ => rw [hl2, h2] at hb2; simp at hb2

/-! ### the law's numbers in the beginning -/
theorem zeroF_fold (z : Nat) : ∀ (l : List Nat) (F : List Nat), (∀ x ∈ l, x < F.length) → (l.foldl zeroF F).getD z 0 = if z ∈ l then 0 else F.getD z 0
  | [], F, _ => by simp
  | x :: r, F, h => by
    have hx := h x (by simp)
    rw [List.foldl_cons, zeroF_fold z r _ (fun y hy => by unfold zeroF; rw [List.length_set]; exact h y (by simp [hy]))]
    unfold zeroF
    rw [getD_set F x 0 z hx]
    by_cases h1 : z ∈ r
    · simp [h1]
    · by_cases h2 : z = x
      · simp [h2]
      · simp [h1, h2]
theorem zeroF_len : ∀ (l : List Nat) (F : List Nat), (l.foldl zeroF F).length = F.length
  | [], _ => rfl
  | x :: r, F => by rw [List.foldl_cons, zeroF_len r]; simp [zeroF]
def farL (m : Nat) : List Nat := (bitsL m).foldl zeroF (List.replicate 8 9)
theorem farL_get (m z : Nat) : (farL m).getD z 0 = if z ∈ bitsL m then 0 else (List.replicate 8 9).getD z 0 :=
  zeroF_fold z _ _ (fun x hx => by have := bits_lt m x hx; simpa using this)
theorem farL_small (m : Nat) : Small9 (farL m) := by
  refine ⟨by unfold farL; rw [zeroF_len]; simp, fun z => ?_⟩
  rw [farL_get]
  split
  · omega
  · rw [List.getD_eq_getElem?_getD, List.getElem?_replicate]; split <;> simp
theorem farL_to {w : List Nat} {n m : Nat} (hn : n ≤ 7) : FarTo w n m 0 (farL m) := by
  refine ⟨⟨(farL_small m).1, fun x _ => (farL_small m).2 x, fun x hx => ?_⟩, fun k hk x hx hb => ?_⟩
  · rw [farL_get]
    split
    · next h => right; exact (List.mem_filter.1 h).2
    · left; rw [List.getD_eq_getElem?_getD, List.getElem?_replicate, if_pos (by omega)]; rfl
  · obtain rfl : k = 0 := by omega
    rw [farL_get, if_pos]
    · omega
    · exact List.mem_filter.2 ⟨List.mem_range.2 (by omega), hb⟩

/-! ### what hangs on the web's sets alone -/
theorem relX_congr {w w' : List Nat} (h : ∀ a, w.getD a 0 = w'.getD a 0) : relX w = relX w' := by funext F x; unfold relX; rw [h]
theorem relN_congr {w w' : List Nat} (h : ∀ a, w.getD a 0 = w'.getD a 0) (n : Nat) : ∀ (k : Nat) (F : List Nat), relN w n k F = relN w' n k F
  | 0, _ => rfl
  | k + 1, F => by
    show relN w n k (relR w n F) = relN w' n k (relR w' n F)
    unfold relR
    rw [relX_congr h]; exact relN_congr h n k _
theorem nxtF_congr {w w' : List Nat} (h : ∀ a, w.getD a 0 = w'.getD a 0) (F : List Nat) (a : Nat) : nxtF w F a = nxtF w' F a := by unfold nxtF; rw [h]
theorem goF_congr {w w' : List Nat} (h : ∀ a, w.getD a 0 = w'.getD a 0) (F : List Nat) : ∀ (j a : Nat) (o : List Int), goF w F j a o = goF w' F j a o
  | 0, _, _ => rfl
  | j + 1, a, o => by
    show goF w F j (nxtF w F a) _ = goF w' F j (nxtF w' F a) _
    rw [nxtF_congr h]; exact goF_congr h F j _ _
theorem seeL_87 {ps : List (Int × Int)} (h7 : ∀ p ∈ ps, okP p) (a : Nat) : (seeL 8 ps).getD a 0 = (seeL 7 ps).getD a 0 := by
  apply Nat.eq_of_testBit_eq
  intro b
  rw [seeL_bit (by omega) h7, seeL_bit (by omega) h7]
theorem relN_small {w : List Nat} {n : Nat} (hn : n ≤ 7) : ∀ (k : Nat) (F : List Nat), Small9 F → Small9 (relN w n k F)
  | 0, _, h => h
  | k + 1, F, h => by
    have : ∀ (l : List Nat) (F : List Nat), (∀ x ∈ l, x < 8) → Small9 F → Small9 (l.foldl (relX w) F) := by
      intro l
      induction l with
      | nil => intro F _ h; exact h
      | cons x r ih => intro F hl h; exact ih _ (fun y hy => hl y (by simp [hy])) (small9_X w (hl x (by simp)) _ _ h)
    exact relN_small hn k _ (this _ _ (fun x hx => by rw [List.mem_range'_1] at hx; omega) h)

attribute [local go_sem] shaped_t cells_t isAgg_t storable_t okRef_t pub_t okRef_r

theorem allV_ok {n : Nat} {ps : List (Int × Int)} (h : chk (n : Int) ps = 0) : allV (n : Int) ps = chosL n ps := by
  unfold allV; rw [if_pos h, Int.toNat_natCast]
/-- What Way answers for a choice. -/
theorem way_choice (n : Nat) (hn : 1 ≤ n ∧ n ≤ 7) (ps : List (Int × Int)) (h : chk (n : Int) ps = 0) (a : Nat) (ha : a < n) {c : List Int} (hc : c ∈ chosL n ps) :
    0 < c.length ∧ c.length < 1000000 ∧ ∃ r : List Int, (∀ st, run L 32 [bkAV true (n : Int) ps, tAV c, I a] st = some (.tup [sl 1 true (r.map I), I 0], st)) ∧ r.length ≤ 2 ∧ (r.length = 2 ↔ ¬((a : Nat) : Int) ∈ c) := by
  obtain ⟨h1, h2⟩ := chos_ne hn.1 hn.2 c hc
  have hpos := List.length_pos_iff.2 h1
  obtain ⟨m, hm, rfl, hj⟩ := chos_set hc
  have hm128 : m < 128 := Nat.lt_of_lt_of_le hm (Nat.pow_le_pow_right (n := 2) (by omega) hn.2)
  obtain ⟨V, e, hW, h32⟩ := c32 true true (n : Int) ps (memb m) (by omega) (a : Int)
  refine ⟨hpos, by omega, V, ?_⟩
  unfold WayR at hW
  rw [if_pos h, if_neg (by omega), if_pos (setErr_memb hm), if_neg (by omega)] at hW
  obtain ⟨r, hN, h3⟩ := hW
  rw [Int.toNat_natCast, Int.toNat_natCast, setL_memb hm128] at hN
  obtain ⟨Y, rfl, hY1, hY2⟩ := near_choice hj ha hN
  rcases h3 with ⟨h4, _⟩ | ⟨Y', h4, rfl, rfl⟩
  · simp at h4
  · cases h4
    have hl := wayL_len (seeL 7 ps) Y (Y.length - 1) a [(a : Int)]
    rw [Int.toNat_natCast]
    simp only [List.length_singleton] at hl
    have hY0 : 1 ≤ Y.length := (near_ok hN Y rfl (fun j hj => by simp at hj) (by simp) (fun j hj => by simp at hj)).2.1
    refine ⟨h32, by omega, ?_⟩
    rw [memb_mem hm128, ← hY2]
    omega

set_option maxHeartbeats 2000000 in
theorem c12 (zs : List Int) (g a1 : Int) (hzl : zs.length = 34) (hz : ∀ a ∈ zs, Byte a) (hg : Byte g) (ha1 : Byte a1) (st : St) :
    run L 12 [qAV zs, B8 g, B8 a1] st = some (B true, st) := by
  rw [run_pure (fn := ir12) rfl rfl]
  obtain ⟨n, hN, h1, h2, h3, h4, h5, h6, h7, h8⟩ := made_ok (.inr rfl) zs
  have h45 := fun st => c45 zs hzl hz 7 (.inr rfl) st
  rw [hN] at h45
  generalize madeP 7 zs = ps at *
  have h50 := fun st => c50 true (n : Int) ps (by omega) h6 st
  have h20 := fun st => c20 true (n : Int) ps st
  have h46 := fun st => c46 true n ps h8 st
  rw [allV_ok h8] at h20
  have htk : (zs.map B8).take 34 = zs.map B8 := List.take_of_length_le (by rw [List.length_map]; omega)
  have hpj := putJ (seeL 8 ps) (seeL_len 8 ps)
  have hlj := seeL_len 8 ps
  unfold Byte at hg ha1
  have wg := wrap64 g (by omega) (by omega)
  have wa := wrap64 a1 (by omega) (by omega)
  have hp1 : 1 ≤ 2 ^ n := Nat.one_le_two_pow
  have hp2 : 2 ^ n ≤ 128 := Nat.pow_le_pow_right (n := 2) (by omega) h3
  have hsh := shl_i n (by omega)
  have tg : g.tmod ((2 ^ n : Nat) : Int) = g % ((2 ^ n : Nat) : Int) := tmod8 (by omega)
  have rg := mod_range g ((2 ^ n : Nat) : Int) (by omega)
  have ta : a1.tmod (n : Int) = a1 % (n : Int) := tmod8 (by omega)
  have ra := mod_range a1 (n : Int) (by omega)
  have zg : (((2 ^ n : Nat) : Int) = 0) = False := eq_false (by omega)
  have za : ((n : Int) = 0) = False := eq_false (by omega)
  obtain ⟨m, hm⟩ := Int.eq_ofNat_of_zero_le rg.1
  obtain ⟨a, hma⟩ := Int.eq_ofNat_of_zero_le ra.1
  have hmlt : m < 2 ^ n := by omega
  have halt : a < n := by omega
  have hm128 : m < 128 := by omega
  generalize ((2 ^ n : Nat) : Int) = p2 at *
  have h51 : ∀ st, run L 51 [J m] st = some (tAV (memb m), st) := fun st => c51 m hm128 st
  have hml := memb_len m
  obtain ⟨V, e, hW, h32⟩ := c32 true true (n : Int) ps (memb m) (by omega) (a : Int)
  have et : tAV (memb m) = sl 1 true ((memb m).map I) := rfl
  rw [← et] at h32
  unfold WayR at hW
  rw [if_pos h8] at hW
  by_cases pm : m = 0
  · subst pm
    rw [if_pos (by rfl)] at hW
    obtain ⟨rfl, rfl⟩ := hW
    have h51' : ∀ st, run L 51 [I 0] st = some (tAV (memb 0), st) := h51
    have hm' : g % p2 = 0 := hm
    simp only [ir12, go_sem, reduceIte, Nat.reduceEqDiff, Nat.reduceAdd, Nat.reduceSub, Nat.reduceLeDiff, Nat.reduceLT, reduceCtorEq, Int.reduceLT, Int.reduceLE, Int.reduceEq, Int.reduceBEq, Int.reduceSub, Int.reduceAdd, Int.reduceMul, Int.reduceNeg, Int.reduceToNat, Nat.reduceMul, Nat.reduceBEq, okRefsB, renCellsB, pubsB, storableB, pubsJ, storableJ, h45, h50, hpj, hlj, hsh, wg, wa, tg, ta, zg, za, hm', hma, h51', h32, hzl, htk, List.length_map, c17]
  · have hmne := memb_nil hm128 pm
    have hmpos := List.length_pos_iff.2 hmne
    have qm : ((m : Int) = 0) = False := eq_false (by omega)
    rw [if_neg (by omega), if_pos (setErr_memb hmlt), if_neg (by omega)] at hW
    obtain ⟨r, hNr, hW⟩ := hW
    rw [Int.toNat_natCast, Int.toNat_natCast, setL_memb hm128] at hNr
    have h87 := seeL_87 h6
    have hwn := seeL_in (Nat.le_refl 7) (fun p hp => h5 p hp) h6
    have hF0 := farL_to (w := seeL 7 ps) (m := m) h3
    have hFn := relN_far (g := m) h3 hwn n 0 (farL m) hF0
    rw [Nat.zero_add] at hFn
    have hFs := relN_small (w := seeL 7 ps) h3 n (farL m) (farL_small m)
    have hcg := relN_congr h87 n n (farL m)
    have hfl : (bitsL m).foldl zeroF (List.replicate 8 9) = farL m := rfl
    have hfn := far_near h3 hFn halt hNr
    have eJ : tAV (memb m) = sl 1 true ((bitsL m).map J) := by rw [et, memb_J]
    have hbl : (memb m).length = (bitsL m).length := by simp [memb, bitsL]
    have hll : lenAV (sl 1 true ((bitsL m).map J)) = some (I (bitsL m).length) := by rw [len_sl, List.length_map]
    rw [eJ] at h51 h32
    simp only [ir12, go_sem, reduceIte, Nat.reduceEqDiff, Nat.reduceAdd, Nat.reduceSub, Nat.reduceLeDiff, Nat.reduceLT, reduceCtorEq, Int.reduceLT, Int.reduceLE, Int.reduceEq, Int.reduceBEq, Int.reduceSub, Int.reduceAdd, Int.reduceMul, Int.reduceNeg, Int.reduceToNat, Nat.reduceMul, Nat.reduceBEq, okRefsB, renCellsB, pubsB, storableB, pubsJ, storableJ, h45, h50, hpj, hlj, hsh, wg, wa, tg, ta, zg, za, hm, hma, h51, h32, hzl, htk, List.length_map, qm]
    generalize hg : lim (headed pure (run L) true _ lp12_0 _ _) _ _ = o
    obtain ⟨x, en, s, rfl, h2⟩ : ∃ x en s, o = some (x, en, s) ∧ _ := by rw [← hg]; exact loop12_0 zs n ps (seeL 8 ps) (a : Int) V e (bitsL m) (bits_lt m) (bits_len m) 0 (List.replicate 8 9) ⟨by omega, by simp⟩ _ _ (by simp only [go_sem, reduceIte, Nat.reduceEqDiff, Nat.reduceAdd, Nat.reduceSub, Nat.reduceLeDiff, Nat.reduceLT, reduceCtorEq, Int.reduceLT, Int.reduceLE, Int.reduceEq, Int.reduceBEq, Int.reduceSub, Int.reduceAdd, Int.reduceMul, Int.reduceNeg, Int.reduceToNat, Nat.reduceMul, Nat.reduceBEq, okRefsB, renCellsB, okRefsJ, renCellsJ, J9, Int.natCast_zero] <;> rfl)
    clear hg
    rw [List.drop_zero, hfl] at h2
    obtain ⟨rfl, e7, e8, e9, e11, e12, e13, e14, rfl⟩ := h2
    simp only [go_sem, reduceIte, Nat.reduceEqDiff, Nat.reduceAdd, Nat.reduceSub, Nat.reduceLeDiff, Nat.reduceLT, reduceCtorEq, Int.reduceLT, Int.reduceLE, Int.reduceEq, Int.reduceBEq, Int.reduceSub, Int.reduceAdd, Int.reduceMul, Int.reduceNeg, Int.reduceToNat, Nat.reduceMul, Nat.reduceBEq, e7, e8, e9, e11, e12, e13, e14]
    generalize hg : lim (headed pure (run L) true _ lp12_3 _ _) _ _ = o
    obtain ⟨x, en, s, rfl, h2⟩ : ∃ x en s, o = some (x, en, s) ∧ _ := by rw [← hg]; exact loop12_3 zs n h3 ps (seeL 8 ps) (seeL_len 8 ps) (seeL_small 8 h6) (a : Int) V e 0 (farL m) ⟨by omega, farL_small m⟩ _ _ (by simp only [go_sem, reduceIte, Nat.reduceEqDiff, Nat.reduceAdd, Nat.reduceSub, Nat.reduceLeDiff, Nat.reduceLT, reduceCtorEq, Int.reduceLT, Int.reduceLE, Int.reduceEq, Int.reduceBEq, Int.reduceSub, Int.reduceAdd, Int.reduceMul, Int.reduceNeg, Int.reduceToNat, Nat.reduceMul, Nat.reduceBEq, okRefsB, renCellsB, okRefsJ, renCellsJ, e7, e8, e9, e11, e12, e13, e14, Int.natCast_zero] <;> rfl)
    clear hg
    rw [Nat.sub_zero, hcg] at h2
    obtain ⟨rfl, e7, e8, e9, e11, e12, e13, e14, rfl⟩ := h2
    have hnx := fun b j hb hj hf => nxt_ok (a := b) (j := j) h3 (seeL_small 7 h6) hwn hFn hb hj hf
    generalize relN (seeL 7 ps) n n (farL m) = F at *
    have hl8 := hFs.1
    have g1 := getJ F a (by omega)
    have b1 : ((0 : Int) ≤ (a : Int)) = True := eq_true (by omega)
    have b2 : ((a : Int) < 8) = True := eq_true (by omega)
    have b5 : (a + 1 ≤ 8) = True := eq_true (by omega)
    rcases hfn with ⟨rfl, hFa⟩ | ⟨Y, rfl, hY, hFa, hFb⟩
    · rcases hW with ⟨_, rfl, rfl⟩ | ⟨Y, hY, _⟩
      · rw [hFa] at g1
        have hgt : ((8 : Int) < ((9 : Nat) : Int)) = True := eq_true (by omega)
        simp only [go_sem, reduceIte, Nat.reduceEqDiff, Nat.reduceAdd, Nat.reduceSub, Nat.reduceLeDiff, Nat.reduceLT, reduceCtorEq, Int.reduceLT, Int.reduceLE, Int.reduceEq, Int.reduceBEq, Int.reduceSub, Int.reduceAdd, Int.reduceMul, Int.reduceNeg, Int.reduceToNat, Nat.reduceMul, Nat.reduceBEq, e7, e8, e9, e11, e12, e13, e14, g1, b1, b2, b5, hl8, hgt, List.length_map, List.map_nil, c17]
      · simp at hY
    · rcases hW with ⟨hY2, _⟩ | ⟨Y2, hY2, rfl, rfl⟩
      · simp at hY2
      · cases hY2
        have hgt : ((8 : Int) < ((F.getD a 0 : Nat) : Int)) = False := eq_false (by omega)
        obtain ⟨gr, _, gl, gn⟩ := near_ok hNr Y rfl (fun j hj => by simp at hj) (by simp) (fun j hj => by simp at hj)
        have hok := way_ok gr (seeL_small 7 h6) hwn (Y.length - 1) a (by omega) halt gl (fun i hi => gn i (by omega))
        have hgo := go_eq h3 (seeL_small 7 h6) hwn hFn hY (Y.length - 1) a [(a : Int)] halt (by omega) (by omega) hok
        have hgo8 := goF_congr h87 F (Y.length - 1) a [(a : Int)]
        rw [hgo] at hgo8
        have hgne := wayL_ne (seeL 7 ps) Y (Y.length - 1) a [(a : Int)] (by simp)
        have hwl := wayL_len (seeL 7 ps) Y (Y.length - 1) a [(a : Int)]
        have hnx8 : ∀ b j, b < n → j < 8 → F.getD b 0 = j + 1 → F.getD (nxtF (seeL 8 ps) F b) 0 = j ∧ nxtF (seeL 8 ps) F b < n := fun b j hb hj hf => by
          rw [nxtF_congr h87]; exact hnx b j hb hj hf
        have er1 : rA [(a : Int)] = .lst .full 1 [I (a : Int)] := rfl
        have er2 : rT [(a : Int)] = [] := rfl
        simp only [go_sem, reduceIte, Nat.reduceEqDiff, Nat.reduceAdd, Nat.reduceSub, Nat.reduceLeDiff, Nat.reduceLT, reduceCtorEq, Int.reduceLT, Int.reduceLE, Int.reduceEq, Int.reduceBEq, Int.reduceSub, Int.reduceAdd, Int.reduceMul, Int.reduceNeg, Int.reduceToNat, Nat.reduceMul, Nat.reduceBEq, e7, e8, e9, e11, e12, e13, e14, g1, b1, b2, b5, hl8, hgt, List.length_map, c56, show pure 56 = false from rfl]
        generalize hg : lim (headed pure (run L) true _ lp12_5 _ _) _ _ = o
        obtain ⟨x, en, s, rfl, h2⟩ : ∃ x en s, o = some (x, en, s) ∧ _ := by rw [← hg]; exact loop12_5 zs n h3 ps (seeL 8 ps) (seeL_len 8 ps) (seeL_small 8 h6) (a : Int) _ 0 F hFs hnx8 (Y.length - 1) a [(a : Int)] ⟨halt, by omega, by omega, by simp, by simp; omega⟩ _ _ (by simp only [go_sem, reduceIte, Nat.reduceEqDiff, Nat.reduceAdd, Nat.reduceSub, Nat.reduceLeDiff, Nat.reduceLT, reduceCtorEq, Int.reduceLT, Int.reduceLE, Int.reduceEq, Int.reduceBEq, Int.reduceSub, Int.reduceAdd, Int.reduceMul, Int.reduceNeg, Int.reduceToNat, Nat.reduceMul, Nat.reduceBEq, okRefsB, renCellsB, okRefsJ, renCellsJ, er1, er2, e7, e8, e9, e11, e12, e13, e14] <;> rfl)
        clear hg
        rw [hgo8] at h2
        generalize wayL (seeL 7 ps) Y (Y.length - 1) a [(a : Int)] = W at *
        obtain ⟨rfl, e7, e11, e12, e13, e20, rfl⟩ := h2
        have h22 : ∀ st, run L 22 [sl 1 true (W.map I), rA W] st = some (B true, st) := fun st => by
          have := c22 true true W W (by simp at hwl; omega) st
          rw [decide_eq_true rfl] at this
          rw [← this]
          exact run_args (fn := ir22) rfl rfl st (by simp only [pubs, pub_r W hgne, pub_sl])
        have hcl : (chosL n ps).length ≤ 12 := by
          unfold chosL; rw [(sortL_perm lexLt _).length_eq]; exact ker12 h3 (fun p hp => h5 p hp) h6
        have hce := fun c hc => chos_ne h1 h3 (ps := ps) c hc
        have h23 : ∀ st, run L 23 [sl 1 true ((chosL n ps).map tAV), sl 1 true ((chosL n ps).map tAV)] st = some (B true, st) := fun st => by
          have := c23t true true (chosL n ps) (chosL n ps) (by omega) (fun l hl => by have := (hce l hl).2; omega) (fun l hl => (hce l hl).1) (fun l hl => (hce l hl).1) st
          rw [decide_eq_true rfl] at this
          exact this
        have hlc : lenAV (sl 1 true ((chosL n ps).map tAV)) = some (I (chosL n ps).length) := by rw [len_sl, List.length_map]
        simp only [go_sem, reduceIte, Nat.reduceEqDiff, Nat.reduceAdd, Nat.reduceSub, Nat.reduceLeDiff, Nat.reduceLT, reduceCtorEq, Int.reduceLT, Int.reduceLE, Int.reduceEq, Int.reduceBEq, Int.reduceSub, Int.reduceAdd, Int.reduceMul, Int.reduceNeg, Int.reduceToNat, Nat.reduceMul, Nat.reduceBEq, e7, e11, e12, e13, e20, h22, h20, h8, h46, h23, hlc]
        generalize hg : lim (headed pure (run L) true _ lp12_6 _ _) _ _ = o
        obtain ⟨x, en, s, rfl, h2⟩ : ∃ x en s, o = some (x, en, s) ∧ _ := by rw [← hg]; exact loop12_6 zs n ps (seeL 8 ps) (a : Int) F (rT W) (chosL n ps) (by omega) (fun c hc => way_choice n ⟨h1, h3⟩ ps h8 a halt hc) (rT W).length rfl 0 (by omega) _ _ (by simp only [go_sem, reduceIte, Nat.reduceEqDiff, Nat.reduceAdd, Nat.reduceSub, Nat.reduceLeDiff, Nat.reduceLT, reduceCtorEq, Int.reduceLT, Int.reduceLE, Int.reduceEq, Int.reduceBEq, Int.reduceSub, Int.reduceAdd, Int.reduceMul, Int.reduceNeg, Int.reduceToNat, Nat.reduceMul, Nat.reduceBEq, okRefsB, renCellsB, okRefsJ, renCellsJ, List.take_length, e7, e11, e12, e13, e20, Int.natCast_zero] <;> rfl)
        clear hg
        subst h2
        simp only [go_sem, reduceIte, Nat.reduceEqDiff, Nat.reduceAdd, Nat.reduceSub, Nat.reduceLeDiff, Nat.reduceLT, reduceCtorEq, Int.reduceLT, Int.reduceLE, Int.reduceEq, Int.reduceBEq, Int.reduceSub, Int.reduceAdd, Int.reduceMul, Int.reduceNeg, Int.reduceToNat, Nat.reduceMul, Nat.reduceBEq, c17]
end Go.Proofs.YtgohohiaaiogcaaDoor.Vm
