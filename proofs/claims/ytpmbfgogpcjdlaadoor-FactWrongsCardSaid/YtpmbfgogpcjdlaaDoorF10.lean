/- What is proved: what functions of this program answer, by the evaluator. No condition. -/
import Derived.Test.YtpmbfgogpcjdlaaDoorF9
set_option linter.all false
namespace Go.Proofs.YtpmbfgogpcjdlaaDoor.Vm
open Go Go.Ev
set_option maxRecDepth 100000
attribute [local go_sem] cells_any storable_any ren1_any shaped_ptr cells_ptr storable_ptr ren1_ptr shaped_eptr cells_eptr storable_eptr ren1_eptr shaped_rsl cells_rsl storable_rsl ren1_rsl shaped_int cells_int storable_int ren1_int shaped_bool cells_bool storable_bool ren1_bool shaped_nils cells_nils storable_nils ren1_nils shaped_lst cells_lst storable_lst shaped_fn cells_fn storable_fn ren1_fn shaped_ifc cells_ifc storable_ifc ren1_ifc shaped_agg cells_agg storable_agg ren1_agg shaped_tup cells_tup storable_tup ren1_tup shaped_nif cells_nif storable_nif ren1_nif ren1_lany ren1_lfull ren1_lown len_lst len_rsl len_nil load_ptr load_eptr isRsl_lst isRsl_nil isRsl_rsl elems_nil elems_lst elems_sl isRsl_sl body_eq bodyK_normal bodyK_ret resK_some leaveK_some only_some code_skip code_exit code_ret code_ops code_seq code_cond code_block seqK_normal seqK_ret seqK_exit condK_true condK_false blockK_normal blockK_ret blockK_exit opsK_some ops_nil ops_cons wantK_true wantK_false stepK_some pubs pub pub_sl params okRef_loc storable_loc shaped_loc cells_loc isRsl_loc elems_loc len_loc untips untip untip_sl wantedAV setElems withO isAgg_v isAgg_agg isAgg_lst isAgg_ptr isAgg_fn isAgg_ifc isAgg_rsl isAgg_sl isAgg_loc List.replicate_succ List.replicate_zero opAV valAV aval avals ofVal Env.get setD canon gcAV renAll renEnv renStore renCells ren1_sl cutSt okEnv okStore okRefs okRef okRef_sl bin_int bin_bool bin_lst bin_rsl bin_nil bin_agg cellsEq cellEq isShift intOp boolOp min_int max_int beq_int bne resAV tupAV leave_eq fin_sl fin_loc fins fin_v fin_lst fin_agg fin_tup fin_fn storeAV readCells putCells cells_sl shaped_sl storable_sl fieldAddrAV len_sl goI List.getElem?_cons_zero List.getElem?_cons_succ List.getElem?_nil Option.bind_some Option.map_some List.length_cons List.length_nil List.all_cons List.all_nil Bool.and_true Bool.true_and Bool.and_false Bool.false_and and_true true_and and_false false_and Bool.false_eq_true List.set_cons_zero List.set_cons_succ List.append_nil List.nil_append List.cons_append List.take_zero List.take_succ_cons List.take_nil List.drop_zero List.drop_succ_cons List.map_cons List.map_nil decide_true decide_false beq_self_eq_true Bool.not_true Bool.not_false or_true true_or or_false false_or Nat.zero_add Nat.add_zero Nat.le_refl Nat.lt_irrefl decide_eq_true_eq eq_self_iff_true not_true_eq_false not_false_eq_true List.getD_cons_zero code_loop Nat.zero_le Nat.not_lt_zero Bool.true_beq Bool.false_beq beq_true beq_false ge_iff_le gt_iff_lt Lpure pus Option.map_none assert_ifc assert_nil idxA_ptr idxA_eptr idxV_agg Int.cast_ofNat_Int Nat.mul_one Nat.zero_mul Int.toNat_natCast Int.toNat_zero setParts withO2 hasKey eqnil_sl nenil_sl eqnil_loc nenil_loc map_nil_iff okRefs_ints renCells_ints

theorem index_lists (nl : Bool) (xs : List (List Int)) (i : Nat) (h : i < xs.length) : indexSAV 1 (sl 1 nl (xs.map listAV)) (.v (.int .i64 i)) = some (.eptr (listAV xs[i]) 0) := by
  rw [index_sl _ _ _ _ _ (by omega) (by simpa using h)]
  simp
theorem index_loc0 (x : List Int) (r : List (List Int)) : indexSAV 1 (loc 1 0 ((x :: r).map listAV)) (.v (.int .i64 0)) = some (.eptr (listAV x) 0) := by
  rw [index_loc _ _ _ _ _ (by omega) (by simp)]
  simp

/-- The cheapest lists so far, and one more. -/
def cStep (ps : List (Int × Int)) (out : List (List Int)) (l : List Int) : List (List Int) :=
  if halfOk ps l = true then
    match out with
    | [] => [l]
    | x :: r => if sumL l < sumL x then [l] else if sumL l = sumL x then (x :: r) ++ [l] else x :: r
  else out
theorem cStep_len (ps : List (Int × Int)) (out : List (List Int)) (l : List Int) : (cStep ps out l).length ≤ out.length + 1 := by
  unfold cStep
  split
  · split
    · simp
    · split
      · simp
      · split <;> simp
  · omega
theorem cStep_in {ps : List (Int × Int)} {out : List (List Int)} {l : List Int} {P : List Int → Prop} (h : ∀ x ∈ out, P x) (hl : P l) : ∀ x ∈ cStep ps out l, P x := by
  unfold cStep
  split
  · split
    · simpa using hl
    · split
      · simpa using hl
      · split
        · intro x hx; rcases List.mem_append.1 hx with h1 | h1
          · exact h x h1
          · rw [List.mem_singleton.1 h1]; exact hl
        · exact h
  · exact h

/-- A list of small numbers, so many. -/
def okL (n : Int) (l : List Int) : Prop := (l.length : Int) = n ∧ ∀ x ∈ l, 0 ≤ x ∧ x ≤ 2

set_option maxHeartbeats 1000000 in
theorem loop73 (nl : Bool) (n : Int) (hn : n ≤ 7) (ps : List (Int × Int)) (hlen : ps.length < 1000) (hps : ∀ p ∈ ps, 0 ≤ p.1 ∧ p.1 < p.2 ∧ p.2 < n) (ls : List (List Int)) (hll : ls.length ≤ 5000) (hls : ∀ l ∈ ls, okL n l) (i : Nat) (out : List (List Int)) (hok : i ≤ ls.length ∧ out.length ≤ i ∧ ∀ l ∈ out, okL n l) (env : Env) (st : St)
    (hg : gcAV true 1 0 (canon env [2, 5, 6, 7]) st = ([(2, .ptr 0 0), (5, loc 1 0 (out.map listAV)), (6, sl 1 true (ls.map listAV)), (7, I i)], ⟨[bkCells nl n ps], locT 0 (out.map listAV)⟩)) :
    ∃ x_1 en s, lim (headed pure (run L) true [2, 5, 6, 7] lp73_0 1 0) env st = some (x_1, en, s) ∧ (x_1 = .exit 0 ∧ en.get 5 = loc 1 0 (((ls.drop i).foldl (cStep ps) out).map listAV)) := by
  refine loop_wp (α := Nat × List (List Int)) (fun ⟨i, out⟩ => ls.length - i) (fun ⟨i, out⟩ => i ≤ ls.length ∧ out.length ≤ i ∧ ∀ l ∈ out, okL n l) (fun ⟨i, out⟩ => ([(2, .ptr 0 0), (5, loc 1 0 (out.map listAV)), (6, sl 1 true (ls.map listAV)), (7, I i)], ⟨[bkCells nl n ps], locT 0 (out.map listAV)⟩)) (fun ⟨i, out⟩ x_1 en s => x_1 = .exit 0 ∧ en.get 5 = loc 1 0 (((ls.drop i).foldl (cStep ps) out).map listAV)) (fun ⟨i, out⟩ hok => ?_) ⟨i, out⟩ hok env st hg
  simp only at hok
  obtain ⟨h1, h2, h3⟩ := hok
  dsimp only
  by_cases h : i < ls.length
  · have hx := index_lists true ls i h
    have hs := succ64 i (by omega)
    have hd : ls.drop i = ls[i] :: ls.drop (i + 1) := List.drop_eq_getElem_cons h
    have hlt : ((i : Int) < (ls.length : Int)) = True := eq_true (by omega)
    have hl := hls ls[i] (List.getElem_mem h)
    rw [hd, List.foldl_cons]
    generalize ls[i] = l at *
    have h85 := fun st => c85 nl false n hn ps hlen hps l hl.1 hl.2 st
    have h94 := fun st => c94 false l (by have := hl.1; omega) hl.2 st
    have hcl := cStep_len ps out l
    have hci := cStep_in (ps := ps) h3 hl
    have hnext : i + 1 ≤ ls.length ∧ (cStep ps out l).length ≤ i + 1 ∧ ∀ x ∈ cStep ps out l, okL n x := ⟨by omega, by omega, hci⟩
    by_cases pe : halfOk ps l = true
    · cases out with
      | nil =>
        have he : cStep ps [] l = [l] := by unfold cStep; rw [if_pos pe]
        rw [he] at hnext ⊢
        have happ := append_locm (z := 1) (k := 0) listAV [] l [bkCells nl n ps] (by simp) (by simp [maxGrow])
        rw [List.nil_append] at happ
        simp only [List.map_nil] at happ ⊢
        simp only [go_sem, reduceIte, Nat.reduceEqDiff, Nat.reduceAdd, Nat.reduceSub, Nat.reduceLeDiff, Nat.reduceLT, reduceCtorEq, Int.reduceLT, Int.reduceLE, Int.reduceEq, Int.reduceBEq, Int.reduceSub, Int.reduceAdd, Int.reduceMul, Int.reduceNeg, Int.reduceToNat, Nat.reduceMul, Nat.reduceBEq, index_rsl_if, setm, make_ints, condK_dec, wantK_dec, not_dec, and_dec, or_dec, seqK_ite, seqK_none, blockK_ite, blockK_none, opsK_ite, opsK_none, stepK_ite, stepK_none, bodyK_ite, bodyK_none, resK_ite, resK_none, leaveK_ite, leaveK_none, only_ite, only_none, bind_ite, gives_some, gives_none, gives_ite, then_normal, then_ret, then_exit, then_none, then_ite, Option.bind_none, Bool.not_eq_true', decide_eq_false_iff_not, Bool.and_eq_true, Bool.or_eq_true, Option.some.injEq, Int.not_lt, Int.not_le, lp73_0, hx, hlt, h85, h94, pe, hs, happ, List.length_map, List.length_nil, Int.natCast_zero]
        refine ⟨(i + 1, [l]), by simp only [go_sem, reduceIte, Nat.reduceEqDiff, Nat.reduceAdd, Nat.reduceSub, Nat.reduceLeDiff, Nat.reduceLT, reduceCtorEq, Int.reduceLT, Int.reduceLE, Int.reduceEq, Int.reduceBEq, Int.reduceSub, Int.reduceAdd, Int.reduceMul, Int.reduceNeg, Int.reduceToNat, Nat.reduceMul, Nat.reduceBEq, ren1_locm, loc_tips, locT_eq] <;> rfl, ?_, ?_, fun x en s hq => ?_⟩
        · exact hnext
        · simp only; omega
        · exact hq
      | cons y r =>
        have hy := h3 y (by simp)
        have h94y := fun st => c94 false y (by have := hy.1; omega) hy.2 st
        have hix := index_loc0 y r
        have q0 : ((0 : Int) < ((y :: r).length : Int)) = True := eq_true (by rw [List.length_cons]; omega)
        have q1 : (((y :: r).length : Int) = 0) = False := eq_false (by rw [List.length_cons]; omega)
        have hlm : ((((y :: r).map listAV).length : Nat) : Int) = ((y :: r).length : Int) := by simp
        generalize hL0 : y :: r = L0 at *
        by_cases p1 : sumL l < sumL y
        · have he : cStep ps L0 l = [l] := by rw [← hL0]; simp only [cStep]; rw [if_pos pe, if_pos p1]
          rw [he] at hnext ⊢
          have happ : ∀ s T, appendAV 1 (.v (.slice none 0 0)) [listAV l] ⟨s, T⟩ = some (.lst (.own T.length 1) 1 [listAV l], ⟨s, T ++ [1]⟩) := fun s T => by simp [appendAV, maxGrow]
          simp only [go_sem, reduceIte, Nat.reduceEqDiff, Nat.reduceAdd, Nat.reduceSub, Nat.reduceLeDiff, Nat.reduceLT, reduceCtorEq, Int.reduceLT, Int.reduceLE, Int.reduceEq, Int.reduceBEq, Int.reduceSub, Int.reduceAdd, Int.reduceMul, Int.reduceNeg, Int.reduceToNat, Nat.reduceMul, Nat.reduceBEq, index_rsl_if, setm, make_ints, condK_dec, wantK_dec, not_dec, and_dec, or_dec, seqK_ite, seqK_none, blockK_ite, blockK_none, opsK_ite, opsK_none, stepK_ite, stepK_none, bodyK_ite, bodyK_none, resK_ite, resK_none, leaveK_ite, leaveK_none, only_ite, only_none, bind_ite, gives_some, gives_none, gives_ite, then_normal, then_ret, then_exit, then_none, then_ite, Option.bind_none, Bool.not_eq_true', decide_eq_false_iff_not, Bool.and_eq_true, Bool.or_eq_true, Option.some.injEq, Int.not_lt, Int.not_le, lp73_0, hx, hlt, h85, h94, h94y, hix, pe, q0, q1, p1, hs, happ, hlm, List.length_map]
          refine ⟨(i + 1, [l]), ?_, hnext, by simp only; omega, fun x en s hq => hq⟩
          by_cases hk : L0.length = 0
          · subst hL0; simp at hk
          · simp only [locT, List.length_map, if_neg hk, go_sem, reduceIte, Nat.reduceEqDiff, Nat.reduceAdd, Nat.reduceSub, Nat.reduceLeDiff, Nat.reduceLT, reduceCtorEq, Int.reduceLT, Int.reduceLE, Int.reduceEq, Int.reduceBEq, Int.reduceSub, Int.reduceAdd, Int.reduceMul, Int.reduceNeg, Int.reduceToNat, Nat.reduceMul, Nat.reduceBEq]
            simp [loc, locT, ren1]
        · by_cases p2 : sumL l = sumL y
          · have he : cStep ps L0 l = L0 ++ [l] := by rw [← hL0]; simp only [cStep]; rw [if_pos pe, if_neg p1, if_pos p2]
            rw [he] at hnext ⊢
            have happ := append_locm (z := 1) (k := 0) listAV L0 l [bkCells nl n ps] (by omega) (by simp [maxGrow]; omega)
            simp only [go_sem, reduceIte, Nat.reduceEqDiff, Nat.reduceAdd, Nat.reduceSub, Nat.reduceLeDiff, Nat.reduceLT, reduceCtorEq, Int.reduceLT, Int.reduceLE, Int.reduceEq, Int.reduceBEq, Int.reduceSub, Int.reduceAdd, Int.reduceMul, Int.reduceNeg, Int.reduceToNat, Nat.reduceMul, Nat.reduceBEq, index_rsl_if, setm, make_ints, condK_dec, wantK_dec, not_dec, and_dec, or_dec, seqK_ite, seqK_none, blockK_ite, blockK_none, opsK_ite, opsK_none, stepK_ite, stepK_none, bodyK_ite, bodyK_none, resK_ite, resK_none, leaveK_ite, leaveK_none, only_ite, only_none, bind_ite, gives_some, gives_none, gives_ite, then_normal, then_ret, then_exit, then_none, then_ite, Option.bind_none, Bool.not_eq_true', decide_eq_false_iff_not, Bool.and_eq_true, Bool.or_eq_true, Option.some.injEq, Int.not_lt, Int.not_le, lp73_0, hx, hlt, h85, h94, h94y, hix, pe, q0, q1, p2, hs, happ, hlm, List.length_map, Int.lt_irrefl]
            refine ⟨(i + 1, L0 ++ [l]), by simp only [go_sem, reduceIte, Nat.reduceEqDiff, Nat.reduceAdd, Nat.reduceSub, Nat.reduceLeDiff, Nat.reduceLT, reduceCtorEq, Int.reduceLT, Int.reduceLE, Int.reduceEq, Int.reduceBEq, Int.reduceSub, Int.reduceAdd, Int.reduceMul, Int.reduceNeg, Int.reduceToNat, Nat.reduceMul, Nat.reduceBEq, ren1_locm, loc_tips, locT_eq] <;> rfl, ?_, ?_, fun x en s hq => ?_⟩
            · exact hnext
            · simp only; omega
            · exact hq
          · have he : cStep ps L0 l = L0 := by rw [← hL0]; simp only [cStep]; rw [if_pos pe, if_neg p1, if_neg p2]
            rw [he] at hnext ⊢
            simp only [go_sem, reduceIte, Nat.reduceEqDiff, Nat.reduceAdd, Nat.reduceSub, Nat.reduceLeDiff, Nat.reduceLT, reduceCtorEq, Int.reduceLT, Int.reduceLE, Int.reduceEq, Int.reduceBEq, Int.reduceSub, Int.reduceAdd, Int.reduceMul, Int.reduceNeg, Int.reduceToNat, Nat.reduceMul, Nat.reduceBEq, index_rsl_if, setm, make_ints, condK_dec, wantK_dec, not_dec, and_dec, or_dec, seqK_ite, seqK_none, blockK_ite, blockK_none, opsK_ite, opsK_none, stepK_ite, stepK_none, bodyK_ite, bodyK_none, resK_ite, resK_none, leaveK_ite, leaveK_none, only_ite, only_none, bind_ite, gives_some, gives_none, gives_ite, then_normal, then_ret, then_exit, then_none, then_ite, Option.bind_none, Bool.not_eq_true', decide_eq_false_iff_not, Bool.and_eq_true, Bool.or_eq_true, Option.some.injEq, Int.not_lt, Int.not_le, lp73_0, hx, hlt, h85, h94, h94y, hix, pe, q0, q1, p1, p2, hs, hlm, List.length_map]
            refine ⟨(i + 1, L0), by simp only [go_sem, reduceIte, Nat.reduceEqDiff, Nat.reduceAdd, Nat.reduceSub, Nat.reduceLeDiff, Nat.reduceLT, reduceCtorEq, Int.reduceLT, Int.reduceLE, Int.reduceEq, Int.reduceBEq, Int.reduceSub, Int.reduceAdd, Int.reduceMul, Int.reduceNeg, Int.reduceToNat, Nat.reduceMul, Nat.reduceBEq, ren1_locm, loc_tips, locT_eq] <;> rfl, ?_, ?_, fun x en s hq => ?_⟩
            · exact hnext
            · simp only; omega
            · exact hq
    · have pe' : halfOk ps l = false := by simpa using pe
      have he : cStep ps out l = out := by unfold cStep; rw [if_neg pe]
      rw [he] at hnext ⊢
      simp only [go_sem, reduceIte, Nat.reduceEqDiff, Nat.reduceAdd, Nat.reduceSub, Nat.reduceLeDiff, Nat.reduceLT, reduceCtorEq, Int.reduceLT, Int.reduceLE, Int.reduceEq, Int.reduceBEq, Int.reduceSub, Int.reduceAdd, Int.reduceMul, Int.reduceNeg, Int.reduceToNat, Nat.reduceMul, Nat.reduceBEq, index_rsl_if, setm, make_ints, condK_dec, wantK_dec, not_dec, and_dec, or_dec, seqK_ite, seqK_none, blockK_ite, blockK_none, opsK_ite, opsK_none, stepK_ite, stepK_none, bodyK_ite, bodyK_none, resK_ite, resK_none, leaveK_ite, leaveK_none, only_ite, only_none, bind_ite, gives_some, gives_none, gives_ite, then_normal, then_ret, then_exit, then_none, then_ite, Option.bind_none, Bool.not_eq_true', decide_eq_false_iff_not, Bool.and_eq_true, Bool.or_eq_true, Option.some.injEq, Int.not_lt, Int.not_le, lp73_0, hx, hlt, h85, pe', hs, List.length_map]
      refine ⟨(i + 1, out), by simp only [go_sem, reduceIte, Nat.reduceEqDiff, Nat.reduceAdd, Nat.reduceSub, Nat.reduceLeDiff, Nat.reduceLT, reduceCtorEq, Int.reduceLT, Int.reduceLE, Int.reduceEq, Int.reduceBEq, Int.reduceSub, Int.reduceAdd, Int.reduceMul, Int.reduceNeg, Int.reduceToNat, Nat.reduceMul, Nat.reduceBEq, ren1_locm, loc_tips, locT_eq] <;> rfl, ?_, ?_, fun x en s hq => ?_⟩
      · exact hnext
      · simp only; omega
      · exact hq
  · have hd : ls.drop i = [] := List.drop_eq_nil_of_le (by omega)
    have hlt : ((i : Int) < (ls.length : Int)) = False := eq_false (by omega)
    simp only [go_sem, reduceIte, Nat.reduceEqDiff, Nat.reduceAdd, Nat.reduceSub, Nat.reduceLeDiff, Nat.reduceLT, reduceCtorEq, Int.reduceLT, Int.reduceLE, Int.reduceEq, Int.reduceBEq, Int.reduceSub, Int.reduceAdd, Int.reduceMul, Int.reduceNeg, Int.reduceToNat, Nat.reduceMul, Nat.reduceBEq, index_rsl_if, setm, make_ints, condK_dec, wantK_dec, not_dec, and_dec, or_dec, seqK_ite, seqK_none, blockK_ite, blockK_none, opsK_ite, opsK_none, stepK_ite, stepK_none, bodyK_ite, bodyK_none, resK_ite, resK_none, leaveK_ite, leaveK_none, only_ite, only_none, bind_ite, gives_some, gives_none, gives_ite, then_normal, then_ret, then_exit, then_none, then_ite, Option.bind_none, Bool.not_eq_true', decide_eq_false_iff_not, Bool.and_eq_true, Bool.or_eq_true, Option.some.injEq, Int.not_lt, Int.not_le, lp73_0, hlt, List.length_map]
    rw [hd]; rfl


def cheap (n : Nat) (s : Nat) (ps : List (Int × Int)) : List (List Int) := (allL s n).foldl (cStep ps) []

theorem c73 (nl : Bool) (n t : Nat) (hs : t = 1 ∨ t = 2) (hn1 : 1 ≤ n) (hn : n ≤ 7) (ps : List (Int × Int)) (hlen : ps.length < 1000) (hps : ∀ p ∈ ps, 0 ≤ p.1 ∧ p.1 < p.2 ∧ p.2 < (n : Int)) (st : St) :
    run L 73 [bkAV nl n ps, I t] st = some (sl 1 true ((cheap n t ps).map listAV), st) := by
  rw [run_pure (fn := ir73) rfl rfl]
  have h105 := fun st => c105 n t hs hn n true [] (by simp) (by omega) st
  simp only [List.map_nil, preL_nil, ← sl_nil] at h105
  have hcl := (allL_len hs n).1
  have hpow : 3 ^ n ≤ 2187 := Nat.le_trans (Nat.pow_le_pow_right (by omega) hn) (by decide)
  simp only [ir73, go_sem, reduceIte, Nat.reduceEqDiff, Nat.reduceAdd, Nat.reduceSub, Nat.reduceLeDiff, Nat.reduceLT, reduceCtorEq, Int.reduceLT, Int.reduceLE, Int.reduceEq, Int.reduceBEq, Int.reduceSub, Int.reduceAdd, Int.reduceMul, Int.reduceNeg, Int.reduceToNat, Nat.reduceMul, Nat.reduceBEq, h105]
  generalize hg : lim (headed pure (run L) true _ lp73_0 _ _) _ _ = o
  obtain ⟨x, en, s, rfl, h2⟩ : ∃ x en s, o = some (x, en, s) ∧ _ := by rw [← hg]; exact loop73 nl n (by omega) ps hlen hps (allL t n) (by omega) (fun l hl => ⟨by have := (allL_in n l hl).1; omega, (allL_in n l hl).2⟩) 0 [] ⟨by omega, by simp, by simp⟩ _ _ (by simp only [go_sem, reduceIte, Nat.reduceEqDiff, Nat.reduceAdd, Nat.reduceSub, Nat.reduceLeDiff, Nat.reduceLT, reduceCtorEq, Int.reduceLT, Int.reduceLE, Int.reduceEq, Int.reduceBEq, Int.reduceSub, Int.reduceAdd, Int.reduceMul, Int.reduceNeg, Int.reduceToNat, Nat.reduceMul, Nat.reduceBEq, loc_start, locT] <;> rfl)
  clear hg
  obtain ⟨rfl, h3⟩ := h2
  rw [List.drop_zero] at h3
  have h4 : en.get 5 = loc 1 0 ((cheap n t ps).map listAV) := h3
  simp only [go_sem, reduceIte, Nat.reduceEqDiff, Nat.reduceAdd, Nat.reduceSub, Nat.reduceLeDiff, Nat.reduceLT, reduceCtorEq, Int.reduceLT, Int.reduceLE, Int.reduceEq, Int.reduceBEq, Int.reduceSub, Int.reduceAdd, Int.reduceMul, Int.reduceNeg, Int.reduceToNat, Nat.reduceMul, Nat.reduceBEq, h4]
end Go.Proofs.YtpmbfgogpcjdlaaDoor.Vm
