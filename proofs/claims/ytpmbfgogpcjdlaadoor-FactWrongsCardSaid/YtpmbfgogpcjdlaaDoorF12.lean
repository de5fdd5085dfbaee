/- What is proved: what functions of this program answer, by the evaluator. No condition. -/
import Derived.Test.YtpmbfgogpcjdlaaDoorF11
set_option linter.all false
namespace Go.Proofs.YtpmbfgogpcjdlaaDoor.Vm
open Go Go.Ev
set_option maxRecDepth 100000
attribute [local go_sem] cells_any storable_any ren1_any shaped_ptr cells_ptr storable_ptr ren1_ptr shaped_eptr cells_eptr storable_eptr ren1_eptr shaped_rsl cells_rsl storable_rsl ren1_rsl shaped_int cells_int storable_int ren1_int shaped_bool cells_bool storable_bool ren1_bool shaped_nils cells_nils storable_nils ren1_nils shaped_lst cells_lst storable_lst shaped_fn cells_fn storable_fn ren1_fn shaped_ifc cells_ifc storable_ifc ren1_ifc shaped_agg cells_agg storable_agg ren1_agg shaped_tup cells_tup storable_tup ren1_tup shaped_nif cells_nif storable_nif ren1_nif ren1_lany ren1_lfull ren1_lown len_lst len_rsl len_nil load_ptr load_eptr isRsl_lst isRsl_nil isRsl_rsl elems_nil elems_lst elems_sl isRsl_sl body_eq bodyK_normal bodyK_ret resK_some leaveK_some only_some code_skip code_exit code_ret code_ops code_seq code_cond code_block seqK_normal seqK_ret seqK_exit condK_true condK_false blockK_normal blockK_ret blockK_exit opsK_some ops_nil ops_cons wantK_true wantK_false stepK_some pubs pub pub_sl params okRef_loc storable_loc shaped_loc cells_loc isRsl_loc elems_loc len_loc untips untip untip_sl wantedAV setElems withO isAgg_v isAgg_agg isAgg_lst isAgg_ptr isAgg_fn isAgg_ifc isAgg_rsl isAgg_sl isAgg_loc List.replicate_succ List.replicate_zero opAV valAV aval avals ofVal Env.get setD canon gcAV renAll renEnv renStore renCells ren1_sl cutSt okEnv okStore okRefs okRef okRef_sl bin_int bin_bool bin_lst bin_rsl bin_nil bin_agg cellsEq cellEq isShift intOp boolOp min_int max_int beq_int bne resAV tupAV leave_eq fin_sl fin_loc fins fin_v fin_lst fin_agg fin_tup fin_fn storeAV readCells putCells cells_sl shaped_sl storable_sl fieldAddrAV len_sl goI List.getElem?_cons_zero List.getElem?_cons_succ List.getElem?_nil Option.bind_some Option.map_some List.length_cons List.length_nil List.all_cons List.all_nil Bool.and_true Bool.true_and Bool.and_false Bool.false_and and_true true_and and_false false_and Bool.false_eq_true List.set_cons_zero List.set_cons_succ List.append_nil List.nil_append List.cons_append List.take_zero List.take_succ_cons List.take_nil List.drop_zero List.drop_succ_cons List.map_cons List.map_nil decide_true decide_false beq_self_eq_true Bool.not_true Bool.not_false or_true true_or or_false false_or Nat.zero_add Nat.add_zero Nat.le_refl Nat.lt_irrefl decide_eq_true_eq eq_self_iff_true not_true_eq_false not_false_eq_true List.getD_cons_zero code_loop Nat.zero_le Nat.not_lt_zero Bool.true_beq Bool.false_beq beq_true beq_false ge_iff_le gt_iff_lt Lpure pus Option.map_none assert_ifc assert_nil idxA_ptr idxA_eptr idxV_agg Int.cast_ofNat_Int Nat.mul_one Nat.zero_mul Int.toNat_natCast Int.toNat_zero setParts withO2 hasKey eqnil_sl nenil_sl eqnil_loc nenil_loc map_nil_iff okRefs_ints renCells_ints

/-- The number ahead of a place, or -1. -/
def lastAt (l : List Int) : Nat → Int
  | 0 => -1
  | i + 1 => l.getD i 0

theorem loop25 (nl n2 : Bool) (n : Int) (ps : List (Int × Int)) (l : List Int) (hlen : l.length < 1000000) (i : Nat) (e : Int) (hok : i ≤ l.length ∧ (e = 0 → 1 ≤ n ∧ n ≤ 7)) (env : Env) (st : St)
    (hg : gcAV true 1 0 (canon env [1, 2, 5, 6]) st = ([(1, sl 1 n2 (l.map I)), (2, .ptr 0 0), (5, I e), (6, I i)], ⟨[bkCells nl n ps], []⟩)) :
    ∃ x_1 en s, lim (headed pure (run L) true [1, 2, 5, 6] lp25_0 1 0) env st = some (x_1, en, s) ∧ (x_1 = .exit 0 ∧ en.get 1 = sl 1 n2 (l.map I) ∧ en.get 2 = .ptr 0 0 ∧ s = ⟨[bkCells nl n ps], []⟩ ∧ en.get 5 = I (if e = 0 then wErr n (lastAt l i) (l.drop i) else e)) := by
  refine loop_wp (α := Nat × Int) (fun ⟨i, e⟩ => 2 * (l.length - i) + (if e = 0 then 1 else 0)) (fun ⟨i, e⟩ => i ≤ l.length ∧ (e = 0 → 1 ≤ n ∧ n ≤ 7)) (fun ⟨i, e⟩ => ([(1, sl 1 n2 (l.map I)), (2, .ptr 0 0), (5, I e), (6, I i)], ⟨[bkCells nl n ps], []⟩)) (fun ⟨i, e⟩ x_1 en s => x_1 = .exit 0 ∧ en.get 1 = sl 1 n2 (l.map I) ∧ en.get 2 = .ptr 0 0 ∧ s = ⟨[bkCells nl n ps], []⟩ ∧ en.get 5 = I (if e = 0 then wErr n (lastAt l i) (l.drop i) else e)) (fun ⟨i, e⟩ hok => ?_) ⟨i, e⟩ hok env st hg
  simp only at hok
  obtain ⟨h1, h2⟩ := hok
  dsimp only
  by_cases h : i < l.length
  · have hlt : ((i : Int) < (l.length : Int)) = True := eq_true (by omega)
    by_cases he : e = 0
    · subst he
      have hn := h2 rfl
      have hx := index_ints n2 l i h
      have hs := succ64 i (by omega)
      have hd : l.drop i = l[i] :: l.drop (i + 1) := List.drop_eq_getElem_cons h
      have hla : lastAt l (i + 1) = l[i] := by simp [lastAt, List.getD_eq_getElem?_getD, List.getElem?_eq_getElem h]
      have hw : IntKind.i64.wrap (n - 1) = n - 1 := by rw [wrap64] <;> omega
      rw [hd]
      generalize l[i] = a at *
      have he0 : ∀ c : Int, c ≠ 0 → (c = 0) = False := fun c hc => eq_false hc
      by_cases p1 : ¬(0 ≤ a ∧ a ≤ n - 1)
      · have e1 : wErr n (lastAt l i) (a :: l.drop (i + 1)) = 2 := by simp only [wErr]; rw [if_pos (by omega)]
        simp only [go_sem, reduceIte, Nat.reduceEqDiff, Nat.reduceAdd, Nat.reduceSub, Nat.reduceLeDiff, Nat.reduceLT, reduceCtorEq, Int.reduceLT, Int.reduceLE, Int.reduceEq, Int.reduceBEq, Int.reduceSub, Int.reduceAdd, Int.reduceMul, Int.reduceNeg, Int.reduceToNat, Nat.reduceMul, Nat.reduceBEq, index_rsl_if, setm, make_ints, condK_dec, wantK_dec, not_dec, and_dec, or_dec, seqK_ite, seqK_none, blockK_ite, blockK_none, opsK_ite, opsK_none, stepK_ite, stepK_none, bodyK_ite, bodyK_none, resK_ite, resK_none, leaveK_ite, leaveK_none, only_ite, only_none, bind_ite, gives_some, gives_none, gives_ite, then_normal, then_ret, then_exit, then_none, then_ite, Option.bind_none, Bool.not_eq_true', decide_eq_false_iff_not, Bool.and_eq_true, Bool.or_eq_true, Option.some.injEq, Int.not_lt, Int.not_le, lp25_0, hx, hlt, c77, hw, p1, hs, List.length_map]
        refine ⟨(i + 1, (2 : Int)), by simp only [go_sem, reduceIte, Nat.reduceEqDiff, Nat.reduceAdd, Nat.reduceSub, Nat.reduceLeDiff, Nat.reduceLT, reduceCtorEq, Int.reduceLT, Int.reduceLE, Int.reduceEq, Int.reduceBEq, Int.reduceSub, Int.reduceAdd, Int.reduceMul, Int.reduceNeg, Int.reduceToNat, Nat.reduceMul, Nat.reduceBEq, ren1_locm, loc_tips, locT_eq] <;> rfl, ?_, ?_, fun x en s hq => ?_⟩
        · dsimp only; exact ⟨by omega, by omega⟩
        · simp only; simp; omega
        · rw [e1]; simpa using hq
      replace p1 := Decidable.not_not.1 p1
      cases i with
      | zero =>
        have hl0 : lastAt l 0 = -1 := rfl
        have e1 : wErr n (lastAt l 0) (a :: l.drop 1) = wErr n a (l.drop 1) := by rw [hl0]; simp only [wErr]; rw [if_neg (by omega), if_neg (by omega)]
        have q0 : ((0 : Int) < (l.length : Int)) = True := eq_true (by omega)
        simp only [Int.natCast_zero] at hx
        simp only [go_sem, reduceIte, Nat.reduceEqDiff, Nat.reduceAdd, Nat.reduceSub, Nat.reduceLeDiff, Nat.reduceLT, reduceCtorEq, Int.reduceLT, Int.reduceLE, Int.reduceEq, Int.reduceBEq, Int.reduceSub, Int.reduceAdd, Int.reduceMul, Int.reduceNeg, Int.reduceToNat, Nat.reduceMul, Nat.reduceBEq, index_rsl_if, setm, make_ints, condK_dec, wantK_dec, not_dec, and_dec, or_dec, seqK_ite, seqK_none, blockK_ite, blockK_none, opsK_ite, opsK_none, stepK_ite, stepK_none, bodyK_ite, bodyK_none, resK_ite, resK_none, leaveK_ite, leaveK_none, only_ite, only_none, bind_ite, gives_some, gives_none, gives_ite, then_normal, then_ret, then_exit, then_none, then_ite, Option.bind_none, Bool.not_eq_true', decide_eq_false_iff_not, Bool.and_eq_true, Bool.or_eq_true, Option.some.injEq, Int.not_lt, Int.not_le, lp25_0, hx, q0, c77, hw, p1, List.length_map]
        refine ⟨(1, (0 : Int)), by simp only [go_sem, reduceIte, Nat.reduceEqDiff, Nat.reduceAdd, Nat.reduceSub, Nat.reduceLeDiff, Nat.reduceLT, reduceCtorEq, Int.reduceLT, Int.reduceLE, Int.reduceEq, Int.reduceBEq, Int.reduceSub, Int.reduceAdd, Int.reduceMul, Int.reduceNeg, Int.reduceToNat, Nat.reduceMul, Nat.reduceBEq, ren1_locm, loc_tips, locT_eq] <;> rfl, ?_, ?_, fun x en s hq => ?_⟩
        · dsimp only; exact ⟨by omega, fun _ => hn⟩
        · simp only; simp; omega
        · simp only [Nat.zero_add] at hla hq ⊢
          rw [hla] at hq
          rw [e1]; simpa using hq
      | succ k =>
        have hk : IntKind.i64.wrap (((k + 1 : Nat) : Int) - 1) = (k : Int) := by rw [wrap64] <;> omega
        have hx2 := index_ints n2 l k (by omega)
        have q0 : ((0 : Int) < ((k + 1 : Nat) : Int)) = True := eq_true (by omega)
        have hlk : lastAt l (k + 1) = l[k] := by simp [lastAt, List.getD_eq_getElem?_getD, List.getElem?_eq_getElem (show k < l.length by omega)]
        rw [hlk]
        generalize l[k] = b at *
        by_cases p2 : a ≤ b
        · have e1 : wErr n b (a :: l.drop (k + 1 + 1)) = 7 := by simp only [wErr]; rw [if_neg (by omega), if_pos p2]
          simp only [go_sem, reduceIte, Nat.reduceEqDiff, Nat.reduceAdd, Nat.reduceSub, Nat.reduceLeDiff, Nat.reduceLT, reduceCtorEq, Int.reduceLT, Int.reduceLE, Int.reduceEq, Int.reduceBEq, Int.reduceSub, Int.reduceAdd, Int.reduceMul, Int.reduceNeg, Int.reduceToNat, Nat.reduceMul, Nat.reduceBEq, index_rsl_if, setm, make_ints, condK_dec, wantK_dec, not_dec, and_dec, or_dec, seqK_ite, seqK_none, blockK_ite, blockK_none, opsK_ite, opsK_none, stepK_ite, stepK_none, bodyK_ite, bodyK_none, resK_ite, resK_none, leaveK_ite, leaveK_none, only_ite, only_none, bind_ite, gives_some, gives_none, gives_ite, then_normal, then_ret, then_exit, then_none, then_ite, Option.bind_none, Bool.not_eq_true', decide_eq_false_iff_not, Bool.and_eq_true, Bool.or_eq_true, Option.some.injEq, Int.not_lt, Int.not_le, lp25_0, hx, hlt, c77, hw, p1, hs, q0, hk, hx2, p2, List.length_map]
          refine ⟨(k + 1 + 1, (7 : Int)), by simp only [go_sem, reduceIte, Nat.reduceEqDiff, Nat.reduceAdd, Nat.reduceSub, Nat.reduceLeDiff, Nat.reduceLT, reduceCtorEq, Int.reduceLT, Int.reduceLE, Int.reduceEq, Int.reduceBEq, Int.reduceSub, Int.reduceAdd, Int.reduceMul, Int.reduceNeg, Int.reduceToNat, Nat.reduceMul, Nat.reduceBEq, ren1_locm, loc_tips, locT_eq] <;> rfl, ?_, ?_, fun x en s hq => ?_⟩
          · dsimp only; exact ⟨by omega, by omega⟩
          · simp only; simp; omega
          · rw [e1]; simpa using hq
        · have e1 : wErr n b (a :: l.drop (k + 1 + 1)) = wErr n a (l.drop (k + 1 + 1)) := by simp only [wErr]; rw [if_neg (by omega), if_neg p2]
          simp only [go_sem, reduceIte, Nat.reduceEqDiff, Nat.reduceAdd, Nat.reduceSub, Nat.reduceLeDiff, Nat.reduceLT, reduceCtorEq, Int.reduceLT, Int.reduceLE, Int.reduceEq, Int.reduceBEq, Int.reduceSub, Int.reduceAdd, Int.reduceMul, Int.reduceNeg, Int.reduceToNat, Nat.reduceMul, Nat.reduceBEq, index_rsl_if, setm, make_ints, condK_dec, wantK_dec, not_dec, and_dec, or_dec, seqK_ite, seqK_none, blockK_ite, blockK_none, opsK_ite, opsK_none, stepK_ite, stepK_none, bodyK_ite, bodyK_none, resK_ite, resK_none, leaveK_ite, leaveK_none, only_ite, only_none, bind_ite, gives_some, gives_none, gives_ite, then_normal, then_ret, then_exit, then_none, then_ite, Option.bind_none, Bool.not_eq_true', decide_eq_false_iff_not, Bool.and_eq_true, Bool.or_eq_true, Option.some.injEq, Int.not_lt, Int.not_le, lp25_0, hx, hlt, c77, hw, p1, hs, q0, hk, hx2, p2, List.length_map]
          refine ⟨(k + 1 + 1, (0 : Int)), by simp only [go_sem, reduceIte, Nat.reduceEqDiff, Nat.reduceAdd, Nat.reduceSub, Nat.reduceLeDiff, Nat.reduceLT, reduceCtorEq, Int.reduceLT, Int.reduceLE, Int.reduceEq, Int.reduceBEq, Int.reduceSub, Int.reduceAdd, Int.reduceMul, Int.reduceNeg, Int.reduceToNat, Nat.reduceMul, Nat.reduceBEq, ren1_locm, loc_tips, locT_eq] <;> rfl, ?_, ?_, fun x en s hq => ?_⟩
          · dsimp only; exact ⟨by omega, fun _ => hn⟩
          · simp only; simp; omega
          · rw [hla] at hq
            rw [e1]; simpa using hq
    · simp only [go_sem, reduceIte, Nat.reduceEqDiff, Nat.reduceAdd, Nat.reduceSub, Nat.reduceLeDiff, Nat.reduceLT, reduceCtorEq, Int.reduceLT, Int.reduceLE, Int.reduceEq, Int.reduceBEq, Int.reduceSub, Int.reduceAdd, Int.reduceMul, Int.reduceNeg, Int.reduceToNat, Nat.reduceMul, Nat.reduceBEq, index_rsl_if, setm, make_ints, condK_dec, wantK_dec, not_dec, and_dec, or_dec, seqK_ite, seqK_none, blockK_ite, blockK_none, opsK_ite, opsK_none, stepK_ite, stepK_none, bodyK_ite, bodyK_none, resK_ite, resK_none, leaveK_ite, leaveK_none, only_ite, only_none, bind_ite, gives_some, gives_none, gives_ite, then_normal, then_ret, then_exit, then_none, then_ite, Option.bind_none, Bool.not_eq_true', decide_eq_false_iff_not, Bool.and_eq_true, Bool.or_eq_true, Option.some.injEq, Int.not_lt, Int.not_le, lp25_0, hlt, he, List.length_map]
  · have hd : l.drop i = [] := List.drop_eq_nil_of_le (by omega)
    have hlt : ((i : Int) < (l.length : Int)) = False := eq_false (by omega)
    simp only [go_sem, reduceIte, Nat.reduceEqDiff, Nat.reduceAdd, Nat.reduceSub, Nat.reduceLeDiff, Nat.reduceLT, reduceCtorEq, Int.reduceLT, Int.reduceLE, Int.reduceEq, Int.reduceBEq, Int.reduceSub, Int.reduceAdd, Int.reduceMul, Int.reduceNeg, Int.reduceToNat, Nat.reduceMul, Nat.reduceBEq, index_rsl_if, setm, make_ints, condK_dec, wantK_dec, not_dec, and_dec, or_dec, seqK_ite, seqK_none, blockK_ite, blockK_none, opsK_ite, opsK_none, stepK_ite, stepK_none, bodyK_ite, bodyK_none, resK_ite, resK_none, leaveK_ite, leaveK_none, only_ite, only_none, bind_ite, gives_some, gives_none, gives_ite, then_normal, then_ret, then_exit, then_none, then_ite, Option.bind_none, Bool.not_eq_true', decide_eq_false_iff_not, Bool.and_eq_true, Bool.or_eq_true, Option.some.injEq, Int.not_lt, Int.not_le, lp25_0, hlt, List.length_map]
    rw [hd]; simp only [wErr]
    by_cases he : e = 0 <;> simp [he]


theorem loop25b (nl n2 : Bool) (n : Int) (ps : List (Int × Int)) (hps : ps.length < 1000000) (l : List Int) (hlen : l.length < 1000000) (i : Nat) (e : Int) (hok : i ≤ ps.length) (env : Env) (st : St)
    (hg : gcAV true 1 0 (canon env [1, 2, 5, 7]) st = ([(1, sl 1 n2 (l.map I)), (2, .ptr 0 0), (5, I e), (7, I i)], ⟨[bkCells nl n ps], []⟩)) :
    ∃ x_1 en s, lim (headed pure (run L) true [1, 2, 5, 7] lp25_1 1 0) env st = some (x_1, en, s) ∧ (x_1 = .exit 2 ∧ en.get 5 = I (if e = 0 then (if meets (ps.drop i) l = true then 0 else 21) else e)) := by
  refine loop_wp (α := Nat × Int) (fun ⟨i, e⟩ => 2 * (ps.length - i) + (if e = 0 then 1 else 0)) (fun ⟨i, e⟩ => i ≤ ps.length) (fun ⟨i, e⟩ => ([(1, sl 1 n2 (l.map I)), (2, .ptr 0 0), (5, I e), (7, I i)], ⟨[bkCells nl n ps], []⟩)) (fun ⟨i, e⟩ x_1 en s => x_1 = .exit 2 ∧ en.get 5 = I (if e = 0 then (if meets (ps.drop i) l = true then 0 else 21) else e)) (fun ⟨i, e⟩ hok => ?_) ⟨i, e⟩ hok env st hg
  simp only at hok
  dsimp only
  by_cases h : i < ps.length
  · have hlt : ((i : Int) < (ps.length : Int)) = True := eq_true (by omega)
    by_cases he : e = 0
    · subst he
      have hx := index_prs nl ps i h
      have hs := succ64 i (by omega)
      have hd : ps.drop i = ps[i] :: ps.drop (i + 1) := List.drop_eq_getElem_cons h
      have h80 := fun a st => c80 n2 l hlen a st
      rw [hd]
      generalize ps[i] = c at *
      obtain ⟨u, v⟩ := c
      simp only at hx
      by_cases p : u ∈ l
      · have e1 : meets ((u, v) :: ps.drop (i + 1)) l = meets (ps.drop (i + 1)) l := by simp [meets, p]
        simp only [go_sem, reduceIte, Nat.reduceEqDiff, Nat.reduceAdd, Nat.reduceSub, Nat.reduceLeDiff, Nat.reduceLT, reduceCtorEq, Int.reduceLT, Int.reduceLE, Int.reduceEq, Int.reduceBEq, Int.reduceSub, Int.reduceAdd, Int.reduceMul, Int.reduceNeg, Int.reduceToNat, Nat.reduceMul, Nat.reduceBEq, index_rsl_if, setm, make_ints, condK_dec, wantK_dec, not_dec, and_dec, or_dec, seqK_ite, seqK_none, blockK_ite, blockK_none, opsK_ite, opsK_none, stepK_ite, stepK_none, bodyK_ite, bodyK_none, resK_ite, resK_none, leaveK_ite, leaveK_none, only_ite, only_none, bind_ite, gives_some, gives_none, gives_ite, then_normal, then_ret, then_exit, then_none, then_ite, Option.bind_none, Bool.not_eq_true', decide_eq_false_iff_not, Bool.and_eq_true, Bool.or_eq_true, Option.some.injEq, Int.not_lt, Int.not_le, lp25_1, hx, hlt, hs, h80, p, List.length_map]
        refine ⟨(i + 1, (0 : Int)), by simp only [go_sem, reduceIte, Nat.reduceEqDiff, Nat.reduceAdd, Nat.reduceSub, Nat.reduceLeDiff, Nat.reduceLT, reduceCtorEq, Int.reduceLT, Int.reduceLE, Int.reduceEq, Int.reduceBEq, Int.reduceSub, Int.reduceAdd, Int.reduceMul, Int.reduceNeg, Int.reduceToNat, Nat.reduceMul, Nat.reduceBEq, ren1_locm, loc_tips, locT_eq] <;> rfl, ?_, ?_, fun x en s hq => ?_⟩
        · omega
        · simp only; simp; omega
        · rw [e1]; simpa using hq
      · by_cases p2 : v ∈ l
        · have e1 : meets ((u, v) :: ps.drop (i + 1)) l = meets (ps.drop (i + 1)) l := by simp [meets, p2]
          simp only [go_sem, reduceIte, Nat.reduceEqDiff, Nat.reduceAdd, Nat.reduceSub, Nat.reduceLeDiff, Nat.reduceLT, reduceCtorEq, Int.reduceLT, Int.reduceLE, Int.reduceEq, Int.reduceBEq, Int.reduceSub, Int.reduceAdd, Int.reduceMul, Int.reduceNeg, Int.reduceToNat, Nat.reduceMul, Nat.reduceBEq, index_rsl_if, setm, make_ints, condK_dec, wantK_dec, not_dec, and_dec, or_dec, seqK_ite, seqK_none, blockK_ite, blockK_none, opsK_ite, opsK_none, stepK_ite, stepK_none, bodyK_ite, bodyK_none, resK_ite, resK_none, leaveK_ite, leaveK_none, only_ite, only_none, bind_ite, gives_some, gives_none, gives_ite, then_normal, then_ret, then_exit, then_none, then_ite, Option.bind_none, Bool.not_eq_true', decide_eq_false_iff_not, Bool.and_eq_true, Bool.or_eq_true, Option.some.injEq, Int.not_lt, Int.not_le, lp25_1, hx, hlt, hs, h80, p, p2, List.length_map]
          refine ⟨(i + 1, (0 : Int)), by simp only [go_sem, reduceIte, Nat.reduceEqDiff, Nat.reduceAdd, Nat.reduceSub, Nat.reduceLeDiff, Nat.reduceLT, reduceCtorEq, Int.reduceLT, Int.reduceLE, Int.reduceEq, Int.reduceBEq, Int.reduceSub, Int.reduceAdd, Int.reduceMul, Int.reduceNeg, Int.reduceToNat, Nat.reduceMul, Nat.reduceBEq, ren1_locm, loc_tips, locT_eq] <;> rfl, ?_, ?_, fun x en s hq => ?_⟩
          · omega
          · simp only; simp; omega
          · rw [e1]; simpa using hq
        · have e1 : meets ((u, v) :: ps.drop (i + 1)) l = false := by simp [meets, p, p2]
          simp only [go_sem, reduceIte, Nat.reduceEqDiff, Nat.reduceAdd, Nat.reduceSub, Nat.reduceLeDiff, Nat.reduceLT, reduceCtorEq, Int.reduceLT, Int.reduceLE, Int.reduceEq, Int.reduceBEq, Int.reduceSub, Int.reduceAdd, Int.reduceMul, Int.reduceNeg, Int.reduceToNat, Nat.reduceMul, Nat.reduceBEq, index_rsl_if, setm, make_ints, condK_dec, wantK_dec, not_dec, and_dec, or_dec, seqK_ite, seqK_none, blockK_ite, blockK_none, opsK_ite, opsK_none, stepK_ite, stepK_none, bodyK_ite, bodyK_none, resK_ite, resK_none, leaveK_ite, leaveK_none, only_ite, only_none, bind_ite, gives_some, gives_none, gives_ite, then_normal, then_ret, then_exit, then_none, then_ite, Option.bind_none, Bool.not_eq_true', decide_eq_false_iff_not, Bool.and_eq_true, Bool.or_eq_true, Option.some.injEq, Int.not_lt, Int.not_le, lp25_1, hx, hlt, hs, h80, p, p2, List.length_map]
          refine ⟨(i + 1, (21 : Int)), by simp only [go_sem, reduceIte, Nat.reduceEqDiff, Nat.reduceAdd, Nat.reduceSub, Nat.reduceLeDiff, Nat.reduceLT, reduceCtorEq, Int.reduceLT, Int.reduceLE, Int.reduceEq, Int.reduceBEq, Int.reduceSub, Int.reduceAdd, Int.reduceMul, Int.reduceNeg, Int.reduceToNat, Nat.reduceMul, Nat.reduceBEq, ren1_locm, loc_tips, locT_eq] <;> rfl, ?_, ?_, fun x en s hq => ?_⟩
          · omega
          · simp only; simp; omega
          · rw [e1]; simpa using hq
    · simp only [go_sem, reduceIte, Nat.reduceEqDiff, Nat.reduceAdd, Nat.reduceSub, Nat.reduceLeDiff, Nat.reduceLT, reduceCtorEq, Int.reduceLT, Int.reduceLE, Int.reduceEq, Int.reduceBEq, Int.reduceSub, Int.reduceAdd, Int.reduceMul, Int.reduceNeg, Int.reduceToNat, Nat.reduceMul, Nat.reduceBEq, index_rsl_if, setm, make_ints, condK_dec, wantK_dec, not_dec, and_dec, or_dec, seqK_ite, seqK_none, blockK_ite, blockK_none, opsK_ite, opsK_none, stepK_ite, stepK_none, bodyK_ite, bodyK_none, resK_ite, resK_none, leaveK_ite, leaveK_none, only_ite, only_none, bind_ite, gives_some, gives_none, gives_ite, then_normal, then_ret, then_exit, then_none, then_ite, Option.bind_none, Bool.not_eq_true', decide_eq_false_iff_not, Bool.and_eq_true, Bool.or_eq_true, Option.some.injEq, Int.not_lt, Int.not_le, lp25_1, hlt, he, List.length_map]
  · have hd : ps.drop i = [] := List.drop_eq_nil_of_le (by omega)
    have hlt : ((i : Int) < (ps.length : Int)) = False := eq_false (by omega)
    simp only [go_sem, reduceIte, Nat.reduceEqDiff, Nat.reduceAdd, Nat.reduceSub, Nat.reduceLeDiff, Nat.reduceLT, reduceCtorEq, Int.reduceLT, Int.reduceLE, Int.reduceEq, Int.reduceBEq, Int.reduceSub, Int.reduceAdd, Int.reduceMul, Int.reduceNeg, Int.reduceToNat, Nat.reduceMul, Nat.reduceBEq, index_rsl_if, setm, make_ints, condK_dec, wantK_dec, not_dec, and_dec, or_dec, seqK_ite, seqK_none, blockK_ite, blockK_none, opsK_ite, opsK_none, stepK_ite, stepK_none, bodyK_ite, bodyK_none, resK_ite, resK_none, leaveK_ite, leaveK_none, only_ite, only_none, bind_ite, gives_some, gives_none, gives_ite, then_normal, then_ret, then_exit, then_none, then_ite, Option.bind_none, Bool.not_eq_true', decide_eq_false_iff_not, Bool.and_eq_true, Bool.or_eq_true, Option.some.injEq, Int.not_lt, Int.not_le, lp25_1, hlt, List.length_map]
    rw [hd]; simp only [meets, List.all_nil, if_true]
    by_cases he : e = 0 <;> simp [he]


theorem c25 (nl n2 : Bool) (n : Int) (ps : List (Int × Int)) (hps : ps.length < 1000000) (l : List Int) (hlen : l.length < 1000000) (st : St) :
    run L 25 [bkAV nl n ps, sl 1 n2 (l.map I)] st = some (I (validV n ps l), st) := by
  rw [run_pure (fn := ir25) rfl rfl]
  have h23 := fun st => c23 nl n ps st
  simp only [ir25, go_sem, reduceIte, Nat.reduceEqDiff, Nat.reduceAdd, Nat.reduceSub, Nat.reduceLeDiff, Nat.reduceLT, reduceCtorEq, Int.reduceLT, Int.reduceLE, Int.reduceEq, Int.reduceBEq, Int.reduceSub, Int.reduceAdd, Int.reduceMul, Int.reduceNeg, Int.reduceToNat, Nat.reduceMul, Nat.reduceBEq, h23]
  generalize hg : lim (headed pure (run L) true _ lp25_0 _ _) _ _ = o
  obtain ⟨x, en, s, rfl, h2⟩ : ∃ x en s, o = some (x, en, s) ∧ _ := by rw [← hg]; exact loop25 nl n2 n ps l hlen 0 (chk n ps) ⟨by omega, fun h => ⟨(chk_zero h).1, (chk_zero h).2.1⟩⟩ _ _ (by simp only [go_sem, reduceIte, Nat.reduceEqDiff, Nat.reduceAdd, Nat.reduceSub, Nat.reduceLeDiff, Nat.reduceLT, reduceCtorEq, Int.reduceLT, Int.reduceLE, Int.reduceEq, Int.reduceBEq, Int.reduceSub, Int.reduceAdd, Int.reduceMul, Int.reduceNeg, Int.reduceToNat, Nat.reduceMul, Nat.reduceBEq, Int.natCast_zero] <;> rfl)
  clear hg
  obtain ⟨rfl, g1, g2, rfl, g3⟩ := h2
  simp only [go_sem, reduceIte, Nat.reduceEqDiff, Nat.reduceAdd, Nat.reduceSub, Nat.reduceLeDiff, Nat.reduceLT, reduceCtorEq, Int.reduceLT, Int.reduceLE, Int.reduceEq, Int.reduceBEq, Int.reduceSub, Int.reduceAdd, Int.reduceMul, Int.reduceNeg, Int.reduceToNat, Nat.reduceMul, Nat.reduceBEq, g1, g2, g3]
  generalize hg : lim (headed pure (run L) true _ lp25_1 _ _) _ _ = o
  obtain ⟨x, en, s, rfl, h2⟩ : ∃ x en s, o = some (x, en, s) ∧ _ := by rw [← hg]; exact loop25b nl n2 n ps hps l hlen 0 (if chk n ps = 0 then wErr n (lastAt l 0) (l.drop 0) else chk n ps) (by omega) _ _ (by simp only [go_sem, reduceIte, Nat.reduceEqDiff, Nat.reduceAdd, Nat.reduceSub, Nat.reduceLeDiff, Nat.reduceLT, reduceCtorEq, Int.reduceLT, Int.reduceLE, Int.reduceEq, Int.reduceBEq, Int.reduceSub, Int.reduceAdd, Int.reduceMul, Int.reduceNeg, Int.reduceToNat, Nat.reduceMul, Nat.reduceBEq, Int.natCast_zero, g1, g2, g3] <;> rfl)
  clear hg
  obtain ⟨rfl, k3⟩ := h2
  simp only [go_sem, reduceIte, Nat.reduceEqDiff, Nat.reduceAdd, Nat.reduceSub, Nat.reduceLeDiff, Nat.reduceLT, reduceCtorEq, Int.reduceLT, Int.reduceLE, Int.reduceEq, Int.reduceBEq, Int.reduceSub, Int.reduceAdd, Int.reduceMul, Int.reduceNeg, Int.reduceToNat, Nat.reduceMul, Nat.reduceBEq, k3]
  congr 4
  unfold validV
  by_cases h : chk n ps = 0
  · rw [if_pos h, if_pos h]
    show (if wErr n (-1) l = 0 then _ else _) = _
    by_cases p : wErr n (-1) l = 0
    · rw [if_pos p, if_pos p, expl_set (chk_zero h).2.2.2.2 (fun x hx => (wErr_zero p x hx).1)]
    · rw [if_neg p, if_neg p]; rfl
  · rw [if_neg h, if_neg h, if_neg h]
end Go.Proofs.YtpmbfgogpcjdlaaDoor.Vm
