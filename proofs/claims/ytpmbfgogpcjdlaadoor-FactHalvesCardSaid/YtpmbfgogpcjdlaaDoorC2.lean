/- What is proved: what each function of this program computes, as equations on the evaluator. No condition. -/
import Derived.Test.YtpmbfgogpcjdlaaDoorC1
import Derived.WalkKit
import Derived.ProofKit
import Derived.OpenShut
import Derived.Test.YtpmbfgogpcjdlaaDoorFkf
set_option linter.all false
namespace Go.Proofs.YtpmbfgogpcjdlaaDoor.Vm
open Go Go.Ev
set_option maxRecDepth 100000
attribute [local go_sem] cells_any storable_any ren1_any shaped_ptr cells_ptr storable_ptr ren1_ptr shaped_eptr cells_eptr storable_eptr ren1_eptr shaped_rsl cells_rsl storable_rsl ren1_rsl shaped_int cells_int storable_int ren1_int shaped_bool cells_bool storable_bool ren1_bool shaped_nils cells_nils storable_nils ren1_nils shaped_lst cells_lst storable_lst shaped_fn cells_fn storable_fn ren1_fn shaped_ifc cells_ifc storable_ifc ren1_ifc shaped_agg cells_agg storable_agg ren1_agg shaped_tup cells_tup storable_tup ren1_tup shaped_nif cells_nif storable_nif ren1_nif ren1_lany ren1_lfull ren1_lown len_lst len_rsl len_nil load_ptr load_eptr isRsl_lst isRsl_nil isRsl_rsl elems_nil elems_lst elems_sl isRsl_sl body_eq bodyK_normal bodyK_ret resK_some leaveK_some only_some code_skip code_exit code_ret code_ops code_seq code_cond code_block seqK_normal seqK_ret seqK_exit condK_true condK_false blockK_normal blockK_ret blockK_exit opsK_some ops_nil ops_cons wantK_true wantK_false stepK_some pubs pub pub_sl params okRef_loc storable_loc shaped_loc cells_loc isRsl_loc elems_loc len_loc untips untip untip_sl wantedAV setElems withO isAgg_v isAgg_agg isAgg_lst isAgg_ptr isAgg_fn isAgg_ifc isAgg_rsl isAgg_sl isAgg_loc List.replicate_succ List.replicate_zero opAV valAV aval avals ofVal Env.get setD canon gcAV renAll renEnv renStore renCells ren1_sl cutSt okEnv okStore okRefs okRef okRef_sl bin_int bin_bool bin_lst bin_rsl bin_nil bin_agg cellsEq cellEq isShift intOp boolOp min_int max_int beq_int bne resAV tupAV leave_eq fin_sl fin_loc fins fin_v fin_lst fin_agg fin_tup fin_fn storeAV readCells putCells cells_sl shaped_sl storable_sl fieldAddrAV len_sl goI List.getElem?_cons_zero List.getElem?_cons_succ List.getElem?_nil Option.bind_some Option.map_some List.length_cons List.length_nil List.all_cons List.all_nil Bool.and_true Bool.true_and Bool.and_false Bool.false_and and_true true_and and_false false_and Bool.false_eq_true List.set_cons_zero List.set_cons_succ List.append_nil List.nil_append List.cons_append List.take_zero List.take_succ_cons List.take_nil List.drop_zero List.drop_succ_cons List.map_cons List.map_nil decide_true decide_false beq_self_eq_true Bool.not_true Bool.not_false or_true true_or or_false false_or Nat.zero_add Nat.add_zero Nat.le_refl Nat.lt_irrefl decide_eq_true_eq eq_self_iff_true not_true_eq_false not_false_eq_true List.getD_cons_zero code_loop Nat.zero_le Nat.not_lt_zero Bool.true_beq Bool.false_beq beq_true beq_false ge_iff_le gt_iff_lt Lpure pus Option.map_none assert_ifc assert_nil idxA_ptr idxA_eptr idxV_agg Int.cast_ofNat_Int Nat.mul_one Nat.zero_mul Int.toNat_natCast Int.toNat_zero setParts withO2 hasKey eqnil_sl nenil_sl eqnil_loc nenil_loc map_nil_iff okRefs_ints renCells_ints

/-- The number ahead of a place, or -1. -/
def lastAt (l : List Int) : Nat → Int
  | 0 => -1
  | i + 1 => l.getD i 0

theorem loop25 (nl n2 : Bool) (n : Int) (ps : List (Int × Int)) (l : List Int) (hlen : l.length < 1000000) (i : Nat) (e : Int) (hok : i ≤ l.length ∧ (e = 0 → 1 ≤ n ∧ n ≤ 7)) (env : Env) (st : St)
    (hg : gcAV true 1 0 (canon env [1, 2, 5, 6]) st = ([(1, sl 1 n2 (l.map I)), (2, .ptr 0 0), (5, I e), (6, I i)], ⟨[bkCells nl n ps], []⟩)) :
    ∃ x_1 en s, lim (headed pure (run L) true [1, 2, 5, 6] lp25_0 1 0) env st = some (x_1, en, s) ∧ (x_1 = .exit 0 ∧ en.get 1 = sl 1 n2 (l.map I) ∧ en.get 2 = .ptr 0 0 ∧ s = ⟨[bkCells nl n ps], []⟩ ∧ en.get 5 = I (if e = 0 then wErr n (lastAt l i) (l.drop i) else e)) := by
  refine loop_wp (α := Nat × Int) (fun ⟨i, e⟩ => 2 * (l.length - i) + (if e = 0 then 1 else 0)) (fun ⟨i, e⟩ => i ≤ l.length ∧ (e = 0 → 1 ≤ n ∧ n ≤ 7)) (fun ⟨i, e⟩ => ([(1, sl 1 n2 (l.map I)), (2, .ptr 0 0), (5, I e), (6, I i)], ⟨[bkCells nl n ps], []⟩)) (fun ⟨i, e⟩ x_1 en s => x_1 = .exit 0 ∧ en.get 1 = sl 1 n2 (l.map I) ∧ en.get 2 = .ptr 0 0 ∧ s = ⟨[bkCells nl n ps], []⟩ ∧ en.get 5 = I (if e = 0 then wErr n (lastAt l i) (l.drop i) else e)) (fun ⟨i, e⟩ hok => ?_) ⟨i, e⟩ hok env st hg
  simp only at hok
  obtain ⟨h1, h2⟩ := hok
  dsimp only
  by_cases h : i < l.length
  · have hlt : ((i : Int) < (l.length : Int)) = True := eq_true (by omega)
    by_cases he : e = 0
    · subst he
      have hn := h2 rfl
      have hx := index_ints n2 l i h
      have hs := succ64 i (by omega)
      have hd : l.drop i = l[i] :: l.drop (i + 1) := List.drop_eq_getElem_cons h
      have hla : lastAt l (i + 1) = l[i] := by simp [lastAt, List.getD_eq_getElem?_getD, List.getElem?_eq_getElem h]
      have hw : IntKind.i64.wrap (n - 1) = n - 1 := by rw [wrap64] <;> omega
      rw [hd]
      generalize l[i] = a at *
      have he0 : ∀ c : Int, c ≠ 0 → (c = 0) = False := fun c hc => eq_false hc
      by_cases p1 : ¬(0 ≤ a ∧ a ≤ n - 1)
      · have e1 : wErr n (lastAt l i) (a :: l.drop (i + 1)) = 2 := by simp only [wErr]; rw [if_pos (by omega)]
        simp only [go_sem, reduceIte, Nat.reduceEqDiff, Nat.reduceAdd, Nat.reduceSub, Nat.reduceLeDiff, Nat.reduceLT, reduceCtorEq, Int.reduceLT, Int.reduceLE, Int.reduceEq, Int.reduceBEq, Int.reduceSub, Int.reduceAdd, Int.reduceMul, Int.reduceNeg, Int.reduceToNat, Nat.reduceMul, Nat.reduceBEq, index_rsl_if, setm, make_ints, condK_dec, wantK_dec, not_dec, and_dec, or_dec, seqK_ite, seqK_none, blockK_ite, blockK_none, opsK_ite, opsK_none, stepK_ite, stepK_none, bodyK_ite, bodyK_none, resK_ite, resK_none, leaveK_ite, leaveK_none, only_ite, only_none, bind_ite, gives_some, gives_none, gives_ite, then_normal, then_ret, then_exit, then_none, then_ite, Option.bind_none, Bool.not_eq_true', decide_eq_false_iff_not, Bool.and_eq_true, Bool.or_eq_true, Option.some.injEq, Int.not_lt, Int.not_le, lp25_0, hx, hlt, c77, hw, p1, hs, List.length_map]
        refine ⟨(i + 1, (2 : Int)), by simp only [go_sem, reduceIte, Nat.reduceEqDiff, Nat.reduceAdd, Nat.reduceSub, Nat.reduceLeDiff, Nat.reduceLT, reduceCtorEq, Int.reduceLT, Int.reduceLE, Int.reduceEq, Int.reduceBEq, Int.reduceSub, Int.reduceAdd, Int.reduceMul, Int.reduceNeg, Int.reduceToNat, Nat.reduceMul, Nat.reduceBEq, ren1_locm, loc_tips, locT_eq] <;> rfl, ?_, ?_, fun x en s hq => ?_⟩
        · dsimp only; exact ⟨by omega, by omega⟩
        · simp only; simp; omega
        · rw [e1]; simpa using hq
      replace p1 := Decidable.not_not.1 p1
      cases i with
      | zero =>
        have hl0 : lastAt l 0 = -1 := rfl
        have e1 : wErr n (lastAt l 0) (a :: l.drop 1) = wErr n a (l.drop 1) := by rw [hl0]; simp only [wErr]; rw [if_neg (by omega), if_neg (by omega)]
        have q0 : ((0 : Int) < (l.length : Int)) = True := eq_true (by omega)
        simp only [Int.natCast_zero] at hx
        simp only [go_sem, reduceIte, Nat.reduceEqDiff, Nat.reduceAdd, Nat.reduceSub, Nat.reduceLeDiff, Nat.reduceLT, reduceCtorEq, Int.reduceLT, Int.reduceLE, Int.reduceEq, Int.reduceBEq, Int.reduceSub, Int.reduceAdd, Int.reduceMul, Int.reduceNeg, Int.reduceToNat, Nat.reduceMul, Nat.reduceBEq, index_rsl_if, setm, make_ints, condK_dec, wantK_dec, not_dec, and_dec, or_dec, seqK_ite, seqK_none, blockK_ite, blockK_none, opsK_ite, opsK_none, stepK_ite, stepK_none, bodyK_ite, bodyK_none, resK_ite, resK_none, leaveK_ite, leaveK_none, only_ite, only_none, bind_ite, gives_some, gives_none, gives_ite, then_normal, then_ret, then_exit, then_none, then_ite, Option.bind_none, Bool.not_eq_true', decide_eq_false_iff_not, Bool.and_eq_true, Bool.or_eq_true, Option.some.injEq, Int.not_lt, Int.not_le, lp25_0, hx, q0, c77, hw, p1, List.length_map]
        refine ⟨(1, (0 : Int)), by simp only [go_sem, reduceIte, Nat.reduceEqDiff, Nat.reduceAdd, Nat.reduceSub, Nat.reduceLeDiff, Nat.reduceLT, reduceCtorEq, Int.reduceLT, Int.reduceLE, Int.reduceEq, Int.reduceBEq, Int.reduceSub, Int.reduceAdd, Int.reduceMul, Int.reduceNeg, Int.reduceToNat, Nat.reduceMul, Nat.reduceBEq, ren1_locm, loc_tips, locT_eq] <;> rfl, ?_, ?_, fun x en s hq => ?_⟩
        · dsimp only; exact ⟨by omega, fun _ => hn⟩
        · simp only; simp; omega
        · simp only [Nat.zero_add] at hla hq ⊢
          rw [hla] at hq
          rw [e1]; simpa using hq
      | succ k =>
        have hk : IntKind.i64.wrap (((k + 1 : Nat) : Int) - 1) = (k : Int) := by rw [wrap64] <;> omega
        have hx2 := index_ints n2 l k (by omega)
        have q0 : ((0 : Int) < ((k + 1 : Nat) : Int)) = True := eq_true (by omega)
        have hlk : lastAt l (k + 1) = l[k] := by simp [lastAt, List.getD_eq_getElem?_getD, List.getElem?_eq_getElem (show k < l.length by omega)]
        rw [hlk]
        generalize l[k] = b at *
        by_cases p2 : a ≤ b
        · have e1 : wErr n b (a :: l.drop (k + 1 + 1)) = 7 := by simp only [wErr]; rw [if_neg (by omega), if_pos p2]
          simp only [go_sem, reduceIte, Nat.reduceEqDiff, Nat.reduceAdd, Nat.reduceSub, Nat.reduceLeDiff, Nat.reduceLT, reduceCtorEq, Int.reduceLT, Int.reduceLE, Int.reduceEq, Int.reduceBEq, Int.reduceSub, Int.reduceAdd, Int.reduceMul, Int.reduceNeg, Int.reduceToNat, Nat.reduceMul, Nat.reduceBEq, index_rsl_if, setm, make_ints, condK_dec, wantK_dec, not_dec, and_dec, or_dec, seqK_ite, seqK_none, blockK_ite, blockK_none, opsK_ite, opsK_none, stepK_ite, stepK_none, bodyK_ite, bodyK_none, resK_ite, resK_none, leaveK_ite, leaveK_none, only_ite, only_none, bind_ite, gives_some, gives_none, gives_ite, then_normal, then_ret, then_exit, then_none, then_ite, Option.bind_none, Bool.not_eq_true', decide_eq_false_iff_not, Bool.and_eq_true, Bool.or_eq_true, Option.some.injEq, Int.not_lt, Int.not_le, lp25_0, hx, hlt, c77, hw, p1, hs, q0, hk, hx2, p2, List.length_map]
          refine ⟨(k + 1 + 1, (7 : Int)), by simp only [go_sem, reduceIte, Nat.reduceEqDiff, Nat.reduceAdd, Nat.reduceSub, Nat.reduceLeDiff, Nat.reduceLT, reduceCtorEq, Int.reduceLT, Int.reduceLE, Int.reduceEq, Int.reduceBEq, Int.reduceSub, Int.reduceAdd, Int.reduceMul, Int.reduceNeg, Int.reduceToNat, Nat.reduceMul, Nat.reduceBEq, ren1_locm, loc_tips, locT_eq] <;> rfl, ?_, ?_, fun x en s hq => ?_⟩
          · dsimp only; exact ⟨by omega, by omega⟩
          · simp only; simp; omega
          · rw [e1]; simpa using hq
        · have e1 : wErr n b (a :: l.drop (k + 1 + 1)) = wErr n a (l.drop (k + 1 + 1)) := by simp only [wErr]; rw [if_neg (by omega), if_neg p2]
          simp only [go_sem, reduceIte, Nat.reduceEqDiff, Nat.reduceAdd, Nat.reduceSub, Nat.reduceLeDiff, Nat.reduceLT, reduceCtorEq, Int.reduceLT, Int.reduceLE, Int.reduceEq, Int.reduceBEq, Int.reduceSub, Int.reduceAdd, Int.reduceMul, Int.reduceNeg, Int.reduceToNat, Nat.reduceMul, Nat.reduceBEq, index_rsl_if, setm, make_ints, condK_dec, wantK_dec, not_dec, and_dec, or_dec, seqK_ite, seqK_none, blockK_ite, blockK_none, opsK_ite, opsK_none, stepK_ite, stepK_none, bodyK_ite, bodyK_none, resK_ite, resK_none, leaveK_ite, leaveK_none, only_ite, only_none, bind_ite, gives_some, gives_none, gives_ite, then_normal, then_ret, then_exit, then_none, then_ite, Option.bind_none, Bool.not_eq_true', decide_eq_false_iff_not, Bool.and_eq_true, Bool.or_eq_true, Option.some.injEq, Int.not_lt, Int.not_le, lp25_0, hx, hlt, c77, hw, p1, hs, q0, hk, hx2, p2, List.length_map]
          refine ⟨(k + 1 + 1, (0 : Int)), by simp only [go_sem, reduceIte, Nat.reduceEqDiff, Nat.reduceAdd, Nat.reduceSub, Nat.reduceLeDiff, Nat.reduceLT, reduceCtorEq, Int.reduceLT, Int.reduceLE, Int.reduceEq, Int.reduceBEq, Int.reduceSub, Int.reduceAdd, Int.reduceMul, Int.reduceNeg, Int.reduceToNat, Nat.reduceMul, Nat.reduceBEq, ren1_locm, loc_tips, locT_eq] <;> rfl, ?_, ?_, fun x en s hq => ?_⟩
          · dsimp only; exact ⟨by omega, fun _ => hn⟩
          · simp only; simp; omega
          · rw [hla] at hq
            rw [e1]; simpa using hq
    · simp only [go_sem, reduceIte, Nat.reduceEqDiff, Nat.reduceAdd, Nat.reduceSub, Nat.reduceLeDiff, Nat.reduceLT, reduceCtorEq, Int.reduceLT, Int.reduceLE, Int.reduceEq, Int.reduceBEq, Int.reduceSub, Int.reduceAdd, Int.reduceMul, Int.reduceNeg, Int.reduceToNat, Nat.reduceMul, Nat.reduceBEq, index_rsl_if, setm, make_ints, condK_dec, wantK_dec, not_dec, and_dec, or_dec, seqK_ite, seqK_none, blockK_ite, blockK_none, opsK_ite, opsK_none, stepK_ite, stepK_none, bodyK_ite, bodyK_none, resK_ite, resK_none, leaveK_ite, leaveK_none, only_ite, only_none, bind_ite, gives_some, gives_none, gives_ite, then_normal, then_ret, then_exit, then_none, then_ite, Option.bind_none, Bool.not_eq_true', decide_eq_false_iff_not, Bool.and_eq_true, Bool.or_eq_true, Option.some.injEq, Int.not_lt, Int.not_le, lp25_0, hlt, he, List.length_map]
  · have hd : l.drop i = [] := List.drop_eq_nil_of_le (by omega)
    have hlt : ((i : Int) < (l.length : Int)) = False := eq_false (by omega)
    simp only [go_sem, reduceIte, Nat.reduceEqDiff, Nat.reduceAdd, Nat.reduceSub, Nat.reduceLeDiff, Nat.reduceLT, reduceCtorEq, Int.reduceLT, Int.reduceLE, Int.reduceEq, Int.reduceBEq, Int.reduceSub, Int.reduceAdd, Int.reduceMul, Int.reduceNeg, Int.reduceToNat, Nat.reduceMul, Nat.reduceBEq, index_rsl_if, setm, make_ints, condK_dec, wantK_dec, not_dec, and_dec, or_dec, seqK_ite, seqK_none, blockK_ite, blockK_none, opsK_ite, opsK_none, stepK_ite, stepK_none, bodyK_ite, bodyK_none, resK_ite, resK_none, leaveK_ite, leaveK_none, only_ite, only_none, bind_ite, gives_some, gives_none, gives_ite, then_normal, then_ret, then_exit, then_none, then_ite, Option.bind_none, Bool.not_eq_true', decide_eq_false_iff_not, Bool.and_eq_true, Bool.or_eq_true, Option.some.injEq, Int.not_lt, Int.not_le, lp25_0, hlt, List.length_map]
    rw [hd]; simp only [wErr]
    by_cases he : e = 0 <;> simp [he]

theorem loop25b (nl n2 : Bool) (n : Int) (ps : List (Int × Int)) (hps : ps.length < 1000000) (l : List Int) (hlen : l.length < 1000000) (i : Nat) (e : Int) (hok : i ≤ ps.length) (env : Env) (st : St)
    (hg : gcAV true 1 0 (canon env [1, 2, 5, 7]) st = ([(1, sl 1 n2 (l.map I)), (2, .ptr 0 0), (5, I e), (7, I i)], ⟨[bkCells nl n ps], []⟩)) :
    ∃ x_1 en s, lim (headed pure (run L) true [1, 2, 5, 7] lp25_1 1 0) env st = some (x_1, en, s) ∧ (x_1 = .exit 2 ∧ en.get 5 = I (if e = 0 then (if meets (ps.drop i) l = true then 0 else 21) else e)) := by
  refine loop_wp (α := Nat × Int) (fun ⟨i, e⟩ => 2 * (ps.length - i) + (if e = 0 then 1 else 0)) (fun ⟨i, e⟩ => i ≤ ps.length) (fun ⟨i, e⟩ => ([(1, sl 1 n2 (l.map I)), (2, .ptr 0 0), (5, I e), (7, I i)], ⟨[bkCells nl n ps], []⟩)) (fun ⟨i, e⟩ x_1 en s => x_1 = .exit 2 ∧ en.get 5 = I (if e = 0 then (if meets (ps.drop i) l = true then 0 else 21) else e)) (fun ⟨i, e⟩ hok => ?_) ⟨i, e⟩ hok env st hg
  simp only at hok
  dsimp only
  by_cases h : i < ps.length
  · have hlt : ((i : Int) < (ps.length : Int)) = True := eq_true (by omega)
    by_cases he : e = 0
    · subst he
      have hx := index_prs nl ps i h
      have hs := succ64 i (by omega)
      have hd : ps.drop i = ps[i] :: ps.drop (i + 1) := List.drop_eq_getElem_cons h
      have h80 := fun a st => c80 n2 l hlen a st
      rw [hd]
      generalize ps[i] = c at *
      obtain ⟨u, v⟩ := c
      simp only at hx
      by_cases p : u ∈ l
      · have e1 : meets ((u, v) :: ps.drop (i + 1)) l = meets (ps.drop (i + 1)) l := by simp [meets, p]
        simp only [go_sem, reduceIte, Nat.reduceEqDiff, Nat.reduceAdd, Nat.reduceSub, Nat.reduceLeDiff, Nat.reduceLT, reduceCtorEq, Int.reduceLT, Int.reduceLE, Int.reduceEq, Int.reduceBEq, Int.reduceSub, Int.reduceAdd, Int.reduceMul, Int.reduceNeg, Int.reduceToNat, Nat.reduceMul, Nat.reduceBEq, index_rsl_if, setm, make_ints, condK_dec, wantK_dec, not_dec, and_dec, or_dec, seqK_ite, seqK_none, blockK_ite, blockK_none, opsK_ite, opsK_none, stepK_ite, stepK_none, bodyK_ite, bodyK_none, resK_ite, resK_none, leaveK_ite, leaveK_none, only_ite, only_none, bind_ite, gives_some, gives_none, gives_ite, then_normal, then_ret, then_exit, then_none, then_ite, Option.bind_none, Bool.not_eq_true', decide_eq_false_iff_not, Bool.and_eq_true, Bool.or_eq_true, Option.some.injEq, Int.not_lt, Int.not_le, lp25_1, hx, hlt, hs, h80, p, List.length_map]
        refine ⟨(i + 1, (0 : Int)), by simp only [go_sem, reduceIte, Nat.reduceEqDiff, Nat.reduceAdd, Nat.reduceSub, Nat.reduceLeDiff, Nat.reduceLT, reduceCtorEq, Int.reduceLT, Int.reduceLE, Int.reduceEq, Int.reduceBEq, Int.reduceSub, Int.reduceAdd, Int.reduceMul, Int.reduceNeg, Int.reduceToNat, Nat.reduceMul, Nat.reduceBEq, ren1_locm, loc_tips, locT_eq] <;> rfl, ?_, ?_, fun x en s hq => ?_⟩
        · omega
        · simp only; simp; omega
        · rw [e1]; simpa using hq
      · by_cases p2 : v ∈ l
        · have e1 : meets ((u, v) :: ps.drop (i + 1)) l = meets (ps.drop (i + 1)) l := by simp [meets, p2]
          simp only [go_sem, reduceIte, Nat.reduceEqDiff, Nat.reduceAdd, Nat.reduceSub, Nat.reduceLeDiff, Nat.reduceLT, reduceCtorEq, Int.reduceLT, Int.reduceLE, Int.reduceEq, Int.reduceBEq, Int.reduceSub, Int.reduceAdd, Int.reduceMul, Int.reduceNeg, Int.reduceToNat, Nat.reduceMul, Nat.reduceBEq, index_rsl_if, setm, make_ints, condK_dec, wantK_dec, not_dec, and_dec, or_dec, seqK_ite, seqK_none, blockK_ite, blockK_none, opsK_ite, opsK_none, stepK_ite, stepK_none, bodyK_ite, bodyK_none, resK_ite, resK_none, leaveK_ite, leaveK_none, only_ite, only_none, bind_ite, gives_some, gives_none, gives_ite, then_normal, then_ret, then_exit, then_none, then_ite, Option.bind_none, Bool.not_eq_true', decide_eq_false_iff_not, Bool.and_eq_true, Bool.or_eq_true, Option.some.injEq, Int.not_lt, Int.not_le, lp25_1, hx, hlt, hs, h80, p, p2, List.length_map]
          refine ⟨(i + 1, (0 : Int)), by simp only [go_sem, reduceIte, Nat.reduceEqDiff, Nat.reduceAdd, Nat.reduceSub, Nat.reduceLeDiff, Nat.reduceLT, reduceCtorEq, Int.reduceLT, Int.reduceLE, Int.reduceEq, Int.reduceBEq, Int.reduceSub, Int.reduceAdd, Int.reduceMul, Int.reduceNeg, Int.reduceToNat, Nat.reduceMul, Nat.reduceBEq, ren1_locm, loc_tips, locT_eq] <;> rfl, ?_, ?_, fun x en s hq => ?_⟩
          · omega
          · simp only; simp; omega
          · rw [e1]; simpa using hq
        · have e1 : meets ((u, v) :: ps.drop (i + 1)) l = false := by simp [meets, p, p2]
          simp only [go_sem, reduceIte, Nat.reduceEqDiff, Nat.reduceAdd, Nat.reduceSub, Nat.reduceLeDiff, Nat.reduceLT, reduceCtorEq, Int.reduceLT, Int.reduceLE, Int.reduceEq, Int.reduceBEq, Int.reduceSub, Int.reduceAdd, Int.reduceMul, Int.reduceNeg, Int.reduceToNat, Nat.reduceMul, Nat.reduceBEq, index_rsl_if, setm, make_ints, condK_dec, wantK_dec, not_dec, and_dec, or_dec, seqK_ite, seqK_none, blockK_ite, blockK_none, opsK_ite, opsK_none, stepK_ite, stepK_none, bodyK_ite, bodyK_none, resK_ite, resK_none, leaveK_ite, leaveK_none, only_ite, only_none, bind_ite, gives_some, gives_none, gives_ite, then_normal, then_ret, then_exit, then_none, then_ite, Option.bind_none, Bool.not_eq_true', decide_eq_false_iff_not, Bool.and_eq_true, Bool.or_eq_true, Option.some.injEq, Int.not_lt, Int.not_le, lp25_1, hx, hlt, hs, h80, p, p2, List.length_map]
          refine ⟨(i + 1, (21 : Int)), by simp only [go_sem, reduceIte, Nat.reduceEqDiff, Nat.reduceAdd, Nat.reduceSub, Nat.reduceLeDiff, Nat.reduceLT, reduceCtorEq, Int.reduceLT, Int.reduceLE, Int.reduceEq, Int.reduceBEq, Int.reduceSub, Int.reduceAdd, Int.reduceMul, Int.reduceNeg, Int.reduceToNat, Nat.reduceMul, Nat.reduceBEq, ren1_locm, loc_tips, locT_eq] <;> rfl, ?_, ?_, fun x en s hq => ?_⟩
          · omega
          · simp only; simp; omega
          · rw [e1]; simpa using hq
    · simp only [go_sem, reduceIte, Nat.reduceEqDiff, Nat.reduceAdd, Nat.reduceSub, Nat.reduceLeDiff, Nat.reduceLT, reduceCtorEq, Int.reduceLT, Int.reduceLE, Int.reduceEq, Int.reduceBEq, Int.reduceSub, Int.reduceAdd, Int.reduceMul, Int.reduceNeg, Int.reduceToNat, Nat.reduceMul, Nat.reduceBEq, index_rsl_if, setm, make_ints, condK_dec, wantK_dec, not_dec, and_dec, or_dec, seqK_ite, seqK_none, blockK_ite, blockK_none, opsK_ite, opsK_none, stepK_ite, stepK_none, bodyK_ite, bodyK_none, resK_ite, resK_none, leaveK_ite, leaveK_none, only_ite, only_none, bind_ite, gives_some, gives_none, gives_ite, then_normal, then_ret, then_exit, then_none, then_ite, Option.bind_none, Bool.not_eq_true', decide_eq_false_iff_not, Bool.and_eq_true, Bool.or_eq_true, Option.some.injEq, Int.not_lt, Int.not_le, lp25_1, hlt, he, List.length_map]
  · have hd : ps.drop i = [] := List.drop_eq_nil_of_le (by omega)
    have hlt : ((i : Int) < (ps.length : Int)) = False := eq_false (by omega)
    simp only [go_sem, reduceIte, Nat.reduceEqDiff, Nat.reduceAdd, Nat.reduceSub, Nat.reduceLeDiff, Nat.reduceLT, reduceCtorEq, Int.reduceLT, Int.reduceLE, Int.reduceEq, Int.reduceBEq, Int.reduceSub, Int.reduceAdd, Int.reduceMul, Int.reduceNeg, Int.reduceToNat, Nat.reduceMul, Nat.reduceBEq, index_rsl_if, setm, make_ints, condK_dec, wantK_dec, not_dec, and_dec, or_dec, seqK_ite, seqK_none, blockK_ite, blockK_none, opsK_ite, opsK_none, stepK_ite, stepK_none, bodyK_ite, bodyK_none, resK_ite, resK_none, leaveK_ite, leaveK_none, only_ite, only_none, bind_ite, gives_some, gives_none, gives_ite, then_normal, then_ret, then_exit, then_none, then_ite, Option.bind_none, Bool.not_eq_true', decide_eq_false_iff_not, Bool.and_eq_true, Bool.or_eq_true, Option.some.injEq, Int.not_lt, Int.not_le, lp25_1, hlt, List.length_map]
    rw [hd]; simp only [meets, List.all_nil, if_true]
    by_cases he : e = 0 <;> simp [he]

theorem c25 (nl n2 : Bool) (n : Int) (ps : List (Int × Int)) (hps : ps.length < 1000000) (l : List Int) (hlen : l.length < 1000000) (st : St) :
    run L 25 [bkAV nl n ps, sl 1 n2 (l.map I)] st = some (I (validV n ps l), st) := by
  rw [run_pure (fn := ir25) rfl rfl]
  have h23 := fun st => c23 nl n ps st
  simp only [ir25, go_sem, reduceIte, Nat.reduceEqDiff, Nat.reduceAdd, Nat.reduceSub, Nat.reduceLeDiff, Nat.reduceLT, reduceCtorEq, Int.reduceLT, Int.reduceLE, Int.reduceEq, Int.reduceBEq, Int.reduceSub, Int.reduceAdd, Int.reduceMul, Int.reduceNeg, Int.reduceToNat, Nat.reduceMul, Nat.reduceBEq, h23]
  generalize hg : lim (headed pure (run L) true _ lp25_0 _ _) _ _ = o
  obtain ⟨x, en, s, rfl, h2⟩ : ∃ x en s, o = some (x, en, s) ∧ _ := by rw [← hg]; exact loop25 nl n2 n ps l hlen 0 (chk n ps) ⟨by omega, fun h => ⟨(chk_zero h).1, (chk_zero h).2.1⟩⟩ _ _ (by simp only [go_sem, reduceIte, Nat.reduceEqDiff, Nat.reduceAdd, Nat.reduceSub, Nat.reduceLeDiff, Nat.reduceLT, reduceCtorEq, Int.reduceLT, Int.reduceLE, Int.reduceEq, Int.reduceBEq, Int.reduceSub, Int.reduceAdd, Int.reduceMul, Int.reduceNeg, Int.reduceToNat, Nat.reduceMul, Nat.reduceBEq, Int.natCast_zero] <;> rfl)
  clear hg
  obtain ⟨rfl, g1, g2, rfl, g3⟩ := h2
  simp only [go_sem, reduceIte, Nat.reduceEqDiff, Nat.reduceAdd, Nat.reduceSub, Nat.reduceLeDiff, Nat.reduceLT, reduceCtorEq, Int.reduceLT, Int.reduceLE, Int.reduceEq, Int.reduceBEq, Int.reduceSub, Int.reduceAdd, Int.reduceMul, Int.reduceNeg, Int.reduceToNat, Nat.reduceMul, Nat.reduceBEq, g1, g2, g3]
  generalize hg : lim (headed pure (run L) true _ lp25_1 _ _) _ _ = o
  obtain ⟨x, en, s, rfl, h2⟩ : ∃ x en s, o = some (x, en, s) ∧ _ := by rw [← hg]; exact loop25b nl n2 n ps hps l hlen 0 (if chk n ps = 0 then wErr n (lastAt l 0) (l.drop 0) else chk n ps) (by omega) _ _ (by simp only [go_sem, reduceIte, Nat.reduceEqDiff, Nat.reduceAdd, Nat.reduceSub, Nat.reduceLeDiff, Nat.reduceLT, reduceCtorEq, Int.reduceLT, Int.reduceLE, Int.reduceEq, Int.reduceBEq, Int.reduceSub, Int.reduceAdd, Int.reduceMul, Int.reduceNeg, Int.reduceToNat, Nat.reduceMul, Nat.reduceBEq, Int.natCast_zero, g1, g2, g3] <;> rfl)
  clear hg
  obtain ⟨rfl, k3⟩ := h2
  simp only [go_sem, reduceIte, Nat.reduceEqDiff, Nat.reduceAdd, Nat.reduceSub, Nat.reduceLeDiff, Nat.reduceLT, reduceCtorEq, Int.reduceLT, Int.reduceLE, Int.reduceEq, Int.reduceBEq, Int.reduceSub, Int.reduceAdd, Int.reduceMul, Int.reduceNeg, Int.reduceToNat, Nat.reduceMul, Nat.reduceBEq, k3]
  congr 4
  unfold validV
  by_cases h : chk n ps = 0
  · rw [if_pos h, if_pos h]
    show (if wErr n (-1) l = 0 then _ else _) = _
    by_cases p : wErr n (-1) l = 0
    · rw [if_pos p, if_pos p, expl_set (chk_zero h).2.2.2.2 (fun x hx => (wErr_zero p x hx).1)]
    · rw [if_neg p, if_neg p]; rfl
  · rw [if_neg h, if_neg h, if_neg h]

attribute [local go_sem high] and_one shr_u shl_one or_u

/-! ### arrays of sets -/
theorem okRefsU (n : Nat) (xs : List Nat) : okRefs n (xs.map U) = true := okRefs_map U n (fun _ => rfl) xs
theorem renCellsU (n : Nat) (tips : List Nat) (acc : List (Nat × Nat)) (xs : List Nat) : renCells n tips acc (xs.map U) = (xs.map U, acc) := renCells_map U n tips (fun _ _ => rfl) xs acc
theorem getU (o : List Nat) (a : Nat) (h : a < o.length) : (o.map U)[a]? = some (U (o.getD a 0)) := by
  rw [getm U o 0 a, if_pos h]
theorem frzV_v (l : Nat) (cs : List AV) (x : Value) : frzV l cs (.v x) = .v x := by simp only [frzV]
theorem frzV_ptr (l : Nat) (cs : List AV) (i o : Nat) : frzV l cs (.ptr i o) = .ptr i o := by simp only [frzV]
theorem frzV_any (l : Nat) (cs : List AV) : frzV l cs .any = .any := by simp only [frzV]
theorem frzVs_kind (l : Nat) (cs : List AV) {β : Type} (f : β → Value) (xs : List β) : frzVs l cs (xs.map fun b => .v (f b)) = xs.map fun b => .v (f b) := by
  induction xs with
  | nil => rfl
  | cons x r ih => simp only [List.map_cons, frzVs, frzV, ih]
theorem frzVs_U (l : Nat) (cs : List AV) (xs : List Nat) : frzVs l cs (xs.map U) = xs.map U := frzVs_kind l cs (fun (n : Nat) => Value.int .u64 (n : Int)) xs
theorem frzV_sl (l : Nat) (cs : List AV) (z : Nat) (nl : Bool) (xs : List AV) : frzV l cs (sl z nl xs) = sl z nl xs := by
  cases xs with
  | nil => cases nl <;> rfl
  | cons x r => rw [sl_ne (by simp)]; simp only [frzV]
theorem refsV_sl (n : Nat) (acc : List Nat) (z : Nat) (nl : Bool) (xs : List AV) : refsV n acc (sl z nl xs) = acc := by
  cases xs with
  | nil => cases nl <;> rfl
  | cons x r => rw [sl_ne (by simp)]; simp only [refsV]
theorem mapL_sl (n : Nat) (M : List Nat) (z : Nat) (nl : Bool) (xs : List AV) : mapL n M (sl z nl xs) = sl z nl xs := by
  cases xs with
  | nil => cases nl <;> rfl
  | cons x r => rw [sl_ne (by simp)]; simp only [mapL]
theorem refsL_kind (n : Nat) {β : Type} (f : β → Value) : ∀ (xs : List β) (acc : List Nat), refsL n acc (xs.map fun b => .v (f b)) = acc
  | [], acc => rfl
  | x :: r, acc => by simp only [List.map_cons, refsL, refsV, refsL_kind n f r]
theorem mapLs_kind (n : Nat) (M : List Nat) {β : Type} (f : β → Value) : ∀ (xs : List β), mapLs n M (xs.map fun b => .v (f b)) = xs.map fun b => .v (f b)
  | [] => rfl
  | x :: r => by simp only [List.map_cons, mapLs, mapL, mapLs_kind n M f r]
theorem refsL_U (n : Nat) (xs : List Nat) (acc : List Nat) : refsL n acc (xs.map U) = acc := refsL_kind n (fun (n : Nat) => Value.int .u64 (n : Int)) xs acc
theorem mapLs_U (n : Nat) (M : List Nat) (xs : List Nat) : mapLs n M (xs.map U) = xs.map U := mapLs_kind n M (fun (n : Nat) => Value.int .u64 (n : Int)) xs
theorem len_seven {α : Type} {l : List α} (h : l.length = 7) : ∃ a b c d e f g, l = [a, b, c, d, e, f, g] := by
  match l, h with
  | [a, b, c, d, e, f, g], _ => exact ⟨a, b, c, d, e, f, g, rfl⟩
theorem sh1_lt (b : Nat) (h : b < 7) : sh1 b = 2 ^ b ∧ 2 ^ b < 128 := ⟨sh1_eq b (by omega), Nat.pow_lt_pow_right (by omega) (show b < 7 from h)⟩
theorem small_getD {o : List Nat} (h : ∀ x ∈ o, x < 128) (a : Nat) : o.getD a 0 < 128 := by
  rw [List.getD_eq_getElem?_getD]
  cases h2 : o[a]?
  · simp
  · exact h _ (List.mem_of_getElem? h2)
theorem orAt_small {o : List Nat} (h : ∀ x ∈ o, x < 128) {a b : Nat} (hb : b < 7) : ∀ x ∈ orAt o a b, x < 128 := by
  intro x hx
  unfold orAt at hx
  rcases List.mem_or_eq_of_mem_set hx with hx | rfl
  · exact h x hx
  · exact Nat.or_lt_two_pow (n := 7) (small_getD h a) (sh1_lt b hb).2

def z7 : List AV := [U 0, U 0, U 0, U 0, U 0, U 0, U 0]

theorem loop89 (nl : Bool) (n : Int) (ps : List (Int × Int)) (hlen : ps.length < 1000000) (h7 : ∀ p ∈ ps, okP p) (i : Nat) (o : List Nat) (hok : i ≤ ps.length ∧ o.length = 7 ∧ ∀ x ∈ o, x < 128) (env : Env) (st : St)
    (hg : gcAV true 3 0 (canon env [2, 3, 7, 8, 9]) st = ([(2, .ptr 1 0), (3, .ptr 2 0), (7, sl 2 nl (ps.map prAV)), (8, I ps.length), (9, I i)], ⟨[bkCells nl n ps, z7, o.map U], []⟩)) :
    ∃ x_1 en s, lim (headed pure (run L) true [2, 3, 7, 8, 9] lp89_0 3 0) env st = some (x_1, en, s) ∧ (x_1 = .exit 0 ∧ en.get 2 = .ptr 1 0 ∧ en.get 3 = .ptr 2 0 ∧ s = ⟨[bkCells nl n ps, z7, ((ps.drop i).foldl adv1 o).map U], []⟩ ∧ ((ps.drop i).foldl adv1 o).length = 7) := by
  refine loop_wp (α := Nat × List Nat) (fun ⟨i, o⟩ => ps.length - i) (fun ⟨i, o⟩ => i ≤ ps.length ∧ o.length = 7 ∧ ∀ x ∈ o, x < 128) (fun ⟨i, o⟩ => ([(2, .ptr 1 0), (3, .ptr 2 0), (7, sl 2 nl (ps.map prAV)), (8, I ps.length), (9, I i)], ⟨[bkCells nl n ps, z7, o.map U], []⟩)) (fun ⟨i, o⟩ x_1 en s => x_1 = .exit 0 ∧ en.get 2 = .ptr 1 0 ∧ en.get 3 = .ptr 2 0 ∧ s = ⟨[bkCells nl n ps, z7, ((ps.drop i).foldl adv1 o).map U], []⟩ ∧ ((ps.drop i).foldl adv1 o).length = 7) (fun ⟨i, o⟩ hok => ?_) ⟨i, o⟩ hok env st hg
  simp only at hok
  obtain ⟨h1, h2, h3⟩ := hok
  dsimp only
  by_cases h : i < ps.length
  · have hx := index_prs nl ps i h
    have hs := succ64 i (by omega)
    have hd : ps.drop i = ps[i] :: ps.drop (i + 1) := List.drop_eq_getElem_cons h
    have hp := h7 ps[i] (List.getElem_mem h)
    rw [hd, List.foldl_cons]
    generalize ps[i] = c at *
    obtain ⟨u, v⟩ := c
    obtain ⟨a1, a2, a3, a4⟩ := hp
    simp only at a1 a2 a3 a4 hx
    obtain ⟨u, rfl⟩ := Int.eq_ofNat_of_zero_le a1
    obtain ⟨v, rfl⟩ := Int.eq_ofNat_of_zero_le a3
    have hlt : ((i : Int) < (ps.length : Int)) = True := eq_true (by omega)
    have hu : u < 7 := by omega
    have hv : v < 7 := by omega
    have e1 : orU (o.getD u 0) (sh1 v) = o.getD u 0 ||| 2 ^ v := by rw [(sh1_lt v hv).1, orU_eq _ _ (small_getD h3 u) (sh1_lt v hv).2]
    have hs1 := orAt_small h3 (a := u) hv
    have hl1 := orAt_len o u v
    have e2 : orU ((orAt o u v).getD v 0) (sh1 u) = (orAt o u v).getD v 0 ||| 2 ^ u := by rw [(sh1_lt u hu).1, orU_eq _ _ (small_getD hs1 v) (sh1_lt u hu).2]
    have hs2 := orAt_small hs1 (a := v) hu
    have hl2 := orAt_len (orAt o u v) v u
    have g1 := getU o u (by omega)
    have g2 := getU (orAt o u v) v (by omega)
    have hset1 : o.set u (o.getD u 0 ||| 2 ^ v) = orAt o u v := rfl
    have hset2 : (orAt o u v).set v ((orAt o u v).getD v 0 ||| 2 ^ u) = adv1 o ((u : Int), (v : Int)) := rfl
    have hadv : adv1 o ((u : Int), (v : Int)) = orAt (orAt o u v) v u := rfl
    have b1 : ((0 : Int) ≤ (u : Int)) = True := eq_true (by omega)
    have b2 : ((u : Int) < 7) = True := eq_true (by omega)
    have b3 : ((0 : Int) ≤ (v : Int)) = True := eq_true (by omega)
    have b4 : ((v : Int) < 7) = True := eq_true (by omega)
    have b5 : (u + 1 ≤ 7) = True := eq_true (by omega)
    have b6 : (v + 1 ≤ 7) = True := eq_true (by omega)
    rw [h2] at hl1
    rw [hl1] at hl2
    rw [← hadv] at hs2 hl2
    generalize adv1 o ((u : Int), (v : Int)) = o2 at *
    simp only [go_sem, reduceIte, Nat.reduceEqDiff, Nat.reduceAdd, Nat.reduceSub, Nat.reduceLeDiff, Nat.reduceLT, reduceCtorEq, Int.reduceLT, Int.reduceLE, Int.reduceEq, Int.reduceBEq, Int.reduceSub, Int.reduceAdd, Int.reduceMul, Int.reduceNeg, Int.reduceToNat, Nat.reduceMul, Nat.reduceBEq, index_rsl_if, setm, make_ints, condK_dec, wantK_dec, not_dec, and_dec, or_dec, seqK_ite, seqK_none, blockK_ite, blockK_none, opsK_ite, opsK_none, stepK_ite, stepK_none, bodyK_ite, bodyK_none, resK_ite, resK_none, leaveK_ite, leaveK_none, only_ite, only_none, bind_ite, gives_some, gives_none, gives_ite, then_normal, then_ret, then_exit, then_none, then_ite, Option.bind_none, Bool.not_eq_true', decide_eq_false_iff_not, Bool.and_eq_true, Bool.or_eq_true, Option.some.injEq, Int.not_lt, Int.not_le, lp89_0, hx, hlt, hs, b1, b2, b3, b4, b5, b6, g1, g2, e1, e2, hset1, hset2, h2, hl1, hl2, List.length_map]
    refine ⟨(i + 1, o2), by simp only [go_sem, reduceIte, Nat.reduceEqDiff, Nat.reduceAdd, Nat.reduceSub, Nat.reduceLeDiff, Nat.reduceLT, reduceCtorEq, Int.reduceLT, Int.reduceLE, Int.reduceEq, Int.reduceBEq, Int.reduceSub, Int.reduceAdd, Int.reduceMul, Int.reduceNeg, Int.reduceToNat, Nat.reduceMul, Nat.reduceBEq, ren1_locm, loc_tips, locT_eq, okRefsU, renCellsU, z7] <;> rfl, ?_, ?_, fun x en s hq => ?_⟩
    · dsimp only; exact ⟨by omega, hl2, hs2⟩
    · simp only; omega
    · exact hq
  · have hd : ps.drop i = [] := List.drop_eq_nil_of_le (by omega)
    have hlt : ((i : Int) < (ps.length : Int)) = False := eq_false (by omega)
    simp only [go_sem, reduceIte, Nat.reduceEqDiff, Nat.reduceAdd, Nat.reduceSub, Nat.reduceLeDiff, Nat.reduceLT, reduceCtorEq, Int.reduceLT, Int.reduceLE, Int.reduceEq, Int.reduceBEq, Int.reduceSub, Int.reduceAdd, Int.reduceMul, Int.reduceNeg, Int.reduceToNat, Nat.reduceMul, Nat.reduceBEq, index_rsl_if, setm, make_ints, condK_dec, wantK_dec, not_dec, and_dec, or_dec, seqK_ite, seqK_none, blockK_ite, blockK_none, opsK_ite, opsK_none, stepK_ite, stepK_none, bodyK_ite, bodyK_none, resK_ite, resK_none, leaveK_ite, leaveK_none, only_ite, only_none, bind_ite, gives_some, gives_none, gives_ite, then_normal, then_ret, then_exit, then_none, then_ite, Option.bind_none, Bool.not_eq_true', decide_eq_false_iff_not, Bool.and_eq_true, Bool.or_eq_true, Option.some.injEq, Int.not_lt, Int.not_le, lp89_0, hlt, List.length_map]
    rw [hd]; exact ⟨rfl, h2⟩

theorem c89 (nl : Bool) (n : Int) (ps : List (Int × Int)) (hlen : ps.length < 1000000) (h7 : ∀ p ∈ ps, okP p) (st : St) :
    run L 89 [bkAV nl n ps] st = some (.agg ((advL ps).map U), st) := by
  rw [run_pure (fn := ir89) rfl rfl]
  simp only [ir89, go_sem, reduceIte, Nat.reduceEqDiff, Nat.reduceAdd, Nat.reduceSub, Nat.reduceLeDiff, Nat.reduceLT, reduceCtorEq, Int.reduceLT, Int.reduceLE, Int.reduceEq, Int.reduceBEq, Int.reduceSub, Int.reduceAdd, Int.reduceMul, Int.reduceNeg, Int.reduceToNat, Nat.reduceMul, Nat.reduceBEq, List.length_map]
  generalize hg : lim (headed pure (run L) true _ lp89_0 _ _) _ _ = o
  obtain ⟨x, en, s, rfl, h2⟩ : ∃ x en s, o = some (x, en, s) ∧ _ := by rw [← hg]; exact loop89 nl n ps hlen h7 0 (List.replicate 7 0) ⟨by omega, by simp, by simp⟩ _ _ (by simp only [go_sem, reduceIte, Nat.reduceEqDiff, Nat.reduceAdd, Nat.reduceSub, Nat.reduceLeDiff, Nat.reduceLT, reduceCtorEq, Int.reduceLT, Int.reduceLE, Int.reduceEq, Int.reduceBEq, Int.reduceSub, Int.reduceAdd, Int.reduceMul, Int.reduceNeg, Int.reduceToNat, Nat.reduceMul, Nat.reduceBEq, z7, List.map_replicate] <;> rfl)
  clear hg
  obtain ⟨rfl, h3, h4, rfl, h5⟩ := h2
  rw [List.drop_zero] at h5 ⊢
  have e : ps.foldl adv1 (List.replicate 7 0) = advL ps := rfl
  rw [e] at h5 ⊢
  obtain ⟨a, b, c, d, f, g, k, h6⟩ := len_seven h5
  rw [h6]
  simp only [go_sem, reduceIte, Nat.reduceEqDiff, Nat.reduceAdd, Nat.reduceSub, Nat.reduceLeDiff, Nat.reduceLT, reduceCtorEq, Int.reduceLT, Int.reduceLE, Int.reduceEq, Int.reduceBEq, Int.reduceSub, Int.reduceAdd, Int.reduceMul, Int.reduceNeg, Int.reduceToNat, Nat.reduceMul, Nat.reduceBEq, h3, h4, z7]

attribute [local go_sem high] and_one shr_u shl_one or_u

theorem loop82 (nl : Bool) (l : List Int) (hlen : l.length < 1000) (x : Int) (i : Nat) (out : List Int) (hok : i ≤ l.length ∧ out.length ≤ i) (env : Env) (st : St)
    (hg : gcAV true 0 0 (canon env [1, 5, 8, 9, 10]) st = ([(1, I x), (5, loc 1 0 (out.map I)), (8, sl 1 nl (l.map I)), (9, I l.length), (10, I i)], ⟨[], locT 0 (out.map I)⟩)) :
    ∃ x_1 en s, lim (headed pure (run L) true [1, 5, 8, 9, 10] lp82_0 0 0) env st = some (x_1, en, s) ∧ (x_1 = .exit 0 ∧ en.get 5 = loc 1 0 ((out ++ withL x (l.drop i) i).map I)) := by
  refine loop_wp (α := Nat × List Int) (fun ⟨i, out⟩ => l.length - i) (fun ⟨i, out⟩ => i ≤ l.length ∧ out.length ≤ i) (fun ⟨i, out⟩ => ([(1, I x), (5, loc 1 0 (out.map I)), (8, sl 1 nl (l.map I)), (9, I l.length), (10, I i)], ⟨[], locT 0 (out.map I)⟩)) (fun ⟨i, out⟩ x_1 en s => x_1 = .exit 0 ∧ en.get 5 = loc 1 0 ((out ++ withL x (l.drop i) i).map I)) (fun ⟨i, out⟩ hok => ?_) ⟨i, out⟩ hok env st hg
  simp only at hok
  obtain ⟨h1, h2⟩ := hok
  dsimp only
  by_cases h : i < l.length
  · have hx := index_ints nl l i h
    have hs := succ64 i (by omega)
    have hd : l.drop i = l[i] :: l.drop (i + 1) := List.drop_eq_getElem_cons h
    have hlt : ((i : Int) < (l.length : Int)) = True := eq_true (by omega)
    rw [hd]
    generalize l[i] = a at *
    by_cases p : a = x
    · subst p
      have happ := append_locm (z := 1) (k := 0) I out (i : Int) [] (by omega) (by simp [maxGrow]; omega)
      simp only [go_sem, reduceIte, Nat.reduceEqDiff, Nat.reduceAdd, Nat.reduceSub, Nat.reduceLeDiff, Nat.reduceLT, reduceCtorEq, Int.reduceLT, Int.reduceLE, Int.reduceEq, Int.reduceBEq, Int.reduceSub, Int.reduceAdd, Int.reduceMul, Int.reduceNeg, Int.reduceToNat, Nat.reduceMul, Nat.reduceBEq, index_rsl_if, setm, make_ints, condK_dec, wantK_dec, not_dec, and_dec, or_dec, seqK_ite, seqK_none, blockK_ite, blockK_none, opsK_ite, opsK_none, stepK_ite, stepK_none, bodyK_ite, bodyK_none, resK_ite, resK_none, leaveK_ite, leaveK_none, only_ite, only_none, bind_ite, gives_some, gives_none, gives_ite, then_normal, then_ret, then_exit, then_none, then_ite, Option.bind_none, Bool.not_eq_true', decide_eq_false_iff_not, Bool.and_eq_true, Bool.or_eq_true, Option.some.injEq, Int.not_lt, Int.not_le, lp82_0, hx, hlt, hs, happ, List.length_map]
      refine ⟨(i + 1, out ++ [(i : Int)]), by simp only [go_sem, reduceIte, Nat.reduceEqDiff, Nat.reduceAdd, Nat.reduceSub, Nat.reduceLeDiff, Nat.reduceLT, reduceCtorEq, Int.reduceLT, Int.reduceLE, Int.reduceEq, Int.reduceBEq, Int.reduceSub, Int.reduceAdd, Int.reduceMul, Int.reduceNeg, Int.reduceToNat, Nat.reduceMul, Nat.reduceBEq, ren1_locm, loc_tips, locT_eq] <;> rfl, ?_, ?_, fun x en s hq => ?_⟩
      · dsimp only; exact ⟨by omega, by simp; omega⟩
      · simp only; omega
      · simp only [withL, if_true]; simpa using hq
    · simp only [go_sem, reduceIte, Nat.reduceEqDiff, Nat.reduceAdd, Nat.reduceSub, Nat.reduceLeDiff, Nat.reduceLT, reduceCtorEq, Int.reduceLT, Int.reduceLE, Int.reduceEq, Int.reduceBEq, Int.reduceSub, Int.reduceAdd, Int.reduceMul, Int.reduceNeg, Int.reduceToNat, Nat.reduceMul, Nat.reduceBEq, index_rsl_if, setm, make_ints, condK_dec, wantK_dec, not_dec, and_dec, or_dec, seqK_ite, seqK_none, blockK_ite, blockK_none, opsK_ite, opsK_none, stepK_ite, stepK_none, bodyK_ite, bodyK_none, resK_ite, resK_none, leaveK_ite, leaveK_none, only_ite, only_none, bind_ite, gives_some, gives_none, gives_ite, then_normal, then_ret, then_exit, then_none, then_ite, Option.bind_none, Bool.not_eq_true', decide_eq_false_iff_not, Bool.and_eq_true, Bool.or_eq_true, Option.some.injEq, Int.not_lt, Int.not_le, lp82_0, hx, hlt, hs, p, List.length_map]
      refine ⟨(i + 1, out), by simp only [go_sem, reduceIte, Nat.reduceEqDiff, Nat.reduceAdd, Nat.reduceSub, Nat.reduceLeDiff, Nat.reduceLT, reduceCtorEq, Int.reduceLT, Int.reduceLE, Int.reduceEq, Int.reduceBEq, Int.reduceSub, Int.reduceAdd, Int.reduceMul, Int.reduceNeg, Int.reduceToNat, Nat.reduceMul, Nat.reduceBEq, ren1_locm, loc_tips, locT_eq] <;> rfl, ?_, ?_, fun x en s hq => ?_⟩
      · dsimp only; exact ⟨by omega, by omega⟩
      · simp only; omega
      · simp only [withL, if_neg p]; exact hq
  · have hd : l.drop i = [] := List.drop_eq_nil_of_le (by omega)
    have hlt : ((i : Int) < (l.length : Int)) = False := eq_false (by omega)
    simp only [go_sem, reduceIte, Nat.reduceEqDiff, Nat.reduceAdd, Nat.reduceSub, Nat.reduceLeDiff, Nat.reduceLT, reduceCtorEq, Int.reduceLT, Int.reduceLE, Int.reduceEq, Int.reduceBEq, Int.reduceSub, Int.reduceAdd, Int.reduceMul, Int.reduceNeg, Int.reduceToNat, Nat.reduceMul, Nat.reduceBEq, index_rsl_if, setm, make_ints, condK_dec, wantK_dec, not_dec, and_dec, or_dec, seqK_ite, seqK_none, blockK_ite, blockK_none, opsK_ite, opsK_none, stepK_ite, stepK_none, bodyK_ite, bodyK_none, resK_ite, resK_none, leaveK_ite, leaveK_none, only_ite, only_none, bind_ite, gives_some, gives_none, gives_ite, then_normal, then_ret, then_exit, then_none, then_ite, Option.bind_none, Bool.not_eq_true', decide_eq_false_iff_not, Bool.and_eq_true, Bool.or_eq_true, Option.some.injEq, Int.not_lt, Int.not_le, lp82_0, hlt, List.length_map]
    rw [hd]; simp [withL]

theorem c82 (nl : Bool) (l : List Int) (hlen : l.length < 1000) (x : Int) (st : St) : run L 82 [sl 1 nl (l.map I), I x] st = some (sl 1 true ((withL x l 0).map I), st) := by
  rw [run_pure (fn := ir82) rfl rfl]
  simp only [ir82, go_sem, reduceIte, Nat.reduceEqDiff, Nat.reduceAdd, Nat.reduceSub, Nat.reduceLeDiff, Nat.reduceLT, reduceCtorEq, Int.reduceLT, Int.reduceLE, Int.reduceEq, Int.reduceBEq, Int.reduceSub, Int.reduceAdd, Int.reduceMul, Int.reduceNeg, Int.reduceToNat, Nat.reduceMul, Nat.reduceBEq, List.length_map]
  generalize hg : lim (headed pure (run L) true _ lp82_0 _ _) _ _ = o
  obtain ⟨x, en, s, rfl, h2⟩ : ∃ x en s, o = some (x, en, s) ∧ _ := by rw [← hg]; exact loop82 nl l hlen x 0 [] ⟨by omega, by simp⟩ _ _ (by simp only [go_sem, reduceIte, Nat.reduceEqDiff, Nat.reduceAdd, Nat.reduceSub, Nat.reduceLeDiff, Nat.reduceLT, reduceCtorEq, Int.reduceLT, Int.reduceLE, Int.reduceEq, Int.reduceBEq, Int.reduceSub, Int.reduceAdd, Int.reduceMul, Int.reduceNeg, Int.reduceToNat, Nat.reduceMul, Nat.reduceBEq, loc_start, locT] <;> rfl)
  clear hg
  obtain ⟨rfl, h3⟩ := h2
  rw [List.drop_zero, List.nil_append] at h3
  simp only [go_sem, reduceIte, Nat.reduceEqDiff, Nat.reduceAdd, Nat.reduceSub, Nat.reduceLeDiff, Nat.reduceLT, reduceCtorEq, Int.reduceLT, Int.reduceLE, Int.reduceEq, Int.reduceBEq, Int.reduceSub, Int.reduceAdd, Int.reduceMul, Int.reduceNeg, Int.reduceToNat, Nat.reduceMul, Nat.reduceBEq, h3]

/-- The union of sets. -/
def unionOf (adj : List Nat) (t : Nat) (a : Int) : Nat := t ||| adj.getD a.toNat 0

theorem loop81_0 (nl : Bool) (n : Nat) (ps : List (Int × Int)) (adj : List Nat) (hadj : adj.length = 7) (hsm : ∀ x ∈ adj, x < 128) (z N : Nat) (best : List Int) (least : Int) (l : List Int) (hlen : l.length < 1000) (hl : ∀ a ∈ l, 0 ≤ a ∧ a < 7) (i : Nat) (t : Nat) (hok : i ≤ l.length ∧ t < 128) (env : Env) (st : St)
    (hg : gcAV true 2 0 (canon env [1, 3, 4, 5, 6, 7, 17, 18, 22, 23, 24]) st = ([(1, .ptr 0 0), (3, .ptr 1 0), (4, sl 1 true (best.map I)), (5, I least), (6, U z), (7, .v (.int .u64 (t : Int))), (17, U N), (18, U z), (22, sl 1 true (l.map I)), (23, I l.length), (24, I i)], ⟨[bkCells nl n ps, adj.map U], []⟩)) :
    ∃ x_1 en s, lim (headed pure (run L) true [1, 3, 4, 5, 6, 7, 17, 18, 22, 23, 24] lp81_0 2 0) env st = some (x_1, en, s) ∧ (x_1 = .exit 2 ∧ en.get 1 = .ptr 0 0 ∧ en.get 3 = .ptr 1 0 ∧ en.get 4 = sl 1 true (best.map I) ∧ en.get 5 = I least ∧ en.get 6 = U z ∧ en.get 7 = U ((l.drop i).foldl (unionOf adj) t) ∧ en.get 17 = U N ∧ en.get 18 = U z ∧ en.get 3000000 = .any ∧ s = ⟨[bkCells nl n ps, adj.map U], []⟩) := by
  refine loop_wp (α := Nat × Nat) (fun ⟨i, t⟩ => l.length - i) (fun ⟨i, t⟩ => i ≤ l.length ∧ t < 128) (fun ⟨i, t⟩ => ([(1, .ptr 0 0), (3, .ptr 1 0), (4, sl 1 true (best.map I)), (5, I least), (6, U z), (7, .v (.int .u64 (t : Int))), (17, U N), (18, U z), (22, sl 1 true (l.map I)), (23, I l.length), (24, I i)], ⟨[bkCells nl n ps, adj.map U], []⟩)) (fun ⟨i, t⟩ x_1 en s => x_1 = .exit 2 ∧ en.get 1 = .ptr 0 0 ∧ en.get 3 = .ptr 1 0 ∧ en.get 4 = sl 1 true (best.map I) ∧ en.get 5 = I least ∧ en.get 6 = U z ∧ en.get 7 = U ((l.drop i).foldl (unionOf adj) t) ∧ en.get 17 = U N ∧ en.get 18 = U z ∧ en.get 3000000 = .any ∧ s = ⟨[bkCells nl n ps, adj.map U], []⟩) (fun ⟨i, t⟩ hok => ?_) ⟨i, t⟩ hok env st hg
  simp only at hok
  obtain ⟨h1, h2⟩ := hok
  dsimp only
  by_cases h : i < l.length
  · have hx := index_ints true l i h
    have hs := succ64 i (by omega)
    have hd : l.drop i = l[i] :: l.drop (i + 1) := List.drop_eq_getElem_cons h
    have hlt : ((i : Int) < (l.length : Int)) = True := eq_true (by omega)
    have ha := hl l[i] (List.getElem_mem h)
    rw [hd, List.foldl_cons]
    generalize l[i] = a at *
    obtain ⟨a, rfl⟩ := Int.eq_ofNat_of_zero_le ha.1
    have g1 := getU adj a (by omega)
    have b1 : ((0 : Int) ≤ (a : Int)) = True := eq_true ha.1
    have b2 : ((a : Int) < 7) = True := eq_true ha.2
    have e1 := orU_eq t (adj.getD a 0) h2 (small_getD hsm a)
    have e2 : unionOf adj t (a : Int) = t ||| adj.getD a 0 := rfl
    have e3 : t ||| adj.getD a 0 < 128 := Nat.or_lt_two_pow (n := 7) h2 (small_getD hsm a)
    rw [e2]
    generalize adj.getD a 0 = w at *
    generalize t ||| w = t2 at *
    simp only [go_sem, reduceIte, Nat.reduceEqDiff, Nat.reduceAdd, Nat.reduceSub, Nat.reduceLeDiff, Nat.reduceLT, reduceCtorEq, Int.reduceLT, Int.reduceLE, Int.reduceEq, Int.reduceBEq, Int.reduceSub, Int.reduceAdd, Int.reduceMul, Int.reduceNeg, Int.reduceToNat, Nat.reduceMul, Nat.reduceBEq, index_rsl_if, setm, make_ints, condK_dec, wantK_dec, not_dec, and_dec, or_dec, seqK_ite, seqK_none, blockK_ite, blockK_none, opsK_ite, opsK_none, stepK_ite, stepK_none, bodyK_ite, bodyK_none, resK_ite, resK_none, leaveK_ite, leaveK_none, only_ite, only_none, bind_ite, gives_some, gives_none, gives_ite, then_normal, then_ret, then_exit, then_none, then_ite, Option.bind_none, Bool.not_eq_true', decide_eq_false_iff_not, Bool.and_eq_true, Bool.or_eq_true, Option.some.injEq, Int.not_lt, Int.not_le, lp81_0, hx, hlt, hs, g1, b1, b2, e1]
    refine ⟨(i + 1, t2), by simp only [go_sem, reduceIte, Nat.reduceEqDiff, Nat.reduceAdd, Nat.reduceSub, Nat.reduceLeDiff, Nat.reduceLT, reduceCtorEq, Int.reduceLT, Int.reduceLE, Int.reduceEq, Int.reduceBEq, Int.reduceSub, Int.reduceAdd, Int.reduceMul, Int.reduceNeg, Int.reduceToNat, Nat.reduceMul, Nat.reduceBEq, ren1_locm, loc_tips, locT_eq, okRefsU, renCellsU] <;> rfl, ?_, ?_, fun x en s hq => ?_⟩
    · dsimp only; exact ⟨by omega, e3⟩
    · simp only; omega
    · exact hq
  · have hd : l.drop i = [] := List.drop_eq_nil_of_le (by omega)
    have hlt : ((i : Int) < (l.length : Int)) = False := eq_false (by omega)
    simp only [go_sem, reduceIte, Nat.reduceEqDiff, Nat.reduceAdd, Nat.reduceSub, Nat.reduceLeDiff, Nat.reduceLT, reduceCtorEq, Int.reduceLT, Int.reduceLE, Int.reduceEq, Int.reduceBEq, Int.reduceSub, Int.reduceAdd, Int.reduceMul, Int.reduceNeg, Int.reduceToNat, Nat.reduceMul, Nat.reduceBEq, index_rsl_if, setm, make_ints, condK_dec, wantK_dec, not_dec, and_dec, or_dec, seqK_ite, seqK_none, blockK_ite, blockK_none, opsK_ite, opsK_none, stepK_ite, stepK_none, bodyK_ite, bodyK_none, resK_ite, resK_none, leaveK_ite, leaveK_none, only_ite, only_none, bind_ite, gives_some, gives_none, gives_ite, then_normal, then_ret, then_exit, then_none, then_ite, Option.bind_none, Bool.not_eq_true', decide_eq_false_iff_not, Bool.and_eq_true, Bool.or_eq_true, Option.some.injEq, Int.not_lt, Int.not_le, lp81_0, hlt]
    rw [hd]; rfl

/-- The values so far. -/
def valsTo (two z : Nat) (n k : Nat) : List Int := (List.range k).map (fun a => 1 + bitI two a - bitI z a) ++ List.replicate (n - k) 0
theorem valsTo_len (two z n k : Nat) (h : k ≤ n) : (valsTo two z n k).length = n := by simp [valsTo]; omega
theorem valsTo_zero (two z n : Nat) : valsTo two z n 0 = List.replicate n 0 := by simp [valsTo]
theorem valsTo_full (two z n : Nat) : valsTo two z n n = valsOf n two z := by simp [valsTo, valsOf]
theorem valsTo_set (two z n k : Nat) (h : k < n) : (valsTo two z n k).set k (1 + bitI two k - bitI z k) = valsTo two z n (k + 1) := by
  unfold valsTo
  obtain ⟨m, hm⟩ : ∃ m, n - k = m + 1 := ⟨n - k - 1, by omega⟩
  rw [hm, show n - (k + 1) = m by omega, List.range_succ, List.map_append, List.replicate_succ, List.set_append]
  rw [if_neg (by simp)]
  simp

theorem loop81_1 (nl : Bool) (n : Nat) (hn : n ≤ 7) (ps : List (Int × Int)) (adj : List Nat) (z two N : Nat) (best : List Int) (least cost : Int) (i : Nat) (hok : i ≤ n) (env : Env) (st : St)
    (hg : gcAV true 3 0 (canon env [1, 3, 4, 5, 6, 7, 10, 11, 17, 18, 50, 51]) st = ([(1, .ptr 0 0), (3, .ptr 1 0), (4, sl 1 true (best.map I)), (5, I least), (6, U z), (7, U two), (10, I cost), (11, .rsl 2 0 n n 1 false), (17, U N), (18, U z), (50, I n), (51, I i)], ⟨[bkCells nl n ps, adj.map U, (valsTo two z n i).map I], []⟩)) :
    ∃ x_1 en s, lim (headed pure (run L) true [1, 3, 4, 5, 6, 7, 10, 11, 17, 18, 50, 51] lp81_1 3 0) env st = some (x_1, en, s) ∧ (x_1 = .exit 4 ∧ en.get 1 = .ptr 0 0 ∧ en.get 3 = .ptr 1 0 ∧ en.get 4 = sl 1 true (best.map I) ∧ en.get 5 = I least ∧ en.get 10 = I cost ∧ en.get 11 = .rsl 2 0 n n 1 false ∧ en.get 17 = U N ∧ en.get 18 = U z ∧ en.get 3000000 = .any ∧ s = ⟨[bkCells nl n ps, adj.map U, (valsOf n two z).map I], []⟩) := by
  refine loop_wp (α := Nat) (fun i => n - i) (fun i => i ≤ n) (fun i => ([(1, .ptr 0 0), (3, .ptr 1 0), (4, sl 1 true (best.map I)), (5, I least), (6, U z), (7, U two), (10, I cost), (11, .rsl 2 0 n n 1 false), (17, U N), (18, U z), (50, I n), (51, I i)], ⟨[bkCells nl n ps, adj.map U, (valsTo two z n i).map I], []⟩)) (fun i x_1 en s => x_1 = .exit 4 ∧ en.get 1 = .ptr 0 0 ∧ en.get 3 = .ptr 1 0 ∧ en.get 4 = sl 1 true (best.map I) ∧ en.get 5 = I least ∧ en.get 10 = I cost ∧ en.get 11 = .rsl 2 0 n n 1 false ∧ en.get 17 = U N ∧ en.get 18 = U z ∧ en.get 3000000 = .any ∧ s = ⟨[bkCells nl n ps, adj.map U, (valsOf n two z).map I], []⟩) (fun i hok => ?_) i hok env st hg
  by_cases h : i < n
  · have hs := succ64 i (by omega)
    have hlt : ((i : Int) < (n : Int)) = True := eq_true (by omega)
    have hm1 := min64 i (by omega)
    have hb : ∀ m, IntKind.i64.wrap (((m >>> i) % 2 : Nat) : Int) = bitI m i := fun m => by unfold bitI; rw [wrap64] <;> omega
    have b1 : bitI two i = 0 ∨ bitI two i = 1 := by rw [bitI_eq]; split <;> simp
    have b2 : bitI z i = 0 ∨ bitI z i = 1 := by rw [bitI_eq]; split <;> simp
    have w1 : IntKind.i64.wrap (1 + bitI two i) = 1 + bitI two i := by rw [wrap64] <;> omega
    have w2 : IntKind.i64.wrap (1 + bitI two i - bitI z i) = 1 + bitI two i - bitI z i := by rw [wrap64] <;> omega
    have hset := valsTo_set two z n i h
    have hl := valsTo_len two z n i (by omega)
    have hi0 : ((0 : Int) ≤ (i : Int)) = True := eq_true (by omega)
    have hi1 : (i + 1 ≤ n) = True := eq_true (by omega)
    simp only [go_sem, reduceIte, Nat.reduceEqDiff, Nat.reduceAdd, Nat.reduceSub, Nat.reduceLeDiff, Nat.reduceLT, reduceCtorEq, Int.reduceLT, Int.reduceLE, Int.reduceEq, Int.reduceBEq, Int.reduceSub, Int.reduceAdd, Int.reduceMul, Int.reduceNeg, Int.reduceToNat, Nat.reduceMul, Nat.reduceBEq, index_rsl_if, setm, make_ints, condK_dec, wantK_dec, not_dec, and_dec, or_dec, seqK_ite, seqK_none, blockK_ite, blockK_none, opsK_ite, opsK_none, stepK_ite, stepK_none, bodyK_ite, bodyK_none, resK_ite, resK_none, leaveK_ite, leaveK_none, only_ite, only_none, bind_ite, gives_some, gives_none, gives_ite, then_normal, then_ret, then_exit, then_none, then_ite, Option.bind_none, Bool.not_eq_true', decide_eq_false_iff_not, Bool.and_eq_true, Bool.or_eq_true, Option.some.injEq, Int.not_lt, Int.not_le, lp81_1, hlt, hs, hm1, hb, w1, w2, hset, hl, hi0, hi1, List.length_map]
    refine ⟨i + 1, by simp only [go_sem, reduceIte, Nat.reduceEqDiff, Nat.reduceAdd, Nat.reduceSub, Nat.reduceLeDiff, Nat.reduceLT, reduceCtorEq, Int.reduceLT, Int.reduceLE, Int.reduceEq, Int.reduceBEq, Int.reduceSub, Int.reduceAdd, Int.reduceMul, Int.reduceNeg, Int.reduceToNat, Nat.reduceMul, Nat.reduceBEq, ren1_locm, loc_tips, locT_eq, okRefsU, renCellsU] <;> rfl, ?_, ?_, fun x en s hq => ?_⟩
    · omega
    · omega
    · exact hq
  · obtain rfl : i = n := by omega
    have hlt : ((i : Int) < (i : Int)) = False := eq_false (by omega)
    simp only [go_sem, reduceIte, Nat.reduceEqDiff, Nat.reduceAdd, Nat.reduceSub, Nat.reduceLeDiff, Nat.reduceLT, reduceCtorEq, Int.reduceLT, Int.reduceLE, Int.reduceEq, Int.reduceBEq, Int.reduceSub, Int.reduceAdd, Int.reduceMul, Int.reduceNeg, Int.reduceToNat, Nat.reduceMul, Nat.reduceBEq, index_rsl_if, setm, make_ints, condK_dec, wantK_dec, not_dec, and_dec, or_dec, seqK_ite, seqK_none, blockK_ite, blockK_none, opsK_ite, opsK_none, stepK_ite, stepK_none, bodyK_ite, bodyK_none, resK_ite, resK_none, leaveK_ite, leaveK_none, only_ite, only_none, bind_ite, gives_some, gives_none, gives_ite, then_normal, then_ret, then_exit, then_none, then_ite, Option.bind_none, Bool.not_eq_true', decide_eq_false_iff_not, Bool.and_eq_true, Bool.or_eq_true, Option.some.injEq, Int.not_lt, Int.not_le, lp81_1, hlt]
    rw [valsTo_full]


def andN (a b : Nat) : Nat := a % 2 ^ 64 &&& b % 2 ^ 64
theorem and_u (a b : Nat) : binAV .and none (.v (.int .u64 (a : Int))) (.v (.int .u64 (b : Int))) = some (.v (.int .u64 ((andN a b : Nat) : Int))) := by
  have h : (BitVec.ofInt 64 (a : Int) &&& BitVec.ofInt 64 (b : Int)).toNat = andN a b := by
    rw [BitVec.toNat_and]; simp [BitVec.ofInt_natCast, andN]
  show some (AV.v (.int .u64 (IntKind.u64.wrap ((BitVec.ofInt 64 (a : Int) &&& BitVec.ofInt 64 (b : Int)).toNat : Int)))) = _
  rw [h, wrapU]
  unfold andN
  exact Nat.lt_of_le_of_lt Nat.and_le_left (Nat.mod_lt _ (by decide))
theorem andN_eq (a b : Nat) (ha : a < 128) (hb : b < 128) : andN a b = a &&& b := by
  unfold andN; rw [Nat.mod_eq_of_lt (by omega), Nat.mod_eq_of_lt (by omega)]
attribute [local go_sem high] and_one shr_u shl_one or_u and_u

theorem frzL2 {a b cs : List AV} (hne : cs ≠ []) (r : List (List AV)) (T : List Nat) (env : Env) :
    frzL 2 env ⟨a :: b :: cs :: r, T⟩ = (frzEnv 2 cs env, ⟨frzVs 2 cs a :: frzVs 2 cs b :: [] :: frzStore 2 cs r, T⟩) := by
  cases cs with
  | nil => exact absurd rfl hne
  | cons c cs => rfl
theorem cell1_I (x : Int) : cell1 (I x) = I x := rfl
theorem frzV_made (l : Nat) (xs : List Int) (h : xs ≠ []) : frzV l (xs.map I) (.rsl l 0 xs.length xs.length 1 false) = sl 1 true (xs.map I) := by
  simp only [frzV, List.length_map, List.drop_zero]
  rw [if_pos ⟨trivial, by omega, .inr trivial, Nat.le_refl _⟩, pubs_map I (fun _ => rfl), groupm_one I cell1_I, sl_ne (by simpa using h)]

theorem memb_in (m : Nat) : ∀ a ∈ memb m, 0 ≤ a ∧ a < 7 := by
  intro a ha
  unfold memb at ha
  simp only [List.mem_map, List.mem_filter, List.mem_range] at ha
  obtain ⟨k, ⟨h1, _⟩, rfl⟩ := ha
  omega

set_option maxHeartbeats 4000000 in
theorem loop81 (nl : Bool) (n : Nat) (hn1 : 1 ≤ n) (hn : n ≤ 7) (ps : List (Int × Int)) (hps : ∀ p ∈ ps, 0 ≤ p.1 ∧ p.1 < p.2 ∧ p.2 < (n : Int)) (h7 : ∀ p ∈ ps, okP p) (hadj : (advL ps).length = 7) (hsm : ∀ x ∈ advL ps, x < 128) (z : Nat) (best : List Int) (least : Int) (hok : z ≤ 2 ^ n) (env : Env) (st : St)
    (hg : gcAV true 2 0 (canon env [1, 3, 4, 5, 17, 18, 3000000]) st = ([(1, .ptr 0 0), (3, .ptr 1 0), (4, sl 1 true (best.map I)), (5, I least), (17, .v (.int .u64 ((2 ^ n : Nat) : Int))), (18, .v (.int .u64 (z : Int))), (3000000, .any)], ⟨[bkCells nl n ps, (advL ps).map U], []⟩)) :
    ∃ x_1 en s, lim (headed pure (run L) true [1, 3, 4, 5, 17, 18, 3000000] lp81_2 2 0) env st = some (x_1, en, s) ∧ (x_1 = .exit 0 ∧ en.get 4 = sl 1 true (((List.range' z (2 ^ n - z)).foldl (hStep n ps) (best, least)).1.map I)) := by
  refine loop_wp (α := Nat × List Int × Int) (fun ⟨z, best, least⟩ => 2 ^ n - z) (fun ⟨z, best, least⟩ => z ≤ 2 ^ n) (fun ⟨z, best, least⟩ => ([(1, .ptr 0 0), (3, .ptr 1 0), (4, sl 1 true (best.map I)), (5, I least), (17, .v (.int .u64 ((2 ^ n : Nat) : Int))), (18, .v (.int .u64 (z : Int))), (3000000, .any)], ⟨[bkCells nl n ps, (advL ps).map U], []⟩)) (fun ⟨z, best, least⟩ x_1 en s => x_1 = .exit 0 ∧ en.get 4 = sl 1 true (((List.range' z (2 ^ n - z)).foldl (hStep n ps) (best, least)).1.map I)) (fun ⟨z, best, least⟩ hok => ?_) ⟨z, best, least⟩ hok env st hg
  simp only at hok
  have h128 : 2 ^ n ≤ 128 := Nat.le_trans (Nat.pow_le_pow_right (by omega) hn) (by decide)
  dsimp only
  by_cases h : z < 2 ^ n
  · have hlt : ((z : Int) < ((2 ^ n : Nat) : Int)) = True := eq_true (by omega)
    have e0 : List.range' z (2 ^ n - z) = z :: List.range' (z + 1) (2 ^ n - (z + 1)) := by
      rw [show 2 ^ n - z = (2 ^ n - (z + 1)) + 1 by omega, List.range'_succ]
    rw [e0, List.foldl_cons]
    have hz : z < 128 := by omega
    have h104 := fun st => c104 z hz st
    have h108z := fun st => c108 z hz st
    have hs := succU z (by omega)
    have hlm := memb_len z
    have htwo : ((memb z).drop 0).foldl (unionOf (advL ps)) 0 = twoOf ps z := rfl
    have ht2 : twoOf ps z < 2 ^ n := two_lt hn hps h7 h
    have ht : twoOf ps z < 128 := by omega
    have h108t := fun st => c108 (twoOf ps z) ht st
    have hlt2 := memb_len (twoOf ps z)
    have hand := andN_eq (twoOf ps z) z ht hz
    simp only [go_sem, reduceIte, Nat.reduceEqDiff, Nat.reduceAdd, Nat.reduceSub, Nat.reduceLeDiff, Nat.reduceLT, reduceCtorEq, Int.reduceLT, Int.reduceLE, Int.reduceEq, Int.reduceBEq, Int.reduceSub, Int.reduceAdd, Int.reduceMul, Int.reduceNeg, Int.reduceToNat, Nat.reduceMul, Nat.reduceBEq, index_rsl_if, setm, make_ints, condK_dec, wantK_dec, not_dec, and_dec, or_dec, seqK_ite, seqK_none, blockK_ite, blockK_none, opsK_ite, opsK_none, stepK_ite, stepK_none, bodyK_ite, bodyK_none, resK_ite, resK_none, leaveK_ite, leaveK_none, only_ite, only_none, bind_ite, gives_some, gives_none, gives_ite, then_normal, then_ret, then_exit, then_none, then_ite, Option.bind_none, Bool.not_eq_true', decide_eq_false_iff_not, Bool.and_eq_true, Bool.or_eq_true, Option.some.injEq, Int.not_lt, Int.not_le, lp81_2, hlt, h104, List.length_map]
    generalize hg : lim (headed pure (run L) true _ lp81_0 _ _) _ _ = o
    obtain ⟨x, en, s, rfl, h2⟩ : ∃ x en s, o = some (x, en, s) ∧ _ := by rw [← hg]; exact loop81_0 nl n ps (advL ps) hadj hsm z (2 ^ n) best least (memb z) (by omega) (memb_in z) 0 0 ⟨by omega, by omega⟩ _ _ (by simp only [go_sem, reduceIte, Nat.reduceEqDiff, Nat.reduceAdd, Nat.reduceSub, Nat.reduceLeDiff, Nat.reduceLT, reduceCtorEq, Int.reduceLT, Int.reduceLE, Int.reduceEq, Int.reduceBEq, Int.reduceSub, Int.reduceAdd, Int.reduceMul, Int.reduceNeg, Int.reduceToNat, Nat.reduceMul, Nat.reduceBEq, okRefsU, renCellsU, Int.natCast_zero] <;> rfl)
    clear hg
    obtain ⟨rfl, e1, e3, e4, e5, e6, e7, e17, e18, eK, rfl⟩ := h2
    rw [htwo] at e7
    by_cases pi : twoOf ps z &&& z = 0
    · have qi : (((twoOf ps z &&& z : Nat) : Int) = 0) = True := eq_true (by rw [pi]; rfl)
      have wn : IntKind.i64.wrap ((n : Int) + ((memb (twoOf ps z)).length : Int)) = (n : Int) + ((memb (twoOf ps z)).length : Int) := by rw [wrap64] <;> omega
      have wc : IntKind.i64.wrap ((n : Int) + ((memb (twoOf ps z)).length : Int) - ((memb z).length : Int)) = costOf n (twoOf ps z) z := by rw [wrap64] <;> (try unfold costOf) <;> omega
      have hmk : ((0 : Int) ≤ (n : Int) ∧ (n : Int) ≤ (maxGrow : Int)) = True := eq_true (by unfold maxGrow; omega)
      have hv0 := (valsTo_zero (twoOf ps z) z n).symm
      have hvl : (valsOf n (twoOf ps z) z).length = n := by simp [valsOf]
      have hvne : valsOf n (twoOf ps z) z ≠ [] := by intro h; rw [h] at hvl; simp at hvl; omega
      have hfz := fun r T env => frzL2 (a := bkCells nl n ps) (b := (advL ps).map U) (cs := (valsOf n (twoOf ps z) z).map I) (by simpa using hvne) r T env
      have hfv := frzV_made 2 (valsOf n (twoOf ps z) z) hvne
      rw [hvl] at hfv
      obtain ⟨k, hk, hk2⟩ := c69 true true (valsOf n (twoOf ps z) z) best (by omega) ⟨[bkCells nl n ps, (advL ps).map U, []], []⟩
      simp only [go_sem, reduceIte, Nat.reduceEqDiff, Nat.reduceAdd, Nat.reduceSub, Nat.reduceLeDiff, Nat.reduceLT, reduceCtorEq, Int.reduceLT, Int.reduceLE, Int.reduceEq, Int.reduceBEq, Int.reduceSub, Int.reduceAdd, Int.reduceMul, Int.reduceNeg, Int.reduceToNat, Nat.reduceMul, Nat.reduceBEq, index_rsl_if, setm, make_ints, condK_dec, wantK_dec, not_dec, and_dec, or_dec, seqK_ite, seqK_none, blockK_ite, blockK_none, opsK_ite, opsK_none, stepK_ite, stepK_none, bodyK_ite, bodyK_none, resK_ite, resK_none, leaveK_ite, leaveK_none, only_ite, only_none, bind_ite, gives_some, gives_none, gives_ite, then_normal, then_ret, then_exit, then_none, then_ite, Option.bind_none, Bool.not_eq_true', decide_eq_false_iff_not, Bool.and_eq_true, Bool.or_eq_true, Option.some.injEq, Int.not_lt, Int.not_le, lp81_2, e1, e3, e4, e5, e6, e7, e17, e18, hand, qi, h108t, h108z, wn, wc, hmk, hv0, List.length_map]
      generalize hg : lim (headed pure (run L) true _ lp81_1 _ _) _ _ = o
      obtain ⟨x, en, s, rfl, h2⟩ : ∃ x en s, o = some (x, en, s) ∧ _ := by rw [← hg]; exact loop81_1 nl n hn ps (advL ps) z (twoOf ps z) (2 ^ n) best least (costOf n (twoOf ps z) z) 0 (by omega) _ _ (by simp only [go_sem, reduceIte, Nat.reduceEqDiff, Nat.reduceAdd, Nat.reduceSub, Nat.reduceLeDiff, Nat.reduceLT, reduceCtorEq, Int.reduceLT, Int.reduceLE, Int.reduceEq, Int.reduceBEq, Int.reduceSub, Int.reduceAdd, Int.reduceMul, Int.reduceNeg, Int.reduceToNat, Nat.reduceMul, Nat.reduceBEq, e1, e3, e4, e5, e6, e7, e17, e18, okRefsU, renCellsU, Int.natCast_zero] <;> rfl)
      clear hg
      obtain ⟨rfl, f1, f3, f4, f5, f10, f11, f17, f18, fK, rfl⟩ := h2
      have hstep : hStep n ps (best, least) z = (if best = [] ∨ costOf n (twoOf ps z) z < least ∨ costOf n (twoOf ps z) z = least ∧ lexLt (valsOf n (twoOf ps z) z) best = true then (valsOf n (twoOf ps z) z, costOf n (twoOf ps z) z) else (best, least)) := by unfold hStep; rw [if_pos pi]
      rw [hstep]
      generalize costOf n (twoOf ps z) z = cost at *
      generalize valsOf n (twoOf ps z) z = vs at *
      by_cases p1 : best = []
      · rw [if_pos (.inl p1)]
        subst p1
        simp only [List.map_nil] at *
        simp only [go_sem, reduceIte, Nat.reduceEqDiff, Nat.reduceAdd, Nat.reduceSub, Nat.reduceLeDiff, Nat.reduceLT, reduceCtorEq, Int.reduceLT, Int.reduceLE, Int.reduceEq, Int.reduceBEq, Int.reduceSub, Int.reduceAdd, Int.reduceMul, Int.reduceNeg, Int.reduceToNat, Nat.reduceMul, Nat.reduceBEq, index_rsl_if, setm, make_ints, condK_dec, wantK_dec, not_dec, and_dec, or_dec, seqK_ite, seqK_none, blockK_ite, blockK_none, opsK_ite, opsK_none, stepK_ite, stepK_none, bodyK_ite, bodyK_none, resK_ite, resK_none, leaveK_ite, leaveK_none, only_ite, only_none, bind_ite, gives_some, gives_none, gives_ite, then_normal, then_ret, then_exit, then_none, then_ite, Option.bind_none, Bool.not_eq_true', decide_eq_false_iff_not, Bool.and_eq_true, Bool.or_eq_true, Option.some.injEq, Int.not_lt, Int.not_le, lp81_2, f1, f3, f4, f5, f10, f11, f17, f18, fK, code_frz, frzAV, frzT, frzLs, rslsOf, hfz, frzEnv, frzEnv_get, frzStore, frzVs, frzV_v, frzV_ptr, frzV_sl, frzVs_U, hfv, hs]
        refine ⟨(z + 1, vs, cost), by simp only [go_sem, reduceIte, Nat.reduceEqDiff, Nat.reduceAdd, Nat.reduceSub, Nat.reduceLeDiff, Nat.reduceLT, reduceCtorEq, Int.reduceLT, Int.reduceLE, Int.reduceEq, Int.reduceBEq, Int.reduceSub, Int.reduceAdd, Int.reduceMul, Int.reduceNeg, Int.reduceToNat, Nat.reduceMul, Nat.reduceBEq, ren1_locm, loc_tips, locT_eq, okRefsU, renCellsU, f1, f3, f4, f5, f17, f18, fK, frzEnv_get, frzV_v, frzV_ptr, frzV_sl, frzV_any, hfv, compact, compactW, refsEnv, refsV, refsL, refsStore, refsAt, mapEnv, mapL, mapLs, newName, posOf, mapStore, pickStore, namesOk, refsV_sl, mapL_sl, refsL_U, mapLs_U, List.contains_nil, List.contains_cons, Option.getD_some, hasKey] <;> rfl, ?_, ?_, fun x en s hq => ?_⟩
        · omega
        · simp only; omega
        · exact hq
      · by_cases p2 : cost < least
        · rw [if_pos (.inr (.inl p2))]
          simp only [go_sem, reduceIte, Nat.reduceEqDiff, Nat.reduceAdd, Nat.reduceSub, Nat.reduceLeDiff, Nat.reduceLT, reduceCtorEq, Int.reduceLT, Int.reduceLE, Int.reduceEq, Int.reduceBEq, Int.reduceSub, Int.reduceAdd, Int.reduceMul, Int.reduceNeg, Int.reduceToNat, Nat.reduceMul, Nat.reduceBEq, index_rsl_if, setm, make_ints, condK_dec, wantK_dec, not_dec, and_dec, or_dec, seqK_ite, seqK_none, blockK_ite, blockK_none, opsK_ite, opsK_none, stepK_ite, stepK_none, bodyK_ite, bodyK_none, resK_ite, resK_none, leaveK_ite, leaveK_none, only_ite, only_none, bind_ite, gives_some, gives_none, gives_ite, then_normal, then_ret, then_exit, then_none, then_ite, Option.bind_none, Bool.not_eq_true', decide_eq_false_iff_not, Bool.and_eq_true, Bool.or_eq_true, Option.some.injEq, Int.not_lt, Int.not_le, lp81_2, f1, f3, f4, f5, f10, f11, f17, f18, fK, code_frz, frzAV, frzT, frzLs, rslsOf, hfz, frzEnv, frzEnv_get, frzStore, frzVs, frzV_v, frzV_ptr, frzV_sl, frzVs_U, hfv, hs, p1, p2]
          refine ⟨(z + 1, vs, cost), by simp only [go_sem, reduceIte, Nat.reduceEqDiff, Nat.reduceAdd, Nat.reduceSub, Nat.reduceLeDiff, Nat.reduceLT, reduceCtorEq, Int.reduceLT, Int.reduceLE, Int.reduceEq, Int.reduceBEq, Int.reduceSub, Int.reduceAdd, Int.reduceMul, Int.reduceNeg, Int.reduceToNat, Nat.reduceMul, Nat.reduceBEq, ren1_locm, loc_tips, locT_eq, okRefsU, renCellsU, f1, f3, f4, f5, f17, f18, fK, frzEnv_get, frzV_v, frzV_ptr, frzV_sl, frzV_any, hfv, compact, compactW, refsEnv, refsV, refsL, refsStore, refsAt, mapEnv, mapL, mapLs, newName, posOf, mapStore, pickStore, namesOk, refsV_sl, mapL_sl, refsL_U, mapLs_U, List.contains_nil, List.contains_cons, Option.getD_some, hasKey] <;> rfl, ?_, ?_, fun x en s hq => ?_⟩
          · omega
          · simp only; omega
          · exact hq
        · by_cases p3 : cost = least
          · subst p3
            by_cases p4 : lexLt vs best = true
            · rw [p4] at hk2
              have q4 : (k < 0) = True := eq_true (by simpa using hk2)
              rw [if_pos (.inr (.inr ⟨rfl, p4⟩))]
              simp only [go_sem, reduceIte, Nat.reduceEqDiff, Nat.reduceAdd, Nat.reduceSub, Nat.reduceLeDiff, Nat.reduceLT, reduceCtorEq, Int.reduceLT, Int.reduceLE, Int.reduceEq, Int.reduceBEq, Int.reduceSub, Int.reduceAdd, Int.reduceMul, Int.reduceNeg, Int.reduceToNat, Nat.reduceMul, Nat.reduceBEq, index_rsl_if, setm, make_ints, condK_dec, wantK_dec, not_dec, and_dec, or_dec, seqK_ite, seqK_none, blockK_ite, blockK_none, opsK_ite, opsK_none, stepK_ite, stepK_none, bodyK_ite, bodyK_none, resK_ite, resK_none, leaveK_ite, leaveK_none, only_ite, only_none, bind_ite, gives_some, gives_none, gives_ite, then_normal, then_ret, then_exit, then_none, then_ite, Option.bind_none, Bool.not_eq_true', decide_eq_false_iff_not, Bool.and_eq_true, Bool.or_eq_true, Option.some.injEq, Int.not_lt, Int.not_le, lp81_2, f1, f3, f4, f5, f10, f11, f17, f18, fK, code_frz, frzAV, frzT, frzLs, rslsOf, hfz, frzEnv, frzEnv_get, frzStore, frzVs, frzV_v, frzV_ptr, frzV_sl, frzVs_U, hfv, hs, p1, hk, q4, Int.lt_irrefl]
              refine ⟨(z + 1, vs, cost), by simp only [go_sem, reduceIte, Nat.reduceEqDiff, Nat.reduceAdd, Nat.reduceSub, Nat.reduceLeDiff, Nat.reduceLT, reduceCtorEq, Int.reduceLT, Int.reduceLE, Int.reduceEq, Int.reduceBEq, Int.reduceSub, Int.reduceAdd, Int.reduceMul, Int.reduceNeg, Int.reduceToNat, Nat.reduceMul, Nat.reduceBEq, ren1_locm, loc_tips, locT_eq, okRefsU, renCellsU, f1, f3, f4, f5, f17, f18, fK, frzEnv_get, frzV_v, frzV_ptr, frzV_sl, frzV_any, hfv, compact, compactW, refsEnv, refsV, refsL, refsStore, refsAt, mapEnv, mapL, mapLs, newName, posOf, mapStore, pickStore, namesOk, refsV_sl, mapL_sl, refsL_U, mapLs_U, List.contains_nil, List.contains_cons, Option.getD_some, hasKey] <;> rfl, ?_, ?_, fun x en s hq => ?_⟩
              · omega
              · simp only; omega
              · exact hq
            · have p4' : lexLt vs best = false := by simpa using p4
              rw [p4'] at hk2
              have q4 : (k < 0) = False := eq_false (by simpa using hk2)
              rw [if_neg (by simp [p1, p2, p4'])]
              simp only [go_sem, reduceIte, Nat.reduceEqDiff, Nat.reduceAdd, Nat.reduceSub, Nat.reduceLeDiff, Nat.reduceLT, reduceCtorEq, Int.reduceLT, Int.reduceLE, Int.reduceEq, Int.reduceBEq, Int.reduceSub, Int.reduceAdd, Int.reduceMul, Int.reduceNeg, Int.reduceToNat, Nat.reduceMul, Nat.reduceBEq, index_rsl_if, setm, make_ints, condK_dec, wantK_dec, not_dec, and_dec, or_dec, seqK_ite, seqK_none, blockK_ite, blockK_none, opsK_ite, opsK_none, stepK_ite, stepK_none, bodyK_ite, bodyK_none, resK_ite, resK_none, leaveK_ite, leaveK_none, only_ite, only_none, bind_ite, gives_some, gives_none, gives_ite, then_normal, then_ret, then_exit, then_none, then_ite, Option.bind_none, Bool.not_eq_true', decide_eq_false_iff_not, Bool.and_eq_true, Bool.or_eq_true, Option.some.injEq, Int.not_lt, Int.not_le, lp81_2, f1, f3, f4, f5, f10, f11, f17, f18, fK, code_frz, frzAV, frzT, frzLs, rslsOf, hfz, frzEnv, frzEnv_get, frzStore, frzVs, frzV_v, frzV_ptr, frzV_sl, frzVs_U, hfv, hs, p1, hk, q4, Int.lt_irrefl]
              refine ⟨(z + 1, best, cost), by simp only [go_sem, reduceIte, Nat.reduceEqDiff, Nat.reduceAdd, Nat.reduceSub, Nat.reduceLeDiff, Nat.reduceLT, reduceCtorEq, Int.reduceLT, Int.reduceLE, Int.reduceEq, Int.reduceBEq, Int.reduceSub, Int.reduceAdd, Int.reduceMul, Int.reduceNeg, Int.reduceToNat, Nat.reduceMul, Nat.reduceBEq, ren1_locm, loc_tips, locT_eq, okRefsU, renCellsU, f1, f3, f4, f5, f17, f18, fK, frzEnv_get, frzV_v, frzV_ptr, frzV_sl, frzV_any, hfv, compact, compactW, refsEnv, refsV, refsL, refsStore, refsAt, mapEnv, mapL, mapLs, newName, posOf, mapStore, pickStore, namesOk, refsV_sl, mapL_sl, refsL_U, mapLs_U, List.contains_nil, List.contains_cons, Option.getD_some, hasKey] <;> rfl, ?_, ?_, fun x en s hq => ?_⟩
              · omega
              · simp only; omega
              · exact hq
          · rw [if_neg (by simp [p1, p2, p3])]
            simp only [go_sem, reduceIte, Nat.reduceEqDiff, Nat.reduceAdd, Nat.reduceSub, Nat.reduceLeDiff, Nat.reduceLT, reduceCtorEq, Int.reduceLT, Int.reduceLE, Int.reduceEq, Int.reduceBEq, Int.reduceSub, Int.reduceAdd, Int.reduceMul, Int.reduceNeg, Int.reduceToNat, Nat.reduceMul, Nat.reduceBEq, index_rsl_if, setm, make_ints, condK_dec, wantK_dec, not_dec, and_dec, or_dec, seqK_ite, seqK_none, blockK_ite, blockK_none, opsK_ite, opsK_none, stepK_ite, stepK_none, bodyK_ite, bodyK_none, resK_ite, resK_none, leaveK_ite, leaveK_none, only_ite, only_none, bind_ite, gives_some, gives_none, gives_ite, then_normal, then_ret, then_exit, then_none, then_ite, Option.bind_none, Bool.not_eq_true', decide_eq_false_iff_not, Bool.and_eq_true, Bool.or_eq_true, Option.some.injEq, Int.not_lt, Int.not_le, lp81_2, f1, f3, f4, f5, f10, f11, f17, f18, fK, code_frz, frzAV, frzT, frzLs, rslsOf, hfz, frzEnv, frzEnv_get, frzStore, frzVs, frzV_v, frzV_ptr, frzV_sl, frzVs_U, hfv, hs, p1, p2, p3]
            refine ⟨(z + 1, best, least), by simp only [go_sem, reduceIte, Nat.reduceEqDiff, Nat.reduceAdd, Nat.reduceSub, Nat.reduceLeDiff, Nat.reduceLT, reduceCtorEq, Int.reduceLT, Int.reduceLE, Int.reduceEq, Int.reduceBEq, Int.reduceSub, Int.reduceAdd, Int.reduceMul, Int.reduceNeg, Int.reduceToNat, Nat.reduceMul, Nat.reduceBEq, ren1_locm, loc_tips, locT_eq, okRefsU, renCellsU, f1, f3, f4, f5, f17, f18, fK, frzEnv_get, frzV_v, frzV_ptr, frzV_sl, frzV_any, hfv, compact, compactW, refsEnv, refsV, refsL, refsStore, refsAt, mapEnv, mapL, mapLs, newName, posOf, mapStore, pickStore, namesOk, refsV_sl, mapL_sl, refsL_U, mapLs_U, List.contains_nil, List.contains_cons, Option.getD_some, hasKey] <;> rfl, ?_, ?_, fun x en s hq => ?_⟩
            · omega
            · simp only; omega
            · exact hq
    · have qi : (((twoOf ps z &&& z : Nat) : Int) = 0) = False := eq_false (by omega)
      have he : hStep n ps (best, least) z = (best, least) := by unfold hStep; rw [if_neg pi]
      rw [he]
      simp only [go_sem, reduceIte, Nat.reduceEqDiff, Nat.reduceAdd, Nat.reduceSub, Nat.reduceLeDiff, Nat.reduceLT, reduceCtorEq, Int.reduceLT, Int.reduceLE, Int.reduceEq, Int.reduceBEq, Int.reduceSub, Int.reduceAdd, Int.reduceMul, Int.reduceNeg, Int.reduceToNat, Nat.reduceMul, Nat.reduceBEq, index_rsl_if, setm, make_ints, condK_dec, wantK_dec, not_dec, and_dec, or_dec, seqK_ite, seqK_none, blockK_ite, blockK_none, opsK_ite, opsK_none, stepK_ite, stepK_none, bodyK_ite, bodyK_none, resK_ite, resK_none, leaveK_ite, leaveK_none, only_ite, only_none, bind_ite, gives_some, gives_none, gives_ite, then_normal, then_ret, then_exit, then_none, then_ite, Option.bind_none, Bool.not_eq_true', decide_eq_false_iff_not, Bool.and_eq_true, Bool.or_eq_true, Option.some.injEq, Int.not_lt, Int.not_le, lp81_2, e1, e3, e4, e5, e6, e7, e17, e18, hand, qi, hs]
      refine ⟨(z + 1, best, least), by simp only [go_sem, reduceIte, Nat.reduceEqDiff, Nat.reduceAdd, Nat.reduceSub, Nat.reduceLeDiff, Nat.reduceLT, reduceCtorEq, Int.reduceLT, Int.reduceLE, Int.reduceEq, Int.reduceBEq, Int.reduceSub, Int.reduceAdd, Int.reduceMul, Int.reduceNeg, Int.reduceToNat, Nat.reduceMul, Nat.reduceBEq, ren1_locm, loc_tips, locT_eq, okRefsU, renCellsU, e1, e3, e4, e5, e17, e18, eK, compact, compactW, refsEnv, refsV, refsL, refsStore, refsAt, mapEnv, mapL, mapLs, newName, posOf, mapStore, pickStore, namesOk, refsV_sl, mapL_sl, refsL_U, mapLs_U, List.contains_nil, List.contains_cons, Option.getD_some, hasKey] <;> rfl, ?_, ?_, fun x en s hq => ?_⟩
      · omega
      · simp only; omega
      · exact hq
  · have hlt : ((z : Int) < ((2 ^ n : Nat) : Int)) = False := eq_false (by omega)
    have e0 : 2 ^ n - z = 0 := by omega
    rw [e0]
    simp only [go_sem, reduceIte, Nat.reduceEqDiff, Nat.reduceAdd, Nat.reduceSub, Nat.reduceLeDiff, Nat.reduceLT, reduceCtorEq, Int.reduceLT, Int.reduceLE, Int.reduceEq, Int.reduceBEq, Int.reduceSub, Int.reduceAdd, Int.reduceMul, Int.reduceNeg, Int.reduceToNat, Nat.reduceMul, Nat.reduceBEq, index_rsl_if, setm, make_ints, condK_dec, wantK_dec, not_dec, and_dec, or_dec, seqK_ite, seqK_none, blockK_ite, blockK_none, opsK_ite, opsK_none, stepK_ite, stepK_none, bodyK_ite, bodyK_none, resK_ite, resK_none, leaveK_ite, leaveK_none, only_ite, only_none, bind_ite, gives_some, gives_none, gives_ite, then_normal, then_ret, then_exit, then_none, then_ite, Option.bind_none, Bool.not_eq_true', decide_eq_false_iff_not, Bool.and_eq_true, Bool.or_eq_true, Option.some.injEq, Int.not_lt, Int.not_le, lp81_2, hlt]
    rfl

theorem advL_small {ps : List (Int × Int)} (h7 : ∀ p ∈ ps, okP p) : ∀ x ∈ advL ps, x < 128 := by
  have : ∀ (ps : List (Int × Int)) (o : List Nat), (∀ p ∈ ps, okP p) → (∀ x ∈ o, x < 128) → ∀ x ∈ ps.foldl adv1 o, x < 128 := by
    intro ps
    induction ps with
    | nil => intro o _ h; exact h
    | cons p r ih =>
      intro o h7 h
      rw [List.foldl_cons]
      apply ih _ (fun q hq => h7 q (by simp [hq]))
      obtain ⟨a1, a2, a3, a4⟩ := h7 p (by simp)
      exact orAt_small (orAt_small h (by omega)) (by omega)
  exact this ps _ h7 (by simp)

theorem c81 (nl : Bool) (n : Nat) (hn1 : 1 ≤ n) (hn : n ≤ 7) (ps : List (Int × Int)) (hlen : ps.length < 1000000) (hps : ∀ p ∈ ps, 0 ≤ p.1 ∧ p.1 < p.2 ∧ p.2 < (n : Int)) (h7 : ∀ p ∈ ps, okP p) (st : St) :
    run L 81 [bkAV nl n ps] st = some (sl 1 true ((halvesV n ps).map I), st) := by
  rw [run_pure (fn := ir81) rfl rfl]
  have h89 := fun st => c89 nl n ps hlen h7 st
  have hal := advL_len h7
  have has := advL_small h7
  have hsh := sh1_eq n (by omega)
  have hput : putCells z7 0 ((advL ps).map U) = (advL ps).map U ∧ ((advL ps).map U).all storable = true := by
    obtain ⟨a, b, c, d, f, g, k, h6⟩ := len_seven hal
    rw [h6]
    exact ⟨rfl, rfl⟩
  have hz : z7 = [.v (.int .u64 0), .v (.int .u64 0), .v (.int .u64 0), .v (.int .u64 0), .v (.int .u64 0), .v (.int .u64 0), .v (.int .u64 0)] := rfl
  rw [hz] at hput
  simp only [ir81, go_sem, reduceIte, Nat.reduceEqDiff, Nat.reduceAdd, Nat.reduceSub, Nat.reduceLeDiff, Nat.reduceLT, reduceCtorEq, Int.reduceLT, Int.reduceLE, Int.reduceEq, Int.reduceBEq, Int.reduceSub, Int.reduceAdd, Int.reduceMul, Int.reduceNeg, Int.reduceToNat, Nat.reduceMul, Nat.reduceBEq, h89, hsh, hput.1, hput.2, hal, List.length_map]
  generalize hg : lim (headed pure (run L) true _ lp81_2 _ _) _ _ = o
  obtain ⟨x, en, s, rfl, h2⟩ : ∃ x en s, o = some (x, en, s) ∧ _ := by rw [← hg]; exact loop81 nl n hn1 hn ps hps h7 hal has 0 [] 0 (by omega) _ _ (by simp only [go_sem, reduceIte, Nat.reduceEqDiff, Nat.reduceAdd, Nat.reduceSub, Nat.reduceLeDiff, Nat.reduceLT, reduceCtorEq, Int.reduceLT, Int.reduceLE, Int.reduceEq, Int.reduceBEq, Int.reduceSub, Int.reduceAdd, Int.reduceMul, Int.reduceNeg, Int.reduceToNat, Nat.reduceMul, Nat.reduceBEq, okRefsU, renCellsU, sl_nil, List.map_nil, compact, compactW, refsEnv, refsV, refsL, refsStore, refsAt, mapEnv, mapL, mapLs, newName, posOf, mapStore, pickStore, namesOk, refsV_sl, mapL_sl, refsL_U, mapLs_U, List.contains_nil, List.contains_cons, Option.getD_some, hasKey, Int.natCast_zero] <;> rfl)
  clear hg
  obtain ⟨rfl, h3⟩ := h2
  rw [Nat.sub_zero, ← List.range_eq_range'] at h3
  simp only [go_sem, reduceIte, Nat.reduceEqDiff, Nat.reduceAdd, Nat.reduceSub, Nat.reduceLeDiff, Nat.reduceLT, reduceCtorEq, Int.reduceLT, Int.reduceLE, Int.reduceEq, Int.reduceBEq, Int.reduceSub, Int.reduceAdd, Int.reduceMul, Int.reduceNeg, Int.reduceToNat, Nat.reduceMul, Nat.reduceBEq, h3]
  rfl


/-! ### the cheapest values -/
def hv (n : Int) (ps : List (Int × Int)) : List Int × Int := if chk n ps = 0 then (halvesV n.toNat ps, 0) else ([], chk n ps)
theorem halvesV_ok {n : Nat} (hn1 : 1 ≤ n) (hn : n ≤ 7) {ps : List (Int × Int)} (hps : ∀ p ∈ ps, 0 ≤ p.1 ∧ p.1 < p.2 ∧ p.2 < (n : Int)) (h7 : ∀ p ∈ ps, okP p) : (halvesV n ps).length = n ∧ (∀ x ∈ halvesV n ps, 0 ≤ x ∧ x ≤ 2) ∧ halvesV n ps ≠ [] := by
  have h := (halves_spec hn1 hn hps h7).1
  have h2 := cheap_in h
  refine ⟨by have := h2.1; omega, h2.2, ?_⟩
  intro e; have := h2.1; rw [e] at this; simp at this; omega
theorem hv_len (n : Int) (ps : List (Int × Int)) : (hv n ps).1.length ≤ 7 := by
  unfold hv
  split
  · next h =>
    obtain ⟨h1, h2, h3, h4, h5⟩ := chk_zero h
    obtain ⟨k, rfl⟩ := Int.eq_ofNat_of_zero_le (show 0 ≤ n by omega)
    have := (halvesV_ok (n := k) (by omega) (by omega) h4 h5).1
    simp only [Int.toNat_natCast]; omega
  · simp
theorem c26 (nl : Bool) (n : Int) (ps : List (Int × Int)) (st : St) : run L 26 [bkAV nl n ps] st = some (.tup [sl 1 true ((hv n ps).1.map I), I (hv n ps).2], st) := by
  rw [run_pure (fn := ir26) rfl rfl]
  have h22 := fun st => c22 nl n ps st
  unfold hv
  by_cases h : chk n ps = 0
  · obtain ⟨h1, h2, h3, h4, h5⟩ := chk_zero h
    obtain ⟨k, rfl⟩ := Int.eq_ofNat_of_zero_le (show 0 ≤ n by omega)
    have h81 := fun st => c81 nl k (by omega) (by omega) ps (by omega) h4 h5 st
    rw [if_pos h]
    simp only [Int.toNat_natCast]
    simp only [ir26, go_sem, reduceIte, Nat.reduceEqDiff, Nat.reduceAdd, Nat.reduceSub, Nat.reduceLeDiff, Nat.reduceLT, reduceCtorEq, Int.reduceLT, Int.reduceLE, Int.reduceEq, Int.reduceBEq, Int.reduceSub, Int.reduceAdd, Int.reduceMul, Int.reduceNeg, Int.reduceToNat, Nat.reduceMul, Nat.reduceBEq, h22, h, h81]
  · rw [if_neg h]
    simp only [ir26, go_sem, reduceIte, Nat.reduceEqDiff, Nat.reduceAdd, Nat.reduceSub, Nat.reduceLeDiff, Nat.reduceLT, reduceCtorEq, Int.reduceLT, Int.reduceLE, Int.reduceEq, Int.reduceBEq, Int.reduceSub, Int.reduceAdd, Int.reduceMul, Int.reduceNeg, Int.reduceToNat, Nat.reduceMul, Nat.reduceBEq, h22, h]
    rfl
/-- The reference's list of the cheapest values, and its head. -/
theorem cheap_head (nl : Bool) (k : Nat) (ps : List (Int × Int)) (h1 : 1 ≤ k) (h2 : k ≤ 7) (h3 : ps.length ≤ 10) (h4 : ∀ p ∈ ps, 0 ≤ p.1 ∧ p.1 < p.2 ∧ p.2 < (k : Int)) (h5 : ∀ p ∈ ps, okP p) :
    (∀ st, run L 73 [bkAV nl (k : Int) ps, I 1] st = some (sl 1 true ((cheap k 1 ps).map listAV), st)) ∧ indexSAV 1 (sl 1 true ((cheap k 1 ps).map listAV)) (.v (.int .i64 0)) = some (.eptr (sl 1 true ((halvesV k ps).map I)) 0) := by
  refine ⟨fun st => c73 nl k 1 (.inl rfl) h1 h2 ps (by omega) h4 st, ?_⟩
  obtain ⟨r, hr⟩ := halves_head h1 h2 h4 h5
  have := index_lists true (cheap k 1 ps) 0 (by rw [hr]; simp)
  have e : (cheap k 1 ps)[0]'(by rw [hr]; simp) = halvesV k ps := by simp [hr]
  rw [e] at this
  have e2 : listAV (halvesV k ps) = sl 1 true ((halvesV k ps).map I) := by
    have hne := (halvesV_ok h1 h2 h4 h5).2.2
    show sl 1 false ((halvesV k ps).map I) = _
    rw [sl_ne (xs := (halvesV k ps).map I) (nl := false) (by simpa using hne), sl_ne (xs := (halvesV k ps).map I) (nl := true) (by simpa using hne)]
  rw [e2] at this
  exact this
theorem c27 (nl : Bool) (n : Int) (ps : List (Int × Int)) (st : St) : run L 27 [bkAV nl n ps] st = some (.tup [sl 1 true ((hv n ps).1.map I), I (hv n ps).2], st) := by
  rw [run_pure (fn := ir27) rfl rfl]
  have h23 := fun st => c23 nl n ps st
  unfold hv
  by_cases h : chk n ps = 0
  · obtain ⟨h1, h2, h3, h4, h5⟩ := chk_zero h
    obtain ⟨k, rfl⟩ := Int.eq_ofNat_of_zero_le (show 0 ≤ n by omega)
    obtain ⟨h73, hx⟩ := cheap_head nl k ps (by omega) (by omega) h3 h4 h5
    rw [if_pos h]
    simp only [Int.toNat_natCast]
    simp only [ir27, go_sem, reduceIte, Nat.reduceEqDiff, Nat.reduceAdd, Nat.reduceSub, Nat.reduceLeDiff, Nat.reduceLT, reduceCtorEq, Int.reduceLT, Int.reduceLE, Int.reduceEq, Int.reduceBEq, Int.reduceSub, Int.reduceAdd, Int.reduceMul, Int.reduceNeg, Int.reduceToNat, Nat.reduceMul, Nat.reduceBEq, h23, h, h73, hx]
  · rw [if_neg h]
    simp only [ir27, go_sem, reduceIte, Nat.reduceEqDiff, Nat.reduceAdd, Nat.reduceSub, Nat.reduceLeDiff, Nat.reduceLT, reduceCtorEq, Int.reduceLT, Int.reduceLE, Int.reduceEq, Int.reduceBEq, Int.reduceSub, Int.reduceAdd, Int.reduceMul, Int.reduceNeg, Int.reduceToNat, Nat.reduceMul, Nat.reduceBEq, h23, h]
    rfl

def sureV (n : Int) (ps : List (Int × Int)) : List Int × List Int × Int := if chk n ps = 0 then (withL 2 (halvesV n.toNat ps) 0, withL 0 (halvesV n.toNat ps) 0, 0) else ([], [], chk n ps)
theorem sureV_len (n : Int) (ps : List (Int × Int)) : (sureV n ps).1.length ≤ 7 ∧ (sureV n ps).2.1.length ≤ 7 := by
  unfold sureV
  split
  · next h =>
    obtain ⟨h1, h2, h3, h4, h5⟩ := chk_zero h
    obtain ⟨k, rfl⟩ := Int.eq_ofNat_of_zero_le (show 0 ≤ n by omega)
    have := (halvesV_ok (n := k) (by omega) (by omega) h4 h5).1
    have g1 := withL_len 2 (halvesV k ps) 0
    have g2 := withL_len 0 (halvesV k ps) 0
    simp only [Int.toNat_natCast]; omega
  · simp
theorem c28 (nl : Bool) (n : Int) (ps : List (Int × Int)) (st : St) : run L 28 [bkAV nl n ps] st = some (.tup [sl 1 true ((sureV n ps).1.map I), sl 1 true ((sureV n ps).2.1.map I), I (sureV n ps).2.2], st) := by
  rw [run_pure (fn := ir28) rfl rfl]
  have h22 := fun st => c22 nl n ps st
  unfold sureV
  by_cases h : chk n ps = 0
  · obtain ⟨h1, h2, h3, h4, h5⟩ := chk_zero h
    obtain ⟨k, rfl⟩ := Int.eq_ofNat_of_zero_le (show 0 ≤ n by omega)
    have h81 := fun st => c81 nl k (by omega) (by omega) ps (by omega) h4 h5 st
    have hl := (halvesV_ok (n := k) (by omega) (by omega) h4 h5).1
    have h82 := fun x st => c82 true (halvesV k ps) (by omega) x st
    rw [if_pos h]
    simp only [Int.toNat_natCast]
    simp only [ir28, go_sem, reduceIte, Nat.reduceEqDiff, Nat.reduceAdd, Nat.reduceSub, Nat.reduceLeDiff, Nat.reduceLT, reduceCtorEq, Int.reduceLT, Int.reduceLE, Int.reduceEq, Int.reduceBEq, Int.reduceSub, Int.reduceAdd, Int.reduceMul, Int.reduceNeg, Int.reduceToNat, Nat.reduceMul, Nat.reduceBEq, h22, h, h81, h82]
  · rw [if_neg h]
    simp only [ir28, go_sem, reduceIte, Nat.reduceEqDiff, Nat.reduceAdd, Nat.reduceSub, Nat.reduceLeDiff, Nat.reduceLT, reduceCtorEq, Int.reduceLT, Int.reduceLE, Int.reduceEq, Int.reduceBEq, Int.reduceSub, Int.reduceAdd, Int.reduceMul, Int.reduceNeg, Int.reduceToNat, Nat.reduceMul, Nat.reduceBEq, h22, h]
    rfl
theorem c29 (nl : Bool) (n : Int) (ps : List (Int × Int)) (st : St) : run L 29 [bkAV nl n ps] st = some (.tup [sl 1 true ((sureV n ps).1.map I), sl 1 true ((sureV n ps).2.1.map I), I (sureV n ps).2.2], st) := by
  rw [run_pure (fn := ir29) rfl rfl]
  have h23 := fun st => c23 nl n ps st
  unfold sureV
  by_cases h : chk n ps = 0
  · obtain ⟨h1, h2, h3, h4, h5⟩ := chk_zero h
    obtain ⟨k, rfl⟩ := Int.eq_ofNat_of_zero_le (show 0 ≤ n by omega)
    obtain ⟨h73, hx⟩ := cheap_head nl k ps (by omega) (by omega) h3 h4 h5
    have hl := (halvesV_ok (n := k) (by omega) (by omega) h4 h5).1
    have h74 := fun x st => c74 true (halvesV k ps) (by omega) x st
    rw [if_pos h]
    simp only [Int.toNat_natCast]
    simp only [ir29, go_sem, reduceIte, Nat.reduceEqDiff, Nat.reduceAdd, Nat.reduceSub, Nat.reduceLeDiff, Nat.reduceLT, reduceCtorEq, Int.reduceLT, Int.reduceLE, Int.reduceEq, Int.reduceBEq, Int.reduceSub, Int.reduceAdd, Int.reduceMul, Int.reduceNeg, Int.reduceToNat, Nat.reduceMul, Nat.reduceBEq, h23, h, h73, hx, h74]
  · rw [if_neg h]
    simp only [ir29, go_sem, reduceIte, Nat.reduceEqDiff, Nat.reduceAdd, Nat.reduceSub, Nat.reduceLeDiff, Nat.reduceLT, reduceCtorEq, Int.reduceLT, Int.reduceLE, Int.reduceEq, Int.reduceBEq, Int.reduceSub, Int.reduceAdd, Int.reduceMul, Int.reduceNeg, Int.reduceToNat, Nat.reduceMul, Nat.reduceBEq, h23, h]
    rfl

/-! ### values that are given -/
def in02 (x : Int) : Bool := decide (0 ≤ x ∧ x ≤ 2)
theorem all02 {l : List Int} (h : l.all in02 = true) : ∀ x ∈ l, 0 ≤ x ∧ x ≤ 2 := fun x hx => of_decide_eq_true (List.all_eq_true.1 h x hx)
/-- A sum and an error. -/
def numbersV (l : List Int) (many : Int) : Int × Int := if (l.length : Int) = many then (if l.all in02 = true then (sumL l, 0) else (0, 1)) else (0, 5)

theorem loop109 (nl : Bool) (l : List Int) (hlen : l.length < 1000000) (i : Nat) (acc : Int) (hok : i ≤ l.length ∧ 0 ≤ acc ∧ acc ≤ 2 * i) (env : Env) (st : St)
    (hg : gcAV true 0 0 (canon env [6, 13, 14, 15]) st = ([(6, I acc), (13, sl 1 nl (l.map I)), (14, I l.length), (15, I i)], ⟨[], []⟩)) :
    ∃ x_1 en s, lim (headed pure (run L) true [6, 13, 14, 15] lp109_0 0 0) env st = some (x_1, en, s) ∧ (if (l.drop i).all in02 = true then x_1 = .exit 0 ∧ en.get 6 = I (acc + sumL (l.drop i)) else x_1 = .ret ∧ en.get 4 = I 0 ∧ en.get 5 = I 1) := by
  refine loop_wp (α := Nat × Int) (fun ⟨i, acc⟩ => l.length - i) (fun ⟨i, acc⟩ => i ≤ l.length ∧ 0 ≤ acc ∧ acc ≤ 2 * i) (fun ⟨i, acc⟩ => ([(6, I acc), (13, sl 1 nl (l.map I)), (14, I l.length), (15, I i)], ⟨[], []⟩)) (fun ⟨i, acc⟩ x_1 en s => if (l.drop i).all in02 = true then x_1 = .exit 0 ∧ en.get 6 = I (acc + sumL (l.drop i)) else x_1 = .ret ∧ en.get 4 = I 0 ∧ en.get 5 = I 1) (fun ⟨i, acc⟩ hok => ?_) ⟨i, acc⟩ hok env st hg
  simp only at hok
  obtain ⟨h1, h2, h3⟩ := hok
  dsimp only
  by_cases h : i < l.length
  · have hx := index_ints nl l i h
    have hs := succ64 i (by omega)
    have hd : l.drop i = l[i] :: l.drop (i + 1) := List.drop_eq_getElem_cons h
    have hlt : ((i : Int) < (l.length : Int)) = True := eq_true (by omega)
    rw [hd]
    generalize l[i] = a at *
    by_cases p1 : a < 0
    · simp only [go_sem, reduceIte, Nat.reduceEqDiff, Nat.reduceAdd, Nat.reduceSub, Nat.reduceLeDiff, Nat.reduceLT, reduceCtorEq, Int.reduceLT, Int.reduceLE, Int.reduceEq, Int.reduceBEq, Int.reduceSub, Int.reduceAdd, Int.reduceMul, Int.reduceNeg, Int.reduceToNat, Nat.reduceMul, Nat.reduceBEq, index_rsl_if, setm, make_ints, condK_dec, wantK_dec, not_dec, and_dec, or_dec, seqK_ite, seqK_none, blockK_ite, blockK_none, opsK_ite, opsK_none, stepK_ite, stepK_none, bodyK_ite, bodyK_none, resK_ite, resK_none, leaveK_ite, leaveK_none, only_ite, only_none, bind_ite, gives_some, gives_none, gives_ite, then_normal, then_ret, then_exit, then_none, then_ite, Option.bind_none, Bool.not_eq_true', decide_eq_false_iff_not, Bool.and_eq_true, Bool.or_eq_true, Option.some.injEq, Int.not_lt, Int.not_le, lp109_0, hx, hlt, p1]
      rw [if_neg (by simp [in02]; omega)]; trivial
    by_cases p2 : 2 < a
    · simp only [go_sem, reduceIte, Nat.reduceEqDiff, Nat.reduceAdd, Nat.reduceSub, Nat.reduceLeDiff, Nat.reduceLT, reduceCtorEq, Int.reduceLT, Int.reduceLE, Int.reduceEq, Int.reduceBEq, Int.reduceSub, Int.reduceAdd, Int.reduceMul, Int.reduceNeg, Int.reduceToNat, Nat.reduceMul, Nat.reduceBEq, index_rsl_if, setm, make_ints, condK_dec, wantK_dec, not_dec, and_dec, or_dec, seqK_ite, seqK_none, blockK_ite, blockK_none, opsK_ite, opsK_none, stepK_ite, stepK_none, bodyK_ite, bodyK_none, resK_ite, resK_none, leaveK_ite, leaveK_none, only_ite, only_none, bind_ite, gives_some, gives_none, gives_ite, then_normal, then_ret, then_exit, then_none, then_ite, Option.bind_none, Bool.not_eq_true', decide_eq_false_iff_not, Bool.and_eq_true, Bool.or_eq_true, Option.some.injEq, Int.not_lt, Int.not_le, lp109_0, hx, hlt, p1, p2]
      rw [if_neg (by simp [in02]; omega)]; trivial
    have hw : IntKind.i64.wrap (acc + a) = acc + a := by rw [wrap64] <;> omega
    have hin : in02 a = true := decide_eq_true (by omega)
    simp only [go_sem, reduceIte, Nat.reduceEqDiff, Nat.reduceAdd, Nat.reduceSub, Nat.reduceLeDiff, Nat.reduceLT, reduceCtorEq, Int.reduceLT, Int.reduceLE, Int.reduceEq, Int.reduceBEq, Int.reduceSub, Int.reduceAdd, Int.reduceMul, Int.reduceNeg, Int.reduceToNat, Nat.reduceMul, Nat.reduceBEq, index_rsl_if, setm, make_ints, condK_dec, wantK_dec, not_dec, and_dec, or_dec, seqK_ite, seqK_none, blockK_ite, blockK_none, opsK_ite, opsK_none, stepK_ite, stepK_none, bodyK_ite, bodyK_none, resK_ite, resK_none, leaveK_ite, leaveK_none, only_ite, only_none, bind_ite, gives_some, gives_none, gives_ite, then_normal, then_ret, then_exit, then_none, then_ite, Option.bind_none, Bool.not_eq_true', decide_eq_false_iff_not, Bool.and_eq_true, Bool.or_eq_true, Option.some.injEq, Int.not_lt, Int.not_le, lp109_0, hx, hlt, p1, p2, hw, hs]
    refine ⟨(i + 1, acc + a), by simp only [go_sem, reduceIte, Nat.reduceEqDiff, Nat.reduceAdd, Nat.reduceSub, Nat.reduceLeDiff, Nat.reduceLT, reduceCtorEq, Int.reduceLT, Int.reduceLE, Int.reduceEq, Int.reduceBEq, Int.reduceSub, Int.reduceAdd, Int.reduceMul, Int.reduceNeg, Int.reduceToNat, Nat.reduceMul, Nat.reduceBEq, ren1_locm, loc_tips, locT_eq] <;> rfl, ?_, ?_, fun x en s hq => ?_⟩
    · dsimp only; exact ⟨by omega, by omega, by omega⟩
    · simp only; omega
    · simp only [List.all_cons, hin, sumL, Bool.true_and, true_and]; rw [← Int.add_assoc]; simpa using hq
  · have hd : l.drop i = [] := List.drop_eq_nil_of_le (by omega)
    have hlt : ((i : Int) < (l.length : Int)) = False := eq_false (by omega)
    simp only [go_sem, reduceIte, Nat.reduceEqDiff, Nat.reduceAdd, Nat.reduceSub, Nat.reduceLeDiff, Nat.reduceLT, reduceCtorEq, Int.reduceLT, Int.reduceLE, Int.reduceEq, Int.reduceBEq, Int.reduceSub, Int.reduceAdd, Int.reduceMul, Int.reduceNeg, Int.reduceToNat, Nat.reduceMul, Nat.reduceBEq, index_rsl_if, setm, make_ints, condK_dec, wantK_dec, not_dec, and_dec, or_dec, seqK_ite, seqK_none, blockK_ite, blockK_none, opsK_ite, opsK_none, stepK_ite, stepK_none, bodyK_ite, bodyK_none, resK_ite, resK_none, leaveK_ite, leaveK_none, only_ite, only_none, bind_ite, gives_some, gives_none, gives_ite, then_normal, then_ret, then_exit, then_none, then_ite, Option.bind_none, Bool.not_eq_true', decide_eq_false_iff_not, Bool.and_eq_true, Bool.or_eq_true, Option.some.injEq, Int.not_lt, Int.not_le, lp109_0, hlt]
    rw [hd]; simp [sumL]

theorem c109 (nl : Bool) (l : List Int) (hlen : l.length < 1000000) (many : Int) (st : St) : run L 109 [sl 1 nl (l.map I), I many] st = some (.tup [I (numbersV l many).1, I (numbersV l many).2], st) := by
  rw [run_pure (fn := ir109) rfl rfl]
  unfold numbersV
  by_cases p : (l.length : Int) = many
  · rw [if_pos p]
    simp only [ir109, go_sem, reduceIte, Nat.reduceEqDiff, Nat.reduceAdd, Nat.reduceSub, Nat.reduceLeDiff, Nat.reduceLT, reduceCtorEq, Int.reduceLT, Int.reduceLE, Int.reduceEq, Int.reduceBEq, Int.reduceSub, Int.reduceAdd, Int.reduceMul, Int.reduceNeg, Int.reduceToNat, Nat.reduceMul, Nat.reduceBEq, List.length_map, p]
    rw [← p]
    generalize hg : lim (headed pure (run L) true _ lp109_0 _ _) _ _ = o
    obtain ⟨x, en, s, rfl, h2⟩ : ∃ x en s, o = some (x, en, s) ∧ _ := by rw [← hg]; exact loop109 nl l hlen 0 0 ⟨by omega, by omega, by omega⟩ _ _ (by simp only [go_sem, reduceIte, Nat.reduceEqDiff, Nat.reduceAdd, Nat.reduceSub, Nat.reduceLeDiff, Nat.reduceLT, reduceCtorEq, Int.reduceLT, Int.reduceLE, Int.reduceEq, Int.reduceBEq, Int.reduceSub, Int.reduceAdd, Int.reduceMul, Int.reduceNeg, Int.reduceToNat, Nat.reduceMul, Nat.reduceBEq] <;> rfl)
    clear hg
    rw [List.drop_zero, Int.zero_add] at h2
    by_cases h : l.all in02 = true
    · rw [if_pos h] at h2
      obtain ⟨rfl, h3⟩ := h2
      simp only [go_sem, reduceIte, Nat.reduceEqDiff, Nat.reduceAdd, Nat.reduceSub, Nat.reduceLeDiff, Nat.reduceLT, reduceCtorEq, Int.reduceLT, Int.reduceLE, Int.reduceEq, Int.reduceBEq, Int.reduceSub, Int.reduceAdd, Int.reduceMul, Int.reduceNeg, Int.reduceToNat, Nat.reduceMul, Nat.reduceBEq, h3, h]
    · rw [if_neg h] at h2
      obtain ⟨rfl, h3, h4⟩ := h2
      simp only [go_sem, reduceIte, Nat.reduceEqDiff, Nat.reduceAdd, Nat.reduceSub, Nat.reduceLeDiff, Nat.reduceLT, reduceCtorEq, Int.reduceLT, Int.reduceLE, Int.reduceEq, Int.reduceBEq, Int.reduceSub, Int.reduceAdd, Int.reduceMul, Int.reduceNeg, Int.reduceToNat, Nat.reduceMul, Nat.reduceBEq, h3, h4, h]
  · rw [if_neg p]
    simp only [ir109, go_sem, reduceIte, Nat.reduceEqDiff, Nat.reduceAdd, Nat.reduceSub, Nat.reduceLeDiff, Nat.reduceLT, reduceCtorEq, Int.reduceLT, Int.reduceLE, Int.reduceEq, Int.reduceBEq, Int.reduceSub, Int.reduceAdd, Int.reduceMul, Int.reduceNeg, Int.reduceToNat, Nat.reduceMul, Nat.reduceBEq, List.length_map, p]

/-- What values cost, and an error. -/
def halvedV (n : Int) (ps : List (Int × Int)) (v : List Int) : Int × Int :=
  if chk n ps = 0 then (if (numbersV v n).2 = 0 then (if halfOk ps v = true then ((numbersV v n).1, 0) else (0, 21)) else (0, (numbersV v n).2)) else (0, chk n ps)

theorem loop83 (nl n2 : Bool) (n : Int) (hn : n ≤ 7) (ps : List (Int × Int)) (hlen : ps.length < 1000) (hps : ∀ p ∈ ps, 0 ≤ p.1 ∧ p.1 < p.2 ∧ p.2 < n) (v : List Int) (hv : (v.length : Int) = n) (hb : ∀ x ∈ v, 0 ≤ x ∧ x ≤ 2) (s0 : Int) (i : Nat) (hok : i ≤ ps.length) (env : Env) (st : St)
    (hg : gcAV true 1 0 (canon env [1, 7, 27, 28, 29]) st = ([(1, sl 1 n2 (v.map I)), (7, I s0), (27, sl 2 nl (ps.map prAV)), (28, I ps.length), (29, I i)], ⟨[bkCells nl n ps], []⟩)) :
    ∃ x_1 en s, lim (headed pure (run L) true [1, 7, 27, 28, 29] lp83_0 1 0) env st = some (x_1, en, s) ∧ (if halfOk (ps.drop i) v = true then x_1 = .exit 0 ∧ en.get 7 = I s0 else x_1 = .ret ∧ en.get 4 = I 0 ∧ en.get 5 = I 21) := by
  refine loop_wp (α := Nat) (fun i => ps.length - i) (fun i => i ≤ ps.length) (fun i => ([(1, sl 1 n2 (v.map I)), (7, I s0), (27, sl 2 nl (ps.map prAV)), (28, I ps.length), (29, I i)], ⟨[bkCells nl n ps], []⟩)) (fun i x_1 en s => if halfOk (ps.drop i) v = true then x_1 = .exit 0 ∧ en.get 7 = I s0 else x_1 = .ret ∧ en.get 4 = I 0 ∧ en.get 5 = I 21) (fun i hok => ?_) i hok env st hg
  by_cases h : i < ps.length
  · have hx := index_prs nl ps i h
    have hs := succ64 i (by omega)
    have hd : ps.drop i = ps[i] :: ps.drop (i + 1) := List.drop_eq_getElem_cons h
    have hp := hps ps[i] (List.getElem_mem h)
    have hlt : ((i : Int) < (ps.length : Int)) = True := eq_true (by omega)
    rw [hd]
    generalize ps[i] = c at *
    obtain ⟨a, b⟩ := c
    simp only at hx hp
    have hxa := index_at n2 v a (by omega) (by omega)
    have hxb := index_at n2 v b (by omega) (by omega)
    have hba : 0 ≤ v.getD a.toNat 0 ∧ v.getD a.toNat 0 ≤ 2 := by
      rw [List.getD_eq_getElem?_getD, List.getElem?_eq_getElem (show a.toNat < v.length by omega)]; exact hb _ (List.getElem_mem _)
    have hbb : 0 ≤ v.getD b.toNat 0 ∧ v.getD b.toNat 0 ≤ 2 := by
      rw [List.getD_eq_getElem?_getD, List.getElem?_eq_getElem (show b.toNat < v.length by omega)]; exact hb _ (List.getElem_mem _)
    have hE : enough v (a, b) = decide (2 ≤ v.getD a.toNat 0 + v.getD b.toNat 0) := rfl
    simp only [halfOk, List.all_cons, hE]
    generalize v.getD a.toNat 0 = x at *
    generalize v.getD b.toNat 0 = y at *
    have hw : IntKind.i64.wrap (x + y) = x + y := by rw [wrap64] <;> omega
    by_cases p : x + y < 2
    · simp only [go_sem, reduceIte, Nat.reduceEqDiff, Nat.reduceAdd, Nat.reduceSub, Nat.reduceLeDiff, Nat.reduceLT, reduceCtorEq, Int.reduceLT, Int.reduceLE, Int.reduceEq, Int.reduceBEq, Int.reduceSub, Int.reduceAdd, Int.reduceMul, Int.reduceNeg, Int.reduceToNat, Nat.reduceMul, Nat.reduceBEq, index_rsl_if, setm, make_ints, condK_dec, wantK_dec, not_dec, and_dec, or_dec, seqK_ite, seqK_none, blockK_ite, blockK_none, opsK_ite, opsK_none, stepK_ite, stepK_none, bodyK_ite, bodyK_none, resK_ite, resK_none, leaveK_ite, leaveK_none, only_ite, only_none, bind_ite, gives_some, gives_none, gives_ite, then_normal, then_ret, then_exit, then_none, then_ite, Option.bind_none, Bool.not_eq_true', decide_eq_false_iff_not, Bool.and_eq_true, Bool.or_eq_true, Option.some.injEq, Int.not_lt, Int.not_le, lp83_0, hx, hlt, hxa, hxb, hw, p]
      rw [if_neg (by simp; omega)]; trivial
    · have hdec : decide (2 ≤ x + y) = true := decide_eq_true (by omega)
      simp only [go_sem, reduceIte, Nat.reduceEqDiff, Nat.reduceAdd, Nat.reduceSub, Nat.reduceLeDiff, Nat.reduceLT, reduceCtorEq, Int.reduceLT, Int.reduceLE, Int.reduceEq, Int.reduceBEq, Int.reduceSub, Int.reduceAdd, Int.reduceMul, Int.reduceNeg, Int.reduceToNat, Nat.reduceMul, Nat.reduceBEq, index_rsl_if, setm, make_ints, condK_dec, wantK_dec, not_dec, and_dec, or_dec, seqK_ite, seqK_none, blockK_ite, blockK_none, opsK_ite, opsK_none, stepK_ite, stepK_none, bodyK_ite, bodyK_none, resK_ite, resK_none, leaveK_ite, leaveK_none, only_ite, only_none, bind_ite, gives_some, gives_none, gives_ite, then_normal, then_ret, then_exit, then_none, then_ite, Option.bind_none, Bool.not_eq_true', decide_eq_false_iff_not, Bool.and_eq_true, Bool.or_eq_true, Option.some.injEq, Int.not_lt, Int.not_le, lp83_0, hx, hlt, hxa, hxb, hw, p, hs]
      refine ⟨i + 1, by simp only [go_sem, reduceIte, Nat.reduceEqDiff, Nat.reduceAdd, Nat.reduceSub, Nat.reduceLeDiff, Nat.reduceLT, reduceCtorEq, Int.reduceLT, Int.reduceLE, Int.reduceEq, Int.reduceBEq, Int.reduceSub, Int.reduceAdd, Int.reduceMul, Int.reduceNeg, Int.reduceToNat, Nat.reduceMul, Nat.reduceBEq, ren1_locm, loc_tips, locT_eq] <;> rfl, ?_, ?_, fun x en s hq => ?_⟩
      · omega
      · omega
      · have hdec2 := of_decide_eq_true hdec
        simp only [hdec2, true_and]; exact hq
  · have hd : ps.drop i = [] := List.drop_eq_nil_of_le (by omega)
    have hlt : ((i : Int) < (ps.length : Int)) = False := eq_false (by omega)
    simp only [go_sem, reduceIte, Nat.reduceEqDiff, Nat.reduceAdd, Nat.reduceSub, Nat.reduceLeDiff, Nat.reduceLT, reduceCtorEq, Int.reduceLT, Int.reduceLE, Int.reduceEq, Int.reduceBEq, Int.reduceSub, Int.reduceAdd, Int.reduceMul, Int.reduceNeg, Int.reduceToNat, Nat.reduceMul, Nat.reduceBEq, index_rsl_if, setm, make_ints, condK_dec, wantK_dec, not_dec, and_dec, or_dec, seqK_ite, seqK_none, blockK_ite, blockK_none, opsK_ite, opsK_none, stepK_ite, stepK_none, bodyK_ite, bodyK_none, resK_ite, resK_none, leaveK_ite, leaveK_none, only_ite, only_none, bind_ite, gives_some, gives_none, gives_ite, then_normal, then_ret, then_exit, then_none, then_ite, Option.bind_none, Bool.not_eq_true', decide_eq_false_iff_not, Bool.and_eq_true, Bool.or_eq_true, Option.some.injEq, Int.not_lt, Int.not_le, lp83_0, hlt]
    rw [hd]; simp [halfOk]

theorem c83 (nl n2 : Bool) (n : Int) (ps : List (Int × Int)) (v : List Int) (hlen : v.length < 1000000) (st : St) :
    run L 83 [bkAV nl n ps, sl 1 n2 (v.map I)] st = some (.tup [I (halvedV n ps v).1, I (halvedV n ps v).2], st) := by
  rw [run_pure (fn := ir83) rfl rfl]
  have h22 := fun st => c22 nl n ps st
  have h109 := fun st => c109 n2 v hlen n st
  unfold halvedV
  by_cases h : chk n ps = 0
  · obtain ⟨h1, h2, h3, h4, h5⟩ := chk_zero h
    rw [if_pos h]
    by_cases p : (numbersV v n).2 = 0
    · have hvn : (v.length : Int) = n ∧ v.all in02 = true := by
        unfold numbersV at p
        split at p
        · next q =>
          refine ⟨q, ?_⟩
          split at p
          · assumption
          · simp at p
        · simp at p
      rw [if_pos p]
      simp only [ir83, go_sem, reduceIte, Nat.reduceEqDiff, Nat.reduceAdd, Nat.reduceSub, Nat.reduceLeDiff, Nat.reduceLT, reduceCtorEq, Int.reduceLT, Int.reduceLE, Int.reduceEq, Int.reduceBEq, Int.reduceSub, Int.reduceAdd, Int.reduceMul, Int.reduceNeg, Int.reduceToNat, Nat.reduceMul, Nat.reduceBEq, h22, h, h109, p, List.length_map]
      generalize (numbersV v n).1 = s0
      generalize hg : lim (headed pure (run L) true _ lp83_0 _ _) _ _ = o
      obtain ⟨x, en, s, rfl, h2⟩ : ∃ x en s, o = some (x, en, s) ∧ _ := by rw [← hg]; exact loop83 nl n2 n h2 ps (by omega) h4 v hvn.1 (all02 hvn.2) s0 0 (by omega) _ _ (by simp only [go_sem, reduceIte, Nat.reduceEqDiff, Nat.reduceAdd, Nat.reduceSub, Nat.reduceLeDiff, Nat.reduceLT, reduceCtorEq, Int.reduceLT, Int.reduceLE, Int.reduceEq, Int.reduceBEq, Int.reduceSub, Int.reduceAdd, Int.reduceMul, Int.reduceNeg, Int.reduceToNat, Nat.reduceMul, Nat.reduceBEq] <;> rfl)
      clear hg
      rw [List.drop_zero] at h2
      by_cases q : halfOk ps v = true
      · rw [if_pos q] at h2
        obtain ⟨rfl, h3⟩ := h2
        simp only [go_sem, reduceIte, Nat.reduceEqDiff, Nat.reduceAdd, Nat.reduceSub, Nat.reduceLeDiff, Nat.reduceLT, reduceCtorEq, Int.reduceLT, Int.reduceLE, Int.reduceEq, Int.reduceBEq, Int.reduceSub, Int.reduceAdd, Int.reduceMul, Int.reduceNeg, Int.reduceToNat, Nat.reduceMul, Nat.reduceBEq, h3, q]
      · rw [if_neg q] at h2
        obtain ⟨rfl, h3, h4⟩ := h2
        simp only [go_sem, reduceIte, Nat.reduceEqDiff, Nat.reduceAdd, Nat.reduceSub, Nat.reduceLeDiff, Nat.reduceLT, reduceCtorEq, Int.reduceLT, Int.reduceLE, Int.reduceEq, Int.reduceBEq, Int.reduceSub, Int.reduceAdd, Int.reduceMul, Int.reduceNeg, Int.reduceToNat, Nat.reduceMul, Nat.reduceBEq, h3, h4, q]
    · rw [if_neg p]
      simp only [ir83, go_sem, reduceIte, Nat.reduceEqDiff, Nat.reduceAdd, Nat.reduceSub, Nat.reduceLeDiff, Nat.reduceLT, reduceCtorEq, Int.reduceLT, Int.reduceLE, Int.reduceEq, Int.reduceBEq, Int.reduceSub, Int.reduceAdd, Int.reduceMul, Int.reduceNeg, Int.reduceToNat, Nat.reduceMul, Nat.reduceBEq, h22, h, h109, p]
  · rw [if_neg h]
    simp only [ir83, go_sem, reduceIte, Nat.reduceEqDiff, Nat.reduceAdd, Nat.reduceSub, Nat.reduceLeDiff, Nat.reduceLT, reduceCtorEq, Int.reduceLT, Int.reduceLE, Int.reduceEq, Int.reduceBEq, Int.reduceSub, Int.reduceAdd, Int.reduceMul, Int.reduceNeg, Int.reduceToNat, Nat.reduceMul, Nat.reduceBEq, h22, h]
theorem c30 (nl n2 : Bool) (n : Int) (ps : List (Int × Int)) (v : List Int) (hlen : v.length < 1000000) (st : St) :
    run L 30 [bkAV nl n ps, sl 1 n2 (v.map I)] st = some (I (halvedV n ps v).2, st) := by
  rw [run_pure (fn := ir30) rfl rfl]
  have h83 := fun st => c83 nl n2 n ps v hlen st
  simp only [ir30, go_sem, reduceIte, Nat.reduceEqDiff, Nat.reduceAdd, Nat.reduceSub, Nat.reduceLeDiff, Nat.reduceLT, reduceCtorEq, Int.reduceLT, Int.reduceLE, Int.reduceEq, Int.reduceBEq, Int.reduceSub, Int.reduceAdd, Int.reduceMul, Int.reduceNeg, Int.reduceToNat, Nat.reduceMul, Nat.reduceBEq, h83]

/-- The reference's error of a book and of numbers. -/
def numbErr (n : Int) (ps : List (Int × Int)) (l : List Int) (many : Int) : Int := if chk n ps = 0 then (if (l.length : Int) = many then (if l.all in02 = true then 0 else 1) else 5) else chk n ps
theorem loop84 (nl n2 : Bool) (n : Int) (ps : List (Int × Int)) (l : List Int) (hlen : l.length < 1000000) (i : Nat) (e : Int) (hok : i ≤ l.length) (env : Env) (st : St)
    (hg : gcAV true 1 0 (canon env [1, 7, 8]) st = ([(1, sl 1 n2 (l.map I)), (7, I e), (8, I i)], ⟨[bkCells nl n ps], []⟩)) :
    ∃ x_1 en s, lim (headed pure (run L) true [1, 7, 8] lp84_0 1 0) env st = some (x_1, en, s) ∧ (x_1 = .exit 0 ∧ en.get 7 = I (if e = 0 then (if (l.drop i).all in02 = true then 0 else 1) else e)) := by
  refine loop_wp (α := Nat × Int) (fun ⟨i, e⟩ => 2 * (l.length - i) + (if e = 0 then 1 else 0)) (fun ⟨i, e⟩ => i ≤ l.length) (fun ⟨i, e⟩ => ([(1, sl 1 n2 (l.map I)), (7, I e), (8, I i)], ⟨[bkCells nl n ps], []⟩)) (fun ⟨i, e⟩ x_1 en s => x_1 = .exit 0 ∧ en.get 7 = I (if e = 0 then (if (l.drop i).all in02 = true then 0 else 1) else e)) (fun ⟨i, e⟩ hok => ?_) ⟨i, e⟩ hok env st hg
  simp only at hok
  dsimp only
  by_cases h : i < l.length
  · have hlt : ((i : Int) < (l.length : Int)) = True := eq_true (by omega)
    by_cases he : e = 0
    · subst he
      have hx := index_ints n2 l i h
      have hs := succ64 i (by omega)
      have hd : l.drop i = l[i] :: l.drop (i + 1) := List.drop_eq_getElem_cons h
      rw [hd]
      generalize l[i] = a at *
      by_cases p : 0 ≤ a ∧ a ≤ 2
      · have hin : in02 a = true := decide_eq_true p
        simp only [go_sem, reduceIte, Nat.reduceEqDiff, Nat.reduceAdd, Nat.reduceSub, Nat.reduceLeDiff, Nat.reduceLT, reduceCtorEq, Int.reduceLT, Int.reduceLE, Int.reduceEq, Int.reduceBEq, Int.reduceSub, Int.reduceAdd, Int.reduceMul, Int.reduceNeg, Int.reduceToNat, Nat.reduceMul, Nat.reduceBEq, index_rsl_if, setm, make_ints, condK_dec, wantK_dec, not_dec, and_dec, or_dec, seqK_ite, seqK_none, blockK_ite, blockK_none, opsK_ite, opsK_none, stepK_ite, stepK_none, bodyK_ite, bodyK_none, resK_ite, resK_none, leaveK_ite, leaveK_none, only_ite, only_none, bind_ite, gives_some, gives_none, gives_ite, then_normal, then_ret, then_exit, then_none, then_ite, Option.bind_none, Bool.not_eq_true', decide_eq_false_iff_not, Bool.and_eq_true, Bool.or_eq_true, Option.some.injEq, Int.not_lt, Int.not_le, lp84_0, hx, hlt, hs, c77, p, List.length_map]
        refine ⟨(i + 1, (0 : Int)), by simp only [go_sem, reduceIte, Nat.reduceEqDiff, Nat.reduceAdd, Nat.reduceSub, Nat.reduceLeDiff, Nat.reduceLT, reduceCtorEq, Int.reduceLT, Int.reduceLE, Int.reduceEq, Int.reduceBEq, Int.reduceSub, Int.reduceAdd, Int.reduceMul, Int.reduceNeg, Int.reduceToNat, Nat.reduceMul, Nat.reduceBEq, ren1_locm, loc_tips, locT_eq] <;> rfl, ?_, ?_, fun x en s hq => ?_⟩
        · omega
        · simp only; simp; omega
        · simp only [List.all_cons, hin, Bool.true_and]; simpa using hq
      · have hin : in02 a = false := decide_eq_false p
        simp only [go_sem, reduceIte, Nat.reduceEqDiff, Nat.reduceAdd, Nat.reduceSub, Nat.reduceLeDiff, Nat.reduceLT, reduceCtorEq, Int.reduceLT, Int.reduceLE, Int.reduceEq, Int.reduceBEq, Int.reduceSub, Int.reduceAdd, Int.reduceMul, Int.reduceNeg, Int.reduceToNat, Nat.reduceMul, Nat.reduceBEq, index_rsl_if, setm, make_ints, condK_dec, wantK_dec, not_dec, and_dec, or_dec, seqK_ite, seqK_none, blockK_ite, blockK_none, opsK_ite, opsK_none, stepK_ite, stepK_none, bodyK_ite, bodyK_none, resK_ite, resK_none, leaveK_ite, leaveK_none, only_ite, only_none, bind_ite, gives_some, gives_none, gives_ite, then_normal, then_ret, then_exit, then_none, then_ite, Option.bind_none, Bool.not_eq_true', decide_eq_false_iff_not, Bool.and_eq_true, Bool.or_eq_true, Option.some.injEq, Int.not_lt, Int.not_le, lp84_0, hx, hlt, hs, c77, p, List.length_map]
        refine ⟨(i + 1, (1 : Int)), by simp only [go_sem, reduceIte, Nat.reduceEqDiff, Nat.reduceAdd, Nat.reduceSub, Nat.reduceLeDiff, Nat.reduceLT, reduceCtorEq, Int.reduceLT, Int.reduceLE, Int.reduceEq, Int.reduceBEq, Int.reduceSub, Int.reduceAdd, Int.reduceMul, Int.reduceNeg, Int.reduceToNat, Nat.reduceMul, Nat.reduceBEq, ren1_locm, loc_tips, locT_eq] <;> rfl, ?_, ?_, fun x en s hq => ?_⟩
        · omega
        · simp only; simp; omega
        · simp only [List.all_cons, hin, Bool.false_and]; simpa using hq
    · simp only [go_sem, reduceIte, Nat.reduceEqDiff, Nat.reduceAdd, Nat.reduceSub, Nat.reduceLeDiff, Nat.reduceLT, reduceCtorEq, Int.reduceLT, Int.reduceLE, Int.reduceEq, Int.reduceBEq, Int.reduceSub, Int.reduceAdd, Int.reduceMul, Int.reduceNeg, Int.reduceToNat, Nat.reduceMul, Nat.reduceBEq, index_rsl_if, setm, make_ints, condK_dec, wantK_dec, not_dec, and_dec, or_dec, seqK_ite, seqK_none, blockK_ite, blockK_none, opsK_ite, opsK_none, stepK_ite, stepK_none, bodyK_ite, bodyK_none, resK_ite, resK_none, leaveK_ite, leaveK_none, only_ite, only_none, bind_ite, gives_some, gives_none, gives_ite, then_normal, then_ret, then_exit, then_none, then_ite, Option.bind_none, Bool.not_eq_true', decide_eq_false_iff_not, Bool.and_eq_true, Bool.or_eq_true, Option.some.injEq, Int.not_lt, Int.not_le, lp84_0, hlt, he, List.length_map]
  · have hd : l.drop i = [] := List.drop_eq_nil_of_le (by omega)
    have hlt : ((i : Int) < (l.length : Int)) = False := eq_false (by omega)
    simp only [go_sem, reduceIte, Nat.reduceEqDiff, Nat.reduceAdd, Nat.reduceSub, Nat.reduceLeDiff, Nat.reduceLT, reduceCtorEq, Int.reduceLT, Int.reduceLE, Int.reduceEq, Int.reduceBEq, Int.reduceSub, Int.reduceAdd, Int.reduceMul, Int.reduceNeg, Int.reduceToNat, Nat.reduceMul, Nat.reduceBEq, index_rsl_if, setm, make_ints, condK_dec, wantK_dec, not_dec, and_dec, or_dec, seqK_ite, seqK_none, blockK_ite, blockK_none, opsK_ite, opsK_none, stepK_ite, stepK_none, bodyK_ite, bodyK_none, resK_ite, resK_none, leaveK_ite, leaveK_none, only_ite, only_none, bind_ite, gives_some, gives_none, gives_ite, then_normal, then_ret, then_exit, then_none, then_ite, Option.bind_none, Bool.not_eq_true', decide_eq_false_iff_not, Bool.and_eq_true, Bool.or_eq_true, Option.some.injEq, Int.not_lt, Int.not_le, lp84_0, hlt, List.length_map]
    rw [hd]; simp only [List.all_nil, if_true]
    by_cases he : e = 0 <;> simp [he]

theorem c84 (nl n2 : Bool) (n : Int) (ps : List (Int × Int)) (l : List Int) (hlen : l.length < 1000000) (many : Int) (st : St) :
    run L 84 [bkAV nl n ps, sl 1 n2 (l.map I), I many] st = some (I (numbErr n ps l many), st) := by
  rw [run_pure (fn := ir84) rfl rfl]
  have h23 := fun st => c23 nl n ps st
  unfold numbErr
  by_cases h : chk n ps = 0
  · rw [if_pos h]
    by_cases p : (l.length : Int) = many
    · rw [if_pos p]
      simp only [ir84, go_sem, reduceIte, Nat.reduceEqDiff, Nat.reduceAdd, Nat.reduceSub, Nat.reduceLeDiff, Nat.reduceLT, reduceCtorEq, Int.reduceLT, Int.reduceLE, Int.reduceEq, Int.reduceBEq, Int.reduceSub, Int.reduceAdd, Int.reduceMul, Int.reduceNeg, Int.reduceToNat, Nat.reduceMul, Nat.reduceBEq, h23, h, p, List.length_map]
      generalize hg : lim (headed pure (run L) true _ lp84_0 _ _) _ _ = o
      obtain ⟨x, en, s, rfl, h2⟩ : ∃ x en s, o = some (x, en, s) ∧ _ := by rw [← hg]; exact loop84 nl n2 n ps l hlen 0 0 (by omega) _ _ (by simp only [go_sem, reduceIte, Nat.reduceEqDiff, Nat.reduceAdd, Nat.reduceSub, Nat.reduceLeDiff, Nat.reduceLT, reduceCtorEq, Int.reduceLT, Int.reduceLE, Int.reduceEq, Int.reduceBEq, Int.reduceSub, Int.reduceAdd, Int.reduceMul, Int.reduceNeg, Int.reduceToNat, Nat.reduceMul, Nat.reduceBEq, okRefsU, renCellsU] <;> rfl)
      clear hg
      obtain ⟨rfl, h3⟩ := h2
      rw [List.drop_zero, if_pos rfl] at h3
      simp only [go_sem, reduceIte, Nat.reduceEqDiff, Nat.reduceAdd, Nat.reduceSub, Nat.reduceLeDiff, Nat.reduceLT, reduceCtorEq, Int.reduceLT, Int.reduceLE, Int.reduceEq, Int.reduceBEq, Int.reduceSub, Int.reduceAdd, Int.reduceMul, Int.reduceNeg, Int.reduceToNat, Nat.reduceMul, Nat.reduceBEq, h3]
    · rw [if_neg p]
      simp only [ir84, go_sem, reduceIte, Nat.reduceEqDiff, Nat.reduceAdd, Nat.reduceSub, Nat.reduceLeDiff, Nat.reduceLT, reduceCtorEq, Int.reduceLT, Int.reduceLE, Int.reduceEq, Int.reduceBEq, Int.reduceSub, Int.reduceAdd, Int.reduceMul, Int.reduceNeg, Int.reduceToNat, Nat.reduceMul, Nat.reduceBEq, h23, h, p, List.length_map]
      generalize hg : lim (headed pure (run L) true _ lp84_0 _ _) _ _ = o
      obtain ⟨x, en, s, rfl, h2⟩ : ∃ x en s, o = some (x, en, s) ∧ _ := by rw [← hg]; exact loop84 nl n2 n ps l hlen 0 5 (by omega) _ _ (by simp only [go_sem, reduceIte, Nat.reduceEqDiff, Nat.reduceAdd, Nat.reduceSub, Nat.reduceLeDiff, Nat.reduceLT, reduceCtorEq, Int.reduceLT, Int.reduceLE, Int.reduceEq, Int.reduceBEq, Int.reduceSub, Int.reduceAdd, Int.reduceMul, Int.reduceNeg, Int.reduceToNat, Nat.reduceMul, Nat.reduceBEq] <;> rfl)
      clear hg
      obtain ⟨rfl, h3⟩ := h2
      rw [if_neg (by omega)] at h3
      simp only [go_sem, reduceIte, Nat.reduceEqDiff, Nat.reduceAdd, Nat.reduceSub, Nat.reduceLeDiff, Nat.reduceLT, reduceCtorEq, Int.reduceLT, Int.reduceLE, Int.reduceEq, Int.reduceBEq, Int.reduceSub, Int.reduceAdd, Int.reduceMul, Int.reduceNeg, Int.reduceToNat, Nat.reduceMul, Nat.reduceBEq, h3]
  · rw [if_neg h]
    simp only [ir84, go_sem, reduceIte, Nat.reduceEqDiff, Nat.reduceAdd, Nat.reduceSub, Nat.reduceLeDiff, Nat.reduceLT, reduceCtorEq, Int.reduceLT, Int.reduceLE, Int.reduceEq, Int.reduceBEq, Int.reduceSub, Int.reduceAdd, Int.reduceMul, Int.reduceNeg, Int.reduceToNat, Nat.reduceMul, Nat.reduceBEq, h23, h, List.length_map]
    generalize hg : lim (headed pure (run L) true _ lp84_0 _ _) _ _ = o
    obtain ⟨x, en, s, rfl, h2⟩ : ∃ x en s, o = some (x, en, s) ∧ _ := by rw [← hg]; exact loop84 nl n2 n ps l hlen 0 (chk n ps) (by omega) _ _ (by simp only [go_sem, reduceIte, Nat.reduceEqDiff, Nat.reduceAdd, Nat.reduceSub, Nat.reduceLeDiff, Nat.reduceLT, reduceCtorEq, Int.reduceLT, Int.reduceLE, Int.reduceEq, Int.reduceBEq, Int.reduceSub, Int.reduceAdd, Int.reduceMul, Int.reduceNeg, Int.reduceToNat, Nat.reduceMul, Nat.reduceBEq] <;> rfl)
    clear hg
    obtain ⟨rfl, h3⟩ := h2
    rw [if_neg h] at h3
    simp only [go_sem, reduceIte, Nat.reduceEqDiff, Nat.reduceAdd, Nat.reduceSub, Nat.reduceLeDiff, Nat.reduceLT, reduceCtorEq, Int.reduceLT, Int.reduceLE, Int.reduceEq, Int.reduceBEq, Int.reduceSub, Int.reduceAdd, Int.reduceMul, Int.reduceNeg, Int.reduceToNat, Nat.reduceMul, Nat.reduceBEq, h3]
theorem numb_eq (n : Int) (ps : List (Int × Int)) (v : List Int) : (halvedV n ps v).2 = if numbErr n ps v n = 0 then (if halfOk ps v = true then 0 else 21) else numbErr n ps v n := by
  unfold halvedV numbErr numbersV
  by_cases h : chk n ps = 0
  · rw [if_pos h, if_pos h]
    by_cases p : (v.length : Int) = n
    · rw [if_pos p, if_pos p]
      by_cases q : v.all in02 = true
      · rw [if_pos q, if_pos q]
        by_cases r : halfOk ps v = true
        · simp [r]
        · simp [r]
      · rw [if_neg q, if_neg q]; simp
    · rw [if_neg p, if_neg p]; simp
  · rw [if_neg h, if_neg h, if_neg h]
theorem numb_zero {n : Int} {ps : List (Int × Int)} {v : List Int} {many : Int} (h : numbErr n ps v many = 0) : chk n ps = 0 ∧ (v.length : Int) = many ∧ ∀ x ∈ v, 0 ≤ x ∧ x ≤ 2 := by
  unfold numbErr at h
  split at h
  · next h0 =>
    split at h
    · next h1 =>
      split at h
      · next h2 => exact ⟨h0, h1, all02 h2⟩
      · simp at h
    · simp at h
  · next h0 => exact absurd h h0
theorem c31 (nl n2 : Bool) (n : Int) (ps : List (Int × Int)) (v : List Int) (hlen : v.length < 1000000) (st : St) :
    run L 31 [bkAV nl n ps, sl 1 n2 (v.map I)] st = some (I (halvedV n ps v).2, st) := by
  rw [run_pure (fn := ir31) rfl rfl]
  have h84 := fun st => c84 nl n2 n ps v hlen n st
  rw [numb_eq]
  by_cases h : numbErr n ps v n = 0
  · obtain ⟨g1, g2, g3⟩ := numb_zero h
    obtain ⟨h1, h2, h3, h4, h5⟩ := chk_zero g1
    have h85 := fun st => c85 nl n2 n h2 ps (by omega) h4 v g2 g3 st
    rw [if_pos h]
    by_cases q : halfOk ps v = true
    · rw [if_pos q]
      simp only [ir31, go_sem, reduceIte, Nat.reduceEqDiff, Nat.reduceAdd, Nat.reduceSub, Nat.reduceLeDiff, Nat.reduceLT, reduceCtorEq, Int.reduceLT, Int.reduceLE, Int.reduceEq, Int.reduceBEq, Int.reduceSub, Int.reduceAdd, Int.reduceMul, Int.reduceNeg, Int.reduceToNat, Nat.reduceMul, Nat.reduceBEq, h84, h, h85, q]
    · rw [if_neg q]
      simp only [ir31, go_sem, reduceIte, Nat.reduceEqDiff, Nat.reduceAdd, Nat.reduceSub, Nat.reduceLeDiff, Nat.reduceLT, reduceCtorEq, Int.reduceLT, Int.reduceLE, Int.reduceEq, Int.reduceBEq, Int.reduceSub, Int.reduceAdd, Int.reduceMul, Int.reduceNeg, Int.reduceToNat, Nat.reduceMul, Nat.reduceBEq, h84, h, h85, q]
  · rw [if_neg h]
    simp only [ir31, go_sem, reduceIte, Nat.reduceEqDiff, Nat.reduceAdd, Nat.reduceSub, Nat.reduceLeDiff, Nat.reduceLT, reduceCtorEq, Int.reduceLT, Int.reduceLE, Int.reduceEq, Int.reduceBEq, Int.reduceSub, Int.reduceAdd, Int.reduceMul, Int.reduceNeg, Int.reduceToNat, Nat.reduceMul, Nat.reduceBEq, h84, h]


theorem loop34 (n1 n2 : Bool) (xs ys : List (Int × Int)) (hl : xs.length = ys.length) (hlen : xs.length < 1000000) (i : Nat) (hok : i ≤ xs.length) (env : Env) (st : St)
    (hg : gcAV true 0 0 (canon env [0, 1, 5]) st = ([(0, sl 2 n1 (xs.map prAV)), (1, sl 2 n2 (ys.map prAV)), (5, I i)], ⟨[], []⟩)) :
    ∃ x_1 en s, lim (headed pure (run L) true [0, 1, 5] lp34_0 0 0) env st = some (x_1, en, s) ∧ (if xs.drop i = ys.drop i then x_1 = .exit 0 else x_1 = .ret ∧ en.get 4 = B false) := by
  refine loop_wp (α := Nat) (fun i => xs.length - i) (fun i => i ≤ xs.length) (fun i => ([(0, sl 2 n1 (xs.map prAV)), (1, sl 2 n2 (ys.map prAV)), (5, I i)], ⟨[], []⟩)) (fun i x_1 en s => if xs.drop i = ys.drop i then x_1 = .exit 0 else x_1 = .ret ∧ en.get 4 = B false) (fun i hok => ?_) i hok env st hg
  by_cases h : i < xs.length
  · have hx := index_prs n1 xs i h
    have hy := index_prs n2 ys i (by omega)
    have hs := succ64 i (by omega)
    have hd : xs.drop i = xs[i] :: xs.drop (i + 1) := List.drop_eq_getElem_cons h
    have hd2 : ys.drop i = ys[i] :: ys.drop (i + 1) := List.drop_eq_getElem_cons (by omega)
    have hlt : ((i : Int) < (xs.length : Int)) = True := eq_true (by omega)
    rw [hd, hd2]
    generalize xs[i] = a at *
    generalize ys[i]'(by omega) = b at *
    obtain ⟨u, v⟩ := a
    obtain ⟨u2, v2⟩ := b
    simp only at hx hy
    by_cases p : u = u2
    · by_cases p2 : v = v2
      · simp only [go_sem, reduceIte, Nat.reduceEqDiff, Nat.reduceAdd, Nat.reduceSub, Nat.reduceLeDiff, Nat.reduceLT, reduceCtorEq, Int.reduceLT, Int.reduceLE, Int.reduceEq, Int.reduceBEq, Int.reduceSub, Int.reduceAdd, Int.reduceMul, Int.reduceNeg, Int.reduceToNat, Nat.reduceMul, Nat.reduceBEq, index_rsl_if, setm, make_ints, condK_dec, wantK_dec, not_dec, and_dec, or_dec, seqK_ite, seqK_none, blockK_ite, blockK_none, opsK_ite, opsK_none, stepK_ite, stepK_none, bodyK_ite, bodyK_none, resK_ite, resK_none, leaveK_ite, leaveK_none, only_ite, only_none, bind_ite, gives_some, gives_none, gives_ite, then_normal, then_ret, then_exit, then_none, then_ite, Option.bind_none, Bool.not_eq_true', decide_eq_false_iff_not, Bool.and_eq_true, Bool.or_eq_true, Option.some.injEq, Int.not_lt, Int.not_le, lp34_0, hx, hy, hlt, p, p2, hs, List.length_map]
        refine ⟨i + 1, by simp only [go_sem, reduceIte, Nat.reduceEqDiff, Nat.reduceAdd, Nat.reduceSub, Nat.reduceLeDiff, Nat.reduceLT, reduceCtorEq, Int.reduceLT, Int.reduceLE, Int.reduceEq, Int.reduceBEq, Int.reduceSub, Int.reduceAdd, Int.reduceMul, Int.reduceNeg, Int.reduceToNat, Nat.reduceMul, Nat.reduceBEq, ren1_locm, loc_tips, locT_eq] <;> rfl, ?_, ?_, fun x en s hq => ?_⟩
        · omega
        · omega
        · simp only [List.cons.injEq, p, p2, true_and]; exact hq
      · simp only [go_sem, reduceIte, Nat.reduceEqDiff, Nat.reduceAdd, Nat.reduceSub, Nat.reduceLeDiff, Nat.reduceLT, reduceCtorEq, Int.reduceLT, Int.reduceLE, Int.reduceEq, Int.reduceBEq, Int.reduceSub, Int.reduceAdd, Int.reduceMul, Int.reduceNeg, Int.reduceToNat, Nat.reduceMul, Nat.reduceBEq, index_rsl_if, setm, make_ints, condK_dec, wantK_dec, not_dec, and_dec, or_dec, seqK_ite, seqK_none, blockK_ite, blockK_none, opsK_ite, opsK_none, stepK_ite, stepK_none, bodyK_ite, bodyK_none, resK_ite, resK_none, leaveK_ite, leaveK_none, only_ite, only_none, bind_ite, gives_some, gives_none, gives_ite, then_normal, then_ret, then_exit, then_none, then_ite, Option.bind_none, Bool.not_eq_true', decide_eq_false_iff_not, Bool.and_eq_true, Bool.or_eq_true, Option.some.injEq, Int.not_lt, Int.not_le, lp34_0, hx, hy, hlt, p, p2, List.length_map]
        rw [if_neg (by simp [p2])]; trivial
    · simp only [go_sem, reduceIte, Nat.reduceEqDiff, Nat.reduceAdd, Nat.reduceSub, Nat.reduceLeDiff, Nat.reduceLT, reduceCtorEq, Int.reduceLT, Int.reduceLE, Int.reduceEq, Int.reduceBEq, Int.reduceSub, Int.reduceAdd, Int.reduceMul, Int.reduceNeg, Int.reduceToNat, Nat.reduceMul, Nat.reduceBEq, index_rsl_if, setm, make_ints, condK_dec, wantK_dec, not_dec, and_dec, or_dec, seqK_ite, seqK_none, blockK_ite, blockK_none, opsK_ite, opsK_none, stepK_ite, stepK_none, bodyK_ite, bodyK_none, resK_ite, resK_none, leaveK_ite, leaveK_none, only_ite, only_none, bind_ite, gives_some, gives_none, gives_ite, then_normal, then_ret, then_exit, then_none, then_ite, Option.bind_none, Bool.not_eq_true', decide_eq_false_iff_not, Bool.and_eq_true, Bool.or_eq_true, Option.some.injEq, Int.not_lt, Int.not_le, lp34_0, hx, hy, hlt, p, List.length_map]
      rw [if_neg (by simp [p])]; trivial
  · have hd : xs.drop i = [] := List.drop_eq_nil_of_le (by omega)
    have hd2 : ys.drop i = [] := List.drop_eq_nil_of_le (by omega)
    have hlt : ((i : Int) < (xs.length : Int)) = False := eq_false (by omega)
    simp only [go_sem, reduceIte, Nat.reduceEqDiff, Nat.reduceAdd, Nat.reduceSub, Nat.reduceLeDiff, Nat.reduceLT, reduceCtorEq, Int.reduceLT, Int.reduceLE, Int.reduceEq, Int.reduceBEq, Int.reduceSub, Int.reduceAdd, Int.reduceMul, Int.reduceNeg, Int.reduceToNat, Nat.reduceMul, Nat.reduceBEq, index_rsl_if, setm, make_ints, condK_dec, wantK_dec, not_dec, and_dec, or_dec, seqK_ite, seqK_none, blockK_ite, blockK_none, opsK_ite, opsK_none, stepK_ite, stepK_none, bodyK_ite, bodyK_none, resK_ite, resK_none, leaveK_ite, leaveK_none, only_ite, only_none, bind_ite, gives_some, gives_none, gives_ite, then_normal, then_ret, then_exit, then_none, then_ite, Option.bind_none, Bool.not_eq_true', decide_eq_false_iff_not, Bool.and_eq_true, Bool.or_eq_true, Option.some.injEq, Int.not_lt, Int.not_le, lp34_0, hlt, List.length_map]
    rw [hd, hd2]; simp

theorem c34 (n1 n2 : Bool) (xs ys : List (Int × Int)) (hlen : xs.length < 1000000) (st : St) : run L 34 [sl 2 n1 (xs.map prAV), sl 2 n2 (ys.map prAV)] st = some (B (decide (xs = ys)), st) := by
  rw [run_pure (fn := ir34) rfl rfl]
  by_cases hl : xs.length = ys.length
  · simp only [ir34, go_sem, reduceIte, Nat.reduceEqDiff, Nat.reduceAdd, Nat.reduceSub, Nat.reduceLeDiff, Nat.reduceLT, reduceCtorEq, Int.reduceLT, Int.reduceLE, Int.reduceEq, Int.reduceBEq, Int.reduceSub, Int.reduceAdd, Int.reduceMul, Int.reduceNeg, Int.reduceToNat, Nat.reduceMul, Nat.reduceBEq, List.length_map, hl]
    generalize hg : lim (headed pure (run L) true _ lp34_0 _ _) _ _ = o
    obtain ⟨x, en, s, rfl, h2⟩ : ∃ x en s, o = some (x, en, s) ∧ _ := by rw [← hg]; exact loop34 n1 n2 xs ys hl hlen 0 (by omega) _ _ (by simp only [go_sem, reduceIte, Nat.reduceEqDiff, Nat.reduceAdd, Nat.reduceSub, Nat.reduceLeDiff, Nat.reduceLT, reduceCtorEq, Int.reduceLT, Int.reduceLE, Int.reduceEq, Int.reduceBEq, Int.reduceSub, Int.reduceAdd, Int.reduceMul, Int.reduceNeg, Int.reduceToNat, Nat.reduceMul, Nat.reduceBEq] <;> rfl)
    clear hg
    simp only [List.drop_zero] at h2
    by_cases h : xs = ys
    · rw [if_pos h] at h2
      subst h2
      simp only [go_sem, reduceIte, Nat.reduceEqDiff, Nat.reduceAdd, Nat.reduceSub, Nat.reduceLeDiff, Nat.reduceLT, reduceCtorEq, Int.reduceLT, Int.reduceLE, Int.reduceEq, Int.reduceBEq, Int.reduceSub, Int.reduceAdd, Int.reduceMul, Int.reduceNeg, Int.reduceToNat, Nat.reduceMul, Nat.reduceBEq, h]
    · rw [if_neg h] at h2
      obtain ⟨rfl, h3⟩ := h2
      simp only [go_sem, reduceIte, Nat.reduceEqDiff, Nat.reduceAdd, Nat.reduceSub, Nat.reduceLeDiff, Nat.reduceLT, reduceCtorEq, Int.reduceLT, Int.reduceLE, Int.reduceEq, Int.reduceBEq, Int.reduceSub, Int.reduceAdd, Int.reduceMul, Int.reduceNeg, Int.reduceToNat, Nat.reduceMul, Nat.reduceBEq, h3, h]
  · have hl2 : ((xs.length : Int) = (ys.length : Int)) = False := eq_false (by omega)
    have hne : ¬ xs = ys := fun h => hl (by rw [h])
    simp only [ir34, go_sem, reduceIte, Nat.reduceEqDiff, Nat.reduceAdd, Nat.reduceSub, Nat.reduceLeDiff, Nat.reduceLT, reduceCtorEq, Int.reduceLT, Int.reduceLE, Int.reduceEq, Int.reduceBEq, Int.reduceSub, Int.reduceAdd, Int.reduceMul, Int.reduceNeg, Int.reduceToNat, Nat.reduceMul, Nat.reduceBEq, List.length_map, hl2, hne]

/-! ### searching in a list in order -/
theorem c111 (a : Int) (st : St) : run L 111 [I a] st = some (B false, st) := by
  rw [run_pure (fn := ir111) rfl rfl]
  simp only [ir111, go_sem, reduceIte, Nat.reduceEqDiff, Nat.reduceAdd, Nat.reduceSub, Nat.reduceLeDiff, Nat.reduceLT, reduceCtorEq, Int.reduceLT, Int.reduceLE, Int.reduceEq, Int.reduceBEq, Int.reduceSub, Int.reduceAdd, Int.reduceMul, Int.reduceNeg, Int.reduceToNat, Nat.reduceMul, Nat.reduceBEq]
theorem c110 (a b : Int) (st : St) : run L 110 [I a, I b] st = some (B (decide (a < b)), st) := by
  rw [run_pure (fn := ir110) rfl rfl]
  simp only [ir110, go_sem, reduceIte, Nat.reduceEqDiff, Nat.reduceAdd, Nat.reduceSub, Nat.reduceLeDiff, Nat.reduceLT, reduceCtorEq, Int.reduceLT, Int.reduceLE, Int.reduceEq, Int.reduceBEq, Int.reduceSub, Int.reduceAdd, Int.reduceMul, Int.reduceNeg, Int.reduceToNat, Nat.reduceMul, Nat.reduceBEq, c127]

theorem loop86 (nl : Bool) (l : List Int) (hlen : l.length < 1000) (t : Int) (m : Nat) (hm : m ≤ l.length) (hlt : ∀ i (h : i < l.length), l[i] < t ↔ i < m) (i : Nat) (j : Nat) (hok : i ≤ m ∧ m ≤ j ∧ j ≤ l.length) (env : Env) (st : St)
    (hg : gcAV true 0 0 (canon env [0, 1, 6, 7, 8]) st = ([(0, sl 1 nl (l.map I)), (1, I t), (6, I l.length), (7, I i), (8, I j)], ⟨[], []⟩)) :
    ∃ x_1 en s, lim (headed pure (run L) true [0, 1, 6, 7, 8] lp86_0 0 0) env st = some (x_1, en, s) ∧ (x_1 = .exit 0 ∧ en.get 0 = sl 1 nl (l.map I) ∧ en.get 1 = I t ∧ en.get 6 = I l.length ∧ en.get 7 = I m) := by
  refine loop_wp (α := Nat × Nat) (fun ⟨i, j⟩ => j - i) (fun ⟨i, j⟩ => i ≤ m ∧ m ≤ j ∧ j ≤ l.length) (fun ⟨i, j⟩ => ([(0, sl 1 nl (l.map I)), (1, I t), (6, I l.length), (7, I i), (8, I j)], ⟨[], []⟩)) (fun ⟨i, j⟩ x_1 en s => x_1 = .exit 0 ∧ en.get 0 = sl 1 nl (l.map I) ∧ en.get 1 = I t ∧ en.get 6 = I l.length ∧ en.get 7 = I m) (fun ⟨i, j⟩ hok => ?_) ⟨i, j⟩ hok env st hg
  simp only at hok
  by_cases q : (i : Int) < (j : Int)
  · have w1 := wrap64 ((i : Int) + j) (by omega) (by omega)
    have w2 : IntKind.u64.wrap ((i : Int) + j) = (i : Int) + j := by simp [IntKind.wrap, IntKind.bits, IntKind.signed]; omega
    have w3 : Int.fdiv ((i : Int) + j) (2 ^ (min (1 : Nat) 64)) = (((i + j) / 2 : Nat) : Int) := by
      have : (2 : Int) ^ (min (1 : Nat) 64) = 2 := rfl
      rw [this, Int.fdiv_eq_ediv_of_nonneg _ (by omega)]; omega
    have w4 := wrap64 (((i + j) / 2 : Nat) : Int) (by omega) (by omega)
    have w5 := succ64 ((i + j) / 2) (by omega)
    have hx := index_ints nl l ((i + j) / 2) (by omega)
    have hl := hlt ((i + j) / 2) (by omega)
    by_cases p : l[(i + j) / 2]'(by omega) < t
    · simp only [go_sem, reduceIte, Nat.reduceEqDiff, Nat.reduceAdd, Nat.reduceSub, Nat.reduceLeDiff, Nat.reduceLT, reduceCtorEq, Int.reduceLT, Int.reduceLE, Int.reduceEq, Int.reduceBEq, Int.reduceSub, Int.reduceAdd, Int.reduceMul, Int.reduceNeg, Int.reduceToNat, Nat.reduceMul, Nat.reduceBEq, index_rsl_if, setm, make_ints, condK_dec, wantK_dec, not_dec, and_dec, or_dec, seqK_ite, seqK_none, blockK_ite, blockK_none, opsK_ite, opsK_none, stepK_ite, stepK_none, bodyK_ite, bodyK_none, resK_ite, resK_none, leaveK_ite, leaveK_none, only_ite, only_none, bind_ite, gives_some, gives_none, gives_ite, then_normal, then_ret, then_exit, then_none, then_ite, Option.bind_none, Bool.not_eq_true', decide_eq_false_iff_not, Bool.and_eq_true, Bool.or_eq_true, Option.some.injEq, Int.not_lt, Int.not_le, lp86_0, q, w1, w2, w3, w4, w5, hx, c110, p, show Int.toNat 1 = 1 from rfl]
      refine ⟨((i + j) / 2 + 1, j), by simp only [go_sem, reduceIte, Nat.reduceEqDiff, Nat.reduceAdd, Nat.reduceSub, Nat.reduceLeDiff, Nat.reduceLT, reduceCtorEq, Int.reduceLT, Int.reduceLE, Int.reduceEq, Int.reduceBEq, Int.reduceSub, Int.reduceAdd, Int.reduceMul, Int.reduceNeg, Int.reduceToNat, Nat.reduceMul, Nat.reduceBEq, ren1_locm, loc_tips, locT_eq] <;> rfl, ?_, ?_, fun x en s hq => ?_⟩
      · simp only; omega
      · simp only; omega
      · exact hq
    · simp only [go_sem, reduceIte, Nat.reduceEqDiff, Nat.reduceAdd, Nat.reduceSub, Nat.reduceLeDiff, Nat.reduceLT, reduceCtorEq, Int.reduceLT, Int.reduceLE, Int.reduceEq, Int.reduceBEq, Int.reduceSub, Int.reduceAdd, Int.reduceMul, Int.reduceNeg, Int.reduceToNat, Nat.reduceMul, Nat.reduceBEq, index_rsl_if, setm, make_ints, condK_dec, wantK_dec, not_dec, and_dec, or_dec, seqK_ite, seqK_none, blockK_ite, blockK_none, opsK_ite, opsK_none, stepK_ite, stepK_none, bodyK_ite, bodyK_none, resK_ite, resK_none, leaveK_ite, leaveK_none, only_ite, only_none, bind_ite, gives_some, gives_none, gives_ite, then_normal, then_ret, then_exit, then_none, then_ite, Option.bind_none, Bool.not_eq_true', decide_eq_false_iff_not, Bool.and_eq_true, Bool.or_eq_true, Option.some.injEq, Int.not_lt, Int.not_le, lp86_0, q, w1, w2, w3, w4, w5, hx, c110, p, show Int.toNat 1 = 1 from rfl]
      refine ⟨(i, (i + j) / 2), by simp only [go_sem, reduceIte, Nat.reduceEqDiff, Nat.reduceAdd, Nat.reduceSub, Nat.reduceLeDiff, Nat.reduceLT, reduceCtorEq, Int.reduceLT, Int.reduceLE, Int.reduceEq, Int.reduceBEq, Int.reduceSub, Int.reduceAdd, Int.reduceMul, Int.reduceNeg, Int.reduceToNat, Nat.reduceMul, Nat.reduceBEq, ren1_locm, loc_tips, locT_eq] <;> rfl, ?_, ?_, fun x en s hq => ?_⟩
      · simp only; omega
      · simp only; omega
      · exact hq
  · obtain rfl : i = m := by omega
    simp only [go_sem, reduceIte, Nat.reduceEqDiff, Nat.reduceAdd, Nat.reduceSub, Nat.reduceLeDiff, Nat.reduceLT, reduceCtorEq, Int.reduceLT, Int.reduceLE, Int.reduceEq, Int.reduceBEq, Int.reduceSub, Int.reduceAdd, Int.reduceMul, Int.reduceNeg, Int.reduceToNat, Nat.reduceMul, Nat.reduceBEq, index_rsl_if, setm, make_ints, condK_dec, wantK_dec, not_dec, and_dec, or_dec, seqK_ite, seqK_none, blockK_ite, blockK_none, opsK_ite, opsK_none, stepK_ite, stepK_none, bodyK_ite, bodyK_none, resK_ite, resK_none, leaveK_ite, leaveK_none, only_ite, only_none, bind_ite, gives_some, gives_none, gives_ite, then_normal, then_ret, then_exit, then_none, then_ite, Option.bind_none, Bool.not_eq_true', decide_eq_false_iff_not, Bool.and_eq_true, Bool.or_eq_true, Option.some.injEq, Int.not_lt, Int.not_le, lp86_0, q]

/-- How many numbers are ahead of one in a list in order. -/
def cnt (l : List Int) (a : Int) : Nat := (l.takeWhile (fun e => decide (e < a))).length
theorem cnt_le (l : List Int) (a : Int) : cnt l a ≤ l.length := (List.takeWhile_prefix _).length_le
theorem cnt_iff {a : Int} : ∀ {l : List Int}, l.Pairwise (· < ·) → ∀ i (h : i < l.length), l[i] < a ↔ i < cnt l a
  | [], _, i, h => by simp at h
  | x :: r, hp, i, hi => by
    rw [List.pairwise_cons] at hp
    have ih := cnt_iff (a := a) hp.2
    unfold cnt at ih ⊢
    by_cases hx : x < a
    · simp only [List.takeWhile_cons, hx, decide_true, if_true, List.length_cons]
      cases i with
      | zero => simp [hx]
      | succ i => simp only [List.getElem_cons_succ]; rw [ih i (by simpa using hi)]; omega
    · simp only [List.takeWhile_cons, hx, decide_false, Bool.false_eq_true, if_false, List.length_nil]
      cases i with
      | zero => simp [hx]
      | succ i =>
        have hi' : i < r.length := by simpa using hi
        have := hp.1 r[i] (List.getElem_mem hi')
        simp only [List.getElem_cons_succ]; omega
theorem cnt_mem {l : List Int} (hp : l.Pairwise (· < ·)) (a : Int) : a ∈ l ↔ ∃ h : cnt l a < l.length, l[cnt l a] = a := by
  constructor
  · intro h
    obtain ⟨i, hi, rfl⟩ := List.getElem_of_mem h
    have h1 := cnt_iff (a := l[i]) hp i hi
    have h2 : ¬ i < cnt l l[i] := by rw [← h1]; omega
    have h3 : ¬ cnt l l[i] < i := by
      intro h3
      have h4 := cnt_iff (a := l[i]) hp (cnt l l[i]) (by omega)
      have h5 := List.pairwise_iff_getElem.1 hp (cnt l l[i]) i (by omega) hi h3
      omega
    have e : cnt l l[i] = i := by omega
    refine ⟨by omega, ?_⟩
    simp only [e]
  · rintro ⟨h, e⟩
    rw [← e]; exact List.getElem_mem h
theorem c86 (nl : Bool) (l : List Int) (hlen : l.length < 1000) (hp : l.Pairwise (· < ·)) (t : Int) (st : St) :
    run L 86 [sl 1 nl (l.map I), I t] st = some (.tup [I (cnt l t), B (decide (t ∈ l))], st) := by
  rw [run_pure (fn := ir86) rfl rfl]
  have hm := cnt_mem hp t
  have hle := cnt_le l t
  have hi := cnt_iff (a := t) hp
  generalize cnt l t = m at *
  simp only [ir86, go_sem, reduceIte, Nat.reduceEqDiff, Nat.reduceAdd, Nat.reduceSub, Nat.reduceLeDiff, Nat.reduceLT, reduceCtorEq, Int.reduceLT, Int.reduceLE, Int.reduceEq, Int.reduceBEq, Int.reduceSub, Int.reduceAdd, Int.reduceMul, Int.reduceNeg, Int.reduceToNat, Nat.reduceMul, Nat.reduceBEq, List.length_map]
  generalize hg : lim (headed pure (run L) true _ lp86_0 _ _) _ _ = o
  obtain ⟨x, en, s, rfl, h2⟩ : ∃ x en s, o = some (x, en, s) ∧ _ := by rw [← hg]; exact loop86 nl l hlen t m hle hi 0 l.length ⟨by omega, by omega, by omega⟩ _ _ (by simp only [go_sem, reduceIte, Nat.reduceEqDiff, Nat.reduceAdd, Nat.reduceSub, Nat.reduceLeDiff, Nat.reduceLT, reduceCtorEq, Int.reduceLT, Int.reduceLE, Int.reduceEq, Int.reduceBEq, Int.reduceSub, Int.reduceAdd, Int.reduceMul, Int.reduceNeg, Int.reduceToNat, Nat.reduceMul, Nat.reduceBEq] <;> rfl)
  clear hg
  obtain ⟨rfl, h3, h4, h5, h6⟩ := h2
  by_cases p0 : m < l.length
  · have hx := index_ints nl l m p0
    have q : ((m : Int) < (l.length : Int)) = True := eq_true (by omega)
    by_cases p : l[m] = t
    · have hin : t ∈ l := hm.2 ⟨p0, p⟩
      simp only [go_sem, reduceIte, Nat.reduceEqDiff, Nat.reduceAdd, Nat.reduceSub, Nat.reduceLeDiff, Nat.reduceLT, reduceCtorEq, Int.reduceLT, Int.reduceLE, Int.reduceEq, Int.reduceBEq, Int.reduceSub, Int.reduceAdd, Int.reduceMul, Int.reduceNeg, Int.reduceToNat, Nat.reduceMul, Nat.reduceBEq, h3, h4, h5, h6, hx, q, p, c111, hin]
    · have hin : ¬ t ∈ l := fun h => p (hm.1 h).2
      simp only [go_sem, reduceIte, Nat.reduceEqDiff, Nat.reduceAdd, Nat.reduceSub, Nat.reduceLeDiff, Nat.reduceLT, reduceCtorEq, Int.reduceLT, Int.reduceLE, Int.reduceEq, Int.reduceBEq, Int.reduceSub, Int.reduceAdd, Int.reduceMul, Int.reduceNeg, Int.reduceToNat, Nat.reduceMul, Nat.reduceBEq, h3, h4, h5, h6, hx, q, p, c111, hin]
  · have q : ((m : Int) < (l.length : Int)) = False := eq_false (by omega)
    have hin : ¬ t ∈ l := fun h => p0 (hm.1 h).1
    simp only [go_sem, reduceIte, Nat.reduceEqDiff, Nat.reduceAdd, Nat.reduceSub, Nat.reduceLeDiff, Nat.reduceLT, reduceCtorEq, Int.reduceLT, Int.reduceLE, Int.reduceEq, Int.reduceBEq, Int.reduceSub, Int.reduceAdd, Int.reduceMul, Int.reduceNeg, Int.reduceToNat, Nat.reduceMul, Nat.reduceBEq, h3, h4, h5, h6, q, hin]

theorem withL_sorted (x : Int) : ∀ (l : List Int) (i : Nat), (withL x l i).Pairwise (· < ·) ∧ ∀ a ∈ withL x l i, (i : Int) ≤ a
  | [], i => by simp [withL]
  | b :: r, i => by
    obtain ⟨h1, h2⟩ := withL_sorted x r (i + 1)
    simp only [withL]
    split
    · refine ⟨List.pairwise_cons.2 ⟨fun a ha => by have := h2 a ha; omega, h1⟩, fun a ha => ?_⟩
      rcases List.mem_cons.1 ha with rfl | ha
      · omega
      · have := h2 a ha; omega
    · exact ⟨h1, fun a ha => by have := h2 a ha; omega⟩

/-! ### what is left -/
def restV (left : List Int) (ps : List (Int × Int)) : List (Int × Int) := ps.filterMap fun p => if p.1 ∈ left ∧ p.2 ∈ left then some ((cnt left p.1 : Int), (cnt left p.2 : Int)) else none

theorem loop32 (nl : Bool) (n : Int) (ps : List (Int × Int)) (hlen : ps.length < 1000) (left : List Int) (hll : left.length < 1000) (hp : left.Pairwise (· < ·)) (i : Nat) (out : List (Int × Int)) (hok : i ≤ ps.length ∧ out.length ≤ i) (env : Env) (st : St)
    (hg : gcAV true 3 0 (canon env [2, 6, 7, 27, 28, 29]) st = ([(2, .ptr 1 0), (6, sl 1 true (left.map I)), (7, .ptr 2 0), (27, sl 2 nl (ps.map prAV)), (28, I ps.length), (29, I i)], ⟨[bkCells nl n ps, [I 0, sl 2 true []], [I left.length, loc 2 0 (out.map prAV)]], locT 0 (out.map prAV)⟩)) :
    ∃ x_1 en s, lim (headed pure (run L) true [2, 6, 7, 27, 28, 29] lp32_0 3 0) env st = some (x_1, en, s) ∧ (x_1 = .exit 0 ∧ en.get 2 = .ptr 1 0 ∧ en.get 6 = sl 1 true (left.map I) ∧ en.get 7 = .ptr 2 0 ∧ s = ⟨[bkCells nl n ps, [I 0, sl 2 true []], [I left.length, loc 2 0 ((out ++ restV left (ps.drop i)).map prAV)]], locT 0 ((out ++ restV left (ps.drop i)).map prAV)⟩) := by
  refine loop_wp (α := Nat × List (Int × Int)) (fun ⟨i, out⟩ => ps.length - i) (fun ⟨i, out⟩ => i ≤ ps.length ∧ out.length ≤ i) (fun ⟨i, out⟩ => ([(2, .ptr 1 0), (6, sl 1 true (left.map I)), (7, .ptr 2 0), (27, sl 2 nl (ps.map prAV)), (28, I ps.length), (29, I i)], ⟨[bkCells nl n ps, [I 0, sl 2 true []], [I left.length, loc 2 0 (out.map prAV)]], locT 0 (out.map prAV)⟩)) (fun ⟨i, out⟩ x_1 en s => x_1 = .exit 0 ∧ en.get 2 = .ptr 1 0 ∧ en.get 6 = sl 1 true (left.map I) ∧ en.get 7 = .ptr 2 0 ∧ s = ⟨[bkCells nl n ps, [I 0, sl 2 true []], [I left.length, loc 2 0 ((out ++ restV left (ps.drop i)).map prAV)]], locT 0 ((out ++ restV left (ps.drop i)).map prAV)⟩) (fun ⟨i, out⟩ hok => ?_) ⟨i, out⟩ hok env st hg
  simp only at hok
  obtain ⟨h1, h2⟩ := hok
  dsimp only
  by_cases h : i < ps.length
  · have hx := index_prs nl ps i h
    have hs := succ64 i (by omega)
    have hd : ps.drop i = ps[i] :: ps.drop (i + 1) := List.drop_eq_getElem_cons h
    have hlt : ((i : Int) < (ps.length : Int)) = True := eq_true (by omega)
    rw [hd]
    generalize ps[i] = c at *
    obtain ⟨u, v⟩ := c
    simp only at hx
    have h86 := fun t st => c86 true left hll hp t st
    by_cases p1 : u ∈ left
    · by_cases p2 : v ∈ left
      · have e : restV left ((u, v) :: ps.drop (i + 1)) = ((cnt left u : Int), (cnt left v : Int)) :: restV left (ps.drop (i + 1)) := by simp [restV, p1, p2]
        rw [e]
        have happ : ∀ s, appendAV 2 (loc 2 0 (out.map prAV)) [.agg [I (cnt left u), I (cnt left v)]] ⟨s, locT 0 (out.map prAV)⟩ = some (loc 2 0 ((out ++ [((cnt left u : Int), (cnt left v : Int))]).map prAV), ⟨s, locT 0 ((out ++ [((cnt left u : Int), (cnt left v : Int))]).map prAV)⟩) := fun s =>
          append_locm (z := 2) (k := 0) prAV out ((cnt left u : Int), (cnt left v : Int)) s (by omega) (by simp [maxGrow]; omega)
        simp only [go_sem, reduceIte, Nat.reduceEqDiff, Nat.reduceAdd, Nat.reduceSub, Nat.reduceLeDiff, Nat.reduceLT, reduceCtorEq, Int.reduceLT, Int.reduceLE, Int.reduceEq, Int.reduceBEq, Int.reduceSub, Int.reduceAdd, Int.reduceMul, Int.reduceNeg, Int.reduceToNat, Nat.reduceMul, Nat.reduceBEq, index_rsl_if, setm, make_ints, condK_dec, wantK_dec, not_dec, and_dec, or_dec, seqK_ite, seqK_none, blockK_ite, blockK_none, opsK_ite, opsK_none, stepK_ite, stepK_none, bodyK_ite, bodyK_none, resK_ite, resK_none, leaveK_ite, leaveK_none, only_ite, only_none, bind_ite, gives_some, gives_none, gives_ite, then_normal, then_ret, then_exit, then_none, then_ite, Option.bind_none, Bool.not_eq_true', decide_eq_false_iff_not, Bool.and_eq_true, Bool.or_eq_true, Option.some.injEq, Int.not_lt, Int.not_le, lp32_0, hx, hlt, hs, h86, p1, p2, happ]
        refine ⟨(i + 1, out ++ [((cnt left u : Int), (cnt left v : Int))]), by simp only [go_sem, reduceIte, Nat.reduceEqDiff, Nat.reduceAdd, Nat.reduceSub, Nat.reduceLeDiff, Nat.reduceLT, reduceCtorEq, Int.reduceLT, Int.reduceLE, Int.reduceEq, Int.reduceBEq, Int.reduceSub, Int.reduceAdd, Int.reduceMul, Int.reduceNeg, Int.reduceToNat, Nat.reduceMul, Nat.reduceBEq, ren1_locm, loc_tips, locT_eq] <;> rfl, ?_, ?_, fun x en s hq => ?_⟩
        · dsimp only; exact ⟨by omega, by simp; omega⟩
        · simp only; omega
        · simpa using hq
      · have e : restV left ((u, v) :: ps.drop (i + 1)) = restV left (ps.drop (i + 1)) := by simp [restV, p2]
        rw [e]
        simp only [go_sem, reduceIte, Nat.reduceEqDiff, Nat.reduceAdd, Nat.reduceSub, Nat.reduceLeDiff, Nat.reduceLT, reduceCtorEq, Int.reduceLT, Int.reduceLE, Int.reduceEq, Int.reduceBEq, Int.reduceSub, Int.reduceAdd, Int.reduceMul, Int.reduceNeg, Int.reduceToNat, Nat.reduceMul, Nat.reduceBEq, index_rsl_if, setm, make_ints, condK_dec, wantK_dec, not_dec, and_dec, or_dec, seqK_ite, seqK_none, blockK_ite, blockK_none, opsK_ite, opsK_none, stepK_ite, stepK_none, bodyK_ite, bodyK_none, resK_ite, resK_none, leaveK_ite, leaveK_none, only_ite, only_none, bind_ite, gives_some, gives_none, gives_ite, then_normal, then_ret, then_exit, then_none, then_ite, Option.bind_none, Bool.not_eq_true', decide_eq_false_iff_not, Bool.and_eq_true, Bool.or_eq_true, Option.some.injEq, Int.not_lt, Int.not_le, lp32_0, hx, hlt, hs, h86, p1, p2]
        refine ⟨(i + 1, out), by simp only [go_sem, reduceIte, Nat.reduceEqDiff, Nat.reduceAdd, Nat.reduceSub, Nat.reduceLeDiff, Nat.reduceLT, reduceCtorEq, Int.reduceLT, Int.reduceLE, Int.reduceEq, Int.reduceBEq, Int.reduceSub, Int.reduceAdd, Int.reduceMul, Int.reduceNeg, Int.reduceToNat, Nat.reduceMul, Nat.reduceBEq, ren1_locm, loc_tips, locT_eq] <;> rfl, ?_, ?_, fun x en s hq => ?_⟩
        · dsimp only; exact ⟨by omega, by omega⟩
        · simp only; omega
        · exact hq
    · have e : restV left ((u, v) :: ps.drop (i + 1)) = restV left (ps.drop (i + 1)) := by simp [restV, p1]
      rw [e]
      simp only [go_sem, reduceIte, Nat.reduceEqDiff, Nat.reduceAdd, Nat.reduceSub, Nat.reduceLeDiff, Nat.reduceLT, reduceCtorEq, Int.reduceLT, Int.reduceLE, Int.reduceEq, Int.reduceBEq, Int.reduceSub, Int.reduceAdd, Int.reduceMul, Int.reduceNeg, Int.reduceToNat, Nat.reduceMul, Nat.reduceBEq, index_rsl_if, setm, make_ints, condK_dec, wantK_dec, not_dec, and_dec, or_dec, seqK_ite, seqK_none, blockK_ite, blockK_none, opsK_ite, opsK_none, stepK_ite, stepK_none, bodyK_ite, bodyK_none, resK_ite, resK_none, leaveK_ite, leaveK_none, only_ite, only_none, bind_ite, gives_some, gives_none, gives_ite, then_normal, then_ret, then_exit, then_none, then_ite, Option.bind_none, Bool.not_eq_true', decide_eq_false_iff_not, Bool.and_eq_true, Bool.or_eq_true, Option.some.injEq, Int.not_lt, Int.not_le, lp32_0, hx, hlt, hs, h86, p1]
      refine ⟨(i + 1, out), by simp only [go_sem, reduceIte, Nat.reduceEqDiff, Nat.reduceAdd, Nat.reduceSub, Nat.reduceLeDiff, Nat.reduceLT, reduceCtorEq, Int.reduceLT, Int.reduceLE, Int.reduceEq, Int.reduceBEq, Int.reduceSub, Int.reduceAdd, Int.reduceMul, Int.reduceNeg, Int.reduceToNat, Nat.reduceMul, Nat.reduceBEq, ren1_locm, loc_tips, locT_eq] <;> rfl, ?_, ?_, fun x en s hq => ?_⟩
      · dsimp only; exact ⟨by omega, by omega⟩
      · simp only; omega
      · exact hq
  · have hd : ps.drop i = [] := List.drop_eq_nil_of_le (by omega)
    have hlt : ((i : Int) < (ps.length : Int)) = False := eq_false (by omega)
    simp only [go_sem, reduceIte, Nat.reduceEqDiff, Nat.reduceAdd, Nat.reduceSub, Nat.reduceLeDiff, Nat.reduceLT, reduceCtorEq, Int.reduceLT, Int.reduceLE, Int.reduceEq, Int.reduceBEq, Int.reduceSub, Int.reduceAdd, Int.reduceMul, Int.reduceNeg, Int.reduceToNat, Nat.reduceMul, Nat.reduceBEq, index_rsl_if, setm, make_ints, condK_dec, wantK_dec, not_dec, and_dec, or_dec, seqK_ite, seqK_none, blockK_ite, blockK_none, opsK_ite, opsK_none, stepK_ite, stepK_none, bodyK_ite, bodyK_none, resK_ite, resK_none, leaveK_ite, leaveK_none, only_ite, only_none, bind_ite, gives_some, gives_none, gives_ite, then_normal, then_ret, then_exit, then_none, then_ite, Option.bind_none, Bool.not_eq_true', decide_eq_false_iff_not, Bool.and_eq_true, Bool.or_eq_true, Option.some.injEq, Int.not_lt, Int.not_le, lp32_0, hlt]
    rw [hd]; simp [restV]

/-- The book of the others, which they are, and an error. -/
def leftV (n : Int) (ps : List (Int × Int)) : List Int := if chk n ps = 0 then withL 1 (halvesV n.toNat ps) 0 else []
def restP (n : Int) (ps : List (Int × Int)) : List (Int × Int) := if chk n ps = 0 then restV (leftV n ps) ps else []
theorem leftV_len (n : Int) (ps : List (Int × Int)) : (leftV n ps).length ≤ 7 := by
  unfold leftV
  split
  · next h =>
    obtain ⟨h1, h2, h3, h4, h5⟩ := chk_zero h
    obtain ⟨k, rfl⟩ := Int.eq_ofNat_of_zero_le (show 0 ≤ n by omega)
    have := (halvesV_ok (n := k) (by omega) (by omega) h4 h5).1
    have g1 := withL_len 1 (halvesV k ps) 0
    simp only [Int.toNat_natCast]; omega
  · simp
theorem restP_len (n : Int) (ps : List (Int × Int)) : (restP n ps).length ≤ 10 := by
  unfold restP
  split
  · next h =>
    have := (chk_zero h).2.2.1
    unfold restV
    exact Nat.le_trans (List.length_filterMap_le _ _) this
  · simp
theorem c32 (nl : Bool) (n : Int) (ps : List (Int × Int)) (st : St) :
    run L 32 [bkAV nl n ps] st = some (.tup [bkAV true (leftV n ps).length (restP n ps), sl 1 true ((leftV n ps).map I), I (chk n ps)], st) := by
  rw [run_pure (fn := ir32) rfl rfl]
  have h22 := fun st => c22 nl n ps st
  have hlen := leftV_len n ps
  by_cases h : chk n ps = 0
  · obtain ⟨h1, h2, h3, h4, h5⟩ := chk_zero h
    have e1 : restP n ps = restV (leftV n ps) ps := by unfold restP; rw [if_pos h]
    have e2 : leftV n ps = withL 1 (halvesV n.toNat ps) 0 := by unfold leftV; rw [if_pos h]
    have hp : (leftV n ps).Pairwise (· < ·) := by rw [e2]; exact (withL_sorted 1 _ 0).1
    obtain ⟨k, rfl⟩ := Int.eq_ofNat_of_zero_le (show 0 ≤ n by omega)
    have h81 := fun st => c81 nl k (by omega) (by omega) ps (by omega) h4 h5 st
    have hl := (halvesV_ok (n := k) (by omega) (by omega) h4 h5).1
    have h82 := fun st => c82 true (halvesV k ps) (by omega) 1 st
    simp only [Int.toNat_natCast] at e2
    rw [← e2] at h82
    rw [e1]
    generalize leftV (k : Int) ps = left at *
    simp only [ir32, go_sem, reduceIte, Nat.reduceEqDiff, Nat.reduceAdd, Nat.reduceSub, Nat.reduceLeDiff, Nat.reduceLT, reduceCtorEq, Int.reduceLT, Int.reduceLE, Int.reduceEq, Int.reduceBEq, Int.reduceSub, Int.reduceAdd, Int.reduceMul, Int.reduceNeg, Int.reduceToNat, Nat.reduceMul, Nat.reduceBEq, h22, h, h81, h82, List.length_map]
    generalize hg : lim (headed pure (run L) true _ lp32_0 _ _) _ _ = o
    obtain ⟨x, en, s, rfl, h2⟩ : ∃ x en s, o = some (x, en, s) ∧ _ := by rw [← hg]; exact loop32 nl k ps (by omega) left (by omega) hp 0 [] ⟨by omega, by simp⟩ _ _ (by simp only [go_sem, reduceIte, Nat.reduceEqDiff, Nat.reduceAdd, Nat.reduceSub, Nat.reduceLeDiff, Nat.reduceLT, reduceCtorEq, Int.reduceLT, Int.reduceLE, Int.reduceEq, Int.reduceBEq, Int.reduceSub, Int.reduceAdd, Int.reduceMul, Int.reduceNeg, Int.reduceToNat, Nat.reduceMul, Nat.reduceBEq, loc_start, locT, sl_nil] <;> rfl)
    clear hg
    obtain ⟨rfl, g2, g6, g7, rfl⟩ := h2
    rw [List.drop_zero, List.nil_append]
    simp only [go_sem, reduceIte, Nat.reduceEqDiff, Nat.reduceAdd, Nat.reduceSub, Nat.reduceLeDiff, Nat.reduceLT, reduceCtorEq, Int.reduceLT, Int.reduceLE, Int.reduceEq, Int.reduceBEq, Int.reduceSub, Int.reduceAdd, Int.reduceMul, Int.reduceNeg, Int.reduceToNat, Nat.reduceMul, Nat.reduceBEq, g2, g6, g7]
  · have e1 : restP n ps = [] := by unfold restP; rw [if_neg h]
    have e2 : leftV n ps = [] := by unfold leftV; rw [if_neg h]
    rw [e1, e2]
    simp only [ir32, go_sem, reduceIte, Nat.reduceEqDiff, Nat.reduceAdd, Nat.reduceSub, Nat.reduceLeDiff, Nat.reduceLT, reduceCtorEq, Int.reduceLT, Int.reduceLE, Int.reduceEq, Int.reduceBEq, Int.reduceSub, Int.reduceAdd, Int.reduceMul, Int.reduceNeg, Int.reduceToNat, Nat.reduceMul, Nat.reduceBEq, h22, h]
    rfl


/-! ### a list of pairs that grows in a struct -/
def outAV (o : List (Int × Int)) : AV := loc 2 0 (o.map prAV)
def outT (o : List (Int × Int)) : List Nat := locT 0 (o.map prAV)
def outAcc (o : List (Int × Int)) : List (Nat × Nat) := if (o.map prAV).length = 0 then [] else [(0, (o.map prAV).length)]
theorem okRef_out (n : Nat) (o : List (Int × Int)) : okRef n (outAV o) = true := okRef_loc _ _ _ _
theorem storable_out (o : List (Int × Int)) : storable (outAV o) = true := storable_loc _ _ _
theorem shaped_out (o : List (Int × Int)) : (outAV o).shaped = true := shaped_loc _ _ _
theorem cells_out (o : List (Int × Int)) : (outAV o).cells = [outAV o] := cells_loc _ _ _
theorem ren1_out (o : List (Int × Int)) : ren1 0 (outT o) [] (outAV o) = (outAV o, outAcc o) := ren1_loc (k := 0) 2 (o.map prAV)
theorem outAcc_snd (o : List (Int × Int)) : (outAcc o).map (fun x => x.2) = outT o := by
  unfold outAcc outT locT; split <;> rfl
theorem ren1_outH (o : List (Int × Int)) (acc : List (Nat × Nat)) : ren1 (outT o).length (outT o) acc (outAV o) = (outAV o, acc) := by
  unfold outAV outT loc locT
  split
  · rfl
  · simp [ren1]
theorem fin_out (st : St) (o : List (Int × Int)) : fin st (outAV o) = sl 2 true (o.map prAV) := fin_loc st 2 0 _
theorem append_out (o : List (Int × Int)) (x y : Int) (s : List (List AV)) (h : o.length < 1000) : appendAV 2 (outAV o) [.agg [I x, I y]] ⟨s, outT o⟩ = some (outAV (o ++ [(x, y)]), ⟨s, outT (o ++ [(x, y)])⟩) :=
  append_locm (z := 2) (k := 0) prAV o (x, y) s (by omega) (by unfold maxGrow; omega)
theorem out_start : .v (.slice none 0 0) = outAV [] := rfl
theorem outT_nil : outT [] = [] := rfl
attribute [local go_sem] okRef_out storable_out shaped_out cells_out fin_out

/-- The last place of a number, or what was before. -/
def posFrom (a : Int) : List Int → Nat → Int → Int
  | [], _, cur => cur
  | b :: r, k, cur => posFrom a r (k + 1) (if b = a then (k : Int) else cur)
theorem posFrom_eq {a : Int} : ∀ {l : List Int} (k : Nat) (cur : Int), l.Pairwise (· < ·) → posFrom a l k cur = if a ∈ l then ((k + cnt l a : Nat) : Int) else cur
  | [], k, cur, _ => by simp [posFrom]
  | b :: r, k, cur, hp => by
    rw [List.pairwise_cons] at hp
    simp only [posFrom]
    rw [posFrom_eq (k + 1) _ hp.2]
    by_cases e : b = a
    · subst e
      have hn : ¬ b ∈ r := fun h => by have := hp.1 b h; omega
      rw [if_neg hn, if_pos rfl, if_pos (by simp)]
      simp [cnt]
    · rw [if_neg e]
      by_cases h : a ∈ r
      · have hb := hp.1 a h
        rw [if_pos h, if_pos (by simp [h])]
        simp only [cnt, List.takeWhile_cons, hb, decide_true, if_true, List.length_cons]
        omega
      · rw [if_neg h, if_neg (by simp [h, Ne.symm e])]

theorem loop33_0 (nl : Bool) (n : Int) (ps : List (Int × Int)) (hlen : ps.length < 1000) (left : List Int) (hll : left.length < 1000) (out : List (Int × Int)) (i : Nat) (hi : i < ps.length) (u v : Int) (huv : ps[i] = (u, v)) (k : Nat) (hk : k < left.length) (th : Nat) (hth : th = (outT out).length) (m : Nat) (x : Int) (y : Int) (hok : m ≤ 2) (env : Env) (st : St)
    (hg : gcAV true 4 th (canon env [1, 2, 6, 7, 8, 9, 10, 11]) st = ([(1, .ptr 0 0), (2, .ptr 1 0), (6, sl 1 true (left.map I)), (7, .ptr 2 0), (8, I i), (9, .ptr 3 0), (10, I k), (11, I m)], ⟨[bkCells nl n ps, [I 0, sl 2 true []], [I left.length, outAV out], [I x, I y]], outT out⟩)) :
    ∃ x_1 en s, lim (headed pure (run L) true [1, 2, 6, 7, 8, 9, 10, 11] lp33_0 4 th) env st = some (x_1, en, s) ∧ (x_1 = .exit 4 ∧ en.get 1 = .ptr 0 0 ∧ en.get 2 = .ptr 1 0 ∧ en.get 6 = sl 1 true (left.map I) ∧ en.get 7 = .ptr 2 0 ∧ en.get 8 = I i ∧ en.get 9 = .ptr 3 0 ∧ en.get 10 = I k ∧ s = ⟨[bkCells nl n ps, [I 0, sl 2 true []], [I left.length, outAV out], [I (if m = 0 ∧ left[k] = u then (k : Int) else x), I (if m ≤ 1 ∧ left[k] = v then (k : Int) else y)]], outT out⟩) := by
  refine loop_wp (α := Nat × Int × Int) (fun ⟨m, x, y⟩ => 2 - m) (fun ⟨m, x, y⟩ => m ≤ 2) (fun ⟨m, x, y⟩ => ([(1, .ptr 0 0), (2, .ptr 1 0), (6, sl 1 true (left.map I)), (7, .ptr 2 0), (8, I i), (9, .ptr 3 0), (10, I k), (11, I m)], ⟨[bkCells nl n ps, [I 0, sl 2 true []], [I left.length, outAV out], [I x, I y]], outT out⟩)) (fun ⟨m, x, y⟩ x_1 en s => x_1 = .exit 4 ∧ en.get 1 = .ptr 0 0 ∧ en.get 2 = .ptr 1 0 ∧ en.get 6 = sl 1 true (left.map I) ∧ en.get 7 = .ptr 2 0 ∧ en.get 8 = I i ∧ en.get 9 = .ptr 3 0 ∧ en.get 10 = I k ∧ s = ⟨[bkCells nl n ps, [I 0, sl 2 true []], [I left.length, outAV out], [I (if m = 0 ∧ left[k] = u then (k : Int) else x), I (if m ≤ 1 ∧ left[k] = v then (k : Int) else y)]], outT out⟩) (fun ⟨m, x, y⟩ hok => ?_) ⟨m, x, y⟩ hok env st hg
  simp only at hok
  subst hth
  dsimp only
  have hxi := index_prs nl ps i hi
  rw [huv] at hxi
  simp only at hxi
  have hxk := index_ints true left k hk
  generalize left[k] = a at *
  have hm3 : m = 0 ∨ m = 1 ∨ m = 2 := by omega
  rcases hm3 with rfl | rfl | rfl
  · by_cases p : a = u
    · simp only [go_sem, reduceIte, Nat.reduceEqDiff, Nat.reduceAdd, Nat.reduceSub, Nat.reduceLeDiff, Nat.reduceLT, reduceCtorEq, Int.reduceLT, Int.reduceLE, Int.reduceEq, Int.reduceBEq, Int.reduceSub, Int.reduceAdd, Int.reduceMul, Int.reduceNeg, Int.reduceToNat, Nat.reduceMul, Nat.reduceBEq, index_rsl_if, setm, make_ints, condK_dec, wantK_dec, not_dec, and_dec, or_dec, seqK_ite, seqK_none, blockK_ite, blockK_none, opsK_ite, opsK_none, stepK_ite, stepK_none, bodyK_ite, bodyK_none, resK_ite, resK_none, leaveK_ite, leaveK_none, only_ite, only_none, bind_ite, gives_some, gives_none, gives_ite, then_normal, then_ret, then_exit, then_none, then_ite, Option.bind_none, Bool.not_eq_true', decide_eq_false_iff_not, Bool.and_eq_true, Bool.or_eq_true, Option.some.injEq, Int.not_lt, Int.not_le, lp33_0, hxi, hxk, p, Int.natCast_zero]
      refine ⟨(1, (k : Int), y), by simp only [go_sem, reduceIte, Nat.reduceEqDiff, Nat.reduceAdd, Nat.reduceSub, Nat.reduceLeDiff, Nat.reduceLT, reduceCtorEq, Int.reduceLT, Int.reduceLE, Int.reduceEq, Int.reduceBEq, Int.reduceSub, Int.reduceAdd, Int.reduceMul, Int.reduceNeg, Int.reduceToNat, Nat.reduceMul, Nat.reduceBEq, ren1_locm, loc_tips, locT_eq, ren1_outH, List.take_length, outAcc_snd] <;> rfl, ?_, ?_, fun x en s hq => ?_⟩
      · omega
      · simp
      · simpa [p] using hq
    · simp only [go_sem, reduceIte, Nat.reduceEqDiff, Nat.reduceAdd, Nat.reduceSub, Nat.reduceLeDiff, Nat.reduceLT, reduceCtorEq, Int.reduceLT, Int.reduceLE, Int.reduceEq, Int.reduceBEq, Int.reduceSub, Int.reduceAdd, Int.reduceMul, Int.reduceNeg, Int.reduceToNat, Nat.reduceMul, Nat.reduceBEq, index_rsl_if, setm, make_ints, condK_dec, wantK_dec, not_dec, and_dec, or_dec, seqK_ite, seqK_none, blockK_ite, blockK_none, opsK_ite, opsK_none, stepK_ite, stepK_none, bodyK_ite, bodyK_none, resK_ite, resK_none, leaveK_ite, leaveK_none, only_ite, only_none, bind_ite, gives_some, gives_none, gives_ite, then_normal, then_ret, then_exit, then_none, then_ite, Option.bind_none, Bool.not_eq_true', decide_eq_false_iff_not, Bool.and_eq_true, Bool.or_eq_true, Option.some.injEq, Int.not_lt, Int.not_le, lp33_0, hxi, hxk, p, Int.natCast_zero]
      refine ⟨(1, x, y), by simp only [go_sem, reduceIte, Nat.reduceEqDiff, Nat.reduceAdd, Nat.reduceSub, Nat.reduceLeDiff, Nat.reduceLT, reduceCtorEq, Int.reduceLT, Int.reduceLE, Int.reduceEq, Int.reduceBEq, Int.reduceSub, Int.reduceAdd, Int.reduceMul, Int.reduceNeg, Int.reduceToNat, Nat.reduceMul, Nat.reduceBEq, ren1_locm, loc_tips, locT_eq, ren1_outH, List.take_length, outAcc_snd] <;> rfl, ?_, ?_, fun x en s hq => ?_⟩
      · omega
      · simp
      · simpa [p] using hq
  · by_cases p : a = v
    · simp only [go_sem, reduceIte, Nat.reduceEqDiff, Nat.reduceAdd, Nat.reduceSub, Nat.reduceLeDiff, Nat.reduceLT, reduceCtorEq, Int.reduceLT, Int.reduceLE, Int.reduceEq, Int.reduceBEq, Int.reduceSub, Int.reduceAdd, Int.reduceMul, Int.reduceNeg, Int.reduceToNat, Nat.reduceMul, Nat.reduceBEq, index_rsl_if, setm, make_ints, condK_dec, wantK_dec, not_dec, and_dec, or_dec, seqK_ite, seqK_none, blockK_ite, blockK_none, opsK_ite, opsK_none, stepK_ite, stepK_none, bodyK_ite, bodyK_none, resK_ite, resK_none, leaveK_ite, leaveK_none, only_ite, only_none, bind_ite, gives_some, gives_none, gives_ite, then_normal, then_ret, then_exit, then_none, then_ite, Option.bind_none, Bool.not_eq_true', decide_eq_false_iff_not, Bool.and_eq_true, Bool.or_eq_true, Option.some.injEq, Int.not_lt, Int.not_le, lp33_0, hxi, hxk, p, Int.natCast_one, show Int.toNat 1 = 1 from rfl]
      refine ⟨(2, x, (k : Int)), by simp only [go_sem, reduceIte, Nat.reduceEqDiff, Nat.reduceAdd, Nat.reduceSub, Nat.reduceLeDiff, Nat.reduceLT, reduceCtorEq, Int.reduceLT, Int.reduceLE, Int.reduceEq, Int.reduceBEq, Int.reduceSub, Int.reduceAdd, Int.reduceMul, Int.reduceNeg, Int.reduceToNat, Nat.reduceMul, Nat.reduceBEq, ren1_locm, loc_tips, locT_eq, ren1_outH, List.take_length, outAcc_snd] <;> rfl, ?_, ?_, fun x en s hq => ?_⟩
      · omega
      · simp
      · simpa [p] using hq
    · simp only [go_sem, reduceIte, Nat.reduceEqDiff, Nat.reduceAdd, Nat.reduceSub, Nat.reduceLeDiff, Nat.reduceLT, reduceCtorEq, Int.reduceLT, Int.reduceLE, Int.reduceEq, Int.reduceBEq, Int.reduceSub, Int.reduceAdd, Int.reduceMul, Int.reduceNeg, Int.reduceToNat, Nat.reduceMul, Nat.reduceBEq, index_rsl_if, setm, make_ints, condK_dec, wantK_dec, not_dec, and_dec, or_dec, seqK_ite, seqK_none, blockK_ite, blockK_none, opsK_ite, opsK_none, stepK_ite, stepK_none, bodyK_ite, bodyK_none, resK_ite, resK_none, leaveK_ite, leaveK_none, only_ite, only_none, bind_ite, gives_some, gives_none, gives_ite, then_normal, then_ret, then_exit, then_none, then_ite, Option.bind_none, Bool.not_eq_true', decide_eq_false_iff_not, Bool.and_eq_true, Bool.or_eq_true, Option.some.injEq, Int.not_lt, Int.not_le, lp33_0, hxi, hxk, p, Int.natCast_one, show Int.toNat 1 = 1 from rfl]
      refine ⟨(2, x, y), by simp only [go_sem, reduceIte, Nat.reduceEqDiff, Nat.reduceAdd, Nat.reduceSub, Nat.reduceLeDiff, Nat.reduceLT, reduceCtorEq, Int.reduceLT, Int.reduceLE, Int.reduceEq, Int.reduceBEq, Int.reduceSub, Int.reduceAdd, Int.reduceMul, Int.reduceNeg, Int.reduceToNat, Nat.reduceMul, Nat.reduceBEq, ren1_locm, loc_tips, locT_eq, ren1_outH, List.take_length, outAcc_snd] <;> rfl, ?_, ?_, fun x en s hq => ?_⟩
      · omega
      · simp
      · simpa [p] using hq
  · simp only [go_sem, reduceIte, Nat.reduceEqDiff, Nat.reduceAdd, Nat.reduceSub, Nat.reduceLeDiff, Nat.reduceLT, reduceCtorEq, Int.reduceLT, Int.reduceLE, Int.reduceEq, Int.reduceBEq, Int.reduceSub, Int.reduceAdd, Int.reduceMul, Int.reduceNeg, Int.reduceToNat, Nat.reduceMul, Nat.reduceBEq, index_rsl_if, setm, make_ints, condK_dec, wantK_dec, not_dec, and_dec, or_dec, seqK_ite, seqK_none, blockK_ite, blockK_none, opsK_ite, opsK_none, stepK_ite, stepK_none, bodyK_ite, bodyK_none, resK_ite, resK_none, leaveK_ite, leaveK_none, only_ite, only_none, bind_ite, gives_some, gives_none, gives_ite, then_normal, then_ret, then_exit, then_none, then_ite, Option.bind_none, Bool.not_eq_true', decide_eq_false_iff_not, Bool.and_eq_true, Bool.or_eq_true, Option.some.injEq, Int.not_lt, Int.not_le, lp33_0, hxi, hxk, show (((2 : Nat) : Int) < 2) = False from eq_false (by omega)]

theorem loop33_1 (nl : Bool) (n : Int) (ps : List (Int × Int)) (hlen : ps.length < 1000) (left : List Int) (hll : left.length < 1000) (out : List (Int × Int)) (i : Nat) (hi : i < ps.length) (u v : Int) (huv : ps[i] = (u, v)) (th : Nat) (hth : th = (outT out).length) (k : Nat) (x : Int) (y : Int) (hok : k ≤ left.length) (env : Env) (st : St)
    (hg : gcAV true 4 th (canon env [1, 2, 6, 7, 8, 9, 10]) st = ([(1, .ptr 0 0), (2, .ptr 1 0), (6, sl 1 true (left.map I)), (7, .ptr 2 0), (8, I i), (9, .ptr 3 0), (10, I k)], ⟨[bkCells nl n ps, [I 0, sl 2 true []], [I left.length, outAV out], [I x, I y]], outT out⟩)) :
    ∃ x_1 en s, lim (headed pure (run L) true [1, 2, 6, 7, 8, 9, 10] lp33_1 4 th) env st = some (x_1, en, s) ∧ (x_1 = .exit 2 ∧ en.get 1 = .ptr 0 0 ∧ en.get 2 = .ptr 1 0 ∧ en.get 6 = sl 1 true (left.map I) ∧ en.get 7 = .ptr 2 0 ∧ en.get 8 = I i ∧ en.get 9 = .ptr 3 0 ∧ s = ⟨[bkCells nl n ps, [I 0, sl 2 true []], [I left.length, outAV out], [I (posFrom u (left.drop k) k x), I (posFrom v (left.drop k) k y)]], outT out⟩) := by
  refine loop_wp (α := Nat × Int × Int) (fun ⟨k, x, y⟩ => left.length - k) (fun ⟨k, x, y⟩ => k ≤ left.length) (fun ⟨k, x, y⟩ => ([(1, .ptr 0 0), (2, .ptr 1 0), (6, sl 1 true (left.map I)), (7, .ptr 2 0), (8, I i), (9, .ptr 3 0), (10, I k)], ⟨[bkCells nl n ps, [I 0, sl 2 true []], [I left.length, outAV out], [I x, I y]], outT out⟩)) (fun ⟨k, x, y⟩ x_1 en s => x_1 = .exit 2 ∧ en.get 1 = .ptr 0 0 ∧ en.get 2 = .ptr 1 0 ∧ en.get 6 = sl 1 true (left.map I) ∧ en.get 7 = .ptr 2 0 ∧ en.get 8 = I i ∧ en.get 9 = .ptr 3 0 ∧ s = ⟨[bkCells nl n ps, [I 0, sl 2 true []], [I left.length, outAV out], [I (posFrom u (left.drop k) k x), I (posFrom v (left.drop k) k y)]], outT out⟩) (fun ⟨k, x, y⟩ hok => ?_) ⟨k, x, y⟩ hok env st hg
  simp only at hok
  subst hth
  dsimp only
  by_cases h : k < left.length
  · have hs := succ64 k (by omega)
    have hlt : ((k : Int) < (left.length : Int)) = True := eq_true (by omega)
    have hd : left.drop k = left[k] :: left.drop (k + 1) := List.drop_eq_getElem_cons h
    simp only [go_sem, reduceIte, Nat.reduceEqDiff, Nat.reduceAdd, Nat.reduceSub, Nat.reduceLeDiff, Nat.reduceLT, reduceCtorEq, Int.reduceLT, Int.reduceLE, Int.reduceEq, Int.reduceBEq, Int.reduceSub, Int.reduceAdd, Int.reduceMul, Int.reduceNeg, Int.reduceToNat, Nat.reduceMul, Nat.reduceBEq, index_rsl_if, setm, make_ints, condK_dec, wantK_dec, not_dec, and_dec, or_dec, seqK_ite, seqK_none, blockK_ite, blockK_none, opsK_ite, opsK_none, stepK_ite, stepK_none, bodyK_ite, bodyK_none, resK_ite, resK_none, leaveK_ite, leaveK_none, only_ite, only_none, bind_ite, gives_some, gives_none, gives_ite, then_normal, then_ret, then_exit, then_none, then_ite, Option.bind_none, Bool.not_eq_true', decide_eq_false_iff_not, Bool.and_eq_true, Bool.or_eq_true, Option.some.injEq, Int.not_lt, Int.not_le, lp33_1, hlt, List.length_map]
    generalize hg : lim (headed pure (run L) true _ lp33_0 _ _) _ _ = o
    obtain ⟨x, en, s, rfl, h2⟩ : ∃ x en s, o = some (x, en, s) ∧ _ := by rw [← hg]; exact loop33_0 nl n ps hlen left hll out i hi u v huv k h _ rfl 0 x y (by omega) _ _ (by simp only [go_sem, reduceIte, Nat.reduceEqDiff, Nat.reduceAdd, Nat.reduceSub, Nat.reduceLeDiff, Nat.reduceLT, reduceCtorEq, Int.reduceLT, Int.reduceLE, Int.reduceEq, Int.reduceBEq, Int.reduceSub, Int.reduceAdd, Int.reduceMul, Int.reduceNeg, Int.reduceToNat, Nat.reduceMul, Nat.reduceBEq, ren1_outH, List.take_length, outAcc_snd, Int.natCast_zero] <;> rfl)
    clear hg
    obtain ⟨rfl, e1, e2, e6, e7, e8, e9, e10, rfl⟩ := h2
    simp only [true_and, Nat.zero_le]
    rw [hd]
    simp only [posFrom]
    generalize (if left[k] = u then (k : Int) else x) = x2
    generalize (if left[k] = v then (k : Int) else y) = y2
    simp only [go_sem, reduceIte, Nat.reduceEqDiff, Nat.reduceAdd, Nat.reduceSub, Nat.reduceLeDiff, Nat.reduceLT, reduceCtorEq, Int.reduceLT, Int.reduceLE, Int.reduceEq, Int.reduceBEq, Int.reduceSub, Int.reduceAdd, Int.reduceMul, Int.reduceNeg, Int.reduceToNat, Nat.reduceMul, Nat.reduceBEq, index_rsl_if, setm, make_ints, condK_dec, wantK_dec, not_dec, and_dec, or_dec, seqK_ite, seqK_none, blockK_ite, blockK_none, opsK_ite, opsK_none, stepK_ite, stepK_none, bodyK_ite, bodyK_none, resK_ite, resK_none, leaveK_ite, leaveK_none, only_ite, only_none, bind_ite, gives_some, gives_none, gives_ite, then_normal, then_ret, then_exit, then_none, then_ite, Option.bind_none, Bool.not_eq_true', decide_eq_false_iff_not, Bool.and_eq_true, Bool.or_eq_true, Option.some.injEq, Int.not_lt, Int.not_le, lp33_1, e1, e2, e6, e7, e8, e9, e10, hs]
    refine ⟨(k + 1, x2, y2), by simp only [go_sem, reduceIte, Nat.reduceEqDiff, Nat.reduceAdd, Nat.reduceSub, Nat.reduceLeDiff, Nat.reduceLT, reduceCtorEq, Int.reduceLT, Int.reduceLE, Int.reduceEq, Int.reduceBEq, Int.reduceSub, Int.reduceAdd, Int.reduceMul, Int.reduceNeg, Int.reduceToNat, Nat.reduceMul, Nat.reduceBEq, ren1_locm, loc_tips, locT_eq, ren1_outH, List.take_length, outAcc_snd, e1, e2, e6, e7, e8, e9] <;> rfl, ?_, ?_, fun x en s hq => ?_⟩
    · omega
    · simp only; omega
    · exact hq
  · have hd : left.drop k = [] := List.drop_eq_nil_of_le (by omega)
    have hlt : ((k : Int) < (left.length : Int)) = False := eq_false (by omega)
    simp only [go_sem, reduceIte, Nat.reduceEqDiff, Nat.reduceAdd, Nat.reduceSub, Nat.reduceLeDiff, Nat.reduceLT, reduceCtorEq, Int.reduceLT, Int.reduceLE, Int.reduceEq, Int.reduceBEq, Int.reduceSub, Int.reduceAdd, Int.reduceMul, Int.reduceNeg, Int.reduceToNat, Nat.reduceMul, Nat.reduceBEq, index_rsl_if, setm, make_ints, condK_dec, wantK_dec, not_dec, and_dec, or_dec, seqK_ite, seqK_none, blockK_ite, blockK_none, opsK_ite, opsK_none, stepK_ite, stepK_none, bodyK_ite, bodyK_none, resK_ite, resK_none, leaveK_ite, leaveK_none, only_ite, only_none, bind_ite, gives_some, gives_none, gives_ite, then_normal, then_ret, then_exit, then_none, then_ite, Option.bind_none, Bool.not_eq_true', decide_eq_false_iff_not, Bool.and_eq_true, Bool.or_eq_true, Option.some.injEq, Int.not_lt, Int.not_le, lp33_1, hlt, List.length_map]
    rw [hd]; rfl

theorem loop33_2 (nl : Bool) (n : Int) (ps : List (Int × Int)) (hlen : ps.length < 1000) (left : List Int) (hll : left.length < 1000) (hp : left.Pairwise (· < ·)) (i : Nat) (out : List (Int × Int)) (hok : i ≤ ps.length ∧ out.length ≤ i) (env : Env) (st : St)
    (hg : gcAV true 3 0 (canon env [1, 2, 6, 7, 8]) st = ([(1, .ptr 0 0), (2, .ptr 1 0), (6, sl 1 true (left.map I)), (7, .ptr 2 0), (8, I i)], ⟨[bkCells nl n ps, [I 0, sl 2 true []], [I left.length, outAV out]], outT out⟩)) :
    ∃ x_1 en s, lim (headed pure (run L) true [1, 2, 6, 7, 8] lp33_2 3 0) env st = some (x_1, en, s) ∧ (x_1 = .exit 0 ∧ en.get 2 = .ptr 1 0 ∧ en.get 6 = sl 1 true (left.map I) ∧ en.get 7 = .ptr 2 0 ∧ s = ⟨[bkCells nl n ps, [I 0, sl 2 true []], [I left.length, outAV (out ++ restV left (ps.drop i))]], outT (out ++ restV left (ps.drop i))⟩) := by
  refine loop_wp (α := Nat × List (Int × Int)) (fun ⟨i, out⟩ => ps.length - i) (fun ⟨i, out⟩ => i ≤ ps.length ∧ out.length ≤ i) (fun ⟨i, out⟩ => ([(1, .ptr 0 0), (2, .ptr 1 0), (6, sl 1 true (left.map I)), (7, .ptr 2 0), (8, I i)], ⟨[bkCells nl n ps, [I 0, sl 2 true []], [I left.length, outAV out]], outT out⟩)) (fun ⟨i, out⟩ x_1 en s => x_1 = .exit 0 ∧ en.get 2 = .ptr 1 0 ∧ en.get 6 = sl 1 true (left.map I) ∧ en.get 7 = .ptr 2 0 ∧ s = ⟨[bkCells nl n ps, [I 0, sl 2 true []], [I left.length, outAV (out ++ restV left (ps.drop i))]], outT (out ++ restV left (ps.drop i))⟩) (fun ⟨i, out⟩ hok => ?_) ⟨i, out⟩ hok env st hg
  simp only at hok
  obtain ⟨h1, h2⟩ := hok
  dsimp only
  by_cases h : i < ps.length
  · have hs := succ64 i (by omega)
    have hd : ps.drop i = ps[i] :: ps.drop (i + 1) := List.drop_eq_getElem_cons h
    have hlt : ((i : Int) < (ps.length : Int)) = True := eq_true (by omega)
    rw [hd]
    generalize hc : ps[i] = c
    obtain ⟨u, v⟩ := c
    have hpu := posFrom_eq (a := u) 0 (-1) hp
    have hpv := posFrom_eq (a := v) 0 (-1) hp
    rw [Nat.zero_add] at hpu hpv
    simp only [go_sem, reduceIte, Nat.reduceEqDiff, Nat.reduceAdd, Nat.reduceSub, Nat.reduceLeDiff, Nat.reduceLT, reduceCtorEq, Int.reduceLT, Int.reduceLE, Int.reduceEq, Int.reduceBEq, Int.reduceSub, Int.reduceAdd, Int.reduceMul, Int.reduceNeg, Int.reduceToNat, Nat.reduceMul, Nat.reduceBEq, index_rsl_if, setm, make_ints, condK_dec, wantK_dec, not_dec, and_dec, or_dec, seqK_ite, seqK_none, blockK_ite, blockK_none, opsK_ite, opsK_none, stepK_ite, stepK_none, bodyK_ite, bodyK_none, resK_ite, resK_none, leaveK_ite, leaveK_none, only_ite, only_none, bind_ite, gives_some, gives_none, gives_ite, then_normal, then_ret, then_exit, then_none, then_ite, Option.bind_none, Bool.not_eq_true', decide_eq_false_iff_not, Bool.and_eq_true, Bool.or_eq_true, Option.some.injEq, Int.not_lt, Int.not_le, lp33_2, hlt, List.length_map]
    generalize hg : lim (headed pure (run L) true _ lp33_1 _ _) _ _ = o
    obtain ⟨x, en, s, rfl, h2⟩ : ∃ x en s, o = some (x, en, s) ∧ _ := by rw [← hg]; exact loop33_1 nl n ps hlen left hll out i h u v hc _ rfl 0 (-1) (-1) (by omega) _ _ (by simp only [go_sem, reduceIte, Nat.reduceEqDiff, Nat.reduceAdd, Nat.reduceSub, Nat.reduceLeDiff, Nat.reduceLT, reduceCtorEq, Int.reduceLT, Int.reduceLE, Int.reduceEq, Int.reduceBEq, Int.reduceSub, Int.reduceAdd, Int.reduceMul, Int.reduceNeg, Int.reduceToNat, Nat.reduceMul, Nat.reduceBEq, ren1_outH, List.take_length, outAcc_snd, Int.natCast_zero] <;> rfl)
    clear hg
    obtain ⟨rfl, e1, e2, e6, e7, e8, e9, rfl⟩ := h2
    rw [List.drop_zero, hpu, hpv]
    by_cases p1 : u ∈ left
    · rw [if_pos p1]
      have q1 : ((0 : Int) ≤ (cnt left u : Int)) = True := eq_true (by omega)
      by_cases p2 : v ∈ left
      · rw [if_pos p2]
        have q2 : ((0 : Int) ≤ (cnt left v : Int)) = True := eq_true (by omega)
        have e : restV left ((u, v) :: ps.drop (i + 1)) = ((cnt left u : Int), (cnt left v : Int)) :: restV left (ps.drop (i + 1)) := by simp [restV, p1, p2]
        rw [e]
        have happ := fun s => append_out out (cnt left u) (cnt left v) s (by omega)
        simp only [go_sem, reduceIte, Nat.reduceEqDiff, Nat.reduceAdd, Nat.reduceSub, Nat.reduceLeDiff, Nat.reduceLT, reduceCtorEq, Int.reduceLT, Int.reduceLE, Int.reduceEq, Int.reduceBEq, Int.reduceSub, Int.reduceAdd, Int.reduceMul, Int.reduceNeg, Int.reduceToNat, Nat.reduceMul, Nat.reduceBEq, index_rsl_if, setm, make_ints, condK_dec, wantK_dec, not_dec, and_dec, or_dec, seqK_ite, seqK_none, blockK_ite, blockK_none, opsK_ite, opsK_none, stepK_ite, stepK_none, bodyK_ite, bodyK_none, resK_ite, resK_none, leaveK_ite, leaveK_none, only_ite, only_none, bind_ite, gives_some, gives_none, gives_ite, then_normal, then_ret, then_exit, then_none, then_ite, Option.bind_none, Bool.not_eq_true', decide_eq_false_iff_not, Bool.and_eq_true, Bool.or_eq_true, Option.some.injEq, Int.not_lt, Int.not_le, lp33_2, e1, e2, e6, e7, e8, e9, hs, q1, q2, happ]
        refine ⟨(i + 1, out ++ [((cnt left u : Int), (cnt left v : Int))]), by simp only [go_sem, reduceIte, Nat.reduceEqDiff, Nat.reduceAdd, Nat.reduceSub, Nat.reduceLeDiff, Nat.reduceLT, reduceCtorEq, Int.reduceLT, Int.reduceLE, Int.reduceEq, Int.reduceBEq, Int.reduceSub, Int.reduceAdd, Int.reduceMul, Int.reduceNeg, Int.reduceToNat, Nat.reduceMul, Nat.reduceBEq, ren1_locm, loc_tips, locT_eq, ren1_out, outAcc_snd, e1, e2, e6, e7, e8, e9] <;> rfl, ?_, ?_, fun x en s hq => ?_⟩
        · dsimp only; exact ⟨by omega, by simp; omega⟩
        · simp only; omega
        · simpa using hq
      · rw [if_neg p2]
        have e : restV left ((u, v) :: ps.drop (i + 1)) = restV left (ps.drop (i + 1)) := by simp [restV, p2]
        rw [e]
        simp only [go_sem, reduceIte, Nat.reduceEqDiff, Nat.reduceAdd, Nat.reduceSub, Nat.reduceLeDiff, Nat.reduceLT, reduceCtorEq, Int.reduceLT, Int.reduceLE, Int.reduceEq, Int.reduceBEq, Int.reduceSub, Int.reduceAdd, Int.reduceMul, Int.reduceNeg, Int.reduceToNat, Nat.reduceMul, Nat.reduceBEq, index_rsl_if, setm, make_ints, condK_dec, wantK_dec, not_dec, and_dec, or_dec, seqK_ite, seqK_none, blockK_ite, blockK_none, opsK_ite, opsK_none, stepK_ite, stepK_none, bodyK_ite, bodyK_none, resK_ite, resK_none, leaveK_ite, leaveK_none, only_ite, only_none, bind_ite, gives_some, gives_none, gives_ite, then_normal, then_ret, then_exit, then_none, then_ite, Option.bind_none, Bool.not_eq_true', decide_eq_false_iff_not, Bool.and_eq_true, Bool.or_eq_true, Option.some.injEq, Int.not_lt, Int.not_le, lp33_2, e1, e2, e6, e7, e8, e9, hs, q1]
        refine ⟨(i + 1, out), by simp only [go_sem, reduceIte, Nat.reduceEqDiff, Nat.reduceAdd, Nat.reduceSub, Nat.reduceLeDiff, Nat.reduceLT, reduceCtorEq, Int.reduceLT, Int.reduceLE, Int.reduceEq, Int.reduceBEq, Int.reduceSub, Int.reduceAdd, Int.reduceMul, Int.reduceNeg, Int.reduceToNat, Nat.reduceMul, Nat.reduceBEq, ren1_locm, loc_tips, locT_eq, ren1_out, outAcc_snd, e1, e2, e6, e7, e8, e9] <;> rfl, ?_, ?_, fun x en s hq => ?_⟩
        · dsimp only; exact ⟨by omega, by omega⟩
        · simp only; omega
        · exact hq
    · rw [if_neg p1]
      have e : restV left ((u, v) :: ps.drop (i + 1)) = restV left (ps.drop (i + 1)) := by simp [restV, p1]
      rw [e]
      generalize (if v ∈ left then ((cnt left v : Nat) : Int) else -1) = y2
      simp only [go_sem, reduceIte, Nat.reduceEqDiff, Nat.reduceAdd, Nat.reduceSub, Nat.reduceLeDiff, Nat.reduceLT, reduceCtorEq, Int.reduceLT, Int.reduceLE, Int.reduceEq, Int.reduceBEq, Int.reduceSub, Int.reduceAdd, Int.reduceMul, Int.reduceNeg, Int.reduceToNat, Nat.reduceMul, Nat.reduceBEq, index_rsl_if, setm, make_ints, condK_dec, wantK_dec, not_dec, and_dec, or_dec, seqK_ite, seqK_none, blockK_ite, blockK_none, opsK_ite, opsK_none, stepK_ite, stepK_none, bodyK_ite, bodyK_none, resK_ite, resK_none, leaveK_ite, leaveK_none, only_ite, only_none, bind_ite, gives_some, gives_none, gives_ite, then_normal, then_ret, then_exit, then_none, then_ite, Option.bind_none, Bool.not_eq_true', decide_eq_false_iff_not, Bool.and_eq_true, Bool.or_eq_true, Option.some.injEq, Int.not_lt, Int.not_le, lp33_2, e1, e2, e6, e7, e8, e9, hs]
      refine ⟨(i + 1, out), by simp only [go_sem, reduceIte, Nat.reduceEqDiff, Nat.reduceAdd, Nat.reduceSub, Nat.reduceLeDiff, Nat.reduceLT, reduceCtorEq, Int.reduceLT, Int.reduceLE, Int.reduceEq, Int.reduceBEq, Int.reduceSub, Int.reduceAdd, Int.reduceMul, Int.reduceNeg, Int.reduceToNat, Nat.reduceMul, Nat.reduceBEq, ren1_locm, loc_tips, locT_eq, ren1_out, outAcc_snd, e1, e2, e6, e7, e8, e9] <;> rfl, ?_, ?_, fun x en s hq => ?_⟩
      · dsimp only; exact ⟨by omega, by omega⟩
      · simp only; omega
      · exact hq
  · have hd : ps.drop i = [] := List.drop_eq_nil_of_le (by omega)
    have hlt : ((i : Int) < (ps.length : Int)) = False := eq_false (by omega)
    simp only [go_sem, reduceIte, Nat.reduceEqDiff, Nat.reduceAdd, Nat.reduceSub, Nat.reduceLeDiff, Nat.reduceLT, reduceCtorEq, Int.reduceLT, Int.reduceLE, Int.reduceEq, Int.reduceBEq, Int.reduceSub, Int.reduceAdd, Int.reduceMul, Int.reduceNeg, Int.reduceToNat, Nat.reduceMul, Nat.reduceBEq, index_rsl_if, setm, make_ints, condK_dec, wantK_dec, not_dec, and_dec, or_dec, seqK_ite, seqK_none, blockK_ite, blockK_none, opsK_ite, opsK_none, stepK_ite, stepK_none, bodyK_ite, bodyK_none, resK_ite, resK_none, leaveK_ite, leaveK_none, only_ite, only_none, bind_ite, gives_some, gives_none, gives_ite, then_normal, then_ret, then_exit, then_none, then_ite, Option.bind_none, Bool.not_eq_true', decide_eq_false_iff_not, Bool.and_eq_true, Bool.or_eq_true, Option.some.injEq, Int.not_lt, Int.not_le, lp33_2, hlt, List.length_map]
    rw [hd]; simp [restV]

theorem c33 (nl : Bool) (n : Int) (ps : List (Int × Int)) (st : St) :
    run L 33 [bkAV nl n ps] st = some (.tup [bkAV true (leftV n ps).length (restP n ps), sl 1 true ((leftV n ps).map I), I (chk n ps)], st) := by
  rw [run_pure (fn := ir33) rfl rfl]
  have h23 := fun st => c23 nl n ps st
  have hlen := leftV_len n ps
  by_cases h : chk n ps = 0
  · obtain ⟨h1, h2, h3, h4, h5⟩ := chk_zero h
    have e1 : restP n ps = restV (leftV n ps) ps := by unfold restP; rw [if_pos h]
    have e2 : leftV n ps = withL 1 (halvesV n.toNat ps) 0 := by unfold leftV; rw [if_pos h]
    have hp : (leftV n ps).Pairwise (· < ·) := by rw [e2]; exact (withL_sorted 1 _ 0).1
    obtain ⟨k, rfl⟩ := Int.eq_ofNat_of_zero_le (show 0 ≤ n by omega)
    obtain ⟨h73, hx⟩ := cheap_head nl k ps (by omega) (by omega) h3 h4 h5
    have hl := (halvesV_ok (n := k) (by omega) (by omega) h4 h5).1
    have h74 := fun st => c74 true (halvesV k ps) (by omega) 1 st
    simp only [Int.toNat_natCast] at e2
    rw [← e2] at h74
    rw [e1]
    generalize leftV (k : Int) ps = left at *
    simp only [ir33, go_sem, reduceIte, Nat.reduceEqDiff, Nat.reduceAdd, Nat.reduceSub, Nat.reduceLeDiff, Nat.reduceLT, reduceCtorEq, Int.reduceLT, Int.reduceLE, Int.reduceEq, Int.reduceBEq, Int.reduceSub, Int.reduceAdd, Int.reduceMul, Int.reduceNeg, Int.reduceToNat, Nat.reduceMul, Nat.reduceBEq, h23, h, h73, hx, h74, List.length_map]
    generalize hg : lim (headed pure (run L) true _ lp33_2 _ _) _ _ = o
    obtain ⟨x, en, s, rfl, h2⟩ : ∃ x en s, o = some (x, en, s) ∧ _ := by rw [← hg]; exact loop33_2 nl k ps (by omega) left (by omega) hp 0 [] ⟨by omega, by simp⟩ _ _ (by simp only [go_sem, reduceIte, Nat.reduceEqDiff, Nat.reduceAdd, Nat.reduceSub, Nat.reduceLeDiff, Nat.reduceLT, reduceCtorEq, Int.reduceLT, Int.reduceLE, Int.reduceEq, Int.reduceBEq, Int.reduceSub, Int.reduceAdd, Int.reduceMul, Int.reduceNeg, Int.reduceToNat, Nat.reduceMul, Nat.reduceBEq, out_start, outT_nil, ren1_out, outAcc_snd, Int.natCast_zero] <;> rfl)
    clear hg
    obtain ⟨rfl, g2, g6, g7, rfl⟩ := h2
    rw [List.drop_zero, List.nil_append]
    simp only [go_sem, reduceIte, Nat.reduceEqDiff, Nat.reduceAdd, Nat.reduceSub, Nat.reduceLeDiff, Nat.reduceLT, reduceCtorEq, Int.reduceLT, Int.reduceLE, Int.reduceEq, Int.reduceBEq, Int.reduceSub, Int.reduceAdd, Int.reduceMul, Int.reduceNeg, Int.reduceToNat, Nat.reduceMul, Nat.reduceBEq, g2, g6, g7]
  · have e1 : restP n ps = [] := by unfold restP; rw [if_neg h]
    have e2 : leftV n ps = [] := by unfold leftV; rw [if_neg h]
    rw [e1, e2]
    simp only [ir33, go_sem, reduceIte, Nat.reduceEqDiff, Nat.reduceAdd, Nat.reduceSub, Nat.reduceLeDiff, Nat.reduceLT, reduceCtorEq, Int.reduceLT, Int.reduceLE, Int.reduceEq, Int.reduceBEq, Int.reduceSub, Int.reduceAdd, Int.reduceMul, Int.reduceNeg, Int.reduceToNat, Nat.reduceMul, Nat.reduceBEq, h23, h]
    rfl
end Go.Proofs.YtpmbfgogpcjdlaaDoor.Vm

namespace Go.Proofs.YtpmbfgogpcjdlaaDoor.Vm
open Go Go.Ev Go.ChangeShapes Go.WideShapes Go.ChangeAt Go.RowKit
set_option maxRecDepth 100000
attribute [local go_sem] cells_any storable_any ren1_any shaped_ptr cells_ptr storable_ptr ren1_ptr shaped_eptr cells_eptr storable_eptr ren1_eptr shaped_rsl cells_rsl storable_rsl ren1_rsl shaped_int cells_int storable_int ren1_int shaped_bool cells_bool storable_bool ren1_bool shaped_nils cells_nils storable_nils ren1_nils shaped_lst cells_lst storable_lst shaped_fn cells_fn storable_fn ren1_fn shaped_ifc cells_ifc storable_ifc ren1_ifc shaped_agg cells_agg storable_agg ren1_agg shaped_tup cells_tup storable_tup ren1_tup shaped_nif cells_nif storable_nif ren1_nif ren1_lany ren1_lfull ren1_lown len_lst len_rsl len_nil load_ptr load_eptr isRsl_lst isRsl_nil isRsl_rsl elems_nil elems_lst elems_sl isRsl_sl body_eq bodyK_normal bodyK_ret resK_some leaveK_some only_some code_skip code_exit code_ret code_ops code_seq code_cond code_block seqK_normal seqK_ret seqK_exit condK_true condK_false blockK_normal blockK_ret blockK_exit opsK_some ops_nil ops_cons wantK_true wantK_false stepK_some pubs pub pub_sl params okRef_loc storable_loc shaped_loc cells_loc isRsl_loc elems_loc len_loc untips untip untip_sl wantedAV setElems withO isAgg_v isAgg_agg isAgg_lst isAgg_ptr isAgg_fn isAgg_ifc isAgg_rsl isAgg_sl isAgg_loc List.replicate_succ List.replicate_zero opAV valAV aval avals ofVal Env.get setD canon gcAV renAll renEnv renStore renCells ren1_sl cutSt okEnv okStore okRefs okRef okRef_sl bin_int bin_bool bin_lst bin_rsl bin_nil bin_agg cellsEq cellEq isShift intOp boolOp min_int max_int beq_int bne resAV tupAV leave_eq fin_sl fin_loc fins fin_v fin_lst fin_agg fin_tup fin_fn storeAV readCells putCells cells_sl shaped_sl storable_sl fieldAddrAV len_sl goI List.getElem?_cons_zero List.getElem?_cons_succ List.getElem?_nil Option.bind_some Option.map_some List.length_cons List.length_nil List.all_cons List.all_nil Bool.and_true Bool.true_and Bool.and_false Bool.false_and and_true true_and and_false false_and Bool.false_eq_true List.set_cons_zero List.set_cons_succ List.append_nil List.nil_append List.cons_append List.take_zero List.take_succ_cons List.take_nil List.drop_zero List.drop_succ_cons List.map_cons List.map_nil decide_true decide_false beq_self_eq_true Bool.not_true Bool.not_false or_true true_or or_false false_or Nat.zero_add Nat.add_zero Nat.le_refl Nat.lt_irrefl decide_eq_true_eq eq_self_iff_true not_true_eq_false not_false_eq_true List.getD_cons_zero code_loop Nat.zero_le Nat.not_lt_zero Bool.true_beq Bool.false_beq beq_true beq_false ge_iff_le gt_iff_lt Lpure pus Option.map_none assert_ifc assert_nil idxA_ptr idxA_eptr idxV_agg Int.cast_ofNat_Int Nat.mul_one Nat.zero_mul Int.toNat_natCast Int.toNat_zero setParts withO2 hasKey eqnil_sl nenil_sl eqnil_loc nenil_loc map_nil_iff okRefs_ints renCells_ints

/-- A list of numbers. -/
theorem sh_ints {d : Nat} {t e : TypeId} {a : AV} (ht : Tryd.prog.underlying t = some (.slice e)) (he : Tryd.prog.underlying e = some (.int .i64)) (hc : Tryd.prog.cellsOf e = 1) (h : Sh Tryd.prog (d + 2) t [a]) :
    ∃ (nl : Bool) (zs : List Int), a = sl 1 nl (zs.map I) ∧ (zs.length : Int) ≤ maxLen ∧ ∀ n ∈ zs, (Lit.int .i64 n).wf = true := by
  rcases sh_slice ht h with rfl | ⟨xs, rfl, hl, hx⟩
  · exact ⟨true, [], rfl, by simp, by simp⟩
  · obtain ⟨zs, rfl, h2, h3⟩ := map_of_forall (f := I) (R := fun n => (Lit.int .i64 n).wf = true) xs (fun x hm => sh_int he (hx x hm))
    exact ⟨false, zs, by rw [hc, ← sl_false], by simp at hl; omega, h3⟩
/-- A list of pairs. -/
theorem sh_pair {d : Nat} {t : TypeId} {a : AV} (hag : aggB Tryd.prog t = true) (h : ∀ cs, Sh Tryd.prog d t cs → ∃ x y, cs = [I x, I y] ∧ (Lit.int .i64 x).wf = true ∧ (Lit.int .i64 y).wf = true) (ha : ShV Tryd.prog d t a) :
    ∃ p : Int × Int, a = prAV p ∧ (Lit.int .i64 p.1).wf = true ∧ (Lit.int .i64 p.2).wf = true := by
  unfold ShV at ha
  rw [if_pos hag] at ha
  obtain ⟨cs, rfl, hs⟩ := ha
  obtain ⟨x, y, rfl, h1, h2⟩ := h cs hs
  exact ⟨(x, y), rfl, h1, h2⟩
theorem sh_pairs {d : Nat} {t e : TypeId} {a : AV} (ht : Tryd.prog.underlying t = some (.slice e)) (hag : aggB Tryd.prog e = true) (hc : Tryd.prog.cellsOf e = 2)
    (hp : ∀ cs, Sh Tryd.prog d e cs → ∃ x y, cs = [I x, I y] ∧ (Lit.int .i64 x).wf = true ∧ (Lit.int .i64 y).wf = true) (h : Sh Tryd.prog (d + 1) t [a]) :
    ∃ (nl : Bool) (ps : List (Int × Int)), a = sl 2 nl (ps.map prAV) ∧ (ps.length : Int) ≤ maxLen ∧ ∀ p ∈ ps, (Lit.int .i64 p.1).wf = true ∧ (Lit.int .i64 p.2).wf = true := by
  rcases sh_slice ht h with rfl | ⟨xs, rfl, hl, hx⟩
  · exact ⟨true, [], rfl, by simp, by simp⟩
  · obtain ⟨zs, rfl, h2, h3⟩ := map_of_forall (f := prAV) (R := fun p => (Lit.int .i64 p.1).wf = true ∧ (Lit.int .i64 p.2).wf = true) xs (fun x hm => sh_pair hag hp (hx x hm))
    exact ⟨false, zs, by rw [hc, ← sl_false], by simp at hl; omega, h3⟩
theorem len_two {α : Type} {l : List α} (h : l.length = 2) : ∃ a b, l = [a, b] := by
  match l, h with
  | [a, b], _ => exact ⟨a, b, rfl⟩

theorem cells3 : Tryd.prog.cellsOf 3 = 1 := by kernel_rfl
theorem cells22 : Tryd.prog.cellsOf 22 = 1 := by kernel_rfl
theorem cells24 : Tryd.prog.cellsOf 24 = 2 := by kernel_rfl
theorem cells63 : Tryd.prog.cellsOf 63 = 2 := by kernel_rfl

theorem one_int {d : Nat} {a : AV} (h : Sh Tryd.prog (d + 1) 3 [a]) : ∃ n, a = I n ∧ (Lit.int .i64 n).wf = true := by
  simp only [Sh, Tryd.underlying3, List.cons.injEq, and_true] at h
  exact h
theorem sh_two {d : Nat} (cs : List AV) (h : Sh Tryd.prog (d + 2) 63 cs) : ∃ x y, cs = [I x, I y] ∧ (Lit.int .i64 x).wf = true ∧ (Lit.int .i64 y).wf = true := by
  unfold Sh at h
  simp only [Tryd.underlying63, cells63, cells3] at h
  obtain ⟨h1, h2⟩ := h
  obtain ⟨a, b, rfl⟩ := len_two h1
  have f0 := h2 0 (by omega)
  have f1 := h2 1 (by omega)
  simp only [Nat.zero_mul, Nat.one_mul, List.drop_zero, List.take_succ_cons, List.take_zero, List.drop_succ_cons] at f0 f1
  obtain ⟨x, rfl, hx⟩ := one_int f0
  obtain ⟨y, rfl, hy⟩ := one_int f1
  exact ⟨x, y, rfl, hx, hy⟩

/-- A book. -/
theorem sh_book {a : AV} (h : ShV Tryd.prog 8 24 a) : ∃ (nl : Bool) (n : Int) (ps : List (Int × Int)), a = bkAV nl n ps ∧ (ps.length : Int) ≤ maxLen ∧ (∀ p ∈ ps, (Lit.int .i64 p.1).wf = true ∧ (Lit.int .i64 p.2).wf = true) ∧ (Lit.int .i64 n).wf = true := by
  unfold ShV at h
  rw [if_pos (by unfold aggB; rw [Tryd.underlying24])] at h
  obtain ⟨cs, rfl, hs⟩ := h
  unfold Sh at hs
  simp only [Tryd.underlying24, cells24] at hs
  obtain ⟨h1, h2⟩ := hs
  obtain ⟨a, b, rfl⟩ := len_two h1
  have f0 := h2 0 _ rfl
  have f1 := h2 1 _ rfl
  simp only [List.getElem_toArray, List.getElem_cons_zero, List.getElem_cons_succ, cells3, cells22, List.drop_zero, List.take_succ_cons, List.take_zero, List.drop_succ_cons] at f0 f1
  obtain ⟨x, rfl, hx⟩ := one_int f0
  obtain ⟨nl, ps, rfl, hl, hp⟩ := sh_pairs Tryd.underlying22 (by unfold aggB; rw [Tryd.underlying63]) cells63 (fun cs h => sh_two cs h) f1
  exact ⟨nl, x, ps, rfl, hl, hp, hx⟩
theorem sh_list {a : AV} (h : ShV Tryd.prog 8 25 a) : ∃ (nl : Bool) (zs : List Int), a = sl 1 nl (zs.map I) ∧ (zs.length : Int) ≤ maxLen ∧ ∀ n ∈ zs, (Lit.int .i64 n).wf = true := by
  unfold ShV at h
  rw [if_neg (by unfold aggB; rw [Tryd.underlying25]; simp)] at h
  exact sh_ints Tryd.underlying25 Tryd.underlying3 cells3 h
end Go.Proofs.YtpmbfgogpcjdlaaDoor.Vm

namespace Go.Proofs.YtpmbfgogpcjdlaaDoor.Vm
open Go Go.Ev
set_option maxRecDepth 100000
attribute [local go_sem] cells_any storable_any ren1_any shaped_ptr cells_ptr storable_ptr ren1_ptr shaped_eptr cells_eptr storable_eptr ren1_eptr shaped_rsl cells_rsl storable_rsl ren1_rsl shaped_int cells_int storable_int ren1_int shaped_bool cells_bool storable_bool ren1_bool shaped_nils cells_nils storable_nils ren1_nils shaped_lst cells_lst storable_lst shaped_fn cells_fn storable_fn ren1_fn shaped_ifc cells_ifc storable_ifc ren1_ifc shaped_agg cells_agg storable_agg ren1_agg shaped_tup cells_tup storable_tup ren1_tup shaped_nif cells_nif storable_nif ren1_nif ren1_lany ren1_lfull ren1_lown len_lst len_rsl len_nil load_ptr load_eptr isRsl_lst isRsl_nil isRsl_rsl elems_nil elems_lst elems_sl isRsl_sl body_eq bodyK_normal bodyK_ret resK_some leaveK_some only_some code_skip code_exit code_ret code_ops code_seq code_cond code_block seqK_normal seqK_ret seqK_exit condK_true condK_false blockK_normal blockK_ret blockK_exit opsK_some ops_nil ops_cons wantK_true wantK_false stepK_some pubs pub pub_sl params okRef_loc storable_loc shaped_loc cells_loc isRsl_loc elems_loc len_loc untips untip untip_sl wantedAV setElems withO isAgg_v isAgg_agg isAgg_lst isAgg_ptr isAgg_fn isAgg_ifc isAgg_rsl isAgg_sl isAgg_loc List.replicate_succ List.replicate_zero opAV valAV aval avals ofVal Env.get setD canon gcAV renAll renEnv renStore renCells ren1_sl cutSt okEnv okStore okRefs okRef okRef_sl bin_int bin_bool bin_lst bin_rsl bin_nil bin_agg cellsEq cellEq isShift intOp boolOp min_int max_int beq_int bne resAV tupAV leave_eq fin_sl fin_loc fins fin_v fin_lst fin_agg fin_tup fin_fn storeAV readCells putCells cells_sl shaped_sl storable_sl fieldAddrAV len_sl goI List.getElem?_cons_zero List.getElem?_cons_succ List.getElem?_nil Option.bind_some Option.map_some List.length_cons List.length_nil List.all_cons List.all_nil Bool.and_true Bool.true_and Bool.and_false Bool.false_and and_true true_and and_false false_and Bool.false_eq_true List.set_cons_zero List.set_cons_succ List.append_nil List.nil_append List.cons_append List.take_zero List.take_succ_cons List.take_nil List.drop_zero List.drop_succ_cons List.map_cons List.map_nil decide_true decide_false beq_self_eq_true Bool.not_true Bool.not_false or_true true_or or_false false_or Nat.zero_add Nat.add_zero Nat.le_refl Nat.lt_irrefl decide_eq_true_eq eq_self_iff_true not_true_eq_false not_false_eq_true List.getD_cons_zero code_loop Nat.zero_le Nat.not_lt_zero Bool.true_beq Bool.false_beq beq_true beq_false ge_iff_le gt_iff_lt Lpure pus Option.map_none assert_ifc assert_nil idxA_ptr idxA_eptr idxV_agg Int.cast_ofNat_Int Nat.mul_one Nat.zero_mul Int.toNat_natCast Int.toNat_zero setParts withO2 hasKey eqnil_sl nenil_sl eqnil_loc nenil_loc map_nil_iff okRefs_ints renCells_ints

theorem firstV_len (n : Int) (ps : List (Int × Int)) : (firstV n ps).1.length ≤ 7 := by
  unfold firstV
  split
  · next h =>
    obtain ⟨h1, h2, h3, h4, h5⟩ := chk_zero h
    obtain ⟨k, rfl⟩ := Int.eq_ofNat_of_zero_le (show 0 ≤ n by omega)
    obtain ⟨g1, g2, g3⟩ := short_spec (n := k) (by omega) h4 h5
    rw [List.mem_map] at g1
    obtain ⟨l, g1, g4⟩ := g1
    have := withL_len 2 l 0
    have h6 := (cheap_in g1).1
    simp only [Int.toNat_natCast]
    rw [← g4]; unfold twos; omega
  · simp

theorem c3 (nl n2 : Bool) (n : Int) (ps : List (Int × Int)) (l : List Int) (st : St) : run L 3 [bkAV nl n ps, sl 1 n2 (l.map I)] st = some (B true, st) := by
  rw [run_pure (fn := ir3) rfl rfl]
  by_cases p1 : 40 < ps.length
  · have q1 : ((40 : Int) < (ps.length : Int)) = True := eq_true (by omega)
    simp only [ir3, go_sem, reduceIte, Nat.reduceEqDiff, Nat.reduceAdd, Nat.reduceSub, Nat.reduceLeDiff, Nat.reduceLT, reduceCtorEq, Int.reduceLT, Int.reduceLE, Int.reduceEq, Int.reduceBEq, Int.reduceSub, Int.reduceAdd, Int.reduceMul, Int.reduceNeg, Int.reduceToNat, Nat.reduceMul, Nat.reduceBEq, List.length_map, q1, c16]
  · have q1 : ((40 : Int) < (ps.length : Int)) = False := eq_false (by omega)
    by_cases p2 : 40 < l.length
    · have q2 : ((40 : Int) < (l.length : Int)) = True := eq_true (by omega)
      simp only [ir3, go_sem, reduceIte, Nat.reduceEqDiff, Nat.reduceAdd, Nat.reduceSub, Nat.reduceLeDiff, Nat.reduceLT, reduceCtorEq, Int.reduceLT, Int.reduceLE, Int.reduceEq, Int.reduceBEq, Int.reduceSub, Int.reduceAdd, Int.reduceMul, Int.reduceNeg, Int.reduceToNat, Nat.reduceMul, Nat.reduceBEq, List.length_map, q1, q2, c16]
    · have q2 : ((40 : Int) < (l.length : Int)) = False := eq_false (by omega)
      have h17 := fun st => c17 nl n ps st
      have h18 := fun st => c18 nl n ps st
      have h19 := fun st => c19 nl n ps st
      have h20 := fun st => c20 nl n ps st
      have h22 := fun st => c22 nl n ps st
      have h23 := fun st => c23 nl n ps st
      have h24 := fun st => c24 nl n2 n ps l (by omega) st
      have h25 := fun st => c25 nl n2 n ps (by omega) l (by omega) st
      have hl := firstV_len n ps
      rw [first_eq] at hl
      simp only [first_eq] at h17
      simp only [count_eq] at h19
      have h21 := fun st => c21 true true (firstR n ps).1 (firstR n ps).1 (by omega) st
      simp only [decide_true] at h21
      simp only [ir3, go_sem, reduceIte, Nat.reduceEqDiff, Nat.reduceAdd, Nat.reduceSub, Nat.reduceLeDiff, Nat.reduceLT, reduceCtorEq, Int.reduceLT, Int.reduceLE, Int.reduceEq, Int.reduceBEq, Int.reduceSub, Int.reduceAdd, Int.reduceMul, Int.reduceNeg, Int.reduceToNat, Nat.reduceMul, Nat.reduceBEq, List.length_map, q1, q2, h17, h18, h19, h20, h21, h22, h23, h24, h25, c16]


theorem c4 (nl n2 : Bool) (n : Int) (ps : List (Int × Int)) (l : List Int) (st : St) : run L 4 [bkAV nl n ps, sl 1 n2 (l.map I)] st = some (B true, st) := by
  rw [run_pure (fn := ir4) rfl rfl]
  by_cases p1 : 40 < ps.length
  · have q1 : ((40 : Int) < (ps.length : Int)) = True := eq_true (by omega)
    simp only [ir4, go_sem, reduceIte, Nat.reduceEqDiff, Nat.reduceAdd, Nat.reduceSub, Nat.reduceLeDiff, Nat.reduceLT, reduceCtorEq, Int.reduceLT, Int.reduceLE, Int.reduceEq, Int.reduceBEq, Int.reduceSub, Int.reduceAdd, Int.reduceMul, Int.reduceNeg, Int.reduceToNat, Nat.reduceMul, Nat.reduceBEq, List.length_map, q1, c16]
  · have q1 : ((40 : Int) < (ps.length : Int)) = False := eq_false (by omega)
    by_cases p2 : 40 < l.length
    · have q2 : ((40 : Int) < (l.length : Int)) = True := eq_true (by omega)
      simp only [ir4, go_sem, reduceIte, Nat.reduceEqDiff, Nat.reduceAdd, Nat.reduceSub, Nat.reduceLeDiff, Nat.reduceLT, reduceCtorEq, Int.reduceLT, Int.reduceLE, Int.reduceEq, Int.reduceBEq, Int.reduceSub, Int.reduceAdd, Int.reduceMul, Int.reduceNeg, Int.reduceToNat, Nat.reduceMul, Nat.reduceBEq, List.length_map, q1, q2, c16]
    · have q2 : ((40 : Int) < (l.length : Int)) = False := eq_false (by omega)
      have h26 := fun st => c26 nl n ps st
      have h27 := fun st => c27 nl n ps st
      have h28 := fun st => c28 nl n ps st
      have h29 := fun st => c29 nl n ps st
      have h30 := fun st => c30 nl n2 n ps l (by omega) st
      have h31 := fun st => c31 nl n2 n ps l (by omega) st
      have h32 := fun st => c32 nl n ps st
      have h33 := fun st => c33 nl n ps st
      have l1 := hv_len n ps
      have l2 := sureV_len n ps
      have l3 := leftV_len n ps
      have l4 := restP_len n ps
      have k1 := fun st => c21 true true (hv n ps).1 (hv n ps).1 (by omega) st
      have k2 := fun st => c21 true true (sureV n ps).1 (sureV n ps).1 (by omega) st
      have k3 := fun st => c21 true true (sureV n ps).2.1 (sureV n ps).2.1 (by omega) st
      have k4 := fun st => c21 true true (leftV n ps) (leftV n ps) (by omega) st
      have k5 := fun st => c34 true true (restP n ps) (restP n ps) (by omega) st
      simp only [decide_true] at k1 k2 k3 k4 k5
      simp only [ir4, go_sem, reduceIte, Nat.reduceEqDiff, Nat.reduceAdd, Nat.reduceSub, Nat.reduceLeDiff, Nat.reduceLT, reduceCtorEq, Int.reduceLT, Int.reduceLE, Int.reduceEq, Int.reduceBEq, Int.reduceSub, Int.reduceAdd, Int.reduceMul, Int.reduceNeg, Int.reduceToNat, Nat.reduceMul, Nat.reduceBEq, List.length_map, q1, q2, h26, h27, h28, h29, h30, h31, h32, h33, k1, k2, k3, k4, k5, c16]
end Go.Proofs.YtpmbfgogpcjdlaaDoor.Vm
