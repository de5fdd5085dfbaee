/- What is proved: what each function of this program computes, as equations on the evaluator. No condition. -/
import Derived.Test.YtiifibgadipalaaC1
import Derived.KernelRfl
import Derived.Test.YtiifibgadipalaaRows
import Derived.WalkKit
import Derived.ProofKit
import Derived.OpenShut
set_option linter.all false
namespace Go.Proofs.Ytiifibgadipalaa.Vm
open Go Go.Ev
set_option maxRecDepth 100000
attribute [local go_sem] cells_any storable_any ren1_any shaped_ptr cells_ptr storable_ptr ren1_ptr shaped_eptr cells_eptr storable_eptr ren1_eptr shaped_rsl cells_rsl storable_rsl ren1_rsl shaped_int cells_int storable_int ren1_int shaped_bool cells_bool storable_bool ren1_bool shaped_nils cells_nils storable_nils ren1_nils shaped_lst cells_lst storable_lst shaped_fn cells_fn storable_fn ren1_fn shaped_ifc cells_ifc storable_ifc ren1_ifc shaped_agg cells_agg storable_agg ren1_agg shaped_tup cells_tup storable_tup ren1_tup shaped_nif cells_nif storable_nif ren1_nif ren1_lany ren1_lfull ren1_lown len_lst len_rsl len_nil load_ptr load_eptr isRsl_lst isRsl_nil isRsl_rsl elems_nil elems_lst elems_sl isRsl_sl body_eq bodyK_normal bodyK_ret resK_some leaveK_some only_some code_skip code_exit code_ret code_ops code_seq code_cond code_block seqK_normal seqK_ret seqK_exit condK_true condK_false blockK_normal blockK_ret blockK_exit opsK_some ops_nil ops_cons wantK_true wantK_false stepK_some pubs pub pub_sl params okRef_loc storable_loc shaped_loc cells_loc isRsl_loc elems_loc len_loc untips untip untip_sl wantedAV setElems withO isAgg_v isAgg_agg isAgg_lst isAgg_ptr isAgg_fn isAgg_ifc isAgg_rsl isAgg_sl isAgg_loc List.replicate_succ List.replicate_zero opAV valAV aval avals ofVal Env.get setD canon gcAV renAll renEnv renStore renCells ren1_sl cutSt okEnv okStore okRefs okRef okRef_sl bin_int bin_bool bin_lst bin_rsl bin_nil bin_agg cellsEq cellEq isShift intOp boolOp min_int max_int beq_int bne resAV tupAV leave_eq fin_sl fin_loc fins fin_v fin_lst fin_agg fin_tup fin_fn storeAV readCells putCells cells_sl shaped_sl storable_sl fieldAddrAV len_sl goI List.getElem?_cons_zero List.getElem?_cons_succ List.getElem?_nil Option.bind_some Option.map_some List.length_cons List.length_nil List.all_cons List.all_nil Bool.and_true Bool.true_and Bool.and_false Bool.false_and and_true true_and and_false false_and Bool.false_eq_true List.set_cons_zero List.set_cons_succ List.append_nil List.nil_append List.cons_append List.take_zero List.take_succ_cons List.take_nil List.drop_zero List.drop_succ_cons List.map_cons List.map_nil decide_true decide_false beq_self_eq_true Bool.not_true Bool.not_false or_true true_or or_false false_or Nat.zero_add Nat.add_zero Nat.le_refl Nat.lt_irrefl decide_eq_true_eq eq_self_iff_true not_true_eq_false not_false_eq_true List.getD_cons_zero code_loop Nat.zero_le Nat.not_lt_zero Bool.true_beq Bool.false_beq beq_true beq_false ge_iff_le gt_iff_lt Lpure pus Option.map_none assert_ifc assert_nil idxA_ptr idxA_eptr idxV_agg Int.cast_ofNat_Int Nat.mul_one Nat.zero_mul Int.toNat_natCast Int.toNat_zero setParts withO2 eqnil_sl nenil_sl eqnil_loc nenil_loc map_nil_iff okRefs_ints renCells_ints

theorem c106 (a : Int) (st : St) : run L 106 [I a] st = some (B false, st) := by
  rw [run_pure (fn := ir106) rfl rfl]
  simp only [ir106, go_sem, reduceIte, Nat.reduceEqDiff, Nat.reduceAdd, Nat.reduceSub, Nat.reduceLeDiff, Nat.reduceLT, reduceCtorEq, Int.reduceLT, Int.reduceLE, Int.reduceEq, Int.reduceBEq, Int.reduceSub, Int.reduceAdd, Int.reduceMul, Int.reduceNeg, Int.reduceToNat, Nat.reduceMul, Nat.reduceBEq]
theorem c95 (a : Int) (st : St) : run L 95 [I a] st = some (B false, st) := by
  rw [run_pure (fn := ir95) rfl rfl]
  simp only [ir95, go_sem, reduceIte, Nat.reduceEqDiff, Nat.reduceAdd, Nat.reduceSub, Nat.reduceLeDiff, Nat.reduceLT, reduceCtorEq, Int.reduceLT, Int.reduceLE, Int.reduceEq, Int.reduceBEq, Int.reduceSub, Int.reduceAdd, Int.reduceMul, Int.reduceNeg, Int.reduceToNat, Nat.reduceMul, Nat.reduceBEq]
theorem c94 (a b : Int) (st : St) : run L 94 [I a, I b] st = some (B (decide (a < b)), st) := by
  rw [run_pure (fn := ir94) rfl rfl]
  simp only [ir94, go_sem, reduceIte, Nat.reduceEqDiff, Nat.reduceAdd, Nat.reduceSub, Nat.reduceLeDiff, Nat.reduceLT, reduceCtorEq, Int.reduceLT, Int.reduceLE, Int.reduceEq, Int.reduceBEq, Int.reduceSub, Int.reduceAdd, Int.reduceMul, Int.reduceNeg, Int.reduceToNat, Nat.reduceMul, Nat.reduceBEq, c106]

theorem loop74 (nl : Bool) (l : List Int) (hlen : l.length < 1000) (t : Int) (m : Nat) (hm : m ≤ l.length) (hlt : ∀ i (h : i < l.length), l[i] < t ↔ i < m) (i : Nat) (j : Nat) (hok : i ≤ m ∧ m ≤ j ∧ j ≤ l.length) (env : Env) (st : St)
    (hg : gcAV true 0 0 (canon env [0, 1, 6, 7, 8]) st = ([(0, sl 1 nl (l.map I)), (1, I t), (6, I l.length), (7, I i), (8, I j)], ⟨[], []⟩)) :
    ∃ x_1 en s, lim (headed pure (run L) true [0, 1, 6, 7, 8] lp74_0 0 0) env st = some (x_1, en, s) ∧ (x_1 = .exit 0 ∧ en.get 0 = sl 1 nl (l.map I) ∧ en.get 1 = I t ∧ en.get 6 = I l.length ∧ en.get 7 = I m) := by
  refine loop_wp (α := Nat × Nat) (fun ⟨i, j⟩ => j - i) (fun ⟨i, j⟩ => i ≤ m ∧ m ≤ j ∧ j ≤ l.length) (fun ⟨i, j⟩ => ([(0, sl 1 nl (l.map I)), (1, I t), (6, I l.length), (7, I i), (8, I j)], ⟨[], []⟩)) (fun ⟨i, j⟩ x_1 en s => x_1 = .exit 0 ∧ en.get 0 = sl 1 nl (l.map I) ∧ en.get 1 = I t ∧ en.get 6 = I l.length ∧ en.get 7 = I m) (fun ⟨i, j⟩ hok => ?_) ⟨i, j⟩ hok env st hg
  simp only at hok
  by_cases q : (i : Int) < (j : Int)
  · have w1 := wrap64 ((i : Int) + j) (by omega) (by omega)
    have w2 : IntKind.u64.wrap ((i : Int) + j) = (i : Int) + j := by simp [IntKind.wrap, IntKind.bits, IntKind.signed]; omega
    have w3 : Int.fdiv ((i : Int) + j) (2 ^ (min (1 : Nat) 64)) = (((i + j) / 2 : Nat) : Int) := by
      have : (2 : Int) ^ (min (1 : Nat) 64) = 2 := rfl
      rw [this, Int.fdiv_eq_ediv_of_nonneg _ (by omega)]; omega
    have w4 := wrap64 (((i + j) / 2 : Nat) : Int) (by omega) (by omega)
    have w5 := succ64 ((i + j) / 2) (by omega)
    have hx := index_ints nl l ((i + j) / 2) (by omega)
    have hl := hlt ((i + j) / 2) (by omega)
    by_cases p : l[(i + j) / 2]'(by omega) < t
    · simp only [go_sem, reduceIte, Nat.reduceEqDiff, Nat.reduceAdd, Nat.reduceSub, Nat.reduceLeDiff, Nat.reduceLT, reduceCtorEq, Int.reduceLT, Int.reduceLE, Int.reduceEq, Int.reduceBEq, Int.reduceSub, Int.reduceAdd, Int.reduceMul, Int.reduceNeg, Int.reduceToNat, Nat.reduceMul, Nat.reduceBEq, index_rsl_if, setm, make_ints, condK_dec, wantK_dec, not_dec, and_dec, or_dec, seqK_ite, seqK_none, blockK_ite, blockK_none, opsK_ite, opsK_none, stepK_ite, stepK_none, bodyK_ite, bodyK_none, resK_ite, resK_none, leaveK_ite, leaveK_none, only_ite, only_none, bind_ite, gives_some, gives_none, gives_ite, then_normal, then_ret, then_exit, then_none, then_ite, Option.bind_none, Bool.not_eq_true', decide_eq_false_iff_not, Bool.and_eq_true, Bool.or_eq_true, Option.some.injEq, Int.not_lt, Int.not_le, lp74_0, q, w1, w2, w3, w4, w5, hx, c94, p, show Int.toNat 1 = 1 from rfl]
      refine ⟨((i + j) / 2 + 1, j), by simp only [go_sem, reduceIte, Nat.reduceEqDiff, Nat.reduceAdd, Nat.reduceSub, Nat.reduceLeDiff, Nat.reduceLT, reduceCtorEq, Int.reduceLT, Int.reduceLE, Int.reduceEq, Int.reduceBEq, Int.reduceSub, Int.reduceAdd, Int.reduceMul, Int.reduceNeg, Int.reduceToNat, Nat.reduceMul, Nat.reduceBEq, ren1_locm, loc_tips, locT_eq] <;> rfl, ?_, ?_, fun x en s hq => ?_⟩
      · simp only; omega
      · simp only; omega
      · exact hq
    · simp only [go_sem, reduceIte, Nat.reduceEqDiff, Nat.reduceAdd, Nat.reduceSub, Nat.reduceLeDiff, Nat.reduceLT, reduceCtorEq, Int.reduceLT, Int.reduceLE, Int.reduceEq, Int.reduceBEq, Int.reduceSub, Int.reduceAdd, Int.reduceMul, Int.reduceNeg, Int.reduceToNat, Nat.reduceMul, Nat.reduceBEq, index_rsl_if, setm, make_ints, condK_dec, wantK_dec, not_dec, and_dec, or_dec, seqK_ite, seqK_none, blockK_ite, blockK_none, opsK_ite, opsK_none, stepK_ite, stepK_none, bodyK_ite, bodyK_none, resK_ite, resK_none, leaveK_ite, leaveK_none, only_ite, only_none, bind_ite, gives_some, gives_none, gives_ite, then_normal, then_ret, then_exit, then_none, then_ite, Option.bind_none, Bool.not_eq_true', decide_eq_false_iff_not, Bool.and_eq_true, Bool.or_eq_true, Option.some.injEq, Int.not_lt, Int.not_le, lp74_0, q, w1, w2, w3, w4, w5, hx, c94, p, show Int.toNat 1 = 1 from rfl]
      refine ⟨(i, (i + j) / 2), by simp only [go_sem, reduceIte, Nat.reduceEqDiff, Nat.reduceAdd, Nat.reduceSub, Nat.reduceLeDiff, Nat.reduceLT, reduceCtorEq, Int.reduceLT, Int.reduceLE, Int.reduceEq, Int.reduceBEq, Int.reduceSub, Int.reduceAdd, Int.reduceMul, Int.reduceNeg, Int.reduceToNat, Nat.reduceMul, Nat.reduceBEq, ren1_locm, loc_tips, locT_eq] <;> rfl, ?_, ?_, fun x en s hq => ?_⟩
      · simp only; omega
      · simp only; omega
      · exact hq
  · obtain rfl : i = m := by omega
    simp only [go_sem, reduceIte, Nat.reduceEqDiff, Nat.reduceAdd, Nat.reduceSub, Nat.reduceLeDiff, Nat.reduceLT, reduceCtorEq, Int.reduceLT, Int.reduceLE, Int.reduceEq, Int.reduceBEq, Int.reduceSub, Int.reduceAdd, Int.reduceMul, Int.reduceNeg, Int.reduceToNat, Nat.reduceMul, Nat.reduceBEq, index_rsl_if, setm, make_ints, condK_dec, wantK_dec, not_dec, and_dec, or_dec, seqK_ite, seqK_none, blockK_ite, blockK_none, opsK_ite, opsK_none, stepK_ite, stepK_none, bodyK_ite, bodyK_none, resK_ite, resK_none, leaveK_ite, leaveK_none, only_ite, only_none, bind_ite, gives_some, gives_none, gives_ite, then_normal, then_ret, then_exit, then_none, then_ite, Option.bind_none, Bool.not_eq_true', decide_eq_false_iff_not, Bool.and_eq_true, Bool.or_eq_true, Option.some.injEq, Int.not_lt, Int.not_le, lp74_0, q]

theorem c74 (nl : Bool) (l : List Int) (hlen : l.length < 1000) (t : Int) (m : Nat) (hm : m < l.length) (hlt : ∀ i (h : i < l.length), l[i] < t ↔ i < m) (st : St) :
    run L 74 [sl 1 nl (l.map I), I t] st = some (.tup [I m, B (decide (l[m] = t))], st) := by
  rw [run_pure (fn := ir74) rfl rfl]
  simp only [ir74, go_sem, reduceIte, Nat.reduceEqDiff, Nat.reduceAdd, Nat.reduceSub, Nat.reduceLeDiff, Nat.reduceLT, reduceCtorEq, Int.reduceLT, Int.reduceLE, Int.reduceEq, Int.reduceBEq, Int.reduceSub, Int.reduceAdd, Int.reduceMul, Int.reduceNeg, Int.reduceToNat, Nat.reduceMul, Nat.reduceBEq, List.length_map]
  generalize hg : lim (headed pure (run L) true _ lp74_0 _ _) _ _ = o
  obtain ⟨x, en, s, rfl, h2⟩ : ∃ x en s, o = some (x, en, s) ∧ _ := by rw [← hg]; exact loop74 nl l hlen t m (by omega) hlt 0 l.length ⟨by omega, by omega, by omega⟩ _ _ (by simp only [go_sem, reduceIte, Nat.reduceEqDiff, Nat.reduceAdd, Nat.reduceSub, Nat.reduceLeDiff, Nat.reduceLT, reduceCtorEq, Int.reduceLT, Int.reduceLE, Int.reduceEq, Int.reduceBEq, Int.reduceSub, Int.reduceAdd, Int.reduceMul, Int.reduceNeg, Int.reduceToNat, Nat.reduceMul, Nat.reduceBEq] <;> rfl)
  clear hg
  obtain ⟨rfl, h3, h4, h5, h6⟩ := h2
  have hx := index_ints nl l m hm
  have q : ((m : Int) < (l.length : Int)) = True := eq_true (by omega)
  by_cases p : l[m] = t
  · simp only [go_sem, reduceIte, Nat.reduceEqDiff, Nat.reduceAdd, Nat.reduceSub, Nat.reduceLeDiff, Nat.reduceLT, reduceCtorEq, Int.reduceLT, Int.reduceLE, Int.reduceEq, Int.reduceBEq, Int.reduceSub, Int.reduceAdd, Int.reduceMul, Int.reduceNeg, Int.reduceToNat, Nat.reduceMul, Nat.reduceBEq, h3, h4, h5, h6, hx, q, p, c95]
  · simp only [go_sem, reduceIte, Nat.reduceEqDiff, Nat.reduceAdd, Nat.reduceSub, Nat.reduceLeDiff, Nat.reduceLT, reduceCtorEq, Int.reduceLT, Int.reduceLE, Int.reduceEq, Int.reduceBEq, Int.reduceSub, Int.reduceAdd, Int.reduceMul, Int.reduceNeg, Int.reduceToNat, Nat.reduceMul, Nat.reduceBEq, h3, h4, h5, h6, hx, q, p, c95]

/-- The volume in which an article is. -/
def volOf (ends : List Int) (a : Int) : Nat := (ends.takeWhile (fun e => decide (e ≤ a))).length

theorem loopErr_cons {n last e : Int} {r : List Int} (h : loopErr n last (e :: r) = 0) : 1 ≤ e ∧ e ≤ n ∧ last < e ∧ loopErr n e r = 0 := by
  simp only [loopErr] at h
  split at h
  · omega
  · split at h
    · omega
    · exact ⟨by omega, by omega, by omega, h⟩
theorem loopErr_gt {n : Int} : ∀ {last : Int} {ends : List Int}, loopErr n last ends = 0 → ∀ e ∈ ends, last < e
  | _, [], _, e, he => by simp at he
  | last, x :: r, h, e, he => by
    obtain ⟨_, _, h3, h4⟩ := loopErr_cons h
    rcases List.mem_cons.1 he with rfl | he
    · exact h3
    · have := loopErr_gt h4 e he; omega
theorem volOf_iff {n : Int} {a : Int} : ∀ {last : Int} {ends : List Int}, loopErr n last ends = 0 → ∀ i (h : i < ends.length), ends[i] ≤ a ↔ i < volOf ends a
  | _, [], _, i, h => by simp at h
  | last, x :: r, h, i, hi => by
    obtain ⟨_, _, h3, h4⟩ := loopErr_cons h
    have ih := volOf_iff (a := a) h4
    unfold volOf at ih ⊢
    by_cases hx : x ≤ a
    · simp only [List.takeWhile_cons, hx, decide_true, if_true, List.length_cons]
      cases i with
      | zero => simp [hx]
      | succ i => simp only [List.getElem_cons_succ]; rw [ih i (by simpa using hi)]; omega
    · simp only [List.takeWhile_cons, hx, decide_false, Bool.false_eq_true, if_false, List.length_nil]
      cases i with
      | zero => simp [hx]
      | succ i =>
        have hi' : i < r.length := by simpa using hi
        have := loopErr_gt h4 r[i] (List.getElem_mem hi')
        simp only [List.getElem_cons_succ]; omega
theorem volOf_lt {n : Int} {ends : List Int} {a : Int} (h : loopErr n 0 ends = 0) (hl : beginOf ends ends.length = n) (ha : 0 ≤ a ∧ a < n) : volOf ends a < ends.length := by
  have h1 : 0 < ends.length := by
    rcases Nat.eq_zero_or_pos ends.length with h0 | h0
    · rw [h0] at hl; simp [beginOf] at hl; omega
    · exact h0
  have h2 := volOf_iff (a := a) h (ends.length - 1) (by omega)
  have h3 := beginOf_succ ends (ends.length - 1) (by omega)
  rw [show ends.length - 1 + 1 = ends.length by omega, hl] at h3
  rw [← h3] at h2
  have h4 : (ends.takeWhile (fun e => decide (e ≤ a))).length ≤ ends.length := (List.takeWhile_prefix _).length_le
  unfold volOf at h2 ⊢
  omega

def limitV (arts : List (Int × Int)) (room floor : Int) (ends : List Int) (a : Int) : Int × Int :=
  if cutErr arts room floor ends = 0 then
    if a < 0 ∨ (arts.length : Int) ≤ a then (0, 2)
    else (room - seg (mosts arts) (beginOf ends (volOf ends a)) (ends.getD (volOf ends a) 0) + (arts.getD a.toNat (0, 0)).2, 0)
  else (0, cutErr arts room floor ends)

theorem c23 (nl n2 : Bool) (arts : List (Int × Int)) (room floor : Int) (ends : List Int) (hlen : ends.length < 1000) (a : Int) (st : St) :
    run L 23 [bookAV nl arts room floor, sl 1 n2 (ends.map I), I a] st = some (two (limitV arts room floor ends a), st) := by
  rw [run_pure (fn := ir23) rfl rfl]
  have hc := fun st => c65 nl n2 arts room floor ends hlen st
  unfold limitV
  by_cases p0 : cutErr arts room floor ends = 0
  · rw [if_pos p0]
    obtain ⟨q0, q1, q2, q3⟩ := cutErr_zero p0
    obtain ⟨g1, g2, g3, g4⟩ := mosts_ok q0
    obtain ⟨_, _, k3, k4, k5, k6, k7⟩ := check_zero q0
    by_cases p1 : a < 0
    · rw [if_pos (.inl p1)]
      simp only [ir23, go_sem, reduceIte, Nat.reduceEqDiff, Nat.reduceAdd, Nat.reduceSub, Nat.reduceLeDiff, Nat.reduceLT, reduceCtorEq, Int.reduceLT, Int.reduceLE, Int.reduceEq, Int.reduceBEq, Int.reduceSub, Int.reduceAdd, Int.reduceMul, Int.reduceNeg, Int.reduceToNat, Nat.reduceMul, Nat.reduceBEq, hc, p0, p1]
    · by_cases p2 : (arts.length : Int) ≤ a
      · rw [if_pos (.inr p2)]
        simp only [ir23, go_sem, reduceIte, Nat.reduceEqDiff, Nat.reduceAdd, Nat.reduceSub, Nat.reduceLeDiff, Nat.reduceLT, reduceCtorEq, Int.reduceLT, Int.reduceLE, Int.reduceEq, Int.reduceBEq, Int.reduceSub, Int.reduceAdd, Int.reduceMul, Int.reduceNeg, Int.reduceToNat, Nat.reduceMul, Nat.reduceBEq, hc, p0, p1, p2, List.length_map]
      · rw [if_neg (by omega)]
        have hv := volOf_lt q1 q3 (a := a) (by omega)
        have hi := volOf_iff (a := a) q1
        have h75 := fun st => cmost nl q0 st
        have hw := wrap64 (a + 1) (by omega) (by omega)
        generalize volOf ends a = m at *
        have h74 := fun st => c74 n2 ends hlen (a + 1) m hv (fun i h => by rw [← hi i h]; omega) st
        have hx := index_ints n2 ends m hv
        have hasc := ends_asc q1 m hv
        have hb0 := begin_nonneg q1 m (by omega)
        have h76 := fun st => c76' false (mosts arts) g1 (beginOf ends m) ends[m] hb0 (by omega) (by omega) (by omega) st
        have hxa := index_arts nl arts a.toNat (by omega)
        rw [show ((a.toNat : Nat) : Int) = a by omega] at hxa
        have hseg := seg_sums (·.2) arts (beginOf ends m) ends[m] hb0 (by omega) hasc.2
        have hsb := sumSeg_bound (·.2) arts (fun x hx => by have := k3 x hx; omega) (beginOf ends m).toNat (ends[m]).toNat
        have ha2 := k3 _ (List.getElem_mem (show a.toNat < arts.length by omega))
        have hwa := wrap64 (room - seg (mosts arts) (beginOf ends m) ends[m]) (by rw [hseg]; omega) (by rw [hseg]; omega)
        have hwb := wrap64 (room - seg (mosts arts) (beginOf ends m) ends[m] + arts[a.toNat].2) (by rw [hseg]; omega) (by rw [hseg]; omega)
        have hga : arts.getD a.toNat (0, 0) = arts[a.toNat]'(by omega) := by simp [List.getD_eq_getElem?_getD, List.getElem?_eq_getElem (show a.toNat < arts.length by omega)]
        have hge : ends.getD m 0 = ends[m] := by simp [List.getD_eq_getElem?_getD, List.getElem?_eq_getElem hv]
        rw [hga, hge]
        by_cases p3 : (0 : Int) < (m : Int)
        · have hw3 : IntKind.i64.wrap ((m : Int) - 1) = ((m - 1 : Nat) : Int) := by rw [wrap64] <;> omega
          have hx3 := index_ints n2 ends (m - 1) (by omega)
          have hb3 : ends[m - 1]'(by omega) = beginOf ends m := by
            have := beginOf_succ ends (m - 1) (by omega)
            rw [← this]; congr 1; omega
          rw [hb3] at hx3
          simp only [ir23, go_sem, reduceIte, Nat.reduceEqDiff, Nat.reduceAdd, Nat.reduceSub, Nat.reduceLeDiff, Nat.reduceLT, reduceCtorEq, Int.reduceLT, Int.reduceLE, Int.reduceEq, Int.reduceBEq, Int.reduceSub, Int.reduceAdd, Int.reduceMul, Int.reduceNeg, Int.reduceToNat, Nat.reduceMul, Nat.reduceBEq, hc, p0, p1, p2, p3, h74, hw, hw3, hx, hx3, h75, h76, hxa, hwa, hwb, List.length_map]
        · have hb3 : beginOf ends m = 0 := by
            have : m = 0 := by omega
            subst this; rfl
          rw [hb3] at h76 hwa hwb ⊢
          simp only [ir23, go_sem, reduceIte, Nat.reduceEqDiff, Nat.reduceAdd, Nat.reduceSub, Nat.reduceLeDiff, Nat.reduceLT, reduceCtorEq, Int.reduceLT, Int.reduceLE, Int.reduceEq, Int.reduceBEq, Int.reduceSub, Int.reduceAdd, Int.reduceMul, Int.reduceNeg, Int.reduceToNat, Nat.reduceMul, Nat.reduceBEq, hc, p0, p1, p2, p3, h74, hw, hx, h75, h76, hxa, hwa, hwb, List.length_map]
  · rw [if_neg p0]
    simp only [ir23, go_sem, reduceIte, Nat.reduceEqDiff, Nat.reduceAdd, Nat.reduceSub, Nat.reduceLeDiff, Nat.reduceLT, reduceCtorEq, Int.reduceLT, Int.reduceLE, Int.reduceEq, Int.reduceBEq, Int.reduceSub, Int.reduceAdd, Int.reduceMul, Int.reduceNeg, Int.reduceToNat, Nat.reduceMul, Nat.reduceBEq, hc, p0]


theorem loop24 (nl n2 : Bool) (arts : List (Int × Int)) (room floor : Int) (ends : List Int) (hlen : ends.length < 1000) (a : Int) (m : Nat) (hm : m < ends.length) (hi : ∀ i (h : i < ends.length), ends[i] ≤ a ↔ i < m) (i : Nat) (hok : i ≤ m) (env : Env) (st : St)
    (hg : gcAV true 1 0 (canon env [1, 2, 3, 9]) st = ([(1, sl 1 n2 (ends.map I)), (2, I a), (3, .ptr 0 0), (9, I i)], ⟨[bookCells nl arts room floor], []⟩)) :
    ∃ x_1 en s, lim (headed pure (run L) true [1, 2, 3, 9] lp24_0 1 0) env st = some (x_1, en, s) ∧ (x_1 = .exit 0 ∧ en.get 1 = sl 1 n2 (ends.map I) ∧ en.get 2 = I a ∧ en.get 3 = .ptr 0 0 ∧ en.get 9 = I m ∧ s = ⟨[bookCells nl arts room floor], []⟩) := by
  refine loop_wp (α := Nat) (fun i => m - i) (fun i => i ≤ m) (fun i => ([(1, sl 1 n2 (ends.map I)), (2, I a), (3, .ptr 0 0), (9, I i)], ⟨[bookCells nl arts room floor], []⟩)) (fun i x_1 en s => x_1 = .exit 0 ∧ en.get 1 = sl 1 n2 (ends.map I) ∧ en.get 2 = I a ∧ en.get 3 = .ptr 0 0 ∧ en.get 9 = I m ∧ s = ⟨[bookCells nl arts room floor], []⟩) (fun i hok => ?_) i hok env st hg
  have hx := index_ints n2 ends i (by omega)
  have hs := succ64 i (by omega)
  have h1 := hi i (by omega)
  by_cases p : ends[i]'(by omega) ≤ a
  · simp only [go_sem, reduceIte, Nat.reduceEqDiff, Nat.reduceAdd, Nat.reduceSub, Nat.reduceLeDiff, Nat.reduceLT, reduceCtorEq, Int.reduceLT, Int.reduceLE, Int.reduceEq, Int.reduceBEq, Int.reduceSub, Int.reduceAdd, Int.reduceMul, Int.reduceNeg, Int.reduceToNat, Nat.reduceMul, Nat.reduceBEq, index_rsl_if, setm, make_ints, condK_dec, wantK_dec, not_dec, and_dec, or_dec, seqK_ite, seqK_none, blockK_ite, blockK_none, opsK_ite, opsK_none, stepK_ite, stepK_none, bodyK_ite, bodyK_none, resK_ite, resK_none, leaveK_ite, leaveK_none, only_ite, only_none, bind_ite, gives_some, gives_none, gives_ite, then_normal, then_ret, then_exit, then_none, then_ite, Option.bind_none, Bool.not_eq_true', decide_eq_false_iff_not, Bool.and_eq_true, Bool.or_eq_true, Option.some.injEq, Int.not_lt, Int.not_le, lp24_0, hx, p, hs]
    refine ⟨i + 1, by simp only [go_sem, reduceIte, Nat.reduceEqDiff, Nat.reduceAdd, Nat.reduceSub, Nat.reduceLeDiff, Nat.reduceLT, reduceCtorEq, Int.reduceLT, Int.reduceLE, Int.reduceEq, Int.reduceBEq, Int.reduceSub, Int.reduceAdd, Int.reduceMul, Int.reduceNeg, Int.reduceToNat, Nat.reduceMul, Nat.reduceBEq, ren1_locm, loc_tips, locT_eq] <;> rfl, ?_, ?_, fun x en s hq => ?_⟩
    · omega
    · omega
    · exact hq
  · obtain rfl : i = m := by omega
    simp only [go_sem, reduceIte, Nat.reduceEqDiff, Nat.reduceAdd, Nat.reduceSub, Nat.reduceLeDiff, Nat.reduceLT, reduceCtorEq, Int.reduceLT, Int.reduceLE, Int.reduceEq, Int.reduceBEq, Int.reduceSub, Int.reduceAdd, Int.reduceMul, Int.reduceNeg, Int.reduceToNat, Nat.reduceMul, Nat.reduceBEq, index_rsl_if, setm, make_ints, condK_dec, wantK_dec, not_dec, and_dec, or_dec, seqK_ite, seqK_none, blockK_ite, blockK_none, opsK_ite, opsK_none, stepK_ite, stepK_none, bodyK_ite, bodyK_none, resK_ite, resK_none, leaveK_ite, leaveK_none, only_ite, only_none, bind_ite, gives_some, gives_none, gives_ite, then_normal, then_ret, then_exit, then_none, then_ite, Option.bind_none, Bool.not_eq_true', decide_eq_false_iff_not, Bool.and_eq_true, Bool.or_eq_true, Option.some.injEq, Int.not_lt, Int.not_le, lp24_0, hx, p]

theorem c24 (nl n2 : Bool) (arts : List (Int × Int)) (room floor : Int) (ends : List Int) (hlen : ends.length < 1000) (a : Int) (st : St) :
    run L 24 [bookAV nl arts room floor, sl 1 n2 (ends.map I), I a] st = some (two (limitV arts room floor ends a), st) := by
  rw [run_pure (fn := ir24) rfl rfl]
  have hc := fun st => c69 nl n2 arts room floor ends hlen st
  unfold limitV
  by_cases p0 : cutErr arts room floor ends = 0
  · rw [if_pos p0]
    obtain ⟨q0, q1, q2, q3⟩ := cutErr_zero p0
    obtain ⟨g1, g2, g3, g4⟩ := mosts_ok q0
    obtain ⟨_, _, k3, k4, k5, k6, k7⟩ := check_zero q0
    have hwl : IntKind.i64.wrap ((arts.length : Int) - 1) = (arts.length : Int) - 1 := by rw [wrap64] <;> omega
    by_cases p1 : 0 ≤ a ∧ a ≤ (arts.length : Int) - 1
    · rw [if_neg (by omega)]
      have hv := volOf_lt q1 q3 (a := a) (by omega)
      have hi := volOf_iff (a := a) q1
      have hw := wrap64 (a + 1) (by omega) (by omega)
      generalize volOf ends a = m at *
      have hx := index_ints n2 ends m hv
      have hasc := ends_asc q1 m hv
      have hb0 := begin_nonneg q1 m (by omega)
      have hge : ends.getD m 0 = ends[m] := by simp [List.getD_eq_getElem?_getD, List.getElem?_eq_getElem hv]
      have hga : arts.getD a.toNat (0, 0) = arts[a.toNat]'(by omega) := by simp [List.getD_eq_getElem?_getD, List.getElem?_eq_getElem (show a.toNat < arts.length by omega)]
      have hba : beginOf ends m ≤ a := by
        cases m with
        | zero => simp [beginOf]; omega
        | succ m =>
          rw [beginOf_succ ends m (by omega)]
          exact (hi m (by omega)).2 (by omega)
      have hae : a < ends[m] := by have := hi m hv; omega
      have h73 := fun st => c73 n2 ends m (by omega) hlen st
      have h781 := fun st => c78' nl arts room floor q0 (beginOf ends m) a hb0 hba (by omega) st
      have h782 := fun st => c78' nl arts room floor q0 (a + 1) ends[m] (by omega) (by omega) hasc.2 st
      have ha2 := k3 _ (List.getElem_mem (show a.toNat < arts.length by omega))
      have s1 := seg_sums (·.2) arts (beginOf ends m) a hb0 (by omega) (by omega)
      have s2 := seg_sums (·.2) arts (a + 1) ends[m] (by omega) (by omega) hasc.2
      have b1 := sumSeg_bound (·.2) arts (fun x hx => by have := k3 x hx; omega) (beginOf ends m).toNat a.toNat
      have b2 := sumSeg_bound (·.2) arts (fun x hx => by have := k3 x hx; omega) (a + 1).toNat (ends[m]).toNat
      have s3 := seg_sums (·.2) arts a ends[m] (by omega) (by omega) hasc.2
      rw [sumSeg_step (·.2) arts a.toNat (ends[m]).toNat (by omega) (by omega)] at s3
      have e1 : seg (mosts arts) (beginOf ends m) ends[m] = seg (mosts arts) (beginOf ends m) a + seg (mosts arts) a ends[m] := by unfold seg; omega
      have e2 : (a + 1).toNat = a.toNat + 1 := by omega
      rw [e2] at s2
      have e3 : room - seg (mosts arts) (beginOf ends m) a - seg (mosts arts) (a + 1) ends[m] = room - seg (mosts arts) (beginOf ends m) ends[m] + arts[a.toNat].2 := by
        simp only [mosts] at *; omega
      have w1 := wrap64 (room - seg (mosts arts) (beginOf ends m) a) (by simp only [mosts] at *; omega) (by simp only [mosts] at *; omega)
      have w2 := wrap64 (room - seg (mosts arts) (beginOf ends m) a - seg (mosts arts) (a + 1) ends[m]) (by simp only [mosts] at *; rw [e2] at b2; omega) (by simp only [mosts] at *; rw [e2] at b2; omega)
      rw [e3] at w2
      rw [hga, hge]
      simp only [ir24, go_sem, reduceIte, Nat.reduceEqDiff, Nat.reduceAdd, Nat.reduceSub, Nat.reduceLeDiff, Nat.reduceLT, reduceCtorEq, Int.reduceLT, Int.reduceLE, Int.reduceEq, Int.reduceBEq, Int.reduceSub, Int.reduceAdd, Int.reduceMul, Int.reduceNeg, Int.reduceToNat, Nat.reduceMul, Nat.reduceBEq, hc, p0, c77, hwl, p1, List.length_map]
      generalize hg : lim (headed pure (run L) true _ lp24_0 _ _) _ _ = o
      obtain ⟨x, en, s, rfl, h2⟩ : ∃ x en s, o = some (x, en, s) ∧ _ := by rw [← hg]; exact loop24 nl n2 arts room floor ends hlen a m hv hi 0 (Nat.zero_le _) _ _ (by simp only [go_sem, reduceIte, Nat.reduceEqDiff, Nat.reduceAdd, Nat.reduceSub, Nat.reduceLeDiff, Nat.reduceLT, reduceCtorEq, Int.reduceLT, Int.reduceLE, Int.reduceEq, Int.reduceBEq, Int.reduceSub, Int.reduceAdd, Int.reduceMul, Int.reduceNeg, Int.reduceToNat, Nat.reduceMul, Nat.reduceBEq] <;> rfl)
      clear hg
      obtain ⟨rfl, h3, h4, h5, h6, rfl⟩ := h2
      simp only [go_sem, reduceIte, Nat.reduceEqDiff, Nat.reduceAdd, Nat.reduceSub, Nat.reduceLeDiff, Nat.reduceLT, reduceCtorEq, Int.reduceLT, Int.reduceLE, Int.reduceEq, Int.reduceBEq, Int.reduceSub, Int.reduceAdd, Int.reduceMul, Int.reduceNeg, Int.reduceToNat, Nat.reduceMul, Nat.reduceBEq, h3, h4, h5, h6, h73, h781, h782, hw, hx, w1, w2, e3]
    · rw [if_pos (by omega)]
      simp only [ir24, go_sem, reduceIte, Nat.reduceEqDiff, Nat.reduceAdd, Nat.reduceSub, Nat.reduceLeDiff, Nat.reduceLT, reduceCtorEq, Int.reduceLT, Int.reduceLE, Int.reduceEq, Int.reduceBEq, Int.reduceSub, Int.reduceAdd, Int.reduceMul, Int.reduceNeg, Int.reduceToNat, Nat.reduceMul, Nat.reduceBEq, hc, p0, c77, hwl, p1, List.length_map]
  · rw [if_neg p0]
    simp only [ir24, go_sem, reduceIte, Nat.reduceEqDiff, Nat.reduceAdd, Nat.reduceSub, Nat.reduceLeDiff, Nat.reduceLT, reduceCtorEq, Int.reduceLT, Int.reduceLE, Int.reduceEq, Int.reduceBEq, Int.reduceSub, Int.reduceAdd, Int.reduceMul, Int.reduceNeg, Int.reduceToNat, Nat.reduceMul, Nat.reduceBEq, hc, p0]

theorem loop18 (nl : Bool) (arts : List (Int × Int)) (hlen : arts.length < 1000) (room floor : Int) (i : Nat) (hok : i ≤ arts.length) (env : Env) (st : St)
    (hg : gcAV true 3 0 (canon env [1, 2, 3, 4]) st = ([(1, .ptr 0 0), (2, .ptr 1 0), (3, .ptr 2 0), (4, I i)], ⟨[bookCells nl arts room floor, [.v (.slice none 0 0), I 0, I 0], [loc 2 0 ((arts.take i).map artAV), I room, I floor]], locT 0 ((arts.take i).map artAV)⟩)) :
    ∃ x_1 en s, lim (headed pure (run L) true [1, 2, 3, 4] lp18_0 3 0) env st = some (x_1, en, s) ∧ (x_1 = .exit 0 ∧ en.get 2 = .ptr 1 0 ∧ en.get 3 = .ptr 2 0 ∧ s.store = [bookCells nl arts room floor, [.v (.slice none 0 0), I 0, I 0], [loc 2 0 (arts.map artAV), I room, I floor]]) := by
  refine loop_wp (α := Nat) (fun i => arts.length - i) (fun i => i ≤ arts.length) (fun i => ([(1, .ptr 0 0), (2, .ptr 1 0), (3, .ptr 2 0), (4, I i)], ⟨[bookCells nl arts room floor, [.v (.slice none 0 0), I 0, I 0], [loc 2 0 ((arts.take i).map artAV), I room, I floor]], locT 0 ((arts.take i).map artAV)⟩)) (fun i x_1 en s => x_1 = .exit 0 ∧ en.get 2 = .ptr 1 0 ∧ en.get 3 = .ptr 2 0 ∧ s.store = [bookCells nl arts room floor, [.v (.slice none 0 0), I 0, I 0], [loc 2 0 (arts.map artAV), I room, I floor]]) (fun i hok => ?_) i hok env st hg
  by_cases q : (i : Int) < (arts.length : Int)
  · have hx := index_arts nl arts i (by omega)
    have hs := succ64 i (by omega)
    have happ := append_locm (z := 2) (k := 0) artAV (arts.take i) (arts[i]'(by omega)) [bookCells nl arts room floor, [.v (.slice none 0 0), I 0, I 0], [loc 2 0 ((arts.take i).map artAV), I room, I floor]] (by omega) (by simp [maxGrow]; omega)
    have htk : arts.take i ++ [arts[i]'(by omega)] = arts.take (i + 1) := List.take_append_getElem _
    rw [htk] at happ
    simp only [go_sem, reduceIte, Nat.reduceEqDiff, Nat.reduceAdd, Nat.reduceSub, Nat.reduceLeDiff, Nat.reduceLT, reduceCtorEq, Int.reduceLT, Int.reduceLE, Int.reduceEq, Int.reduceBEq, Int.reduceSub, Int.reduceAdd, Int.reduceMul, Int.reduceNeg, Int.reduceToNat, Nat.reduceMul, Nat.reduceBEq, index_rsl_if, setm, make_ints, condK_dec, wantK_dec, not_dec, and_dec, or_dec, seqK_ite, seqK_none, blockK_ite, blockK_none, opsK_ite, opsK_none, stepK_ite, stepK_none, bodyK_ite, bodyK_none, resK_ite, resK_none, leaveK_ite, leaveK_none, only_ite, only_none, bind_ite, gives_some, gives_none, gives_ite, then_normal, then_ret, then_exit, then_none, then_ite, Option.bind_none, Bool.not_eq_true', decide_eq_false_iff_not, Bool.and_eq_true, Bool.or_eq_true, Option.some.injEq, Int.not_lt, Int.not_le, lp18_0, q, hx, hs, happ, List.length_map]
    refine ⟨i + 1, by simp only [go_sem, reduceIte, Nat.reduceEqDiff, Nat.reduceAdd, Nat.reduceSub, Nat.reduceLeDiff, Nat.reduceLT, reduceCtorEq, Int.reduceLT, Int.reduceLE, Int.reduceEq, Int.reduceBEq, Int.reduceSub, Int.reduceAdd, Int.reduceMul, Int.reduceNeg, Int.reduceToNat, Nat.reduceMul, Nat.reduceBEq, ren1_locm, loc_tips, locT_eq] <;> rfl, ?_, ?_, fun x en s hq => ?_⟩
    · omega
    · omega
    · exact hq
  · have htk : arts.take i = arts := List.take_of_length_le (by omega)
    simp only [go_sem, reduceIte, Nat.reduceEqDiff, Nat.reduceAdd, Nat.reduceSub, Nat.reduceLeDiff, Nat.reduceLT, reduceCtorEq, Int.reduceLT, Int.reduceLE, Int.reduceEq, Int.reduceBEq, Int.reduceSub, Int.reduceAdd, Int.reduceMul, Int.reduceNeg, Int.reduceToNat, Nat.reduceMul, Nat.reduceBEq, index_rsl_if, setm, make_ints, condK_dec, wantK_dec, not_dec, and_dec, or_dec, seqK_ite, seqK_none, blockK_ite, blockK_none, opsK_ite, opsK_none, stepK_ite, stepK_none, bodyK_ite, bodyK_none, resK_ite, resK_none, leaveK_ite, leaveK_none, only_ite, only_none, bind_ite, gives_some, gives_none, gives_ite, then_normal, then_ret, then_exit, then_none, then_ite, Option.bind_none, Bool.not_eq_true', decide_eq_false_iff_not, Bool.and_eq_true, Bool.or_eq_true, Option.some.injEq, Int.not_lt, Int.not_le, lp18_0, q, List.length_map, htk]

theorem c18 (nl : Bool) (arts : List (Int × Int)) (hlen : arts.length < 1000) (room floor : Int) (st : St) :
    run L 18 [bookAV nl arts room floor] st = some (bookAV true arts room floor, st) := by
  rw [run_pure (fn := ir18) rfl rfl]
  simp only [ir18, go_sem, reduceIte, Nat.reduceEqDiff, Nat.reduceAdd, Nat.reduceSub, Nat.reduceLeDiff, Nat.reduceLT, reduceCtorEq, Int.reduceLT, Int.reduceLE, Int.reduceEq, Int.reduceBEq, Int.reduceSub, Int.reduceAdd, Int.reduceMul, Int.reduceNeg, Int.reduceToNat, Nat.reduceMul, Nat.reduceBEq]
  generalize hg : lim (headed pure (run L) true _ lp18_0 _ _) _ _ = o
  obtain ⟨x, en, s, rfl, h2⟩ : ∃ x en s, o = some (x, en, s) ∧ _ := by rw [← hg]; exact loop18 nl arts hlen room floor 0 (Nat.zero_le _) _ _ (by simp only [go_sem, reduceIte, Nat.reduceEqDiff, Nat.reduceAdd, Nat.reduceSub, Nat.reduceLeDiff, Nat.reduceLT, reduceCtorEq, Int.reduceLT, Int.reduceLE, Int.reduceEq, Int.reduceBEq, Int.reduceSub, Int.reduceAdd, Int.reduceMul, Int.reduceNeg, Int.reduceToNat, Nat.reduceMul, Nat.reduceBEq, List.take_zero, loc_start, locT] <;> rfl)
  clear hg
  obtain ⟨rfl, h3, h4, h5⟩ := h2
  obtain ⟨s1, s2⟩ := s
  simp only at h5
  subst h5
  simp only [go_sem, reduceIte, Nat.reduceEqDiff, Nat.reduceAdd, Nat.reduceSub, Nat.reduceLeDiff, Nat.reduceLT, reduceCtorEq, Int.reduceLT, Int.reduceLE, Int.reduceEq, Int.reduceBEq, Int.reduceSub, Int.reduceAdd, Int.reduceMul, Int.reduceNeg, Int.reduceToNat, Nat.reduceMul, Nat.reduceBEq, h3, h4]

theorem loop35 (n1 n2 : Bool) (a b : List Int) (hlen : a.length = b.length) (hl : a.length < 1000000) (i : Nat) (hok : i ≤ a.length) (env : Env) (st : St)
    (hg : gcAV true 0 0 (canon env [0, 1, 5]) st = ([(0, sl 1 n1 (a.map I)), (1, sl 1 n2 (b.map I)), (5, I i)], ⟨[], []⟩)) :
    ∃ x_1 en s, lim (headed pure (run L) true [0, 1, 5] lp35_0 0 0) env st = some (x_1, en, s) ∧ (if a.drop i = b.drop i then x_1 = .exit 0 else x_1 = .ret ∧ en.get 4 = B false) := by
  refine loop_wp (α := Nat) (fun i => a.length - i) (fun i => i ≤ a.length) (fun i => ([(0, sl 1 n1 (a.map I)), (1, sl 1 n2 (b.map I)), (5, I i)], ⟨[], []⟩)) (fun i x_1 en s => if a.drop i = b.drop i then x_1 = .exit 0 else x_1 = .ret ∧ en.get 4 = B false) (fun i hok => ?_) i hok env st hg
  by_cases q : (i : Int) < (a.length : Int)
  · have hx := index_ints n1 a i (by omega)
    have hy := index_ints n2 b i (by omega)
    have hs := succ64 i (by omega)
    have d1 : a.drop i = a[i]'(by omega) :: a.drop (i + 1) := List.drop_eq_getElem_cons (by omega)
    have d2 : b.drop i = b[i]'(by omega) :: b.drop (i + 1) := List.drop_eq_getElem_cons (by omega)
    rw [d1, d2]
    by_cases p : a[i]'(by omega) = b[i]'(by omega)
    · have heq : (a[i]'(by omega) :: a.drop (i + 1) = b[i]'(by omega) :: b.drop (i + 1)) = (a.drop (i + 1) = b.drop (i + 1)) := by rw [List.cons.injEq, eq_true p, true_and]
      simp only [heq]
      simp only [go_sem, reduceIte, Nat.reduceEqDiff, Nat.reduceAdd, Nat.reduceSub, Nat.reduceLeDiff, Nat.reduceLT, reduceCtorEq, Int.reduceLT, Int.reduceLE, Int.reduceEq, Int.reduceBEq, Int.reduceSub, Int.reduceAdd, Int.reduceMul, Int.reduceNeg, Int.reduceToNat, Nat.reduceMul, Nat.reduceBEq, index_rsl_if, setm, make_ints, condK_dec, wantK_dec, not_dec, and_dec, or_dec, seqK_ite, seqK_none, blockK_ite, blockK_none, opsK_ite, opsK_none, stepK_ite, stepK_none, bodyK_ite, bodyK_none, resK_ite, resK_none, leaveK_ite, leaveK_none, only_ite, only_none, bind_ite, gives_some, gives_none, gives_ite, then_normal, then_ret, then_exit, then_none, then_ite, Option.bind_none, Bool.not_eq_true', decide_eq_false_iff_not, Bool.and_eq_true, Bool.or_eq_true, Option.some.injEq, Int.not_lt, Int.not_le, lp35_0, q, hx, hy, hs, p, List.length_map]
      refine ⟨i + 1, by simp only [go_sem, reduceIte, Nat.reduceEqDiff, Nat.reduceAdd, Nat.reduceSub, Nat.reduceLeDiff, Nat.reduceLT, reduceCtorEq, Int.reduceLT, Int.reduceLE, Int.reduceEq, Int.reduceBEq, Int.reduceSub, Int.reduceAdd, Int.reduceMul, Int.reduceNeg, Int.reduceToNat, Nat.reduceMul, Nat.reduceBEq, ren1_locm, loc_tips, locT_eq] <;> rfl, ?_, ?_, fun x en s hq => ?_⟩
      · omega
      · omega
      · exact hq
    · have hne : (a[i]'(by omega) :: a.drop (i + 1) = b[i]'(by omega) :: b.drop (i + 1)) = False := by rw [List.cons.injEq, eq_false p, false_and]
      simp only [go_sem, reduceIte, Nat.reduceEqDiff, Nat.reduceAdd, Nat.reduceSub, Nat.reduceLeDiff, Nat.reduceLT, reduceCtorEq, Int.reduceLT, Int.reduceLE, Int.reduceEq, Int.reduceBEq, Int.reduceSub, Int.reduceAdd, Int.reduceMul, Int.reduceNeg, Int.reduceToNat, Nat.reduceMul, Nat.reduceBEq, index_rsl_if, setm, make_ints, condK_dec, wantK_dec, not_dec, and_dec, or_dec, seqK_ite, seqK_none, blockK_ite, blockK_none, opsK_ite, opsK_none, stepK_ite, stepK_none, bodyK_ite, bodyK_none, resK_ite, resK_none, leaveK_ite, leaveK_none, only_ite, only_none, bind_ite, gives_some, gives_none, gives_ite, then_normal, then_ret, then_exit, then_none, then_ite, Option.bind_none, Bool.not_eq_true', decide_eq_false_iff_not, Bool.and_eq_true, Bool.or_eq_true, Option.some.injEq, Int.not_lt, Int.not_le, lp35_0, q, hx, hy, hs, p, List.length_map, hne]
  · rw [List.drop_eq_nil_of_le (by omega), List.drop_eq_nil_of_le (by omega)]
    simp only [go_sem, reduceIte, Nat.reduceEqDiff, Nat.reduceAdd, Nat.reduceSub, Nat.reduceLeDiff, Nat.reduceLT, reduceCtorEq, Int.reduceLT, Int.reduceLE, Int.reduceEq, Int.reduceBEq, Int.reduceSub, Int.reduceAdd, Int.reduceMul, Int.reduceNeg, Int.reduceToNat, Nat.reduceMul, Nat.reduceBEq, index_rsl_if, setm, make_ints, condK_dec, wantK_dec, not_dec, and_dec, or_dec, seqK_ite, seqK_none, blockK_ite, blockK_none, opsK_ite, opsK_none, stepK_ite, stepK_none, bodyK_ite, bodyK_none, resK_ite, resK_none, leaveK_ite, leaveK_none, only_ite, only_none, bind_ite, gives_some, gives_none, gives_ite, then_normal, then_ret, then_exit, then_none, then_ite, Option.bind_none, Bool.not_eq_true', decide_eq_false_iff_not, Bool.and_eq_true, Bool.or_eq_true, Option.some.injEq, Int.not_lt, Int.not_le, lp35_0, q, List.length_map]

theorem c35 (n1 n2 : Bool) (a b : List Int) (hl : a.length < 1000000) (st : St) :
    run L 35 [sl 1 n1 (a.map I), sl 1 n2 (b.map I)] st = some (B (decide (a = b)), st) := by
  rw [run_pure (fn := ir35) rfl rfl]
  by_cases q : a.length = b.length
  · have q' : ((a.length : Int) = (b.length : Int)) = True := eq_true (by omega)
    simp only [ir35, go_sem, reduceIte, Nat.reduceEqDiff, Nat.reduceAdd, Nat.reduceSub, Nat.reduceLeDiff, Nat.reduceLT, reduceCtorEq, Int.reduceLT, Int.reduceLE, Int.reduceEq, Int.reduceBEq, Int.reduceSub, Int.reduceAdd, Int.reduceMul, Int.reduceNeg, Int.reduceToNat, Nat.reduceMul, Nat.reduceBEq, q', List.length_map]
    generalize hg : lim (headed pure (run L) true _ lp35_0 _ _) _ _ = o
    obtain ⟨x, en, s, rfl, h2⟩ : ∃ x en s, o = some (x, en, s) ∧ _ := by rw [← hg]; exact loop35 n1 n2 a b q hl 0 (Nat.zero_le _) _ _ (by simp only [go_sem, reduceIte, Nat.reduceEqDiff, Nat.reduceAdd, Nat.reduceSub, Nat.reduceLeDiff, Nat.reduceLT, reduceCtorEq, Int.reduceLT, Int.reduceLE, Int.reduceEq, Int.reduceBEq, Int.reduceSub, Int.reduceAdd, Int.reduceMul, Int.reduceNeg, Int.reduceToNat, Nat.reduceMul, Nat.reduceBEq] <;> rfl)
    clear hg
    simp only [List.drop_zero] at h2
    split at h2
    · next h =>
      subst h2
      simp only [go_sem, reduceIte, Nat.reduceEqDiff, Nat.reduceAdd, Nat.reduceSub, Nat.reduceLeDiff, Nat.reduceLT, reduceCtorEq, Int.reduceLT, Int.reduceLE, Int.reduceEq, Int.reduceBEq, Int.reduceSub, Int.reduceAdd, Int.reduceMul, Int.reduceNeg, Int.reduceToNat, Nat.reduceMul, Nat.reduceBEq, h]
    · next h =>
      obtain ⟨rfl, h3⟩ := h2
      simp only [go_sem, reduceIte, Nat.reduceEqDiff, Nat.reduceAdd, Nat.reduceSub, Nat.reduceLeDiff, Nat.reduceLT, reduceCtorEq, Int.reduceLT, Int.reduceLE, Int.reduceEq, Int.reduceBEq, Int.reduceSub, Int.reduceAdd, Int.reduceMul, Int.reduceNeg, Int.reduceToNat, Nat.reduceMul, Nat.reduceBEq, h, h3]
  · have q' : ((a.length : Int) = (b.length : Int)) = False := eq_false (by omega)
    have h : ¬ a = b := fun h => q (by rw [h])
    simp only [ir35, go_sem, reduceIte, Nat.reduceEqDiff, Nat.reduceAdd, Nat.reduceSub, Nat.reduceLeDiff, Nat.reduceLT, reduceCtorEq, Int.reduceLT, Int.reduceLE, Int.reduceEq, Int.reduceBEq, Int.reduceSub, Int.reduceAdd, Int.reduceMul, Int.reduceNeg, Int.reduceToNat, Nat.reduceMul, Nat.reduceBEq, q', h, List.length_map]

theorem loop38 (n1 n2 : Bool) (a b : List (Int × Int)) (hlen : a.length = b.length) (hl : a.length < 1000000) (i : Nat) (hok : i ≤ a.length) (env : Env) (st : St)
    (hg : gcAV true 0 0 (canon env [0, 1, 5]) st = ([(0, sl 2 n1 (a.map artAV)), (1, sl 2 n2 (b.map artAV)), (5, I i)], ⟨[], []⟩)) :
    ∃ x_1 en s, lim (headed pure (run L) true [0, 1, 5] lp38_0 0 0) env st = some (x_1, en, s) ∧ (if a.drop i = b.drop i then x_1 = .exit 0 else x_1 = .ret ∧ en.get 4 = B false) := by
  refine loop_wp (α := Nat) (fun i => a.length - i) (fun i => i ≤ a.length) (fun i => ([(0, sl 2 n1 (a.map artAV)), (1, sl 2 n2 (b.map artAV)), (5, I i)], ⟨[], []⟩)) (fun i x_1 en s => if a.drop i = b.drop i then x_1 = .exit 0 else x_1 = .ret ∧ en.get 4 = B false) (fun i hok => ?_) i hok env st hg
  by_cases q : (i : Int) < (a.length : Int)
  · have hx := index_arts n1 a i (by omega)
    have hy := index_arts n2 b i (by omega)
    have hs := succ64 i (by omega)
    have d1 : a.drop i = a[i]'(by omega) :: a.drop (i + 1) := List.drop_eq_getElem_cons (by omega)
    have d2 : b.drop i = b[i]'(by omega) :: b.drop (i + 1) := List.drop_eq_getElem_cons (by omega)
    rw [d1, d2]
    generalize a[i]'(by omega) = x at *
    generalize b[i]'(by omega) = y at *
    obtain ⟨x1, x2⟩ := x
    obtain ⟨y1, y2⟩ := y
    simp only at hx hy
    by_cases p : x1 = y1
    · subst p
      by_cases p2 : x2 = y2
      · subst p2
        have heq : (((x1, x2) : Int × Int) :: a.drop (i + 1) = (x1, x2) :: b.drop (i + 1)) = (a.drop (i + 1) = b.drop (i + 1)) := by simp
        simp only [heq]
        simp only [go_sem, reduceIte, Nat.reduceEqDiff, Nat.reduceAdd, Nat.reduceSub, Nat.reduceLeDiff, Nat.reduceLT, reduceCtorEq, Int.reduceLT, Int.reduceLE, Int.reduceEq, Int.reduceBEq, Int.reduceSub, Int.reduceAdd, Int.reduceMul, Int.reduceNeg, Int.reduceToNat, Nat.reduceMul, Nat.reduceBEq, index_rsl_if, setm, make_ints, condK_dec, wantK_dec, not_dec, and_dec, or_dec, seqK_ite, seqK_none, blockK_ite, blockK_none, opsK_ite, opsK_none, stepK_ite, stepK_none, bodyK_ite, bodyK_none, resK_ite, resK_none, leaveK_ite, leaveK_none, only_ite, only_none, bind_ite, gives_some, gives_none, gives_ite, then_normal, then_ret, then_exit, then_none, then_ite, Option.bind_none, Bool.not_eq_true', decide_eq_false_iff_not, Bool.and_eq_true, Bool.or_eq_true, Option.some.injEq, Int.not_lt, Int.not_le, lp38_0, q, hx, hy, hs, List.length_map]
        refine ⟨i + 1, by simp only [go_sem, reduceIte, Nat.reduceEqDiff, Nat.reduceAdd, Nat.reduceSub, Nat.reduceLeDiff, Nat.reduceLT, reduceCtorEq, Int.reduceLT, Int.reduceLE, Int.reduceEq, Int.reduceBEq, Int.reduceSub, Int.reduceAdd, Int.reduceMul, Int.reduceNeg, Int.reduceToNat, Nat.reduceMul, Nat.reduceBEq, ren1_locm, loc_tips, locT_eq] <;> rfl, ?_, ?_, fun x en s hq => ?_⟩
        · omega
        · omega
        · exact hq
      · have hne : (((x1, x2) : Int × Int) :: a.drop (i + 1) = (x1, y2) :: b.drop (i + 1)) = False := by simp [p2]
        simp only [go_sem, reduceIte, Nat.reduceEqDiff, Nat.reduceAdd, Nat.reduceSub, Nat.reduceLeDiff, Nat.reduceLT, reduceCtorEq, Int.reduceLT, Int.reduceLE, Int.reduceEq, Int.reduceBEq, Int.reduceSub, Int.reduceAdd, Int.reduceMul, Int.reduceNeg, Int.reduceToNat, Nat.reduceMul, Nat.reduceBEq, index_rsl_if, setm, make_ints, condK_dec, wantK_dec, not_dec, and_dec, or_dec, seqK_ite, seqK_none, blockK_ite, blockK_none, opsK_ite, opsK_none, stepK_ite, stepK_none, bodyK_ite, bodyK_none, resK_ite, resK_none, leaveK_ite, leaveK_none, only_ite, only_none, bind_ite, gives_some, gives_none, gives_ite, then_normal, then_ret, then_exit, then_none, then_ite, Option.bind_none, Bool.not_eq_true', decide_eq_false_iff_not, Bool.and_eq_true, Bool.or_eq_true, Option.some.injEq, Int.not_lt, Int.not_le, lp38_0, q, hx, hy, hs, p2, List.length_map, hne]
    · have hne : (((x1, x2) : Int × Int) :: a.drop (i + 1) = (y1, y2) :: b.drop (i + 1)) = False := by simp [p]
      simp only [go_sem, reduceIte, Nat.reduceEqDiff, Nat.reduceAdd, Nat.reduceSub, Nat.reduceLeDiff, Nat.reduceLT, reduceCtorEq, Int.reduceLT, Int.reduceLE, Int.reduceEq, Int.reduceBEq, Int.reduceSub, Int.reduceAdd, Int.reduceMul, Int.reduceNeg, Int.reduceToNat, Nat.reduceMul, Nat.reduceBEq, index_rsl_if, setm, make_ints, condK_dec, wantK_dec, not_dec, and_dec, or_dec, seqK_ite, seqK_none, blockK_ite, blockK_none, opsK_ite, opsK_none, stepK_ite, stepK_none, bodyK_ite, bodyK_none, resK_ite, resK_none, leaveK_ite, leaveK_none, only_ite, only_none, bind_ite, gives_some, gives_none, gives_ite, then_normal, then_ret, then_exit, then_none, then_ite, Option.bind_none, Bool.not_eq_true', decide_eq_false_iff_not, Bool.and_eq_true, Bool.or_eq_true, Option.some.injEq, Int.not_lt, Int.not_le, lp38_0, q, hx, hy, hs, p, List.length_map, hne]
  · rw [List.drop_eq_nil_of_le (by omega), List.drop_eq_nil_of_le (by omega)]
    simp only [go_sem, reduceIte, Nat.reduceEqDiff, Nat.reduceAdd, Nat.reduceSub, Nat.reduceLeDiff, Nat.reduceLT, reduceCtorEq, Int.reduceLT, Int.reduceLE, Int.reduceEq, Int.reduceBEq, Int.reduceSub, Int.reduceAdd, Int.reduceMul, Int.reduceNeg, Int.reduceToNat, Nat.reduceMul, Nat.reduceBEq, index_rsl_if, setm, make_ints, condK_dec, wantK_dec, not_dec, and_dec, or_dec, seqK_ite, seqK_none, blockK_ite, blockK_none, opsK_ite, opsK_none, stepK_ite, stepK_none, bodyK_ite, bodyK_none, resK_ite, resK_none, leaveK_ite, leaveK_none, only_ite, only_none, bind_ite, gives_some, gives_none, gives_ite, then_normal, then_ret, then_exit, then_none, then_ite, Option.bind_none, Bool.not_eq_true', decide_eq_false_iff_not, Bool.and_eq_true, Bool.or_eq_true, Option.some.injEq, Int.not_lt, Int.not_le, lp38_0, q, List.length_map]

theorem c38 (n1 n2 : Bool) (a b : List (Int × Int)) (hl : a.length < 1000000) (st : St) :
    run L 38 [sl 2 n1 (a.map artAV), sl 2 n2 (b.map artAV)] st = some (B (decide (a = b)), st) := by
  rw [run_pure (fn := ir38) rfl rfl]
  by_cases q : a.length = b.length
  · have q' : ((a.length : Int) = (b.length : Int)) = True := eq_true (by omega)
    simp only [ir38, go_sem, reduceIte, Nat.reduceEqDiff, Nat.reduceAdd, Nat.reduceSub, Nat.reduceLeDiff, Nat.reduceLT, reduceCtorEq, Int.reduceLT, Int.reduceLE, Int.reduceEq, Int.reduceBEq, Int.reduceSub, Int.reduceAdd, Int.reduceMul, Int.reduceNeg, Int.reduceToNat, Nat.reduceMul, Nat.reduceBEq, q', List.length_map]
    generalize hg : lim (headed pure (run L) true _ lp38_0 _ _) _ _ = o
    obtain ⟨x, en, s, rfl, h2⟩ : ∃ x en s, o = some (x, en, s) ∧ _ := by rw [← hg]; exact loop38 n1 n2 a b q hl 0 (Nat.zero_le _) _ _ (by simp only [go_sem, reduceIte, Nat.reduceEqDiff, Nat.reduceAdd, Nat.reduceSub, Nat.reduceLeDiff, Nat.reduceLT, reduceCtorEq, Int.reduceLT, Int.reduceLE, Int.reduceEq, Int.reduceBEq, Int.reduceSub, Int.reduceAdd, Int.reduceMul, Int.reduceNeg, Int.reduceToNat, Nat.reduceMul, Nat.reduceBEq] <;> rfl)
    clear hg
    simp only [List.drop_zero] at h2
    split at h2
    · next h =>
      subst h2
      simp only [go_sem, reduceIte, Nat.reduceEqDiff, Nat.reduceAdd, Nat.reduceSub, Nat.reduceLeDiff, Nat.reduceLT, reduceCtorEq, Int.reduceLT, Int.reduceLE, Int.reduceEq, Int.reduceBEq, Int.reduceSub, Int.reduceAdd, Int.reduceMul, Int.reduceNeg, Int.reduceToNat, Nat.reduceMul, Nat.reduceBEq, h]
    · next h =>
      obtain ⟨rfl, h3⟩ := h2
      simp only [go_sem, reduceIte, Nat.reduceEqDiff, Nat.reduceAdd, Nat.reduceSub, Nat.reduceLeDiff, Nat.reduceLT, reduceCtorEq, Int.reduceLT, Int.reduceLE, Int.reduceEq, Int.reduceBEq, Int.reduceSub, Int.reduceAdd, Int.reduceMul, Int.reduceNeg, Int.reduceToNat, Nat.reduceMul, Nat.reduceBEq, h, h3]
  · have q' : ((a.length : Int) = (b.length : Int)) = False := eq_false (by omega)
    have h : ¬ a = b := fun h => q (by rw [h])
    simp only [ir38, go_sem, reduceIte, Nat.reduceEqDiff, Nat.reduceAdd, Nat.reduceSub, Nat.reduceLeDiff, Nat.reduceLT, reduceCtorEq, Int.reduceLT, Int.reduceLE, Int.reduceEq, Int.reduceBEq, Int.reduceSub, Int.reduceAdd, Int.reduceMul, Int.reduceNeg, Int.reduceToNat, Nat.reduceMul, Nat.reduceBEq, q', h, List.length_map]


/-- A function that is called with no state answers the same in each state. -/
theorem run_any {f : FuncId} {fn : IF} (hf : L.fns f = some fn) (hp : L.pure f = true) {args : List AV} {st0 st1 : St} {r : AV} (h : run L f args st0 = some (r, st1)) (st : St) : run L f args st = some (r, st) := by
  rw [run_pure hf hp] at h ⊢
  unfold leaveK at h ⊢
  split at h
  · simp only [leave, Option.some.injEq, Prod.mk.injEq] at h ⊢
    exact ⟨h.1, trivial⟩
  · simp at h

theorem works0 : callAV L 300 17 [] ⟨[], []⟩ = some (.v (.bool true), ⟨[], []⟩) := by kernel_rfl
theorem c17 (st : St) : run L 17 [] st = some (B true, st) :=
  run_any (fn := ir17) rfl rfl ((run_some L).2 ⟨300, works0⟩) st

theorem c3 (nl n2 : Bool) (arts : List (Int × Int)) (room floor : Int) (ends : List Int) (a : Int) (st : St) :
    run L 3 [bookAV nl arts room floor, sl 1 n2 (ends.map I), I a] st = some (B true, st) := by
  rw [run_pure (fn := ir3) rfl rfl]
  by_cases p1 : 40 < (arts.length : Int)
  · simp only [ir3, go_sem, reduceIte, Nat.reduceEqDiff, Nat.reduceAdd, Nat.reduceSub, Nat.reduceLeDiff, Nat.reduceLT, reduceCtorEq, Int.reduceLT, Int.reduceLE, Int.reduceEq, Int.reduceBEq, Int.reduceSub, Int.reduceAdd, Int.reduceMul, Int.reduceNeg, Int.reduceToNat, Nat.reduceMul, Nat.reduceBEq, p1, c17, List.length_map]
  · by_cases p2 : 40 < (ends.length : Int)
    · simp only [ir3, go_sem, reduceIte, Nat.reduceEqDiff, Nat.reduceAdd, Nat.reduceSub, Nat.reduceLeDiff, Nat.reduceLT, reduceCtorEq, Int.reduceLT, Int.reduceLE, Int.reduceEq, Int.reduceBEq, Int.reduceSub, Int.reduceAdd, Int.reduceMul, Int.reduceNeg, Int.reduceToNat, Nat.reduceMul, Nat.reduceBEq, p1, p2, c17, List.length_map]
    · have h18 := fun st => c18 nl arts (by omega) room floor st
      have h19 := fun st => c19 nl n2 arts room floor ends (by omega) st
      have h20 := fun st => c20 true n2 arts room floor ends (by omega) st
      have h21 := fun st => c21 nl n2 arts room floor ends (by omega) st
      have h22 := fun st => c22 true n2 arts room floor ends (by omega) st
      have h23 := fun st => c23 nl n2 arts room floor ends (by omega) a st
      have h24 := fun st => c24 true n2 arts room floor ends (by omega) a st
      have h25 := fun st => c25 nl arts room floor st
      have h26 := fun st => c26 true arts room floor st
      have h27 := fun st => c27 nl n2 arts room floor ends (by omega) st
      have h28 := fun st => c28 true n2 arts room floor ends (by omega) st
      have h29 := fun st => c29 nl n2 arts room floor ends (by omega) st
      have h30 := fun st => c30 true n2 arts room floor ends (by omega) st
      simp only [ir3, go_sem, reduceIte, Nat.reduceEqDiff, Nat.reduceAdd, Nat.reduceSub, Nat.reduceLeDiff, Nat.reduceLT, reduceCtorEq, Int.reduceLT, Int.reduceLE, Int.reduceEq, Int.reduceBEq, Int.reduceSub, Int.reduceAdd, Int.reduceMul, Int.reduceNeg, Int.reduceToNat, Nat.reduceMul, Nat.reduceBEq, p1, p2, c17, List.length_map, h18, h19, h20, h21, h22, h23, h24, h25, h26, h27, h28, h29, h30]
end Go.Proofs.Ytiifibgadipalaa.Vm

namespace Go.Proofs.Ytiifibgadipalaa.Vm
open Go Go.Ev Go.ChangeShapes Go.WideShapes Go.ChangeAt Go.RowKit
set_option maxRecDepth 100000
attribute [local go_sem] cells_any storable_any ren1_any shaped_ptr cells_ptr storable_ptr ren1_ptr shaped_eptr cells_eptr storable_eptr ren1_eptr shaped_rsl cells_rsl storable_rsl ren1_rsl shaped_int cells_int storable_int ren1_int shaped_bool cells_bool storable_bool ren1_bool shaped_nils cells_nils storable_nils ren1_nils shaped_lst cells_lst storable_lst shaped_fn cells_fn storable_fn ren1_fn shaped_ifc cells_ifc storable_ifc ren1_ifc shaped_agg cells_agg storable_agg ren1_agg shaped_tup cells_tup storable_tup ren1_tup shaped_nif cells_nif storable_nif ren1_nif ren1_lany ren1_lfull ren1_lown len_lst len_rsl len_nil load_ptr load_eptr isRsl_lst isRsl_nil isRsl_rsl elems_nil elems_lst elems_sl isRsl_sl body_eq bodyK_normal bodyK_ret resK_some leaveK_some only_some code_skip code_exit code_ret code_ops code_seq code_cond code_block seqK_normal seqK_ret seqK_exit condK_true condK_false blockK_normal blockK_ret blockK_exit opsK_some ops_nil ops_cons wantK_true wantK_false stepK_some pubs pub pub_sl params okRef_loc storable_loc shaped_loc cells_loc isRsl_loc elems_loc len_loc untips untip untip_sl wantedAV setElems withO isAgg_v isAgg_agg isAgg_lst isAgg_ptr isAgg_fn isAgg_ifc isAgg_rsl isAgg_sl isAgg_loc List.replicate_succ List.replicate_zero opAV valAV aval avals ofVal Env.get setD canon gcAV renAll renEnv renStore renCells ren1_sl cutSt okEnv okStore okRefs okRef okRef_sl bin_int bin_bool bin_lst bin_rsl bin_nil bin_agg cellsEq cellEq isShift intOp boolOp min_int max_int beq_int bne resAV tupAV leave_eq fin_sl fin_loc fins fin_v fin_lst fin_agg fin_tup fin_fn storeAV readCells putCells cells_sl shaped_sl storable_sl fieldAddrAV len_sl goI List.getElem?_cons_zero List.getElem?_cons_succ List.getElem?_nil Option.bind_some Option.map_some List.length_cons List.length_nil List.all_cons List.all_nil Bool.and_true Bool.true_and Bool.and_false Bool.false_and and_true true_and and_false false_and Bool.false_eq_true List.set_cons_zero List.set_cons_succ List.append_nil List.nil_append List.cons_append List.take_zero List.take_succ_cons List.take_nil List.drop_zero List.drop_succ_cons List.map_cons List.map_nil decide_true decide_false beq_self_eq_true Bool.not_true Bool.not_false or_true true_or or_false false_or Nat.zero_add Nat.add_zero Nat.le_refl Nat.lt_irrefl decide_eq_true_eq eq_self_iff_true not_true_eq_false not_false_eq_true List.getD_cons_zero code_loop Nat.zero_le Nat.not_lt_zero Bool.true_beq Bool.false_beq beq_true beq_false ge_iff_le gt_iff_lt Lpure pus Option.map_none assert_ifc assert_nil idxA_ptr idxA_eptr idxV_agg Int.cast_ofNat_Int Nat.mul_one Nat.zero_mul Int.toNat_natCast Int.toNat_zero setParts withO2 eqnil_sl nenil_sl eqnil_loc nenil_loc map_nil_iff okRefs_ints renCells_ints

theorem laid : laidOutB Try.prog = true := by kernel_rfl

/-- A law's row, out of what the evaluator answers for all arguments. -/
theorem row_post {os : Os} {f : FuncId} {fn : Func} {s : ChangeSpec} {H : Type} {enc : TypeId × Value → H} (hs : s.vars = [])
    (htys : (fn.params.toList.all fun t => (decide (t < Try.prog.types.size) && okTy Try.prog 8 t) && Try.prog.readableRec t) = true) (hres : fn.resultTypes = #[4])
    (hspec : ∀ ds : List (DataW H), ds.length = fn.params.size → s.fn H ds = { results := [.lit (.bool true)], args := ds })
    (hrun : ∀ vals : List AV, vals.length = fn.params.toList.length → (∀ (j : Nat) t a, fn.params.toList[j]? = some t → vals[j]? = some a → ShV Try.prog 8 t a) → ∃ st, run L f vals ⟨[], []⟩ = some (.v (.bool true), st))
    (W : World) (base : Nat) (args : Array Value) (ds gs : List (DataW H)) (before : List MemPlace) (apart fresh handsOn : Bool)
    (hval : ∀ (j : Nat) t v, fn.params[j]? = some t → args[j]? = some v → Value.okWide Try.prog W .any base t v)
    (hW : DataW.Whole enc Try.prog fn.params.toList s.vars apart W args.toList ds gs before) :
    Calls Try.prog f args W fun e W' => ∃ v, e = .returned v ∧ s.post enc Try.prog fn apart fresh handsOn false W args v W' := by
  have hty : ∀ t ∈ fn.params.toList, (t < Try.prog.types.size ∧ okTy Try.prog 8 t = true) ∧ Try.prog.readableRec t = true := fun t ht => by
    have := List.all_eq_true.1 htys t ht
    simp only [Bool.and_eq_true, decide_eq_true_eq] at this
    exact this
  have hW' := hW
  obtain ⟨p, q, hA, hV, rfl, hfz, hnd⟩ := hW
  rw [hs] at hV
  obtain ⟨rfl, rfl⟩ := trodVars_none hV
  have hlen : ds.length = fn.params.size := by
    have : ∀ {ts : List TypeId} {vs : List Value} {ds : List (DataW H)} {ps : List MemPlace}, DataW.TrodAll enc Try.prog W 0 (fun _ => true) true ts vs ds ps → ds.length = ts.length := by
      intro ts
      induction ts with
      | nil => intro vs ds ps h; cases vs <;> cases ds <;> simp_all [DataW.TrodAll]
      | cons t ts ih =>
        intro vs ds ps h
        cases vs with
        | nil => simp [DataW.TrodAll] at h
        | cons v vs =>
          cases ds with
          | nil => simp [DataW.TrodAll] at h
          | cons d ds =>
            obtain ⟨_, _, _, h2, _⟩ := h
            simp [ih h2]
    simpa using this hA
  refine (law_calls mix libOk laid (fun t ht => (hty t ht).1) hrun (fun j t v ht hv => hval j t v (by simpa using ht) (by simpa using hv)) hA).mono fun e W' ⟨he, hb⟩ => ?_
  subst he
  refine ⟨_, rfl, Go.Ev.post_of_below (pa := p) (pv := []) hW' hb (fun b sp hd => ?_) ?_ ?_ rfl⟩
  · rw [hres, List.append_nil, hspec ds hlen]
    exact trodAll_cons_mk (shut_bool Try.underlying4 _) trodAll_mk0
  · rw [List.append_nil, hspec ds hlen]
    exact args_below laid hb (fun t ht => ⟨(hty t ht).2, (hty t ht).1.1⟩) hA
  · rw [hs, List.append_nil, hspec ds hlen]; rfl
end Go.Proofs.Ytiifibgadipalaa.Vm

namespace Go.Proofs.Ytiifibgadipalaa.Vm
open Go Go.Ev
set_option maxRecDepth 100000
attribute [local go_sem] cells_any storable_any ren1_any shaped_ptr cells_ptr storable_ptr ren1_ptr shaped_eptr cells_eptr storable_eptr ren1_eptr shaped_rsl cells_rsl storable_rsl ren1_rsl shaped_int cells_int storable_int ren1_int shaped_bool cells_bool storable_bool ren1_bool shaped_nils cells_nils storable_nils ren1_nils shaped_lst cells_lst storable_lst shaped_fn cells_fn storable_fn ren1_fn shaped_ifc cells_ifc storable_ifc ren1_ifc shaped_agg cells_agg storable_agg ren1_agg shaped_tup cells_tup storable_tup ren1_tup shaped_nif cells_nif storable_nif ren1_nif ren1_lany ren1_lfull ren1_lown len_lst len_rsl len_nil load_ptr load_eptr isRsl_lst isRsl_nil isRsl_rsl elems_nil elems_lst elems_sl isRsl_sl body_eq bodyK_normal bodyK_ret resK_some leaveK_some only_some code_skip code_exit code_ret code_ops code_seq code_cond code_block seqK_normal seqK_ret seqK_exit condK_true condK_false blockK_normal blockK_ret blockK_exit opsK_some ops_nil ops_cons wantK_true wantK_false stepK_some pubs pub pub_sl params okRef_loc storable_loc shaped_loc cells_loc isRsl_loc elems_loc len_loc untips untip untip_sl wantedAV setElems withO isAgg_v isAgg_agg isAgg_lst isAgg_ptr isAgg_fn isAgg_ifc isAgg_rsl isAgg_sl isAgg_loc List.replicate_succ List.replicate_zero opAV valAV aval avals ofVal Env.get setD canon gcAV renAll renEnv renStore renCells ren1_sl cutSt okEnv okStore okRefs okRef okRef_sl bin_int bin_bool bin_lst bin_rsl bin_nil bin_agg cellsEq cellEq isShift intOp boolOp min_int max_int beq_int bne resAV tupAV leave_eq fin_sl fin_loc fins fin_v fin_lst fin_agg fin_tup fin_fn storeAV readCells putCells cells_sl shaped_sl storable_sl fieldAddrAV len_sl goI List.getElem?_cons_zero List.getElem?_cons_succ List.getElem?_nil Option.bind_some Option.map_some List.length_cons List.length_nil List.all_cons List.all_nil Bool.and_true Bool.true_and Bool.and_false Bool.false_and and_true true_and and_false false_and Bool.false_eq_true List.set_cons_zero List.set_cons_succ List.append_nil List.nil_append List.cons_append List.take_zero List.take_succ_cons List.take_nil List.drop_zero List.drop_succ_cons List.map_cons List.map_nil decide_true decide_false beq_self_eq_true Bool.not_true Bool.not_false or_true true_or or_false false_or Nat.zero_add Nat.add_zero Nat.le_refl Nat.lt_irrefl decide_eq_true_eq eq_self_iff_true not_true_eq_false not_false_eq_true List.getD_cons_zero code_loop Nat.zero_le Nat.not_lt_zero Bool.true_beq Bool.false_beq beq_true beq_false ge_iff_le gt_iff_lt Lpure pus Option.map_none assert_ifc assert_nil idxA_ptr idxA_eptr idxV_agg Int.cast_ofNat_Int Nat.mul_one Nat.zero_mul Int.toNat_natCast Int.toNat_zero setParts withO2 eqnil_sl nenil_sl eqnil_loc nenil_loc map_nil_iff okRefs_ints renCells_ints

abbrev listAV (l : List Int) : AV := sl 1 false (l.map I)

/-- All cuts of the articles from b on, in ascending order (k: how many steps at most). -/
def allCuts (n : Nat) : Nat → Nat → List (List Int)
  | 0, _ => [[]]
  | k + 1, b => if n ≤ b then [[]] else (List.range' (b + 1) (n - b)).flatMap fun e => (allCuts n k e).map ((e : Int) :: ·)
def cutsOf (n b : Nat) : List (List Int) := allCuts n (n - b) b

theorem flatMap_congr' {α β : Type} {l : List α} {f g : α → List β} (h : ∀ x ∈ l, f x = g x) : l.flatMap f = l.flatMap g := by
  induction l with
  | nil => rfl
  | cons a r ih => simp only [List.flatMap_cons]; rw [h a (by simp), ih fun x hx => h x (by simp [hx])]
theorem allCuts_fuel (n : Nat) : ∀ k b, n ≤ b + k → allCuts n k b = cutsOf n b := by
  have key : ∀ m k b, n ≤ b + k → n ≤ b + m → allCuts n k b = allCuts n m b := by
    intro m
    induction m with
    | zero =>
      intro k b h1 h2
      cases k with
      | zero => rfl
      | succ k => simp only [allCuts]; rw [if_pos (by omega)]
    | succ m ih =>
      intro k b h1 h2
      cases k with
      | zero => simp only [allCuts]; rw [if_pos (by omega)]
      | succ k =>
        simp only [allCuts]
        split
        · rfl
        · refine flatMap_congr' fun e he => ?_
          rw [ih k e (by simp [List.mem_range'] at he; omega) (by simp [List.mem_range'] at he; omega)]
  intro k b h
  exact key (n - b) k b h (by omega)
theorem cutsOf_end {n b : Nat} (h : n ≤ b) : cutsOf n b = [[]] := by
  unfold cutsOf; rw [show n - b = 0 by omega]; rfl
theorem cutsOf_eq {n b : Nat} (h : b < n) : cutsOf n b = (List.range' (b + 1) (n - b)).flatMap fun e => (cutsOf n e).map ((e : Int) :: ·) := by
  unfold cutsOf
  obtain ⟨k, hk⟩ : ∃ k, n - b = k + 1 := ⟨n - b - 1, by omega⟩
  rw [hk]
  conv => lhs; simp only [allCuts]
  rw [if_neg (by omega), hk]
  refine flatMap_congr' fun e he => ?_
  rw [allCuts_fuel n k e (by simp [List.mem_range'] at he; omega)]
  rfl
theorem cutsOf_step {n b : Nat} (h : b < n) : cutsOf n b = (cutsOf n (b + 1)).map (((b + 1 : Nat) : Int) :: ·) ++ (if b + 1 < n then cutsOf n (b + 1) else []) := by
  rw [cutsOf_eq h, show n - b = (n - (b + 1)) + 1 by omega, List.range'_succ, List.flatMap_cons]
  congr 1
  split
  · next h1 => rw [cutsOf_eq h1]
  · next h1 => rw [show n - (b + 1) = 0 by omega]; rfl
/-- How many cuts there are, at most. -/
theorem cutsOf_len (n : Nat) : ∀ m b, n - b ≤ m → (cutsOf n b).length ≤ 2 ^ m ∧ 0 < (cutsOf n b).length := by
  intro m
  induction m with
  | zero => intro b h; rw [cutsOf_end (by omega)]; simp
  | succ m ih =>
    intro b h
    by_cases hb : b < n
    · have := ih (b + 1) (by omega)
      rw [cutsOf_step hb, List.length_append, List.length_map, Nat.pow_succ]
      split
      · omega
      · simp; omega
    · rw [cutsOf_end (by omega)]; simp; exact Nat.one_le_two_pow
/-- The cuts whose first end is e or later. -/
def laterCuts (n e : Nat) : List (List Int) := (List.range' e (n + 1 - e)).flatMap fun e => (cutsOf n e).map ((e : Int) :: ·)
theorem laterCuts_end {n e : Nat} (h : n < e) : laterCuts n e = [] := by
  unfold laterCuts; rw [show n + 1 - e = 0 by omega]; rfl
theorem laterCuts_step {n e : Nat} (h : e ≤ n) : laterCuts n e = (cutsOf n e).map ((e : Int) :: ·) ++ laterCuts n (e + 1) := by
  unfold laterCuts
  rw [show n + 1 - e = (n + 1 - (e + 1)) + 1 by omega, List.range'_succ, List.flatMap_cons]
theorem laterCuts_eq {n b : Nat} (h : b < n) : laterCuts n (b + 1) = cutsOf n b := by
  unfold laterCuts; rw [cutsOf_eq h, show n + 1 - (b + 1) = n - b by omega]

/-- Lists with the same beginning. -/
def preL (b : List Int) (l : List (List Int)) : List (List Int) := l.map (b ++ ·)
theorem preL_nil (l : List (List Int)) : preL [] l = l := by simp [preL]
theorem preL_len (b : List Int) (l : List (List Int)) : (preL b l).length = l.length := by simp [preL]

theorem loop84 (n : Nat) (hn : n ≤ 12) (nl : Bool) (begun : List Int) (b : Nat) (hbl : begun.length ≤ b) (hb : b < n) (hrec : ∀ e, b < e → e ≤ n → ∀ st, run L 84 [I n, sl 1 false ((begun ++ [(e : Int)]).map I)] st = some (sl 1 true ((preL (begun ++ [(e : Int)]) (cutsOf n e)).map listAV), st)) (e : Nat) (out : List (List Int)) (hok : b < e ∧ e ≤ n + 1 ∧ out.length + (laterCuts n e).length ≤ 5000) (env : Env) (st : St)
    (hg : gcAV true 0 0 (canon env [0, 1, 6, 7]) st = ([(0, I n), (1, sl 1 nl (begun.map I)), (6, loc 1 0 (out.map listAV)), (7, I e)], ⟨[], locT 0 (out.map listAV)⟩)) :
    ∃ x_1 en s, lim (headed pure (run L) true [0, 1, 6, 7] lp84_0 0 0) env st = some (x_1, en, s) ∧ (x_1 = .exit 0 ∧ en.get 6 = loc 1 0 ((out ++ preL begun (laterCuts n e)).map listAV)) := by
  refine loop_wp (α := Nat × List (List Int)) (fun ⟨e, out⟩ => n + 1 - e) (fun ⟨e, out⟩ => b < e ∧ e ≤ n + 1 ∧ out.length + (laterCuts n e).length ≤ 5000) (fun ⟨e, out⟩ => ([(0, I n), (1, sl 1 nl (begun.map I)), (6, loc 1 0 (out.map listAV)), (7, I e)], ⟨[], locT 0 (out.map listAV)⟩)) (fun ⟨e, out⟩ x_1 en s => x_1 = .exit 0 ∧ en.get 6 = loc 1 0 ((out ++ preL begun (laterCuts n e)).map listAV)) (fun ⟨e, out⟩ hok => ?_) ⟨e, out⟩ hok env st hg
  simp only at hok
  by_cases q : (e : Int) ≤ n
  · have hr := hrec e (by omega) (by omega)
    have hs := succ64 e (by omega)
    have hst := laterCuts_step (n := n) (e := e) (by omega)
    have hpos := (cutsOf_len n (n - e) e (Nat.le_refl _)).2
    have hlen : out.length + (cutsOf n e).length ≤ 5000 := by rw [hst, List.length_append, List.length_map] at hok; omega
    have hnext : (out ++ preL (begun ++ [(e : Int)]) (cutsOf n e)) ++ preL begun (laterCuts n (e + 1)) = out ++ preL begun (laterCuts n e) := by
      rw [hst, preL, preL, preL, List.map_append, List.map_map, List.append_assoc]
      congr 2
      apply List.map_congr_left
      intro l _
      simp
    have hGl : (preL (begun ++ [(e : Int)]) (cutsOf n e)).length = (cutsOf n e).length := preL_len _ _
    have h84 : ∀ g st, run L 84 [I n, .lst g 1 ((begun ++ [(e : Int)]).map I)] st = some (sl 1 true ((preL (begun ++ [(e : Int)]) (cutsOf n e)).map listAV), st) := by
      intro g st
      rw [← hr st]
      exact run_args (fn := ir84) rfl rfl st (by simp only [pubs, pub, pub_sl]; rw [sl_false])
    generalize preL (begun ++ [(e : Int)]) (cutsOf n e) = G at *
    have hys : G.map listAV ≠ [] := by
      intro h; rw [List.map_eq_nil_iff] at h; rw [h] at hGl; simp at hGl; omega
    have happ := fun s T => append_more (z := 1) (k := 0) (xs := out.map listAV) hys s T (by simp [maxGrow]; omega) (by omega)
    have hne : (out.map listAV ++ G.map listAV).length ≠ 0 := by simp only [List.length_append, List.length_map]; omega
    have hmap : out.map listAV ++ G.map listAV = (out ++ G).map listAV := by rw [List.map_append]
    have hok' : b < e + 1 ∧ e + 1 ≤ n + 1 ∧ (out ++ G).length + (laterCuts n (e + 1)).length ≤ 5000 := by
      rw [hst, List.length_append, List.length_map] at hok
      simp only [List.length_append]
      omega
    have hmeas : n + 1 - (e + 1) < n + 1 - e := by omega
    by_cases hbn : begun = []
    · subst hbn
      have h33 := fun st => copy_nil 1 st
      have h36 := fun st => copy_some (z := 1) (xs := [I (e : Int)]) (by simp) (by simp [maxGrow]) st
      simp only [List.nil_append, List.map_cons, List.map_nil] at h84
      simp only [go_sem, reduceIte, Nat.reduceEqDiff, Nat.reduceAdd, Nat.reduceSub, Nat.reduceLeDiff, Nat.reduceLT, reduceCtorEq, Int.reduceLT, Int.reduceLE, Int.reduceEq, Int.reduceBEq, Int.reduceSub, Int.reduceAdd, Int.reduceMul, Int.reduceNeg, Int.reduceToNat, Nat.reduceMul, Nat.reduceBEq, index_rsl_if, setm, make_ints, condK_dec, wantK_dec, not_dec, and_dec, or_dec, seqK_ite, seqK_none, blockK_ite, blockK_none, opsK_ite, opsK_none, stepK_ite, stepK_none, bodyK_ite, bodyK_none, resK_ite, resK_none, leaveK_ite, leaveK_none, only_ite, only_none, bind_ite, gives_some, gives_none, gives_ite, then_normal, then_ret, then_exit, then_none, then_ite, Option.bind_none, Bool.not_eq_true', decide_eq_false_iff_not, Bool.and_eq_true, Bool.or_eq_true, Option.some.injEq, Int.not_lt, Int.not_le, lp84_0, q, h33, h36, h84, hs, happ, List.length_cons, List.length_nil]
      refine ⟨(e + 1, out ++ G), by simp only [go_sem, reduceIte, Nat.reduceEqDiff, Nat.reduceAdd, Nat.reduceSub, Nat.reduceLeDiff, Nat.reduceLT, reduceCtorEq, Int.reduceLT, Int.reduceLE, Int.reduceEq, Int.reduceBEq, Int.reduceSub, Int.reduceAdd, Int.reduceMul, Int.reduceNeg, Int.reduceToNat, Nat.reduceMul, Nat.reduceBEq, okRef_more, ren1_more]; rw [loc_own hne, hmap, locT_own (k := 0) (xs := (out ++ G).map listAV) (by rw [← hmap]; exact hne)], hok', hmeas, fun x en s hq => ?_⟩
      simp only at hq ⊢
      rw [hnext] at hq
      exact hq
    · have hbm : begun.map I ≠ [] := by simpa using hbn
      have h33 := fun st => copy_some (z := 1) hbm (by simp [maxGrow]; omega) st
      have h36 : ∀ s T, appendAV 1 (.lst (.own T.length begun.length) 1 (begun.map I)) [I (e : Int)] ⟨s, T ++ [begun.length]⟩ = some (.lst (.own T.length (begun.length + 1)) 1 ((begun ++ [(e : Int)]).map I), ⟨s, T ++ [begun.length + 1]⟩) := by
        intro s T
        have := copy_one (z := 1) (xs := begun.map I) (I (e : Int)) s T (by simp [maxGrow]; omega)
        simpa using this
      simp only [go_sem, reduceIte, Nat.reduceEqDiff, Nat.reduceAdd, Nat.reduceSub, Nat.reduceLeDiff, Nat.reduceLT, reduceCtorEq, Int.reduceLT, Int.reduceLE, Int.reduceEq, Int.reduceBEq, Int.reduceSub, Int.reduceAdd, Int.reduceMul, Int.reduceNeg, Int.reduceToNat, Nat.reduceMul, Nat.reduceBEq, index_rsl_if, setm, make_ints, condK_dec, wantK_dec, not_dec, and_dec, or_dec, seqK_ite, seqK_none, blockK_ite, blockK_none, opsK_ite, opsK_none, stepK_ite, stepK_none, bodyK_ite, bodyK_none, resK_ite, resK_none, leaveK_ite, leaveK_none, only_ite, only_none, bind_ite, gives_some, gives_none, gives_ite, then_normal, then_ret, then_exit, then_none, then_ite, Option.bind_none, Bool.not_eq_true', decide_eq_false_iff_not, Bool.and_eq_true, Bool.or_eq_true, Option.some.injEq, Int.not_lt, Int.not_le, lp84_0, q, h33, h36, h84, hs, happ, List.length_map]
      refine ⟨(e + 1, out ++ G), by simp only [go_sem, reduceIte, Nat.reduceEqDiff, Nat.reduceAdd, Nat.reduceSub, Nat.reduceLeDiff, Nat.reduceLT, reduceCtorEq, Int.reduceLT, Int.reduceLE, Int.reduceEq, Int.reduceBEq, Int.reduceSub, Int.reduceAdd, Int.reduceMul, Int.reduceNeg, Int.reduceToNat, Nat.reduceMul, Nat.reduceBEq, okRef_more, ren1_more]; rw [loc_own hne, hmap, locT_own (k := 0) (xs := (out ++ G).map listAV) (by rw [← hmap]; exact hne)], hok', hmeas, fun x en s hq => ?_⟩
      simp only at hq ⊢
      rw [hnext] at hq
      exact hq
  · simp only [go_sem, reduceIte, Nat.reduceEqDiff, Nat.reduceAdd, Nat.reduceSub, Nat.reduceLeDiff, Nat.reduceLT, reduceCtorEq, Int.reduceLT, Int.reduceLE, Int.reduceEq, Int.reduceBEq, Int.reduceSub, Int.reduceAdd, Int.reduceMul, Int.reduceNeg, Int.reduceToNat, Nat.reduceMul, Nat.reduceBEq, index_rsl_if, setm, make_ints, condK_dec, wantK_dec, not_dec, and_dec, or_dec, seqK_ite, seqK_none, blockK_ite, blockK_none, opsK_ite, opsK_none, stepK_ite, stepK_none, bodyK_ite, bodyK_none, resK_ite, resK_none, leaveK_ite, leaveK_none, only_ite, only_none, bind_ite, gives_some, gives_none, gives_ite, then_normal, then_ret, then_exit, then_none, then_ite, Option.bind_none, Bool.not_eq_true', decide_eq_false_iff_not, Bool.and_eq_true, Bool.or_eq_true, Option.some.injEq, Int.not_lt, Int.not_le, lp84_0, q]
    rw [laterCuts_end (by omega)]; simp [preL]

theorem c84 (n : Nat) (hn : n ≤ 12) (hn1 : 1 ≤ n) : ∀ (m : Nat) (nl : Bool) (begun : List Int) (b : Nat), n - b = m → b ≤ n → begun.length ≤ b → beginOf begun begun.length = b → ∀ st,
    run L 84 [I n, sl 1 nl (begun.map I)] st = some (sl 1 true ((preL begun (cutsOf n b)).map listAV), st) := by
  intro m
  induction m using Nat.strongRecOn with
  | ind m ih =>
    intro nl begun b hm hb hbl hlast st
    rw [run_pure (fn := ir84) rfl rfl]
    have hrec : b < n → ∀ e, b < e → e ≤ n → ∀ st, run L 84 [I n, sl 1 false ((begun ++ [(e : Int)]).map I)] st = some (sl 1 true ((preL (begun ++ [(e : Int)]) (cutsOf n e)).map listAV), st) := by
      intro _ e h1 h2 st
      exact ih (n - e) (by omega) false (begun ++ [(e : Int)]) e rfl h2 (by simp; omega) (by simp [beginOf]) st
    have hpow : 2 ^ (n - b) ≤ 4096 := Nat.le_trans (Nat.pow_le_pow_right (by omega) (show n - b ≤ 12 by omega)) (by decide)
    have hcl := (cutsOf_len n (n - b) b (Nat.le_refl _)).1
    have hs := succ64 b (by omega)
    by_cases p0 : (0 : Int) < (begun.length : Int)
    · have hx : indexSAV 1 (sl 1 nl (begun.map I)) (.v (.int .i64 ((begun.length : Int) - 1))) = some (.eptr (I b) 0) := by
        have := index_ints nl begun (begun.length - 1) (by omega)
        rw [show ((begun.length - 1 : Nat) : Int) = (begun.length : Int) - 1 by omega] at this
        rw [this]
        have h2 := beginOf_succ begun (begun.length - 1) (by omega)
        rw [show begun.length - 1 + 1 = begun.length by omega, hlast] at h2
        rw [← h2]
      have hw : IntKind.i64.wrap ((begun.length : Int) - 1) = (begun.length : Int) - 1 := by rw [wrap64] <;> omega
      by_cases p1 : (n : Int) < ((b + 1 : Nat) : Int)
      · have hne : begun.map I ≠ [] := by intro h; rw [List.map_eq_nil_iff] at h; subst h; simp at p0
        have hc : cutsOf n b = [[]] := cutsOf_end (by omega)
        have hsl : sl 1 nl (begun.map I) = .lst .any 1 (begun.map I) := sl_ne hne
        rw [hsl] at hx ⊢
        simp only [ir84, go_sem, reduceIte, Nat.reduceEqDiff, Nat.reduceAdd, Nat.reduceSub, Nat.reduceLeDiff, Nat.reduceLT, reduceCtorEq, Int.reduceLT, Int.reduceLE, Int.reduceEq, Int.reduceBEq, Int.reduceSub, Int.reduceAdd, Int.reduceMul, Int.reduceNeg, Int.reduceToNat, Nat.reduceMul, Nat.reduceBEq, p0, p1, hx, hw, hs, hc, List.length_map, preL]
        rfl
      · simp only [ir84, go_sem, reduceIte, Nat.reduceEqDiff, Nat.reduceAdd, Nat.reduceSub, Nat.reduceLeDiff, Nat.reduceLT, reduceCtorEq, Int.reduceLT, Int.reduceLE, Int.reduceEq, Int.reduceBEq, Int.reduceSub, Int.reduceAdd, Int.reduceMul, Int.reduceNeg, Int.reduceToNat, Nat.reduceMul, Nat.reduceBEq, p0, p1, hx, hw, hs, List.length_map]
        generalize hg : lim (headed pure (run L) true _ lp84_0 _ _) _ _ = o
        obtain ⟨x, en, s, rfl, h2⟩ : ∃ x en s, o = some (x, en, s) ∧ _ := by rw [← hg]; exact loop84 n hn nl begun b hbl (by omega) (hrec (by omega)) (b + 1) [] ⟨by omega, by omega, by rw [laterCuts_eq (by omega)]; simp; omega⟩ _ _ (by simp only [go_sem, reduceIte, Nat.reduceEqDiff, Nat.reduceAdd, Nat.reduceSub, Nat.reduceLeDiff, Nat.reduceLT, reduceCtorEq, Int.reduceLT, Int.reduceLE, Int.reduceEq, Int.reduceBEq, Int.reduceSub, Int.reduceAdd, Int.reduceMul, Int.reduceNeg, Int.reduceToNat, Nat.reduceMul, Nat.reduceBEq, loc_start, locT] <;> rfl)
        clear hg
        obtain ⟨rfl, h3⟩ := h2
        rw [laterCuts_eq (by omega), List.nil_append] at h3
        simp only [go_sem, reduceIte, Nat.reduceEqDiff, Nat.reduceAdd, Nat.reduceSub, Nat.reduceLeDiff, Nat.reduceLT, reduceCtorEq, Int.reduceLT, Int.reduceLE, Int.reduceEq, Int.reduceBEq, Int.reduceSub, Int.reduceAdd, Int.reduceMul, Int.reduceNeg, Int.reduceToNat, Nat.reduceMul, Nat.reduceBEq, h3]
    · have hbn : begun = [] := List.eq_nil_of_length_eq_zero (by omega)
      subst hbn
      obtain rfl : b = 0 := by simp [beginOf] at hlast; omega
      have p1 : ((n : Int) < 1) = False := eq_false (by omega)
      simp only [ir84, go_sem, reduceIte, Nat.reduceEqDiff, Nat.reduceAdd, Nat.reduceSub, Nat.reduceLeDiff, Nat.reduceLT, reduceCtorEq, Int.reduceLT, Int.reduceLE, Int.reduceEq, Int.reduceBEq, Int.reduceSub, Int.reduceAdd, Int.reduceMul, Int.reduceNeg, Int.reduceToNat, Nat.reduceMul, Nat.reduceBEq, p1, List.length_map]
      generalize hg : lim (headed pure (run L) true _ lp84_0 _ _) _ _ = o
      obtain ⟨x, en, s, rfl, h2⟩ : ∃ x en s, o = some (x, en, s) ∧ _ := by rw [← hg]; exact loop84 n hn nl [] 0 (by simp) (by omega) (hrec (by omega)) 1 [] ⟨by omega, by omega, by rw [show 1 = 0 + 1 from rfl, laterCuts_eq (by omega)]; simp; omega⟩ _ _ (by simp only [go_sem, reduceIte, Nat.reduceEqDiff, Nat.reduceAdd, Nat.reduceSub, Nat.reduceLeDiff, Nat.reduceLT, reduceCtorEq, Int.reduceLT, Int.reduceLE, Int.reduceEq, Int.reduceBEq, Int.reduceSub, Int.reduceAdd, Int.reduceMul, Int.reduceNeg, Int.reduceToNat, Nat.reduceMul, Nat.reduceBEq, loc_start, locT] <;> rfl)
      clear hg
      obtain ⟨rfl, h3⟩ := h2
      rw [show 1 = 0 + 1 from rfl, laterCuts_eq (by omega), List.nil_append] at h3
      simp only [go_sem, reduceIte, Nat.reduceEqDiff, Nat.reduceAdd, Nat.reduceSub, Nat.reduceLeDiff, Nat.reduceLT, reduceCtorEq, Int.reduceLT, Int.reduceLE, Int.reduceEq, Int.reduceBEq, Int.reduceSub, Int.reduceAdd, Int.reduceMul, Int.reduceNeg, Int.reduceToNat, Nat.reduceMul, Nat.reduceBEq, h3]


/-- All volumes of a cut are as asked for. -/
def okC (p : Int → Int → Bool) : Int → List Int → Bool
  | _, [] => true
  | b, e :: r => p b e && okC p e r
/-- Where a cut ends. -/
def endOf : Int → List Int → Int
  | b, [] => b
  | _, e :: r => endOf e r
theorem endOf_last : ∀ (b : Int) (c : List Int), endOf b c = if c.length = 0 then b else c.getD (c.length - 1) 0
  | b, [] => by simp [endOf]
  | b, [e] => by simp [endOf]
  | b, e :: f :: r => by
    have := endOf_last e (f :: r)
    simp only [endOf] at this ⊢
    rw [this]
    simp
theorem endOf_begin (c : List Int) : beginOf c c.length = endOf 0 c := by rw [endOf_last]; rfl

theorem cuts_ok (n : Nat) : ∀ (m b : Nat), n - b = m → b ≤ n → ∀ c ∈ cutsOf n b, loopErr n b c = 0 ∧ endOf b c = n := by
  intro m
  induction m using Nat.strongRecOn with
  | ind m ih =>
    intro b hm hb c hc
    by_cases h : b < n
    · rw [cutsOf_eq h] at hc
      simp only [List.mem_flatMap, List.mem_map] at hc
      obtain ⟨e, he, r, hr, rfl⟩ := hc
      simp only [List.mem_range'] at he
      obtain ⟨i, hi, rfl⟩ := he
      obtain ⟨h1, h2⟩ := ih (n - (b + 1 + 1 * i)) (by omega) (b + 1 + 1 * i) rfl (by omega) r hr
      refine ⟨?_, h2⟩
      simp only [loopErr]
      rw [if_neg (by omega), if_neg (by omega)]
      exact h1
    · rw [cutsOf_end (by omega)] at hc
      simp at hc
      subst hc
      exact ⟨rfl, by simp only [endOf]; omega⟩
theorem cut_err {arts : List (Int × Int)} {room floor : Int} (hc : check arts room floor = 0) {c : List Int} (h : c ∈ cutsOf arts.length 0) : cutErr arts room floor c = 0 := by
  obtain ⟨h1, h2⟩ := cuts_ok arts.length arts.length 0 rfl (by omega) c h
  unfold cutErr
  simp only [Int.natCast_zero] at h1 h2
  rw [if_pos hc, if_pos h1, if_pos (by rw [endOf_begin]; exact h2)]

theorem firstV_neg (l : List Int) (q : Int → Bool) : ∀ (b : Int) (v : Nat) (c : List Int), (firstV l q b v c < 0) ↔ okC (fun b e => !q (seg l b e)) b c = true
  | b, v, [] => by simp [firstV, okC]
  | b, v, e :: r => by
    simp only [firstV, okC]
    cases h : q (seg l b e) with
    | true => simp
    | false => simp; exact firstV_neg l q e (v + 1) r
theorem okC_and (p q : Int → Int → Bool) : ∀ (b : Int) (c : List Int), okC (fun b e => p b e && q b e) b c = (okC p b c && okC q b c)
  | b, [] => rfl
  | b, e :: r => by
    simp only [okC, okC_and p q e r]
    cases p b e <;> cases q b e <;> cases okC p e r <;> cases okC q e r <;> rfl
theorem okC_congr {p q : Int → Int → Bool} (h : ∀ b e, p b e = q b e) : ∀ (b : Int) (c : List Int), okC p b c = okC q b c
  | b, [] => rfl
  | b, e :: r => by simp only [okC, h, okC_congr h e r]

/-- A volume is good. -/
def goodP (arts : List (Int × Int)) (room floor : Int) (safe : Bool) (b e : Int) : Bool := decide (seg (mosts arts) b e ≤ room) && (!safe || decide (floor ≤ seg (leasts arts) b e))
/-- All cuts that hold, and are safe if asked for. -/
def goodL (arts : List (Int × Int)) (room floor : Int) (safe : Bool) : List (List Int) := (cutsOf arts.length 0).filter (okC (goodP arts room floor safe) 0)

theorem good_iff (arts : List (Int × Int)) (room floor : Int) (safe : Bool) (c : List Int) :
    okC (goodP arts room floor safe) 0 c = (decide (mayN arts room c 0 = c.length) && (!safe || !thinB arts floor c 0)) := by
  have h1 : okC (fun b e => decide (seg (mosts arts) b e ≤ room)) 0 c = decide (mayN arts room c 0 = c.length) := by
    have := firstV_neg (mosts arts) (fun n => decide (n > room)) 0 0 c
    rw [Bool.eq_iff_iff, decide_eq_true_eq, mayN_eq, this]
    rw [okC_congr (q := fun b e => !decide (seg (mosts arts) b e > room)) (fun b e => by rw [Bool.eq_iff_iff]; simp)]
  have h2 : okC (fun b e => decide (floor ≤ seg (leasts arts) b e)) 0 c = !thinB arts floor c 0 := by
    have := firstV_neg (leasts arts) (fun n => decide (n < floor)) 0 0 c
    have ht : thinB arts floor c 0 = decide (0 ≤ firstV (leasts arts) (fun n => decide (n < floor)) 0 0 c) := rfl
    rw [ht, Bool.eq_iff_iff]
    rw [okC_congr (q := fun b e => !decide (seg (leasts arts) b e < floor)) (fun b e => by rw [Bool.eq_iff_iff]; simp), ← this]
    simp
  rw [← h1]
  cases safe with
  | false =>
    simp only [Bool.not_false, Bool.true_or, Bool.and_true]
    exact okC_congr (fun b e => by simp [goodP]) 0 c
  | true =>
    simp only [Bool.not_true, Bool.false_or]
    rw [← h2, ← okC_and]
    exact okC_congr (fun b e => by simp [goodP]) 0 c

theorem index_lists (nl : Bool) (xs : List (List Int)) (i : Nat) (h : i < xs.length) : indexSAV 1 (sl 1 nl (xs.map listAV)) (.v (.int .i64 i)) = some (.eptr (listAV xs[i]) 0) := by
  rw [index_sl _ _ _ _ _ (by omega) (by simpa using h)]
  simp

theorem loop83 (nl : Bool) (arts : List (Int × Int)) (room floor : Int) (hc : check arts room floor = 0) (safe : Bool) (L0 : List (List Int)) (hL : L0 = cutsOf arts.length 0) (hlen : L0.length ≤ 5000) (i : Nat) (hok : i ≤ L0.length) (env : Env) (st : St)
    (hg : gcAV true 1 0 (canon env [1, 2, 5, 6, 7]) st = ([(1, B safe), (2, .ptr 0 0), (5, loc 1 0 (((L0.take i).filter (okC (goodP arts room floor safe) 0)).map listAV)), (6, sl 1 true (L0.map listAV)), (7, I i)], ⟨[bookCells nl arts room floor], locT 0 (((L0.take i).filter (okC (goodP arts room floor safe) 0)).map listAV)⟩)) :
    ∃ x_1 en s, lim (headed pure (run L) true [1, 2, 5, 6, 7] lp83_0 1 0) env st = some (x_1, en, s) ∧ (x_1 = .exit 0 ∧ en.get 5 = loc 1 0 ((L0.filter (okC (goodP arts room floor safe) 0)).map listAV)) := by
  refine loop_wp (α := Nat) (fun i => L0.length - i) (fun i => i ≤ L0.length) (fun i => ([(1, B safe), (2, .ptr 0 0), (5, loc 1 0 (((L0.take i).filter (okC (goodP arts room floor safe) 0)).map listAV)), (6, sl 1 true (L0.map listAV)), (7, I i)], ⟨[bookCells nl arts room floor], locT 0 (((L0.take i).filter (okC (goodP arts room floor safe) 0)).map listAV)⟩)) (fun i x_1 en s => x_1 = .exit 0 ∧ en.get 5 = loc 1 0 ((L0.filter (okC (goodP arts room floor safe) 0)).map listAV)) (fun i hok => ?_) i hok env st hg
  by_cases q : (i : Int) < (L0.length : Int)
  · have hx := index_lists true L0 i (by omega)
    have hs := succ64 i (by omega)
    have hmem : L0[i]'(by omega) ∈ cutsOf arts.length 0 := by rw [← hL]; exact List.getElem_mem _
    obtain ⟨g1, g2, g3, g4⟩ := mosts_ok hc
    have hcl : (L0[i]'(by omega)).length < 1000 := by
      have h1 := (cuts_ok arts.length arts.length 0 rfl (by omega) _ hmem).1
      have : ∀ (n last : Int) (c : List Int), loopErr n last c = 0 → last + c.length ≤ n ∨ c = [] := by
        intro n last c
        induction c generalizing last with
        | nil => intro _; exact .inr rfl
        | cons e r ih =>
          intro h
          obtain ⟨q1, q2, q3, q4⟩ := loopErr_cons h
          rcases ih e q4 with h5 | h5
          · simp only [List.length_cons]; exact .inl (by omega)
          · subst h5; simp only [List.length_cons, List.length_nil]; exact .inl (by omega)
      rcases this _ _ _ h1 with h2 | h2
      · omega
      · rw [h2]; simp
    have h70 := fun st => c70 nl false arts room floor _ hcl (cut_err hc hmem) st
    have h81 := fun st => c81 nl false arts room floor _ hcl (cut_err hc hmem) st
    have hgi := good_iff arts room floor safe (L0[i]'(by omega))
    have htk : L0.take (i + 1) = L0.take i ++ [L0[i]'(by omega)] := (List.take_append_getElem (by omega)).symm
    have hfl : (L0.take i).filter (okC (goodP arts room floor safe) 0) |>.length |> (· ≤ 5000) := by
      have h1 := List.length_filter_le (okC (goodP arts room floor safe) 0) (L0.take i)
      have h2 : (L0.take i).length ≤ L0.length := by simp; omega
      exact Nat.le_trans h1 (Nat.le_trans h2 hlen)
    have happ := append_locm (z := 1) (k := 0) listAV ((L0.take i).filter (okC (goodP arts room floor safe) 0)) (L0[i]'(by omega)) [bookCells nl arts room floor] (by omega) (by simp only [maxGrow]; simp only at hfl; omega)
    generalize hG : (L0.take i).filter (okC (goodP arts room floor safe) 0) = G at *
    generalize hc0 : L0[i]'(by omega) = c at *
    by_cases p1 : mayN arts room c 0 = c.length
    · cases safe with
      | false =>
        have hg : okC (goodP arts room floor false) 0 c = true := by rw [hgi]; simp [p1]
        have hn : (L0.take (i + 1)).filter (okC (goodP arts room floor false) 0) = G ++ [c] := by rw [htk, List.filter_append, hG]; simp [hg]
        simp only [go_sem, reduceIte, Nat.reduceEqDiff, Nat.reduceAdd, Nat.reduceSub, Nat.reduceLeDiff, Nat.reduceLT, reduceCtorEq, Int.reduceLT, Int.reduceLE, Int.reduceEq, Int.reduceBEq, Int.reduceSub, Int.reduceAdd, Int.reduceMul, Int.reduceNeg, Int.reduceToNat, Nat.reduceMul, Nat.reduceBEq, index_rsl_if, setm, make_ints, condK_dec, wantK_dec, not_dec, and_dec, or_dec, seqK_ite, seqK_none, blockK_ite, blockK_none, opsK_ite, opsK_none, stepK_ite, stepK_none, bodyK_ite, bodyK_none, resK_ite, resK_none, leaveK_ite, leaveK_none, only_ite, only_none, bind_ite, gives_some, gives_none, gives_ite, then_normal, then_ret, then_exit, then_none, then_ite, Option.bind_none, Bool.not_eq_true', decide_eq_false_iff_not, Bool.and_eq_true, Bool.or_eq_true, Option.some.injEq, Int.not_lt, Int.not_le, lp83_0, q, hx, hs, h70, h81, p1, happ, List.length_map]
        refine ⟨i + 1, by simp only [go_sem, reduceIte, Nat.reduceEqDiff, Nat.reduceAdd, Nat.reduceSub, Nat.reduceLeDiff, Nat.reduceLT, reduceCtorEq, Int.reduceLT, Int.reduceLE, Int.reduceEq, Int.reduceBEq, Int.reduceSub, Int.reduceAdd, Int.reduceMul, Int.reduceNeg, Int.reduceToNat, Nat.reduceMul, Nat.reduceBEq, ren1_locm, loc_tips, locT_eq, hn] <;> rfl, ?_, ?_, fun x en s hq => ?_⟩
        · omega
        · omega
        · exact hq
      | true =>
        by_cases p2 : thinB arts floor c 0 = true
        · have hg : okC (goodP arts room floor true) 0 c = false := by rw [hgi]; simp [p2]
          have hn : (L0.take (i + 1)).filter (okC (goodP arts room floor true) 0) = G := by rw [htk, List.filter_append, hG]; simp [hg]
          simp only [go_sem, reduceIte, Nat.reduceEqDiff, Nat.reduceAdd, Nat.reduceSub, Nat.reduceLeDiff, Nat.reduceLT, reduceCtorEq, Int.reduceLT, Int.reduceLE, Int.reduceEq, Int.reduceBEq, Int.reduceSub, Int.reduceAdd, Int.reduceMul, Int.reduceNeg, Int.reduceToNat, Nat.reduceMul, Nat.reduceBEq, index_rsl_if, setm, make_ints, condK_dec, wantK_dec, not_dec, and_dec, or_dec, seqK_ite, seqK_none, blockK_ite, blockK_none, opsK_ite, opsK_none, stepK_ite, stepK_none, bodyK_ite, bodyK_none, resK_ite, resK_none, leaveK_ite, leaveK_none, only_ite, only_none, bind_ite, gives_some, gives_none, gives_ite, then_normal, then_ret, then_exit, then_none, then_ite, Option.bind_none, Bool.not_eq_true', decide_eq_false_iff_not, Bool.and_eq_true, Bool.or_eq_true, Option.some.injEq, Int.not_lt, Int.not_le, lp83_0, q, hx, hs, h70, h81, p1, p2, happ, List.length_map]
          refine ⟨i + 1, by simp only [go_sem, reduceIte, Nat.reduceEqDiff, Nat.reduceAdd, Nat.reduceSub, Nat.reduceLeDiff, Nat.reduceLT, reduceCtorEq, Int.reduceLT, Int.reduceLE, Int.reduceEq, Int.reduceBEq, Int.reduceSub, Int.reduceAdd, Int.reduceMul, Int.reduceNeg, Int.reduceToNat, Nat.reduceMul, Nat.reduceBEq, ren1_locm, loc_tips, locT_eq, hn] <;> rfl, ?_, ?_, fun x en s hq => ?_⟩
          · omega
          · omega
          · exact hq
        · have p2' : thinB arts floor c 0 = false := by simpa using p2
          have hg : okC (goodP arts room floor true) 0 c = true := by rw [hgi]; simp [p1, p2']
          have hn : (L0.take (i + 1)).filter (okC (goodP arts room floor true) 0) = G ++ [c] := by rw [htk, List.filter_append, hG]; simp [hg]
          simp only [go_sem, reduceIte, Nat.reduceEqDiff, Nat.reduceAdd, Nat.reduceSub, Nat.reduceLeDiff, Nat.reduceLT, reduceCtorEq, Int.reduceLT, Int.reduceLE, Int.reduceEq, Int.reduceBEq, Int.reduceSub, Int.reduceAdd, Int.reduceMul, Int.reduceNeg, Int.reduceToNat, Nat.reduceMul, Nat.reduceBEq, index_rsl_if, setm, make_ints, condK_dec, wantK_dec, not_dec, and_dec, or_dec, seqK_ite, seqK_none, blockK_ite, blockK_none, opsK_ite, opsK_none, stepK_ite, stepK_none, bodyK_ite, bodyK_none, resK_ite, resK_none, leaveK_ite, leaveK_none, only_ite, only_none, bind_ite, gives_some, gives_none, gives_ite, then_normal, then_ret, then_exit, then_none, then_ite, Option.bind_none, Bool.not_eq_true', decide_eq_false_iff_not, Bool.and_eq_true, Bool.or_eq_true, Option.some.injEq, Int.not_lt, Int.not_le, lp83_0, q, hx, hs, h70, h81, p1, p2', happ, List.length_map]
          refine ⟨i + 1, by simp only [go_sem, reduceIte, Nat.reduceEqDiff, Nat.reduceAdd, Nat.reduceSub, Nat.reduceLeDiff, Nat.reduceLT, reduceCtorEq, Int.reduceLT, Int.reduceLE, Int.reduceEq, Int.reduceBEq, Int.reduceSub, Int.reduceAdd, Int.reduceMul, Int.reduceNeg, Int.reduceToNat, Nat.reduceMul, Nat.reduceBEq, ren1_locm, loc_tips, locT_eq, hn] <;> rfl, ?_, ?_, fun x en s hq => ?_⟩
          · omega
          · omega
          · exact hq
    · have hg : okC (goodP arts room floor safe) 0 c = false := by rw [hgi]; simp [p1]
      have hn : (L0.take (i + 1)).filter (okC (goodP arts room floor safe) 0) = G := by rw [htk, List.filter_append, hG]; simp [hg]
      simp only [go_sem, reduceIte, Nat.reduceEqDiff, Nat.reduceAdd, Nat.reduceSub, Nat.reduceLeDiff, Nat.reduceLT, reduceCtorEq, Int.reduceLT, Int.reduceLE, Int.reduceEq, Int.reduceBEq, Int.reduceSub, Int.reduceAdd, Int.reduceMul, Int.reduceNeg, Int.reduceToNat, Nat.reduceMul, Nat.reduceBEq, index_rsl_if, setm, make_ints, condK_dec, wantK_dec, not_dec, and_dec, or_dec, seqK_ite, seqK_none, blockK_ite, blockK_none, opsK_ite, opsK_none, stepK_ite, stepK_none, bodyK_ite, bodyK_none, resK_ite, resK_none, leaveK_ite, leaveK_none, only_ite, only_none, bind_ite, gives_some, gives_none, gives_ite, then_normal, then_ret, then_exit, then_none, then_ite, Option.bind_none, Bool.not_eq_true', decide_eq_false_iff_not, Bool.and_eq_true, Bool.or_eq_true, Option.some.injEq, Int.not_lt, Int.not_le, lp83_0, q, hx, hs, h70, h81, p1, happ, List.length_map]
      refine ⟨i + 1, by simp only [go_sem, reduceIte, Nat.reduceEqDiff, Nat.reduceAdd, Nat.reduceSub, Nat.reduceLeDiff, Nat.reduceLT, reduceCtorEq, Int.reduceLT, Int.reduceLE, Int.reduceEq, Int.reduceBEq, Int.reduceSub, Int.reduceAdd, Int.reduceMul, Int.reduceNeg, Int.reduceToNat, Nat.reduceMul, Nat.reduceBEq, ren1_locm, loc_tips, locT_eq, hn] <;> rfl, ?_, ?_, fun x en s hq => ?_⟩
      · omega
      · omega
      · exact hq
  · have htk : L0.take i = L0 := List.take_of_length_le (by omega)
    simp only [go_sem, reduceIte, Nat.reduceEqDiff, Nat.reduceAdd, Nat.reduceSub, Nat.reduceLeDiff, Nat.reduceLT, reduceCtorEq, Int.reduceLT, Int.reduceLE, Int.reduceEq, Int.reduceBEq, Int.reduceSub, Int.reduceAdd, Int.reduceMul, Int.reduceNeg, Int.reduceToNat, Nat.reduceMul, Nat.reduceBEq, index_rsl_if, setm, make_ints, condK_dec, wantK_dec, not_dec, and_dec, or_dec, seqK_ite, seqK_none, blockK_ite, blockK_none, opsK_ite, opsK_none, stepK_ite, stepK_none, bodyK_ite, bodyK_none, resK_ite, resK_none, leaveK_ite, leaveK_none, only_ite, only_none, bind_ite, gives_some, gives_none, gives_ite, then_normal, then_ret, then_exit, then_none, then_ite, Option.bind_none, Bool.not_eq_true', decide_eq_false_iff_not, Bool.and_eq_true, Bool.or_eq_true, Option.some.injEq, Int.not_lt, Int.not_le, lp83_0, q, List.length_map, htk]

theorem c83 (nl : Bool) (arts : List (Int × Int)) (room floor : Int) (hc : check arts room floor = 0) (safe : Bool) (st : St) :
    run L 83 [bookAV nl arts room floor, B safe] st = some (sl 1 true ((goodL arts room floor safe).map listAV), st) := by
  rw [run_pure (fn := ir83) rfl rfl]
  obtain ⟨g1, g2, g3, g4⟩ := mosts_ok hc
  have h84 : ∀ st, run L 84 [I arts.length, .v (.slice none 0 0)] st = some (sl 1 true ((cutsOf arts.length 0).map listAV), st) := by
    intro st
    have := c84 arts.length g4 g3 (arts.length - 0) true [] 0 rfl (by omega) (by simp) rfl st
    rw [preL_nil] at this
    exact this
  have hlen := (cutsOf_len arts.length 12 0 (by omega)).1
  simp only [ir83, go_sem, reduceIte, Nat.reduceEqDiff, Nat.reduceAdd, Nat.reduceSub, Nat.reduceLeDiff, Nat.reduceLT, reduceCtorEq, Int.reduceLT, Int.reduceLE, Int.reduceEq, Int.reduceBEq, Int.reduceSub, Int.reduceAdd, Int.reduceMul, Int.reduceNeg, Int.reduceToNat, Nat.reduceMul, Nat.reduceBEq, h84, List.length_map]
  generalize hg : lim (headed pure (run L) true _ lp83_0 _ _) _ _ = o
  obtain ⟨x, en, s, rfl, h2⟩ : ∃ x en s, o = some (x, en, s) ∧ _ := by rw [← hg]; exact loop83 nl arts room floor hc safe _ rfl (by omega) 0 (Nat.zero_le _) _ _ (by simp only [go_sem, reduceIte, Nat.reduceEqDiff, Nat.reduceAdd, Nat.reduceSub, Nat.reduceLeDiff, Nat.reduceLT, reduceCtorEq, Int.reduceLT, Int.reduceLE, Int.reduceEq, Int.reduceBEq, Int.reduceSub, Int.reduceAdd, Int.reduceMul, Int.reduceNeg, Int.reduceToNat, Nat.reduceMul, Nat.reduceBEq, List.take_zero, List.filter_nil, loc_start, locT] <;> rfl)
  clear hg
  obtain ⟨rfl, h3⟩ := h2
  simp only [go_sem, reduceIte, Nat.reduceEqDiff, Nat.reduceAdd, Nat.reduceSub, Nat.reduceLeDiff, Nat.reduceLT, reduceCtorEq, Int.reduceLT, Int.reduceLE, Int.reduceEq, Int.reduceBEq, Int.reduceSub, Int.reduceAdd, Int.reduceMul, Int.reduceNeg, Int.reduceToNat, Nat.reduceMul, Nat.reduceBEq, h3]
  rfl


/-- The last of the shortest lists, the first of them. -/
def pickLe (best : List Int) (l : List (List Int)) : List Int := l.foldl (fun b x => if x.length ≤ b.length then x else b) best
def pickLt (best : List Int) (l : List (List Int)) : List Int := l.foldl (fun b x => if x.length < b.length then x else b) best

theorem loop32 (nl : Bool) (arts : List (Int × Int)) (room floor : Int) (L0 : List (List Int)) (hlen : L0.length ≤ 5000) (i : Nat) (best : List Int) (hok : i ≤ L0.length) (env : Env) (st : St)
    (hg : gcAV true 1 0 (canon env [5, 6, 7]) st = ([(5, sl 1 true (L0.map listAV)), (6, listAV best), (7, I i)], ⟨[bookCells nl arts room floor], []⟩)) :
    ∃ x_1 en s, lim (headed pure (run L) true [5, 6, 7] lp32_0 1 0) env st = some (x_1, en, s) ∧ (x_1 = .exit 0 ∧ en.get 6 = listAV (pickLe best (L0.drop i))) := by
  refine loop_wp (α := Nat × List Int) (fun ⟨i, best⟩ => L0.length - i) (fun ⟨i, best⟩ => i ≤ L0.length) (fun ⟨i, best⟩ => ([(5, sl 1 true (L0.map listAV)), (6, listAV best), (7, I i)], ⟨[bookCells nl arts room floor], []⟩)) (fun ⟨i, best⟩ x_1 en s => x_1 = .exit 0 ∧ en.get 6 = listAV (pickLe best (L0.drop i))) (fun ⟨i, best⟩ hok => ?_) ⟨i, best⟩ hok env st hg
  simp only at hok
  by_cases q : (i : Int) < (L0.length : Int)
  · have hx := index_lists true L0 i (by omega)
    have hs := succ64 i (by omega)
    have hd : L0.drop i = L0[i]'(by omega) :: L0.drop (i + 1) := List.drop_eq_getElem_cons (by omega)
    generalize L0[i]'(by omega) = c at *
    have hmeas : L0.length - (i + 1) < L0.length - i := by omega
    have hok2 : i + 1 ≤ L0.length := by omega
    by_cases p : (c.length : Int) ≤ (best.length : Int)
    · have hf : pickLe best (L0.drop i) = pickLe c (L0.drop (i + 1)) := by rw [hd]; simp only [pickLe, List.foldl_cons]; rw [if_pos (by omega)]
      simp only [go_sem, reduceIte, Nat.reduceEqDiff, Nat.reduceAdd, Nat.reduceSub, Nat.reduceLeDiff, Nat.reduceLT, reduceCtorEq, Int.reduceLT, Int.reduceLE, Int.reduceEq, Int.reduceBEq, Int.reduceSub, Int.reduceAdd, Int.reduceMul, Int.reduceNeg, Int.reduceToNat, Nat.reduceMul, Nat.reduceBEq, index_rsl_if, setm, make_ints, condK_dec, wantK_dec, not_dec, and_dec, or_dec, seqK_ite, seqK_none, blockK_ite, blockK_none, opsK_ite, opsK_none, stepK_ite, stepK_none, bodyK_ite, bodyK_none, resK_ite, resK_none, leaveK_ite, leaveK_none, only_ite, only_none, bind_ite, gives_some, gives_none, gives_ite, then_normal, then_ret, then_exit, then_none, then_ite, Option.bind_none, Bool.not_eq_true', decide_eq_false_iff_not, Bool.and_eq_true, Bool.or_eq_true, Option.some.injEq, Int.not_lt, Int.not_le, lp32_0, q, hx, hs, p, List.length_map]
      refine ⟨(i + 1, c), by simp only [go_sem, reduceIte, Nat.reduceEqDiff, Nat.reduceAdd, Nat.reduceSub, Nat.reduceLeDiff, Nat.reduceLT, reduceCtorEq, Int.reduceLT, Int.reduceLE, Int.reduceEq, Int.reduceBEq, Int.reduceSub, Int.reduceAdd, Int.reduceMul, Int.reduceNeg, Int.reduceToNat, Nat.reduceMul, Nat.reduceBEq, ren1_locm, loc_tips, locT_eq] <;> rfl, ?_, ?_, fun x en s hq => ?_⟩
      · exact hok2
      · exact hmeas
      · rw [hf]; exact hq
    · have hf : pickLe best (L0.drop i) = pickLe best (L0.drop (i + 1)) := by rw [hd]; simp only [pickLe, List.foldl_cons]; rw [if_neg (by omega)]
      simp only [go_sem, reduceIte, Nat.reduceEqDiff, Nat.reduceAdd, Nat.reduceSub, Nat.reduceLeDiff, Nat.reduceLT, reduceCtorEq, Int.reduceLT, Int.reduceLE, Int.reduceEq, Int.reduceBEq, Int.reduceSub, Int.reduceAdd, Int.reduceMul, Int.reduceNeg, Int.reduceToNat, Nat.reduceMul, Nat.reduceBEq, index_rsl_if, setm, make_ints, condK_dec, wantK_dec, not_dec, and_dec, or_dec, seqK_ite, seqK_none, blockK_ite, blockK_none, opsK_ite, opsK_none, stepK_ite, stepK_none, bodyK_ite, bodyK_none, resK_ite, resK_none, leaveK_ite, leaveK_none, only_ite, only_none, bind_ite, gives_some, gives_none, gives_ite, then_normal, then_ret, then_exit, then_none, then_ite, Option.bind_none, Bool.not_eq_true', decide_eq_false_iff_not, Bool.and_eq_true, Bool.or_eq_true, Option.some.injEq, Int.not_lt, Int.not_le, lp32_0, q, hx, hs, p, List.length_map]
      refine ⟨(i + 1, best), by simp only [go_sem, reduceIte, Nat.reduceEqDiff, Nat.reduceAdd, Nat.reduceSub, Nat.reduceLeDiff, Nat.reduceLT, reduceCtorEq, Int.reduceLT, Int.reduceLE, Int.reduceEq, Int.reduceBEq, Int.reduceSub, Int.reduceAdd, Int.reduceMul, Int.reduceNeg, Int.reduceToNat, Nat.reduceMul, Nat.reduceBEq, ren1_locm, loc_tips, locT_eq] <;> rfl, ?_, ?_, fun x en s hq => ?_⟩
      · exact hok2
      · exact hmeas
      · rw [hf]; exact hq
  · have hdn : L0.drop i = [] := List.drop_eq_nil_of_le (by omega)
    simp only [go_sem, reduceIte, Nat.reduceEqDiff, Nat.reduceAdd, Nat.reduceSub, Nat.reduceLeDiff, Nat.reduceLT, reduceCtorEq, Int.reduceLT, Int.reduceLE, Int.reduceEq, Int.reduceBEq, Int.reduceSub, Int.reduceAdd, Int.reduceMul, Int.reduceNeg, Int.reduceToNat, Nat.reduceMul, Nat.reduceBEq, index_rsl_if, setm, make_ints, condK_dec, wantK_dec, not_dec, and_dec, or_dec, seqK_ite, seqK_none, blockK_ite, blockK_none, opsK_ite, opsK_none, stepK_ite, stepK_none, bodyK_ite, bodyK_none, resK_ite, resK_none, leaveK_ite, leaveK_none, only_ite, only_none, bind_ite, gives_some, gives_none, gives_ite, then_normal, then_ret, then_exit, then_none, then_ite, Option.bind_none, Bool.not_eq_true', decide_eq_false_iff_not, Bool.and_eq_true, Bool.or_eq_true, Option.some.injEq, Int.not_lt, Int.not_le, lp32_0, q, List.length_map, hdn]
    rfl

/-- A list and an error: nil with an error. -/
abbrev lerr' (p : List Int × Int) : AV := .tup [sl 1 (p.2 != 0) (p.1.map I), I p.2]

def fewestR (arts : List (Int × Int)) (room floor : Int) : List Int × Int :=
  if check arts room floor = 0 then
    match goodL arts room floor false with
    | [] => ([], 12)
    | x :: r => (pickLe x r, 0)
  else ([], check arts room floor)
def countR (arts : List (Int × Int)) (room floor : Int) : Int × Int :=
  if check arts room floor = 0 then ((goodL arts room floor true).length, 0) else (0, check arts room floor)

theorem goodL_len {arts : List (Int × Int)} {room floor : Int} (hc : check arts room floor = 0) (safe : Bool) : (goodL arts room floor safe).length ≤ 5000 := by
  obtain ⟨g1, g2, g3, g4⟩ := mosts_ok hc
  have hlen := (cutsOf_len arts.length 12 0 (by omega)).1
  have h1 := List.length_filter_le (okC (goodP arts room floor safe) 0) (cutsOf arts.length 0)
  unfold goodL
  omega

theorem c32 (nl : Bool) (arts : List (Int × Int)) (room floor : Int) (st : St) :
    run L 32 [bookAV nl arts room floor] st = some (lerr' (fewestR arts room floor), st) := by
  rw [run_pure (fn := ir32) rfl rfl]
  have hc := fun st => c26 nl arts room floor st
  unfold fewestR
  by_cases p0 : check arts room floor = 0
  · rw [if_pos p0]
    have h83 := fun st => c83 nl arts room floor p0 false st
    have hlen := goodL_len p0 false
    generalize goodL arts room floor false = G at *
    cases G with
    | nil => simp only [ir32, go_sem, reduceIte, Nat.reduceEqDiff, Nat.reduceAdd, Nat.reduceSub, Nat.reduceLeDiff, Nat.reduceLT, reduceCtorEq, Int.reduceLT, Int.reduceLE, Int.reduceEq, Int.reduceBEq, Int.reduceSub, Int.reduceAdd, Int.reduceMul, Int.reduceNeg, Int.reduceToNat, Nat.reduceMul, Nat.reduceBEq, hc, p0, h83] <;> rfl
    | cons x r =>
      have q1 : (((x :: r).length : Int) = 0) = False := eq_false (by simp; omega)
      have hx := index_lists true (x :: r) 0 (by simp)
      simp only [Int.natCast_zero, List.getElem_cons_zero] at hx
      have hl2 : (((x :: r).map listAV).length : Int) = ((x :: r).length : Int) := by simp
      simp only [← List.map_cons] at *
      generalize hL0 : x :: r = L0 at *
      simp only [ir32, go_sem, reduceIte, Nat.reduceEqDiff, Nat.reduceAdd, Nat.reduceSub, Nat.reduceLeDiff, Nat.reduceLT, reduceCtorEq, Int.reduceLT, Int.reduceLE, Int.reduceEq, Int.reduceBEq, Int.reduceSub, Int.reduceAdd, Int.reduceMul, Int.reduceNeg, Int.reduceToNat, Nat.reduceMul, Nat.reduceBEq, hc, p0, h83, q1, hx, List.length_map]
      generalize hg : lim (headed pure (run L) true _ lp32_0 _ _) _ _ = o
      obtain ⟨x, en, s, rfl, h2⟩ : ∃ x en s, o = some (x, en, s) ∧ _ := by rw [← hg]; exact loop32 nl arts room floor L0 hlen 1 x (by subst hL0; simp) _ _ (by simp only [go_sem, reduceIte, Nat.reduceEqDiff, Nat.reduceAdd, Nat.reduceSub, Nat.reduceLeDiff, Nat.reduceLT, reduceCtorEq, Int.reduceLT, Int.reduceLE, Int.reduceEq, Int.reduceBEq, Int.reduceSub, Int.reduceAdd, Int.reduceMul, Int.reduceNeg, Int.reduceToNat, Nat.reduceMul, Nat.reduceBEq] <;> rfl)
      clear hg
      obtain ⟨rfl, h3⟩ := h2
      subst hL0
      simp only [List.drop_succ_cons, List.drop_zero] at h3
      simp only [go_sem, reduceIte, Nat.reduceEqDiff, Nat.reduceAdd, Nat.reduceSub, Nat.reduceLeDiff, Nat.reduceLT, reduceCtorEq, Int.reduceLT, Int.reduceLE, Int.reduceEq, Int.reduceBEq, Int.reduceSub, Int.reduceAdd, Int.reduceMul, Int.reduceNeg, Int.reduceToNat, Nat.reduceMul, Nat.reduceBEq, h3] <;> rfl
  · rw [if_neg p0]
    have : (check arts room floor != 0) = true := by simpa using p0
    simp only [ir32, go_sem, reduceIte, Nat.reduceEqDiff, Nat.reduceAdd, Nat.reduceSub, Nat.reduceLeDiff, Nat.reduceLT, reduceCtorEq, Int.reduceLT, Int.reduceLE, Int.reduceEq, Int.reduceBEq, Int.reduceSub, Int.reduceAdd, Int.reduceMul, Int.reduceNeg, Int.reduceToNat, Nat.reduceMul, Nat.reduceBEq, hc, p0, lerr', this] <;> rfl


/-! ### plain laws on cuts -/

/-- The good cuts of the articles from b on. -/
def goods (n : Nat) (p : Int → Int → Bool) (b : Nat) : List (List Int) := (cutsOf n b).filter (okC p b)

theorem goods_end {n b : Nat} (p : Int → Int → Bool) (h : n ≤ b) : goods n p b = [[]] := by
  unfold goods; rw [cutsOf_end h]; rfl
theorem filter_flatMap' {α β : Type} (q : β → Bool) (f : α → List β) : ∀ l : List α, (l.flatMap f).filter q = l.flatMap fun x => (f x).filter q
  | [] => rfl
  | a :: r => by simp only [List.flatMap_cons, List.filter_append, filter_flatMap' q f r]
theorem goods_eq {n b : Nat} (p : Int → Int → Bool) (h : b < n) :
    goods n p b = (List.range' (b + 1) (n - b)).flatMap fun (e : Nat) => if p b e = true then (goods n p e).map ((e : Int) :: ·) else [] := by
  unfold goods
  rw [cutsOf_eq h, filter_flatMap']
  refine flatMap_congr' fun e _ => ?_
  rw [List.filter_map]
  split
  · next h1 =>
    congr 1
    apply List.filter_congr
    intro c _
    simp only [Function.comp, okC, h1, Bool.true_and]
  · next h1 =>
    have h1 : p b e = false := by simpa using h1
    have : (cutsOf n e).filter (okC p b ∘ fun x => (e : Int) :: x) = [] := by
      rw [List.filter_eq_nil_iff]
      intro c _
      simp [Function.comp, okC, h1]
    rw [this]; rfl

/-- A good cut, told without a list of them. -/
def IsGood (n : Nat) (p : Int → Int → Bool) : Nat → List Int → Prop
  | b, [] => n ≤ b
  | b, e :: r => ∃ e' : Nat, e = e' ∧ b < e' ∧ e' ≤ n ∧ p b e = true ∧ IsGood n p e' r
theorem goods_iff (n : Nat) (p : Int → Int → Bool) : ∀ (m b : Nat), n - b = m → ∀ c, c ∈ goods n p b ↔ IsGood n p b c := by
  intro m
  induction m using Nat.strongRecOn with
  | ind m ih =>
    intro b hm c
    by_cases h : b < n
    · rw [goods_eq p h]
      simp only [List.mem_flatMap, List.mem_range']
      constructor
      · rintro ⟨e, ⟨i, hi, rfl⟩, hc⟩
        split at hc
        · next hp =>
          obtain ⟨r, hr, rfl⟩ := List.mem_map.1 hc
          exact ⟨b + 1 + 1 * i, rfl, by omega, by omega, hp, (ih _ (by omega) _ rfl r).1 hr⟩
        · simp at hc
      · intro hg
        cases c with
        | nil => simp only [IsGood] at hg; omega
        | cons e r =>
          obtain ⟨e', rfl, h1, h2, h3, h4⟩ := hg
          refine ⟨e', ⟨e' - (b + 1), by omega, by omega⟩, ?_⟩
          rw [if_pos h3]
          exact List.mem_map.2 ⟨r, (ih _ (by omega) e' rfl r).2 h4, rfl⟩
    · rw [goods_end p (by omega)]
      cases c with
      | nil => simp [IsGood]; omega
      | cons e r =>
        simp only [List.mem_singleton, reduceCtorEq, false_iff]
        rintro ⟨e', _, h1, h2, _⟩
        omega

/-- The first of the shortest lists, and the last of them. -/
def firstMin : List (List Int) → Option (List Int)
  | [] => none
  | x :: r => match firstMin r with
    | none => some x
    | some y => if y.length < x.length then some y else some x
def lastMin : List (List Int) → Option (List Int)
  | [] => none
  | x :: r => match lastMin r with
    | none => some x
    | some y => if y.length ≤ x.length then some y else some x

theorem pickLe_eq : ∀ (l : List (List Int)) (b : List Int), pickLe b l = match lastMin l with | none => b | some y => if y.length ≤ b.length then y else b
  | [], b => rfl
  | x :: r, b => by
    have ih := pickLe_eq r
    simp only [pickLe, List.foldl_cons, lastMin] at ih ⊢
    rw [ih]
    cases lastMin r with
    | none => simp only
    | some y => by_cases h1 : x.length ≤ b.length <;> by_cases h2 : y.length ≤ x.length <;> by_cases h3 : y.length ≤ b.length <;> simp [h1, h2, h3] <;> omega
theorem pickLt_eq : ∀ (l : List (List Int)) (b : List Int), pickLt b l = match firstMin l with | none => b | some y => if y.length < b.length then y else b
  | [], b => rfl
  | x :: r, b => by
    have ih := pickLt_eq r
    simp only [pickLt, List.foldl_cons, firstMin] at ih ⊢
    rw [ih]
    cases firstMin r with
    | none => simp only
    | some y => by_cases h1 : x.length < b.length <;> by_cases h2 : y.length < x.length <;> by_cases h3 : y.length < b.length <;> simp [h1, h2, h3] <;> omega
theorem pickLe_cons (x : List Int) (r : List (List Int)) : lastMin (x :: r) = some (pickLe x r) := by
  rw [pickLe_eq]; simp only [lastMin]
  cases lastMin r with
  | none => rfl
  | some y => simp only; split <;> rfl
theorem pickLt_cons (x : List Int) (r : List (List Int)) : firstMin (x :: r) = some (pickLt x r) := by
  rw [pickLt_eq]; simp only [firstMin]
  cases firstMin r with
  | none => rfl
  | some y => simp only; split <;> rfl

theorem lastMin_none {l : List (List Int)} : lastMin l = none ↔ l = [] := by
  cases l with
  | nil => simp [lastMin]
  | cons x r => rw [pickLe_cons]; simp
theorem lastMin_mem : ∀ {l : List (List Int)} {y : List Int}, lastMin l = some y → y ∈ l ∧ ∀ z ∈ l, y.length ≤ z.length
  | [], y, h => by simp [lastMin] at h
  | x :: r, y, h => by
    simp only [lastMin] at h
    split at h
    · next hr =>
      rw [lastMin_none] at hr
      simp only [Option.some.injEq] at h
      subst hr; subst h
      simp
    · next w hw =>
      obtain ⟨h1, h2⟩ := lastMin_mem hw
      split at h
      · simp only [Option.some.injEq] at h
        subst h
        refine ⟨by simp [h1], fun z hz => ?_⟩
        rcases List.mem_cons.1 hz with rfl | hz
        · assumption
        · exact h2 z hz
      · next hlt =>
        simp only [Option.some.injEq] at h
        subst h
        refine ⟨by simp, fun z hz => ?_⟩
        rcases List.mem_cons.1 hz with rfl | hz
        · exact Nat.le_refl _
        · have := h2 z hz; omega
theorem lastMin_append {l1 l2 : List (List Int)} {y : List Int} (h : lastMin l2 = some y) (hle : ∀ z ∈ l1, y.length ≤ z.length) : lastMin (l1 ++ l2) = some y := by
  induction l1 with
  | nil => exact h
  | cons x r ih =>
    simp only [List.cons_append, lastMin]
    rw [ih fun z hz => hle z (by simp [hz])]
    simp only
    rw [if_pos (hle x (by simp))]
theorem lastMin_map (e : Int) (l : List (List Int)) : lastMin (l.map (e :: ·)) = (lastMin l).map (e :: ·) := by
  induction l with
  | nil => rfl
  | cons x r ih =>
    simp only [List.map_cons, lastMin, ih]
    cases lastMin r with
    | none => rfl
    | some y => simp only [Option.map_some, List.length_cons, Nat.add_le_add_iff_right]; split <;> rfl

/-- What is good stays good if it is made smaller. -/
def Mono (n : Nat) (p : Int → Int → Bool) : Prop := ∀ b b' e' e : Nat, b ≤ b' → b' ≤ e' → e' ≤ e → e ≤ n → p b e = true → p b' e' = true

/-- A good cut without its first articles. -/
theorem good_drop {n : Nat} {p : Int → Int → Bool} (hp : Mono n p) : ∀ (c : List Int) (b b' : Nat), b ≤ b' → b' ≤ n → IsGood n p b c → ∃ c', IsGood n p b' c' ∧ c'.length ≤ c.length
  | [], b, b', h, h2, hg => ⟨[], by simp only [IsGood] at hg ⊢; omega, Nat.le_refl _⟩
  | e :: r, b, b', h, h2, hg => by
    obtain ⟨e', rfl, h3, h4, h5, h6⟩ := hg
    by_cases hb : b' < e'
    · exact ⟨(e' : Int) :: r, ⟨e', rfl, hb, h4, hp b b' e' e' h (by omega) (Nat.le_refl _) h4 h5, h6⟩, Nat.le_refl _⟩
    · obtain ⟨c', h7, h8⟩ := good_drop hp r e' b' (by omega) h2 h6
      exact ⟨c', h7, by simp only [List.length_cons]; omega⟩

/-- The last shortest good cut begins with the longest good volume. -/
theorem lastMin_goods {n : Nat} {p : Int → Int → Bool} (hp : Mono n p) {b E : Nat} (hb : b < E) (hE : E ≤ n) (h1 : p b E = true) (h2 : ∀ e, E < e → e ≤ n → p b e = false) {y : List Int} (hy : lastMin (goods n p E) = some y) :
    lastMin (goods n p b) = some ((E : Int) :: y) := by
  rw [goods_eq p (by omega), show n - b = (E - (b + 1)) + ((n - E) + 1) by omega, ← List.range'_append_1, List.flatMap_append]
  refine lastMin_append ?_ fun z hz => ?_
  · rw [show b + 1 + (E - (b + 1)) = E by omega, List.range'_succ, List.flatMap_cons, if_pos h1]
    have : ((List.range' (E + 1) (n - E)).flatMap fun (e : Nat) => if p b e = true then (goods n p e).map ((e : Int) :: ·) else []) = [] := by
      rw [List.flatMap_eq_nil_iff]
      intro e he
      simp only [List.mem_range'] at he
      obtain ⟨i, hi, rfl⟩ := he
      rw [if_neg (by rw [h2 _ (by omega) (by omega)]; simp)]
    rw [this, List.append_nil, lastMin_map, hy]; rfl
  · simp only [List.mem_flatMap, List.mem_range'] at hz
    obtain ⟨e, ⟨i, hi, rfl⟩, hz⟩ := hz
    split at hz
    · obtain ⟨r, hr, rfl⟩ := List.mem_map.1 hz
      have hr := (goods_iff n p _ _ rfl r).1 hr
      obtain ⟨c', h7, h8⟩ := good_drop hp r _ E (by omega) hE hr
      have := (lastMin_mem hy).2 c' ((goods_iff n p _ _ rfl c').2 h7)
      simp only [List.length_cons]
      omega
    · simp at hz

/-- Greedily. -/
theorem fill_goods (l : List Int) (room : Int) (n : Nat) (hp : Mono n (fun b e => decide (seg l b e ≤ room))) (hsing : ∀ e : Nat, 1 ≤ e → e ≤ n → seg l ((e : Int) - 1) e ≤ room) :
    ∀ (k b e : Nat) (out : List Int), e + k = n + 1 → b < e → (e = b + 1 ∨ seg l b ((e : Int) - 1) ≤ room) → b < n →
      ∃ r, fillFrom l room k b e out = some (out ++ r) ∧ lastMin (goods n (fun b e => decide (seg l b e ≤ room)) b) = some (r ++ [(n : Int)])
  | 0, b, e, out, hk, hbe, hpre, hbn => by
    refine ⟨[], by simp [fillFrom], ?_⟩
    have h1 : decide (seg l b n ≤ room) = true := by
      rcases hpre with h | h
      · have := hsing (b + 1) (by omega) (by omega)
        rw [show ((b + 1 : Nat) : Int) - 1 = b by omega] at this
        rw [show n = b + 1 by omega]; simpa using this
      · rw [show (e : Int) - 1 = n by omega] at h; simpa using h
    exact lastMin_goods hp hbn (Nat.le_refl _) h1 (fun e h1 h2 => by omega) (by rw [goods_end _ (Nat.le_refl _)]; rfl)
  | k + 1, b, e, out, hk, hbe, hpre, hbn => by
    simp only [fillFrom]
    rw [if_neg (by have := hsing e (by omega) (by omega); omega)]
    split
    · next hlt =>
      have hb1 : b < e - 1 := by
        rcases hpre with h | h
        · exfalso
          have := hsing e (by omega) (by omega)
          rw [h] at this hlt
          rw [show ((b + 1 : Nat) : Int) - 1 = b by omega] at this
          omega
        · rcases Nat.lt_or_ge b (e - 1) with h1 | h1
          · exact h1
          · exfalso
            have := hsing e (by omega) (by omega)
            rw [show (e : Int) - 1 = b by omega] at this
            omega
      have hE : seg l b ((e : Int) - 1) ≤ room := by
        rcases hpre with h | h
        · omega
        · exact h
      obtain ⟨r, h1, h2⟩ := fill_goods l room n hp hsing k (e - 1) (e + 1) (out ++ [(e : Int) - 1]) (by omega) (by omega) (.inr (by
        have := hsing e (by omega) (by omega)
        rw [show ((e - 1 : Nat) : Int) = (e : Int) - 1 by omega, show ((e + 1 : Nat) : Int) - 1 = e by omega]; exact this)) (by omega)
      refine ⟨((e : Int) - 1) :: r, by rw [h1]; simp, ?_⟩
      have := lastMin_goods hp (b := b) (E := e - 1) hb1 (by omega) (by rw [show ((e - 1 : Nat) : Int) = (e : Int) - 1 by omega]; simpa using hE) (fun e' h3 h4 => by
        rw [decide_eq_false_iff_not]
        intro h5
        have := hp b b e e' (Nat.le_refl _) (by omega) (by omega) h4 (by simpa using h5)
        simp at this; omega) h2
      rw [this, show ((e - 1 : Nat) : Int) = (e : Int) - 1 by omega]; rfl
    · next hlt =>
      exact fill_goods l room n hp hsing k b (e + 1) out (by omega) (by omega) (.inr (by rw [show ((e + 1 : Nat) : Int) - 1 = e by omega]; omega)) hbn


theorem sums_mono {l : List Int} (hl : ∀ x ∈ l, 0 ≤ x) : ∀ (s : Int) (i j : Nat), i ≤ j → j ≤ l.length → (sums s l).getD i 0 ≤ (sums s l).getD j 0 := by
  intro s i j hij hj
  have h1 : i < (sums s l).length := by rw [sums_len]; omega
  have h2 : j < (sums s l).length := by rw [sums_len]; omega
  rw [List.getD_eq_getElem?_getD, List.getD_eq_getElem?_getD, List.getElem?_eq_getElem h1, List.getElem?_eq_getElem h2]
  simp only [Option.getD_some, sums_get]
  have h3 : l.take j = l.take i ++ (l.take j).drop i := by
    have := List.take_append_drop i (l.take j)
    rw [List.take_take, Nat.min_eq_left hij] at this
    exact this.symm
  have h4 : ∀ m : List Int, (∀ x ∈ m, 0 ≤ x) → 0 ≤ m.sum := by
    intro m hm
    induction m with
    | nil => simp
    | cons x r ih => simp only [List.sum_cons]; have := hm x (by simp); have := ih (fun y hy => hm y (by simp [hy])); omega
  have h5 := h4 ((l.take j).drop i) (fun x hx => hl x (List.mem_of_mem_take (List.mem_of_mem_drop hx)))
  rw [h3, List.sum_append]
  omega
theorem seg_mono {l : List Int} (hl : ∀ x ∈ l, 0 ≤ x) (b b' e' e : Nat) (h1 : b ≤ b') (h2 : b' ≤ e') (h3 : e' ≤ e) (h4 : e ≤ l.length) : seg (sums 0 l) b' e' ≤ seg (sums 0 l) b e := by
  have q1 := sums_mono hl 0 b b' h1 (by omega)
  have q2 := sums_mono hl 0 e' e h3 h4
  unfold seg
  simp only [Int.toNat_natCast]
  omega
theorem mono_room {arts : List (Int × Int)} {room floor : Int} (hc : check arts room floor = 0) : Mono arts.length (fun b e => decide (seg (mosts arts) b e ≤ room)) := by
  obtain ⟨_, _, k3, _⟩ := check_zero hc
  intro b b' e' e h1 h2 h3 h4 h5
  simp only [decide_eq_true_eq] at h5 ⊢
  have := seg_mono (l := arts.map (·.2)) (by intro x hx; obtain ⟨a, ha, rfl⟩ := List.mem_map.1 hx; have := k3 a ha; omega) b b' e' e h1 h2 h3 (by simpa using h4)
  simp only [mosts] at h5 ⊢
  omega

/-- Each article of a good cut fits by itself. -/
theorem good_single {n : Nat} {p : Int → Int → Bool} (hp : Mono n p) : ∀ (c : List Int) (b e : Nat), IsGood n p b c → b < e → e ≤ n → p ((e : Int) - 1) e = true
  | [], b, e, hg, h1, h2 => by simp only [IsGood] at hg; omega
  | x :: r, b, e, hg, h1, h2 => by
    obtain ⟨x', rfl, h3, h4, h5, h6⟩ := hg
    by_cases h : e ≤ x'
    · have := hp b (e - 1) e x' (by omega) (by omega) h h4 h5
      rw [show ((e - 1 : Nat) : Int) = (e : Int) - 1 by omega] at this
      exact this
    · exact good_single hp r x' e h6 (by omega) h2
theorem fill_none (l : List Int) (room : Int) : ∀ (k b e : Nat) (out : List Int), (∃ e' : Nat, e ≤ e' ∧ e' < e + k ∧ room < seg l ((e' : Int) - 1) e') → fillFrom l room k b e out = none
  | 0, b, e, out, ⟨e', h1, h2, _⟩ => by omega
  | k + 1, b, e, out, ⟨e', h1, h2, h3⟩ => by
    simp only [fillFrom]
    by_cases h : room < seg l ((e : Int) - 1) e
    · rw [if_pos h]
    · rw [if_neg h]
      have : ∃ e' : Nat, e + 1 ≤ e' ∧ e' < (e + 1) + k ∧ room < seg l ((e' : Int) - 1) e' := by
        refine ⟨e', ?_, by omega, h3⟩
        rcases Nat.eq_or_lt_of_le h1 with h4 | h4
        · subst h4; exact absurd h3 h
        · exact h4
      split
      · exact fill_none l room k _ _ _ this
      · exact fill_none l room k _ _ _ this

theorem goodL_goods (arts : List (Int × Int)) (room floor : Int) (safe : Bool) : goodL arts room floor safe = goods arts.length (goodP arts room floor safe) 0 := rfl
theorem goods_congr {n : Nat} {p q : Int → Int → Bool} (h : ∀ b e, p b e = q b e) (b : Nat) : goods n p b = goods n q b := by
  unfold goods; exact List.filter_congr fun c _ => okC_congr h b c

/-- The program's cut with the fewest volumes is the reference's. -/
theorem fewest_eq (arts : List (Int × Int)) (room floor : Int) : fewestV arts room floor = fewestR arts room floor := by
  unfold fewestV fewestR
  by_cases p0 : check arts room floor = 0
  · rw [if_pos p0, if_pos p0]
    obtain ⟨g1, g2, g3, g4⟩ := mosts_ok p0
    have hg : goodL arts room floor false = goods arts.length (fun b e => decide (seg (mosts arts) b e ≤ room)) 0 := by
      rw [goodL_goods]; exact goods_congr (fun b e => by simp [goodP]) 0
    rw [hg]
    have hm := mono_room p0
    by_cases hs : ∀ e : Nat, 1 ≤ e → e ≤ arts.length → seg (mosts arts) ((e : Int) - 1) e ≤ room
    · obtain ⟨r, h1, h2⟩ := fill_goods (mosts arts) room arts.length hm hs arts.length 0 1 [] (by omega) (by omega) (.inl rfl) (by omega)
      have hf : filled (mosts arts) room = r ++ [(arts.length : Int)] := by
        unfold filled
        rw [g2, Nat.add_sub_cancel, h1]
        simp only [List.nil_append]
        congr 2; omega
      rw [if_neg (by rw [hf]; simp), hf]
      generalize goods arts.length (fun b e => decide (seg (mosts arts) b e ≤ room)) 0 = G at *
      cases G with
      | nil => simp [lastMin] at h2
      | cons x G =>
        rw [pickLe_cons] at h2
        simp only [Option.some.injEq] at h2
        simp only [h2]
    · have : ∃ e : Nat, 1 ≤ e ∧ e ≤ arts.length ∧ room < seg (mosts arts) ((e : Int) - 1) e := by
        apply Classical.byContradiction
        intro hn
        apply hs
        intro e h1 h2
        apply Classical.byContradiction
        intro h3
        exact hn ⟨e, h1, h2, by omega⟩
      obtain ⟨e, h1, h2, h3⟩ := this
      have hf : filled (mosts arts) room = [] := by
        unfold filled
        rw [g2, Nat.add_sub_cancel, fill_none (mosts arts) room arts.length 0 1 [] ⟨e, h1, by omega, h3⟩]
      have he : goods arts.length (fun b e => decide (seg (mosts arts) b e ≤ room)) 0 = [] := by
        rw [List.eq_nil_iff_forall_not_mem]
        intro c hc
        have := good_single hm c 0 e ((goods_iff _ _ _ 0 rfl c).1 hc) (by omega) h2
        simp at this; omega
      rw [if_pos hf, he]
  · rw [if_neg p0, if_neg p0]

/-! ### plans -/

theorem firstMin_none {l : List (List Int)} : firstMin l = none ↔ l = [] := by
  cases l with
  | nil => simp [firstMin]
  | cons x r => rw [pickLt_cons]; simp
theorem firstMin_append (l1 l2 : List (List Int)) : firstMin (l1 ++ l2) = match firstMin l1, firstMin l2 with
    | none, o => o
    | some a, none => some a
    | some a, some c => if c.length < a.length then some c else some a := by
  induction l1 with
  | nil => rfl
  | cons x r ih =>
    simp only [List.cons_append, firstMin, ih]
    cases firstMin r with
    | none =>
      cases firstMin l2 with
      | none => rfl
      | some c => rfl
    | some a =>
      cases firstMin l2 with
      | none => simp only; split <;> rfl
      | some c => by_cases h1 : c.length < a.length <;> by_cases h2 : a.length < x.length <;> by_cases h3 : c.length < x.length <;> simp [h1, h2, h3] <;> omega
theorem firstMin_map (e : Int) (l : List (List Int)) : firstMin (l.map (e :: ·)) = (firstMin l).map (e :: ·) := by
  induction l with
  | nil => rfl
  | cons x r ih =>
    simp only [List.map_cons, firstMin, ih]
    cases firstMin r with
    | none => rfl
    | some y => simp only [Option.map_some, List.length_cons, Nat.add_lt_add_iff_right]; split <;> rfl

/-- The plan that is known from all good cuts. -/
def planOf (G : List (List Int)) : Option Plan := (firstMin G).map fun z => ((z.length : Int), z.headD 0, (G.length : Int))
theorem planOf_many (G : List (List Int)) : many1 (planOf G) = G.length := by
  cases h : firstMin G with
  | none => rw [firstMin_none] at h; subst h; rfl
  | some z => simp [planOf, h, many1]

/-- The good cuts from b on whose first end is e or later. -/
def laterGoods (n : Nat) (p : Int → Int → Bool) (b e : Nat) : List (List Int) := (List.range' e (n + 1 - e)).flatMap fun (e : Nat) => if p b e = true then (goods n p e).map ((e : Int) :: ·) else []

theorem pstep_plan (ok : Bool) (e : Nat) (G1 G2 : List (List Int)) : pstep ok e (planOf G1) (planOf G2) = planOf ((if ok = true then G1.map ((e : Int) :: ·) else []) ++ G2) := by
  unfold pstep
  cases ok with
  | false => simp
  | true =>
    simp only [if_true]
    unfold planOf
    rw [firstMin_append, firstMin_map]
    cases h1 : firstMin G1 with
    | none =>
      rw [firstMin_none] at h1
      subst h1
      simp
    | some z =>
      cases h2 : firstMin G2 with
      | none =>
        rw [firstMin_none] at h2
        subst h2
        simp
      | some w =>
        simp only [Option.map_some, List.length_cons]
        by_cases h : w.length < z.length + 1
        · rw [if_pos h, if_neg (by omega)]
          simp; omega
        · rw [if_neg h, if_pos (by omega)]
          simp; omega

theorem pnext_plan (n : Nat) (p : Int → Int → Bool) (b : Nat) : ∀ (k e : Nat), e + k = n + 1 →
    pnext (fun b e => p b e) b e ((List.range' e k).map fun e => planOf (goods n p e)) = planOf (laterGoods n p b e)
  | 0, e, h => by unfold laterGoods; rw [show n + 1 - e = 0 by omega]; rfl
  | k + 1, e, h => by
    rw [List.range'_succ, List.map_cons, pnext, pnext_plan n p b k (e + 1) (by omega), pstep_plan]
    unfold laterGoods
    rw [show n + 1 - e = (n + 1 - (e + 1)) + 1 by omega, List.range'_succ, List.flatMap_cons]
theorem laterGoods_eq {n : Nat} (p : Int → Int → Bool) {b : Nat} (h : b < n) : laterGoods n p b (b + 1) = goods n p b := by
  unfold laterGoods; rw [goods_eq p h, show n + 1 - (b + 1) = n - b by omega]

theorem plans_eq (n : Nat) (p : Int → Int → Bool) : ∀ j, j ≤ n → plansL n (fun b e => p b e) j = (List.range' (n - j) (j + 1)).map fun b => planOf (goods n p b)
  | 0, _ => by
    rw [Nat.sub_zero]
    show _ = [planOf (goods n p n)]
    rw [goods_end p (Nat.le_refl _)]; rfl
  | j + 1, h => by
    rw [plansL, plans_eq n p j (by omega), show n - j = (n - 1 - j) + 1 by omega, pnext_plan n p (n - 1 - j) (j + 1) (n - 1 - j + 1) (by omega), laterGoods_eq p (by omega), show n - (j + 1) = n - 1 - j by omega, show List.range' (n - 1 - j) (j + 1 + 1) = (n - 1 - j) :: List.range' (n - 1 - j + 1) (j + 1) from by rw [List.range'_succ], List.map_cons]

theorem plan_at (n : Nat) (p : Int → Int → Bool) (b : Nat) (h : b ≤ n) : (plansL n (fun b e => p b e) n).getD b none = planOf (goods n p b) := by
  rw [plans_eq n p n (Nat.le_refl _), Nat.sub_self, List.getD_eq_getElem?_getD]
  rw [List.getElem?_map, List.getElem?_range' (by omega)]
  simp

theorem goodV_eq (arts : List (Int × Int)) (room floor : Int) : goodV arts room floor = fun (b e : Nat) => goodP arts room floor true b e := by
  funext b e; simp [goodV, goodP]

theorem count_eq (arts : List (Int × Int)) (room floor : Int) : countV arts room floor = countR arts room floor := by
  unfold countV countR
  by_cases p0 : check arts room floor = 0
  · rw [if_pos p0, if_pos p0, goodV_eq, plan_at arts.length (goodP arts room floor true) 0 (by omega), planOf_many, ← goodL_goods]
  · rw [if_neg p0, if_neg p0]


/-- The lines of the longest volume of a cut. -/
def maxSeg (l : List Int) : Int → Int → List Int → Int
  | _, acc, [] => acc
  | b, acc, e :: r => maxSeg l e (max acc (seg l b e)) r
def levelF (l : List Int) (v best : Int) (L0 : List (List Int)) : Int := L0.foldl (fun best c => if (c.length : Int) ≤ v then min best (maxSeg l 0 0 c) else best) best

theorem loop34_0 (nl : Bool) (arts : List (Int × Int)) (room floor : Int) (hc : check arts room floor = 0) (v best : Int) (L0 : List (List Int)) (i : Nat) (hi : i < L0.length) (c : List Int) (hci : L0[i] = c) (hcl : c.length < 1000) (hcut : loopErr arts.length 0 c = 0) (j : Nat) (acc : Int) (hok : j ≤ c.length) (env : Env) (st : St)
    (hg : gcAV true 1 0 (canon env [1, 2, 7, 8, 9, 10, 11]) st = ([(1, I v), (2, .ptr 0 0), (7, I best), (8, sl 1 true (L0.map listAV)), (9, I i), (10, I acc), (11, I j)], ⟨[bookCells nl arts room floor], []⟩)) :
    ∃ x_1 en s, lim (headed pure (run L) true [1, 2, 7, 8, 9, 10, 11] lp34_0 1 0) env st = some (x_1, en, s) ∧ (x_1 = .exit 2 ∧ en.get 1 = I v ∧ en.get 2 = .ptr 0 0 ∧ en.get 7 = I best ∧ en.get 8 = sl 1 true (L0.map listAV) ∧ en.get 9 = I i ∧ en.get 10 = I (maxSeg (mosts arts) (beginOf c j) acc (c.drop j)) ∧ s = ⟨[bookCells nl arts room floor], []⟩) := by
  refine loop_wp (α := Nat × Int) (fun ⟨j, acc⟩ => c.length - j) (fun ⟨j, acc⟩ => j ≤ c.length) (fun ⟨j, acc⟩ => ([(1, I v), (2, .ptr 0 0), (7, I best), (8, sl 1 true (L0.map listAV)), (9, I i), (10, I acc), (11, I j)], ⟨[bookCells nl arts room floor], []⟩)) (fun ⟨j, acc⟩ x_1 en s => x_1 = .exit 2 ∧ en.get 1 = I v ∧ en.get 2 = .ptr 0 0 ∧ en.get 7 = I best ∧ en.get 8 = sl 1 true (L0.map listAV) ∧ en.get 9 = I i ∧ en.get 10 = I (maxSeg (mosts arts) (beginOf c j) acc (c.drop j)) ∧ s = ⟨[bookCells nl arts room floor], []⟩) (fun ⟨j, acc⟩ hok => ?_) ⟨j, acc⟩ hok env st hg
  simp only at hok
  have hx := index_lists true L0 i hi
  rw [hci] at hx
  by_cases q : (j : Int) < (c.length : Int)
  · have hxe := index_ints false c j (by omega)
    have hs := succ64 j (by omega)
    have h1 := ends_asc hcut j (by omega)
    have h2 := begin_nonneg hcut j hok
    have h3 := c78' nl arts room floor hc (beginOf c j) (c[j]'(by omega)) h2 (by omega) h1.2
    have h4 := c73 false c j hok hcl
    have hd : c.drop j = c[j]'(by omega) :: c.drop (j + 1) := List.drop_eq_getElem_cons (by omega)
    have hb := beginOf_succ c j (by omega)
    have hf : maxSeg (mosts arts) (beginOf c j) acc (c.drop j) = maxSeg (mosts arts) (beginOf c (j + 1)) (max acc (seg (mosts arts) (beginOf c j) (c[j]'(by omega)))) (c.drop (j + 1)) := by rw [hd, hb]; rfl
    have hok2 : j + 1 ≤ c.length := by omega
    have hmeas : c.length - (j + 1) < c.length - j := by omega
    simp only [go_sem, reduceIte, Nat.reduceEqDiff, Nat.reduceAdd, Nat.reduceSub, Nat.reduceLeDiff, Nat.reduceLT, reduceCtorEq, Int.reduceLT, Int.reduceLE, Int.reduceEq, Int.reduceBEq, Int.reduceSub, Int.reduceAdd, Int.reduceMul, Int.reduceNeg, Int.reduceToNat, Nat.reduceMul, Nat.reduceBEq, index_rsl_if, setm, make_ints, condK_dec, wantK_dec, not_dec, and_dec, or_dec, seqK_ite, seqK_none, blockK_ite, blockK_none, opsK_ite, opsK_none, stepK_ite, stepK_none, bodyK_ite, bodyK_none, resK_ite, resK_none, leaveK_ite, leaveK_none, only_ite, only_none, bind_ite, gives_some, gives_none, gives_ite, then_normal, then_ret, then_exit, then_none, then_ite, Option.bind_none, Bool.not_eq_true', decide_eq_false_iff_not, Bool.and_eq_true, Bool.or_eq_true, Option.some.injEq, Int.not_lt, Int.not_le, lp34_0, q, hx, hxe, hs, h3, h4, List.length_map]
    refine ⟨(j + 1, max acc (seg (mosts arts) (beginOf c j) (c[j]'(by omega)))), by simp only [go_sem, reduceIte, Nat.reduceEqDiff, Nat.reduceAdd, Nat.reduceSub, Nat.reduceLeDiff, Nat.reduceLT, reduceCtorEq, Int.reduceLT, Int.reduceLE, Int.reduceEq, Int.reduceBEq, Int.reduceSub, Int.reduceAdd, Int.reduceMul, Int.reduceNeg, Int.reduceToNat, Nat.reduceMul, Nat.reduceBEq, ren1_locm, loc_tips, locT_eq] <;> rfl, ?_, ?_, fun x en s hq => ?_⟩
    · exact hok2
    · exact hmeas
    · rw [hf]; exact hq
  · have hdn : c.drop j = [] := List.drop_eq_nil_of_le (by omega)
    simp only [go_sem, reduceIte, Nat.reduceEqDiff, Nat.reduceAdd, Nat.reduceSub, Nat.reduceLeDiff, Nat.reduceLT, reduceCtorEq, Int.reduceLT, Int.reduceLE, Int.reduceEq, Int.reduceBEq, Int.reduceSub, Int.reduceAdd, Int.reduceMul, Int.reduceNeg, Int.reduceToNat, Nat.reduceMul, Nat.reduceBEq, index_rsl_if, setm, make_ints, condK_dec, wantK_dec, not_dec, and_dec, or_dec, seqK_ite, seqK_none, blockK_ite, blockK_none, opsK_ite, opsK_none, stepK_ite, stepK_none, bodyK_ite, bodyK_none, resK_ite, resK_none, leaveK_ite, leaveK_none, only_ite, only_none, bind_ite, gives_some, gives_none, gives_ite, then_normal, then_ret, then_exit, then_none, then_ite, Option.bind_none, Bool.not_eq_true', decide_eq_false_iff_not, Bool.and_eq_true, Bool.or_eq_true, Option.some.injEq, Int.not_lt, Int.not_le, lp34_0, q, hx, List.length_map, hdn]
    rfl

theorem cut_len {n : Nat} (hn : n ≤ 12) {c : List Int} (h : c ∈ cutsOf n 0) : c.length < 1000 := by
  have h1 := (cuts_ok n n 0 rfl (by omega) _ h).1
  have : ∀ (n last : Int) (c : List Int), loopErr n last c = 0 → last + c.length ≤ n ∨ c = [] := by
    intro n last c
    induction c generalizing last with
    | nil => intro _; exact .inr rfl
    | cons e r ih =>
      intro h
      obtain ⟨q1, q2, q3, q4⟩ := loopErr_cons h
      rcases ih e q4 with h5 | h5
      · simp only [List.length_cons]; exact .inl (by omega)
      · subst h5; simp only [List.length_cons, List.length_nil]; exact .inl (by omega)
  rcases this _ _ _ h1 with h2 | h2
  · omega
  · rw [h2]; simp

theorem loop34_1 (nl : Bool) (arts : List (Int × Int)) (room floor : Int) (hc : check arts room floor = 0) (v : Int) (L0 : List (List Int)) (hL : L0 = cutsOf arts.length 0) (hlen : L0.length ≤ 5000) (i : Nat) (best : Int) (hok : i ≤ L0.length) (env : Env) (st : St)
    (hg : gcAV true 1 0 (canon env [1, 2, 7, 8, 9]) st = ([(1, I v), (2, .ptr 0 0), (7, I best), (8, sl 1 true (L0.map listAV)), (9, I i)], ⟨[bookCells nl arts room floor], []⟩)) :
    ∃ x_1 en s, lim (headed pure (run L) true [1, 2, 7, 8, 9] lp34_1 1 0) env st = some (x_1, en, s) ∧ (x_1 = .exit 0 ∧ en.get 7 = I (levelF (mosts arts) v best (L0.drop i))) := by
  refine loop_wp (α := Nat × Int) (fun ⟨i, best⟩ => L0.length - i) (fun ⟨i, best⟩ => i ≤ L0.length) (fun ⟨i, best⟩ => ([(1, I v), (2, .ptr 0 0), (7, I best), (8, sl 1 true (L0.map listAV)), (9, I i)], ⟨[bookCells nl arts room floor], []⟩)) (fun ⟨i, best⟩ x_1 en s => x_1 = .exit 0 ∧ en.get 7 = I (levelF (mosts arts) v best (L0.drop i))) (fun ⟨i, best⟩ hok => ?_) ⟨i, best⟩ hok env st hg
  simp only at hok
  obtain ⟨g1, g2, g3, g4⟩ := mosts_ok hc
  by_cases q : (i : Int) < (L0.length : Int)
  · have hx := index_lists true L0 i (by omega)
    have hs := succ64 i (by omega)
    have hmem : L0[i]'(by omega) ∈ cutsOf arts.length 0 := by rw [← hL]; exact List.getElem_mem _
    have hd : L0.drop i = L0[i]'(by omega) :: L0.drop (i + 1) := List.drop_eq_getElem_cons (by omega)
    have hok2 : i + 1 ≤ L0.length := by omega
    have hmeas : L0.length - (i + 1) < L0.length - i := by omega
    simp only [go_sem, reduceIte, Nat.reduceEqDiff, Nat.reduceAdd, Nat.reduceSub, Nat.reduceLeDiff, Nat.reduceLT, reduceCtorEq, Int.reduceLT, Int.reduceLE, Int.reduceEq, Int.reduceBEq, Int.reduceSub, Int.reduceAdd, Int.reduceMul, Int.reduceNeg, Int.reduceToNat, Nat.reduceMul, Nat.reduceBEq, index_rsl_if, setm, make_ints, condK_dec, wantK_dec, not_dec, and_dec, or_dec, seqK_ite, seqK_none, blockK_ite, blockK_none, opsK_ite, opsK_none, stepK_ite, stepK_none, bodyK_ite, bodyK_none, resK_ite, resK_none, leaveK_ite, leaveK_none, only_ite, only_none, bind_ite, gives_some, gives_none, gives_ite, then_normal, then_ret, then_exit, then_none, then_ite, Option.bind_none, Bool.not_eq_true', decide_eq_false_iff_not, Bool.and_eq_true, Bool.or_eq_true, Option.some.injEq, Int.not_lt, Int.not_le, lp34_1, q, List.length_map]
    have h1 := (cuts_ok arts.length arts.length 0 rfl (by omega) _ hmem).1
    simp only [Int.natCast_zero] at h1
    generalize hg : lim (headed pure (run L) true _ lp34_0 _ _) _ _ = o
    obtain ⟨x, en, s, rfl, h2⟩ : ∃ x en s, o = some (x, en, s) ∧ _ := by rw [← hg]; exact loop34_0 nl arts room floor hc v best L0 i (by omega) _ rfl (cut_len g4 hmem) h1 0 0 (Nat.zero_le _) _ _ (by simp only [go_sem, reduceIte, Nat.reduceEqDiff, Nat.reduceAdd, Nat.reduceSub, Nat.reduceLeDiff, Nat.reduceLT, reduceCtorEq, Int.reduceLT, Int.reduceLE, Int.reduceEq, Int.reduceBEq, Int.reduceSub, Int.reduceAdd, Int.reduceMul, Int.reduceNeg, Int.reduceToNat, Nat.reduceMul, Nat.reduceBEq] <;> rfl)
    clear hg
    obtain ⟨rfl, h3, h4, h5, h6, h7, h8, rfl⟩ := h2
    have hb0 : beginOf (L0[i]'(by omega)) 0 = 0 := rfl
    rw [hb0, List.drop_zero] at h8
    generalize L0[i]'(by omega) = c at *
    by_cases p : (c.length : Int) ≤ v
    · have hf : levelF (mosts arts) v best (L0.drop i) = levelF (mosts arts) v (min best (maxSeg (mosts arts) 0 0 c)) (L0.drop (i + 1)) := by rw [hd]; simp only [levelF, List.foldl_cons]; rw [if_pos p]
      simp only [go_sem, reduceIte, Nat.reduceEqDiff, Nat.reduceAdd, Nat.reduceSub, Nat.reduceLeDiff, Nat.reduceLT, reduceCtorEq, Int.reduceLT, Int.reduceLE, Int.reduceEq, Int.reduceBEq, Int.reduceSub, Int.reduceAdd, Int.reduceMul, Int.reduceNeg, Int.reduceToNat, Nat.reduceMul, Nat.reduceBEq, index_rsl_if, setm, make_ints, condK_dec, wantK_dec, not_dec, and_dec, or_dec, seqK_ite, seqK_none, blockK_ite, blockK_none, opsK_ite, opsK_none, stepK_ite, stepK_none, bodyK_ite, bodyK_none, resK_ite, resK_none, leaveK_ite, leaveK_none, only_ite, only_none, bind_ite, gives_some, gives_none, gives_ite, then_normal, then_ret, then_exit, then_none, then_ite, Option.bind_none, Bool.not_eq_true', decide_eq_false_iff_not, Bool.and_eq_true, Bool.or_eq_true, Option.some.injEq, Int.not_lt, Int.not_le, h3, h4, h5, h6, h7, h8, hx, p, hs, List.length_map]
      refine ⟨(i + 1, min best (maxSeg (mosts arts) 0 0 c)), by simp only [go_sem, reduceIte, Nat.reduceEqDiff, Nat.reduceAdd, Nat.reduceSub, Nat.reduceLeDiff, Nat.reduceLT, reduceCtorEq, Int.reduceLT, Int.reduceLE, Int.reduceEq, Int.reduceBEq, Int.reduceSub, Int.reduceAdd, Int.reduceMul, Int.reduceNeg, Int.reduceToNat, Nat.reduceMul, Nat.reduceBEq, ren1_locm, loc_tips, locT_eq, h3, h4, h5, h6, h7, h8] <;> rfl, ?_, ?_, fun x en s hq => ?_⟩
      · exact hok2
      · exact hmeas
      · rw [hf]; exact hq
    · have hf : levelF (mosts arts) v best (L0.drop i) = levelF (mosts arts) v best (L0.drop (i + 1)) := by rw [hd]; simp only [levelF, List.foldl_cons]; rw [if_neg p]
      simp only [go_sem, reduceIte, Nat.reduceEqDiff, Nat.reduceAdd, Nat.reduceSub, Nat.reduceLeDiff, Nat.reduceLT, reduceCtorEq, Int.reduceLT, Int.reduceLE, Int.reduceEq, Int.reduceBEq, Int.reduceSub, Int.reduceAdd, Int.reduceMul, Int.reduceNeg, Int.reduceToNat, Nat.reduceMul, Nat.reduceBEq, index_rsl_if, setm, make_ints, condK_dec, wantK_dec, not_dec, and_dec, or_dec, seqK_ite, seqK_none, blockK_ite, blockK_none, opsK_ite, opsK_none, stepK_ite, stepK_none, bodyK_ite, bodyK_none, resK_ite, resK_none, leaveK_ite, leaveK_none, only_ite, only_none, bind_ite, gives_some, gives_none, gives_ite, then_normal, then_ret, then_exit, then_none, then_ite, Option.bind_none, Bool.not_eq_true', decide_eq_false_iff_not, Bool.and_eq_true, Bool.or_eq_true, Option.some.injEq, Int.not_lt, Int.not_le, h3, h4, h5, h6, h7, h8, hx, p, hs, List.length_map]
      refine ⟨(i + 1, best), by simp only [go_sem, reduceIte, Nat.reduceEqDiff, Nat.reduceAdd, Nat.reduceSub, Nat.reduceLeDiff, Nat.reduceLT, reduceCtorEq, Int.reduceLT, Int.reduceLE, Int.reduceEq, Int.reduceBEq, Int.reduceSub, Int.reduceAdd, Int.reduceMul, Int.reduceNeg, Int.reduceToNat, Nat.reduceMul, Nat.reduceBEq, ren1_locm, loc_tips, locT_eq, h3, h4, h5, h6, h7, h8] <;> rfl, ?_, ?_, fun x en s hq => ?_⟩
      · exact hok2
      · exact hmeas
      · rw [hf]; exact hq
  · have hdn : L0.drop i = [] := List.drop_eq_nil_of_le (by omega)
    simp only [go_sem, reduceIte, Nat.reduceEqDiff, Nat.reduceAdd, Nat.reduceSub, Nat.reduceLeDiff, Nat.reduceLT, reduceCtorEq, Int.reduceLT, Int.reduceLE, Int.reduceEq, Int.reduceBEq, Int.reduceSub, Int.reduceAdd, Int.reduceMul, Int.reduceNeg, Int.reduceToNat, Nat.reduceMul, Nat.reduceBEq, index_rsl_if, setm, make_ints, condK_dec, wantK_dec, not_dec, and_dec, or_dec, seqK_ite, seqK_none, blockK_ite, blockK_none, opsK_ite, opsK_none, stepK_ite, stepK_none, bodyK_ite, bodyK_none, resK_ite, resK_none, leaveK_ite, leaveK_none, only_ite, only_none, bind_ite, gives_some, gives_none, gives_ite, then_normal, then_ret, then_exit, then_none, then_ite, Option.bind_none, Bool.not_eq_true', decide_eq_false_iff_not, Bool.and_eq_true, Bool.or_eq_true, Option.some.injEq, Int.not_lt, Int.not_le, lp34_1, q, List.length_map, hdn]
    rfl

def levelR (arts : List (Int × Int)) (room floor v : Int) : Int × Int :=
  if check arts room floor = 0 then
    (if v < 1 ∨ (arts.length : Int) < v then (0, 1) else (levelF (mosts arts) v (seg (mosts arts) 0 arts.length) (cutsOf arts.length 0), 0))
  else (0, check arts room floor)

theorem c34 (nl : Bool) (arts : List (Int × Int)) (room floor v : Int) (st : St) :
    run L 34 [bookAV nl arts room floor, I v] st = some (two (levelR arts room floor v), st) := by
  rw [run_pure (fn := ir34) rfl rfl]
  have hc := fun st => c26 nl arts room floor st
  unfold levelR
  by_cases p0 : check arts room floor = 0
  · rw [if_pos p0]
    obtain ⟨g1, g2, g3, g4⟩ := mosts_ok p0
    by_cases p1 : 1 ≤ v ∧ v ≤ (arts.length : Int)
    · rw [if_neg (by omega)]
      have h84 : ∀ st, run L 84 [I arts.length, .v (.slice none 0 0)] st = some (sl 1 true ((cutsOf arts.length 0).map listAV), st) := by
        intro st
        have := c84 arts.length g4 g3 (arts.length - 0) true [] 0 rfl (by omega) (by simp) rfl st
        rw [preL_nil] at this
        exact this
      have h78 := fun st => c78' nl arts room floor p0 0 arts.length (by omega) (by omega) (by omega) st
      have hlen := (cutsOf_len arts.length 12 0 (by omega)).1
      simp only [ir34, go_sem, reduceIte, Nat.reduceEqDiff, Nat.reduceAdd, Nat.reduceSub, Nat.reduceLeDiff, Nat.reduceLT, reduceCtorEq, Int.reduceLT, Int.reduceLE, Int.reduceEq, Int.reduceBEq, Int.reduceSub, Int.reduceAdd, Int.reduceMul, Int.reduceNeg, Int.reduceToNat, Nat.reduceMul, Nat.reduceBEq, hc, p0, c77, p1, h78, h84, List.length_map]
      generalize hg : lim (headed pure (run L) true _ lp34_1 _ _) _ _ = o
      obtain ⟨x, en, s, rfl, h2⟩ : ∃ x en s, o = some (x, en, s) ∧ _ := by rw [← hg]; exact loop34_1 nl arts room floor p0 v _ rfl (by omega) 0 (seg (mosts arts) 0 arts.length) (Nat.zero_le _) _ _ (by simp only [go_sem, reduceIte, Nat.reduceEqDiff, Nat.reduceAdd, Nat.reduceSub, Nat.reduceLeDiff, Nat.reduceLT, reduceCtorEq, Int.reduceLT, Int.reduceLE, Int.reduceEq, Int.reduceBEq, Int.reduceSub, Int.reduceAdd, Int.reduceMul, Int.reduceNeg, Int.reduceToNat, Nat.reduceMul, Nat.reduceBEq] <;> rfl)
      clear hg
      obtain ⟨rfl, h3⟩ := h2
      rw [List.drop_zero] at h3
      simp only [go_sem, reduceIte, Nat.reduceEqDiff, Nat.reduceAdd, Nat.reduceSub, Nat.reduceLeDiff, Nat.reduceLT, reduceCtorEq, Int.reduceLT, Int.reduceLE, Int.reduceEq, Int.reduceBEq, Int.reduceSub, Int.reduceAdd, Int.reduceMul, Int.reduceNeg, Int.reduceToNat, Nat.reduceMul, Nat.reduceBEq, h3]
    · rw [if_pos (by omega)]
      simp only [ir34, go_sem, reduceIte, Nat.reduceEqDiff, Nat.reduceAdd, Nat.reduceSub, Nat.reduceLeDiff, Nat.reduceLT, reduceCtorEq, Int.reduceLT, Int.reduceLE, Int.reduceEq, Int.reduceBEq, Int.reduceSub, Int.reduceAdd, Int.reduceMul, Int.reduceNeg, Int.reduceToNat, Nat.reduceMul, Nat.reduceBEq, hc, p0, c77, p1, List.length_map]
  · rw [if_neg p0]
    simp only [ir34, go_sem, reduceIte, Nat.reduceEqDiff, Nat.reduceAdd, Nat.reduceSub, Nat.reduceLeDiff, Nat.reduceLT, reduceCtorEq, Int.reduceLT, Int.reduceLE, Int.reduceEq, Int.reduceBEq, Int.reduceSub, Int.reduceAdd, Int.reduceMul, Int.reduceNeg, Int.reduceToNat, Nat.reduceMul, Nat.reduceBEq, hc, p0]

/-! ### the smallest room -/

theorem maxSeg_le (l : List Int) (room : Int) : ∀ (c : List Int) (b acc : Int), maxSeg l b acc c ≤ room ↔ acc ≤ room ∧ okC (fun b e => decide (seg l b e ≤ room)) b c = true
  | [], b, acc => by simp [maxSeg, okC]
  | e :: r, b, acc => by
    simp only [maxSeg, okC, Bool.and_eq_true, decide_eq_true_eq]
    rw [maxSeg_le l room r]
    constructor
    · rintro ⟨h1, h2⟩; exact ⟨by omega, by omega, h2⟩
    · rintro ⟨h1, h2, h3⟩; exact ⟨by omega, h3⟩
theorem levelF_le (l : List Int) (v : Int) : ∀ (L0 : List (List Int)) (best : Int), levelF l v best L0 ≤ best ∧ (∀ c ∈ L0, (c.length : Int) ≤ v → levelF l v best L0 ≤ maxSeg l 0 0 c) ∧
    (levelF l v best L0 = best ∨ ∃ c ∈ L0, (c.length : Int) ≤ v ∧ levelF l v best L0 = maxSeg l 0 0 c)
  | [], best => ⟨Int.le_refl _, by simp, .inl rfl⟩
  | x :: r, best => by
    have h := levelF_le l v r (if (x.length : Int) ≤ v then min best (maxSeg l 0 0 x) else best)
    have he : levelF l v best (x :: r) = levelF l v (if (x.length : Int) ≤ v then min best (maxSeg l 0 0 x) else best) r := rfl
    rw [he]
    obtain ⟨h1, h2, h3⟩ := h
    refine ⟨?_, ?_, ?_⟩
    · by_cases hx : (x.length : Int) ≤ v
      · rw [if_pos hx] at h1 ⊢; omega
      · rw [if_neg hx] at h1 ⊢; omega
    · intro c hc hl
      rcases List.mem_cons.1 hc with rfl | hc
      · rw [if_pos hl] at h1 ⊢; omega
      · exact h2 c hc hl
    · rcases h3 with h3 | ⟨c, h3, h4, h5⟩
      · split at h3
        · next hx =>
          rw [if_pos hx] at *
          by_cases hm : best ≤ maxSeg l 0 0 x
          · left; omega
          · right; exact ⟨x, by simp, hx, by omega⟩
        · next hx => rw [if_neg hx] at *; left; exact h3
      · right; exact ⟨c, by simp [h3], h4, h5⟩

theorem halve_eq (p : Int → Prop) [DecidablePred p] (m : Int) : ∀ (k : Nat) (low high : Int), low ≤ m → m ≤ high → high - low ≤ k → (∀ r, low ≤ r → (p r ↔ m ≤ r)) → halve p k low high = m
  | 0, low, high, h1, h2, h3, _ => by simp only [halve]; omega
  | k + 1, low, high, h1, h2, h3, h4 => by
    simp only [halve]
    by_cases h : low < high
    · rw [if_pos h]
      have hp := h4 ((low + high) / 2) (by omega)
      by_cases hq : p ((low + high) / 2)
      · rw [if_pos hq]
        exact halve_eq p m k low _ h1 (hp.1 hq) (by omega) h4
      · rw [if_neg hq]
        have : ¬ m ≤ (low + high) / 2 := fun h => hq (hp.2 h)
        exact halve_eq p m k _ high (by omega) h2 (by omega) (fun r hr => h4 r (by omega))
    · rw [if_neg h]; omega

/-- With some room so many volumes are enough just if a cut says so. -/
theorem fits_iff {arts : List (Int × Int)} {room0 floor : Int} (hc : check arts room0 floor = 0) (v room : Int) :
    fits (mosts arts) v room ↔ ∃ c ∈ cutsOf arts.length 0, (c.length : Int) ≤ v ∧ okC (fun b e => decide (seg (mosts arts) b e ≤ room)) 0 c = true := by
  obtain ⟨g1, g2, g3, g4⟩ := mosts_ok hc
  obtain ⟨_, _, k3, _⟩ := check_zero hc
  have hm : Mono arts.length (fun b e => decide (seg (mosts arts) b e ≤ room)) := by
    intro b b' e' e h1 h2 h3 h4 h5
    simp only [decide_eq_true_eq] at h5 ⊢
    have := seg_mono (l := arts.map (·.2)) (by intro x hx; obtain ⟨a, ha, rfl⟩ := List.mem_map.1 hx; have := k3 a ha; omega) b b' e' e h1 h2 h3 (by simpa using h4)
    simp only [mosts] at h5 ⊢
    omega
  have hmem : ∀ c, c ∈ goods arts.length (fun b e => decide (seg (mosts arts) b e ≤ room)) 0 ↔ c ∈ cutsOf arts.length 0 ∧ okC (fun b e => decide (seg (mosts arts) b e ≤ room)) 0 c = true := by
    intro c; unfold goods; rw [List.mem_filter]; rfl
  by_cases hs : ∀ e : Nat, 1 ≤ e → e ≤ arts.length → seg (mosts arts) ((e : Int) - 1) e ≤ room
  · obtain ⟨r, h1, h2⟩ := fill_goods (mosts arts) room arts.length hm hs arts.length 0 1 [] (by omega) (by omega) (.inl rfl) (by omega)
    have hf : filled (mosts arts) room = r ++ [(arts.length : Int)] := by
      unfold filled
      rw [g2, Nat.add_sub_cancel, h1]
      simp only [List.nil_append]
      congr 2; omega
    obtain ⟨q1, q2⟩ := lastMin_mem h2
    unfold fits
    rw [hf]
    constructor
    · rintro ⟨_, h⟩
      have := (hmem _).1 q1
      exact ⟨_, this.1, h, this.2⟩
    · rintro ⟨c, h3, h4, h5⟩
      have := q2 c ((hmem c).2 ⟨h3, h5⟩)
      exact ⟨by simp, by omega⟩
  · have : ∃ e : Nat, 1 ≤ e ∧ e ≤ arts.length ∧ room < seg (mosts arts) ((e : Int) - 1) e := by
      apply Classical.byContradiction
      intro hn
      apply hs
      intro e h1 h2
      apply Classical.byContradiction
      intro h3
      exact hn ⟨e, h1, h2, by omega⟩
    obtain ⟨e, h1, h2, h3⟩ := this
    have hf : filled (mosts arts) room = [] := by
      unfold filled
      rw [g2, Nat.add_sub_cancel, fill_none (mosts arts) room arts.length 0 1 [] ⟨e, h1, by omega, h3⟩]
    unfold fits
    rw [hf]
    constructor
    · rintro ⟨h, _⟩; exact absurd rfl h
    · rintro ⟨c, h4, h5, h6⟩
      exfalso
      have := good_single hm c 0 e ((goods_iff _ _ _ 0 rfl c).1 ((hmem c).2 ⟨h4, h6⟩)) (by omega) h2
      simp at this; omega

theorem all_in_one {n : Nat} (h : 0 < n) : [(n : Int)] ∈ cutsOf n 0 := by
  rw [cutsOf_eq h, List.mem_flatMap]
  exact ⟨n, by simp [List.mem_range']; exact ⟨n - 1, by omega, by omega⟩, by rw [cutsOf_end (Nat.le_refl _)]; simp⟩

theorem seg_pos {arts : List (Int × Int)} {room floor : Int} (hc : check arts room floor = 0) (b e : Nat) (h : b < e) (he : e ≤ arts.length) : 1 ≤ seg (mosts arts) b e := by
  obtain ⟨_, _, k3, _⟩ := check_zero hc
  have h1 := seg_mono (l := arts.map (·.2)) (by intro x hx; obtain ⟨a, ha, rfl⟩ := List.mem_map.1 hx; have := k3 a ha; omega) b b (b + 1) e (Nat.le_refl _) (by omega) (by omega) (by simpa using he)
  have h2 := seg_sums (·.2) arts b ((b + 1 : Nat) : Int) (by omega) (by omega) (by omega)
  rw [Int.toNat_natCast, Int.toNat_natCast, sumSeg_step _ _ _ _ (by omega) (by omega), sumSeg_end _ _ _ _ (by omega)] at h2
  have := k3 _ (List.getElem_mem (show b < arts.length by omega))
  simp only [mosts] at *
  omega

theorem level_eq (arts : List (Int × Int)) (room floor v : Int) : levelV arts room floor v = levelR arts room floor v := by
  unfold levelV levelR
  by_cases p0 : check arts room floor = 0
  · rw [if_pos p0, if_pos p0]
    by_cases p1 : v < 1 ∨ (arts.length : Int) < v
    · rw [if_pos p1, if_pos p1]
    · rw [if_neg p1, if_neg p1]
      obtain ⟨g1, g2, g3, g4⟩ := mosts_ok p0
      have hseg : seg (mosts arts) 0 arts.length = (mosts arts).getD arts.length 0 := by
        have : (mosts arts).getD 0 0 = 0 := by unfold mosts; cases arts <;> rfl
        unfold seg
        simp only [Int.toNat_natCast, Int.toNat_zero, this]; omega
      obtain ⟨h1, h2, h3⟩ := levelF_le (mosts arts) v (cutsOf arts.length 0) (seg (mosts arts) 0 arts.length)
      have hone := all_in_one (n := arts.length) (by omega)
      have hmax : maxSeg (mosts arts) 0 0 [(arts.length : Int)] = seg (mosts arts) 0 arts.length := by
        have := seg_pos p0 0 arts.length (by omega) (by omega)
        simp only [maxSeg, Int.natCast_zero] at this ⊢; omega
      have hwit : ∃ c ∈ cutsOf arts.length 0, (c.length : Int) ≤ v ∧ levelF (mosts arts) v (seg (mosts arts) 0 arts.length) (cutsOf arts.length 0) = maxSeg (mosts arts) 0 0 c := by
        rcases h3 with h3 | h3
        · exact ⟨_, hone, by simp; omega, by rw [h3, hmax]⟩
        · exact h3
      obtain ⟨c, hc1, hc2, hc3⟩ := hwit
      have hpos : 1 ≤ levelF (mosts arts) v (seg (mosts arts) 0 arts.length) (cutsOf arts.length 0) := by
        rw [hc3]
        have hg : IsGood arts.length (fun _ _ => true) 0 c := by
          rw [← goods_iff arts.length (fun _ _ => true) _ 0 rfl]
          unfold goods
          rw [List.mem_filter]
          refine ⟨hc1, ?_⟩
          have : ∀ (b : Int) (c : List Int), okC (fun _ _ => true) b c = true := by
            intro b c
            induction c generalizing b with
            | nil => rfl
            | cons e r ih => simp [okC, ih]
          exact this _ _
        cases c with
        | nil => simp only [IsGood] at hg; omega
        | cons e r =>
          obtain ⟨e', rfl, q1, q2, _, _⟩ := hg
          have := seg_pos p0 0 e' q1 q2
          simp only [Int.natCast_zero] at this
          have hle := (maxSeg_le (mosts arts) (maxSeg (mosts arts) 0 0 ((e' : Int) :: r)) ((e' : Int) :: r) 0 0).1 (Int.le_refl _)
          simp only [okC, Bool.and_eq_true, decide_eq_true_eq] at hle
          omega
      generalize levelF (mosts arts) v (seg (mosts arts) 0 arts.length) (cutsOf arts.length 0) = m at *
      have hb : (mosts arts).getD arts.length 0 ≤ 100000 := by
        rw [List.getD_eq_getElem?_getD, List.getElem?_eq_getElem (show arts.length < (mosts arts).length by omega)]
        exact (g1 _ (List.getElem_mem _)).2
      rw [halve_eq (fits (mosts arts) v) m 100000 1 _ hpos (by omega) (by omega) fun r hr => ?_]
      rw [fits_iff p0]
      constructor
      · rintro ⟨c', q1, q2, q3⟩
        have := (maxSeg_le (mosts arts) r c' 0 0).2 ⟨by omega, q3⟩
        have := h2 c' q1 q2
        omega
      · intro hmr
        exact ⟨c, hc1, hc2, ((maxSeg_le (mosts arts) r c 0 0).1 (by omega)).2⟩
  · rw [if_neg p0, if_neg p0]


theorem fewest_len (arts : List (Int × Int)) (room floor : Int) : (fewestV arts room floor).1.length < 1000000 := by
  unfold fewestV
  split
  · next p0 =>
    obtain ⟨g1, g2, g3, g4⟩ := mosts_ok p0
    have : (filled (mosts arts) room).length ≤ 20 := by
      unfold filled
      split
      · simp
      · next r h =>
        have := fillFrom_len _ _ _ _ _ _ _ h
        simp only [List.length_nil] at this
        simp only [List.length_append, List.length_cons, List.length_nil]; omega
    split
    · simp
    · simp only; omega
  · simp
theorem c4 (nl : Bool) (arts : List (Int × Int)) (room floor v : Int) (st : St) :
    run L 4 [bookAV nl arts room floor, I v] st = some (B true, st) := by
  rw [run_pure (fn := ir4) rfl rfl]
  by_cases p1 : 40 < (arts.length : Int)
  · simp only [ir4, go_sem, reduceIte, Nat.reduceEqDiff, Nat.reduceAdd, Nat.reduceSub, Nat.reduceLeDiff, Nat.reduceLT, reduceCtorEq, Int.reduceLT, Int.reduceLE, Int.reduceEq, Int.reduceBEq, Int.reduceSub, Int.reduceAdd, Int.reduceMul, Int.reduceNeg, Int.reduceToNat, Nat.reduceMul, Nat.reduceBEq, p1, c17, List.length_map]
  · have h18 := fun st => c18 nl arts (by omega) room floor st
    have h31 := fun st => c31 nl arts room floor st
    have h32 := fun st => c32 true arts room floor st
    have h33 := fun st => c33 nl arts room floor v st
    have h34 := fun st => c34 true arts room floor v st
    rw [← fewest_eq] at h32
    rw [← level_eq] at h34
    have h35 := fun b st => c35 true b (fewestV arts room floor).1 (fewestV arts room floor).1 (fewest_len _ _ _) st
    simp only [ir4, go_sem, reduceIte, Nat.reduceEqDiff, Nat.reduceAdd, Nat.reduceSub, Nat.reduceLeDiff, Nat.reduceLT, reduceCtorEq, Int.reduceLT, Int.reduceLE, Int.reduceEq, Int.reduceBEq, Int.reduceSub, Int.reduceAdd, Int.reduceMul, Int.reduceNeg, Int.reduceToNat, Nat.reduceMul, Nat.reduceBEq, p1, c17, List.length_map, h18, h31, h32, h33, h34, h35]


theorem c86 (nl : Bool) (arts : List (Int × Int)) (room floor : Int) (hc : check arts room floor = 0) (x y : Int) (h0 : 0 ≤ x) (h1 : y < arts.length) (st : St) :
    run L 86 [bookAV nl arts room floor, artAV (x, y)] st = some (B (decide (x < y ∧ room < seg (mosts arts) x (y + 1))), st) := by
  rw [run_pure (fn := ir86) rfl rfl]
  obtain ⟨g1, g2, g3, g4⟩ := mosts_ok hc
  by_cases p : x < y
  · have hw := wrap64 (y + 1) (by omega) (by omega)
    have h78 := fun st => c78' nl arts room floor hc x (y + 1) h0 (by omega) (by omega) st
    simp only [ir86, go_sem, reduceIte, Nat.reduceEqDiff, Nat.reduceAdd, Nat.reduceSub, Nat.reduceLeDiff, Nat.reduceLT, reduceCtorEq, Int.reduceLT, Int.reduceLE, Int.reduceEq, Int.reduceBEq, Int.reduceSub, Int.reduceAdd, Int.reduceMul, Int.reduceNeg, Int.reduceToNat, Nat.reduceMul, Nat.reduceBEq, p, hw, h78]
  · simp only [ir86, go_sem, reduceIte, Nat.reduceEqDiff, Nat.reduceAdd, Nat.reduceSub, Nat.reduceLeDiff, Nat.reduceLT, reduceCtorEq, Int.reduceLT, Int.reduceLE, Int.reduceEq, Int.reduceBEq, Int.reduceSub, Int.reduceAdd, Int.reduceMul, Int.reduceNeg, Int.reduceToNat, Nat.reduceMul, Nat.reduceBEq, p]

/-- The first of the longest rows of stretches from article x on. -/
def rowD (n : Nat) (la : Nat → Nat) (x : Nat) : List (Int × Int) :=
  if x < n then
    (if la x < n ∧ (rowD n la (x + 1)).length ≤ (rowD n la (max (x + 1) (la x))).length + 1 then ((x : Int), (la x : Int)) :: rowD n la (max (x + 1) (la x)) else rowD n la (x + 1))
  else []
termination_by n - x
theorem rowD_len (n : Nat) (la : Nat → Nat) : ∀ (m x : Nat), n - x = m → (rowD n la x).length = rowOf n la x := by
  intro m
  induction m using Nat.strongRecOn with
  | ind m ih =>
    intro x hm
    rw [rowD, rowOf]
    by_cases h : x < n
    · rw [if_pos h, if_pos h]
      have h1 := ih (n - (x + 1)) (by omega) (x + 1) rfl
      have h2 := ih (n - (max (x + 1) (la x))) (by omega) _ rfl
      rw [h1, h2]
      by_cases h3 : la x < n
      · rw [if_pos h3]
        by_cases h4 : rowOf n la (x + 1) ≤ rowOf n la (max (x + 1) (la x)) + 1
        · rw [if_pos ⟨h3, h4⟩, List.length_cons, h2]; omega
        · rw [if_neg (fun h => h4 h.2), h1]; omega
      · rw [if_neg h3, if_neg (fun h => h3 h.1), h1]
    · rw [if_neg h, if_neg h]; rfl
theorem rowWalk_eq (n : Nat) (la : Nat → Nat) (hla : ∀ x, x < n → x < la x ∧ la x ≤ n) : ∀ (k x : Nat), n ≤ x + k → rowWalk n la (rowOf n la) k x = rowD n la x
  | 0, x, h => by
    rw [rowD, if_neg (by omega)]; rfl
  | k + 1, x, h => by
    simp only [rowWalk]
    have hl := rowD_len n la _ x rfl
    by_cases hx : x < n
    · have hla' := hla x hx
      have e1 : max (x + 1) (la x) = la x := by omega
      have h1 := rowD_len n la _ (x + 1) rfl
      have h2 := rowD_len n la _ (la x) rfl
      have hro : rowOf n la x = if la x < n then max (rowOf n la (x + 1)) (1 + rowOf n la (la x)) else rowOf n la (x + 1) := by
        rw [rowOf, if_pos hx, e1]
      have hrd : rowD n la x = if la x < n ∧ (rowD n la (x + 1)).length ≤ (rowD n la (la x)).length + 1 then ((x : Int), (la x : Int)) :: rowD n la (la x) else rowD n la (x + 1) := by
        rw [rowD, if_pos hx, e1]
      rw [rowWalk_eq n la hla k (x + 1) (by omega), rowWalk_eq n la hla k (la x) (by omega), hrd, h1, h2]
      by_cases h3 : la x < n
      · rw [if_pos h3] at hro
        by_cases h4 : rowOf n la (x + 1) ≤ rowOf n la (la x) + 1
        · rw [if_pos (show 0 < rowOf n la x by omega), if_neg (show ¬(la x = n ∨ 1 + rowOf n la (la x) < rowOf n la x) by omega), if_pos ⟨h3, h4⟩]
        · rw [if_pos (show 0 < rowOf n la x by omega), if_pos (show la x = n ∨ 1 + rowOf n la (la x) < rowOf n la x by omega), if_neg (fun h => h4 h.2)]
      · rw [if_neg h3] at hro
        by_cases h5 : 0 < rowOf n la x
        · rw [if_pos h5, if_pos (show la x = n ∨ 1 + rowOf n la (la x) < rowOf n la x by omega), if_neg (fun h => h3 h.1)]
        · rw [if_neg h5, if_neg (fun h => h3 h.1)]
          have : (rowD n la (x + 1)).length = 0 := by omega
          exact (List.eq_nil_of_length_eq_zero this).symm
    · rw [rowOf, if_neg hx, if_neg (by omega), rowD, if_neg hx]

/-- The best row so far, as it lies. -/
def bestAV (b : List (Int × Int)) : AV := if b = [] then .v (.slice none 0 0) else loc 2 1 (b.map artAV)
def bestT (b : List (Int × Int)) : List Nat := if b = [] then [] else locT 1 (b.map artAV)
theorem len_best (b : List (Int × Int)) : lenAV (bestAV b) = some (I b.length) := by
  unfold bestAV; split
  · next h => subst h; rfl
  · rw [len_loc]; simp
theorem okRef_best (n : Nat) (b : List (Int × Int)) : okRef n (bestAV b) = true := by
  unfold bestAV; split
  · rfl
  · exact okRef_loc _ _ _ _
theorem ren1_bestH (b : List (Int × Int)) : ren1 (bestT b).length (bestT b) [] (bestAV b) = (bestAV b, []) := by
  unfold bestAV bestT
  split
  · rfl
  · unfold loc locT
    split
    · rfl
    · simp [ren1]
def bestAcc (b : List (Int × Int)) : List (Nat × Nat) := if b = [] then [] else if b.length = 1 then [] else [(0, b.length)]
theorem ren1_best (b : List (Int × Int)) : ren1 0 (bestT b) [] (bestAV b) = (bestAV b, bestAcc b) := by
  unfold bestAV bestT bestAcc
  split
  · rfl
  · rw [ren1_loc]; simp
theorem bestAcc_T (b : List (Int × Int)) : (bestAcc b).map (fun x => x.2) = bestT b := by
  unfold bestAcc bestT
  split
  · rfl
  · simp only [locT, List.length_map]; split <;> rfl
/-- The best row is taken over if it is longer. -/
def bestNext (n : Nat) (la : Nat → Nat) (x : Nat) (b : List (Int × Int)) : List (Int × Int) := if la x < n ∧ b.length < (rowD n la (la x)).length + 1 then ((x : Int), (la x : Int)) :: rowD n la (la x) else b

theorem rowD_short (n : Nat) (la : Nat → Nat) (x : Nat) : (rowD n la x).length ≤ n - x := by rw [rowD_len n la _ x rfl]; exact rowOf_le n la x

theorem app_pair (p : Int × Int) {R : List (Int × Int)} (hR : R ≠ []) (hm : R.length ≤ 1000) (st : St) :
    appendAV 2 (.lst .full 2 [artAV p]) (R.map artAV) st = some (.lst (.own st.tips.length (R.length + 1)) 2 ((p :: R).map artAV), ⟨st.store, st.tips ++ [R.length + 1]⟩) := by
  obtain ⟨y, r, rfl⟩ : ∃ y r, R = y :: r := by cases R with | nil => exact absurd rfl hR | cons y r => exact ⟨y, r, rfl⟩
  simp only [List.length_cons] at hm
  simp [appendAV, maxGrow]
  omega
theorem best_cons (p : Int × Int) (R : List (Int × Int)) (hR : R ≠ []) : bestAV (p :: R) = .lst (.own 0 ((p :: R).map artAV).length) 2 ((p :: R).map artAV) ∧ bestT (p :: R) = [((p :: R).map artAV).length] := by
  have : ¬ ((p :: R).map artAV).length = 1 := by
    cases R with
    | nil => exact absurd rfl hR
    | cons y r => simp
  unfold bestAV bestT
  rw [if_neg (by simp), if_neg (by simp)]
  unfold loc locT
  rw [if_neg this, if_neg this]
  exact ⟨rfl, rfl⟩

theorem loop85_0 (nl : Bool) (arts : List (Int × Int)) (room floor : Int) (hc : check arts room floor = 0) (n : Nat) (hn : n = arts.length) (la : Nat → Nat) (hla : la = lastOfArt (mosts arts) room n) (x : Nat) (hx : x < n) (b : List (Int × Int)) (hi : Nat) (hhi : hi = (bestT b).length) (hrec : ∀ y, x < y → y ≤ n → ∀ st, run L 85 [bookAV nl arts room floor, I y] st = some (sl 2 true ((rowD n la y).map artAV), st)) (k : Nat) (y : Nat) (hok : y + k = n ∧ x < y ∧ stretchEnd (mosts arts) room n x k y = la x ∧ b.length ≤ 100) (env : Env) (st : St)
    (hg : gcAV true 1 hi (canon env [2, 5, 6, 7]) st = ([(2, .ptr 0 0), (5, bestAV b), (6, I x), (7, I y)], ⟨[bookCells nl arts room floor], bestT b⟩)) :
    ∃ x_1 en s, lim (headed pure (run L) true [2, 5, 6, 7] lp85_0 1 hi) env st = some (x_1, en, s) ∧ (x_1 = .exit 2 ∧ en.get 2 = .ptr 0 0 ∧ en.get 6 = I x ∧ s.store = [bookCells nl arts room floor] ∧ okRef 1 (en.get 5) = true ∧ ∃ acc, ren1 0 s.tips [] (en.get 5) = (bestAV (bestNext n la x b), acc) ∧ acc.map (fun p => p.2) = bestT (bestNext n la x b)) := by
  refine loop_wp (α := Nat × Nat) (fun ⟨k, y⟩ => k) (fun ⟨k, y⟩ => y + k = n ∧ x < y ∧ stretchEnd (mosts arts) room n x k y = la x ∧ b.length ≤ 100) (fun ⟨k, y⟩ => ([(2, .ptr 0 0), (5, bestAV b), (6, I x), (7, I y)], ⟨[bookCells nl arts room floor], bestT b⟩)) (fun ⟨k, y⟩ x_1 en s => x_1 = .exit 2 ∧ en.get 2 = .ptr 0 0 ∧ en.get 6 = I x ∧ s.store = [bookCells nl arts room floor] ∧ okRef 1 (en.get 5) = true ∧ ∃ acc, ren1 0 s.tips [] (en.get 5) = (bestAV (bestNext n la x b), acc) ∧ acc.map (fun p => p.2) = bestT (bestNext n la x b)) (fun ⟨k, y⟩ hok => ?_) ⟨k, y⟩ hok env st hg
  simp only at hok
  obtain ⟨g1, g2, g3, g4⟩ := mosts_ok hc
  obtain ⟨hk, hxy, hend, hbl⟩ := hok
  subst hhi
  have hlx : x < la x ∧ la x ≤ n := by rw [hla]; exact lastOfArt_ok _ _ _ _ hx
  by_cases q : (y : Int) < (arts.length : Int)
  · obtain ⟨k, rfl⟩ : ∃ k', k = k' + 1 := ⟨k - 1, by omega⟩
    have hs := succ64 y (by omega)
    have h86 := fun st => c86 nl arts room floor hc x y (by omega) q st
    simp only [stretchEnd] at hend
    by_cases p : seg (mosts arts) x ((y : Int) + 1) ≤ room
    · rw [if_pos ⟨by omega, p⟩] at hend
      have hp : ((x : Int) < (y : Int) ∧ room < seg (mosts arts) x ((y : Int) + 1)) = False := eq_false (by omega)
      have hok2 : y + 1 + k = n ∧ x < y + 1 ∧ stretchEnd (mosts arts) room n x k (y + 1) = la x ∧ b.length ≤ 100 := ⟨by omega, by omega, hend, hbl⟩
      have hmeas : k < k + 1 := by omega
      simp only [go_sem, reduceIte, Nat.reduceEqDiff, Nat.reduceAdd, Nat.reduceSub, Nat.reduceLeDiff, Nat.reduceLT, reduceCtorEq, Int.reduceLT, Int.reduceLE, Int.reduceEq, Int.reduceBEq, Int.reduceSub, Int.reduceAdd, Int.reduceMul, Int.reduceNeg, Int.reduceToNat, Nat.reduceMul, Nat.reduceBEq, index_rsl_if, setm, make_ints, condK_dec, wantK_dec, not_dec, and_dec, or_dec, seqK_ite, seqK_none, blockK_ite, blockK_none, opsK_ite, opsK_none, stepK_ite, stepK_none, bodyK_ite, bodyK_none, resK_ite, resK_none, leaveK_ite, leaveK_none, only_ite, only_none, bind_ite, gives_some, gives_none, gives_ite, then_normal, then_ret, then_exit, then_none, then_ite, Option.bind_none, Bool.not_eq_true', decide_eq_false_iff_not, Bool.and_eq_true, Bool.or_eq_true, Option.some.injEq, Int.not_lt, Int.not_le, lp85_0, q, hs, h86, hp, List.length_map]
      refine ⟨(k, y + 1), by simp only [go_sem, reduceIte, Nat.reduceEqDiff, Nat.reduceAdd, Nat.reduceSub, Nat.reduceLeDiff, Nat.reduceLT, reduceCtorEq, Int.reduceLT, Int.reduceLE, Int.reduceEq, Int.reduceBEq, Int.reduceSub, Int.reduceAdd, Int.reduceMul, Int.reduceNeg, Int.reduceToNat, Nat.reduceMul, Nat.reduceBEq, ren1_locm, loc_tips, locT_eq, okRef_best, ren1_bestH, List.take_length] <;> rfl, ?_, ?_, fun x en s hq => ?_⟩
      · exact hok2
      · exact hmeas
      · exact hq
    · rw [if_neg (fun h => p h.2)] at hend
      have hp : ((x : Int) < (y : Int) ∧ room < seg (mosts arts) x ((y : Int) + 1)) = True := eq_true (by omega)
      have h85 := fun st => hrec y hxy (by omega) st
      have hsh := rowD_short n la y
      have hw : IntKind.i64.wrap (((rowD n la y).length : Int) + 1) = ((rowD n la y).length : Int) + 1 := by rw [wrap64] <;> omega
      by_cases p2 : (b.length : Int) < ((rowD n la y).length : Int) + 1
      · have hbn : bestNext n la x b = ((x : Int), (y : Int)) :: rowD n la y := by unfold bestNext; rw [← hend, if_pos ⟨by omega, by omega⟩]
        rw [hbn]
        generalize rowD n la y = R at *
        by_cases hR : R = []
        · subst hR
          have hw1 : IntKind.i64.wrap 1 = 1 := by rw [wrap64] <;> omega
          have p3 : ((b.length : Int) < 1) = True := eq_true (by simpa using p2)
          have happ := fun st : St => show appendAV 2 (.lst .full 2 [artAV ((x : Int), (y : Int))]) [] st = some (.lst .full 2 [artAV ((x : Int), (y : Int))], st) by simp [appendAV]
          simp only [go_sem, reduceIte, Nat.reduceEqDiff, Nat.reduceAdd, Nat.reduceSub, Nat.reduceLeDiff, Nat.reduceLT, reduceCtorEq, Int.reduceLT, Int.reduceLE, Int.reduceEq, Int.reduceBEq, Int.reduceSub, Int.reduceAdd, Int.reduceMul, Int.reduceNeg, Int.reduceToNat, Nat.reduceMul, Nat.reduceBEq, index_rsl_if, setm, make_ints, condK_dec, wantK_dec, not_dec, and_dec, or_dec, seqK_ite, seqK_none, blockK_ite, blockK_none, opsK_ite, opsK_none, stepK_ite, stepK_none, bodyK_ite, bodyK_none, resK_ite, resK_none, leaveK_ite, leaveK_none, only_ite, only_none, bind_ite, gives_some, gives_none, gives_ite, then_normal, then_ret, then_exit, then_none, then_ite, Option.bind_none, Bool.not_eq_true', decide_eq_false_iff_not, Bool.and_eq_true, Bool.or_eq_true, Option.some.injEq, Int.not_lt, Int.not_le, lp85_0, q, hs, h86, hp, h85, hw1, p3, len_best, happ, List.length_map]
          exact ⟨_, rfl, rfl⟩
        · have happ := fun st => app_pair ((x : Int), (y : Int)) hR (by omega) st
          obtain ⟨b1, b2⟩ := best_cons ((x : Int), (y : Int)) R hR
          simp only [go_sem, reduceIte, Nat.reduceEqDiff, Nat.reduceAdd, Nat.reduceSub, Nat.reduceLeDiff, Nat.reduceLT, reduceCtorEq, Int.reduceLT, Int.reduceLE, Int.reduceEq, Int.reduceBEq, Int.reduceSub, Int.reduceAdd, Int.reduceMul, Int.reduceNeg, Int.reduceToNat, Nat.reduceMul, Nat.reduceBEq, index_rsl_if, setm, make_ints, condK_dec, wantK_dec, not_dec, and_dec, or_dec, seqK_ite, seqK_none, blockK_ite, blockK_none, opsK_ite, opsK_none, stepK_ite, stepK_none, bodyK_ite, bodyK_none, resK_ite, resK_none, leaveK_ite, leaveK_none, only_ite, only_none, bind_ite, gives_some, gives_none, gives_ite, then_normal, then_ret, then_exit, then_none, then_ite, Option.bind_none, Bool.not_eq_true', decide_eq_false_iff_not, Bool.and_eq_true, Bool.or_eq_true, Option.some.injEq, Int.not_lt, Int.not_le, lp85_0, q, hs, h86, hp, h85, hw, p2, len_best, happ, List.length_map]
          refine ⟨[((bestT b).length, ((((x : Int), (y : Int)) :: R).map artAV).length)], ?_, ?_⟩
          · rw [b1, if_pos (by simp)]; simp
          · rw [b2]; rfl
      · have hbn : bestNext n la x b = b := by unfold bestNext; rw [← hend, if_neg (by omega)]
        simp only [go_sem, reduceIte, Nat.reduceEqDiff, Nat.reduceAdd, Nat.reduceSub, Nat.reduceLeDiff, Nat.reduceLT, reduceCtorEq, Int.reduceLT, Int.reduceLE, Int.reduceEq, Int.reduceBEq, Int.reduceSub, Int.reduceAdd, Int.reduceMul, Int.reduceNeg, Int.reduceToNat, Nat.reduceMul, Nat.reduceBEq, index_rsl_if, setm, make_ints, condK_dec, wantK_dec, not_dec, and_dec, or_dec, seqK_ite, seqK_none, blockK_ite, blockK_none, opsK_ite, opsK_none, stepK_ite, stepK_none, bodyK_ite, bodyK_none, resK_ite, resK_none, leaveK_ite, leaveK_none, only_ite, only_none, bind_ite, gives_some, gives_none, gives_ite, then_normal, then_ret, then_exit, then_none, then_ite, Option.bind_none, Bool.not_eq_true', decide_eq_false_iff_not, Bool.and_eq_true, Bool.or_eq_true, Option.some.injEq, Int.not_lt, Int.not_le, lp85_0, q, hs, h86, hp, h85, hw, p2, len_best, List.length_map, okRef_best, hbn]
        exact ⟨_, ren1_best b, bestAcc_T b⟩
  · have hk0 : k = 0 := by omega
    subst hk0
    have hln : la x = n := by simp only [stretchEnd] at hend; omega
    have hbn : bestNext n la x b = b := by unfold bestNext; rw [if_neg (by omega)]
    simp only [go_sem, reduceIte, Nat.reduceEqDiff, Nat.reduceAdd, Nat.reduceSub, Nat.reduceLeDiff, Nat.reduceLT, reduceCtorEq, Int.reduceLT, Int.reduceLE, Int.reduceEq, Int.reduceBEq, Int.reduceSub, Int.reduceAdd, Int.reduceMul, Int.reduceNeg, Int.reduceToNat, Nat.reduceMul, Nat.reduceBEq, index_rsl_if, setm, make_ints, condK_dec, wantK_dec, not_dec, and_dec, or_dec, seqK_ite, seqK_none, blockK_ite, blockK_none, opsK_ite, opsK_none, stepK_ite, stepK_none, bodyK_ite, bodyK_none, resK_ite, resK_none, leaveK_ite, leaveK_none, only_ite, only_none, bind_ite, gives_some, gives_none, gives_ite, then_normal, then_ret, then_exit, then_none, then_ite, Option.bind_none, Bool.not_eq_true', decide_eq_false_iff_not, Bool.and_eq_true, Bool.or_eq_true, Option.some.injEq, Int.not_lt, Int.not_le, lp85_0, q, List.length_map, okRef_best, hbn]
    exact ⟨_, ren1_best b, bestAcc_T b⟩

/-- The loop over the first articles. -/
def rowLoop (n : Nat) (la : Nat → Nat) : Nat → Nat → List (Int × Int) → List (Int × Int)
  | 0, _, b => b
  | k + 1, x, b => rowLoop n la k (x + 1) (bestNext n la x b)
theorem rowLoop_eq (n : Nat) (la : Nat → Nat) (hla : ∀ x, x < n → x < la x ∧ la x ≤ n) : ∀ (k x : Nat) (b : List (Int × Int)), x + k = n → rowLoop n la k x b = if (rowD n la x).length ≤ b.length then b else rowD n la x
  | 0, x, b, h => by
    have h0 : rowD n la x = [] := by rw [rowD, if_neg (by omega)]
    rw [h0, if_pos (by simp)]; rfl
  | k + 1, x, b, h => by
    have hl := hla x (by omega)
    have e1 : max (x + 1) (la x) = la x := by omega
    have hrd : rowD n la x = if la x < n ∧ (rowD n la (x + 1)).length ≤ (rowD n la (la x)).length + 1 then ((x : Int), (la x : Int)) :: rowD n la (la x) else rowD n la (x + 1) := by
      rw [rowD, if_pos (by omega), e1]
    have hbd : bestNext n la x b = if la x < n ∧ b.length < (rowD n la (la x)).length + 1 then ((x : Int), (la x : Int)) :: rowD n la (la x) else b := rfl
    simp only [rowLoop]
    rw [rowLoop_eq n la hla k (x + 1) _ (by omega)]
    by_cases h3 : la x < n
    · by_cases h4 : (rowD n la (x + 1)).length ≤ (rowD n la (la x)).length + 1
      · rw [if_pos ⟨h3, h4⟩] at hrd
        by_cases h5 : b.length < (rowD n la (la x)).length + 1
        · rw [if_pos ⟨h3, h5⟩] at hbd
          rw [hbd, hrd, List.length_cons, if_pos (by omega), if_neg (by omega)]
        · rw [if_neg (fun h => h5 h.2)] at hbd
          rw [hbd, hrd, List.length_cons, if_pos (by omega), if_pos (by omega)]
      · rw [if_neg (fun h => h4 h.2)] at hrd
        by_cases h5 : b.length < (rowD n la (la x)).length + 1
        · rw [if_pos ⟨h3, h5⟩] at hbd
          rw [hbd, hrd, List.length_cons, if_neg (by omega), if_neg (by omega)]
        · rw [if_neg (fun h => h5 h.2)] at hbd
          rw [hbd, hrd]
    · rw [if_neg (fun h => h3 h.1)] at hrd hbd
      rw [hrd, hbd]

theorem loop85_1 (nl : Bool) (arts : List (Int × Int)) (room floor : Int) (hc : check arts room floor = 0) (n : Nat) (hn : n = arts.length) (la : Nat → Nat) (hla : la = lastOfArt (mosts arts) room n) (x0 : Nat) (hrec : ∀ y, x0 < y → y ≤ n → ∀ st, run L 85 [bookAV nl arts room floor, I y] st = some (sl 2 true ((rowD n la y).map artAV), st)) (k : Nat) (x : Nat) (b : List (Int × Int)) (hok : x + k = n ∧ x0 ≤ x ∧ b.length ≤ 100) (env : Env) (st : St)
    (hg : gcAV true 1 0 (canon env [2, 5, 6]) st = ([(2, .ptr 0 0), (5, bestAV b), (6, I x)], ⟨[bookCells nl arts room floor], bestT b⟩)) :
    ∃ x_1 en s, lim (headed pure (run L) true [2, 5, 6] lp85_1 1 0) env st = some (x_1, en, s) ∧ (x_1 = .exit 0 ∧ en.get 5 = bestAV (rowLoop n la k x b)) := by
  refine loop_wp (α := Nat × Nat × List (Int × Int)) (fun ⟨k, x, b⟩ => k) (fun ⟨k, x, b⟩ => x + k = n ∧ x0 ≤ x ∧ b.length ≤ 100) (fun ⟨k, x, b⟩ => ([(2, .ptr 0 0), (5, bestAV b), (6, I x)], ⟨[bookCells nl arts room floor], bestT b⟩)) (fun ⟨k, x, b⟩ x_1 en s => x_1 = .exit 0 ∧ en.get 5 = bestAV (rowLoop n la k x b)) (fun ⟨k, x, b⟩ hok => ?_) ⟨k, x, b⟩ hok env st hg
  simp only at hok
  obtain ⟨g1, g2, g3, g4⟩ := mosts_ok hc
  obtain ⟨hk, hxx, hbl⟩ := hok
  by_cases q : (x : Int) < (arts.length : Int)
  · obtain ⟨k, rfl⟩ : ∃ k', k = k' + 1 := ⟨k - 1, by omega⟩
    have hs := succ64 x (by omega)
    have hsh := rowD_short n la (la x)
    have hbl2 : (bestNext n la x b).length ≤ 100 := by
      unfold bestNext; split
      · simp only [List.length_cons]; omega
      · exact hbl
    have hok2 : x + 1 + k = n ∧ x0 ≤ x + 1 ∧ (bestNext n la x b).length ≤ 100 := ⟨by omega, by omega, hbl2⟩
    have hmeas : k < k + 1 := by omega
    simp only [go_sem, reduceIte, Nat.reduceEqDiff, Nat.reduceAdd, Nat.reduceSub, Nat.reduceLeDiff, Nat.reduceLT, reduceCtorEq, Int.reduceLT, Int.reduceLE, Int.reduceEq, Int.reduceBEq, Int.reduceSub, Int.reduceAdd, Int.reduceMul, Int.reduceNeg, Int.reduceToNat, Nat.reduceMul, Nat.reduceBEq, index_rsl_if, setm, make_ints, condK_dec, wantK_dec, not_dec, and_dec, or_dec, seqK_ite, seqK_none, blockK_ite, blockK_none, opsK_ite, opsK_none, stepK_ite, stepK_none, bodyK_ite, bodyK_none, resK_ite, resK_none, leaveK_ite, leaveK_none, only_ite, only_none, bind_ite, gives_some, gives_none, gives_ite, then_normal, then_ret, then_exit, then_none, then_ite, Option.bind_none, Bool.not_eq_true', decide_eq_false_iff_not, Bool.and_eq_true, Bool.or_eq_true, Option.some.injEq, Int.not_lt, Int.not_le, lp85_1, q, hs, List.length_map]
    generalize hg : lim (headed pure (run L) true _ lp85_0 _ _) _ _ = o
    obtain ⟨x, en, s, rfl, h2⟩ : ∃ x en s, o = some (x, en, s) ∧ _ := by rw [← hg]; exact loop85_0 nl arts room floor hc n hn la hla x (by omega) b _ rfl (fun y h1 h2 => hrec y (by omega) h2) (n - (x + 1)) (x + 1) ⟨by omega, by omega, by rw [hla]; rfl, hbl⟩ _ _ (by simp only [go_sem, reduceIte, Nat.reduceEqDiff, Nat.reduceAdd, Nat.reduceSub, Nat.reduceLeDiff, Nat.reduceLT, reduceCtorEq, Int.reduceLT, Int.reduceLE, Int.reduceEq, Int.reduceBEq, Int.reduceSub, Int.reduceAdd, Int.reduceMul, Int.reduceNeg, Int.reduceToNat, Nat.reduceMul, Nat.reduceBEq, okRef_best, ren1_bestH, List.take_length] <;> rfl)
    clear hg
    obtain ⟨rfl, h3, h4, h5, h6, acc, h7, h8⟩ := h2
    obtain ⟨s1, s2⟩ := s
    simp only at h5 h7
    subst h5
    simp only [go_sem, reduceIte, Nat.reduceEqDiff, Nat.reduceAdd, Nat.reduceSub, Nat.reduceLeDiff, Nat.reduceLT, reduceCtorEq, Int.reduceLT, Int.reduceLE, Int.reduceEq, Int.reduceBEq, Int.reduceSub, Int.reduceAdd, Int.reduceMul, Int.reduceNeg, Int.reduceToNat, Nat.reduceMul, Nat.reduceBEq, index_rsl_if, setm, make_ints, condK_dec, wantK_dec, not_dec, and_dec, or_dec, seqK_ite, seqK_none, blockK_ite, blockK_none, opsK_ite, opsK_none, stepK_ite, stepK_none, bodyK_ite, bodyK_none, resK_ite, resK_none, leaveK_ite, leaveK_none, only_ite, only_none, bind_ite, gives_some, gives_none, gives_ite, then_normal, then_ret, then_exit, then_none, then_ite, Option.bind_none, Bool.not_eq_true', decide_eq_false_iff_not, Bool.and_eq_true, Bool.or_eq_true, Option.some.injEq, Int.not_lt, Int.not_le, h3, h4, hs]
    refine ⟨(k, x + 1, bestNext n la x b), by simp only [go_sem, reduceIte, Nat.reduceEqDiff, Nat.reduceAdd, Nat.reduceSub, Nat.reduceLeDiff, Nat.reduceLT, reduceCtorEq, Int.reduceLT, Int.reduceLE, Int.reduceEq, Int.reduceBEq, Int.reduceSub, Int.reduceAdd, Int.reduceMul, Int.reduceNeg, Int.reduceToNat, Nat.reduceMul, Nat.reduceBEq, h3, h4, h6, h7, h8], hok2, hmeas, fun x en s hq => ?_⟩
    exact hq
  · obtain rfl : k = 0 := by omega
    simp only [go_sem, reduceIte, Nat.reduceEqDiff, Nat.reduceAdd, Nat.reduceSub, Nat.reduceLeDiff, Nat.reduceLT, reduceCtorEq, Int.reduceLT, Int.reduceLE, Int.reduceEq, Int.reduceBEq, Int.reduceSub, Int.reduceAdd, Int.reduceMul, Int.reduceNeg, Int.reduceToNat, Nat.reduceMul, Nat.reduceBEq, index_rsl_if, setm, make_ints, condK_dec, wantK_dec, not_dec, and_dec, or_dec, seqK_ite, seqK_none, blockK_ite, blockK_none, opsK_ite, opsK_none, stepK_ite, stepK_none, bodyK_ite, bodyK_none, resK_ite, resK_none, leaveK_ite, leaveK_none, only_ite, only_none, bind_ite, gives_some, gives_none, gives_ite, then_normal, then_ret, then_exit, then_none, then_ite, Option.bind_none, Bool.not_eq_true', decide_eq_false_iff_not, Bool.and_eq_true, Bool.or_eq_true, Option.some.injEq, Int.not_lt, Int.not_le, lp85_1, q, List.length_map]
    rfl

theorem c85 (nl : Bool) (arts : List (Int × Int)) (room floor : Int) (hc : check arts room floor = 0) : ∀ (m x : Nat), arts.length - x = m → x ≤ arts.length → ∀ st,
    run L 85 [bookAV nl arts room floor, I x] st = some (sl 2 true ((rowD arts.length (lastOfArt (mosts arts) room arts.length) x).map artAV), st) := by
  intro m
  induction m using Nat.strongRecOn with
  | ind m ih =>
    intro x hm hx st
    rw [run_pure (fn := ir85) rfl rfl]
    simp only [ir85, go_sem, reduceIte, Nat.reduceEqDiff, Nat.reduceAdd, Nat.reduceSub, Nat.reduceLeDiff, Nat.reduceLT, reduceCtorEq, Int.reduceLT, Int.reduceLE, Int.reduceEq, Int.reduceBEq, Int.reduceSub, Int.reduceAdd, Int.reduceMul, Int.reduceNeg, Int.reduceToNat, Nat.reduceMul, Nat.reduceBEq]
    generalize hg : lim (headed pure (run L) true _ lp85_1 _ _) _ _ = o
    obtain ⟨x, en, s, rfl, h2⟩ : ∃ x en s, o = some (x, en, s) ∧ _ := by rw [← hg]; exact loop85_1 nl arts room floor hc arts.length rfl _ rfl x (fun y h1 h2 st => ih (arts.length - y) (by omega) y rfl h2 st) (arts.length - x) x [] ⟨by omega, by omega, by simp⟩ _ _ (by simp only [go_sem, reduceIte, Nat.reduceEqDiff, Nat.reduceAdd, Nat.reduceSub, Nat.reduceLeDiff, Nat.reduceLT, reduceCtorEq, Int.reduceLT, Int.reduceLE, Int.reduceEq, Int.reduceBEq, Int.reduceSub, Int.reduceAdd, Int.reduceMul, Int.reduceNeg, Int.reduceToNat, Nat.reduceMul, Nat.reduceBEq, bestAV, bestT] <;> rfl)
    clear hg
    obtain ⟨rfl, h3⟩ := h2
    rw [rowLoop_eq _ _ (lastOfArt_ok _ _ _) _ _ _ (by omega)] at h3
    have h4 : (if (rowD arts.length (lastOfArt (mosts arts) room arts.length) x).length ≤ ([] : List (Int × Int)).length then [] else rowD arts.length (lastOfArt (mosts arts) room arts.length) x) = rowD arts.length (lastOfArt (mosts arts) room arts.length) x := by
      split
      · next h => exact (List.eq_nil_of_length_eq_zero (by simpa using h)).symm
      · rfl
    rw [h4] at h3
    generalize rowD arts.length (lastOfArt (mosts arts) room arts.length) x = R at *
    have hfin : ∀ st, fin st (bestAV R) = sl 2 true (R.map artAV) := by
      intro st
      unfold bestAV
      split
      · next h => subst h; simp [fin, sl]
      · next h => rw [fin_loc]; cases R with
          | nil => exact absurd rfl h
          | cons a r => rfl
    simp only [go_sem, reduceIte, Nat.reduceEqDiff, Nat.reduceAdd, Nat.reduceSub, Nat.reduceLeDiff, Nat.reduceLT, reduceCtorEq, Int.reduceLT, Int.reduceLE, Int.reduceEq, Int.reduceBEq, Int.reduceSub, Int.reduceAdd, Int.reduceMul, Int.reduceNeg, Int.reduceToNat, Nat.reduceMul, Nat.reduceBEq, h3, hfin]

def whyR (arts : List (Int × Int)) (room floor : Int) : List (Int × Int) × Int :=
  if (fewestR arts room floor).2 = 0 then (if rowD arts.length (lastOfArt (mosts arts) room arts.length) 0 = [] then ([], 13) else (rowD arts.length (lastOfArt (mosts arts) room arts.length) 0, 0)) else ([], (fewestR arts room floor).2)

theorem c37 (nl : Bool) (arts : List (Int × Int)) (room floor : Int) (st : St) :
    run L 37 [bookAV nl arts room floor] st = some (perr (whyR arts room floor), st) := by
  rw [run_pure (fn := ir37) rfl rfl]
  have h32 := fun st => c32 nl arts room floor st
  unfold whyR
  by_cases p0 : (fewestR arts room floor).2 = 0
  · rw [if_pos p0]
    have p1 : check arts room floor = 0 := by
      rw [← fewest_eq] at p0
      unfold fewestV at p0
      split at p0
      · assumption
      · next h => exact absurd p0 h
    have h85 := fun st => c85 nl arts room floor p1 arts.length 0 (by omega) (by omega) st
    simp only [Int.natCast_zero] at h85
    generalize rowD arts.length (lastOfArt (mosts arts) room arts.length) 0 = R at *
    cases R with
    | nil => simp only [ir37, go_sem, reduceIte, Nat.reduceEqDiff, Nat.reduceAdd, Nat.reduceSub, Nat.reduceLeDiff, Nat.reduceLT, reduceCtorEq, Int.reduceLT, Int.reduceLE, Int.reduceEq, Int.reduceBEq, Int.reduceSub, Int.reduceAdd, Int.reduceMul, Int.reduceNeg, Int.reduceToNat, Nat.reduceMul, Nat.reduceBEq, h32, p0, h85] <;> rfl
    | cons a r =>
      have q1 : (((a :: r).length : Int) = 0) = False := eq_false (by simp; omega)
      rw [if_neg (by simp)]
      generalize a :: r = R at *
      simp only [ir37, go_sem, reduceIte, Nat.reduceEqDiff, Nat.reduceAdd, Nat.reduceSub, Nat.reduceLeDiff, Nat.reduceLT, reduceCtorEq, Int.reduceLT, Int.reduceLE, Int.reduceEq, Int.reduceBEq, Int.reduceSub, Int.reduceAdd, Int.reduceMul, Int.reduceNeg, Int.reduceToNat, Nat.reduceMul, Nat.reduceBEq, h32, p0, h85, q1, List.length_map] <;> rfl
  · rw [if_neg p0]
    simp only [ir37, go_sem, reduceIte, Nat.reduceEqDiff, Nat.reduceAdd, Nat.reduceSub, Nat.reduceLeDiff, Nat.reduceLT, reduceCtorEq, Int.reduceLT, Int.reduceLE, Int.reduceEq, Int.reduceBEq, Int.reduceSub, Int.reduceAdd, Int.reduceMul, Int.reduceNeg, Int.reduceToNat, Nat.reduceMul, Nat.reduceBEq, h32, p0] <;> rfl

theorem why_eq (arts : List (Int × Int)) (room floor : Int) : whyV arts room floor = whyR arts room floor := by
  unfold whyV whyR whyL
  rw [fewest_eq, rowWalk_eq _ _ (lastOfArt_ok _ _ _) _ _ (by omega)]


def provesOr (n : Int) (l : List Int) (room : Int) (ss : List (Int × Int)) (i : Nat) (er : Int) : Int := if er = 0 then provesFrom n l room (lastOf ss i) (ss.drop i) else er
theorem provesOr_err (n : Int) (l : List Int) (room : Int) (ss : List (Int × Int)) (i : Nat) {er : Int} (h : er ≠ 0) : provesOr n l room ss i er = er := if_neg h

theorem loop40 (nl n2 : Bool) (arts : List (Int × Int)) (room floor v : Int) (hc : check arts room floor = 0 ∨ True) (ss : List (Int × Int)) (hlen : ss.length < 1000) (i : Nat) (er : Int) (hok : (i ≤ ss.length ∧ check arts room floor = 0) ∨ er ≠ 0) (env : Env) (st : St)
    (hg : gcAV true 1 0 (canon env [1, 2, 3, 7, 8, 9]) st = ([(1, I v), (2, sl 2 n2 (ss.map artAV)), (3, .ptr 0 0), (7, I er), (8, I arts.length), (9, I i)], ⟨[bookCells nl arts room floor], []⟩)) :
    ∃ x_1 en s, lim (headed pure (run L) true [1, 2, 3, 7, 8, 9] lp40_0 1 0) env st = some (x_1, en, s) ∧ (x_1 = .exit 0 ∧ en.get 1 = I v ∧ en.get 2 = sl 2 n2 (ss.map artAV) ∧ en.get 7 = I (provesOr arts.length (mosts arts) room ss i er)) := by
  refine loop_wp (α := Nat × Int) (fun ⟨i, er⟩ => if er = 0 then ss.length + 1 - i else 0) (fun ⟨i, er⟩ => (i ≤ ss.length ∧ check arts room floor = 0) ∨ er ≠ 0) (fun ⟨i, er⟩ => ([(1, I v), (2, sl 2 n2 (ss.map artAV)), (3, .ptr 0 0), (7, I er), (8, I arts.length), (9, I i)], ⟨[bookCells nl arts room floor], []⟩)) (fun ⟨i, er⟩ x_1 en s => x_1 = .exit 0 ∧ en.get 1 = I v ∧ en.get 2 = sl 2 n2 (ss.map artAV) ∧ en.get 7 = I (provesOr arts.length (mosts arts) room ss i er)) (fun ⟨i, er⟩ hok => ?_) ⟨i, er⟩ hok env st hg
  simp only at hok
  by_cases h0 : er = 0
  · subst h0
    have hc : check arts room floor = 0 := by
      rcases hok with h | h
      · exact h.2
      · exact absurd rfl h
    have hi : i ≤ ss.length := by
      rcases hok with h | h
      · exact h.1
      · exact absurd rfl h
    obtain ⟨g1, g2, g3, g4⟩ := mosts_ok hc
    by_cases h : i < ss.length
    · have hlt : ((i : Int) < (ss.length : Int)) = True := eq_true (by omega)
      have hd : ss.drop i = ss[i] :: ss.drop (i + 1) := List.drop_eq_getElem_cons h
      have hx := index_arts n2 ss i h
      have hs := succ64 i (by omega)
      have hl := lastOf_succ ss i h
      have hwn : IntKind.i64.wrap ((arts.length : Int) - 1) = (arts.length : Int) - 1 := by rw [wrap64] <;> omega
      have hfirst : 0 < i → indexSAV 2 (sl 2 n2 (ss.map artAV)) (.v (.int .i64 ((i : Int) - 1))) = some (.eptr (artAV (ss[i - 1]'(by omega))) 0) ∧ (ss[i - 1]'(by omega)).2 = lastOf ss i := by
        intro hpos
        have := index_arts n2 ss (i - 1) (by omega)
        rw [show ((i - 1 : Nat) : Int) = (i : Int) - 1 by omega] at this
        refine ⟨this, ?_⟩
        have := lastOf_succ ss (i - 1) (by omega)
        rw [← this]; congr 1; omega
      have hzero : ¬ 0 < i → lastOf ss i = 0 := by intro hn; have : i = 0 := by omega
                                                   subst this; rfl
      generalize ss[i] = s at *
      obtain ⟨a, b⟩ := s
      simp only at hx hl
      have hpo : provesOr arts.length (mosts arts) room ss i 0 = if min a b < 0 ∨ (arts.length : Int) ≤ max a b then 2 else if b ≤ a ∨ a < lastOf ss i then 7 else if seg (mosts arts) a (b + 1) ≤ room then 14 else provesOr arts.length (mosts arts) room ss (i + 1) 0 := by
        unfold provesOr; rw [if_pos rfl, if_pos rfl, hd, hl]; rfl
      dsimp only
      rw [hpo]
      by_cases p1 : 0 ≤ a ∧ a ≤ (arts.length : Int) - 1
      · by_cases p2 : 0 ≤ b ∧ b ≤ (arts.length : Int) - 1
        · rw [if_neg (show ¬(min a b < 0 ∨ (arts.length : Int) ≤ max a b) by omega)]
          have h86 := fun st => c86 nl arts room floor hc a b p1.1 (by omega) st
          by_cases p3 : b ≤ a
          · rw [if_pos (show b ≤ a ∨ a < lastOf ss i from .inl p3)]
            simp only [go_sem, reduceIte, Nat.reduceEqDiff, Nat.reduceAdd, Nat.reduceSub, Nat.reduceLeDiff, Nat.reduceLT, reduceCtorEq, Int.reduceLT, Int.reduceLE, Int.reduceEq, Int.reduceBEq, Int.reduceSub, Int.reduceAdd, Int.reduceMul, Int.reduceNeg, Int.reduceToNat, Nat.reduceMul, Nat.reduceBEq, index_rsl_if, setm, make_ints, condK_dec, wantK_dec, not_dec, and_dec, or_dec, seqK_ite, seqK_none, blockK_ite, blockK_none, opsK_ite, opsK_none, stepK_ite, stepK_none, bodyK_ite, bodyK_none, resK_ite, resK_none, leaveK_ite, leaveK_none, only_ite, only_none, bind_ite, gives_some, gives_none, gives_ite, then_normal, then_ret, then_exit, then_none, then_ite, Option.bind_none, Bool.not_eq_true', decide_eq_false_iff_not, Bool.and_eq_true, Bool.or_eq_true, Option.some.injEq, Int.not_lt, Int.not_le, lp40_0, hlt, hx, hs, c77, hwn, p1, p2, p3, List.length_map]
            refine ⟨(i + 1, 7), by simp only [go_sem, reduceIte, Nat.reduceEqDiff, Nat.reduceAdd, Nat.reduceSub, Nat.reduceLeDiff, Nat.reduceLT, reduceCtorEq, Int.reduceLT, Int.reduceLE, Int.reduceEq, Int.reduceBEq, Int.reduceSub, Int.reduceAdd, Int.reduceMul, Int.reduceNeg, Int.reduceToNat, Nat.reduceMul, Nat.reduceBEq, ren1_locm, loc_tips, locT_eq] <;> rfl, ?_, ?_, fun x en s hq => ?_⟩
            · exact .inr (by omega)
            · simp; omega
            · simp only [provesOr_err _ _ _ _ _ (show (7 : Int) ≠ 0 by omega)] at hq; exact hq
          · by_cases p4 : 0 < (i : Int)
            · obtain ⟨hx2, hx3⟩ := hfirst (by omega)
              have hw2 : IntKind.i64.wrap ((i : Int) - 1) = (i : Int) - 1 := by rw [wrap64] <;> omega
              generalize ss[i - 1]'(by omega) = t at hx2 hx3
              obtain ⟨t1, t2⟩ := t
              simp only at hx3
              by_cases p5 : a < t2
              · rw [if_pos (show b ≤ a ∨ a < lastOf ss i by omega)]
                simp only [go_sem, reduceIte, Nat.reduceEqDiff, Nat.reduceAdd, Nat.reduceSub, Nat.reduceLeDiff, Nat.reduceLT, reduceCtorEq, Int.reduceLT, Int.reduceLE, Int.reduceEq, Int.reduceBEq, Int.reduceSub, Int.reduceAdd, Int.reduceMul, Int.reduceNeg, Int.reduceToNat, Nat.reduceMul, Nat.reduceBEq, index_rsl_if, setm, make_ints, condK_dec, wantK_dec, not_dec, and_dec, or_dec, seqK_ite, seqK_none, blockK_ite, blockK_none, opsK_ite, opsK_none, stepK_ite, stepK_none, bodyK_ite, bodyK_none, resK_ite, resK_none, leaveK_ite, leaveK_none, only_ite, only_none, bind_ite, gives_some, gives_none, gives_ite, then_normal, then_ret, then_exit, then_none, then_ite, Option.bind_none, Bool.not_eq_true', decide_eq_false_iff_not, Bool.and_eq_true, Bool.or_eq_true, Option.some.injEq, Int.not_lt, Int.not_le, lp40_0, hlt, hx, hx2, hs, c77, hwn, hw2, p1, p2, p3, p4, p5, List.length_map]
                refine ⟨(i + 1, 7), by simp only [go_sem, reduceIte, Nat.reduceEqDiff, Nat.reduceAdd, Nat.reduceSub, Nat.reduceLeDiff, Nat.reduceLT, reduceCtorEq, Int.reduceLT, Int.reduceLE, Int.reduceEq, Int.reduceBEq, Int.reduceSub, Int.reduceAdd, Int.reduceMul, Int.reduceNeg, Int.reduceToNat, Nat.reduceMul, Nat.reduceBEq, ren1_locm, loc_tips, locT_eq] <;> rfl, ?_, ?_, fun x en s hq => ?_⟩
                · exact .inr (by omega)
                · simp; omega
                · simp only [provesOr_err _ _ _ _ _ (show (7 : Int) ≠ 0 by omega)] at hq; exact hq
              · rw [if_neg (show ¬(b ≤ a ∨ a < lastOf ss i) by omega)]
                by_cases p6 : seg (mosts arts) a (b + 1) ≤ room
                · rw [if_pos p6]
                  have hp6 : (a < b ∧ room < seg (mosts arts) a (b + 1)) = False := eq_false (by omega)
                  simp only [go_sem, reduceIte, Nat.reduceEqDiff, Nat.reduceAdd, Nat.reduceSub, Nat.reduceLeDiff, Nat.reduceLT, reduceCtorEq, Int.reduceLT, Int.reduceLE, Int.reduceEq, Int.reduceBEq, Int.reduceSub, Int.reduceAdd, Int.reduceMul, Int.reduceNeg, Int.reduceToNat, Nat.reduceMul, Nat.reduceBEq, index_rsl_if, setm, make_ints, condK_dec, wantK_dec, not_dec, and_dec, or_dec, seqK_ite, seqK_none, blockK_ite, blockK_none, opsK_ite, opsK_none, stepK_ite, stepK_none, bodyK_ite, bodyK_none, resK_ite, resK_none, leaveK_ite, leaveK_none, only_ite, only_none, bind_ite, gives_some, gives_none, gives_ite, then_normal, then_ret, then_exit, then_none, then_ite, Option.bind_none, Bool.not_eq_true', decide_eq_false_iff_not, Bool.and_eq_true, Bool.or_eq_true, Option.some.injEq, Int.not_lt, Int.not_le, lp40_0, hlt, hx, hx2, hs, c77, hwn, hw2, p1, p2, p3, p4, p5, h86, hp6, List.length_map]
                  refine ⟨(i + 1, 14), by simp only [go_sem, reduceIte, Nat.reduceEqDiff, Nat.reduceAdd, Nat.reduceSub, Nat.reduceLeDiff, Nat.reduceLT, reduceCtorEq, Int.reduceLT, Int.reduceLE, Int.reduceEq, Int.reduceBEq, Int.reduceSub, Int.reduceAdd, Int.reduceMul, Int.reduceNeg, Int.reduceToNat, Nat.reduceMul, Nat.reduceBEq, ren1_locm, loc_tips, locT_eq] <;> rfl, ?_, ?_, fun x en s hq => ?_⟩
                  · exact .inr (by omega)
                  · simp; omega
                  · simp only [provesOr_err _ _ _ _ _ (show (14 : Int) ≠ 0 by omega)] at hq; exact hq
                · rw [if_neg p6]
                  have hp6 : (a < b ∧ room < seg (mosts arts) a (b + 1)) = True := eq_true (by omega)
                  simp only [go_sem, reduceIte, Nat.reduceEqDiff, Nat.reduceAdd, Nat.reduceSub, Nat.reduceLeDiff, Nat.reduceLT, reduceCtorEq, Int.reduceLT, Int.reduceLE, Int.reduceEq, Int.reduceBEq, Int.reduceSub, Int.reduceAdd, Int.reduceMul, Int.reduceNeg, Int.reduceToNat, Nat.reduceMul, Nat.reduceBEq, index_rsl_if, setm, make_ints, condK_dec, wantK_dec, not_dec, and_dec, or_dec, seqK_ite, seqK_none, blockK_ite, blockK_none, opsK_ite, opsK_none, stepK_ite, stepK_none, bodyK_ite, bodyK_none, resK_ite, resK_none, leaveK_ite, leaveK_none, only_ite, only_none, bind_ite, gives_some, gives_none, gives_ite, then_normal, then_ret, then_exit, then_none, then_ite, Option.bind_none, Bool.not_eq_true', decide_eq_false_iff_not, Bool.and_eq_true, Bool.or_eq_true, Option.some.injEq, Int.not_lt, Int.not_le, lp40_0, hlt, hx, hx2, hs, c77, hwn, hw2, p1, p2, p3, p4, p5, h86, hp6, List.length_map]
                  refine ⟨(i + 1, 0), by simp only [go_sem, reduceIte, Nat.reduceEqDiff, Nat.reduceAdd, Nat.reduceSub, Nat.reduceLeDiff, Nat.reduceLT, reduceCtorEq, Int.reduceLT, Int.reduceLE, Int.reduceEq, Int.reduceBEq, Int.reduceSub, Int.reduceAdd, Int.reduceMul, Int.reduceNeg, Int.reduceToNat, Nat.reduceMul, Nat.reduceBEq, ren1_locm, loc_tips, locT_eq] <;> rfl, ?_, ?_, fun x en s hq => ?_⟩
                  · exact .inl ⟨by omega, hc⟩
                  · simp; omega
                  · exact hq
            · have hz := hzero (by omega)
              rw [if_neg (show ¬(b ≤ a ∨ a < lastOf ss i) by omega)]
              by_cases p6 : seg (mosts arts) a (b + 1) ≤ room
              · rw [if_pos p6]
                have hp6 : (a < b ∧ room < seg (mosts arts) a (b + 1)) = False := eq_false (by omega)
                simp only [go_sem, reduceIte, Nat.reduceEqDiff, Nat.reduceAdd, Nat.reduceSub, Nat.reduceLeDiff, Nat.reduceLT, reduceCtorEq, Int.reduceLT, Int.reduceLE, Int.reduceEq, Int.reduceBEq, Int.reduceSub, Int.reduceAdd, Int.reduceMul, Int.reduceNeg, Int.reduceToNat, Nat.reduceMul, Nat.reduceBEq, index_rsl_if, setm, make_ints, condK_dec, wantK_dec, not_dec, and_dec, or_dec, seqK_ite, seqK_none, blockK_ite, blockK_none, opsK_ite, opsK_none, stepK_ite, stepK_none, bodyK_ite, bodyK_none, resK_ite, resK_none, leaveK_ite, leaveK_none, only_ite, only_none, bind_ite, gives_some, gives_none, gives_ite, then_normal, then_ret, then_exit, then_none, then_ite, Option.bind_none, Bool.not_eq_true', decide_eq_false_iff_not, Bool.and_eq_true, Bool.or_eq_true, Option.some.injEq, Int.not_lt, Int.not_le, lp40_0, hlt, hx, hs, c77, hwn, p1, p2, p3, p4, h86, hp6, List.length_map]
                refine ⟨(i + 1, 14), by simp only [go_sem, reduceIte, Nat.reduceEqDiff, Nat.reduceAdd, Nat.reduceSub, Nat.reduceLeDiff, Nat.reduceLT, reduceCtorEq, Int.reduceLT, Int.reduceLE, Int.reduceEq, Int.reduceBEq, Int.reduceSub, Int.reduceAdd, Int.reduceMul, Int.reduceNeg, Int.reduceToNat, Nat.reduceMul, Nat.reduceBEq, ren1_locm, loc_tips, locT_eq] <;> rfl, ?_, ?_, fun x en s hq => ?_⟩
                · exact .inr (by omega)
                · simp; omega
                · simp only [provesOr_err _ _ _ _ _ (show (14 : Int) ≠ 0 by omega)] at hq; exact hq
              · rw [if_neg p6]
                have hp6 : (a < b ∧ room < seg (mosts arts) a (b + 1)) = True := eq_true (by omega)
                simp only [go_sem, reduceIte, Nat.reduceEqDiff, Nat.reduceAdd, Nat.reduceSub, Nat.reduceLeDiff, Nat.reduceLT, reduceCtorEq, Int.reduceLT, Int.reduceLE, Int.reduceEq, Int.reduceBEq, Int.reduceSub, Int.reduceAdd, Int.reduceMul, Int.reduceNeg, Int.reduceToNat, Nat.reduceMul, Nat.reduceBEq, index_rsl_if, setm, make_ints, condK_dec, wantK_dec, not_dec, and_dec, or_dec, seqK_ite, seqK_none, blockK_ite, blockK_none, opsK_ite, opsK_none, stepK_ite, stepK_none, bodyK_ite, bodyK_none, resK_ite, resK_none, leaveK_ite, leaveK_none, only_ite, only_none, bind_ite, gives_some, gives_none, gives_ite, then_normal, then_ret, then_exit, then_none, then_ite, Option.bind_none, Bool.not_eq_true', decide_eq_false_iff_not, Bool.and_eq_true, Bool.or_eq_true, Option.some.injEq, Int.not_lt, Int.not_le, lp40_0, hlt, hx, hs, c77, hwn, p1, p2, p3, p4, h86, hp6, List.length_map]
                refine ⟨(i + 1, 0), by simp only [go_sem, reduceIte, Nat.reduceEqDiff, Nat.reduceAdd, Nat.reduceSub, Nat.reduceLeDiff, Nat.reduceLT, reduceCtorEq, Int.reduceLT, Int.reduceLE, Int.reduceEq, Int.reduceBEq, Int.reduceSub, Int.reduceAdd, Int.reduceMul, Int.reduceNeg, Int.reduceToNat, Nat.reduceMul, Nat.reduceBEq, ren1_locm, loc_tips, locT_eq] <;> rfl, ?_, ?_, fun x en s hq => ?_⟩
                · exact .inl ⟨by omega, hc⟩
                · simp; omega
                · exact hq
        · rw [if_pos (show min a b < 0 ∨ (arts.length : Int) ≤ max a b by omega)]
          simp only [go_sem, reduceIte, Nat.reduceEqDiff, Nat.reduceAdd, Nat.reduceSub, Nat.reduceLeDiff, Nat.reduceLT, reduceCtorEq, Int.reduceLT, Int.reduceLE, Int.reduceEq, Int.reduceBEq, Int.reduceSub, Int.reduceAdd, Int.reduceMul, Int.reduceNeg, Int.reduceToNat, Nat.reduceMul, Nat.reduceBEq, index_rsl_if, setm, make_ints, condK_dec, wantK_dec, not_dec, and_dec, or_dec, seqK_ite, seqK_none, blockK_ite, blockK_none, opsK_ite, opsK_none, stepK_ite, stepK_none, bodyK_ite, bodyK_none, resK_ite, resK_none, leaveK_ite, leaveK_none, only_ite, only_none, bind_ite, gives_some, gives_none, gives_ite, then_normal, then_ret, then_exit, then_none, then_ite, Option.bind_none, Bool.not_eq_true', decide_eq_false_iff_not, Bool.and_eq_true, Bool.or_eq_true, Option.some.injEq, Int.not_lt, Int.not_le, lp40_0, hlt, hx, hs, c77, hwn, p1, p2, List.length_map]
          refine ⟨(i + 1, 2), by simp only [go_sem, reduceIte, Nat.reduceEqDiff, Nat.reduceAdd, Nat.reduceSub, Nat.reduceLeDiff, Nat.reduceLT, reduceCtorEq, Int.reduceLT, Int.reduceLE, Int.reduceEq, Int.reduceBEq, Int.reduceSub, Int.reduceAdd, Int.reduceMul, Int.reduceNeg, Int.reduceToNat, Nat.reduceMul, Nat.reduceBEq, ren1_locm, loc_tips, locT_eq] <;> rfl, ?_, ?_, fun x en s hq => ?_⟩
          · exact .inr (by omega)
          · simp; omega
          · simp only [provesOr_err _ _ _ _ _ (show (2 : Int) ≠ 0 by omega)] at hq; exact hq
      · rw [if_pos (show min a b < 0 ∨ (arts.length : Int) ≤ max a b by omega)]
        simp only [go_sem, reduceIte, Nat.reduceEqDiff, Nat.reduceAdd, Nat.reduceSub, Nat.reduceLeDiff, Nat.reduceLT, reduceCtorEq, Int.reduceLT, Int.reduceLE, Int.reduceEq, Int.reduceBEq, Int.reduceSub, Int.reduceAdd, Int.reduceMul, Int.reduceNeg, Int.reduceToNat, Nat.reduceMul, Nat.reduceBEq, index_rsl_if, setm, make_ints, condK_dec, wantK_dec, not_dec, and_dec, or_dec, seqK_ite, seqK_none, blockK_ite, blockK_none, opsK_ite, opsK_none, stepK_ite, stepK_none, bodyK_ite, bodyK_none, resK_ite, resK_none, leaveK_ite, leaveK_none, only_ite, only_none, bind_ite, gives_some, gives_none, gives_ite, then_normal, then_ret, then_exit, then_none, then_ite, Option.bind_none, Bool.not_eq_true', decide_eq_false_iff_not, Bool.and_eq_true, Bool.or_eq_true, Option.some.injEq, Int.not_lt, Int.not_le, lp40_0, hlt, hx, hs, c77, hwn, p1, List.length_map]
        refine ⟨(i + 1, 2), by simp only [go_sem, reduceIte, Nat.reduceEqDiff, Nat.reduceAdd, Nat.reduceSub, Nat.reduceLeDiff, Nat.reduceLT, reduceCtorEq, Int.reduceLT, Int.reduceLE, Int.reduceEq, Int.reduceBEq, Int.reduceSub, Int.reduceAdd, Int.reduceMul, Int.reduceNeg, Int.reduceToNat, Nat.reduceMul, Nat.reduceBEq, ren1_locm, loc_tips, locT_eq] <;> rfl, ?_, ?_, fun x en s hq => ?_⟩
        · exact .inr (by omega)
        · simp; omega
        · simp only [provesOr_err _ _ _ _ _ (show (2 : Int) ≠ 0 by omega)] at hq; exact hq
    · have hlt : ((i : Int) < (ss.length : Int)) = False := eq_false (by omega)
      have hpo : provesOr arts.length (mosts arts) room ss i 0 = 0 := by unfold provesOr; rw [if_pos rfl, List.drop_eq_nil_of_le (by omega)]; rfl
      simp only [go_sem, reduceIte, Nat.reduceEqDiff, Nat.reduceAdd, Nat.reduceSub, Nat.reduceLeDiff, Nat.reduceLT, reduceCtorEq, Int.reduceLT, Int.reduceLE, Int.reduceEq, Int.reduceBEq, Int.reduceSub, Int.reduceAdd, Int.reduceMul, Int.reduceNeg, Int.reduceToNat, Nat.reduceMul, Nat.reduceBEq, index_rsl_if, setm, make_ints, condK_dec, wantK_dec, not_dec, and_dec, or_dec, seqK_ite, seqK_none, blockK_ite, blockK_none, opsK_ite, opsK_none, stepK_ite, stepK_none, bodyK_ite, bodyK_none, resK_ite, resK_none, leaveK_ite, leaveK_none, only_ite, only_none, bind_ite, gives_some, gives_none, gives_ite, then_normal, then_ret, then_exit, then_none, then_ite, Option.bind_none, Bool.not_eq_true', decide_eq_false_iff_not, Bool.and_eq_true, Bool.or_eq_true, Option.some.injEq, Int.not_lt, Int.not_le, lp40_0, hlt, hpo, List.length_map]
  · have hpo := provesOr_err arts.length (mosts arts) room ss i h0
    by_cases h : (i : Int) < (ss.length : Int)
    · simp only [go_sem, reduceIte, Nat.reduceEqDiff, Nat.reduceAdd, Nat.reduceSub, Nat.reduceLeDiff, Nat.reduceLT, reduceCtorEq, Int.reduceLT, Int.reduceLE, Int.reduceEq, Int.reduceBEq, Int.reduceSub, Int.reduceAdd, Int.reduceMul, Int.reduceNeg, Int.reduceToNat, Nat.reduceMul, Nat.reduceBEq, index_rsl_if, setm, make_ints, condK_dec, wantK_dec, not_dec, and_dec, or_dec, seqK_ite, seqK_none, blockK_ite, blockK_none, opsK_ite, opsK_none, stepK_ite, stepK_none, bodyK_ite, bodyK_none, resK_ite, resK_none, leaveK_ite, leaveK_none, only_ite, only_none, bind_ite, gives_some, gives_none, gives_ite, then_normal, then_ret, then_exit, then_none, then_ite, Option.bind_none, Bool.not_eq_true', decide_eq_false_iff_not, Bool.and_eq_true, Bool.or_eq_true, Option.some.injEq, Int.not_lt, Int.not_le, lp40_0, h, h0, hpo, List.length_map]
    · simp only [go_sem, reduceIte, Nat.reduceEqDiff, Nat.reduceAdd, Nat.reduceSub, Nat.reduceLeDiff, Nat.reduceLT, reduceCtorEq, Int.reduceLT, Int.reduceLE, Int.reduceEq, Int.reduceBEq, Int.reduceSub, Int.reduceAdd, Int.reduceMul, Int.reduceNeg, Int.reduceToNat, Nat.reduceMul, Nat.reduceBEq, index_rsl_if, setm, make_ints, condK_dec, wantK_dec, not_dec, and_dec, or_dec, seqK_ite, seqK_none, blockK_ite, blockK_none, opsK_ite, opsK_none, stepK_ite, stepK_none, bodyK_ite, bodyK_none, resK_ite, resK_none, leaveK_ite, leaveK_none, only_ite, only_none, bind_ite, gives_some, gives_none, gives_ite, then_normal, then_ret, then_exit, then_none, then_ite, Option.bind_none, Bool.not_eq_true', decide_eq_false_iff_not, Bool.and_eq_true, Bool.or_eq_true, Option.some.injEq, Int.not_lt, Int.not_le, lp40_0, h, h0, hpo, List.length_map]

theorem c40 (nl n2 : Bool) (arts : List (Int × Int)) (room floor v : Int) (hv : v ≤ 9223372036854775807) (ss : List (Int × Int)) (hlen : ss.length < 1000) (st : St) :
    run L 40 [bookAV nl arts room floor, I v, sl 2 n2 (ss.map artAV)] st = some (I (provesV arts room floor v ss), st) := by
  rw [run_pure (fn := ir40) rfl rfl]
  have hc := fun st => c26 nl arts room floor st
  unfold provesV
  by_cases p0 : check arts room floor = 0
  · rw [if_pos p0]
    by_cases p1 : v < 1
    · rw [if_pos p1]
      simp only [ir40, go_sem, reduceIte, Nat.reduceEqDiff, Nat.reduceAdd, Nat.reduceSub, Nat.reduceLeDiff, Nat.reduceLT, reduceCtorEq, Int.reduceLT, Int.reduceLE, Int.reduceEq, Int.reduceBEq, Int.reduceSub, Int.reduceAdd, Int.reduceMul, Int.reduceNeg, Int.reduceToNat, Nat.reduceMul, Nat.reduceBEq, hc, p0, p1, List.length_map]
      generalize hg : lim (headed pure (run L) true _ lp40_0 _ _) _ _ = o
      obtain ⟨x, en, s, rfl, h2⟩ : ∃ x en s, o = some (x, en, s) ∧ _ := by rw [← hg]; exact loop40 nl n2 arts room floor v (.inr trivial) ss hlen 0 1 (.inr (by omega)) _ _ (by simp only [go_sem, reduceIte, Nat.reduceEqDiff, Nat.reduceAdd, Nat.reduceSub, Nat.reduceLeDiff, Nat.reduceLT, reduceCtorEq, Int.reduceLT, Int.reduceLE, Int.reduceEq, Int.reduceBEq, Int.reduceSub, Int.reduceAdd, Int.reduceMul, Int.reduceNeg, Int.reduceToNat, Nat.reduceMul, Nat.reduceBEq] <;> rfl)
      clear hg
      obtain ⟨rfl, h3, h4, h5⟩ := h2
      rw [provesOr_err _ _ _ _ _ (by omega)] at h5
      simp only [go_sem, reduceIte, Nat.reduceEqDiff, Nat.reduceAdd, Nat.reduceSub, Nat.reduceLeDiff, Nat.reduceLT, reduceCtorEq, Int.reduceLT, Int.reduceLE, Int.reduceEq, Int.reduceBEq, Int.reduceSub, Int.reduceAdd, Int.reduceMul, Int.reduceNeg, Int.reduceToNat, Nat.reduceMul, Nat.reduceBEq, h3, h4, h5]
    · rw [if_neg p1]
      simp only [ir40, go_sem, reduceIte, Nat.reduceEqDiff, Nat.reduceAdd, Nat.reduceSub, Nat.reduceLeDiff, Nat.reduceLT, reduceCtorEq, Int.reduceLT, Int.reduceLE, Int.reduceEq, Int.reduceBEq, Int.reduceSub, Int.reduceAdd, Int.reduceMul, Int.reduceNeg, Int.reduceToNat, Nat.reduceMul, Nat.reduceBEq, hc, p0, p1, List.length_map]
      have hw := wrap64 (v - 1) (by omega) (by omega)
      generalize hg : lim (headed pure (run L) true _ lp40_0 _ _) _ _ = o
      obtain ⟨x, en, s, rfl, h2⟩ : ∃ x en s, o = some (x, en, s) ∧ _ := by rw [← hg]; exact loop40 nl n2 arts room floor v (.inr trivial) ss hlen 0 0 (.inl ⟨Nat.zero_le _, p0⟩) _ _ (by simp only [go_sem, reduceIte, Nat.reduceEqDiff, Nat.reduceAdd, Nat.reduceSub, Nat.reduceLeDiff, Nat.reduceLT, reduceCtorEq, Int.reduceLT, Int.reduceLE, Int.reduceEq, Int.reduceBEq, Int.reduceSub, Int.reduceAdd, Int.reduceMul, Int.reduceNeg, Int.reduceToNat, Nat.reduceMul, Nat.reduceBEq] <;> rfl)
      clear hg
      obtain ⟨rfl, h3, h4, h5⟩ := h2
      have hpo : provesOr arts.length (mosts arts) room ss 0 0 = provesFrom arts.length (mosts arts) room 0 ss := rfl
      rw [hpo] at h5
      by_cases p2 : provesFrom arts.length (mosts arts) room 0 ss = 0
      · rw [if_pos p2]
        by_cases p3 : (ss.length : Int) < v - 1
        · simp only [go_sem, reduceIte, Nat.reduceEqDiff, Nat.reduceAdd, Nat.reduceSub, Nat.reduceLeDiff, Nat.reduceLT, reduceCtorEq, Int.reduceLT, Int.reduceLE, Int.reduceEq, Int.reduceBEq, Int.reduceSub, Int.reduceAdd, Int.reduceMul, Int.reduceNeg, Int.reduceToNat, Nat.reduceMul, Nat.reduceBEq, h3, h4, h5, p2, p3, hw, List.length_map]
        · simp only [go_sem, reduceIte, Nat.reduceEqDiff, Nat.reduceAdd, Nat.reduceSub, Nat.reduceLeDiff, Nat.reduceLT, reduceCtorEq, Int.reduceLT, Int.reduceLE, Int.reduceEq, Int.reduceBEq, Int.reduceSub, Int.reduceAdd, Int.reduceMul, Int.reduceNeg, Int.reduceToNat, Nat.reduceMul, Nat.reduceBEq, h3, h4, h5, p2, p3, hw, List.length_map]
      · rw [if_neg p2]
        simp only [go_sem, reduceIte, Nat.reduceEqDiff, Nat.reduceAdd, Nat.reduceSub, Nat.reduceLeDiff, Nat.reduceLT, reduceCtorEq, Int.reduceLT, Int.reduceLE, Int.reduceEq, Int.reduceBEq, Int.reduceSub, Int.reduceAdd, Int.reduceMul, Int.reduceNeg, Int.reduceToNat, Nat.reduceMul, Nat.reduceBEq, h3, h4, h5, p2]
  · rw [if_neg p0]
    simp only [ir40, go_sem, reduceIte, Nat.reduceEqDiff, Nat.reduceAdd, Nat.reduceSub, Nat.reduceLeDiff, Nat.reduceLT, reduceCtorEq, Int.reduceLT, Int.reduceLE, Int.reduceEq, Int.reduceBEq, Int.reduceSub, Int.reduceAdd, Int.reduceMul, Int.reduceNeg, Int.reduceToNat, Nat.reduceMul, Nat.reduceBEq, hc, p0, List.length_map]
    generalize hg : lim (headed pure (run L) true _ lp40_0 _ _) _ _ = o
    obtain ⟨x, en, s, rfl, h2⟩ : ∃ x en s, o = some (x, en, s) ∧ _ := by rw [← hg]; exact loop40 nl n2 arts room floor v (.inr trivial) ss hlen 0 (check arts room floor) (.inr p0) _ _ (by simp only [go_sem, reduceIte, Nat.reduceEqDiff, Nat.reduceAdd, Nat.reduceSub, Nat.reduceLeDiff, Nat.reduceLT, reduceCtorEq, Int.reduceLT, Int.reduceLE, Int.reduceEq, Int.reduceBEq, Int.reduceSub, Int.reduceAdd, Int.reduceMul, Int.reduceNeg, Int.reduceToNat, Nat.reduceMul, Nat.reduceBEq] <;> rfl)
    clear hg
    obtain ⟨rfl, h3, h4, h5⟩ := h2
    rw [provesOr_err _ _ _ _ _ p0] at h5
    simp only [go_sem, reduceIte, Nat.reduceEqDiff, Nat.reduceAdd, Nat.reduceSub, Nat.reduceLeDiff, Nat.reduceLT, reduceCtorEq, Int.reduceLT, Int.reduceLE, Int.reduceEq, Int.reduceBEq, Int.reduceSub, Int.reduceAdd, Int.reduceMul, Int.reduceNeg, Int.reduceToNat, Nat.reduceMul, Nat.reduceBEq, h3, h4, h5, p0]

theorem why_len (arts : List (Int × Int)) (room floor : Int) : (whyV arts room floor).1.length < 1000000 := by
  rw [why_eq]
  unfold whyR
  split
  · next h =>
    have p1 : check arts room floor = 0 := by
      rw [← fewest_eq] at h
      unfold fewestV at h
      split at h
      · assumption
      · next h2 => exact absurd h h2
    obtain ⟨g1, g2, g3, g4⟩ := mosts_ok p1
    have := rowD_short arts.length (lastOfArt (mosts arts) room arts.length) 0
    split
    · simp
    · simp only; omega
  · simp

theorem c5 (nl n2 : Bool) (arts : List (Int × Int)) (room floor v : Int) (hv : v ≤ 9223372036854775807) (ss : List (Int × Int)) (st : St) :
    run L 5 [bookAV nl arts room floor, I v, sl 2 n2 (ss.map artAV)] st = some (B true, st) := by
  rw [run_pure (fn := ir5) rfl rfl]
  by_cases p1 : 40 < (arts.length : Int)
  · simp only [ir5, go_sem, reduceIte, Nat.reduceEqDiff, Nat.reduceAdd, Nat.reduceSub, Nat.reduceLeDiff, Nat.reduceLT, reduceCtorEq, Int.reduceLT, Int.reduceLE, Int.reduceEq, Int.reduceBEq, Int.reduceSub, Int.reduceAdd, Int.reduceMul, Int.reduceNeg, Int.reduceToNat, Nat.reduceMul, Nat.reduceBEq, p1, c17, List.length_map]
  · by_cases p2 : 40 < (ss.length : Int)
    · simp only [ir5, go_sem, reduceIte, Nat.reduceEqDiff, Nat.reduceAdd, Nat.reduceSub, Nat.reduceLeDiff, Nat.reduceLT, reduceCtorEq, Int.reduceLT, Int.reduceLE, Int.reduceEq, Int.reduceBEq, Int.reduceSub, Int.reduceAdd, Int.reduceMul, Int.reduceNeg, Int.reduceToNat, Nat.reduceMul, Nat.reduceBEq, p1, p2, c17, List.length_map]
    · have h18 := fun st => c18 nl arts (by omega) room floor st
      have h36 := fun st => c36 nl arts room floor st
      have h37 := fun st => c37 true arts room floor st
      have h39 := fun st => c39 nl n2 arts room floor v hv ss (by omega) st
      have h40 := fun st => c40 true n2 arts room floor v hv ss (by omega) st
      rw [← why_eq] at h37
      have h38 := fun b c st => c38 b c (whyV arts room floor).1 (whyV arts room floor).1 (why_len _ _ _) st
      simp only [ir5, go_sem, reduceIte, Nat.reduceEqDiff, Nat.reduceAdd, Nat.reduceSub, Nat.reduceLeDiff, Nat.reduceLT, reduceCtorEq, Int.reduceLT, Int.reduceLE, Int.reduceEq, Int.reduceBEq, Int.reduceSub, Int.reduceAdd, Int.reduceMul, Int.reduceNeg, Int.reduceToNat, Nat.reduceMul, Nat.reduceBEq, p1, p2, c17, List.length_map, h18, h36, h37, h38, h39, h40]


/-- A book by numbers. -/
abbrev U (n : Int) : AV := .v (.int .u8 n)
structure Shelf where
  many : Int
  room : Int
  floor : Int
  least : List Int
  more : List Int
def Byte (n : Int) : Prop := 0 ≤ n ∧ n ≤ 255
def Shelf.ok (s : Shelf) : Prop := Byte s.many ∧ Byte s.room ∧ Byte s.floor ∧ s.least.length = 12 ∧ s.more.length = 12 ∧ (∀ n ∈ s.least, Byte n) ∧ ∀ n ∈ s.more, Byte n
def Shelf.cells (s : Shelf) : List AV := U s.many :: U s.room :: U s.floor :: (s.least.map U ++ s.more.map U)
abbrev Shelf.av (s : Shelf) : AV := .agg s.cells

theorem shelf_len {s : Shelf} (h : s.ok) : s.cells.length = 27 := by
  obtain ⟨_, _, _, h1, h2, _⟩ := h
  simp [Shelf.cells, h1, h2]
theorem shelf_take {s : Shelf} (h : s.ok) : s.cells.take 27 = s.cells := List.take_of_length_le (by rw [shelf_len h]; omega)
theorem shelf_storable (s : Shelf) : s.cells.all storable = true := by
  simp [Shelf.cells, storable_int]
theorem pubs_append : ∀ (a b : List AV), pubs (a ++ b) = pubs a ++ pubs b
  | [], _ => rfl
  | x :: r, b => by simp only [List.cons_append, pubs, pubs_append r b]
theorem pubs_shelf (s : Shelf) : pubs s.cells = s.cells := by
  simp only [Shelf.cells, pubs, pub, pubs_append]
  rw [pubs_map U (fun _ => rfl), pubs_map U (fun _ => rfl)]
theorem okRefs_append (n : Nat) : ∀ (a b : List AV), okRefs n (a ++ b) = (okRefs n a && okRefs n b)
  | [], _ => by simp [okRefs]
  | x :: r, b => by simp only [List.cons_append, okRefs, okRefs_append n r b, Bool.and_assoc]
theorem okRefs_shelf (n : Nat) (s : Shelf) : okRefs n s.cells = true := by
  simp only [Shelf.cells, okRefs, okRef, okRefs_append, okRefs_map U n (fun _ => rfl)]; rfl
theorem renCells_append (n : Nat) (tips : List Nat) : ∀ (a b : List AV) acc, renCells n tips acc (a ++ b) = ((renCells n tips acc a).1 ++ (renCells n tips (renCells n tips acc a).2 b).1, (renCells n tips (renCells n tips acc a).2 b).2)
  | [], _, _ => rfl
  | x :: r, b, acc => by simp only [List.cons_append, renCells, renCells_append n tips r b]
theorem renCells_shelf (n : Nat) (tips : List Nat) (acc : List (Nat × Nat)) (s : Shelf) : renCells n tips acc s.cells = (s.cells, acc) := by
  simp only [Shelf.cells, renCells, ren1, renCells_append, renCells_map U n tips (fun _ _ => rfl)]
theorem shelf_0 (s : Shelf) : s.cells[0]? = some (U s.many) := rfl
theorem shelf_1 (s : Shelf) : s.cells[1]? = some (U s.room) := rfl
theorem shelf_2 (s : Shelf) : s.cells[2]? = some (U s.floor) := rfl
theorem shelf_least {s : Shelf} (h : s.ok) (i : Nat) (hi : i < 12) : s.cells[3 + i]? = some (U (s.least.getD i 0)) := by
  obtain ⟨_, _, _, h1, h2, _⟩ := h
  rw [show 3 + i = i + 1 + 1 + 1 by omega]
  simp only [Shelf.cells, List.getElem?_cons_succ]
  rw [List.getElem?_append_left (by simp; omega)]
  simp [List.getD_eq_getElem?_getD, List.getElem?_eq_getElem (show i < s.least.length by omega)]
theorem shelf_more {s : Shelf} (h : s.ok) (i : Nat) (hi : i < 12) : s.cells[15 + i]? = some (U (s.more.getD i 0)) := by
  obtain ⟨_, _, _, h1, h2, _⟩ := h
  rw [show 15 + i = (12 + i) + 1 + 1 + 1 by omega]
  simp only [Shelf.cells, List.getElem?_cons_succ]
  rw [List.getElem?_append_right (by simp; omega)]
  simp [h1, List.getD_eq_getElem?_getD, List.getElem?_eq_getElem (show i < s.more.length by omega)]
theorem byte_getD {l : List Int} (h : ∀ n ∈ l, Byte n) (i : Nat) : Byte (l.getD i 0) := by
  rw [List.getD_eq_getElem?_getD]
  by_cases hi : i < l.length
  · rw [List.getElem?_eq_getElem hi]; exact h _ (List.getElem_mem hi)
  · rw [List.getElem?_eq_none (by omega)]; exact ⟨by simp, by simp⟩

/-- An article out of two numbers. -/
def artOf (lines l m : Int) : Int × Int := (1 + l % lines, 1 + l % lines + m % (lines - (1 + l % lines) + 1))
def Shelf.arts (s : Shelf) (lines : Int) (n : Nat) : List (Int × Int) := (List.range n).map fun i => artOf lines (s.least.getD i 0) (s.more.getD i 0)
def longest (l : List (Int × Int)) : Int := l.foldl (fun n a => max n a.2) 1
theorem arts_succ (s : Shelf) (lines : Int) (n : Nat) : s.arts lines (n + 1) = s.arts lines n ++ [artOf lines (s.least.getD n 0) (s.more.getD n 0)] := by
  simp [Shelf.arts, List.range_succ]
theorem arts_len (s : Shelf) (lines : Int) (n : Nat) : (s.arts lines n).length = n := by simp [Shelf.arts]
theorem longest_snoc (l : List (Int × Int)) (a : Int × Int) : longest (l ++ [a]) = max (longest l) a.2 := by simp [longest]
theorem mod_range (a b : Int) (hb : 0 < b) : 0 ≤ a % b ∧ a % b < b := ⟨Int.emod_nonneg a (by omega), Int.emod_lt_of_pos a hb⟩
theorem artOf_ok {lines : Int} (hl : 0 < lines) (l m : Int) : 1 ≤ (artOf lines l m).1 ∧ (artOf lines l m).1 ≤ (artOf lines l m).2 ∧ (artOf lines l m).2 ≤ lines := by
  have h1 := mod_range l lines hl
  have h2 := mod_range m (lines - (1 + l % lines) + 1) (by omega)
  simp only [artOf]; omega
theorem arts_ok (s : Shelf) {lines : Int} (hl : 0 < lines) (n : Nat) : ∀ a ∈ s.arts lines n, 1 ≤ a.1 ∧ a.1 ≤ a.2 ∧ a.2 ≤ lines := by
  intro a ha
  simp only [Shelf.arts, List.mem_map] at ha
  obtain ⟨i, _, rfl⟩ := ha
  exact artOf_ok hl _ _
theorem longest_ok : ∀ (l : List (Int × Int)) (n : Int), 1 ≤ n → (∀ a ∈ l, a.2 ≤ n) → 1 ≤ longest l ∧ longest l ≤ n ∧ ∀ a ∈ l, a.2 ≤ longest l := by
  have key : ∀ (l : List (Int × Int)) (b n : Int), b ≤ n → (∀ a ∈ l, a.2 ≤ n) → b ≤ l.foldl (fun n a => max n a.2) b ∧ l.foldl (fun n a => max n a.2) b ≤ n ∧ ∀ a ∈ l, a.2 ≤ l.foldl (fun n a => max n a.2) b := by
    intro l
    induction l with
    | nil => intro b n hb _; simp; exact hb
    | cons a r ih =>
      intro b n hb ha
      have h1 := ha a (by simp)
      obtain ⟨h2, h3, h4⟩ := ih (max b a.2) n (by omega) (fun x hx => ha x (by simp [hx]))
      simp only [List.foldl_cons]
      refine ⟨by omega, h3, fun x hx => ?_⟩
      rcases List.mem_cons.1 hx with rfl | hx
      · omega
      · exact h4 x hx
  intro l n h1 h2
  exact key l 1 n h1 h2

theorem loop45 (s0 : Shelf) (hs0 : s0.ok) (lines : Int) (hl : 1 ≤ lines) (hl2 : lines ≤ 30) (cnt : Nat) (hcnt : cnt ≤ 12) (i : Nat) (hok : i ≤ cnt) (env : Env) (st : St)
    (hg : gcAV true 3 0 (canon env [2, 3, 6, 7, 8, 17, 18]) st = ([(2, I lines), (3, .ptr 0 0), (6, .ptr 1 0), (7, .ptr 2 0), (8, I (longest (s0.arts lines i))), (17, I cnt), (18, I i)], ⟨[s0.cells, [.v (.slice none 0 0), I 0, I 0], [loc 2 0 ((s0.arts lines i).map artAV), I 0, I 0]], locT 0 ((s0.arts lines i).map artAV)⟩)) :
    ∃ x_1 en s, lim (headed pure (run L) true [2, 3, 6, 7, 8, 17, 18] lp45_0 3 0) env st = some (x_1, en, s) ∧ (x_1 = .exit 0 ∧ en.get 2 = I lines ∧ en.get 3 = .ptr 0 0 ∧ en.get 6 = .ptr 1 0 ∧ en.get 7 = .ptr 2 0 ∧ en.get 8 = I (longest (s0.arts lines cnt)) ∧ s.store = [s0.cells, [.v (.slice none 0 0), I 0, I 0], [loc 2 0 ((s0.arts lines cnt).map artAV), I 0, I 0]]) := by
  refine loop_wp (α := Nat) (fun i => cnt - i) (fun i => i ≤ cnt) (fun i => ([(2, I lines), (3, .ptr 0 0), (6, .ptr 1 0), (7, .ptr 2 0), (8, I (longest (s0.arts lines i))), (17, I cnt), (18, I i)], ⟨[s0.cells, [.v (.slice none 0 0), I 0, I 0], [loc 2 0 ((s0.arts lines i).map artAV), I 0, I 0]], locT 0 ((s0.arts lines i).map artAV)⟩)) (fun i x_1 en s => x_1 = .exit 0 ∧ en.get 2 = I lines ∧ en.get 3 = .ptr 0 0 ∧ en.get 6 = .ptr 1 0 ∧ en.get 7 = .ptr 2 0 ∧ en.get 8 = I (longest (s0.arts lines cnt)) ∧ s.store = [s0.cells, [.v (.slice none 0 0), I 0, I 0], [loc 2 0 ((s0.arts lines cnt).map artAV), I 0, I 0]]) (fun i hok => ?_) i hok env st hg
  by_cases q : (i : Int) < (cnt : Int)
  · have hs := succ64 i (by omega)
    have x0 : (0 ≤ (i : Int)) = True := eq_true (by omega)
    have x1 : ((i : Int) < 12) = True := eq_true (by omega)
    have hL := shelf_least hs0 i (by omega)
    have hM := shelf_more hs0 i (by omega)
    have bL := byte_getD hs0.2.2.2.2.2.1 i
    have bM := byte_getD hs0.2.2.2.2.2.2 i
    have hsucc := arts_succ s0 lines i
    have hlen := arts_len s0 lines i
    have hlo := longest_ok (s0.arts lines i) lines hl (fun a ha => (arts_ok s0 (by omega) i a ha).2.2)
    have hao := artOf_ok (show 0 < lines by omega) (s0.least.getD i 0) (s0.more.getD i 0)
    have hlg : longest (s0.arts lines (i + 1)) = max (longest (s0.arts lines i)) (artOf lines (s0.least.getD i 0) (s0.more.getD i 0)).2 := by rw [hsucc, longest_snoc]
    have happ := append_locm (z := 2) (k := 0) artAV (s0.arts lines i) (artOf lines (s0.least.getD i 0) (s0.more.getD i 0)) [s0.cells, [.v (.slice none 0 0), I 0, I 0], [loc 2 0 ((s0.arts lines i).map artAV), I 0, I 0], [I (artOf lines (s0.least.getD i 0) (s0.more.getD i 0)).1, I (artOf lines (s0.least.getD i 0) (s0.more.getD i 0)).2]] (by omega) (by rw [hlen]; simp [maxGrow]; omega)
    rw [← hsucc] at happ
    generalize hl0 : s0.least.getD i 0 = l at *
    generalize hm0 : s0.more.getD i 0 = m at *
    unfold Byte at bL bM
    have r1 := mod_range l lines (by omega)
    have r2 := mod_range m (lines - (1 + l % lines) + 1) (by omega)
    have w1 := wrap64 l (by omega) (by omega)
    have w2 := wrap64 m (by omega) (by omega)
    have t1 : l.tmod lines = l % lines := Int.tmod_eq_emod_of_nonneg (by omega)
    have w3 := wrap64 (1 + l % lines) (by omega) (by omega)
    have w4 := wrap64 (lines - (1 + l % lines)) (by omega) (by omega)
    have w5 := wrap64 (lines - (1 + l % lines) + 1) (by omega) (by omega)
    have t2 : m.tmod (lines - (1 + l % lines) + 1) = m % (lines - (1 + l % lines) + 1) := Int.tmod_eq_emod_of_nonneg (by omega)
    have w6 := wrap64 (1 + l % lines + m % (lines - (1 + l % lines) + 1)) (by omega) (by omega)
    have z1 : (lines = 0) = False := eq_false (by omega)
    have z2 : (lines - (1 + l % lines) + 1 = 0) = False := eq_false (by omega)
    simp only [artOf] at happ hlg
    simp only [go_sem, reduceIte, Nat.reduceEqDiff, Nat.reduceAdd, Nat.reduceSub, Nat.reduceLeDiff, Nat.reduceLT, reduceCtorEq, Int.reduceLT, Int.reduceLE, Int.reduceEq, Int.reduceBEq, Int.reduceSub, Int.reduceAdd, Int.reduceMul, Int.reduceNeg, Int.reduceToNat, Nat.reduceMul, Nat.reduceBEq, index_rsl_if, setm, make_ints, condK_dec, wantK_dec, not_dec, and_dec, or_dec, seqK_ite, seqK_none, blockK_ite, blockK_none, opsK_ite, opsK_none, stepK_ite, stepK_none, bodyK_ite, bodyK_none, resK_ite, resK_none, leaveK_ite, leaveK_none, only_ite, only_none, bind_ite, gives_some, gives_none, gives_ite, then_normal, then_ret, then_exit, then_none, then_ite, Option.bind_none, Bool.not_eq_true', decide_eq_false_iff_not, Bool.and_eq_true, Bool.or_eq_true, Option.some.injEq, Int.not_lt, Int.not_le, lp45_0, q, hs, x0, x1, hL, hM, w1, w2, w3, w4, w5, w6, t1, t2, z1, z2, happ]
    refine ⟨i + 1, by simp only [go_sem, reduceIte, Nat.reduceEqDiff, Nat.reduceAdd, Nat.reduceSub, Nat.reduceLeDiff, Nat.reduceLT, reduceCtorEq, Int.reduceLT, Int.reduceLE, Int.reduceEq, Int.reduceBEq, Int.reduceSub, Int.reduceAdd, Int.reduceMul, Int.reduceNeg, Int.reduceToNat, Nat.reduceMul, Nat.reduceBEq, ren1_locm, loc_tips, locT_eq, hlg, okRefs_shelf, renCells_shelf] <;> rfl, ?_, ?_, fun x en s hq => ?_⟩
    · omega
    · omega
    · exact hq
  · obtain rfl : i = cnt := by omega
    simp only [go_sem, reduceIte, Nat.reduceEqDiff, Nat.reduceAdd, Nat.reduceSub, Nat.reduceLeDiff, Nat.reduceLT, reduceCtorEq, Int.reduceLT, Int.reduceLE, Int.reduceEq, Int.reduceBEq, Int.reduceSub, Int.reduceAdd, Int.reduceMul, Int.reduceNeg, Int.reduceToNat, Nat.reduceMul, Nat.reduceBEq, index_rsl_if, setm, make_ints, condK_dec, wantK_dec, not_dec, and_dec, or_dec, seqK_ite, seqK_none, blockK_ite, blockK_none, opsK_ite, opsK_none, stepK_ite, stepK_none, bodyK_ite, bodyK_none, resK_ite, resK_none, leaveK_ite, leaveK_none, only_ite, only_none, bind_ite, gives_some, gives_none, gives_ite, then_normal, then_ret, then_exit, then_none, then_ite, Option.bind_none, Bool.not_eq_true', decide_eq_false_iff_not, Bool.and_eq_true, Bool.or_eq_true, Option.some.injEq, Int.not_lt, Int.not_le, lp45_0, q]

def madeN (s : Shelf) (many : Int) : Nat := (1 + s.many % many).toNat
def madeArts (s : Shelf) (many lines : Int) : List (Int × Int) := s.arts lines (madeN s many)
def madeRoom (s : Shelf) (many lines : Int) : Int := min 100 (longest (madeArts s many lines) + s.room % (3 * lines))
def madeFloor (s : Shelf) (many lines : Int) : Int := s.floor % (madeRoom s many lines + 1)

/-- What is known of a book that is made. -/
theorem made_ok {s : Shelf} {many lines : Int} (hm : 1 ≤ many) (hm2 : many ≤ 12) (hl : 1 ≤ lines) (hl2 : lines ≤ 30) :
    1 ≤ (madeArts s many lines).length ∧ ((madeArts s many lines).length : Int) ≤ many ∧ (∀ a ∈ madeArts s many lines, 1 ≤ a.1 ∧ a.1 ≤ a.2 ∧ a.2 ≤ lines ∧ a.2 ≤ madeRoom s many lines) ∧
    1 ≤ madeRoom s many lines ∧ madeRoom s many lines ≤ 100 ∧ 0 ≤ madeFloor s many lines ∧ madeFloor s many lines ≤ madeRoom s many lines := by
  have h1 := mod_range s.many many (by omega)
  have h2 := arts_ok s (show 0 < lines by omega) (madeN s many)
  have h3 := longest_ok (s.arts lines (madeN s many)) lines hl (fun a ha => (h2 a ha).2.2)
  have h4 := mod_range s.room (3 * lines) (by omega)
  have hr : madeRoom s many lines = min 100 (longest (s.arts lines (madeN s many)) + s.room % (3 * lines)) := rfl
  have h5 := mod_range s.floor (madeRoom s many lines + 1) (by omega)
  have hf : madeFloor s many lines = s.floor % (madeRoom s many lines + 1) := rfl
  have hn : (madeArts s many lines).length = madeN s many := arts_len _ _ _
  refine ⟨by rw [hn]; unfold madeN; omega, by rw [hn]; unfold madeN; omega, fun a ha => ?_, by omega, by omega, by omega, by omega⟩
  have q1 := h2 a ha
  have q2 := h3.2.2 a ha
  omega
theorem made_check {s : Shelf} {many lines : Int} (hm : 1 ≤ many) (hm2 : many ≤ 12) (hl : 1 ≤ lines) (hl2 : lines ≤ 30) : check (madeArts s many lines) (madeRoom s many lines) (madeFloor s many lines) = 0 := by
  obtain ⟨h1, h2, h3, h4, h5, h6, h7⟩ := made_ok (s := s) hm hm2 hl hl2
  have ha : ∀ l : List (Int × Int), (∀ a ∈ l, 1 ≤ a.1 ∧ a.1 ≤ a.2 ∧ a.2 ≤ 30) → artsErr l = 0 := by
    intro l
    induction l with
    | nil => intro _; rfl
    | cons a r ih =>
      intro h
      have := h a (by simp)
      simp only [artsErr]
      rw [if_pos (by unfold artErr; rw [if_neg (by omega), if_neg (by omega)])]
      exact ih fun x hx => h x (by simp [hx])
  unfold check
  rw [if_neg (by omega), if_neg (by omega), if_pos (ha _ fun a h => by have := h3 a h; omega), if_neg (by omega)]

theorem c45 (s0 : Shelf) (hs : s0.ok) (many lines : Int) (hm : 1 ≤ many) (hm2 : many ≤ 12) (hl : 1 ≤ lines) (hl2 : lines ≤ 30) (st : St) :
    run L 45 [s0.av, I many, I lines] st = some (bookAV true (madeArts s0 many lines) (madeRoom s0 many lines) (madeFloor s0 many lines), st) := by
  rw [run_pure (fn := ir45) rfl rfl]
  have hs' := hs
  obtain ⟨b1, b2, b3, _⟩ := hs'
  unfold Byte at b1 b2 b3
  have m1 := mod_range s0.many many (by omega)
  have w1 := wrap64 s0.many (by omega) (by omega)
  have t1 : s0.many.tmod many = s0.many % many := Int.tmod_eq_emod_of_nonneg (by omega)
  have w2 := wrap64 (1 + s0.many % many) (by omega) (by omega)
  have z1 : (many = 0) = False := eq_false (by omega)
  have e1 : 1 + s0.many % many = ((madeN s0 many : Nat) : Int) := by unfold madeN; omega
  rw [e1] at w2
  obtain ⟨k1, k2, k3, k4, k5, k6, k7⟩ := made_ok (s := s0) hm hm2 hl hl2
  have hlg := longest_ok (s0.arts lines (madeN s0 many)) lines hl (fun a ha => (arts_ok s0 (by omega) _ a ha).2.2)
  have w3 := wrap64 s0.room (by omega) (by omega)
  have w4 := wrap64 (3 * lines) (by omega) (by omega)
  have m2 := mod_range s0.room (3 * lines) (by omega)
  have t2 : s0.room.tmod (3 * lines) = s0.room % (3 * lines) := Int.tmod_eq_emod_of_nonneg (by omega)
  have z2 : (3 * lines = 0) = False := eq_false (by omega)
  have w5 := wrap64 (longest (s0.arts lines (madeN s0 many)) + s0.room % (3 * lines)) (by omega) (by omega)
  have e2 : min 100 (longest (s0.arts lines (madeN s0 many)) + s0.room % (3 * lines)) = madeRoom s0 many lines := rfl
  have w6 := wrap64 s0.floor (by omega) (by omega)
  have w7 := wrap64 (madeRoom s0 many lines + 1) (by omega) (by omega)
  have t3 : s0.floor.tmod (madeRoom s0 many lines + 1) = s0.floor % (madeRoom s0 many lines + 1) := Int.tmod_eq_emod_of_nonneg (by omega)
  have z3 : (madeRoom s0 many lines + 1 = 0) = False := eq_false (by omega)
  have e3 : s0.floor % (madeRoom s0 many lines + 1) = madeFloor s0 many lines := rfl
  simp only [ir45, go_sem, reduceIte, Nat.reduceEqDiff, Nat.reduceAdd, Nat.reduceSub, Nat.reduceLeDiff, Nat.reduceLT, reduceCtorEq, Int.reduceLT, Int.reduceLE, Int.reduceEq, Int.reduceBEq, Int.reduceSub, Int.reduceAdd, Int.reduceMul, Int.reduceNeg, Int.reduceToNat, Nat.reduceMul, Nat.reduceBEq, pubs_shelf, shelf_storable, shelf_0, w1, t1, w2, z1, e1]
  generalize hg : lim (headed pure (run L) true _ lp45_0 _ _) _ _ = o
  obtain ⟨x, en, s, rfl, h2⟩ : ∃ x en s, o = some (x, en, s) ∧ _ := by rw [← hg]; exact loop45 s0 hs lines hl hl2 (madeN s0 many) (by unfold madeN; omega) 0 (Nat.zero_le _) _ _ (by simp only [go_sem, reduceIte, Nat.reduceEqDiff, Nat.reduceAdd, Nat.reduceSub, Nat.reduceLeDiff, Nat.reduceLT, reduceCtorEq, Int.reduceLT, Int.reduceLE, Int.reduceEq, Int.reduceBEq, Int.reduceSub, Int.reduceAdd, Int.reduceMul, Int.reduceNeg, Int.reduceToNat, Nat.reduceMul, Nat.reduceBEq, okRefs_shelf, renCells_shelf, Shelf.arts, List.range_zero, List.map_nil, loc_start, locT, longest, List.foldl_nil] <;> rfl)
  clear hg
  obtain ⟨rfl, h3, h4, h5, h6, h7, h8⟩ := h2
  obtain ⟨s1, s2⟩ := s
  simp only at h8
  subst h8
  simp only [go_sem, reduceIte, Nat.reduceEqDiff, Nat.reduceAdd, Nat.reduceSub, Nat.reduceLeDiff, Nat.reduceLT, reduceCtorEq, Int.reduceLT, Int.reduceLE, Int.reduceEq, Int.reduceBEq, Int.reduceSub, Int.reduceAdd, Int.reduceMul, Int.reduceNeg, Int.reduceToNat, Nat.reduceMul, Nat.reduceBEq, h3, h4, h5, h6, h7, shelf_1, shelf_2, w3, w4, t2, z2, w5, e2, w6, w7, t3, z3, e3]
  rfl


/-! ### laws on the cut that is filled -/

theorem seg_single {arts : List (Int × Int)} {i : Nat} (h : i < arts.length) : seg (mosts arts) i ((i + 1 : Nat) : Int) = arts[i].2 := by
  have h2 := seg_sums (·.2) arts i ((i + 1 : Nat) : Int) (by omega) (by omega) (by omega)
  rw [Int.toNat_natCast, Int.toNat_natCast, sumSeg_step _ _ _ _ (by omega) (by omega), sumSeg_end _ _ _ _ (by omega)] at h2
  simp only [mosts, h2]; omega
theorem singles_iff {arts : List (Int × Int)} (r : Int) : (∀ e : Nat, 1 ≤ e → e ≤ arts.length → seg (mosts arts) ((e : Int) - 1) e ≤ r) ↔ ∀ a ∈ arts, a.2 ≤ r := by
  constructor
  · intro h a ha
    obtain ⟨i, hi, rfl⟩ := List.getElem_of_mem ha
    have := h (i + 1) (by omega) (by omega)
    rw [show ((i + 1 : Nat) : Int) - 1 = i by omega, seg_single hi] at this
    exact this
  · intro h e h1 h2
    have := h _ (List.getElem_mem (show e - 1 < arts.length by omega))
    rw [← seg_single (show e - 1 < arts.length by omega)] at this
    rw [show ((e - 1 : Nat) : Int) = (e : Int) - 1 by omega, show ((e - 1 + 1 : Nat) : Int) = e by omega] at this
    exact this
theorem mono_any {arts : List (Int × Int)} {room0 floor : Int} (hc : check arts room0 floor = 0) (room : Int) : Mono arts.length (fun b e => decide (seg (mosts arts) b e ≤ room)) := by
  obtain ⟨_, _, k3, _⟩ := check_zero hc
  intro b b' e' e h1 h2 h3 h4 h5
  simp only [decide_eq_true_eq] at h5 ⊢
  have := seg_mono (l := arts.map (·.2)) (by intro x hx; obtain ⟨a, ha, rfl⟩ := List.mem_map.1 hx; have := k3 a ha; omega) b b' e' e h1 h2 h3 (by simpa using h4)
  simp only [mosts] at h5 ⊢
  omega
theorem filled_some {arts : List (Int × Int)} {room0 floor : Int} (hc : check arts room0 floor = 0) {r : Int} (hs : ∀ a ∈ arts, a.2 ≤ r) :
    lastMin (goods arts.length (fun b e => decide (seg (mosts arts) b e ≤ r)) 0) = some (filled (mosts arts) r) ∧ filled (mosts arts) r ≠ [] := by
  obtain ⟨g1, g2, g3, g4⟩ := mosts_ok hc
  obtain ⟨q, h1, h2⟩ := fill_goods (mosts arts) r arts.length (mono_any hc r) ((singles_iff r).2 hs) arts.length 0 1 [] (by omega) (by omega) (.inl rfl) (by omega)
  have hf : filled (mosts arts) r = q ++ [(arts.length : Int)] := by
    unfold filled
    rw [g2, Nat.add_sub_cancel, h1]
    simp only [List.nil_append]
    congr 2; omega
  rw [hf]
  exact ⟨h2, by simp⟩
theorem filled_none {arts : List (Int × Int)} {room0 floor : Int} (hc : check arts room0 floor = 0) {r : Int} (hs : ¬ ∀ a ∈ arts, a.2 ≤ r) : filled (mosts arts) r = [] := by
  obtain ⟨g1, g2, g3, g4⟩ := mosts_ok hc
  rw [← singles_iff] at hs
  have : ∃ e : Nat, 1 ≤ e ∧ e ≤ arts.length ∧ r < seg (mosts arts) ((e : Int) - 1) e := by
    apply Classical.byContradiction
    intro hn
    apply hs
    intro e h1 h2
    apply Classical.byContradiction
    intro h3
    exact hn ⟨e, h1, h2, by omega⟩
  obtain ⟨e, h1, h2, h3⟩ := this
  unfold filled
  rw [g2, Nat.add_sub_cancel, fill_none (mosts arts) r arts.length 0 1 [] ⟨e, h1, by omega, h3⟩]
theorem goods_cut {n : Nat} {p : Int → Int → Bool} {c : List Int} (h : c ∈ goods n p 0) : c ∈ cutsOf n 0 ∧ okC p 0 c = true := by
  unfold goods at h
  simpa using List.mem_filter.1 h
/-- The smallest room for so many volumes. -/
theorem level_spec {arts : List (Int × Int)} {room floor : Int} (hc : check arts room floor = 0) (v : Int) (h1 : 1 ≤ v) (h2 : v ≤ arts.length) :
    ∃ m, levelV arts room floor v = (m, 0) ∧ 1 ≤ m ∧ m ≤ seg (mosts arts) 0 arts.length ∧ ∀ r, 1 ≤ r → (fits (mosts arts) v r ↔ m ≤ r) := by
  rw [level_eq]
  unfold levelR
  rw [if_pos hc, if_neg (by omega)]
  obtain ⟨g1, g2, g3, g4⟩ := mosts_ok hc
  obtain ⟨q1, q2, q3⟩ := levelF_le (mosts arts) v (cutsOf arts.length 0) (seg (mosts arts) 0 arts.length)
  have hone := all_in_one (n := arts.length) (by omega)
  have hmax : maxSeg (mosts arts) 0 0 [(arts.length : Int)] = seg (mosts arts) 0 arts.length := by
    have := seg_pos hc 0 arts.length (by omega) (by omega)
    simp only [maxSeg, Int.natCast_zero] at this ⊢; omega
  have hwit : ∃ c ∈ cutsOf arts.length 0, (c.length : Int) ≤ v ∧ levelF (mosts arts) v (seg (mosts arts) 0 arts.length) (cutsOf arts.length 0) = maxSeg (mosts arts) 0 0 c := by
    rcases q3 with q3 | q3
    · exact ⟨_, hone, by simp; omega, by rw [q3, hmax]⟩
    · exact q3
  obtain ⟨c, hc1, hc2, hc3⟩ := hwit
  refine ⟨_, rfl, ?_, q1, fun r hr => ?_⟩
  · rw [hc3]
    have hg : IsGood arts.length (fun _ _ => true) 0 c := by
      rw [← goods_iff arts.length (fun _ _ => true) _ 0 rfl]
      unfold goods
      rw [List.mem_filter]
      refine ⟨hc1, ?_⟩
      have : ∀ (b : Int) (c : List Int), okC (fun _ _ => true) b c = true := by
        intro b c
        induction c generalizing b with
        | nil => rfl
        | cons e r ih => simp [okC, ih]
      exact this _ _
    cases c with
    | nil => simp only [IsGood] at hg; omega
    | cons e r =>
      obtain ⟨e', rfl, q1, q2, _, _⟩ := hg
      have := seg_pos hc 0 e' q1 q2
      simp only [Int.natCast_zero] at this
      have hle := (maxSeg_le (mosts arts) (maxSeg (mosts arts) 0 0 ((e' : Int) :: r)) ((e' : Int) :: r) 0 0).1 (Int.le_refl _)
      simp only [okC, Bool.and_eq_true, decide_eq_true_eq] at hle
      omega
  · rw [fits_iff hc]
    constructor
    · rintro ⟨c', p1, p2, p3⟩
      have := (maxSeg_le (mosts arts) r c' 0 0).2 ⟨by omega, p3⟩
      have := q2 c' p1 p2
      omega
    · intro hmr
      exact ⟨c, hc1, hc2, ((maxSeg_le (mosts arts) r c 0 0).1 (by omega)).2⟩


theorem cells5 : Try.prog.cellsOf 5 = 1 := by kernel_rfl
theorem cells60 : Try.prog.cellsOf 60 = 12 := by kernel_rfl
theorem cells62 : Try.prog.cellsOf 62 = 27 := by kernel_rfl

theorem one_byte {d : Nat} {bs : List AV} (h : Sh Try.prog (d + 1) 5 bs) : ∃ n, bs = [U n] ∧ Byte n := by
  simp only [Sh, Try.underlying5] at h
  obtain ⟨n, h1, h2⟩ := h
  exact ⟨n, h1, bounds_u8 h2⟩
theorem all_bytes : ∀ (bs : List AV), (∀ i, i < bs.length → ∃ n, (bs.drop i).take 1 = [U n] ∧ Byte n) → ∃ zs : List Int, bs = zs.map U ∧ zs.length = bs.length ∧ ∀ n ∈ zs, Byte n
  | [], _ => ⟨[], rfl, rfl, by simp⟩
  | b :: r, h => by
    obtain ⟨n, h1, h2⟩ := h 0 (by simp)
    simp only [List.drop_zero, List.take_succ_cons, List.take_zero, List.cons.injEq, and_true] at h1
    obtain ⟨zs, h3, h4, h5⟩ := all_bytes r fun i hi => by
      obtain ⟨n, q1, q2⟩ := h (i + 1) (by simp; omega)
      exact ⟨n, by simpa using q1, q2⟩
    exact ⟨n :: zs, by simp [h1, ← h3], by simp [h4], by simp; exact ⟨h2, h5⟩⟩
theorem sh_bytes {d : Nat} {bs : List AV} (h : Sh Try.prog (d + 2) 60 bs) : ∃ zs : List Int, bs = zs.map U ∧ zs.length = 12 ∧ ∀ n ∈ zs, Byte n := by
  unfold Sh at h
  simp only [Try.underlying60, cells60, cells5, Nat.mul_one] at h
  obtain ⟨h1, h2⟩ := h
  obtain ⟨zs, h3, h4, h5⟩ := all_bytes bs fun i hi => one_byte (h2 i (by omega))
  exact ⟨zs, h3, by omega, h5⟩

/-- A book by numbers. -/
theorem sh_shelf {a : AV} (h : ShV Try.prog 8 62 a) : ∃ s : Shelf, a = s.av ∧ s.ok := by
  unfold ShV at h
  rw [if_pos (by unfold aggB; rw [Try.underlying62])] at h
  obtain ⟨cs, rfl, hs⟩ := h
  unfold Sh at hs
  simp only [Try.underlying62, cells62] at hs
  obtain ⟨h1, h2⟩ := hs
  have f0 := h2 0 _ rfl
  have f1 := h2 1 _ rfl
  have f2 := h2 2 _ rfl
  have f3 := h2 3 _ rfl
  have f4 := h2 4 _ rfl
  simp only [List.getElem_toArray, List.getElem_cons_zero, List.getElem_cons_succ, cells5, cells60] at f0 f1 f2 f3 f4
  obtain ⟨a, e0, b0⟩ := one_byte f0
  obtain ⟨b, e1, b1⟩ := one_byte f1
  obtain ⟨c, e2, b2⟩ := one_byte f2
  obtain ⟨ls, e3, b3, c3⟩ := sh_bytes f3
  obtain ⟨ms, e4, b4, c4⟩ := sh_bytes f4
  refine ⟨⟨a, b, c, ls, ms⟩, ?_, b0, b1, b2, b3, b4, c3, c4⟩
  have hcs : cs = (cs.drop 0).take 1 ++ ((cs.drop 1).take 1 ++ ((cs.drop 2).take 1 ++ ((cs.drop 3).take 12 ++ (cs.drop 15).take 12))) := by
    have s5 : (cs.drop 15).take 12 = cs.drop 15 := List.take_of_length_le (by simp [h1])
    have s4 : (cs.drop 3).take 12 ++ cs.drop 15 = cs.drop 3 := by
      have := List.take_append_drop 12 (cs.drop 3)
      rw [List.drop_drop] at this
      exact this
    have s3 : (cs.drop 2).take 1 ++ cs.drop 3 = cs.drop 2 := by
      have := List.take_append_drop 1 (cs.drop 2)
      rw [List.drop_drop] at this
      exact this
    have s2 : (cs.drop 1).take 1 ++ cs.drop 2 = cs.drop 1 := by
      have := List.take_append_drop 1 (cs.drop 1)
      rw [List.drop_drop] at this
      exact this
    have s1 : (cs.drop 0).take 1 ++ cs.drop 1 = cs := by
      have := List.take_append_drop 1 cs
      simpa using this
    rw [s5, s4, s3, s2, s1]
  show AV.agg cs = AV.agg (Shelf.cells ⟨a, b, c, ls, ms⟩)
  rw [hcs, e0, e1, e2, e3, e4]
  rfl

theorem sh_byte {a : AV} (h : ShV Try.prog 8 5 a) : ∃ n, a = U n ∧ Byte n := by
  obtain ⟨n, rfl, h1⟩ := sh_int Try.underlying5 h
  exact ⟨n, rfl, bounds_u8 h1⟩


theorem stretchEnd_spec (l : List Int) (room : Int) (n x : Nat) : ∀ k y, y + k = n → (∀ z, y ≤ z → z < stretchEnd l room n x k y → seg l x ((z : Int) + 1) ≤ room) ∧ (stretchEnd l room n x k y < n → room < seg l x ((stretchEnd l room n x k y : Int) + 1))
  | 0, y, h => by
    simp only [stretchEnd]
    exact ⟨fun z h1 h2 => by omega, fun h1 => by omega⟩
  | k + 1, y, h => by
    simp only [stretchEnd]
    split
    · next hc =>
      obtain ⟨h1, h2⟩ := stretchEnd_spec l room n x k (y + 1) (by omega)
      refine ⟨fun z q1 q2 => ?_, h2⟩
      by_cases hz : z = y
      · subst hz; exact hc.2
      · exact h1 z (by omega) q2
    · next hc =>
      exact ⟨fun z h1 h2 => by omega, fun h1 => by omega⟩


/-! ### all cuts are tried: 'cuts' with a function of two that are met -/

structure Five where
  c0 : List AV
  c1 : List AV
  c2 : List AV
  c3 : List AV
  c4 : List AV
/-- The store while all cuts of n articles are tried: what is captured, then n, the function, and the closure itself. -/
abbrev trySt (n : Nat) (f : Nat) (fv : List AV) (a : Five) : List (List AV) := [a.c0, a.c1, a.c2, a.c3, a.c4, [I n], [.fn (.func f) [] fv], [.fn (.func 88) [] [.ptr 5 0, .ptr 6 0, .ptr 7 0]]]
/-- What is a list of numbers in a register: nil, or a list. -/
def IsInts (l0 : AV) (l : List Int) : Prop := (l = [] ∧ l0 = .v (.slice none 0 0)) ∨ ∃ g, l0 = .lst g 1 (l.map I)
/-- What the function does with one cut. -/
def Each (n f : Nat) (fv : List AV) (P : Five → List (List Int) → Prop) : Prop :=
  ∀ (a : Five) (done : List (List Int)) (l : List Int) (l0 : AV) (T : List Nat), IsInts l0 l → (∃ rest, cutsOf n 0 = done ++ [l] ++ rest) → P a done →
    ∃ a' T', run L f (l0 :: fv) ⟨trySt n f fv a, T⟩ = some (.tup [], ⟨trySt n f fv a', T'⟩) ∧ P a' (done ++ [l])
end Go.Proofs.Ytiifibgadipalaa.Vm
