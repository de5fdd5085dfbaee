/- What is proved: what each function of this program computes, as equations on the evaluator. No condition. -/
import Derived.Test.YtiifibgadipalaaC2
set_option linter.all false
namespace Go.Proofs.Ytiifibgadipalaa.Vm
open Go Go.Ev
set_option maxRecDepth 100000
attribute [local go_sem] cells_any storable_any ren1_any shaped_ptr cells_ptr storable_ptr ren1_ptr shaped_eptr cells_eptr storable_eptr ren1_eptr shaped_rsl cells_rsl storable_rsl ren1_rsl shaped_int cells_int storable_int ren1_int shaped_bool cells_bool storable_bool ren1_bool shaped_nils cells_nils storable_nils ren1_nils shaped_lst cells_lst storable_lst shaped_fn cells_fn storable_fn ren1_fn shaped_ifc cells_ifc storable_ifc ren1_ifc shaped_agg cells_agg storable_agg ren1_agg shaped_tup cells_tup storable_tup ren1_tup shaped_nif cells_nif storable_nif ren1_nif ren1_lany ren1_lfull ren1_lown len_lst len_rsl len_nil load_ptr load_eptr isRsl_lst isRsl_nil isRsl_rsl elems_nil elems_lst elems_sl isRsl_sl body_eq bodyK_normal bodyK_ret resK_some leaveK_some only_some code_skip code_exit code_ret code_ops code_seq code_cond code_block seqK_normal seqK_ret seqK_exit condK_true condK_false blockK_normal blockK_ret blockK_exit opsK_some ops_nil ops_cons wantK_true wantK_false stepK_some pubs pub pub_sl params okRef_loc storable_loc shaped_loc cells_loc isRsl_loc elems_loc len_loc untips untip untip_sl wantedAV setElems withO isAgg_v isAgg_agg isAgg_lst isAgg_ptr isAgg_fn isAgg_ifc isAgg_rsl isAgg_sl isAgg_loc List.replicate_succ List.replicate_zero opAV valAV aval avals ofVal Env.get setD canon gcAV renAll renEnv renStore renCells ren1_sl cutSt okEnv okStore okRefs okRef okRef_sl bin_int bin_bool bin_lst bin_rsl bin_nil bin_agg cellsEq cellEq isShift intOp boolOp min_int max_int beq_int bne resAV tupAV leave_eq fin_sl fin_loc fins fin_v fin_lst fin_agg fin_tup fin_fn storeAV readCells putCells cells_sl shaped_sl storable_sl fieldAddrAV len_sl goI List.getElem?_cons_zero List.getElem?_cons_succ List.getElem?_nil Option.bind_some Option.map_some List.length_cons List.length_nil List.all_cons List.all_nil Bool.and_true Bool.true_and Bool.and_false Bool.false_and and_true true_and and_false false_and Bool.false_eq_true List.set_cons_zero List.set_cons_succ List.append_nil List.nil_append List.cons_append List.take_zero List.take_succ_cons List.take_nil List.drop_zero List.drop_succ_cons List.map_cons List.map_nil decide_true decide_false beq_self_eq_true Bool.not_true Bool.not_false or_true true_or or_false false_or Nat.zero_add Nat.add_zero Nat.le_refl Nat.lt_irrefl decide_eq_true_eq eq_self_iff_true not_true_eq_false not_false_eq_true List.getD_cons_zero code_loop Nat.zero_le Nat.not_lt_zero Bool.true_beq Bool.false_beq beq_true beq_false ge_iff_le gt_iff_lt Lpure pus Option.map_none assert_ifc assert_nil idxA_ptr idxA_eptr idxV_agg Int.cast_ofNat_Int Nat.mul_one Nat.zero_mul Int.toNat_natCast Int.toNat_zero setParts withO2 eqnil_sl nenil_sl eqnil_loc nenil_loc map_nil_iff okRefs_ints renCells_ints

theorem slice_arts (nl : Bool) (arts : List (Int × Int)) (b e : Int) (h : arts ≠ []) (h0 : 0 ≤ b) (h1 : b ≤ e) (h2 : e ≤ arts.length) :
    sliceAV 2 (sl 2 nl (arts.map artAV)) (some (.v (.int .i64 b))) (some (.v (.int .i64 e))) none = some (sl 2 false (((arts.take e.toNat).drop b.toNat).map artAV)) := by
  rw [sl_ne (by simpa using h)]
  have q1 : natOr 0 (some (.v (.int .i64 b))) = some b.toNat := by simp [natOr, natOf, h0]
  have q2 : natOr (arts.map artAV).length (some (.v (.int .i64 e))) = some e.toNat := by simp [natOr, natOf]; omega
  simp only [sliceAV, if_true, q1, q2]
  rw [if_pos (by simp; omega)]
  simp [tagSlice, sl, List.map_take, List.map_drop]

theorem loop50 (nl : Bool) (arts : List (Int × Int)) (room floor : Int) (xs : List (Int × Int)) (hx0 : xs.length ≤ 12) (hxs : ∀ a ∈ xs, 0 ≤ a.2 ∧ a.2 ≤ 100) (i : Nat) (hok : i ≤ xs.length) (env : Env) (st : St)
    (hg : gcAV true 1 0 (canon env [7, 14, 15, 16]) st = ([(7, I ((xs.take i).map (·.2)).sum), (14, sl 2 false (xs.map artAV)), (15, I xs.length), (16, I i)], ⟨[bookCells nl arts room floor], []⟩)) :
    ∃ x_1 en s, lim (headed pure (run L) true [7, 14, 15, 16] lp50_0 1 0) env st = some (x_1, en, s) ∧ (x_1 = .exit 0 ∧ en.get 7 = I (xs.map (·.2)).sum) := by
  refine loop_wp (α := Nat) (fun i => xs.length - i) (fun i => i ≤ xs.length) (fun i => ([(7, I ((xs.take i).map (·.2)).sum), (14, sl 2 false (xs.map artAV)), (15, I xs.length), (16, I i)], ⟨[bookCells nl arts room floor], []⟩)) (fun i x_1 en s => x_1 = .exit 0 ∧ en.get 7 = I (xs.map (·.2)).sum) (fun i hok => ?_) i hok env st hg
  by_cases q : (i : Int) < (xs.length : Int)
  · have hx := index_arts false xs i (by omega)
    have hs := succ64 i (by omega)
    have htk : xs.take (i + 1) = xs.take i ++ [xs[i]'(by omega)] := (List.take_append_getElem (by omega)).symm
    have hsum : ((xs.take (i + 1)).map (·.2)).sum = ((xs.take i).map (·.2)).sum + (xs[i]'(by omega)).2 := by rw [htk]; simp only [List.map_append, List.map_cons, List.map_nil, List.sum_append, List.sum_cons, List.sum_nil]; omega
    have hb : ∀ l : List (Int × Int), (∀ a ∈ l, 0 ≤ a.2 ∧ a.2 ≤ 100) → 0 ≤ (l.map (·.2)).sum ∧ (l.map (·.2)).sum ≤ 100 * l.length := by
      intro l
      induction l with
      | nil => intro _; simp
      | cons a r ih =>
        intro h
        have h1 := h a (by simp)
        have h2 := ih fun x hx => h x (by simp [hx])
        simp only [List.map_cons, List.sum_cons, List.length_cons]; omega
    have hb1 := hb (xs.take i) (fun a ha => hxs a (List.mem_of_mem_take ha))
    have hb2 := hxs _ (List.getElem_mem (show i < xs.length by omega))
    have hl : (xs.take i).length ≤ 12 := by simp; omega
    have w := wrap64 (((xs.take i).map (·.2)).sum + (xs[i]'(by omega)).2) (by omega) (by omega)
    simp only [go_sem, reduceIte, Nat.reduceEqDiff, Nat.reduceAdd, Nat.reduceSub, Nat.reduceLeDiff, Nat.reduceLT, reduceCtorEq, Int.reduceLT, Int.reduceLE, Int.reduceEq, Int.reduceBEq, Int.reduceSub, Int.reduceAdd, Int.reduceMul, Int.reduceNeg, Int.reduceToNat, Nat.reduceMul, Nat.reduceBEq, index_rsl_if, setm, make_ints, condK_dec, wantK_dec, not_dec, and_dec, or_dec, seqK_ite, seqK_none, blockK_ite, blockK_none, opsK_ite, opsK_none, stepK_ite, stepK_none, bodyK_ite, bodyK_none, resK_ite, resK_none, leaveK_ite, leaveK_none, only_ite, only_none, bind_ite, gives_some, gives_none, gives_ite, then_normal, then_ret, then_exit, then_none, then_ite, Option.bind_none, Bool.not_eq_true', decide_eq_false_iff_not, Bool.and_eq_true, Bool.or_eq_true, Option.some.injEq, Int.not_lt, Int.not_le, lp50_0, q, hx, hs, w]
    refine ⟨i + 1, by simp only [go_sem, reduceIte, Nat.reduceEqDiff, Nat.reduceAdd, Nat.reduceSub, Nat.reduceLeDiff, Nat.reduceLT, reduceCtorEq, Int.reduceLT, Int.reduceLE, Int.reduceEq, Int.reduceBEq, Int.reduceSub, Int.reduceAdd, Int.reduceMul, Int.reduceNeg, Int.reduceToNat, Nat.reduceMul, Nat.reduceBEq, ren1_locm, loc_tips, locT_eq, hsum] <;> rfl, ?_, ?_, fun x en s hq => ?_⟩
    · omega
    · omega
    · exact hq
  · have htk : xs.take i = xs := List.take_of_length_le (by omega)
    simp only [go_sem, reduceIte, Nat.reduceEqDiff, Nat.reduceAdd, Nat.reduceSub, Nat.reduceLeDiff, Nat.reduceLT, reduceCtorEq, Int.reduceLT, Int.reduceLE, Int.reduceEq, Int.reduceBEq, Int.reduceSub, Int.reduceAdd, Int.reduceMul, Int.reduceNeg, Int.reduceToNat, Nat.reduceMul, Nat.reduceBEq, index_rsl_if, setm, make_ints, condK_dec, wantK_dec, not_dec, and_dec, or_dec, seqK_ite, seqK_none, blockK_ite, blockK_none, opsK_ite, opsK_none, stepK_ite, stepK_none, bodyK_ite, bodyK_none, resK_ite, resK_none, leaveK_ite, leaveK_none, only_ite, only_none, bind_ite, gives_some, gives_none, gives_ite, then_normal, then_ret, then_exit, then_none, then_ite, Option.bind_none, Bool.not_eq_true', decide_eq_false_iff_not, Bool.and_eq_true, Bool.or_eq_true, Option.some.injEq, Int.not_lt, Int.not_le, lp50_0, q, htk]

theorem loop89 (nl : Bool) (arts : List (Int × Int)) (room floor : Int) (xs : List (Int × Int)) (hx0 : xs.length ≤ 12) (hxs : ∀ a ∈ xs, 0 ≤ a.1 ∧ a.1 ≤ 100) (i : Nat) (hok : i ≤ xs.length) (env : Env) (st : St)
    (hg : gcAV true 1 0 (canon env [7, 14, 15, 16]) st = ([(7, I ((xs.take i).map (·.1)).sum), (14, sl 2 false (xs.map artAV)), (15, I xs.length), (16, I i)], ⟨[bookCells nl arts room floor], []⟩)) :
    ∃ x_1 en s, lim (headed pure (run L) true [7, 14, 15, 16] lp89_0 1 0) env st = some (x_1, en, s) ∧ (x_1 = .exit 0 ∧ en.get 7 = I (xs.map (·.1)).sum) := by
  refine loop_wp (α := Nat) (fun i => xs.length - i) (fun i => i ≤ xs.length) (fun i => ([(7, I ((xs.take i).map (·.1)).sum), (14, sl 2 false (xs.map artAV)), (15, I xs.length), (16, I i)], ⟨[bookCells nl arts room floor], []⟩)) (fun i x_1 en s => x_1 = .exit 0 ∧ en.get 7 = I (xs.map (·.1)).sum) (fun i hok => ?_) i hok env st hg
  by_cases q : (i : Int) < (xs.length : Int)
  · have hx := index_arts false xs i (by omega)
    have hs := succ64 i (by omega)
    have htk : xs.take (i + 1) = xs.take i ++ [xs[i]'(by omega)] := (List.take_append_getElem (by omega)).symm
    have hsum : ((xs.take (i + 1)).map (·.1)).sum = ((xs.take i).map (·.1)).sum + (xs[i]'(by omega)).1 := by rw [htk]; simp only [List.map_append, List.map_cons, List.map_nil, List.sum_append, List.sum_cons, List.sum_nil]; omega
    have hb : ∀ l : List (Int × Int), (∀ a ∈ l, 0 ≤ a.1 ∧ a.1 ≤ 100) → 0 ≤ (l.map (·.1)).sum ∧ (l.map (·.1)).sum ≤ 100 * l.length := by
      intro l
      induction l with
      | nil => intro _; simp
      | cons a r ih =>
        intro h
        have h1 := h a (by simp)
        have h2 := ih fun x hx => h x (by simp [hx])
        simp only [List.map_cons, List.sum_cons, List.length_cons]; omega
    have hb1 := hb (xs.take i) (fun a ha => hxs a (List.mem_of_mem_take ha))
    have hb2 := hxs _ (List.getElem_mem (show i < xs.length by omega))
    have hl : (xs.take i).length ≤ 12 := by simp; omega
    have w := wrap64 (((xs.take i).map (·.1)).sum + (xs[i]'(by omega)).1) (by omega) (by omega)
    simp only [go_sem, reduceIte, Nat.reduceEqDiff, Nat.reduceAdd, Nat.reduceSub, Nat.reduceLeDiff, Nat.reduceLT, reduceCtorEq, Int.reduceLT, Int.reduceLE, Int.reduceEq, Int.reduceBEq, Int.reduceSub, Int.reduceAdd, Int.reduceMul, Int.reduceNeg, Int.reduceToNat, Nat.reduceMul, Nat.reduceBEq, index_rsl_if, setm, make_ints, condK_dec, wantK_dec, not_dec, and_dec, or_dec, seqK_ite, seqK_none, blockK_ite, blockK_none, opsK_ite, opsK_none, stepK_ite, stepK_none, bodyK_ite, bodyK_none, resK_ite, resK_none, leaveK_ite, leaveK_none, only_ite, only_none, bind_ite, gives_some, gives_none, gives_ite, then_normal, then_ret, then_exit, then_none, then_ite, Option.bind_none, Bool.not_eq_true', decide_eq_false_iff_not, Bool.and_eq_true, Bool.or_eq_true, Option.some.injEq, Int.not_lt, Int.not_le, lp89_0, q, hx, hs, w]
    refine ⟨i + 1, by simp only [go_sem, reduceIte, Nat.reduceEqDiff, Nat.reduceAdd, Nat.reduceSub, Nat.reduceLeDiff, Nat.reduceLT, reduceCtorEq, Int.reduceLT, Int.reduceLE, Int.reduceEq, Int.reduceBEq, Int.reduceSub, Int.reduceAdd, Int.reduceMul, Int.reduceNeg, Int.reduceToNat, Nat.reduceMul, Nat.reduceBEq, ren1_locm, loc_tips, locT_eq, hsum] <;> rfl, ?_, ?_, fun x en s hq => ?_⟩
    · omega
    · omega
    · exact hq
  · have htk : xs.take i = xs := List.take_of_length_le (by omega)
    simp only [go_sem, reduceIte, Nat.reduceEqDiff, Nat.reduceAdd, Nat.reduceSub, Nat.reduceLeDiff, Nat.reduceLT, reduceCtorEq, Int.reduceLT, Int.reduceLE, Int.reduceEq, Int.reduceBEq, Int.reduceSub, Int.reduceAdd, Int.reduceMul, Int.reduceNeg, Int.reduceToNat, Nat.reduceMul, Nat.reduceBEq, index_rsl_if, setm, make_ints, condK_dec, wantK_dec, not_dec, and_dec, or_dec, seqK_ite, seqK_none, blockK_ite, blockK_none, opsK_ite, opsK_none, stepK_ite, stepK_none, bodyK_ite, bodyK_none, resK_ite, resK_none, leaveK_ite, leaveK_none, only_ite, only_none, bind_ite, gives_some, gives_none, gives_ite, then_normal, then_ret, then_exit, then_none, then_ite, Option.bind_none, Bool.not_eq_true', decide_eq_false_iff_not, Bool.and_eq_true, Bool.or_eq_true, Option.some.injEq, Int.not_lt, Int.not_le, lp89_0, q, htk]

theorem c50 (nl : Bool) (arts : List (Int × Int)) (room floor : Int) (hc : check arts room floor = 0) (b e : Int) (h0 : 0 ≤ b) (h1 : b ≤ e) (h2 : e ≤ arts.length) (st : St) :
    run L 50 [bookAV nl arts room floor, I b, I e] st = some (I (seg (mosts arts) b e), st) := by
  rw [run_pure (fn := ir50) rfl rfl]
  obtain ⟨k1, k2, k3, _⟩ := check_zero hc
  have hsl := slice_arts nl arts b e (by intro h; subst h; simp at k1) h0 h1 h2
  have hs := seg_sums (·.2) arts b e h0 h1 h2
  simp only [ir50, go_sem, reduceIte, Nat.reduceEqDiff, Nat.reduceAdd, Nat.reduceSub, Nat.reduceLeDiff, Nat.reduceLT, reduceCtorEq, Int.reduceLT, Int.reduceLE, Int.reduceEq, Int.reduceBEq, Int.reduceSub, Int.reduceAdd, Int.reduceMul, Int.reduceNeg, Int.reduceToNat, Nat.reduceMul, Nat.reduceBEq, hsl]
  generalize hg : lim (headed pure (run L) true _ lp50_0 _ _) _ _ = o
  obtain ⟨x, en, s, rfl, h2⟩ : ∃ x en s, o = some (x, en, s) ∧ _ := by rw [← hg]; exact loop50 nl arts room floor ((arts.take e.toNat).drop b.toNat) (by simp; omega) (fun a ha => by have := k3 a (List.mem_of_mem_take (List.mem_of_mem_drop ha)); omega) 0 (Nat.zero_le _) _ _ (by simp only [go_sem, reduceIte, Nat.reduceEqDiff, Nat.reduceAdd, Nat.reduceSub, Nat.reduceLeDiff, Nat.reduceLT, reduceCtorEq, Int.reduceLT, Int.reduceLE, Int.reduceEq, Int.reduceBEq, Int.reduceSub, Int.reduceAdd, Int.reduceMul, Int.reduceNeg, Int.reduceToNat, Nat.reduceMul, Nat.reduceBEq, List.take_zero, List.map_nil, List.sum_nil, List.length_map] <;> rfl)
  clear hg
  obtain ⟨rfl, h3⟩ := h2
  simp only [go_sem, reduceIte, Nat.reduceEqDiff, Nat.reduceAdd, Nat.reduceSub, Nat.reduceLeDiff, Nat.reduceLT, reduceCtorEq, Int.reduceLT, Int.reduceLE, Int.reduceEq, Int.reduceBEq, Int.reduceSub, Int.reduceAdd, Int.reduceMul, Int.reduceNeg, Int.reduceToNat, Nat.reduceMul, Nat.reduceBEq, h3, mosts, hs]
  rfl
theorem c89 (nl : Bool) (arts : List (Int × Int)) (room floor : Int) (hc : check arts room floor = 0) (b e : Int) (h0 : 0 ≤ b) (h1 : b ≤ e) (h2 : e ≤ arts.length) (st : St) :
    run L 89 [bookAV nl arts room floor, I b, I e] st = some (I (seg (leasts arts) b e), st) := by
  rw [run_pure (fn := ir89) rfl rfl]
  obtain ⟨k1, k2, k3, _⟩ := check_zero hc
  have hsl := slice_arts nl arts b e (by intro h; subst h; simp at k1) h0 h1 h2
  have hs := seg_sums (·.1) arts b e h0 h1 h2
  simp only [ir89, go_sem, reduceIte, Nat.reduceEqDiff, Nat.reduceAdd, Nat.reduceSub, Nat.reduceLeDiff, Nat.reduceLT, reduceCtorEq, Int.reduceLT, Int.reduceLE, Int.reduceEq, Int.reduceBEq, Int.reduceSub, Int.reduceAdd, Int.reduceMul, Int.reduceNeg, Int.reduceToNat, Nat.reduceMul, Nat.reduceBEq, hsl]
  generalize hg : lim (headed pure (run L) true _ lp89_0 _ _) _ _ = o
  obtain ⟨x, en, s, rfl, h2⟩ : ∃ x en s, o = some (x, en, s) ∧ _ := by rw [← hg]; exact loop89 nl arts room floor ((arts.take e.toNat).drop b.toNat) (by simp; omega) (fun a ha => by have := k3 a (List.mem_of_mem_take (List.mem_of_mem_drop ha)); omega) 0 (Nat.zero_le _) _ _ (by simp only [go_sem, reduceIte, Nat.reduceEqDiff, Nat.reduceAdd, Nat.reduceSub, Nat.reduceLeDiff, Nat.reduceLT, reduceCtorEq, Int.reduceLT, Int.reduceLE, Int.reduceEq, Int.reduceBEq, Int.reduceSub, Int.reduceAdd, Int.reduceMul, Int.reduceNeg, Int.reduceToNat, Nat.reduceMul, Nat.reduceBEq, List.take_zero, List.map_nil, List.sum_nil, List.length_map] <;> rfl)
  clear hg
  obtain ⟨rfl, h3⟩ := h2
  simp only [go_sem, reduceIte, Nat.reduceEqDiff, Nat.reduceAdd, Nat.reduceSub, Nat.reduceLeDiff, Nat.reduceLT, reduceCtorEq, Int.reduceLT, Int.reduceLE, Int.reduceEq, Int.reduceBEq, Int.reduceSub, Int.reduceAdd, Int.reduceMul, Int.reduceNeg, Int.reduceToNat, Nat.reduceMul, Nat.reduceBEq, h3, leasts, hs]
  rfl

/-- The first volume with a property, as a loop finds it; whether there is one. -/
def jFirst (p : Int → Bool) (l : List Int) : Int → Nat → Int → List Int → Int
  | _, _, may, [] => may
  | b, v, may, e :: r => jFirst p l e (v + 1) (if may < 0 ∧ p (seg l b e) = true then (v : Int) else may) r
def jAny (p : Int → Bool) (l : List Int) : Int → Bool → List Int → Bool
  | _, t, [] => t
  | b, t, e :: r => jAny p l e (t || p (seg l b e)) r
theorem jFirst_stay (p : Int → Bool) (l : List Int) : ∀ (r : List Int) (b : Int) (v : Nat) (may : Int), 0 ≤ may → jFirst p l b v may r = may
  | [], b, v, may, h => rfl
  | e :: r, b, v, may, h => by simp only [jFirst]; rw [if_neg (by omega)]; exact jFirst_stay p l r e (v + 1) may h
theorem jFirst_eq (p : Int → Bool) (l : List Int) : ∀ (r : List Int) (b : Int) (v : Nat), jFirst p l b v (-1) r = firstV l p b v r
  | [], b, v => rfl
  | e :: r, b, v => by
    simp only [jFirst, firstV]
    by_cases h : p (seg l b e) = true
    · rw [if_pos ⟨by omega, h⟩, if_pos h]; exact jFirst_stay p l r e (v + 1) v (by omega)
    · rw [if_neg (fun h2 => h h2.2), if_neg h]; exact jFirst_eq p l r e (v + 1)
theorem jAny_eq (p : Int → Bool) (l : List Int) : ∀ (r : List Int) (b : Int) (v : Nat) (t : Bool), jAny p l b t r = (t || decide (0 ≤ firstV l p b v r))
  | [], b, v, t => by simp [jAny, firstV]
  | e :: r, b, v, t => by
    simp only [jAny, firstV]
    rw [jAny_eq p l r e (v + 1)]
    by_cases h : p (seg l b e) = true <;> simp [h]

set_option maxHeartbeats 2000000 in
theorem loop49 (nl n2 : Bool) (arts : List (Int × Int)) (room floor : Int) (hc : check arts room floor = 0) (ends : List Int) (hlen : ends.length < 1000) (hcut : loopErr arts.length 0 ends = 0) (i : Nat) (may : Int) (must : Int) (thin : Bool) (hok : i ≤ ends.length) (env : Env) (st : St)
    (hg : gcAV true 1 0 (canon env [2, 7, 8, 9, 10, 13, 14, 15]) st = ([(2, .ptr 0 0), (7, I may), (8, I must), (9, B thin), (10, I (beginOf ends i)), (13, sl 1 n2 (ends.map I)), (14, I ends.length), (15, I i)], ⟨[bookCells nl arts room floor], []⟩)) :
    ∃ x_1 en s, lim (headed pure (run L) true [2, 7, 8, 9, 10, 13, 14, 15] lp49_0 1 0) env st = some (x_1, en, s) ∧ (x_1 = .exit 0 ∧ en.get 7 = I (jFirst (fun n => decide (n > room)) (mosts arts) (beginOf ends i) i may (ends.drop i)) ∧ en.get 8 = I (jFirst (fun n => decide (n > room)) (leasts arts) (beginOf ends i) i must (ends.drop i)) ∧ en.get 9 = B (jAny (fun n => decide (n < floor)) (leasts arts) (beginOf ends i) thin (ends.drop i))) := by
  refine loop_wp (α := Nat × Int × Int × Bool) (fun ⟨i, may, must, thin⟩ => ends.length - i) (fun ⟨i, may, must, thin⟩ => i ≤ ends.length) (fun ⟨i, may, must, thin⟩ => ([(2, .ptr 0 0), (7, I may), (8, I must), (9, B thin), (10, I (beginOf ends i)), (13, sl 1 n2 (ends.map I)), (14, I ends.length), (15, I i)], ⟨[bookCells nl arts room floor], []⟩)) (fun ⟨i, may, must, thin⟩ x_1 en s => x_1 = .exit 0 ∧ en.get 7 = I (jFirst (fun n => decide (n > room)) (mosts arts) (beginOf ends i) i may (ends.drop i)) ∧ en.get 8 = I (jFirst (fun n => decide (n > room)) (leasts arts) (beginOf ends i) i must (ends.drop i)) ∧ en.get 9 = B (jAny (fun n => decide (n < floor)) (leasts arts) (beginOf ends i) thin (ends.drop i))) (fun ⟨i, may, must, thin⟩ hok => ?_) ⟨i, may, must, thin⟩ hok env st hg
  simp only at hok
  by_cases q : (i : Int) < (ends.length : Int)
  · have hx := index_ints n2 ends i (by omega)
    have hs := succ64 i (by omega)
    have h1 := ends_asc hcut i (by omega)
    have h2 := begin_nonneg hcut i hok
    have h50 := fun st => c50 nl arts room floor hc (beginOf ends i) (ends[i]'(by omega)) h2 (by omega) h1.2 st
    have h89 := fun st => c89 nl arts room floor hc (beginOf ends i) (ends[i]'(by omega)) h2 (by omega) h1.2 st
    have hd : ends.drop i = ends[i]'(by omega) :: ends.drop (i + 1) := List.drop_eq_getElem_cons (by omega)
    have hb := beginOf_succ ends i (by omega)
    have hok2 : i + 1 ≤ ends.length := by omega
    have hmeas : ends.length - (i + 1) < ends.length - i := by omega
    dsimp only
    rw [hd]
    simp only [jFirst, jAny, decide_eq_true_eq, gt_iff_lt]
    generalize ends[i]'(by omega) = e at *
    have hb3 := hb
    generalize hS : seg (mosts arts) (beginOf ends i) e = S at *
    generalize hT : seg (leasts arts) (beginOf ends i) e = T at *
    rw [← hb]
    have ca : ((may < 0) = False ∧ True = True) ∨ ((may < 0) = True ∧ (room < S) = True) ∨ ((may < 0) = True ∧ (room < S) = False) := by
      by_cases h1 : may < 0 <;> by_cases h2 : room < S <;> simp [h1, h2]
    have cb : ((must < 0) = False ∧ True = True) ∨ ((must < 0) = True ∧ (room < T) = True) ∨ ((must < 0) = True ∧ (room < T) = False) := by
      by_cases h1 : must < 0 <;> by_cases h2 : room < T <;> simp [h1, h2]
    have cc : (thin = true ∧ True = True) ∨ (thin = false ∧ (T < floor) = True) ∨ (thin = false ∧ (T < floor) = False) := by
      by_cases h2 : T < floor <;> cases thin <;> simp [h2]
    rcases ca with ⟨a1, a2⟩ | ⟨a1, a2⟩ | ⟨a1, a2⟩ <;> rcases cb with ⟨b1, b2⟩ | ⟨b1, b2⟩ | ⟨b1, b2⟩ <;> rcases cc with ⟨c1, c2⟩ | ⟨c1, c2⟩ | ⟨c1, c2⟩ <;>
      (rw [c1]
       simp only [go_sem, reduceIte, Nat.reduceEqDiff, Nat.reduceAdd, Nat.reduceSub, Nat.reduceLeDiff, Nat.reduceLT, reduceCtorEq, Int.reduceLT, Int.reduceLE, Int.reduceEq, Int.reduceBEq, Int.reduceSub, Int.reduceAdd, Int.reduceMul, Int.reduceNeg, Int.reduceToNat, Nat.reduceMul, Nat.reduceBEq, index_rsl_if, setm, make_ints, condK_dec, wantK_dec, not_dec, and_dec, or_dec, seqK_ite, seqK_none, blockK_ite, blockK_none, opsK_ite, opsK_none, stepK_ite, stepK_none, bodyK_ite, bodyK_none, resK_ite, resK_none, leaveK_ite, leaveK_none, only_ite, only_none, bind_ite, gives_some, gives_none, gives_ite, then_normal, then_ret, then_exit, then_none, then_ite, Option.bind_none, Bool.not_eq_true', decide_eq_false_iff_not, Bool.and_eq_true, Bool.or_eq_true, Option.some.injEq, Int.not_lt, Int.not_le, lp49_0, q, hx, hs, h50, h89, a1, a2, b1, b2, c2, Bool.true_or, Bool.false_or]
       refine ⟨(i + 1, (if may < 0 ∧ room < S then (i : Int) else may), (if must < 0 ∧ room < T then (i : Int) else must), (thin || decide (T < floor))), by simp only [go_sem, reduceIte, Nat.reduceEqDiff, Nat.reduceAdd, Nat.reduceSub, Nat.reduceLeDiff, Nat.reduceLT, reduceCtorEq, Int.reduceLT, Int.reduceLE, Int.reduceEq, Int.reduceBEq, Int.reduceSub, Int.reduceAdd, Int.reduceMul, Int.reduceNeg, Int.reduceToNat, Nat.reduceMul, Nat.reduceBEq, a1, a2, b1, b2, c1, c2, hb3, Bool.true_or, Bool.false_or], hok2, hmeas, fun x en s hq => ?_⟩
       simp only [a1, a2, b1, b2, c1, c2, true_and, false_and, and_true, and_false, if_true, if_false, Bool.true_or, Bool.false_or, decide_true, decide_false] at hq
       exact hq)
  · have hdn : ends.drop i = [] := List.drop_eq_nil_of_le (by omega)
    simp only [go_sem, reduceIte, Nat.reduceEqDiff, Nat.reduceAdd, Nat.reduceSub, Nat.reduceLeDiff, Nat.reduceLT, reduceCtorEq, Int.reduceLT, Int.reduceLE, Int.reduceEq, Int.reduceBEq, Int.reduceSub, Int.reduceAdd, Int.reduceMul, Int.reduceNeg, Int.reduceToNat, Nat.reduceMul, Nat.reduceBEq, index_rsl_if, setm, make_ints, condK_dec, wantK_dec, not_dec, and_dec, or_dec, seqK_ite, seqK_none, blockK_ite, blockK_none, opsK_ite, opsK_none, stepK_ite, stepK_none, bodyK_ite, bodyK_none, resK_ite, resK_none, leaveK_ite, leaveK_none, only_ite, only_none, bind_ite, gives_some, gives_none, gives_ite, then_normal, then_ret, then_exit, then_none, then_ite, Option.bind_none, Bool.not_eq_true', decide_eq_false_iff_not, Bool.and_eq_true, Bool.or_eq_true, Option.some.injEq, Int.not_lt, Int.not_le, lp49_0, q, hdn, jFirst, jAny]

theorem c49 (nl n2 : Bool) (arts : List (Int × Int)) (room floor : Int) (hc : check arts room floor = 0) (ends : List Int) (hlen : ends.length < 1000) (hcut : loopErr arts.length 0 ends = 0) (st : St) :
    run L 49 [bookAV nl arts room floor, sl 1 n2 (ends.map I)] st = some (.tup [I (firstV (mosts arts) (fun n => decide (n > room)) 0 0 ends), I (firstV (leasts arts) (fun n => decide (n > room)) 0 0 ends), B (decide (0 ≤ firstV (leasts arts) (fun n => decide (n < floor)) 0 0 ends))], st) := by
  rw [run_pure (fn := ir49) rfl rfl]
  simp only [ir49, go_sem, reduceIte, Nat.reduceEqDiff, Nat.reduceAdd, Nat.reduceSub, Nat.reduceLeDiff, Nat.reduceLT, reduceCtorEq, Int.reduceLT, Int.reduceLE, Int.reduceEq, Int.reduceBEq, Int.reduceSub, Int.reduceAdd, Int.reduceMul, Int.reduceNeg, Int.reduceToNat, Nat.reduceMul, Nat.reduceBEq, List.length_map]
  generalize hg : lim (headed pure (run L) true _ lp49_0 _ _) _ _ = o
  obtain ⟨x, en, s, rfl, h2⟩ : ∃ x en s, o = some (x, en, s) ∧ _ := by rw [← hg]; exact loop49 nl n2 arts room floor hc ends hlen hcut 0 (-1) (-1) false (Nat.zero_le _) _ _ (by simp only [go_sem, reduceIte, Nat.reduceEqDiff, Nat.reduceAdd, Nat.reduceSub, Nat.reduceLeDiff, Nat.reduceLT, reduceCtorEq, Int.reduceLT, Int.reduceLE, Int.reduceEq, Int.reduceBEq, Int.reduceSub, Int.reduceAdd, Int.reduceMul, Int.reduceNeg, Int.reduceToNat, Nat.reduceMul, Nat.reduceBEq, beginOf] <;> rfl)
  clear hg
  obtain ⟨rfl, h3, h4, h5⟩ := h2
  have hb0 : beginOf ends 0 = 0 := rfl
  rw [hb0, List.drop_zero, jFirst_eq] at h3 h4
  rw [hb0, List.drop_zero, jAny_eq _ _ _ _ 0] at h5
  simp only [go_sem, reduceIte, Nat.reduceEqDiff, Nat.reduceAdd, Nat.reduceSub, Nat.reduceLeDiff, Nat.reduceLT, reduceCtorEq, Int.reduceLT, Int.reduceLE, Int.reduceEq, Int.reduceBEq, Int.reduceSub, Int.reduceAdd, Int.reduceMul, Int.reduceNeg, Int.reduceToNat, Nat.reduceMul, Nat.reduceBEq, h3, h4, h5, Bool.false_or]
end Go.Proofs.Ytiifibgadipalaa.Vm

namespace Go.Proofs.Ytiifibgadipalaa.Vm
open Go Go.Ev
set_option maxRecDepth 100000
attribute [local go_sem] cells_any storable_any ren1_any shaped_ptr cells_ptr storable_ptr ren1_ptr shaped_eptr cells_eptr storable_eptr ren1_eptr shaped_rsl cells_rsl storable_rsl ren1_rsl shaped_int cells_int storable_int ren1_int shaped_bool cells_bool storable_bool ren1_bool shaped_nils cells_nils storable_nils ren1_nils shaped_lst cells_lst storable_lst shaped_fn cells_fn storable_fn ren1_fn shaped_ifc cells_ifc storable_ifc ren1_ifc shaped_agg cells_agg storable_agg ren1_agg shaped_tup cells_tup storable_tup ren1_tup shaped_nif cells_nif storable_nif ren1_nif ren1_lany ren1_lfull ren1_lown len_lst len_rsl len_nil load_ptr load_eptr isRsl_lst isRsl_nil isRsl_rsl elems_nil elems_lst elems_sl isRsl_sl body_eq bodyK_normal bodyK_ret resK_some leaveK_some only_some code_skip code_exit code_ret code_ops code_seq code_cond code_block seqK_normal seqK_ret seqK_exit condK_true condK_false blockK_normal blockK_ret blockK_exit opsK_some ops_nil ops_cons wantK_true wantK_false stepK_some pubs pub pub_sl params okRef_loc storable_loc shaped_loc cells_loc isRsl_loc elems_loc len_loc untips untip untip_sl wantedAV setElems withO isAgg_v isAgg_agg isAgg_lst isAgg_ptr isAgg_fn isAgg_ifc isAgg_rsl isAgg_sl isAgg_loc List.replicate_succ List.replicate_zero opAV valAV aval avals ofVal Env.get setD canon gcAV renAll renEnv renStore renCells ren1_sl cutSt okEnv okStore okRefs okRef okRef_sl bin_int bin_bool bin_lst bin_rsl bin_nil bin_agg cellsEq cellEq isShift intOp boolOp min_int max_int beq_int bne resAV tupAV leave_eq fin_sl fin_loc fins fin_v fin_lst fin_agg fin_tup fin_fn storeAV readCells putCells cells_sl shaped_sl storable_sl fieldAddrAV len_sl goI List.getElem?_cons_zero List.getElem?_cons_succ List.getElem?_nil Option.bind_some Option.map_some List.length_cons List.length_nil List.all_cons List.all_nil Bool.and_true Bool.true_and Bool.and_false Bool.false_and and_true true_and and_false false_and Bool.false_eq_true List.set_cons_zero List.set_cons_succ List.append_nil List.nil_append List.cons_append List.take_zero List.take_succ_cons List.take_nil List.drop_zero List.drop_succ_cons List.map_cons List.map_nil decide_true decide_false beq_self_eq_true Bool.not_true Bool.not_false or_true true_or or_false false_or Nat.zero_add Nat.add_zero Nat.le_refl Nat.lt_irrefl decide_eq_true_eq eq_self_iff_true not_true_eq_false not_false_eq_true List.getD_cons_zero code_loop Nat.zero_le Nat.not_lt_zero Bool.true_beq Bool.false_beq beq_true beq_false ge_iff_le gt_iff_lt Lpure pus Option.map_none assert_ifc assert_nil idxA_ptr idxA_eptr idxV_agg Int.cast_ofNat_Int Nat.mul_one Nat.zero_mul Int.toNat_natCast Int.toNat_zero setParts withO2 eqnil_sl nenil_sl eqnil_loc nenil_loc map_nil_iff okRefs_ints renCells_ints

/-! ### laws on the cut that is filled -/

theorem seg_single {arts : List (Int × Int)} {i : Nat} (h : i < arts.length) : seg (mosts arts) i ((i + 1 : Nat) : Int) = arts[i].2 := by
  have h2 := seg_sums (·.2) arts i ((i + 1 : Nat) : Int) (by omega) (by omega) (by omega)
  rw [Int.toNat_natCast, Int.toNat_natCast, sumSeg_step _ _ _ _ (by omega) (by omega), sumSeg_end _ _ _ _ (by omega)] at h2
  simp only [mosts, h2]; omega
theorem singles_iff {arts : List (Int × Int)} (r : Int) : (∀ e : Nat, 1 ≤ e → e ≤ arts.length → seg (mosts arts) ((e : Int) - 1) e ≤ r) ↔ ∀ a ∈ arts, a.2 ≤ r := by
  constructor
  · intro h a ha
    obtain ⟨i, hi, rfl⟩ := List.getElem_of_mem ha
    have := h (i + 1) (by omega) (by omega)
    rw [show ((i + 1 : Nat) : Int) - 1 = i by omega, seg_single hi] at this
    exact this
  · intro h e h1 h2
    have := h _ (List.getElem_mem (show e - 1 < arts.length by omega))
    rw [← seg_single (show e - 1 < arts.length by omega)] at this
    rw [show ((e - 1 : Nat) : Int) = (e : Int) - 1 by omega, show ((e - 1 + 1 : Nat) : Int) = e by omega] at this
    exact this
theorem mono_any {arts : List (Int × Int)} {room0 floor : Int} (hc : check arts room0 floor = 0) (room : Int) : Mono arts.length (fun b e => decide (seg (mosts arts) b e ≤ room)) := by
  obtain ⟨_, _, k3, _⟩ := check_zero hc
  intro b b' e' e h1 h2 h3 h4 h5
  simp only [decide_eq_true_eq] at h5 ⊢
  have := seg_mono (l := arts.map (·.2)) (by intro x hx; obtain ⟨a, ha, rfl⟩ := List.mem_map.1 hx; have := k3 a ha; omega) b b' e' e h1 h2 h3 (by simpa using h4)
  simp only [mosts] at h5 ⊢
  omega
theorem filled_some {arts : List (Int × Int)} {room0 floor : Int} (hc : check arts room0 floor = 0) {r : Int} (hs : ∀ a ∈ arts, a.2 ≤ r) :
    lastMin (goods arts.length (fun b e => decide (seg (mosts arts) b e ≤ r)) 0) = some (filled (mosts arts) r) ∧ filled (mosts arts) r ≠ [] := by
  obtain ⟨g1, g2, g3, g4⟩ := mosts_ok hc
  obtain ⟨q, h1, h2⟩ := fill_goods (mosts arts) r arts.length (mono_any hc r) ((singles_iff r).2 hs) arts.length 0 1 [] (by omega) (by omega) (.inl rfl) (by omega)
  have hf : filled (mosts arts) r = q ++ [(arts.length : Int)] := by
    unfold filled
    rw [g2, Nat.add_sub_cancel, h1]
    simp only [List.nil_append]
    congr 2; omega
  rw [hf]
  exact ⟨h2, by simp⟩
end Go.Proofs.Ytiifibgadipalaa.Vm

namespace Go.Proofs.Ytiifibgadipalaa.Vm
open Go Go.Ev
set_option maxRecDepth 100000
attribute [local go_sem] cells_any storable_any ren1_any shaped_ptr cells_ptr storable_ptr ren1_ptr shaped_eptr cells_eptr storable_eptr ren1_eptr shaped_rsl cells_rsl storable_rsl ren1_rsl shaped_int cells_int storable_int ren1_int shaped_bool cells_bool storable_bool ren1_bool shaped_nils cells_nils storable_nils ren1_nils shaped_lst cells_lst storable_lst shaped_fn cells_fn storable_fn ren1_fn shaped_ifc cells_ifc storable_ifc ren1_ifc shaped_agg cells_agg storable_agg ren1_agg shaped_tup cells_tup storable_tup ren1_tup shaped_nif cells_nif storable_nif ren1_nif ren1_lany ren1_lfull ren1_lown len_lst len_rsl len_nil load_ptr load_eptr isRsl_lst isRsl_nil isRsl_rsl elems_nil elems_lst elems_sl isRsl_sl body_eq bodyK_normal bodyK_ret resK_some leaveK_some only_some code_skip code_exit code_ret code_ops code_seq code_cond code_block seqK_normal seqK_ret seqK_exit condK_true condK_false blockK_normal blockK_ret blockK_exit opsK_some ops_nil ops_cons wantK_true wantK_false stepK_some pubs pub pub_sl params okRef_loc storable_loc shaped_loc cells_loc isRsl_loc elems_loc len_loc untips untip untip_sl wantedAV setElems withO isAgg_v isAgg_agg isAgg_lst isAgg_ptr isAgg_fn isAgg_ifc isAgg_rsl isAgg_sl isAgg_loc List.replicate_succ List.replicate_zero opAV valAV aval avals ofVal Env.get setD canon gcAV renAll renEnv renStore renCells ren1_sl cutSt okEnv okStore okRefs okRef okRef_sl bin_int bin_bool bin_lst bin_rsl bin_nil bin_agg cellsEq cellEq isShift intOp boolOp min_int max_int beq_int bne resAV tupAV leave_eq fin_sl fin_loc fins fin_v fin_lst fin_agg fin_tup fin_fn storeAV readCells putCells cells_sl shaped_sl storable_sl fieldAddrAV len_sl goI List.getElem?_cons_zero List.getElem?_cons_succ List.getElem?_nil Option.bind_some Option.map_some List.length_cons List.length_nil List.all_cons List.all_nil Bool.and_true Bool.true_and Bool.and_false Bool.false_and and_true true_and and_false false_and Bool.false_eq_true List.set_cons_zero List.set_cons_succ List.append_nil List.nil_append List.cons_append List.take_zero List.take_succ_cons List.take_nil List.drop_zero List.drop_succ_cons List.map_cons List.map_nil decide_true decide_false beq_self_eq_true Bool.not_true Bool.not_false or_true true_or or_false false_or Nat.zero_add Nat.add_zero Nat.le_refl Nat.lt_irrefl decide_eq_true_eq eq_self_iff_true not_true_eq_false not_false_eq_true List.getD_cons_zero code_loop Nat.zero_le Nat.not_lt_zero Bool.true_beq Bool.false_beq beq_true beq_false ge_iff_le gt_iff_lt Lpure pus Option.map_none assert_ifc assert_nil idxA_ptr idxA_eptr idxV_agg Int.cast_ofNat_Int Nat.mul_one Nat.zero_mul Int.toNat_natCast Int.toNat_zero setParts withO2 eqnil_sl nenil_sl eqnil_loc nenil_loc map_nil_iff okRefs_ints renCells_ints

theorem cells5 : Try.prog.cellsOf 5 = 1 := by kernel_rfl
theorem cells60 : Try.prog.cellsOf 60 = 12 := by kernel_rfl
theorem cells62 : Try.prog.cellsOf 62 = 27 := by kernel_rfl

theorem one_byte {d : Nat} {bs : List AV} (h : Sh Try.prog (d + 1) 5 bs) : ∃ n, bs = [U n] ∧ Byte n := by
  simp only [Sh, Try.underlying5] at h
  obtain ⟨n, h1, h2⟩ := h
  exact ⟨n, h1, bounds_u8 h2⟩
theorem all_bytes : ∀ (bs : List AV), (∀ i, i < bs.length → ∃ n, (bs.drop i).take 1 = [U n] ∧ Byte n) → ∃ zs : List Int, bs = zs.map U ∧ zs.length = bs.length ∧ ∀ n ∈ zs, Byte n
  | [], _ => ⟨[], rfl, rfl, by simp⟩
  | b :: r, h => by
    obtain ⟨n, h1, h2⟩ := h 0 (by simp)
    simp only [List.drop_zero, List.take_succ_cons, List.take_zero, List.cons.injEq, and_true] at h1
    obtain ⟨zs, h3, h4, h5⟩ := all_bytes r fun i hi => by
      obtain ⟨n, q1, q2⟩ := h (i + 1) (by simp; omega)
      exact ⟨n, by simpa using q1, q2⟩
    exact ⟨n :: zs, by simp [h1, ← h3], by simp [h4], by simp; exact ⟨h2, h5⟩⟩
theorem sh_bytes {d : Nat} {bs : List AV} (h : Sh Try.prog (d + 2) 60 bs) : ∃ zs : List Int, bs = zs.map U ∧ zs.length = 12 ∧ ∀ n ∈ zs, Byte n := by
  unfold Sh at h
  simp only [Try.underlying60, cells60, cells5, Nat.mul_one] at h
  obtain ⟨h1, h2⟩ := h
  obtain ⟨zs, h3, h4, h5⟩ := all_bytes bs fun i hi => one_byte (h2 i (by omega))
  exact ⟨zs, h3, by omega, h5⟩

/-- A book by numbers. -/
theorem sh_shelf {a : AV} (h : ShV Try.prog 8 62 a) : ∃ s : Shelf, a = s.av ∧ s.ok := by
  unfold ShV at h
  rw [if_pos (by unfold aggB; rw [Try.underlying62])] at h
  obtain ⟨cs, rfl, hs⟩ := h
  unfold Sh at hs
  simp only [Try.underlying62, cells62] at hs
  obtain ⟨h1, h2⟩ := hs
  have f0 := h2 0 _ rfl
  have f1 := h2 1 _ rfl
  have f2 := h2 2 _ rfl
  have f3 := h2 3 _ rfl
  have f4 := h2 4 _ rfl
  simp only [List.getElem_toArray, List.getElem_cons_zero, List.getElem_cons_succ, cells5, cells60] at f0 f1 f2 f3 f4
  obtain ⟨a, e0, b0⟩ := one_byte f0
  obtain ⟨b, e1, b1⟩ := one_byte f1
  obtain ⟨c, e2, b2⟩ := one_byte f2
  obtain ⟨ls, e3, b3, c3⟩ := sh_bytes f3
  obtain ⟨ms, e4, b4, c4⟩ := sh_bytes f4
  refine ⟨⟨a, b, c, ls, ms⟩, ?_, b0, b1, b2, b3, b4, c3, c4⟩
  have hcs : cs = (cs.drop 0).take 1 ++ ((cs.drop 1).take 1 ++ ((cs.drop 2).take 1 ++ ((cs.drop 3).take 12 ++ (cs.drop 15).take 12))) := by
    have s5 : (cs.drop 15).take 12 = cs.drop 15 := List.take_of_length_le (by simp [h1])
    have s4 : (cs.drop 3).take 12 ++ cs.drop 15 = cs.drop 3 := by
      have := List.take_append_drop 12 (cs.drop 3)
      rw [List.drop_drop] at this
      exact this
    have s3 : (cs.drop 2).take 1 ++ cs.drop 3 = cs.drop 2 := by
      have := List.take_append_drop 1 (cs.drop 2)
      rw [List.drop_drop] at this
      exact this
    have s2 : (cs.drop 1).take 1 ++ cs.drop 2 = cs.drop 1 := by
      have := List.take_append_drop 1 (cs.drop 1)
      rw [List.drop_drop] at this
      exact this
    have s1 : (cs.drop 0).take 1 ++ cs.drop 1 = cs := by
      have := List.take_append_drop 1 cs
      simpa using this
    rw [s5, s4, s3, s2, s1]
  show AV.agg cs = AV.agg (Shelf.cells ⟨a, b, c, ls, ms⟩)
  rw [hcs, e0, e1, e2, e3, e4]
  rfl
end Go.Proofs.Ytiifibgadipalaa.Vm

namespace Go.Proofs.Ytiifibgadipalaa.Vm
open Go Go.Ev
set_option maxRecDepth 100000
attribute [local go_sem] cells_any storable_any ren1_any shaped_ptr cells_ptr storable_ptr ren1_ptr shaped_eptr cells_eptr storable_eptr ren1_eptr shaped_rsl cells_rsl storable_rsl ren1_rsl shaped_int cells_int storable_int ren1_int shaped_bool cells_bool storable_bool ren1_bool shaped_nils cells_nils storable_nils ren1_nils shaped_lst cells_lst storable_lst shaped_fn cells_fn storable_fn ren1_fn shaped_ifc cells_ifc storable_ifc ren1_ifc shaped_agg cells_agg storable_agg ren1_agg shaped_tup cells_tup storable_tup ren1_tup shaped_nif cells_nif storable_nif ren1_nif ren1_lany ren1_lfull ren1_lown len_lst len_rsl len_nil load_ptr load_eptr isRsl_lst isRsl_nil isRsl_rsl elems_nil elems_lst elems_sl isRsl_sl body_eq bodyK_normal bodyK_ret resK_some leaveK_some only_some code_skip code_exit code_ret code_ops code_seq code_cond code_block seqK_normal seqK_ret seqK_exit condK_true condK_false blockK_normal blockK_ret blockK_exit opsK_some ops_nil ops_cons wantK_true wantK_false stepK_some pubs pub pub_sl params okRef_loc storable_loc shaped_loc cells_loc isRsl_loc elems_loc len_loc untips untip untip_sl wantedAV setElems withO isAgg_v isAgg_agg isAgg_lst isAgg_ptr isAgg_fn isAgg_ifc isAgg_rsl isAgg_sl isAgg_loc List.replicate_succ List.replicate_zero opAV valAV aval avals ofVal Env.get setD canon gcAV renAll renEnv renStore renCells ren1_sl cutSt okEnv okStore okRefs okRef okRef_sl bin_int bin_bool bin_lst bin_rsl bin_nil bin_agg cellsEq cellEq isShift intOp boolOp min_int max_int beq_int bne resAV tupAV leave_eq fin_sl fin_loc fins fin_v fin_lst fin_agg fin_tup fin_fn storeAV readCells putCells cells_sl shaped_sl storable_sl fieldAddrAV len_sl goI List.getElem?_cons_zero List.getElem?_cons_succ List.getElem?_nil Option.bind_some Option.map_some List.length_cons List.length_nil List.all_cons List.all_nil Bool.and_true Bool.true_and Bool.and_false Bool.false_and and_true true_and and_false false_and Bool.false_eq_true List.set_cons_zero List.set_cons_succ List.append_nil List.nil_append List.cons_append List.take_zero List.take_succ_cons List.take_nil List.drop_zero List.drop_succ_cons List.map_cons List.map_nil decide_true decide_false beq_self_eq_true Bool.not_true Bool.not_false or_true true_or or_false false_or Nat.zero_add Nat.add_zero Nat.le_refl Nat.lt_irrefl decide_eq_true_eq eq_self_iff_true not_true_eq_false not_false_eq_true List.getD_cons_zero code_loop Nat.zero_le Nat.not_lt_zero Bool.true_beq Bool.false_beq beq_true beq_false ge_iff_le gt_iff_lt Lpure pus Option.map_none assert_ifc assert_nil idxA_ptr idxA_eptr idxV_agg Int.cast_ofNat_Int Nat.mul_one Nat.zero_mul Int.toNat_natCast Int.toNat_zero setParts withO2 eqnil_sl nenil_sl eqnil_loc nenil_loc map_nil_iff okRefs_ints renCells_ints

/-! ### all cuts are tried: 'cuts' with a function of two that are met -/

structure Five where
  c0 : List AV
  c1 : List AV
  c2 : List AV
  c3 : List AV
  c4 : List AV
/-- The store while all cuts of n articles are tried: what is captured, then n, the function, and the closure itself. -/
abbrev trySt (n : Nat) (f : Nat) (fv : List AV) (a : Five) : List (List AV) := [a.c0, a.c1, a.c2, a.c3, a.c4, [I n], [.fn (.func f) [] fv], [.fn (.func 88) [] [.ptr 5 0, .ptr 6 0, .ptr 7 0]]]
/-- What is a list of numbers in a register: nil, or a list. -/
def IsInts (l0 : AV) (l : List Int) : Prop := (l = [] ∧ l0 = .v (.slice none 0 0)) ∨ ∃ g, l0 = .lst g 1 (l.map I)
theorem slice_fullI (g : Tag) (l : List Int) : sliceAV 1 (.lst g 1 (l.map I)) none (some (.v (.int .i64 l.length))) (some (.v (.int .i64 l.length))) = some (.lst .full 1 (l.map I)) := by
  simp only [sliceAV, if_true, natOr, natOf]
  simp [← List.map_take]
theorem slice_nilI : sliceAV 1 (.v (.slice none 0 0)) none (some (.v (.int .i64 0))) (some (.v (.int .i64 0))) = some (.v (.slice none 0 0)) := by
  simp [sliceAV, natOr, natOf]
theorem append_fullI (l : List Int) (x : Int) (s : List (List AV)) (T : List Nat) (hm : l.length + 1 ≤ maxGrow) :
    appendAV 1 (.lst .full 1 (l.map I)) [I x] ⟨s, T⟩ = some (.lst (.own T.length (l.length + 1)) 1 ((l ++ [x]).map I), ⟨s, T ++ [l.length + 1]⟩) := by
  simp [appendAV, hm]
theorem append_nilI (x : Int) (s : List (List AV)) (T : List Nat) :
    appendAV 1 (.v (.slice none 0 0)) [I x] ⟨s, T⟩ = some (.lst (.own T.length 1) 1 [I x], ⟨s, T ++ [1]⟩) := by
  simp [appendAV, maxGrow]
/-- What the function does with one cut. -/
def Each (n f : Nat) (fv : List AV) (P : Five → List (List Int) → Prop) : Prop :=
  ∀ (a : Five) (done : List (List Int)) (l : List Int) (l0 : AV) (T : List Nat), IsInts l0 l → (∃ rest, cutsOf n 0 = done ++ [l] ++ rest) → P a done →
    ∃ a' T', run L f (l0 :: fv) ⟨trySt n f fv a, T⟩ = some (.tup [], ⟨trySt n f fv a', T'⟩) ∧ P a' (done ++ [l])
def TriedAll (n f : Nat) (fv : List AV) (P : Five → List (List Int) → Prop) (b : Nat) (l : List Int) : Prop :=
  ∀ (a : Five) (done : List (List Int)) (l0 : AV) (T : List Nat), IsInts l0 l → (∃ rest, cutsOf n 0 = done ++ (cutsOf n b).map (l ++ ·) ++ rest) → P a done →
    ∃ a' T', run L 88 [l0, I b, .ptr 5 0, .ptr 6 0, .ptr 7 0] ⟨trySt n f fv a, T⟩ = some (.tup [], ⟨trySt n f fv a', T'⟩) ∧ P a' (done ++ (cutsOf n b).map (l ++ ·))

theorem loop88 (n f : Nat) (fv : List AV) (P : Five → List (List Int) → Prop) (hn : n < 1000) (b : Nat) (l : List Int) (l0 : AV) (hl0 : IsInts l0 l) (hlb : l.length ≤ b) (lo hi2 : Nat) (hrec : ∀ e, b < e → e ≤ n → TriedAll n f fv P e (l ++ [(e : Int)])) (e : Nat) (a : Five) (T : List Nat) (done : List (List Int)) (hok : b < e ∧ e ≤ n + 1 ∧ P a done ∧ ∃ rest, cutsOf n 0 = done ++ (laterCuts n e).map (l ++ ·) ++ rest) (env : Env) (st : St)
    (hg : gcAV false lo hi2 (canon env [0, 2, 4, 7]) st = ([(0, l0), (2, .ptr 5 0), (4, .ptr 7 0), (7, I e)], ⟨trySt n f fv a, T⟩)) :
    ∃ x_1 en s, lim (headed pure (run L) false [0, 2, 4, 7] lp88_0 lo hi2) env st = some (x_1, en, s) ∧ (x_1 = .exit 0 ∧ ∃ a' T', s = ⟨trySt n f fv a', T'⟩ ∧ P a' (done ++ (laterCuts n e).map (l ++ ·))) := by
  refine loop_wp (α := Nat × Five × List Nat × List (List Int)) (fun ⟨e, a, T, done⟩ => n + 1 - e) (fun ⟨e, a, T, done⟩ => b < e ∧ e ≤ n + 1 ∧ P a done ∧ ∃ rest, cutsOf n 0 = done ++ (laterCuts n e).map (l ++ ·) ++ rest) (fun ⟨e, a, T, done⟩ => ([(0, l0), (2, .ptr 5 0), (4, .ptr 7 0), (7, I e)], ⟨trySt n f fv a, T⟩)) (fun ⟨e, a, T, done⟩ x_1 en s => x_1 = .exit 0 ∧ ∃ a' T', s = ⟨trySt n f fv a', T'⟩ ∧ P a' (done ++ (laterCuts n e).map (l ++ ·))) (fun ⟨e, a, T, done⟩ hok => ?_) ⟨e, a, T, done⟩ hok env st hg
  simp only at hok
  obtain ⟨h1, h2, h3, rest, h4⟩ := hok
  by_cases q : (e : Int) ≤ (n : Int)
  · have hs := succ64 e (by omega)
    have hmg : l.length + 1 ≤ maxGrow := by unfold maxGrow; omega
    have q1 : n + 1 - (e + 1) < n + 1 - e := by omega
    have hst := laterCuts_step (n := n) (e := e) (by omega)
    have hc : (cutsOf n e).map ((fun c => l ++ c) ∘ ((e : Int) :: ·)) = (cutsOf n e).map ((l ++ [(e : Int)]) ++ ·) := List.map_congr_left fun c _ => by simp
    rw [hst, List.map_append, List.map_map, hc, ← List.append_assoc] at h4
    have h5 : ∃ rest, cutsOf n 0 = done ++ (cutsOf n e).map ((l ++ [(e : Int)]) ++ ·) ++ rest := ⟨_, by rw [h4, List.append_assoc _ _ rest]⟩
    dsimp only
    rw [hst, List.map_append, List.map_map, hc]
    rcases hl0 with ⟨rfl, rfl⟩ | ⟨g, rfl⟩
    · have ha := append_nilI e (trySt n f fv a) T
      obtain ⟨a', T', hr, hP⟩ := hrec e h1 (by omega) a done (.lst (.own T.length 1) 1 [I e]) (T ++ [1]) (.inr ⟨_, rfl⟩) h5 h3
      obtain ⟨a0, a1, a2, a3, a4⟩ := a
      simp only [go_sem, reduceIte, Nat.reduceEqDiff, Nat.reduceAdd, Nat.reduceSub, Nat.reduceLeDiff, Nat.reduceLT, reduceCtorEq, Int.reduceLT, Int.reduceLE, Int.reduceEq, Int.reduceBEq, Int.reduceSub, Int.reduceAdd, Int.reduceMul, Int.reduceNeg, Int.reduceToNat, Nat.reduceMul, Nat.reduceBEq, index_rsl_if, setm, make_ints, condK_dec, wantK_dec, not_dec, and_dec, or_dec, seqK_ite, seqK_none, blockK_ite, blockK_none, opsK_ite, opsK_none, stepK_ite, stepK_none, bodyK_ite, bodyK_none, resK_ite, resK_none, leaveK_ite, leaveK_none, only_ite, only_none, bind_ite, gives_some, gives_none, gives_ite, then_normal, then_ret, then_exit, then_none, then_ite, Option.bind_none, Bool.not_eq_true', decide_eq_false_iff_not, Bool.and_eq_true, Bool.or_eq_true, Option.some.injEq, Int.not_lt, Int.not_le, lp88_0, q, hs, hr, ha, slice_nilI]
      refine ⟨(e + 1, a', T', _), rfl, ⟨by omega, by omega, hP, rest, h4⟩, q1, fun x_1 en s hq => ?_⟩
      rw [← List.append_assoc]
      exact hq
    · have ha := append_fullI l e (trySt n f fv a) T hmg
      have hsf := slice_fullI g l
      obtain ⟨a', T', hr, hP⟩ := hrec e h1 (by omega) a done (.lst (.own T.length (l.length + 1)) 1 ((l ++ [(e : Int)]).map I)) (T ++ [l.length + 1]) (.inr ⟨_, rfl⟩) h5 h3
      generalize hL2 : (l ++ [(e : Int)]).map I = L2 at *
      simp only [go_sem, reduceIte, Nat.reduceEqDiff, Nat.reduceAdd, Nat.reduceSub, Nat.reduceLeDiff, Nat.reduceLT, reduceCtorEq, Int.reduceLT, Int.reduceLE, Int.reduceEq, Int.reduceBEq, Int.reduceSub, Int.reduceAdd, Int.reduceMul, Int.reduceNeg, Int.reduceToNat, Nat.reduceMul, Nat.reduceBEq, index_rsl_if, setm, make_ints, condK_dec, wantK_dec, not_dec, and_dec, or_dec, seqK_ite, seqK_none, blockK_ite, blockK_none, opsK_ite, opsK_none, stepK_ite, stepK_none, bodyK_ite, bodyK_none, resK_ite, resK_none, leaveK_ite, leaveK_none, only_ite, only_none, bind_ite, gives_some, gives_none, gives_ite, then_normal, then_ret, then_exit, then_none, then_ite, Option.bind_none, Bool.not_eq_true', decide_eq_false_iff_not, Bool.and_eq_true, Bool.or_eq_true, Option.some.injEq, Int.not_lt, Int.not_le, lp88_0, q, hs, hr, ha, hsf, List.length_map]
      refine ⟨(e + 1, a', T', _), rfl, ⟨by omega, by omega, hP, rest, h4⟩, q1, fun x_1 en s hq => ?_⟩
      rw [← List.append_assoc]
      exact hq
  · dsimp only
    rw [laterCuts_end (by omega)]
    rcases hl0 with ⟨rfl, rfl⟩ | ⟨g, rfl⟩ <;> (
    simp only [go_sem, reduceIte, Nat.reduceEqDiff, Nat.reduceAdd, Nat.reduceSub, Nat.reduceLeDiff, Nat.reduceLT, reduceCtorEq, Int.reduceLT, Int.reduceLE, Int.reduceEq, Int.reduceBEq, Int.reduceSub, Int.reduceAdd, Int.reduceMul, Int.reduceNeg, Int.reduceToNat, Nat.reduceMul, Nat.reduceBEq, index_rsl_if, setm, make_ints, condK_dec, wantK_dec, not_dec, and_dec, or_dec, seqK_ite, seqK_none, blockK_ite, blockK_none, opsK_ite, opsK_none, stepK_ite, stepK_none, bodyK_ite, bodyK_none, resK_ite, resK_none, leaveK_ite, leaveK_none, only_ite, only_none, bind_ite, gives_some, gives_none, gives_ite, then_normal, then_ret, then_exit, then_none, then_ite, Option.bind_none, Bool.not_eq_true', decide_eq_false_iff_not, Bool.and_eq_true, Bool.or_eq_true, Option.some.injEq, Int.not_lt, Int.not_le, lp88_0, q]
    exact ⟨a, T, rfl, by simpa using h3⟩)

theorem c88 (n f : Nat) (fv : List AV) (P : Five → List (List Int) → Prop) (hn : n < 1000) (hpf : pure f = false) (hE : Each n f fv P) : ∀ (m b : Nat), n - b = m → b ≤ n → ∀ l : List Int, l.length ≤ b → TriedAll n f fv P b l := by
  intro m
  induction m using Nat.strongRecOn with
  | ind m ih =>
    intro b hm hb l hlb a done l0 T hl0 hpre hP
    rw [run_shared (fn := ir88) rfl rfl]
    by_cases q : b = n
    · subst q
      have hc : (cutsOf b b).map (l ++ ·) = [l] := by rw [cutsOf_end (Nat.le_refl _)]; simp
      rw [hc] at hpre ⊢
      obtain ⟨a', T', hr, hP'⟩ := hE a done l l0 T hl0 hpre hP
      obtain ⟨a0, a1, a2, a3, a4⟩ := a
      rcases hl0 with ⟨rfl, rfl⟩ | ⟨g, rfl⟩ <;> (
      simp only [ir88, go_sem, reduceIte, Nat.reduceEqDiff, Nat.reduceAdd, Nat.reduceSub, Nat.reduceLeDiff, Nat.reduceLT, reduceCtorEq, Int.reduceLT, Int.reduceLE, Int.reduceEq, Int.reduceBEq, Int.reduceSub, Int.reduceAdd, Int.reduceMul, Int.reduceNeg, Int.reduceToNat, Nat.reduceMul, Nat.reduceBEq, hpf, hr]
      exact ⟨a', T', rfl, hP'⟩)
    · have q' : ((b : Int) = (n : Int)) = False := eq_false (by omega)
      have hs := succ64 b (by omega)
      have hrec : ∀ e, b < e → e ≤ n → TriedAll n f fv P e (l ++ [(e : Int)]) := fun e h1 h2 => ih (n - e) (by omega) e rfl h2 (l ++ [(e : Int)]) (by simp; omega)
      rw [← laterCuts_eq (show b < n by omega)] at hpre ⊢
      have hl0' := hl0
      rcases hl0' with ⟨rfl, rfl⟩ | ⟨g, rfl⟩ <;> (
      simp only [ir88, go_sem, reduceIte, Nat.reduceEqDiff, Nat.reduceAdd, Nat.reduceSub, Nat.reduceLeDiff, Nat.reduceLT, reduceCtorEq, Int.reduceLT, Int.reduceLE, Int.reduceEq, Int.reduceBEq, Int.reduceSub, Int.reduceAdd, Int.reduceMul, Int.reduceNeg, Int.reduceToNat, Nat.reduceMul, Nat.reduceBEq, q', hs]
      generalize hg : lim (headed pure (run L) false _ lp88_0 _ _) _ _ = o
      obtain ⟨x, en, s, rfl, h2⟩ : ∃ x en s, o = some (x, en, s) ∧ _ := by rw [← hg]; exact loop88 n f fv P hn b _ _ hl0 hlb _ _ hrec (b + 1) a T done ⟨by omega, by omega, hP, hpre⟩ _ _ (by simp only [go_sem, reduceIte, Nat.reduceEqDiff, Nat.reduceAdd, Nat.reduceSub, Nat.reduceLeDiff, Nat.reduceLT, reduceCtorEq, Int.reduceLT, Int.reduceLE, Int.reduceEq, Int.reduceBEq, Int.reduceSub, Int.reduceAdd, Int.reduceMul, Int.reduceNeg, Int.reduceToNat, Nat.reduceMul, Nat.reduceBEq] <;> rfl)
      clear hg
      obtain ⟨rfl, a', T', h5, hP'⟩ := h2
      subst h5
      simp only [go_sem, reduceIte, Nat.reduceEqDiff, Nat.reduceAdd, Nat.reduceSub, Nat.reduceLeDiff, Nat.reduceLT, reduceCtorEq, Int.reduceLT, Int.reduceLE, Int.reduceEq, Int.reduceBEq, Int.reduceSub, Int.reduceAdd, Int.reduceMul, Int.reduceNeg, Int.reduceToNat, Nat.reduceMul, Nat.reduceBEq]
      exact ⟨a', T', rfl, hP'⟩)

theorem c47 (n f : Nat) (fv : List AV) (P : Five → List (List Int) → Prop) (hn : n < 1000) (hpf : pure f = false) (hE : Each n f fv P) (a : Five) (T : List Nat) (hP : P a []) :
    ∃ a' T', run L 47 [I n, .fn (.func f) [] fv] ⟨[a.c0, a.c1, a.c2, a.c3, a.c4], T⟩ = some (.tup [], ⟨trySt n f fv a', T'⟩) ∧ P a' (cutsOf n 0) := by
  obtain ⟨a', T', h, hP'⟩ := c88 n f fv P hn hpf hE (n - 0) 0 rfl (Nat.zero_le _) [] (Nat.le_refl _) a [] (.v (.slice none 0 0)) T (.inl ⟨rfl, rfl⟩) ⟨[], by simp⟩ hP
  rw [run_shared (fn := ir47) rfl rfl]
  simp only [Int.natCast_zero] at h
  simp only [ir47, go_sem, reduceIte, Nat.reduceEqDiff, Nat.reduceAdd, Nat.reduceSub, Nat.reduceLeDiff, Nat.reduceLT, reduceCtorEq, Int.reduceLT, Int.reduceLE, Int.reduceEq, Int.reduceBEq, Int.reduceSub, Int.reduceAdd, Int.reduceMul, Int.reduceNeg, Int.reduceToNat, Nat.reduceMul, Nat.reduceBEq, h]
  exact ⟨a', T', rfl, by simpa using hP'⟩
end Go.Proofs.Ytiifibgadipalaa.Vm

namespace Go.Proofs.Ytiifibgadipalaa.Vm
open Go Go.Ev
set_option maxRecDepth 100000
attribute [local go_sem] cells_any storable_any ren1_any shaped_ptr cells_ptr storable_ptr ren1_ptr shaped_eptr cells_eptr storable_eptr ren1_eptr shaped_rsl cells_rsl storable_rsl ren1_rsl shaped_int cells_int storable_int ren1_int shaped_bool cells_bool storable_bool ren1_bool shaped_nils cells_nils storable_nils ren1_nils shaped_lst cells_lst storable_lst shaped_fn cells_fn storable_fn ren1_fn shaped_ifc cells_ifc storable_ifc ren1_ifc shaped_agg cells_agg storable_agg ren1_agg shaped_tup cells_tup storable_tup ren1_tup shaped_nif cells_nif storable_nif ren1_nif ren1_lany ren1_lfull ren1_lown len_lst len_rsl len_nil load_ptr load_eptr isRsl_lst isRsl_nil isRsl_rsl elems_nil elems_lst elems_sl isRsl_sl body_eq bodyK_normal bodyK_ret resK_some leaveK_some only_some code_skip code_exit code_ret code_ops code_seq code_cond code_block seqK_normal seqK_ret seqK_exit condK_true condK_false blockK_normal blockK_ret blockK_exit opsK_some ops_nil ops_cons wantK_true wantK_false stepK_some pubs pub pub_sl params okRef_loc storable_loc shaped_loc cells_loc isRsl_loc elems_loc len_loc untips untip untip_sl wantedAV setElems withO isAgg_v isAgg_agg isAgg_lst isAgg_ptr isAgg_fn isAgg_ifc isAgg_rsl isAgg_sl isAgg_loc List.replicate_succ List.replicate_zero opAV valAV aval avals ofVal Env.get setD canon gcAV renAll renEnv renStore renCells ren1_sl cutSt okEnv okStore okRefs okRef okRef_sl bin_int bin_bool bin_lst bin_rsl bin_nil bin_agg cellsEq cellEq isShift intOp boolOp min_int max_int beq_int bne resAV tupAV leave_eq fin_sl fin_loc fins fin_v fin_lst fin_agg fin_tup fin_fn storeAV readCells putCells cells_sl shaped_sl storable_sl fieldAddrAV len_sl goI List.getElem?_cons_zero List.getElem?_cons_succ List.getElem?_nil Option.bind_some Option.map_some List.length_cons List.length_nil List.all_cons List.all_nil Bool.and_true Bool.true_and Bool.and_false Bool.false_and and_true true_and and_false false_and Bool.false_eq_true List.set_cons_zero List.set_cons_succ List.append_nil List.nil_append List.cons_append List.take_zero List.take_succ_cons List.take_nil List.drop_zero List.drop_succ_cons List.map_cons List.map_nil decide_true decide_false beq_self_eq_true Bool.not_true Bool.not_false or_true true_or or_false false_or Nat.zero_add Nat.add_zero Nat.le_refl Nat.lt_irrefl decide_eq_true_eq eq_self_iff_true not_true_eq_false not_false_eq_true List.getD_cons_zero code_loop Nat.zero_le Nat.not_lt_zero Bool.true_beq Bool.false_beq beq_true beq_false ge_iff_le gt_iff_lt Lpure pus Option.map_none assert_ifc assert_nil idxA_ptr idxA_eptr idxV_agg Int.cast_ofNat_Int Nat.mul_one Nat.zero_mul Int.toNat_natCast Int.toNat_zero setParts withO2 eqnil_sl nenil_sl eqnil_loc nenil_loc map_nil_iff okRefs_ints renCells_ints

theorem goodP_ok (arts : List (Int × Int)) (room floor : Int) (safe : Bool) (c : List Int) :
    okC (goodP arts room floor safe) 0 c = (decide (firstV (mosts arts) (fun n => decide (n > room)) 0 0 c < 0) && (!safe || decide (firstV (leasts arts) (fun n => decide (n < floor)) 0 0 c < 0))) := by
  have h1 : okC (fun b e => decide (seg (mosts arts) b e ≤ room)) 0 c = decide (firstV (mosts arts) (fun n => decide (n > room)) 0 0 c < 0) := by
    rw [Bool.eq_iff_iff, decide_eq_true_eq, firstV_neg, okC_congr (q := fun b e => !decide (seg (mosts arts) b e > room)) (fun b e => by rw [Bool.eq_iff_iff]; simp)]
  have h2 : okC (fun b e => decide (floor ≤ seg (leasts arts) b e)) 0 c = decide (firstV (leasts arts) (fun n => decide (n < floor)) 0 0 c < 0) := by
    rw [Bool.eq_iff_iff, decide_eq_true_eq, firstV_neg, okC_congr (q := fun b e => !decide (seg (leasts arts) b e < floor)) (fun b e => by rw [Bool.eq_iff_iff]; simp)]
  rw [← h1, ← h2]
  cases safe with
  | true => rw [okC_congr (q := fun b e => decide (seg (mosts arts) b e ≤ room) && decide (floor ≤ seg (leasts arts) b e)) (fun b e => by simp [goodP]), okC_and]; simp
  | false => rw [okC_congr (q := fun b e => decide (seg (mosts arts) b e ≤ room)) (fun b e => by simp [goodP])]; simp

theorem c49l (g : Tag) (nl : Bool) (arts : List (Int × Int)) (room floor : Int) (hc : check arts room floor = 0) (ends : List Int) (hlen : ends.length < 1000) (hcut : loopErr arts.length 0 ends = 0) (st : St) :
    run L 49 [bookAV nl arts room floor, .lst g 1 (ends.map I)] st = some (.tup [I (firstV (mosts arts) (fun n => decide (n > room)) 0 0 ends), I (firstV (leasts arts) (fun n => decide (n > room)) 0 0 ends), B (decide (0 ≤ firstV (leasts arts) (fun n => decide (n < floor)) 0 0 ends))], st) := by
  have h := c49 nl false arts room floor hc ends hlen hcut st
  rw [run_pure (fn := ir49) rfl rfl] at h ⊢
  rw [← sl_false] at h
  exact h

def goodsOf (arts : List (Int × Int)) (room floor : Int) (safe : Bool) (done : List (List Int)) : List (List Int) := done.filter (okC (goodP arts room floor safe) 0)
def bestIs : List (List Int) → List AV → Prop
  | [], c => c = [.v (.slice none 0 0)]
  | x :: r, c => ∃ t, c = [.lst t 1 ((pickLt x r).map I)]
def safeP (s0 : Shelf) (arts : List (Int × Int)) (room floor : Int) (a : Five) (done : List (List Int)) : Prop :=
  a.c0 = s0.cells ∧ a.c1 = bookCells true arts room floor ∧ a.c2 = [I (goodsOf arts room floor true done).length] ∧ a.c3 = [I (goodsOf arts room floor false done).length] ∧ bestIs (goodsOf arts room floor true done) a.c4
abbrev caps51 : List AV := [.ptr 1 0, .ptr 3 0, .ptr 2 0, .ptr 4 0]

theorem pickLt_snoc (x : List Int) (r : List (List Int)) (l : List Int) : pickLt x (r ++ [l]) = if l.length < (pickLt x r).length then l else pickLt x r := by
  unfold pickLt; rw [List.foldl_append]; rfl

theorem each51 (s0 : Shelf) (arts : List (Int × Int)) (room floor : Int) (hck : check arts room floor = 0) (hlen : arts.length ≤ 12) : Each arts.length 51 caps51 (safeP s0 arts room floor) := by
  intro a done l l0 T hl0 hpre hP
  obtain ⟨rest, hpre⟩ := hpre
  obtain ⟨a0, a1, a2, a3, a4⟩ := a
  obtain ⟨h0, h1, h2, h3, hb⟩ := hP
  simp only at h0 h1 h2 h3 hb
  subst h0 h1 h2 h3
  obtain ⟨g1, g2, g3, g4⟩ := mosts_ok hck
  have hmem : l ∈ cutsOf arts.length 0 := by rw [hpre]; simp
  obtain ⟨e1, e2⟩ := cuts_ok arts.length (arts.length - 0) 0 rfl (Nat.zero_le _) l hmem
  have hne : l ≠ [] := by
    intro h; subst h
    simp only [endOf] at e2
    obtain ⟨k1, _⟩ := check_zero hck
    omega
  have hl1000 : l.length < 1000 := cut_len hlen hmem
  have hdl : done.length < 5000 := by
    have h1 := (cutsOf_len arts.length 12 0 (by omega)).1
    rw [hpre] at h1
    simp only [List.length_append, List.length_cons, List.length_nil] at h1
    omega
  have hc1 : (goodsOf arts room floor true done).length ≤ done.length := List.length_filter_le _ _
  have hc2 : (goodsOf arts room floor false done).length ≤ done.length := List.length_filter_le _ _
  have w1 := succ64 (goodsOf arts room floor true done).length (by omega)
  have w2 := succ64 (goodsOf arts room floor false done).length (by omega)
  have hg : ∀ safe, goodsOf arts room floor safe (done ++ [l]) = goodsOf arts room floor safe done ++ (if okC (goodP arts room floor safe) 0 l = true then [l] else []) := by
    intro safe; simp only [goodsOf, List.filter_append, List.filter_cons, List.filter_nil]
  have hg1 := hg true
  have hg2 := hg false
  clear hg
  have ok1 := goodP_ok arts room floor true l
  have ok2 := goodP_ok arts room floor false l
  rcases hl0 with ⟨hl, rfl⟩ | ⟨g, rfl⟩
  · exact absurd hl hne
  have h49 := fun st => c49l g true arts room floor hck l hl1000 e1 st
  rw [run_shared (fn := ir51) rfl rfl]
  generalize firstV (mosts arts) (fun n => decide (n > room)) 0 0 l = v1 at *
  generalize firstV (leasts arts) (fun n => decide (n < floor)) 0 0 l = v2 at *
  generalize goodsOf arts room floor true done = G1 at *
  generalize goodsOf arts room floor false done = G2 at *
  by_cases p1 : 0 ≤ v1
  · have z : (v1 < 0) = False := eq_false (by omega)
    simp only [z, decide_false, Bool.false_and] at ok1 ok2
    refine ⟨⟨_, _, _, _, _⟩, T, by simp only [ir51, go_sem, reduceIte, Nat.reduceEqDiff, Nat.reduceAdd, Nat.reduceSub, Nat.reduceLeDiff, Nat.reduceLT, reduceCtorEq, Int.reduceLT, Int.reduceLE, Int.reduceEq, Int.reduceBEq, Int.reduceSub, Int.reduceAdd, Int.reduceMul, Int.reduceNeg, Int.reduceToNat, Nat.reduceMul, Nat.reduceBEq, h49, p1]; rfl, rfl, rfl, ?_, ?_, ?_⟩
    · rw [hg1, ok1]; simp
    · rw [hg2, ok2]; simp
    · rw [hg1, ok1]; simpa using hb
  · have z : (v1 < 0) = True := eq_true (by omega)
    by_cases p2 : 0 ≤ v2
    · have z2 : (v2 < 0) = False := eq_false (by omega)
      simp only [z, z2, decide_true, decide_false, Bool.not_true, Bool.not_false, Bool.or_false, Bool.true_or, Bool.and_false, Bool.and_true, Bool.false_or] at ok1 ok2
      refine ⟨⟨_, _, _, _, _⟩, T, by simp only [ir51, go_sem, reduceIte, Nat.reduceEqDiff, Nat.reduceAdd, Nat.reduceSub, Nat.reduceLeDiff, Nat.reduceLT, reduceCtorEq, Int.reduceLT, Int.reduceLE, Int.reduceEq, Int.reduceBEq, Int.reduceSub, Int.reduceAdd, Int.reduceMul, Int.reduceNeg, Int.reduceToNat, Nat.reduceMul, Nat.reduceBEq, h49, p1, p2, w2]; rfl, rfl, rfl, ?_, ?_, ?_⟩
      · rw [hg1, ok1]; simp
      · rw [hg2, ok2]; simp
      · rw [hg1, ok1]; simpa using hb
    · have z2 : (v2 < 0) = True := eq_true (by omega)
      simp only [z, z2, decide_true, Bool.not_true, Bool.not_false, Bool.or_true, Bool.true_or, Bool.and_true, Bool.false_or] at ok1 ok2
      cases G1 with
      | nil =>
        simp only [bestIs] at hb
        subst hb
        have w1 := wrap64 1 (by omega) (by omega)
        refine ⟨⟨_, _, _, _, _⟩, T, by simp only [ir51, go_sem, reduceIte, Nat.reduceEqDiff, Nat.reduceAdd, Nat.reduceSub, Nat.reduceLeDiff, Nat.reduceLT, reduceCtorEq, Int.reduceLT, Int.reduceLE, Int.reduceEq, Int.reduceBEq, Int.reduceSub, Int.reduceAdd, Int.reduceMul, Int.reduceNeg, Int.reduceToNat, Nat.reduceMul, Nat.reduceBEq, h49, p1, p2, w1, w2, List.length_nil, Int.natCast_zero]; rfl, rfl, rfl, ?_, ?_, ?_⟩
        · rw [hg1, ok1]; simp
        · rw [hg2, ok2]; simp
        · rw [hg1, ok1]; exact ⟨_, rfl⟩
      | cons x r =>
        obtain ⟨t, hb⟩ := hb
        subst hb
        generalize hGL : (x :: r).length = GL at *
        by_cases p3 : l.length < (pickLt x r).length
        · have p3' : ((l.length : Int) < ((pickLt x r).length : Int)) = True := eq_true (by omega)
          refine ⟨⟨_, _, _, _, _⟩, T, by simp only [ir51, go_sem, reduceIte, Nat.reduceEqDiff, Nat.reduceAdd, Nat.reduceSub, Nat.reduceLeDiff, Nat.reduceLT, reduceCtorEq, Int.reduceLT, Int.reduceLE, Int.reduceEq, Int.reduceBEq, Int.reduceSub, Int.reduceAdd, Int.reduceMul, Int.reduceNeg, Int.reduceToNat, Nat.reduceMul, Nat.reduceBEq, h49, p1, p2, p3', w1, w2, List.length_map]; rfl, rfl, rfl, ?_, ?_, ?_⟩
          · rw [hg1, ok1]; simp [← hGL]
          · rw [hg2, ok2]; simp
          · rw [hg1, ok1]; exact ⟨g, by show _ = [AV.lst g 1 ((pickLt x (r ++ [l])).map I)]; rw [pickLt_snoc, if_pos p3]⟩
        · have p3' : ((l.length : Int) < ((pickLt x r).length : Int)) = False := eq_false (by omega)
          refine ⟨⟨_, _, _, _, _⟩, T, by simp only [ir51, go_sem, reduceIte, Nat.reduceEqDiff, Nat.reduceAdd, Nat.reduceSub, Nat.reduceLeDiff, Nat.reduceLT, reduceCtorEq, Int.reduceLT, Int.reduceLE, Int.reduceEq, Int.reduceBEq, Int.reduceSub, Int.reduceAdd, Int.reduceMul, Int.reduceNeg, Int.reduceToNat, Nat.reduceMul, Nat.reduceBEq, h49, p1, p2, p3', w1, w2, List.length_map]; rfl, rfl, rfl, ?_, ?_, ?_⟩
          · rw [hg1, ok1]; simp [← hGL]
          · rw [hg2, ok2]; simp
          · rw [hg1, ok1]; exact ⟨t, by show _ = [AV.lst t 1 ((pickLt x (r ++ [l])).map I)]; rw [pickLt_snoc, if_neg p3]⟩
end Go.Proofs.Ytiifibgadipalaa.Vm

namespace Go.Proofs.Ytiifibgadipalaa.Vm
open Go Go.Ev
set_option maxRecDepth 100000
attribute [local go_sem] cells_any storable_any ren1_any shaped_ptr cells_ptr storable_ptr ren1_ptr shaped_eptr cells_eptr storable_eptr ren1_eptr shaped_rsl cells_rsl storable_rsl ren1_rsl shaped_int cells_int storable_int ren1_int shaped_bool cells_bool storable_bool ren1_bool shaped_nils cells_nils storable_nils ren1_nils shaped_lst cells_lst storable_lst shaped_fn cells_fn storable_fn ren1_fn shaped_ifc cells_ifc storable_ifc ren1_ifc shaped_agg cells_agg storable_agg ren1_agg shaped_tup cells_tup storable_tup ren1_tup shaped_nif cells_nif storable_nif ren1_nif ren1_lany ren1_lfull ren1_lown len_lst len_rsl len_nil load_ptr load_eptr isRsl_lst isRsl_nil isRsl_rsl elems_nil elems_lst elems_sl isRsl_sl body_eq bodyK_normal bodyK_ret resK_some leaveK_some only_some code_skip code_exit code_ret code_ops code_seq code_cond code_block seqK_normal seqK_ret seqK_exit condK_true condK_false blockK_normal blockK_ret blockK_exit opsK_some ops_nil ops_cons wantK_true wantK_false stepK_some pubs pub pub_sl params okRef_loc storable_loc shaped_loc cells_loc isRsl_loc elems_loc len_loc untips untip untip_sl wantedAV setElems withO isAgg_v isAgg_agg isAgg_lst isAgg_ptr isAgg_fn isAgg_ifc isAgg_rsl isAgg_sl isAgg_loc List.replicate_succ List.replicate_zero opAV valAV aval avals ofVal Env.get setD canon gcAV renAll renEnv renStore renCells ren1_sl cutSt okEnv okStore okRefs okRef okRef_sl bin_int bin_bool bin_lst bin_rsl bin_nil bin_agg cellsEq cellEq isShift intOp boolOp min_int max_int beq_int bne resAV tupAV leave_eq fin_sl fin_loc fins fin_v fin_lst fin_agg fin_tup fin_fn storeAV readCells putCells cells_sl shaped_sl storable_sl fieldAddrAV len_sl goI List.getElem?_cons_zero List.getElem?_cons_succ List.getElem?_nil Option.bind_some Option.map_some List.length_cons List.length_nil List.all_cons List.all_nil Bool.and_true Bool.true_and Bool.and_false Bool.false_and and_true true_and and_false false_and Bool.false_eq_true List.set_cons_zero List.set_cons_succ List.append_nil List.nil_append List.cons_append List.take_zero List.take_succ_cons List.take_nil List.drop_zero List.drop_succ_cons List.map_cons List.map_nil decide_true decide_false beq_self_eq_true Bool.not_true Bool.not_false or_true true_or or_false false_or Nat.zero_add Nat.add_zero Nat.le_refl Nat.lt_irrefl decide_eq_true_eq eq_self_iff_true not_true_eq_false not_false_eq_true List.getD_cons_zero code_loop Nat.zero_le Nat.not_lt_zero Bool.true_beq Bool.false_beq beq_true beq_false ge_iff_le gt_iff_lt Lpure pus Option.map_none assert_ifc assert_nil idxA_ptr idxA_eptr idxV_agg Int.cast_ofNat_Int Nat.mul_one Nat.zero_mul Int.toNat_natCast Int.toNat_zero setParts withO2 eqnil_sl nenil_sl eqnil_loc nenil_loc map_nil_iff okRefs_ints renCells_ints

theorem firstMin_mem : ∀ {l : List (List Int)} {y : List Int}, firstMin l = some y → y ∈ l ∧ ∀ z ∈ l, y.length ≤ z.length
  | [], y, h => by simp [firstMin] at h
  | x :: r, y, h => by
    simp only [firstMin] at h
    split at h
    · next hr =>
      rw [firstMin_none] at hr
      simp only [Option.some.injEq] at h
      subst hr; subst h
      simp
    · next w hw =>
      obtain ⟨h1, h2⟩ := firstMin_mem hw
      split at h
      · next hlt =>
        simp only [Option.some.injEq] at h
        subst h
        refine ⟨by simp [h1], fun z hz => ?_⟩
        rcases List.mem_cons.1 hz with rfl | hz
        · omega
        · exact h2 z hz
      · next hlt =>
        simp only [Option.some.injEq] at h
        subst h
        refine ⟨by simp, fun z hz => ?_⟩
        rcases List.mem_cons.1 hz with rfl | hz
        · exact Nat.le_refl _
        · have := h2 z hz; omega

/-- With a floor of a line at most each volume is thick enough. -/
theorem safe_all {arts : List (Int × Int)} {room0 floor0 : Int} (hc : check arts room0 floor0 = 0) (room floor : Int) (hf : floor ≤ 1) :
    ∀ (c : List Int) (b : Nat), loopErr arts.length b c = 0 → okC (goodP arts room floor true) b c = okC (goodP arts room floor false) b c
  | [], _, _ => rfl
  | e :: r, b, h => by
    obtain ⟨q1, q2, q3, q4⟩ := loopErr_cons h
    obtain ⟨e', rfl⟩ : ∃ e' : Nat, e = e' := ⟨e.toNat, by omega⟩
    have hseg : 1 ≤ seg (leasts arts) b e' := by
      have h1 := seg_sums (·.1) arts b e' (by omega) (by omega) (by omega)
      unfold leasts
      rw [h1]
      obtain ⟨_, _, k3, _⟩ := check_zero hc
      unfold sumSeg
      simp only [Int.toNat_natCast]
      have hd : (arts.take e').drop b = arts[b]'(by omega) :: (arts.take e').drop (b + 1) := by
        rw [List.drop_eq_getElem_cons (by simp; omega)]; simp
      rw [hd, List.map_cons, List.sum_cons]
      have h2 := k3 _ (List.getElem_mem (show b < arts.length by omega))
      have h3 : ∀ l : List (Int × Int), (∀ a ∈ l, 0 ≤ a.1) → 0 ≤ (l.map (·.1)).sum := by
        intro l
        induction l with
        | nil => intro _; simp
        | cons x t ih => intro h; have := ih fun a ha => h a (by simp [ha]); have := h x (by simp); simp only [List.map_cons, List.sum_cons]; omega
      have h4 := h3 ((arts.take e').drop (b + 1)) fun a ha => by have := k3 a (List.mem_of_mem_take (List.mem_of_mem_drop ha)); omega
      omega
    simp only [okC]
    rw [safe_all hc room floor hf r e' q4]
    have : goodP arts room floor true b e' = goodP arts room floor false b e' := by
      unfold goodP
      rw [decide_eq_true (show floor ≤ seg (leasts arts) b e' by omega)]
      simp
    rw [this]
theorem goodL_safe {arts : List (Int × Int)} {room0 floor0 : Int} (hc : check arts room0 floor0 = 0) (room floor : Int) (hf : floor ≤ 1) : goodL arts room floor true = goodL arts room floor false := by
  unfold goodL
  refine List.filter_congr fun c h => ?_
  have := (cuts_ok arts.length arts.length 0 rfl (by omega) c h).1
  exact safe_all hc room floor hf c 0 this
theorem goodL_floor (arts : List (Int × Int)) (room f1 f2 : Int) : goodL arts room f1 false = goodL arts room f2 false := by
  unfold goodL
  refine List.filter_congr fun c _ => okC_congr (fun b e => by simp [goodP]) 0 c

theorem check_floor {arts : List (Int × Int)} {room floor : Int} (hc : check arts room floor = 0) (f : Int) (h1 : 0 ≤ f) (h2 : f ≤ room) : check arts room f = 0 := by
  unfold check at hc ⊢
  split at hc
  · omega
  · next h3 =>
    rw [if_neg h3]
    split at hc
    · omega
    · next h4 =>
      rw [if_neg h4]
      split at hc
      · next h5 => rw [if_pos h5]; split at hc; · omega
                   · next h6 => rw [if_neg (by omega)]
      · next h5 => exact absurd hc h5

theorem c35b {c0 : AV} (n1 : Bool) (a b : List Int) (hl : a.length < 1000000) (hb : pub c0 = sl 1 true (b.map I) ∨ pub c0 = sl 1 false (b.map I)) (st : St) :
    run L 35 [sl 1 n1 (a.map I), c0] st = some (B (decide (a = b)), st) := by
  rcases hb with hb | hb
  · rw [← c35 n1 true a b hl st]
    exact run_args (fn := ir35) rfl rfl st (by simp only [pubs, pub_sl, hb])
  · rw [← c35 n1 false a b hl st]
    exact run_args (fn := ir35) rfl rfl st (by simp only [pubs, pub_sl, hb])

theorem c9 (s0 : Shelf) (hs : s0.ok) (st : St) : run L 9 [s0.av] st = some (B true, st) := by
  rw [run_pure (fn := ir9) rfl rfl]
  have h45 := fun st => c45 s0 hs 9 10 (by omega) (by omega) (by omega) (by omega) st
  have hck := made_check (s := s0) (many := 9) (lines := 10) (by omega) (by omega) (by omega) (by omega)
  obtain ⟨_, _, hsing, k1, k2, k3, k4⟩ := made_ok (s := s0) (many := 9) (lines := 10) (by omega) (by omega) (by omega) (by omega)
  generalize madeArts s0 9 10 = arts at *
  generalize madeRoom s0 9 10 = room at *
  generalize madeFloor s0 9 10 = floor at *
  obtain ⟨g1, g2, g3, g4⟩ := mosts_ok hck
  obtain ⟨a', T', h47, hP⟩ := c47 arts.length 51 caps51 (safeP s0 arts room floor) (by omega) rfl (each51 s0 arts room floor hck (by omega))
    ⟨s0.cells, bookCells true arts room floor, [I 0], [I 0], [.v (.slice none 0 0)]⟩ [] ⟨rfl, rfl, rfl, rfl, rfl⟩
  obtain ⟨a0, a1, a2, a3, a4⟩ := a'
  obtain ⟨p0, p1, p2, p3, p4⟩ := hP
  simp only at p0 p1 p2 p3 p4
  subst p0 p1 p2 p3
  have hgt : goodsOf arts room floor true (cutsOf arts.length 0) = goodL arts room floor true := rfl
  have hgf : goodsOf arts room floor false (cutsOf arts.length 0) = goodL arts room floor false := rfl
  rw [hgt] at p4 h47
  rw [hgf] at h47
  -- what the program answers
  have h41 := fun st => c41 true arts room floor st
  have h43 := fun st => c43 true arts room floor st
  rw [cut_eq] at h41
  rw [count_eq] at h43
  have m2 := mod_range floor 2 (by omega)
  have hck2 := check_floor hck (floor % 2) (by omega) (by omega)
  have h41x := fun st => c41 true arts room (floor % 2) st
  have h43x := fun st => c43 true arts room (floor % 2) st
  have h31x := fun st => c31 true arts room (floor % 2) st
  rw [cut_eq] at h41x
  rw [count_eq] at h43x
  have hsafe := goodL_safe hck room (floor % 2) (by omega)
  rw [goodL_floor arts room (floor % 2) floor] at hsafe
  have e1 : countR arts room (floor % 2) = (((goodL arts room floor false).length : Int), (0 : Int)) := by unfold countR; rw [if_pos hck2, hsafe]
  have e2 : countR arts room floor = (((goodL arts room floor true).length : Int), (0 : Int)) := by unfold countR; rw [if_pos hck]
  obtain ⟨u1, u2⟩ := filled_some hck (r := room) (fun a ha => (hsing a ha).2.2.2)
  have hfv : fewestV arts room (floor % 2) = (filled (mosts arts) room, 0) := by unfold fewestV; rw [if_pos hck2, if_neg u2]
  have hgl : goods arts.length (fun b e => decide (seg (mosts arts) b e ≤ room)) 0 = goodL arts room floor false := by
    rw [goodL_goods]; exact goods_congr (fun b e => by simp [goodP]) 0
  rw [hgl] at u1
  have hsub : ∀ c ∈ goodL arts room floor true, c ∈ goodL arts room floor false := by
    intro c h
    unfold goodL at h ⊢
    rw [List.mem_filter] at h ⊢
    refine ⟨h.1, ?_⟩
    have ok1 := goodP_ok arts room floor true c
    have ok2 := goodP_ok arts room floor false c
    rw [h.2] at ok1
    rw [ok2]
    simp only [Bool.true_eq, Bool.and_eq_true] at ok1
    simp [ok1.1]
  rw [e1] at h43x
  rw [e2] at h43
  rw [hfv] at h31x
  have hlm := lastMin_mem u1
  obtain ⟨x, r, hxr⟩ : ∃ x r, goodL arts room floor false = x :: r := by
    cases h : goodL arts room floor false with
    | nil => rw [h] at u1; simp [lastMin] at u1
    | cons x r => exact ⟨x, r, rfl⟩
  have e3 : cutR arts room (floor % 2) = (pickLt x r, 0) := by unfold cutR; rw [if_pos hck2, hsafe, hxr]
  rw [e3] at h41x
  have hfm := firstMin_mem (l := x :: r) (pickLt_cons x r)
  rw [← hxr] at hfm
  have elen : (pickLt x r).length = (filled (mosts arts) room).length := by
    have q1 := hfm.2 _ hlm.1
    have q2 := hlm.2 _ hfm.1
    omega
  have hgl1 := goodL_len hck true
  have hgl2 := goodL_len hck false
  have hcl : ∀ c ∈ goodL arts room floor false, c.length < 1000 := by
    intro c h
    unfold goodL at h
    exact cut_len (show arts.length ≤ 12 by omega) (List.mem_filter.1 h).1
  have hw := wrap64 floor (by omega) (by omega)
  have t1 : floor.tmod 2 = floor % 2 := Int.tmod_eq_emod_of_nonneg (by omega)
  generalize filled (mosts arts) room = F at *
  generalize pickLt x r = C at *
  generalize hGF : goodL arts room floor false = GF at *
  cases hGT : goodL arts room floor true with
  | nil =>
    rw [hGT] at p4 h47 h43
    simp only [bestIs] at p4
    subst p4
    have e4 : cutR arts room floor = ([], 12) := by unfold cutR; rw [if_pos hck, hGT]
    rw [e4] at h41
    have h35 : ∀ st, run L 35 [sl 1 true [], .v (.slice none 0 0)] st = some (B true, st) := fun st => c35b (c0 := .v (.slice none 0 0)) true [] [] (by simp) (.inl rfl) st
    have hwm0 : IntKind.i64.wrap ((F.length : Int) * min 0 1) = 0 := by rw [show min (0 : Int) 1 = 0 by decide, Int.mul_zero]; exact wrap64 0 (by omega) (by omega)
    simp only [ir9, go_sem, reduceIte, Nat.reduceEqDiff, Nat.reduceAdd, Nat.reduceSub, Nat.reduceLeDiff, Nat.reduceLT, reduceCtorEq, Int.reduceLT, Int.reduceLE, Int.reduceEq, Int.reduceBEq, Int.reduceSub, Int.reduceAdd, Int.reduceMul, Int.reduceNeg, Int.reduceToNat, Nat.reduceMul, Nat.reduceBEq, pubs_shelf, shelf_storable, shelf_len hs, shelf_take hs, h45, h47, h41, h43, h35, h41x, h43x, h31x, c17, t1, elen, hwm0, List.length_map]
  | cons y R =>
    rw [hGT] at p4 h47 h43
    obtain ⟨t, p4⟩ := p4
    subst p4
    have e4 : cutR arts room floor = (pickLt y R, 0) := by unfold cutR; rw [if_pos hck, hGT]
    rw [e4] at h41
    have hbm := firstMin_mem (l := y :: R) (pickLt_cons y R)
    rw [← hGT] at hbm
    have hb1 := hlm.2 _ (hsub _ hbm.1)
    have hb2 := hcl _ (hsub _ hbm.1)
    have hbne : pickLt y R ≠ [] := by
      intro h
      rw [h] at hb1
      exact u2 (by simpa using hb1)
    have h35 := fun st => c35b (c0 := .lst t 1 ((pickLt y R).map I)) true (pickLt y R) (pickLt y R) (by omega) (.inr (by rw [sl_ne (by simpa using hbne)]; rfl)) st
    have hmn : min (((y :: R).length : Nat) : Int) 1 = 1 := by rw [List.length_cons]; omega
    have hwm := wrap64 ((F.length : Nat) : Int) (by omega) (by have := hcl _ hlm.1; omega)
    have hgt0 : (((y :: R).length : Nat) : Int) > 0 := by rw [List.length_cons]; omega
    have z1 : ((F.length : Int) ≤ ((pickLt y R).length : Int)) = True := eq_true (by omega)
    have z2 : ((0 : Int) < (((y :: R).length : Nat) : Int)) = True := eq_true hgt0
    generalize hGL : (y :: R).length = GL at *
    generalize pickLt y R = Y at *
    simp only [ir9, go_sem, reduceIte, Nat.reduceEqDiff, Nat.reduceAdd, Nat.reduceSub, Nat.reduceLeDiff, Nat.reduceLT, reduceCtorEq, Int.reduceLT, Int.reduceLE, Int.reduceEq, Int.reduceBEq, Int.reduceSub, Int.reduceAdd, Int.reduceMul, Int.reduceNeg, Int.reduceToNat, Nat.reduceMul, Nat.reduceBEq, pubs_shelf, shelf_storable, shelf_len hs, shelf_take hs, h45, h47, h41, h43, h35, h41x, h43x, h31x, c17, t1, elen, hmn, hwm, z1, z2, List.length_map, Int.mul_one]
end Go.Proofs.Ytiifibgadipalaa.Vm
