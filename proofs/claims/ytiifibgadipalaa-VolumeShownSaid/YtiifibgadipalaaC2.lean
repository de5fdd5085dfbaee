/- What is proved: what each function of this program computes, as equations on the evaluator. No condition. -/
import Derived.Test.YtiifibgadipalaaC1
import Derived.KernelRfl
set_option linter.all false
namespace Go.Proofs.Ytiifibgadipalaa.Vm
open Go Go.Ev
set_option maxRecDepth 100000
attribute [local go_sem] cells_any storable_any ren1_any shaped_ptr cells_ptr storable_ptr ren1_ptr shaped_eptr cells_eptr storable_eptr ren1_eptr shaped_rsl cells_rsl storable_rsl ren1_rsl shaped_int cells_int storable_int ren1_int shaped_bool cells_bool storable_bool ren1_bool shaped_nils cells_nils storable_nils ren1_nils shaped_lst cells_lst storable_lst shaped_fn cells_fn storable_fn ren1_fn shaped_ifc cells_ifc storable_ifc ren1_ifc shaped_agg cells_agg storable_agg ren1_agg shaped_tup cells_tup storable_tup ren1_tup shaped_nif cells_nif storable_nif ren1_nif ren1_lany ren1_lfull ren1_lown len_lst len_rsl len_nil load_ptr load_eptr isRsl_lst isRsl_nil isRsl_rsl elems_nil elems_lst elems_sl isRsl_sl body_eq bodyK_normal bodyK_ret resK_some leaveK_some only_some code_skip code_exit code_ret code_ops code_seq code_cond code_block seqK_normal seqK_ret seqK_exit condK_true condK_false blockK_normal blockK_ret blockK_exit opsK_some ops_nil ops_cons wantK_true wantK_false stepK_some pubs pub pub_sl params okRef_loc storable_loc shaped_loc cells_loc isRsl_loc elems_loc len_loc untips untip untip_sl wantedAV setElems withO isAgg_v isAgg_agg isAgg_lst isAgg_ptr isAgg_fn isAgg_ifc isAgg_rsl isAgg_sl isAgg_loc List.replicate_succ List.replicate_zero opAV valAV aval avals ofVal Env.get setD canon gcAV renAll renEnv renStore renCells ren1_sl cutSt okEnv okStore okRefs okRef okRef_sl bin_int bin_bool bin_lst bin_rsl bin_nil bin_agg cellsEq cellEq isShift intOp boolOp min_int max_int beq_int bne resAV tupAV leave_eq fin_sl fin_loc fins fin_v fin_lst fin_agg fin_tup fin_fn storeAV readCells putCells cells_sl shaped_sl storable_sl fieldAddrAV len_sl goI List.getElem?_cons_zero List.getElem?_cons_succ List.getElem?_nil Option.bind_some Option.map_some List.length_cons List.length_nil List.all_cons List.all_nil Bool.and_true Bool.true_and Bool.and_false Bool.false_and and_true true_and and_false false_and Bool.false_eq_true List.set_cons_zero List.set_cons_succ List.append_nil List.nil_append List.cons_append List.take_zero List.take_succ_cons List.take_nil List.drop_zero List.drop_succ_cons List.map_cons List.map_nil decide_true decide_false beq_self_eq_true Bool.not_true Bool.not_false or_true true_or or_false false_or Nat.zero_add Nat.add_zero Nat.le_refl Nat.lt_irrefl decide_eq_true_eq eq_self_iff_true not_true_eq_false not_false_eq_true List.getD_cons_zero code_loop Nat.zero_le Nat.not_lt_zero Bool.true_beq Bool.false_beq beq_true beq_false ge_iff_le gt_iff_lt Lpure pus Option.map_none assert_ifc assert_nil idxA_ptr idxA_eptr idxV_agg Int.cast_ofNat_Int Nat.mul_one Nat.zero_mul Int.toNat_natCast Int.toNat_zero setParts withO2 hasKey eqnil_sl nenil_sl eqnil_loc nenil_loc map_nil_iff okRefs_ints renCells_ints

/-- All volumes of a cut are as asked for. -/
def okC (p : Int → Int → Bool) : Int → List Int → Bool
  | _, [] => true
  | b, e :: r => p b e && okC p e r
/-- Where a cut ends. -/
def endOf : Int → List Int → Int
  | b, [] => b
  | _, e :: r => endOf e r
theorem endOf_last : ∀ (b : Int) (c : List Int), endOf b c = if c.length = 0 then b else c.getD (c.length - 1) 0
  | b, [] => by simp [endOf]
  | b, [e] => by simp [endOf]
  | b, e :: f :: r => by
    have := endOf_last e (f :: r)
    simp only [endOf] at this ⊢
    rw [this]
    simp
theorem endOf_begin (c : List Int) : beginOf c c.length = endOf 0 c := by rw [endOf_last]; rfl

theorem cuts_ok (n : Nat) : ∀ (m b : Nat), n - b = m → b ≤ n → ∀ c ∈ cutsOf n b, loopErr n b c = 0 ∧ endOf b c = n := by
  intro m
  induction m using Nat.strongRecOn with
  | ind m ih =>
    intro b hm hb c hc
    by_cases h : b < n
    · rw [cutsOf_eq h] at hc
      simp only [List.mem_flatMap, List.mem_map] at hc
      obtain ⟨e, he, r, hr, rfl⟩ := hc
      simp only [List.mem_range'] at he
      obtain ⟨i, hi, rfl⟩ := he
      obtain ⟨h1, h2⟩ := ih (n - (b + 1 + 1 * i)) (by omega) (b + 1 + 1 * i) rfl (by omega) r hr
      refine ⟨?_, h2⟩
      simp only [loopErr]
      rw [if_neg (by omega), if_neg (by omega)]
      exact h1
    · rw [cutsOf_end (by omega)] at hc
      simp at hc
      subst hc
      exact ⟨rfl, by simp only [endOf]; omega⟩
theorem cut_err {arts : List (Int × Int)} {room floor : Int} (hc : check arts room floor = 0) {c : List Int} (h : c ∈ cutsOf arts.length 0) : cutErr arts room floor c = 0 := by
  obtain ⟨h1, h2⟩ := cuts_ok arts.length arts.length 0 rfl (by omega) c h
  unfold cutErr
  simp only [Int.natCast_zero] at h1 h2
  rw [if_pos hc, if_pos h1, if_pos (by rw [endOf_begin]; exact h2)]

theorem firstV_neg (l : List Int) (q : Int → Bool) : ∀ (b : Int) (v : Nat) (c : List Int), (firstV l q b v c < 0) ↔ okC (fun b e => !q (seg l b e)) b c = true
  | b, v, [] => by simp [firstV, okC]
  | b, v, e :: r => by
    simp only [firstV, okC]
    cases h : q (seg l b e) with
    | true => simp
    | false => simp; exact firstV_neg l q e (v + 1) r
theorem okC_and (p q : Int → Int → Bool) : ∀ (b : Int) (c : List Int), okC (fun b e => p b e && q b e) b c = (okC p b c && okC q b c)
  | b, [] => rfl
  | b, e :: r => by
    simp only [okC, okC_and p q e r]
    cases p b e <;> cases q b e <;> cases okC p e r <;> cases okC q e r <;> rfl
theorem okC_congr {p q : Int → Int → Bool} (h : ∀ b e, p b e = q b e) : ∀ (b : Int) (c : List Int), okC p b c = okC q b c
  | b, [] => rfl
  | b, e :: r => by simp only [okC, h, okC_congr h e r]

/-- A volume is good. -/
def goodP (arts : List (Int × Int)) (room floor : Int) (safe : Bool) (b e : Int) : Bool := decide (seg (mosts arts) b e ≤ room) && (!safe || decide (floor ≤ seg (leasts arts) b e))
/-- All cuts that hold, and are safe if asked for. -/
def goodL (arts : List (Int × Int)) (room floor : Int) (safe : Bool) : List (List Int) := (cutsOf arts.length 0).filter (okC (goodP arts room floor safe) 0)

theorem good_iff (arts : List (Int × Int)) (room floor : Int) (safe : Bool) (c : List Int) :
    okC (goodP arts room floor safe) 0 c = (decide (mayN arts room c 0 = c.length) && (!safe || !thinB arts floor c 0)) := by
  have h1 : okC (fun b e => decide (seg (mosts arts) b e ≤ room)) 0 c = decide (mayN arts room c 0 = c.length) := by
    have := firstV_neg (mosts arts) (fun n => decide (n > room)) 0 0 c
    rw [Bool.eq_iff_iff, decide_eq_true_eq, mayN_eq, this]
    rw [okC_congr (q := fun b e => !decide (seg (mosts arts) b e > room)) (fun b e => by rw [Bool.eq_iff_iff]; simp)]
  have h2 : okC (fun b e => decide (floor ≤ seg (leasts arts) b e)) 0 c = !thinB arts floor c 0 := by
    have := firstV_neg (leasts arts) (fun n => decide (n < floor)) 0 0 c
    have ht : thinB arts floor c 0 = decide (0 ≤ firstV (leasts arts) (fun n => decide (n < floor)) 0 0 c) := rfl
    rw [ht, Bool.eq_iff_iff]
    rw [okC_congr (q := fun b e => !decide (seg (leasts arts) b e < floor)) (fun b e => by rw [Bool.eq_iff_iff]; simp), ← this]
    simp
  rw [← h1]
  cases safe with
  | false =>
    simp only [Bool.not_false, Bool.true_or, Bool.and_true]
    exact okC_congr (fun b e => by simp [goodP]) 0 c
  | true =>
    simp only [Bool.not_true, Bool.false_or]
    rw [← h2, ← okC_and]
    exact okC_congr (fun b e => by simp [goodP]) 0 c

theorem index_lists (nl : Bool) (xs : List (List Int)) (i : Nat) (h : i < xs.length) : indexSAV 1 (sl 1 nl (xs.map listAV)) (.v (.int .i64 i)) = some (.eptr (listAV xs[i]) 0) := by
  rw [index_sl _ _ _ _ _ (by omega) (by simpa using h)]
  simp

theorem loop83 (nl : Bool) (arts : List (Int × Int)) (room floor : Int) (hc : check arts room floor = 0) (safe : Bool) (L0 : List (List Int)) (hL : L0 = cutsOf arts.length 0) (hlen : L0.length ≤ 5000) (i : Nat) (hok : i ≤ L0.length) (env : Env) (st : St)
    (hg : gcAV true 1 0 (canon env [1, 2, 5, 6, 7]) st = ([(1, B safe), (2, .ptr 0 0), (5, loc 1 0 (((L0.take i).filter (okC (goodP arts room floor safe) 0)).map listAV)), (6, sl 1 true (L0.map listAV)), (7, I i)], ⟨[bookCells nl arts room floor], locT 0 (((L0.take i).filter (okC (goodP arts room floor safe) 0)).map listAV)⟩)) :
    ∃ x_1 en s, lim (headed pure (run L) true [1, 2, 5, 6, 7] lp83_0 1 0) env st = some (x_1, en, s) ∧ (x_1 = .exit 0 ∧ en.get 5 = loc 1 0 ((L0.filter (okC (goodP arts room floor safe) 0)).map listAV)) := by
  refine loop_wp (α := Nat) (fun i => L0.length - i) (fun i => i ≤ L0.length) (fun i => ([(1, B safe), (2, .ptr 0 0), (5, loc 1 0 (((L0.take i).filter (okC (goodP arts room floor safe) 0)).map listAV)), (6, sl 1 true (L0.map listAV)), (7, I i)], ⟨[bookCells nl arts room floor], locT 0 (((L0.take i).filter (okC (goodP arts room floor safe) 0)).map listAV)⟩)) (fun i x_1 en s => x_1 = .exit 0 ∧ en.get 5 = loc 1 0 ((L0.filter (okC (goodP arts room floor safe) 0)).map listAV)) (fun i hok => ?_) i hok env st hg
  by_cases q : (i : Int) < (L0.length : Int)
  · have hx := index_lists true L0 i (by omega)
    have hs := succ64 i (by omega)
    have hmem : L0[i]'(by omega) ∈ cutsOf arts.length 0 := by rw [← hL]; exact List.getElem_mem _
    obtain ⟨g1, g2, g3, g4⟩ := mosts_ok hc
    have hcl : (L0[i]'(by omega)).length < 1000 := by
      have h1 := (cuts_ok arts.length arts.length 0 rfl (by omega) _ hmem).1
      have : ∀ (n last : Int) (c : List Int), loopErr n last c = 0 → last + c.length ≤ n ∨ c = [] := by
        intro n last c
        induction c generalizing last with
        | nil => intro _; exact .inr rfl
        | cons e r ih =>
          intro h
          obtain ⟨q1, q2, q3, q4⟩ := loopErr_cons h
          rcases ih e q4 with h5 | h5
          · simp only [List.length_cons]; exact .inl (by omega)
          · subst h5; simp only [List.length_cons, List.length_nil]; exact .inl (by omega)
      rcases this _ _ _ h1 with h2 | h2
      · omega
      · rw [h2]; simp
    have h70 := fun st => c70 nl false arts room floor _ hcl (cut_err hc hmem) st
    have h81 := fun st => c81 nl false arts room floor _ hcl (cut_err hc hmem) st
    have hgi := good_iff arts room floor safe (L0[i]'(by omega))
    have htk : L0.take (i + 1) = L0.take i ++ [L0[i]'(by omega)] := (List.take_append_getElem (by omega)).symm
    have hfl : (L0.take i).filter (okC (goodP arts room floor safe) 0) |>.length |> (· ≤ 5000) := by
      have h1 := List.length_filter_le (okC (goodP arts room floor safe) 0) (L0.take i)
      have h2 : (L0.take i).length ≤ L0.length := by simp; omega
      exact Nat.le_trans h1 (Nat.le_trans h2 hlen)
    have happ := append_locm (z := 1) (k := 0) listAV ((L0.take i).filter (okC (goodP arts room floor safe) 0)) (L0[i]'(by omega)) [bookCells nl arts room floor] (by omega) (by simp only [maxGrow]; simp only at hfl; omega)
    generalize hG : (L0.take i).filter (okC (goodP arts room floor safe) 0) = G at *
    generalize hc0 : L0[i]'(by omega) = c at *
    by_cases p1 : mayN arts room c 0 = c.length
    · cases safe with
      | false =>
        have hg : okC (goodP arts room floor false) 0 c = true := by rw [hgi]; simp [p1]
        have hn : (L0.take (i + 1)).filter (okC (goodP arts room floor false) 0) = G ++ [c] := by rw [htk, List.filter_append, hG]; simp [hg]
        simp only [go_sem, reduceIte, Nat.reduceEqDiff, Nat.reduceAdd, Nat.reduceSub, Nat.reduceLeDiff, Nat.reduceLT, reduceCtorEq, Int.reduceLT, Int.reduceLE, Int.reduceEq, Int.reduceBEq, Int.reduceSub, Int.reduceAdd, Int.reduceMul, Int.reduceNeg, Int.reduceToNat, Nat.reduceMul, Nat.reduceBEq, index_rsl_if, setm, make_ints, condK_dec, wantK_dec, not_dec, and_dec, or_dec, seqK_ite, seqK_none, blockK_ite, blockK_none, opsK_ite, opsK_none, stepK_ite, stepK_none, bodyK_ite, bodyK_none, resK_ite, resK_none, leaveK_ite, leaveK_none, only_ite, only_none, bind_ite, gives_some, gives_none, gives_ite, then_normal, then_ret, then_exit, then_none, then_ite, Option.bind_none, Bool.not_eq_true', decide_eq_false_iff_not, Bool.and_eq_true, Bool.or_eq_true, Option.some.injEq, Int.not_lt, Int.not_le, lp83_0, q, hx, hs, h70, h81, p1, happ, List.length_map]
        refine ⟨i + 1, by simp only [go_sem, reduceIte, Nat.reduceEqDiff, Nat.reduceAdd, Nat.reduceSub, Nat.reduceLeDiff, Nat.reduceLT, reduceCtorEq, Int.reduceLT, Int.reduceLE, Int.reduceEq, Int.reduceBEq, Int.reduceSub, Int.reduceAdd, Int.reduceMul, Int.reduceNeg, Int.reduceToNat, Nat.reduceMul, Nat.reduceBEq, ren1_locm, loc_tips, locT_eq, hn] <;> rfl, ?_, ?_, fun x en s hq => ?_⟩
        · omega
        · omega
        · exact hq
      | true =>
        by_cases p2 : thinB arts floor c 0 = true
        · have hg : okC (goodP arts room floor true) 0 c = false := by rw [hgi]; simp [p2]
          have hn : (L0.take (i + 1)).filter (okC (goodP arts room floor true) 0) = G := by rw [htk, List.filter_append, hG]; simp [hg]
          simp only [go_sem, reduceIte, Nat.reduceEqDiff, Nat.reduceAdd, Nat.reduceSub, Nat.reduceLeDiff, Nat.reduceLT, reduceCtorEq, Int.reduceLT, Int.reduceLE, Int.reduceEq, Int.reduceBEq, Int.reduceSub, Int.reduceAdd, Int.reduceMul, Int.reduceNeg, Int.reduceToNat, Nat.reduceMul, Nat.reduceBEq, index_rsl_if, setm, make_ints, condK_dec, wantK_dec, not_dec, and_dec, or_dec, seqK_ite, seqK_none, blockK_ite, blockK_none, opsK_ite, opsK_none, stepK_ite, stepK_none, bodyK_ite, bodyK_none, resK_ite, resK_none, leaveK_ite, leaveK_none, only_ite, only_none, bind_ite, gives_some, gives_none, gives_ite, then_normal, then_ret, then_exit, then_none, then_ite, Option.bind_none, Bool.not_eq_true', decide_eq_false_iff_not, Bool.and_eq_true, Bool.or_eq_true, Option.some.injEq, Int.not_lt, Int.not_le, lp83_0, q, hx, hs, h70, h81, p1, p2, happ, List.length_map]
          refine ⟨i + 1, by simp only [go_sem, reduceIte, Nat.reduceEqDiff, Nat.reduceAdd, Nat.reduceSub, Nat.reduceLeDiff, Nat.reduceLT, reduceCtorEq, Int.reduceLT, Int.reduceLE, Int.reduceEq, Int.reduceBEq, Int.reduceSub, Int.reduceAdd, Int.reduceMul, Int.reduceNeg, Int.reduceToNat, Nat.reduceMul, Nat.reduceBEq, ren1_locm, loc_tips, locT_eq, hn] <;> rfl, ?_, ?_, fun x en s hq => ?_⟩
          · omega
          · omega
          · exact hq
        · have p2' : thinB arts floor c 0 = false := by simpa using p2
          have hg : okC (goodP arts room floor true) 0 c = true := by rw [hgi]; simp [p1, p2']
          have hn : (L0.take (i + 1)).filter (okC (goodP arts room floor true) 0) = G ++ [c] := by rw [htk, List.filter_append, hG]; simp [hg]
          simp only [go_sem, reduceIte, Nat.reduceEqDiff, Nat.reduceAdd, Nat.reduceSub, Nat.reduceLeDiff, Nat.reduceLT, reduceCtorEq, Int.reduceLT, Int.reduceLE, Int.reduceEq, Int.reduceBEq, Int.reduceSub, Int.reduceAdd, Int.reduceMul, Int.reduceNeg, Int.reduceToNat, Nat.reduceMul, Nat.reduceBEq, index_rsl_if, setm, make_ints, condK_dec, wantK_dec, not_dec, and_dec, or_dec, seqK_ite, seqK_none, blockK_ite, blockK_none, opsK_ite, opsK_none, stepK_ite, stepK_none, bodyK_ite, bodyK_none, resK_ite, resK_none, leaveK_ite, leaveK_none, only_ite, only_none, bind_ite, gives_some, gives_none, gives_ite, then_normal, then_ret, then_exit, then_none, then_ite, Option.bind_none, Bool.not_eq_true', decide_eq_false_iff_not, Bool.and_eq_true, Bool.or_eq_true, Option.some.injEq, Int.not_lt, Int.not_le, lp83_0, q, hx, hs, h70, h81, p1, p2', happ, List.length_map]
          refine ⟨i + 1, by simp only [go_sem, reduceIte, Nat.reduceEqDiff, Nat.reduceAdd, Nat.reduceSub, Nat.reduceLeDiff, Nat.reduceLT, reduceCtorEq, Int.reduceLT, Int.reduceLE, Int.reduceEq, Int.reduceBEq, Int.reduceSub, Int.reduceAdd, Int.reduceMul, Int.reduceNeg, Int.reduceToNat, Nat.reduceMul, Nat.reduceBEq, ren1_locm, loc_tips, locT_eq, hn] <;> rfl, ?_, ?_, fun x en s hq => ?_⟩
          · omega
          · omega
          · exact hq
    · have hg : okC (goodP arts room floor safe) 0 c = false := by rw [hgi]; simp [p1]
      have hn : (L0.take (i + 1)).filter (okC (goodP arts room floor safe) 0) = G := by rw [htk, List.filter_append, hG]; simp [hg]
      simp only [go_sem, reduceIte, Nat.reduceEqDiff, Nat.reduceAdd, Nat.reduceSub, Nat.reduceLeDiff, Nat.reduceLT, reduceCtorEq, Int.reduceLT, Int.reduceLE, Int.reduceEq, Int.reduceBEq, Int.reduceSub, Int.reduceAdd, Int.reduceMul, Int.reduceNeg, Int.reduceToNat, Nat.reduceMul, Nat.reduceBEq, index_rsl_if, setm, make_ints, condK_dec, wantK_dec, not_dec, and_dec, or_dec, seqK_ite, seqK_none, blockK_ite, blockK_none, opsK_ite, opsK_none, stepK_ite, stepK_none, bodyK_ite, bodyK_none, resK_ite, resK_none, leaveK_ite, leaveK_none, only_ite, only_none, bind_ite, gives_some, gives_none, gives_ite, then_normal, then_ret, then_exit, then_none, then_ite, Option.bind_none, Bool.not_eq_true', decide_eq_false_iff_not, Bool.and_eq_true, Bool.or_eq_true, Option.some.injEq, Int.not_lt, Int.not_le, lp83_0, q, hx, hs, h70, h81, p1, happ, List.length_map]
      refine ⟨i + 1, by simp only [go_sem, reduceIte, Nat.reduceEqDiff, Nat.reduceAdd, Nat.reduceSub, Nat.reduceLeDiff, Nat.reduceLT, reduceCtorEq, Int.reduceLT, Int.reduceLE, Int.reduceEq, Int.reduceBEq, Int.reduceSub, Int.reduceAdd, Int.reduceMul, Int.reduceNeg, Int.reduceToNat, Nat.reduceMul, Nat.reduceBEq, ren1_locm, loc_tips, locT_eq, hn] <;> rfl, ?_, ?_, fun x en s hq => ?_⟩
      · omega
      · omega
      · exact hq
  · have htk : L0.take i = L0 := List.take_of_length_le (by omega)
    simp only [go_sem, reduceIte, Nat.reduceEqDiff, Nat.reduceAdd, Nat.reduceSub, Nat.reduceLeDiff, Nat.reduceLT, reduceCtorEq, Int.reduceLT, Int.reduceLE, Int.reduceEq, Int.reduceBEq, Int.reduceSub, Int.reduceAdd, Int.reduceMul, Int.reduceNeg, Int.reduceToNat, Nat.reduceMul, Nat.reduceBEq, index_rsl_if, setm, make_ints, condK_dec, wantK_dec, not_dec, and_dec, or_dec, seqK_ite, seqK_none, blockK_ite, blockK_none, opsK_ite, opsK_none, stepK_ite, stepK_none, bodyK_ite, bodyK_none, resK_ite, resK_none, leaveK_ite, leaveK_none, only_ite, only_none, bind_ite, gives_some, gives_none, gives_ite, then_normal, then_ret, then_exit, then_none, then_ite, Option.bind_none, Bool.not_eq_true', decide_eq_false_iff_not, Bool.and_eq_true, Bool.or_eq_true, Option.some.injEq, Int.not_lt, Int.not_le, lp83_0, q, List.length_map, htk]

theorem c83 (nl : Bool) (arts : List (Int × Int)) (room floor : Int) (hc : check arts room floor = 0) (safe : Bool) (st : St) :
    run L 83 [bookAV nl arts room floor, B safe] st = some (sl 1 true ((goodL arts room floor safe).map listAV), st) := by
  rw [run_pure (fn := ir83) rfl rfl]
  obtain ⟨g1, g2, g3, g4⟩ := mosts_ok hc
  have h84 : ∀ st, run L 84 [I arts.length, .v (.slice none 0 0)] st = some (sl 1 true ((cutsOf arts.length 0).map listAV), st) := by
    intro st
    have := c84 arts.length g4 g3 (arts.length - 0) true [] 0 rfl (by omega) (by simp) rfl st
    rw [preL_nil] at this
    exact this
  have hlen := (cutsOf_len arts.length 12 0 (by omega)).1
  simp only [ir83, go_sem, reduceIte, Nat.reduceEqDiff, Nat.reduceAdd, Nat.reduceSub, Nat.reduceLeDiff, Nat.reduceLT, reduceCtorEq, Int.reduceLT, Int.reduceLE, Int.reduceEq, Int.reduceBEq, Int.reduceSub, Int.reduceAdd, Int.reduceMul, Int.reduceNeg, Int.reduceToNat, Nat.reduceMul, Nat.reduceBEq, h84, List.length_map]
  generalize hg : lim (headed pure (run L) true _ lp83_0 _ _) _ _ = o
  obtain ⟨x, en, s, rfl, h2⟩ : ∃ x en s, o = some (x, en, s) ∧ _ := by rw [← hg]; exact loop83 nl arts room floor hc safe _ rfl (by omega) 0 (Nat.zero_le _) _ _ (by simp only [go_sem, reduceIte, Nat.reduceEqDiff, Nat.reduceAdd, Nat.reduceSub, Nat.reduceLeDiff, Nat.reduceLT, reduceCtorEq, Int.reduceLT, Int.reduceLE, Int.reduceEq, Int.reduceBEq, Int.reduceSub, Int.reduceAdd, Int.reduceMul, Int.reduceNeg, Int.reduceToNat, Nat.reduceMul, Nat.reduceBEq, List.take_zero, List.filter_nil, loc_start, locT] <;> rfl)
  clear hg
  obtain ⟨rfl, h3⟩ := h2
  simp only [go_sem, reduceIte, Nat.reduceEqDiff, Nat.reduceAdd, Nat.reduceSub, Nat.reduceLeDiff, Nat.reduceLT, reduceCtorEq, Int.reduceLT, Int.reduceLE, Int.reduceEq, Int.reduceBEq, Int.reduceSub, Int.reduceAdd, Int.reduceMul, Int.reduceNeg, Int.reduceToNat, Nat.reduceMul, Nat.reduceBEq, h3]
  rfl


/-- The last of the shortest lists, the first of them. -/
def pickLe (best : List Int) (l : List (List Int)) : List Int := l.foldl (fun b x => if x.length ≤ b.length then x else b) best
theorem loop32 (nl : Bool) (arts : List (Int × Int)) (room floor : Int) (L0 : List (List Int)) (hlen : L0.length ≤ 5000) (i : Nat) (best : List Int) (hok : i ≤ L0.length) (env : Env) (st : St)
    (hg : gcAV true 1 0 (canon env [5, 6, 7]) st = ([(5, sl 1 true (L0.map listAV)), (6, listAV best), (7, I i)], ⟨[bookCells nl arts room floor], []⟩)) :
    ∃ x_1 en s, lim (headed pure (run L) true [5, 6, 7] lp32_0 1 0) env st = some (x_1, en, s) ∧ (x_1 = .exit 0 ∧ en.get 6 = listAV (pickLe best (L0.drop i))) := by
  refine loop_wp (α := Nat × List Int) (fun ⟨i, best⟩ => L0.length - i) (fun ⟨i, best⟩ => i ≤ L0.length) (fun ⟨i, best⟩ => ([(5, sl 1 true (L0.map listAV)), (6, listAV best), (7, I i)], ⟨[bookCells nl arts room floor], []⟩)) (fun ⟨i, best⟩ x_1 en s => x_1 = .exit 0 ∧ en.get 6 = listAV (pickLe best (L0.drop i))) (fun ⟨i, best⟩ hok => ?_) ⟨i, best⟩ hok env st hg
  simp only at hok
  by_cases q : (i : Int) < (L0.length : Int)
  · have hx := index_lists true L0 i (by omega)
    have hs := succ64 i (by omega)
    have hd : L0.drop i = L0[i]'(by omega) :: L0.drop (i + 1) := List.drop_eq_getElem_cons (by omega)
    generalize L0[i]'(by omega) = c at *
    have hmeas : L0.length - (i + 1) < L0.length - i := by omega
    have hok2 : i + 1 ≤ L0.length := by omega
    by_cases p : (c.length : Int) ≤ (best.length : Int)
    · have hf : pickLe best (L0.drop i) = pickLe c (L0.drop (i + 1)) := by rw [hd]; simp only [pickLe, List.foldl_cons]; rw [if_pos (by omega)]
      simp only [go_sem, reduceIte, Nat.reduceEqDiff, Nat.reduceAdd, Nat.reduceSub, Nat.reduceLeDiff, Nat.reduceLT, reduceCtorEq, Int.reduceLT, Int.reduceLE, Int.reduceEq, Int.reduceBEq, Int.reduceSub, Int.reduceAdd, Int.reduceMul, Int.reduceNeg, Int.reduceToNat, Nat.reduceMul, Nat.reduceBEq, index_rsl_if, setm, make_ints, condK_dec, wantK_dec, not_dec, and_dec, or_dec, seqK_ite, seqK_none, blockK_ite, blockK_none, opsK_ite, opsK_none, stepK_ite, stepK_none, bodyK_ite, bodyK_none, resK_ite, resK_none, leaveK_ite, leaveK_none, only_ite, only_none, bind_ite, gives_some, gives_none, gives_ite, then_normal, then_ret, then_exit, then_none, then_ite, Option.bind_none, Bool.not_eq_true', decide_eq_false_iff_not, Bool.and_eq_true, Bool.or_eq_true, Option.some.injEq, Int.not_lt, Int.not_le, lp32_0, q, hx, hs, p, List.length_map]
      refine ⟨(i + 1, c), by simp only [go_sem, reduceIte, Nat.reduceEqDiff, Nat.reduceAdd, Nat.reduceSub, Nat.reduceLeDiff, Nat.reduceLT, reduceCtorEq, Int.reduceLT, Int.reduceLE, Int.reduceEq, Int.reduceBEq, Int.reduceSub, Int.reduceAdd, Int.reduceMul, Int.reduceNeg, Int.reduceToNat, Nat.reduceMul, Nat.reduceBEq, ren1_locm, loc_tips, locT_eq] <;> rfl, ?_, ?_, fun x en s hq => ?_⟩
      · exact hok2
      · exact hmeas
      · rw [hf]; exact hq
    · have hf : pickLe best (L0.drop i) = pickLe best (L0.drop (i + 1)) := by rw [hd]; simp only [pickLe, List.foldl_cons]; rw [if_neg (by omega)]
      simp only [go_sem, reduceIte, Nat.reduceEqDiff, Nat.reduceAdd, Nat.reduceSub, Nat.reduceLeDiff, Nat.reduceLT, reduceCtorEq, Int.reduceLT, Int.reduceLE, Int.reduceEq, Int.reduceBEq, Int.reduceSub, Int.reduceAdd, Int.reduceMul, Int.reduceNeg, Int.reduceToNat, Nat.reduceMul, Nat.reduceBEq, index_rsl_if, setm, make_ints, condK_dec, wantK_dec, not_dec, and_dec, or_dec, seqK_ite, seqK_none, blockK_ite, blockK_none, opsK_ite, opsK_none, stepK_ite, stepK_none, bodyK_ite, bodyK_none, resK_ite, resK_none, leaveK_ite, leaveK_none, only_ite, only_none, bind_ite, gives_some, gives_none, gives_ite, then_normal, then_ret, then_exit, then_none, then_ite, Option.bind_none, Bool.not_eq_true', decide_eq_false_iff_not, Bool.and_eq_true, Bool.or_eq_true, Option.some.injEq, Int.not_lt, Int.not_le, lp32_0, q, hx, hs, p, List.length_map]
      refine ⟨(i + 1, best), by simp only [go_sem, reduceIte, Nat.reduceEqDiff, Nat.reduceAdd, Nat.reduceSub, Nat.reduceLeDiff, Nat.reduceLT, reduceCtorEq, Int.reduceLT, Int.reduceLE, Int.reduceEq, Int.reduceBEq, Int.reduceSub, Int.reduceAdd, Int.reduceMul, Int.reduceNeg, Int.reduceToNat, Nat.reduceMul, Nat.reduceBEq, ren1_locm, loc_tips, locT_eq] <;> rfl, ?_, ?_, fun x en s hq => ?_⟩
      · exact hok2
      · exact hmeas
      · rw [hf]; exact hq
  · have hdn : L0.drop i = [] := List.drop_eq_nil_of_le (by omega)
    simp only [go_sem, reduceIte, Nat.reduceEqDiff, Nat.reduceAdd, Nat.reduceSub, Nat.reduceLeDiff, Nat.reduceLT, reduceCtorEq, Int.reduceLT, Int.reduceLE, Int.reduceEq, Int.reduceBEq, Int.reduceSub, Int.reduceAdd, Int.reduceMul, Int.reduceNeg, Int.reduceToNat, Nat.reduceMul, Nat.reduceBEq, index_rsl_if, setm, make_ints, condK_dec, wantK_dec, not_dec, and_dec, or_dec, seqK_ite, seqK_none, blockK_ite, blockK_none, opsK_ite, opsK_none, stepK_ite, stepK_none, bodyK_ite, bodyK_none, resK_ite, resK_none, leaveK_ite, leaveK_none, only_ite, only_none, bind_ite, gives_some, gives_none, gives_ite, then_normal, then_ret, then_exit, then_none, then_ite, Option.bind_none, Bool.not_eq_true', decide_eq_false_iff_not, Bool.and_eq_true, Bool.or_eq_true, Option.some.injEq, Int.not_lt, Int.not_le, lp32_0, q, List.length_map, hdn]
    rfl

/-- A list and an error: nil with an error. -/
abbrev lerr' (p : List Int × Int) : AV := .tup [sl 1 (p.2 != 0) (p.1.map I), I p.2]

def fewestR (arts : List (Int × Int)) (room floor : Int) : List Int × Int :=
  if check arts room floor = 0 then
    match goodL arts room floor false with
    | [] => ([], 12)
    | x :: r => (pickLe x r, 0)
  else ([], check arts room floor)
theorem goodL_len {arts : List (Int × Int)} {room floor : Int} (hc : check arts room floor = 0) (safe : Bool) : (goodL arts room floor safe).length ≤ 5000 := by
  obtain ⟨g1, g2, g3, g4⟩ := mosts_ok hc
  have hlen := (cutsOf_len arts.length 12 0 (by omega)).1
  have h1 := List.length_filter_le (okC (goodP arts room floor safe) 0) (cutsOf arts.length 0)
  unfold goodL
  omega

theorem c32 (nl : Bool) (arts : List (Int × Int)) (room floor : Int) (st : St) :
    run L 32 [bookAV nl arts room floor] st = some (lerr' (fewestR arts room floor), st) := by
  rw [run_pure (fn := ir32) rfl rfl]
  have hc := fun st => c26 nl arts room floor st
  unfold fewestR
  by_cases p0 : check arts room floor = 0
  · rw [if_pos p0]
    have h83 := fun st => c83 nl arts room floor p0 false st
    have hlen := goodL_len p0 false
    generalize goodL arts room floor false = G at *
    cases G with
    | nil => simp only [ir32, go_sem, reduceIte, Nat.reduceEqDiff, Nat.reduceAdd, Nat.reduceSub, Nat.reduceLeDiff, Nat.reduceLT, reduceCtorEq, Int.reduceLT, Int.reduceLE, Int.reduceEq, Int.reduceBEq, Int.reduceSub, Int.reduceAdd, Int.reduceMul, Int.reduceNeg, Int.reduceToNat, Nat.reduceMul, Nat.reduceBEq, hc, p0, h83] <;> rfl
    | cons x r =>
      have q1 : (((x :: r).length : Int) = 0) = False := eq_false (by simp; omega)
      have hx := index_lists true (x :: r) 0 (by simp)
      simp only [Int.natCast_zero, List.getElem_cons_zero] at hx
      have hl2 : (((x :: r).map listAV).length : Int) = ((x :: r).length : Int) := by simp
      simp only [← List.map_cons] at *
      generalize hL0 : x :: r = L0 at *
      simp only [ir32, go_sem, reduceIte, Nat.reduceEqDiff, Nat.reduceAdd, Nat.reduceSub, Nat.reduceLeDiff, Nat.reduceLT, reduceCtorEq, Int.reduceLT, Int.reduceLE, Int.reduceEq, Int.reduceBEq, Int.reduceSub, Int.reduceAdd, Int.reduceMul, Int.reduceNeg, Int.reduceToNat, Nat.reduceMul, Nat.reduceBEq, hc, p0, h83, q1, hx, List.length_map]
      generalize hg : lim (headed pure (run L) true _ lp32_0 _ _) _ _ = o
      obtain ⟨x, en, s, rfl, h2⟩ : ∃ x en s, o = some (x, en, s) ∧ _ := by rw [← hg]; exact loop32 nl arts room floor L0 hlen 1 x (by subst hL0; simp) _ _ (by simp only [go_sem, reduceIte, Nat.reduceEqDiff, Nat.reduceAdd, Nat.reduceSub, Nat.reduceLeDiff, Nat.reduceLT, reduceCtorEq, Int.reduceLT, Int.reduceLE, Int.reduceEq, Int.reduceBEq, Int.reduceSub, Int.reduceAdd, Int.reduceMul, Int.reduceNeg, Int.reduceToNat, Nat.reduceMul, Nat.reduceBEq] <;> rfl)
      clear hg
      obtain ⟨rfl, h3⟩ := h2
      subst hL0
      simp only [List.drop_succ_cons, List.drop_zero] at h3
      simp only [go_sem, reduceIte, Nat.reduceEqDiff, Nat.reduceAdd, Nat.reduceSub, Nat.reduceLeDiff, Nat.reduceLT, reduceCtorEq, Int.reduceLT, Int.reduceLE, Int.reduceEq, Int.reduceBEq, Int.reduceSub, Int.reduceAdd, Int.reduceMul, Int.reduceNeg, Int.reduceToNat, Nat.reduceMul, Nat.reduceBEq, h3] <;> rfl
  · rw [if_neg p0]
    have : (check arts room floor != 0) = true := by simpa using p0
    simp only [ir32, go_sem, reduceIte, Nat.reduceEqDiff, Nat.reduceAdd, Nat.reduceSub, Nat.reduceLeDiff, Nat.reduceLT, reduceCtorEq, Int.reduceLT, Int.reduceLE, Int.reduceEq, Int.reduceBEq, Int.reduceSub, Int.reduceAdd, Int.reduceMul, Int.reduceNeg, Int.reduceToNat, Nat.reduceMul, Nat.reduceBEq, hc, p0, lerr', this] <;> rfl


/-! ### plain laws on cuts -/

/-- The good cuts of the articles from b on. -/
def goods (n : Nat) (p : Int → Int → Bool) (b : Nat) : List (List Int) := (cutsOf n b).filter (okC p b)

theorem goods_end {n b : Nat} (p : Int → Int → Bool) (h : n ≤ b) : goods n p b = [[]] := by
  unfold goods; rw [cutsOf_end h]; rfl
theorem filter_flatMap' {α β : Type} (q : β → Bool) (f : α → List β) : ∀ l : List α, (l.flatMap f).filter q = l.flatMap fun x => (f x).filter q
  | [] => rfl
  | a :: r => by simp only [List.flatMap_cons, List.filter_append, filter_flatMap' q f r]
theorem goods_eq {n b : Nat} (p : Int → Int → Bool) (h : b < n) :
    goods n p b = (List.range' (b + 1) (n - b)).flatMap fun (e : Nat) => if p b e = true then (goods n p e).map ((e : Int) :: ·) else [] := by
  unfold goods
  rw [cutsOf_eq h, filter_flatMap']
  refine flatMap_congr' fun e _ => ?_
  rw [List.filter_map]
  split
  · next h1 =>
    congr 1
    apply List.filter_congr
    intro c _
    simp only [Function.comp, okC, h1, Bool.true_and]
  · next h1 =>
    have h1 : p b e = false := by simpa using h1
    have : (cutsOf n e).filter (okC p b ∘ fun x => (e : Int) :: x) = [] := by
      rw [List.filter_eq_nil_iff]
      intro c _
      simp [Function.comp, okC, h1]
    rw [this]; rfl

/-- A good cut, told without a list of them. -/
def IsGood (n : Nat) (p : Int → Int → Bool) : Nat → List Int → Prop
  | b, [] => n ≤ b
  | b, e :: r => ∃ e' : Nat, e = e' ∧ b < e' ∧ e' ≤ n ∧ p b e = true ∧ IsGood n p e' r
theorem goods_iff (n : Nat) (p : Int → Int → Bool) : ∀ (m b : Nat), n - b = m → ∀ c, c ∈ goods n p b ↔ IsGood n p b c := by
  intro m
  induction m using Nat.strongRecOn with
  | ind m ih =>
    intro b hm c
    by_cases h : b < n
    · rw [goods_eq p h]
      simp only [List.mem_flatMap, List.mem_range']
      constructor
      · rintro ⟨e, ⟨i, hi, rfl⟩, hc⟩
        split at hc
        · next hp =>
          obtain ⟨r, hr, rfl⟩ := List.mem_map.1 hc
          exact ⟨b + 1 + 1 * i, rfl, by omega, by omega, hp, (ih _ (by omega) _ rfl r).1 hr⟩
        · simp at hc
      · intro hg
        cases c with
        | nil => simp only [IsGood] at hg; omega
        | cons e r =>
          obtain ⟨e', rfl, h1, h2, h3, h4⟩ := hg
          refine ⟨e', ⟨e' - (b + 1), by omega, by omega⟩, ?_⟩
          rw [if_pos h3]
          exact List.mem_map.2 ⟨r, (ih _ (by omega) e' rfl r).2 h4, rfl⟩
    · rw [goods_end p (by omega)]
      cases c with
      | nil => simp [IsGood]; omega
      | cons e r =>
        simp only [List.mem_singleton, reduceCtorEq, false_iff]
        rintro ⟨e', _, h1, h2, _⟩
        omega

def lastMin : List (List Int) → Option (List Int)
  | [] => none
  | x :: r => match lastMin r with
    | none => some x
    | some y => if y.length ≤ x.length then some y else some x

theorem pickLe_eq : ∀ (l : List (List Int)) (b : List Int), pickLe b l = match lastMin l with | none => b | some y => if y.length ≤ b.length then y else b
  | [], b => rfl
  | x :: r, b => by
    have ih := pickLe_eq r
    simp only [pickLe, List.foldl_cons, lastMin] at ih ⊢
    rw [ih]
    cases lastMin r with
    | none => simp only
    | some y => by_cases h1 : x.length ≤ b.length <;> by_cases h2 : y.length ≤ x.length <;> by_cases h3 : y.length ≤ b.length <;> simp [h1, h2, h3] <;> omega
theorem pickLe_cons (x : List Int) (r : List (List Int)) : lastMin (x :: r) = some (pickLe x r) := by
  rw [pickLe_eq]; simp only [lastMin]
  cases lastMin r with
  | none => rfl
  | some y => simp only; split <;> rfl
theorem lastMin_none {l : List (List Int)} : lastMin l = none ↔ l = [] := by
  cases l with
  | nil => simp [lastMin]
  | cons x r => rw [pickLe_cons]; simp
theorem lastMin_mem : ∀ {l : List (List Int)} {y : List Int}, lastMin l = some y → y ∈ l ∧ ∀ z ∈ l, y.length ≤ z.length
  | [], y, h => by simp [lastMin] at h
  | x :: r, y, h => by
    simp only [lastMin] at h
    split at h
    · next hr =>
      rw [lastMin_none] at hr
      simp only [Option.some.injEq] at h
      subst hr; subst h
      simp
    · next w hw =>
      obtain ⟨h1, h2⟩ := lastMin_mem hw
      split at h
      · simp only [Option.some.injEq] at h
        subst h
        refine ⟨by simp [h1], fun z hz => ?_⟩
        rcases List.mem_cons.1 hz with rfl | hz
        · assumption
        · exact h2 z hz
      · next hlt =>
        simp only [Option.some.injEq] at h
        subst h
        refine ⟨by simp, fun z hz => ?_⟩
        rcases List.mem_cons.1 hz with rfl | hz
        · exact Nat.le_refl _
        · have := h2 z hz; omega
theorem lastMin_append {l1 l2 : List (List Int)} {y : List Int} (h : lastMin l2 = some y) (hle : ∀ z ∈ l1, y.length ≤ z.length) : lastMin (l1 ++ l2) = some y := by
  induction l1 with
  | nil => exact h
  | cons x r ih =>
    simp only [List.cons_append, lastMin]
    rw [ih fun z hz => hle z (by simp [hz])]
    simp only
    rw [if_pos (hle x (by simp))]
theorem lastMin_map (e : Int) (l : List (List Int)) : lastMin (l.map (e :: ·)) = (lastMin l).map (e :: ·) := by
  induction l with
  | nil => rfl
  | cons x r ih =>
    simp only [List.map_cons, lastMin, ih]
    cases lastMin r with
    | none => rfl
    | some y => simp only [Option.map_some, List.length_cons, Nat.add_le_add_iff_right]; split <;> rfl

/-- What is good stays good if it is made smaller. -/
def Mono (n : Nat) (p : Int → Int → Bool) : Prop := ∀ b b' e' e : Nat, b ≤ b' → b' ≤ e' → e' ≤ e → e ≤ n → p b e = true → p b' e' = true

/-- A good cut without its first articles. -/
theorem good_drop {n : Nat} {p : Int → Int → Bool} (hp : Mono n p) : ∀ (c : List Int) (b b' : Nat), b ≤ b' → b' ≤ n → IsGood n p b c → ∃ c', IsGood n p b' c' ∧ c'.length ≤ c.length
  | [], b, b', h, h2, hg => ⟨[], by simp only [IsGood] at hg ⊢; omega, Nat.le_refl _⟩
  | e :: r, b, b', h, h2, hg => by
    obtain ⟨e', rfl, h3, h4, h5, h6⟩ := hg
    by_cases hb : b' < e'
    · exact ⟨(e' : Int) :: r, ⟨e', rfl, hb, h4, hp b b' e' e' h (by omega) (Nat.le_refl _) h4 h5, h6⟩, Nat.le_refl _⟩
    · obtain ⟨c', h7, h8⟩ := good_drop hp r e' b' (by omega) h2 h6
      exact ⟨c', h7, by simp only [List.length_cons]; omega⟩

/-- The last shortest good cut begins with the longest good volume. -/
theorem lastMin_goods {n : Nat} {p : Int → Int → Bool} (hp : Mono n p) {b E : Nat} (hb : b < E) (hE : E ≤ n) (h1 : p b E = true) (h2 : ∀ e, E < e → e ≤ n → p b e = false) {y : List Int} (hy : lastMin (goods n p E) = some y) :
    lastMin (goods n p b) = some ((E : Int) :: y) := by
  rw [goods_eq p (by omega), show n - b = (E - (b + 1)) + ((n - E) + 1) by omega, ← List.range'_append_1, List.flatMap_append]
  refine lastMin_append ?_ fun z hz => ?_
  · rw [show b + 1 + (E - (b + 1)) = E by omega, List.range'_succ, List.flatMap_cons, if_pos h1]
    have : ((List.range' (E + 1) (n - E)).flatMap fun (e : Nat) => if p b e = true then (goods n p e).map ((e : Int) :: ·) else []) = [] := by
      rw [List.flatMap_eq_nil_iff]
      intro e he
      simp only [List.mem_range'] at he
      obtain ⟨i, hi, rfl⟩ := he
      rw [if_neg (by rw [h2 _ (by omega) (by omega)]; simp)]
    rw [this, List.append_nil, lastMin_map, hy]; rfl
  · simp only [List.mem_flatMap, List.mem_range'] at hz
    obtain ⟨e, ⟨i, hi, rfl⟩, hz⟩ := hz
    split at hz
    · obtain ⟨r, hr, rfl⟩ := List.mem_map.1 hz
      have hr := (goods_iff n p _ _ rfl r).1 hr
      obtain ⟨c', h7, h8⟩ := good_drop hp r _ E (by omega) hE hr
      have := (lastMin_mem hy).2 c' ((goods_iff n p _ _ rfl c').2 h7)
      simp only [List.length_cons]
      omega
    · simp at hz

/-- Greedily. -/
theorem fill_goods (l : List Int) (room : Int) (n : Nat) (hp : Mono n (fun b e => decide (seg l b e ≤ room))) (hsing : ∀ e : Nat, 1 ≤ e → e ≤ n → seg l ((e : Int) - 1) e ≤ room) :
    ∀ (k b e : Nat) (out : List Int), e + k = n + 1 → b < e → (e = b + 1 ∨ seg l b ((e : Int) - 1) ≤ room) → b < n →
      ∃ r, fillFrom l room k b e out = some (out ++ r) ∧ lastMin (goods n (fun b e => decide (seg l b e ≤ room)) b) = some (r ++ [(n : Int)])
  | 0, b, e, out, hk, hbe, hpre, hbn => by
    refine ⟨[], by simp [fillFrom], ?_⟩
    have h1 : decide (seg l b n ≤ room) = true := by
      rcases hpre with h | h
      · have := hsing (b + 1) (by omega) (by omega)
        rw [show ((b + 1 : Nat) : Int) - 1 = b by omega] at this
        rw [show n = b + 1 by omega]; simpa using this
      · rw [show (e : Int) - 1 = n by omega] at h; simpa using h
    exact lastMin_goods hp hbn (Nat.le_refl _) h1 (fun e h1 h2 => by omega) (by rw [goods_end _ (Nat.le_refl _)]; rfl)
  | k + 1, b, e, out, hk, hbe, hpre, hbn => by
    simp only [fillFrom]
    rw [if_neg (by have := hsing e (by omega) (by omega); omega)]
    split
    · next hlt =>
      have hb1 : b < e - 1 := by
        rcases hpre with h | h
        · exfalso
          have := hsing e (by omega) (by omega)
          rw [h] at this hlt
          rw [show ((b + 1 : Nat) : Int) - 1 = b by omega] at this
          omega
        · rcases Nat.lt_or_ge b (e - 1) with h1 | h1
          · exact h1
          · exfalso
            have := hsing e (by omega) (by omega)
            rw [show (e : Int) - 1 = b by omega] at this
            omega
      have hE : seg l b ((e : Int) - 1) ≤ room := by
        rcases hpre with h | h
        · omega
        · exact h
      obtain ⟨r, h1, h2⟩ := fill_goods l room n hp hsing k (e - 1) (e + 1) (out ++ [(e : Int) - 1]) (by omega) (by omega) (.inr (by
        have := hsing e (by omega) (by omega)
        rw [show ((e - 1 : Nat) : Int) = (e : Int) - 1 by omega, show ((e + 1 : Nat) : Int) - 1 = e by omega]; exact this)) (by omega)
      refine ⟨((e : Int) - 1) :: r, by rw [h1]; simp, ?_⟩
      have := lastMin_goods hp (b := b) (E := e - 1) hb1 (by omega) (by rw [show ((e - 1 : Nat) : Int) = (e : Int) - 1 by omega]; simpa using hE) (fun e' h3 h4 => by
        rw [decide_eq_false_iff_not]
        intro h5
        have := hp b b e e' (Nat.le_refl _) (by omega) (by omega) h4 (by simpa using h5)
        simp at this; omega) h2
      rw [this, show ((e - 1 : Nat) : Int) = (e : Int) - 1 by omega]; rfl
    · next hlt =>
      exact fill_goods l room n hp hsing k b (e + 1) out (by omega) (by omega) (.inr (by rw [show ((e + 1 : Nat) : Int) - 1 = e by omega]; omega)) hbn


theorem sums_mono {l : List Int} (hl : ∀ x ∈ l, 0 ≤ x) : ∀ (s : Int) (i j : Nat), i ≤ j → j ≤ l.length → (sums s l).getD i 0 ≤ (sums s l).getD j 0 := by
  intro s i j hij hj
  have h1 : i < (sums s l).length := by rw [sums_len]; omega
  have h2 : j < (sums s l).length := by rw [sums_len]; omega
  rw [List.getD_eq_getElem?_getD, List.getD_eq_getElem?_getD, List.getElem?_eq_getElem h1, List.getElem?_eq_getElem h2]
  simp only [Option.getD_some, sums_get]
  have h3 : l.take j = l.take i ++ (l.take j).drop i := by
    have := List.take_append_drop i (l.take j)
    rw [List.take_take, Nat.min_eq_left hij] at this
    exact this.symm
  have h4 : ∀ m : List Int, (∀ x ∈ m, 0 ≤ x) → 0 ≤ m.sum := by
    intro m hm
    induction m with
    | nil => simp
    | cons x r ih => simp only [List.sum_cons]; have := hm x (by simp); have := ih (fun y hy => hm y (by simp [hy])); omega
  have h5 := h4 ((l.take j).drop i) (fun x hx => hl x (List.mem_of_mem_take (List.mem_of_mem_drop hx)))
  rw [h3, List.sum_append]
  omega
theorem seg_mono {l : List Int} (hl : ∀ x ∈ l, 0 ≤ x) (b b' e' e : Nat) (h1 : b ≤ b') (h2 : b' ≤ e') (h3 : e' ≤ e) (h4 : e ≤ l.length) : seg (sums 0 l) b' e' ≤ seg (sums 0 l) b e := by
  have q1 := sums_mono hl 0 b b' h1 (by omega)
  have q2 := sums_mono hl 0 e' e h3 h4
  unfold seg
  simp only [Int.toNat_natCast]
  omega
theorem mono_room {arts : List (Int × Int)} {room floor : Int} (hc : check arts room floor = 0) : Mono arts.length (fun b e => decide (seg (mosts arts) b e ≤ room)) := by
  obtain ⟨_, _, k3, _⟩ := check_zero hc
  intro b b' e' e h1 h2 h3 h4 h5
  simp only [decide_eq_true_eq] at h5 ⊢
  have := seg_mono (l := arts.map (·.2)) (by intro x hx; obtain ⟨a, ha, rfl⟩ := List.mem_map.1 hx; have := k3 a ha; omega) b b' e' e h1 h2 h3 (by simpa using h4)
  simp only [mosts] at h5 ⊢
  omega

/-- Each article of a good cut fits by itself. -/
theorem good_single {n : Nat} {p : Int → Int → Bool} (hp : Mono n p) : ∀ (c : List Int) (b e : Nat), IsGood n p b c → b < e → e ≤ n → p ((e : Int) - 1) e = true
  | [], b, e, hg, h1, h2 => by simp only [IsGood] at hg; omega
  | x :: r, b, e, hg, h1, h2 => by
    obtain ⟨x', rfl, h3, h4, h5, h6⟩ := hg
    by_cases h : e ≤ x'
    · have := hp b (e - 1) e x' (by omega) (by omega) h h4 h5
      rw [show ((e - 1 : Nat) : Int) = (e : Int) - 1 by omega] at this
      exact this
    · exact good_single hp r x' e h6 (by omega) h2
theorem fill_none (l : List Int) (room : Int) : ∀ (k b e : Nat) (out : List Int), (∃ e' : Nat, e ≤ e' ∧ e' < e + k ∧ room < seg l ((e' : Int) - 1) e') → fillFrom l room k b e out = none
  | 0, b, e, out, ⟨e', h1, h2, _⟩ => by omega
  | k + 1, b, e, out, ⟨e', h1, h2, h3⟩ => by
    simp only [fillFrom]
    by_cases h : room < seg l ((e : Int) - 1) e
    · rw [if_pos h]
    · rw [if_neg h]
      have : ∃ e' : Nat, e + 1 ≤ e' ∧ e' < (e + 1) + k ∧ room < seg l ((e' : Int) - 1) e' := by
        refine ⟨e', ?_, by omega, h3⟩
        rcases Nat.eq_or_lt_of_le h1 with h4 | h4
        · subst h4; exact absurd h3 h
        · exact h4
      split
      · exact fill_none l room k _ _ _ this
      · exact fill_none l room k _ _ _ this

theorem goodL_goods (arts : List (Int × Int)) (room floor : Int) (safe : Bool) : goodL arts room floor safe = goods arts.length (goodP arts room floor safe) 0 := rfl
theorem goods_congr {n : Nat} {p q : Int → Int → Bool} (h : ∀ b e, p b e = q b e) (b : Nat) : goods n p b = goods n q b := by
  unfold goods; exact List.filter_congr fun c _ => okC_congr h b c

/-- The program's cut with the fewest volumes is the reference's. -/
theorem fewest_eq (arts : List (Int × Int)) (room floor : Int) : fewestV arts room floor = fewestR arts room floor := by
  unfold fewestV fewestR
  by_cases p0 : check arts room floor = 0
  · rw [if_pos p0, if_pos p0]
    obtain ⟨g1, g2, g3, g4⟩ := mosts_ok p0
    have hg : goodL arts room floor false = goods arts.length (fun b e => decide (seg (mosts arts) b e ≤ room)) 0 := by
      rw [goodL_goods]; exact goods_congr (fun b e => by simp [goodP]) 0
    rw [hg]
    have hm := mono_room p0
    by_cases hs : ∀ e : Nat, 1 ≤ e → e ≤ arts.length → seg (mosts arts) ((e : Int) - 1) e ≤ room
    · obtain ⟨r, h1, h2⟩ := fill_goods (mosts arts) room arts.length hm hs arts.length 0 1 [] (by omega) (by omega) (.inl rfl) (by omega)
      have hf : filled (mosts arts) room = r ++ [(arts.length : Int)] := by
        unfold filled
        rw [g2, Nat.add_sub_cancel, h1]
        simp only [List.nil_append]
        congr 2; omega
      rw [if_neg (by rw [hf]; simp), hf]
      generalize goods arts.length (fun b e => decide (seg (mosts arts) b e ≤ room)) 0 = G at *
      cases G with
      | nil => simp [lastMin] at h2
      | cons x G =>
        rw [pickLe_cons] at h2
        simp only [Option.some.injEq] at h2
        simp only [h2]
    · have : ∃ e : Nat, 1 ≤ e ∧ e ≤ arts.length ∧ room < seg (mosts arts) ((e : Int) - 1) e := by
        apply Classical.byContradiction
        intro hn
        apply hs
        intro e h1 h2
        apply Classical.byContradiction
        intro h3
        exact hn ⟨e, h1, h2, by omega⟩
      obtain ⟨e, h1, h2, h3⟩ := this
      have hf : filled (mosts arts) room = [] := by
        unfold filled
        rw [g2, Nat.add_sub_cancel, fill_none (mosts arts) room arts.length 0 1 [] ⟨e, h1, by omega, h3⟩]
      have he : goods arts.length (fun b e => decide (seg (mosts arts) b e ≤ room)) 0 = [] := by
        rw [List.eq_nil_iff_forall_not_mem]
        intro c hc
        have := good_single hm c 0 e ((goods_iff _ _ _ 0 rfl c).1 hc) (by omega) h2
        simp at this; omega
      rw [if_pos hf, he]
  · rw [if_neg p0, if_neg p0]

/-! ### plans -/


/-- The lines of the longest volume of a cut. -/
def maxSeg (l : List Int) : Int → Int → List Int → Int
  | _, acc, [] => acc
  | b, acc, e :: r => maxSeg l e (max acc (seg l b e)) r
def levelF (l : List Int) (v best : Int) (L0 : List (List Int)) : Int := L0.foldl (fun best c => if (c.length : Int) ≤ v then min best (maxSeg l 0 0 c) else best) best

theorem loop34_0 (nl : Bool) (arts : List (Int × Int)) (room floor : Int) (hc : check arts room floor = 0) (v best : Int) (L0 : List (List Int)) (i : Nat) (hi : i < L0.length) (c : List Int) (hci : L0[i] = c) (hcl : c.length < 1000) (hcut : loopErr arts.length 0 c = 0) (j : Nat) (acc : Int) (hok : j ≤ c.length) (env : Env) (st : St)
    (hg : gcAV true 1 0 (canon env [1, 2, 7, 8, 9, 10, 11]) st = ([(1, I v), (2, .ptr 0 0), (7, I best), (8, sl 1 true (L0.map listAV)), (9, I i), (10, I acc), (11, I j)], ⟨[bookCells nl arts room floor], []⟩)) :
    ∃ x_1 en s, lim (headed pure (run L) true [1, 2, 7, 8, 9, 10, 11] lp34_0 1 0) env st = some (x_1, en, s) ∧ (x_1 = .exit 2 ∧ en.get 1 = I v ∧ en.get 2 = .ptr 0 0 ∧ en.get 7 = I best ∧ en.get 8 = sl 1 true (L0.map listAV) ∧ en.get 9 = I i ∧ en.get 10 = I (maxSeg (mosts arts) (beginOf c j) acc (c.drop j)) ∧ s = ⟨[bookCells nl arts room floor], []⟩) := by
  refine loop_wp (α := Nat × Int) (fun ⟨j, acc⟩ => c.length - j) (fun ⟨j, acc⟩ => j ≤ c.length) (fun ⟨j, acc⟩ => ([(1, I v), (2, .ptr 0 0), (7, I best), (8, sl 1 true (L0.map listAV)), (9, I i), (10, I acc), (11, I j)], ⟨[bookCells nl arts room floor], []⟩)) (fun ⟨j, acc⟩ x_1 en s => x_1 = .exit 2 ∧ en.get 1 = I v ∧ en.get 2 = .ptr 0 0 ∧ en.get 7 = I best ∧ en.get 8 = sl 1 true (L0.map listAV) ∧ en.get 9 = I i ∧ en.get 10 = I (maxSeg (mosts arts) (beginOf c j) acc (c.drop j)) ∧ s = ⟨[bookCells nl arts room floor], []⟩) (fun ⟨j, acc⟩ hok => ?_) ⟨j, acc⟩ hok env st hg
  simp only at hok
  have hx := index_lists true L0 i hi
  rw [hci] at hx
  by_cases q : (j : Int) < (c.length : Int)
  · have hxe := index_ints false c j (by omega)
    have hs := succ64 j (by omega)
    have h1 := ends_asc hcut j (by omega)
    have h2 := begin_nonneg hcut j hok
    have h3 := c78' nl arts room floor hc (beginOf c j) (c[j]'(by omega)) h2 (by omega) h1.2
    have h4 := c73 false c j hok hcl
    have hd : c.drop j = c[j]'(by omega) :: c.drop (j + 1) := List.drop_eq_getElem_cons (by omega)
    have hb := beginOf_succ c j (by omega)
    have hf : maxSeg (mosts arts) (beginOf c j) acc (c.drop j) = maxSeg (mosts arts) (beginOf c (j + 1)) (max acc (seg (mosts arts) (beginOf c j) (c[j]'(by omega)))) (c.drop (j + 1)) := by rw [hd, hb]; rfl
    have hok2 : j + 1 ≤ c.length := by omega
    have hmeas : c.length - (j + 1) < c.length - j := by omega
    simp only [go_sem, reduceIte, Nat.reduceEqDiff, Nat.reduceAdd, Nat.reduceSub, Nat.reduceLeDiff, Nat.reduceLT, reduceCtorEq, Int.reduceLT, Int.reduceLE, Int.reduceEq, Int.reduceBEq, Int.reduceSub, Int.reduceAdd, Int.reduceMul, Int.reduceNeg, Int.reduceToNat, Nat.reduceMul, Nat.reduceBEq, index_rsl_if, setm, make_ints, condK_dec, wantK_dec, not_dec, and_dec, or_dec, seqK_ite, seqK_none, blockK_ite, blockK_none, opsK_ite, opsK_none, stepK_ite, stepK_none, bodyK_ite, bodyK_none, resK_ite, resK_none, leaveK_ite, leaveK_none, only_ite, only_none, bind_ite, gives_some, gives_none, gives_ite, then_normal, then_ret, then_exit, then_none, then_ite, Option.bind_none, Bool.not_eq_true', decide_eq_false_iff_not, Bool.and_eq_true, Bool.or_eq_true, Option.some.injEq, Int.not_lt, Int.not_le, lp34_0, q, hx, hxe, hs, h3, h4, List.length_map]
    refine ⟨(j + 1, max acc (seg (mosts arts) (beginOf c j) (c[j]'(by omega)))), by simp only [go_sem, reduceIte, Nat.reduceEqDiff, Nat.reduceAdd, Nat.reduceSub, Nat.reduceLeDiff, Nat.reduceLT, reduceCtorEq, Int.reduceLT, Int.reduceLE, Int.reduceEq, Int.reduceBEq, Int.reduceSub, Int.reduceAdd, Int.reduceMul, Int.reduceNeg, Int.reduceToNat, Nat.reduceMul, Nat.reduceBEq, ren1_locm, loc_tips, locT_eq] <;> rfl, ?_, ?_, fun x en s hq => ?_⟩
    · exact hok2
    · exact hmeas
    · rw [hf]; exact hq
  · have hdn : c.drop j = [] := List.drop_eq_nil_of_le (by omega)
    simp only [go_sem, reduceIte, Nat.reduceEqDiff, Nat.reduceAdd, Nat.reduceSub, Nat.reduceLeDiff, Nat.reduceLT, reduceCtorEq, Int.reduceLT, Int.reduceLE, Int.reduceEq, Int.reduceBEq, Int.reduceSub, Int.reduceAdd, Int.reduceMul, Int.reduceNeg, Int.reduceToNat, Nat.reduceMul, Nat.reduceBEq, index_rsl_if, setm, make_ints, condK_dec, wantK_dec, not_dec, and_dec, or_dec, seqK_ite, seqK_none, blockK_ite, blockK_none, opsK_ite, opsK_none, stepK_ite, stepK_none, bodyK_ite, bodyK_none, resK_ite, resK_none, leaveK_ite, leaveK_none, only_ite, only_none, bind_ite, gives_some, gives_none, gives_ite, then_normal, then_ret, then_exit, then_none, then_ite, Option.bind_none, Bool.not_eq_true', decide_eq_false_iff_not, Bool.and_eq_true, Bool.or_eq_true, Option.some.injEq, Int.not_lt, Int.not_le, lp34_0, q, hx, List.length_map, hdn]
    rfl

theorem cut_len {n : Nat} (hn : n ≤ 12) {c : List Int} (h : c ∈ cutsOf n 0) : c.length < 1000 := by
  have h1 := (cuts_ok n n 0 rfl (by omega) _ h).1
  have : ∀ (n last : Int) (c : List Int), loopErr n last c = 0 → last + c.length ≤ n ∨ c = [] := by
    intro n last c
    induction c generalizing last with
    | nil => intro _; exact .inr rfl
    | cons e r ih =>
      intro h
      obtain ⟨q1, q2, q3, q4⟩ := loopErr_cons h
      rcases ih e q4 with h5 | h5
      · simp only [List.length_cons]; exact .inl (by omega)
      · subst h5; simp only [List.length_cons, List.length_nil]; exact .inl (by omega)
  rcases this _ _ _ h1 with h2 | h2
  · omega
  · rw [h2]; simp

theorem loop34_1 (nl : Bool) (arts : List (Int × Int)) (room floor : Int) (hc : check arts room floor = 0) (v : Int) (L0 : List (List Int)) (hL : L0 = cutsOf arts.length 0) (hlen : L0.length ≤ 5000) (i : Nat) (best : Int) (hok : i ≤ L0.length) (env : Env) (st : St)
    (hg : gcAV true 1 0 (canon env [1, 2, 7, 8, 9]) st = ([(1, I v), (2, .ptr 0 0), (7, I best), (8, sl 1 true (L0.map listAV)), (9, I i)], ⟨[bookCells nl arts room floor], []⟩)) :
    ∃ x_1 en s, lim (headed pure (run L) true [1, 2, 7, 8, 9] lp34_1 1 0) env st = some (x_1, en, s) ∧ (x_1 = .exit 0 ∧ en.get 7 = I (levelF (mosts arts) v best (L0.drop i))) := by
  refine loop_wp (α := Nat × Int) (fun ⟨i, best⟩ => L0.length - i) (fun ⟨i, best⟩ => i ≤ L0.length) (fun ⟨i, best⟩ => ([(1, I v), (2, .ptr 0 0), (7, I best), (8, sl 1 true (L0.map listAV)), (9, I i)], ⟨[bookCells nl arts room floor], []⟩)) (fun ⟨i, best⟩ x_1 en s => x_1 = .exit 0 ∧ en.get 7 = I (levelF (mosts arts) v best (L0.drop i))) (fun ⟨i, best⟩ hok => ?_) ⟨i, best⟩ hok env st hg
  simp only at hok
  obtain ⟨g1, g2, g3, g4⟩ := mosts_ok hc
  by_cases q : (i : Int) < (L0.length : Int)
  · have hx := index_lists true L0 i (by omega)
    have hs := succ64 i (by omega)
    have hmem : L0[i]'(by omega) ∈ cutsOf arts.length 0 := by rw [← hL]; exact List.getElem_mem _
    have hd : L0.drop i = L0[i]'(by omega) :: L0.drop (i + 1) := List.drop_eq_getElem_cons (by omega)
    have hok2 : i + 1 ≤ L0.length := by omega
    have hmeas : L0.length - (i + 1) < L0.length - i := by omega
    simp only [go_sem, reduceIte, Nat.reduceEqDiff, Nat.reduceAdd, Nat.reduceSub, Nat.reduceLeDiff, Nat.reduceLT, reduceCtorEq, Int.reduceLT, Int.reduceLE, Int.reduceEq, Int.reduceBEq, Int.reduceSub, Int.reduceAdd, Int.reduceMul, Int.reduceNeg, Int.reduceToNat, Nat.reduceMul, Nat.reduceBEq, index_rsl_if, setm, make_ints, condK_dec, wantK_dec, not_dec, and_dec, or_dec, seqK_ite, seqK_none, blockK_ite, blockK_none, opsK_ite, opsK_none, stepK_ite, stepK_none, bodyK_ite, bodyK_none, resK_ite, resK_none, leaveK_ite, leaveK_none, only_ite, only_none, bind_ite, gives_some, gives_none, gives_ite, then_normal, then_ret, then_exit, then_none, then_ite, Option.bind_none, Bool.not_eq_true', decide_eq_false_iff_not, Bool.and_eq_true, Bool.or_eq_true, Option.some.injEq, Int.not_lt, Int.not_le, lp34_1, q, List.length_map]
    have h1 := (cuts_ok arts.length arts.length 0 rfl (by omega) _ hmem).1
    simp only [Int.natCast_zero] at h1
    generalize hg : lim (headed pure (run L) true _ lp34_0 _ _) _ _ = o
    obtain ⟨x, en, s, rfl, h2⟩ : ∃ x en s, o = some (x, en, s) ∧ _ := by rw [← hg]; exact loop34_0 nl arts room floor hc v best L0 i (by omega) _ rfl (cut_len g4 hmem) h1 0 0 (Nat.zero_le _) _ _ (by simp only [go_sem, reduceIte, Nat.reduceEqDiff, Nat.reduceAdd, Nat.reduceSub, Nat.reduceLeDiff, Nat.reduceLT, reduceCtorEq, Int.reduceLT, Int.reduceLE, Int.reduceEq, Int.reduceBEq, Int.reduceSub, Int.reduceAdd, Int.reduceMul, Int.reduceNeg, Int.reduceToNat, Nat.reduceMul, Nat.reduceBEq] <;> rfl)
    clear hg
    obtain ⟨rfl, h3, h4, h5, h6, h7, h8, rfl⟩ := h2
    have hb0 : beginOf (L0[i]'(by omega)) 0 = 0 := rfl
    rw [hb0, List.drop_zero] at h8
    generalize L0[i]'(by omega) = c at *
    by_cases p : (c.length : Int) ≤ v
    · have hf : levelF (mosts arts) v best (L0.drop i) = levelF (mosts arts) v (min best (maxSeg (mosts arts) 0 0 c)) (L0.drop (i + 1)) := by rw [hd]; simp only [levelF, List.foldl_cons]; rw [if_pos p]
      simp only [go_sem, reduceIte, Nat.reduceEqDiff, Nat.reduceAdd, Nat.reduceSub, Nat.reduceLeDiff, Nat.reduceLT, reduceCtorEq, Int.reduceLT, Int.reduceLE, Int.reduceEq, Int.reduceBEq, Int.reduceSub, Int.reduceAdd, Int.reduceMul, Int.reduceNeg, Int.reduceToNat, Nat.reduceMul, Nat.reduceBEq, index_rsl_if, setm, make_ints, condK_dec, wantK_dec, not_dec, and_dec, or_dec, seqK_ite, seqK_none, blockK_ite, blockK_none, opsK_ite, opsK_none, stepK_ite, stepK_none, bodyK_ite, bodyK_none, resK_ite, resK_none, leaveK_ite, leaveK_none, only_ite, only_none, bind_ite, gives_some, gives_none, gives_ite, then_normal, then_ret, then_exit, then_none, then_ite, Option.bind_none, Bool.not_eq_true', decide_eq_false_iff_not, Bool.and_eq_true, Bool.or_eq_true, Option.some.injEq, Int.not_lt, Int.not_le, h3, h4, h5, h6, h7, h8, hx, p, hs, List.length_map]
      refine ⟨(i + 1, min best (maxSeg (mosts arts) 0 0 c)), by simp only [go_sem, reduceIte, Nat.reduceEqDiff, Nat.reduceAdd, Nat.reduceSub, Nat.reduceLeDiff, Nat.reduceLT, reduceCtorEq, Int.reduceLT, Int.reduceLE, Int.reduceEq, Int.reduceBEq, Int.reduceSub, Int.reduceAdd, Int.reduceMul, Int.reduceNeg, Int.reduceToNat, Nat.reduceMul, Nat.reduceBEq, ren1_locm, loc_tips, locT_eq, h3, h4, h5, h6, h7, h8] <;> rfl, ?_, ?_, fun x en s hq => ?_⟩
      · exact hok2
      · exact hmeas
      · rw [hf]; exact hq
    · have hf : levelF (mosts arts) v best (L0.drop i) = levelF (mosts arts) v best (L0.drop (i + 1)) := by rw [hd]; simp only [levelF, List.foldl_cons]; rw [if_neg p]
      simp only [go_sem, reduceIte, Nat.reduceEqDiff, Nat.reduceAdd, Nat.reduceSub, Nat.reduceLeDiff, Nat.reduceLT, reduceCtorEq, Int.reduceLT, Int.reduceLE, Int.reduceEq, Int.reduceBEq, Int.reduceSub, Int.reduceAdd, Int.reduceMul, Int.reduceNeg, Int.reduceToNat, Nat.reduceMul, Nat.reduceBEq, index_rsl_if, setm, make_ints, condK_dec, wantK_dec, not_dec, and_dec, or_dec, seqK_ite, seqK_none, blockK_ite, blockK_none, opsK_ite, opsK_none, stepK_ite, stepK_none, bodyK_ite, bodyK_none, resK_ite, resK_none, leaveK_ite, leaveK_none, only_ite, only_none, bind_ite, gives_some, gives_none, gives_ite, then_normal, then_ret, then_exit, then_none, then_ite, Option.bind_none, Bool.not_eq_true', decide_eq_false_iff_not, Bool.and_eq_true, Bool.or_eq_true, Option.some.injEq, Int.not_lt, Int.not_le, h3, h4, h5, h6, h7, h8, hx, p, hs, List.length_map]
      refine ⟨(i + 1, best), by simp only [go_sem, reduceIte, Nat.reduceEqDiff, Nat.reduceAdd, Nat.reduceSub, Nat.reduceLeDiff, Nat.reduceLT, reduceCtorEq, Int.reduceLT, Int.reduceLE, Int.reduceEq, Int.reduceBEq, Int.reduceSub, Int.reduceAdd, Int.reduceMul, Int.reduceNeg, Int.reduceToNat, Nat.reduceMul, Nat.reduceBEq, ren1_locm, loc_tips, locT_eq, h3, h4, h5, h6, h7, h8] <;> rfl, ?_, ?_, fun x en s hq => ?_⟩
      · exact hok2
      · exact hmeas
      · rw [hf]; exact hq
  · have hdn : L0.drop i = [] := List.drop_eq_nil_of_le (by omega)
    simp only [go_sem, reduceIte, Nat.reduceEqDiff, Nat.reduceAdd, Nat.reduceSub, Nat.reduceLeDiff, Nat.reduceLT, reduceCtorEq, Int.reduceLT, Int.reduceLE, Int.reduceEq, Int.reduceBEq, Int.reduceSub, Int.reduceAdd, Int.reduceMul, Int.reduceNeg, Int.reduceToNat, Nat.reduceMul, Nat.reduceBEq, index_rsl_if, setm, make_ints, condK_dec, wantK_dec, not_dec, and_dec, or_dec, seqK_ite, seqK_none, blockK_ite, blockK_none, opsK_ite, opsK_none, stepK_ite, stepK_none, bodyK_ite, bodyK_none, resK_ite, resK_none, leaveK_ite, leaveK_none, only_ite, only_none, bind_ite, gives_some, gives_none, gives_ite, then_normal, then_ret, then_exit, then_none, then_ite, Option.bind_none, Bool.not_eq_true', decide_eq_false_iff_not, Bool.and_eq_true, Bool.or_eq_true, Option.some.injEq, Int.not_lt, Int.not_le, lp34_1, q, List.length_map, hdn]
    rfl

def levelR (arts : List (Int × Int)) (room floor v : Int) : Int × Int :=
  if check arts room floor = 0 then
    (if v < 1 ∨ (arts.length : Int) < v then (0, 1) else (levelF (mosts arts) v (seg (mosts arts) 0 arts.length) (cutsOf arts.length 0), 0))
  else (0, check arts room floor)

theorem c34 (nl : Bool) (arts : List (Int × Int)) (room floor v : Int) (st : St) :
    run L 34 [bookAV nl arts room floor, I v] st = some (two (levelR arts room floor v), st) := by
  rw [run_pure (fn := ir34) rfl rfl]
  have hc := fun st => c26 nl arts room floor st
  unfold levelR
  by_cases p0 : check arts room floor = 0
  · rw [if_pos p0]
    obtain ⟨g1, g2, g3, g4⟩ := mosts_ok p0
    by_cases p1 : 1 ≤ v ∧ v ≤ (arts.length : Int)
    · rw [if_neg (by omega)]
      have h84 : ∀ st, run L 84 [I arts.length, .v (.slice none 0 0)] st = some (sl 1 true ((cutsOf arts.length 0).map listAV), st) := by
        intro st
        have := c84 arts.length g4 g3 (arts.length - 0) true [] 0 rfl (by omega) (by simp) rfl st
        rw [preL_nil] at this
        exact this
      have h78 := fun st => c78' nl arts room floor p0 0 arts.length (by omega) (by omega) (by omega) st
      have hlen := (cutsOf_len arts.length 12 0 (by omega)).1
      simp only [ir34, go_sem, reduceIte, Nat.reduceEqDiff, Nat.reduceAdd, Nat.reduceSub, Nat.reduceLeDiff, Nat.reduceLT, reduceCtorEq, Int.reduceLT, Int.reduceLE, Int.reduceEq, Int.reduceBEq, Int.reduceSub, Int.reduceAdd, Int.reduceMul, Int.reduceNeg, Int.reduceToNat, Nat.reduceMul, Nat.reduceBEq, hc, p0, c77, p1, h78, h84, List.length_map]
      generalize hg : lim (headed pure (run L) true _ lp34_1 _ _) _ _ = o
      obtain ⟨x, en, s, rfl, h2⟩ : ∃ x en s, o = some (x, en, s) ∧ _ := by rw [← hg]; exact loop34_1 nl arts room floor p0 v _ rfl (by omega) 0 (seg (mosts arts) 0 arts.length) (Nat.zero_le _) _ _ (by simp only [go_sem, reduceIte, Nat.reduceEqDiff, Nat.reduceAdd, Nat.reduceSub, Nat.reduceLeDiff, Nat.reduceLT, reduceCtorEq, Int.reduceLT, Int.reduceLE, Int.reduceEq, Int.reduceBEq, Int.reduceSub, Int.reduceAdd, Int.reduceMul, Int.reduceNeg, Int.reduceToNat, Nat.reduceMul, Nat.reduceBEq] <;> rfl)
      clear hg
      obtain ⟨rfl, h3⟩ := h2
      rw [List.drop_zero] at h3
      simp only [go_sem, reduceIte, Nat.reduceEqDiff, Nat.reduceAdd, Nat.reduceSub, Nat.reduceLeDiff, Nat.reduceLT, reduceCtorEq, Int.reduceLT, Int.reduceLE, Int.reduceEq, Int.reduceBEq, Int.reduceSub, Int.reduceAdd, Int.reduceMul, Int.reduceNeg, Int.reduceToNat, Nat.reduceMul, Nat.reduceBEq, h3]
    · rw [if_pos (by omega)]
      simp only [ir34, go_sem, reduceIte, Nat.reduceEqDiff, Nat.reduceAdd, Nat.reduceSub, Nat.reduceLeDiff, Nat.reduceLT, reduceCtorEq, Int.reduceLT, Int.reduceLE, Int.reduceEq, Int.reduceBEq, Int.reduceSub, Int.reduceAdd, Int.reduceMul, Int.reduceNeg, Int.reduceToNat, Nat.reduceMul, Nat.reduceBEq, hc, p0, c77, p1, List.length_map]
  · rw [if_neg p0]
    simp only [ir34, go_sem, reduceIte, Nat.reduceEqDiff, Nat.reduceAdd, Nat.reduceSub, Nat.reduceLeDiff, Nat.reduceLT, reduceCtorEq, Int.reduceLT, Int.reduceLE, Int.reduceEq, Int.reduceBEq, Int.reduceSub, Int.reduceAdd, Int.reduceMul, Int.reduceNeg, Int.reduceToNat, Nat.reduceMul, Nat.reduceBEq, hc, p0]

/-! ### the smallest room -/

theorem maxSeg_le (l : List Int) (room : Int) : ∀ (c : List Int) (b acc : Int), maxSeg l b acc c ≤ room ↔ acc ≤ room ∧ okC (fun b e => decide (seg l b e ≤ room)) b c = true
  | [], b, acc => by simp [maxSeg, okC]
  | e :: r, b, acc => by
    simp only [maxSeg, okC, Bool.and_eq_true, decide_eq_true_eq]
    rw [maxSeg_le l room r]
    constructor
    · rintro ⟨h1, h2⟩; exact ⟨by omega, by omega, h2⟩
    · rintro ⟨h1, h2, h3⟩; exact ⟨by omega, h3⟩
theorem levelF_le (l : List Int) (v : Int) : ∀ (L0 : List (List Int)) (best : Int), levelF l v best L0 ≤ best ∧ (∀ c ∈ L0, (c.length : Int) ≤ v → levelF l v best L0 ≤ maxSeg l 0 0 c) ∧
    (levelF l v best L0 = best ∨ ∃ c ∈ L0, (c.length : Int) ≤ v ∧ levelF l v best L0 = maxSeg l 0 0 c)
  | [], best => ⟨Int.le_refl _, by simp, .inl rfl⟩
  | x :: r, best => by
    have h := levelF_le l v r (if (x.length : Int) ≤ v then min best (maxSeg l 0 0 x) else best)
    have he : levelF l v best (x :: r) = levelF l v (if (x.length : Int) ≤ v then min best (maxSeg l 0 0 x) else best) r := rfl
    rw [he]
    obtain ⟨h1, h2, h3⟩ := h
    refine ⟨?_, ?_, ?_⟩
    · by_cases hx : (x.length : Int) ≤ v
      · rw [if_pos hx] at h1 ⊢; omega
      · rw [if_neg hx] at h1 ⊢; omega
    · intro c hc hl
      rcases List.mem_cons.1 hc with rfl | hc
      · rw [if_pos hl] at h1 ⊢; omega
      · exact h2 c hc hl
    · rcases h3 with h3 | ⟨c, h3, h4, h5⟩
      · split at h3
        · next hx =>
          rw [if_pos hx] at *
          by_cases hm : best ≤ maxSeg l 0 0 x
          · left; omega
          · right; exact ⟨x, by simp, hx, by omega⟩
        · next hx => rw [if_neg hx] at *; left; exact h3
      · right; exact ⟨c, by simp [h3], h4, h5⟩

theorem halve_eq (p : Int → Prop) [DecidablePred p] (m : Int) : ∀ (k : Nat) (low high : Int), low ≤ m → m ≤ high → high - low ≤ k → (∀ r, low ≤ r → (p r ↔ m ≤ r)) → halve p k low high = m
  | 0, low, high, h1, h2, h3, _ => by simp only [halve]; omega
  | k + 1, low, high, h1, h2, h3, h4 => by
    simp only [halve]
    by_cases h : low < high
    · rw [if_pos h]
      have hp := h4 ((low + high) / 2) (by omega)
      by_cases hq : p ((low + high) / 2)
      · rw [if_pos hq]
        exact halve_eq p m k low _ h1 (hp.1 hq) (by omega) h4
      · rw [if_neg hq]
        have : ¬ m ≤ (low + high) / 2 := fun h => hq (hp.2 h)
        exact halve_eq p m k _ high (by omega) h2 (by omega) (fun r hr => h4 r (by omega))
    · rw [if_neg h]; omega

/-- With some room so many volumes are enough just if a cut says so. -/
theorem fits_iff {arts : List (Int × Int)} {room0 floor : Int} (hc : check arts room0 floor = 0) (v room : Int) :
    fits (mosts arts) v room ↔ ∃ c ∈ cutsOf arts.length 0, (c.length : Int) ≤ v ∧ okC (fun b e => decide (seg (mosts arts) b e ≤ room)) 0 c = true := by
  obtain ⟨g1, g2, g3, g4⟩ := mosts_ok hc
  obtain ⟨_, _, k3, _⟩ := check_zero hc
  have hm : Mono arts.length (fun b e => decide (seg (mosts arts) b e ≤ room)) := by
    intro b b' e' e h1 h2 h3 h4 h5
    simp only [decide_eq_true_eq] at h5 ⊢
    have := seg_mono (l := arts.map (·.2)) (by intro x hx; obtain ⟨a, ha, rfl⟩ := List.mem_map.1 hx; have := k3 a ha; omega) b b' e' e h1 h2 h3 (by simpa using h4)
    simp only [mosts] at h5 ⊢
    omega
  have hmem : ∀ c, c ∈ goods arts.length (fun b e => decide (seg (mosts arts) b e ≤ room)) 0 ↔ c ∈ cutsOf arts.length 0 ∧ okC (fun b e => decide (seg (mosts arts) b e ≤ room)) 0 c = true := by
    intro c; unfold goods; rw [List.mem_filter]; rfl
  by_cases hs : ∀ e : Nat, 1 ≤ e → e ≤ arts.length → seg (mosts arts) ((e : Int) - 1) e ≤ room
  · obtain ⟨r, h1, h2⟩ := fill_goods (mosts arts) room arts.length hm hs arts.length 0 1 [] (by omega) (by omega) (.inl rfl) (by omega)
    have hf : filled (mosts arts) room = r ++ [(arts.length : Int)] := by
      unfold filled
      rw [g2, Nat.add_sub_cancel, h1]
      simp only [List.nil_append]
      congr 2; omega
    obtain ⟨q1, q2⟩ := lastMin_mem h2
    unfold fits
    rw [hf]
    constructor
    · rintro ⟨_, h⟩
      have := (hmem _).1 q1
      exact ⟨_, this.1, h, this.2⟩
    · rintro ⟨c, h3, h4, h5⟩
      have := q2 c ((hmem c).2 ⟨h3, h5⟩)
      exact ⟨by simp, by omega⟩
  · have : ∃ e : Nat, 1 ≤ e ∧ e ≤ arts.length ∧ room < seg (mosts arts) ((e : Int) - 1) e := by
      apply Classical.byContradiction
      intro hn
      apply hs
      intro e h1 h2
      apply Classical.byContradiction
      intro h3
      exact hn ⟨e, h1, h2, by omega⟩
    obtain ⟨e, h1, h2, h3⟩ := this
    have hf : filled (mosts arts) room = [] := by
      unfold filled
      rw [g2, Nat.add_sub_cancel, fill_none (mosts arts) room arts.length 0 1 [] ⟨e, h1, by omega, h3⟩]
    unfold fits
    rw [hf]
    constructor
    · rintro ⟨h, _⟩; exact absurd rfl h
    · rintro ⟨c, h4, h5, h6⟩
      exfalso
      have := good_single hm c 0 e ((goods_iff _ _ _ 0 rfl c).1 ((hmem c).2 ⟨h4, h6⟩)) (by omega) h2
      simp at this; omega

theorem all_in_one {n : Nat} (h : 0 < n) : [(n : Int)] ∈ cutsOf n 0 := by
  rw [cutsOf_eq h, List.mem_flatMap]
  exact ⟨n, by simp [List.mem_range']; exact ⟨n - 1, by omega, by omega⟩, by rw [cutsOf_end (Nat.le_refl _)]; simp⟩

theorem seg_pos {arts : List (Int × Int)} {room floor : Int} (hc : check arts room floor = 0) (b e : Nat) (h : b < e) (he : e ≤ arts.length) : 1 ≤ seg (mosts arts) b e := by
  obtain ⟨_, _, k3, _⟩ := check_zero hc
  have h1 := seg_mono (l := arts.map (·.2)) (by intro x hx; obtain ⟨a, ha, rfl⟩ := List.mem_map.1 hx; have := k3 a ha; omega) b b (b + 1) e (Nat.le_refl _) (by omega) (by omega) (by simpa using he)
  have h2 := seg_sums (·.2) arts b ((b + 1 : Nat) : Int) (by omega) (by omega) (by omega)
  rw [Int.toNat_natCast, Int.toNat_natCast, sumSeg_step _ _ _ _ (by omega) (by omega), sumSeg_end _ _ _ _ (by omega)] at h2
  have := k3 _ (List.getElem_mem (show b < arts.length by omega))
  simp only [mosts] at *
  omega

theorem level_eq (arts : List (Int × Int)) (room floor v : Int) : levelV arts room floor v = levelR arts room floor v := by
  unfold levelV levelR
  by_cases p0 : check arts room floor = 0
  · rw [if_pos p0, if_pos p0]
    by_cases p1 : v < 1 ∨ (arts.length : Int) < v
    · rw [if_pos p1, if_pos p1]
    · rw [if_neg p1, if_neg p1]
      obtain ⟨g1, g2, g3, g4⟩ := mosts_ok p0
      have hseg : seg (mosts arts) 0 arts.length = (mosts arts).getD arts.length 0 := by
        have : (mosts arts).getD 0 0 = 0 := by unfold mosts; cases arts <;> rfl
        unfold seg
        simp only [Int.toNat_natCast, Int.toNat_zero, this]; omega
      obtain ⟨h1, h2, h3⟩ := levelF_le (mosts arts) v (cutsOf arts.length 0) (seg (mosts arts) 0 arts.length)
      have hone := all_in_one (n := arts.length) (by omega)
      have hmax : maxSeg (mosts arts) 0 0 [(arts.length : Int)] = seg (mosts arts) 0 arts.length := by
        have := seg_pos p0 0 arts.length (by omega) (by omega)
        simp only [maxSeg, Int.natCast_zero] at this ⊢; omega
      have hwit : ∃ c ∈ cutsOf arts.length 0, (c.length : Int) ≤ v ∧ levelF (mosts arts) v (seg (mosts arts) 0 arts.length) (cutsOf arts.length 0) = maxSeg (mosts arts) 0 0 c := by
        rcases h3 with h3 | h3
        · exact ⟨_, hone, by simp; omega, by rw [h3, hmax]⟩
        · exact h3
      obtain ⟨c, hc1, hc2, hc3⟩ := hwit
      have hpos : 1 ≤ levelF (mosts arts) v (seg (mosts arts) 0 arts.length) (cutsOf arts.length 0) := by
        rw [hc3]
        have hg : IsGood arts.length (fun _ _ => true) 0 c := by
          rw [← goods_iff arts.length (fun _ _ => true) _ 0 rfl]
          unfold goods
          rw [List.mem_filter]
          refine ⟨hc1, ?_⟩
          have : ∀ (b : Int) (c : List Int), okC (fun _ _ => true) b c = true := by
            intro b c
            induction c generalizing b with
            | nil => rfl
            | cons e r ih => simp [okC, ih]
          exact this _ _
        cases c with
        | nil => simp only [IsGood] at hg; omega
        | cons e r =>
          obtain ⟨e', rfl, q1, q2, _, _⟩ := hg
          have := seg_pos p0 0 e' q1 q2
          simp only [Int.natCast_zero] at this
          have hle := (maxSeg_le (mosts arts) (maxSeg (mosts arts) 0 0 ((e' : Int) :: r)) ((e' : Int) :: r) 0 0).1 (Int.le_refl _)
          simp only [okC, Bool.and_eq_true, decide_eq_true_eq] at hle
          omega
      generalize levelF (mosts arts) v (seg (mosts arts) 0 arts.length) (cutsOf arts.length 0) = m at *
      have hb : (mosts arts).getD arts.length 0 ≤ 100000 := by
        rw [List.getD_eq_getElem?_getD, List.getElem?_eq_getElem (show arts.length < (mosts arts).length by omega)]
        exact (g1 _ (List.getElem_mem _)).2
      rw [halve_eq (fits (mosts arts) v) m 100000 1 _ hpos (by omega) (by omega) fun r hr => ?_]
      rw [fits_iff p0]
      constructor
      · rintro ⟨c', q1, q2, q3⟩
        have := (maxSeg_le (mosts arts) r c' 0 0).2 ⟨by omega, q3⟩
        have := h2 c' q1 q2
        omega
      · intro hmr
        exact ⟨c, hc1, hc2, ((maxSeg_le (mosts arts) r c 0 0).1 (by omega)).2⟩
  · rw [if_neg p0, if_neg p0]


theorem fewest_len (arts : List (Int × Int)) (room floor : Int) : (fewestV arts room floor).1.length < 1000000 := by
  unfold fewestV
  split
  · next p0 =>
    obtain ⟨g1, g2, g3, g4⟩ := mosts_ok p0
    have : (filled (mosts arts) room).length ≤ 20 := by
      unfold filled
      split
      · simp
      · next r h =>
        have := fillFrom_len _ _ _ _ _ _ _ h
        simp only [List.length_nil] at this
        simp only [List.length_append, List.length_cons, List.length_nil]; omega
    split
    · simp
    · simp only; omega
  · simp
theorem c4 (nl : Bool) (arts : List (Int × Int)) (room floor v : Int) (st : St) :
    run L 4 [bookAV nl arts room floor, I v] st = some (B true, st) := by
  rw [run_pure (fn := ir4) rfl rfl]
  by_cases p1 : 40 < (arts.length : Int)
  · simp only [ir4, go_sem, reduceIte, Nat.reduceEqDiff, Nat.reduceAdd, Nat.reduceSub, Nat.reduceLeDiff, Nat.reduceLT, reduceCtorEq, Int.reduceLT, Int.reduceLE, Int.reduceEq, Int.reduceBEq, Int.reduceSub, Int.reduceAdd, Int.reduceMul, Int.reduceNeg, Int.reduceToNat, Nat.reduceMul, Nat.reduceBEq, p1, c17, List.length_map]
  · have h18 := fun st => c18 nl arts (by omega) room floor st
    have h31 := fun st => c31 nl arts room floor st
    have h32 := fun st => c32 true arts room floor st
    have h33 := fun st => c33 nl arts room floor v st
    have h34 := fun st => c34 true arts room floor v st
    rw [← fewest_eq] at h32
    rw [← level_eq] at h34
    have h35 := fun b st => c35 true b (fewestV arts room floor).1 (fewestV arts room floor).1 (fewest_len _ _ _) st
    simp only [ir4, go_sem, reduceIte, Nat.reduceEqDiff, Nat.reduceAdd, Nat.reduceSub, Nat.reduceLeDiff, Nat.reduceLT, reduceCtorEq, Int.reduceLT, Int.reduceLE, Int.reduceEq, Int.reduceBEq, Int.reduceSub, Int.reduceAdd, Int.reduceMul, Int.reduceNeg, Int.reduceToNat, Nat.reduceMul, Nat.reduceBEq, p1, c17, List.length_map, h18, h31, h32, h33, h34, h35]


/-- A book by numbers. -/
abbrev U (n : Int) : AV := .v (.int .u8 n)
structure Shelf where
  many : Int
  room : Int
  floor : Int
  least : List Int
  more : List Int
def Byte (n : Int) : Prop := 0 ≤ n ∧ n ≤ 255
def Shelf.ok (s : Shelf) : Prop := Byte s.many ∧ Byte s.room ∧ Byte s.floor ∧ s.least.length = 12 ∧ s.more.length = 12 ∧ (∀ n ∈ s.least, Byte n) ∧ ∀ n ∈ s.more, Byte n
def Shelf.cells (s : Shelf) : List AV := U s.many :: U s.room :: U s.floor :: (s.least.map U ++ s.more.map U)
abbrev Shelf.av (s : Shelf) : AV := .agg s.cells

theorem shelf_len {s : Shelf} (h : s.ok) : s.cells.length = 27 := by
  obtain ⟨_, _, _, h1, h2, _⟩ := h
  simp [Shelf.cells, h1, h2]
theorem shelf_take {s : Shelf} (h : s.ok) : s.cells.take 27 = s.cells := List.take_of_length_le (by rw [shelf_len h]; omega)
theorem shelf_storable (s : Shelf) : s.cells.all storable = true := by
  simp [Shelf.cells, storable_int]
theorem pubs_append : ∀ (a b : List AV), pubs (a ++ b) = pubs a ++ pubs b
  | [], _ => rfl
  | x :: r, b => by simp only [List.cons_append, pubs, pubs_append r b]
theorem pubs_shelf (s : Shelf) : pubs s.cells = s.cells := by
  simp only [Shelf.cells, pubs, pub, pubs_append]
  rw [pubs_map U (fun _ => rfl), pubs_map U (fun _ => rfl)]
theorem okRefs_append (n : Nat) : ∀ (a b : List AV), okRefs n (a ++ b) = (okRefs n a && okRefs n b)
  | [], _ => by simp [okRefs]
  | x :: r, b => by simp only [List.cons_append, okRefs, okRefs_append n r b, Bool.and_assoc]
theorem okRefs_shelf (n : Nat) (s : Shelf) : okRefs n s.cells = true := by
  simp only [Shelf.cells, okRefs, okRef, okRefs_append, okRefs_map U n (fun _ => rfl)]; rfl
theorem renCells_append (n : Nat) (tips : List Nat) : ∀ (a b : List AV) acc, renCells n tips acc (a ++ b) = ((renCells n tips acc a).1 ++ (renCells n tips (renCells n tips acc a).2 b).1, (renCells n tips (renCells n tips acc a).2 b).2)
  | [], _, _ => rfl
  | x :: r, b, acc => by simp only [List.cons_append, renCells, renCells_append n tips r b]
theorem renCells_shelf (n : Nat) (tips : List Nat) (acc : List (Nat × Nat)) (s : Shelf) : renCells n tips acc s.cells = (s.cells, acc) := by
  simp only [Shelf.cells, renCells, ren1, renCells_append, renCells_map U n tips (fun _ _ => rfl)]
theorem shelf_0 (s : Shelf) : s.cells[0]? = some (U s.many) := rfl
theorem shelf_1 (s : Shelf) : s.cells[1]? = some (U s.room) := rfl
theorem shelf_2 (s : Shelf) : s.cells[2]? = some (U s.floor) := rfl
theorem shelf_least {s : Shelf} (h : s.ok) (i : Nat) (hi : i < 12) : s.cells[3 + i]? = some (U (s.least.getD i 0)) := by
  obtain ⟨_, _, _, h1, h2, _⟩ := h
  rw [show 3 + i = i + 1 + 1 + 1 by omega]
  simp only [Shelf.cells, List.getElem?_cons_succ]
  rw [List.getElem?_append_left (by simp; omega)]
  simp [List.getD_eq_getElem?_getD, List.getElem?_eq_getElem (show i < s.least.length by omega)]
theorem shelf_more {s : Shelf} (h : s.ok) (i : Nat) (hi : i < 12) : s.cells[15 + i]? = some (U (s.more.getD i 0)) := by
  obtain ⟨_, _, _, h1, h2, _⟩ := h
  rw [show 15 + i = (12 + i) + 1 + 1 + 1 by omega]
  simp only [Shelf.cells, List.getElem?_cons_succ]
  rw [List.getElem?_append_right (by simp; omega)]
  simp [h1, List.getD_eq_getElem?_getD, List.getElem?_eq_getElem (show i < s.more.length by omega)]
theorem byte_getD {l : List Int} (h : ∀ n ∈ l, Byte n) (i : Nat) : Byte (l.getD i 0) := by
  rw [List.getD_eq_getElem?_getD]
  by_cases hi : i < l.length
  · rw [List.getElem?_eq_getElem hi]; exact h _ (List.getElem_mem hi)
  · rw [List.getElem?_eq_none (by omega)]; exact ⟨by simp, by simp⟩

/-- An article out of two numbers. -/
def artOf (lines l m : Int) : Int × Int := (1 + l % lines, 1 + l % lines + m % (lines - (1 + l % lines) + 1))
def Shelf.arts (s : Shelf) (lines : Int) (n : Nat) : List (Int × Int) := (List.range n).map fun i => artOf lines (s.least.getD i 0) (s.more.getD i 0)
def longest (l : List (Int × Int)) : Int := l.foldl (fun n a => max n a.2) 1
theorem arts_succ (s : Shelf) (lines : Int) (n : Nat) : s.arts lines (n + 1) = s.arts lines n ++ [artOf lines (s.least.getD n 0) (s.more.getD n 0)] := by
  simp [Shelf.arts, List.range_succ]
theorem arts_len (s : Shelf) (lines : Int) (n : Nat) : (s.arts lines n).length = n := by simp [Shelf.arts]
theorem longest_snoc (l : List (Int × Int)) (a : Int × Int) : longest (l ++ [a]) = max (longest l) a.2 := by simp [longest]
theorem mod_range (a b : Int) (hb : 0 < b) : 0 ≤ a % b ∧ a % b < b := ⟨Int.emod_nonneg a (by omega), Int.emod_lt_of_pos a hb⟩
theorem artOf_ok {lines : Int} (hl : 0 < lines) (l m : Int) : 1 ≤ (artOf lines l m).1 ∧ (artOf lines l m).1 ≤ (artOf lines l m).2 ∧ (artOf lines l m).2 ≤ lines := by
  have h1 := mod_range l lines hl
  have h2 := mod_range m (lines - (1 + l % lines) + 1) (by omega)
  simp only [artOf]; omega
theorem arts_ok (s : Shelf) {lines : Int} (hl : 0 < lines) (n : Nat) : ∀ a ∈ s.arts lines n, 1 ≤ a.1 ∧ a.1 ≤ a.2 ∧ a.2 ≤ lines := by
  intro a ha
  simp only [Shelf.arts, List.mem_map] at ha
  obtain ⟨i, _, rfl⟩ := ha
  exact artOf_ok hl _ _
theorem longest_ok : ∀ (l : List (Int × Int)) (n : Int), 1 ≤ n → (∀ a ∈ l, a.2 ≤ n) → 1 ≤ longest l ∧ longest l ≤ n ∧ ∀ a ∈ l, a.2 ≤ longest l := by
  have key : ∀ (l : List (Int × Int)) (b n : Int), b ≤ n → (∀ a ∈ l, a.2 ≤ n) → b ≤ l.foldl (fun n a => max n a.2) b ∧ l.foldl (fun n a => max n a.2) b ≤ n ∧ ∀ a ∈ l, a.2 ≤ l.foldl (fun n a => max n a.2) b := by
    intro l
    induction l with
    | nil => intro b n hb _; simp; exact hb
    | cons a r ih =>
      intro b n hb ha
      have h1 := ha a (by simp)
      obtain ⟨h2, h3, h4⟩ := ih (max b a.2) n (by omega) (fun x hx => ha x (by simp [hx]))
      simp only [List.foldl_cons]
      refine ⟨by omega, h3, fun x hx => ?_⟩
      rcases List.mem_cons.1 hx with rfl | hx
      · omega
      · exact h4 x hx
  intro l n h1 h2
  exact key l 1 n h1 h2

theorem loop45 (s0 : Shelf) (hs0 : s0.ok) (lines : Int) (hl : 1 ≤ lines) (hl2 : lines ≤ 30) (cnt : Nat) (hcnt : cnt ≤ 12) (i : Nat) (hok : i ≤ cnt) (env : Env) (st : St)
    (hg : gcAV true 3 0 (canon env [2, 3, 6, 7, 8, 17, 18]) st = ([(2, I lines), (3, .ptr 0 0), (6, .ptr 1 0), (7, .ptr 2 0), (8, I (longest (s0.arts lines i))), (17, I cnt), (18, I i)], ⟨[s0.cells, [.v (.slice none 0 0), I 0, I 0], [loc 2 0 ((s0.arts lines i).map artAV), I 0, I 0]], locT 0 ((s0.arts lines i).map artAV)⟩)) :
    ∃ x_1 en s, lim (headed pure (run L) true [2, 3, 6, 7, 8, 17, 18] lp45_0 3 0) env st = some (x_1, en, s) ∧ (x_1 = .exit 0 ∧ en.get 2 = I lines ∧ en.get 3 = .ptr 0 0 ∧ en.get 6 = .ptr 1 0 ∧ en.get 7 = .ptr 2 0 ∧ en.get 8 = I (longest (s0.arts lines cnt)) ∧ s.store = [s0.cells, [.v (.slice none 0 0), I 0, I 0], [loc 2 0 ((s0.arts lines cnt).map artAV), I 0, I 0]]) := by
  refine loop_wp (α := Nat) (fun i => cnt - i) (fun i => i ≤ cnt) (fun i => ([(2, I lines), (3, .ptr 0 0), (6, .ptr 1 0), (7, .ptr 2 0), (8, I (longest (s0.arts lines i))), (17, I cnt), (18, I i)], ⟨[s0.cells, [.v (.slice none 0 0), I 0, I 0], [loc 2 0 ((s0.arts lines i).map artAV), I 0, I 0]], locT 0 ((s0.arts lines i).map artAV)⟩)) (fun i x_1 en s => x_1 = .exit 0 ∧ en.get 2 = I lines ∧ en.get 3 = .ptr 0 0 ∧ en.get 6 = .ptr 1 0 ∧ en.get 7 = .ptr 2 0 ∧ en.get 8 = I (longest (s0.arts lines cnt)) ∧ s.store = [s0.cells, [.v (.slice none 0 0), I 0, I 0], [loc 2 0 ((s0.arts lines cnt).map artAV), I 0, I 0]]) (fun i hok => ?_) i hok env st hg
  by_cases q : (i : Int) < (cnt : Int)
  · have hs := succ64 i (by omega)
    have x0 : (0 ≤ (i : Int)) = True := eq_true (by omega)
    have x1 : ((i : Int) < 12) = True := eq_true (by omega)
    have hL := shelf_least hs0 i (by omega)
    have hM := shelf_more hs0 i (by omega)
    have bL := byte_getD hs0.2.2.2.2.2.1 i
    have bM := byte_getD hs0.2.2.2.2.2.2 i
    have hsucc := arts_succ s0 lines i
    have hlen := arts_len s0 lines i
    have hlo := longest_ok (s0.arts lines i) lines hl (fun a ha => (arts_ok s0 (by omega) i a ha).2.2)
    have hao := artOf_ok (show 0 < lines by omega) (s0.least.getD i 0) (s0.more.getD i 0)
    have hlg : longest (s0.arts lines (i + 1)) = max (longest (s0.arts lines i)) (artOf lines (s0.least.getD i 0) (s0.more.getD i 0)).2 := by rw [hsucc, longest_snoc]
    have happ := append_locm (z := 2) (k := 0) artAV (s0.arts lines i) (artOf lines (s0.least.getD i 0) (s0.more.getD i 0)) [s0.cells, [.v (.slice none 0 0), I 0, I 0], [loc 2 0 ((s0.arts lines i).map artAV), I 0, I 0], [I (artOf lines (s0.least.getD i 0) (s0.more.getD i 0)).1, I (artOf lines (s0.least.getD i 0) (s0.more.getD i 0)).2]] (by omega) (by rw [hlen]; simp [maxGrow]; omega)
    rw [← hsucc] at happ
    generalize hl0 : s0.least.getD i 0 = l at *
    generalize hm0 : s0.more.getD i 0 = m at *
    unfold Byte at bL bM
    have r1 := mod_range l lines (by omega)
    have r2 := mod_range m (lines - (1 + l % lines) + 1) (by omega)
    have w1 := wrap64 l (by omega) (by omega)
    have w2 := wrap64 m (by omega) (by omega)
    have t1 : l.tmod lines = l % lines := Int.tmod_eq_emod_of_nonneg (by omega)
    have w3 := wrap64 (1 + l % lines) (by omega) (by omega)
    have w4 := wrap64 (lines - (1 + l % lines)) (by omega) (by omega)
    have w5 := wrap64 (lines - (1 + l % lines) + 1) (by omega) (by omega)
    have t2 : m.tmod (lines - (1 + l % lines) + 1) = m % (lines - (1 + l % lines) + 1) := Int.tmod_eq_emod_of_nonneg (by omega)
    have w6 := wrap64 (1 + l % lines + m % (lines - (1 + l % lines) + 1)) (by omega) (by omega)
    have z1 : (lines = 0) = False := eq_false (by omega)
    have z2 : (lines - (1 + l % lines) + 1 = 0) = False := eq_false (by omega)
    simp only [artOf] at happ hlg
    simp only [go_sem, reduceIte, Nat.reduceEqDiff, Nat.reduceAdd, Nat.reduceSub, Nat.reduceLeDiff, Nat.reduceLT, reduceCtorEq, Int.reduceLT, Int.reduceLE, Int.reduceEq, Int.reduceBEq, Int.reduceSub, Int.reduceAdd, Int.reduceMul, Int.reduceNeg, Int.reduceToNat, Nat.reduceMul, Nat.reduceBEq, index_rsl_if, setm, make_ints, condK_dec, wantK_dec, not_dec, and_dec, or_dec, seqK_ite, seqK_none, blockK_ite, blockK_none, opsK_ite, opsK_none, stepK_ite, stepK_none, bodyK_ite, bodyK_none, resK_ite, resK_none, leaveK_ite, leaveK_none, only_ite, only_none, bind_ite, gives_some, gives_none, gives_ite, then_normal, then_ret, then_exit, then_none, then_ite, Option.bind_none, Bool.not_eq_true', decide_eq_false_iff_not, Bool.and_eq_true, Bool.or_eq_true, Option.some.injEq, Int.not_lt, Int.not_le, lp45_0, q, hs, x0, x1, hL, hM, w1, w2, w3, w4, w5, w6, t1, t2, z1, z2, happ]
    refine ⟨i + 1, by simp only [go_sem, reduceIte, Nat.reduceEqDiff, Nat.reduceAdd, Nat.reduceSub, Nat.reduceLeDiff, Nat.reduceLT, reduceCtorEq, Int.reduceLT, Int.reduceLE, Int.reduceEq, Int.reduceBEq, Int.reduceSub, Int.reduceAdd, Int.reduceMul, Int.reduceNeg, Int.reduceToNat, Nat.reduceMul, Nat.reduceBEq, ren1_locm, loc_tips, locT_eq, hlg, okRefs_shelf, renCells_shelf] <;> rfl, ?_, ?_, fun x en s hq => ?_⟩
    · omega
    · omega
    · exact hq
  · obtain rfl : i = cnt := by omega
    simp only [go_sem, reduceIte, Nat.reduceEqDiff, Nat.reduceAdd, Nat.reduceSub, Nat.reduceLeDiff, Nat.reduceLT, reduceCtorEq, Int.reduceLT, Int.reduceLE, Int.reduceEq, Int.reduceBEq, Int.reduceSub, Int.reduceAdd, Int.reduceMul, Int.reduceNeg, Int.reduceToNat, Nat.reduceMul, Nat.reduceBEq, index_rsl_if, setm, make_ints, condK_dec, wantK_dec, not_dec, and_dec, or_dec, seqK_ite, seqK_none, blockK_ite, blockK_none, opsK_ite, opsK_none, stepK_ite, stepK_none, bodyK_ite, bodyK_none, resK_ite, resK_none, leaveK_ite, leaveK_none, only_ite, only_none, bind_ite, gives_some, gives_none, gives_ite, then_normal, then_ret, then_exit, then_none, then_ite, Option.bind_none, Bool.not_eq_true', decide_eq_false_iff_not, Bool.and_eq_true, Bool.or_eq_true, Option.some.injEq, Int.not_lt, Int.not_le, lp45_0, q]

def madeN (s : Shelf) (many : Int) : Nat := (1 + s.many % many).toNat
def madeArts (s : Shelf) (many lines : Int) : List (Int × Int) := s.arts lines (madeN s many)
def madeRoom (s : Shelf) (many lines : Int) : Int := min 100 (longest (madeArts s many lines) + s.room % (3 * lines))
def madeFloor (s : Shelf) (many lines : Int) : Int := s.floor % (madeRoom s many lines + 1)

/-- What is known of a book that is made. -/
theorem made_ok {s : Shelf} {many lines : Int} (hm : 1 ≤ many) (hm2 : many ≤ 12) (hl : 1 ≤ lines) (hl2 : lines ≤ 30) :
    1 ≤ (madeArts s many lines).length ∧ ((madeArts s many lines).length : Int) ≤ many ∧ (∀ a ∈ madeArts s many lines, 1 ≤ a.1 ∧ a.1 ≤ a.2 ∧ a.2 ≤ lines ∧ a.2 ≤ madeRoom s many lines) ∧
    1 ≤ madeRoom s many lines ∧ madeRoom s many lines ≤ 100 ∧ 0 ≤ madeFloor s many lines ∧ madeFloor s many lines ≤ madeRoom s many lines := by
  have h1 := mod_range s.many many (by omega)
  have h2 := arts_ok s (show 0 < lines by omega) (madeN s many)
  have h3 := longest_ok (s.arts lines (madeN s many)) lines hl (fun a ha => (h2 a ha).2.2)
  have h4 := mod_range s.room (3 * lines) (by omega)
  have hr : madeRoom s many lines = min 100 (longest (s.arts lines (madeN s many)) + s.room % (3 * lines)) := rfl
  have h5 := mod_range s.floor (madeRoom s many lines + 1) (by omega)
  have hf : madeFloor s many lines = s.floor % (madeRoom s many lines + 1) := rfl
  have hn : (madeArts s many lines).length = madeN s many := arts_len _ _ _
  refine ⟨by rw [hn]; unfold madeN; omega, by rw [hn]; unfold madeN; omega, fun a ha => ?_, by omega, by omega, by omega, by omega⟩
  have q1 := h2 a ha
  have q2 := h3.2.2 a ha
  omega
theorem made_check {s : Shelf} {many lines : Int} (hm : 1 ≤ many) (hm2 : many ≤ 12) (hl : 1 ≤ lines) (hl2 : lines ≤ 30) : check (madeArts s many lines) (madeRoom s many lines) (madeFloor s many lines) = 0 := by
  obtain ⟨h1, h2, h3, h4, h5, h6, h7⟩ := made_ok (s := s) hm hm2 hl hl2
  have ha : ∀ l : List (Int × Int), (∀ a ∈ l, 1 ≤ a.1 ∧ a.1 ≤ a.2 ∧ a.2 ≤ 30) → artsErr l = 0 := by
    intro l
    induction l with
    | nil => intro _; rfl
    | cons a r ih =>
      intro h
      have := h a (by simp)
      simp only [artsErr]
      rw [if_pos (by unfold artErr; rw [if_neg (by omega), if_neg (by omega)])]
      exact ih fun x hx => h x (by simp [hx])
  unfold check
  rw [if_neg (by omega), if_neg (by omega), if_pos (ha _ fun a h => by have := h3 a h; omega), if_neg (by omega)]

theorem c45 (s0 : Shelf) (hs : s0.ok) (many lines : Int) (hm : 1 ≤ many) (hm2 : many ≤ 12) (hl : 1 ≤ lines) (hl2 : lines ≤ 30) (st : St) :
    run L 45 [s0.av, I many, I lines] st = some (bookAV true (madeArts s0 many lines) (madeRoom s0 many lines) (madeFloor s0 many lines), st) := by
  rw [run_pure (fn := ir45) rfl rfl]
  have hs' := hs
  obtain ⟨b1, b2, b3, _⟩ := hs'
  unfold Byte at b1 b2 b3
  have m1 := mod_range s0.many many (by omega)
  have w1 := wrap64 s0.many (by omega) (by omega)
  have t1 : s0.many.tmod many = s0.many % many := Int.tmod_eq_emod_of_nonneg (by omega)
  have w2 := wrap64 (1 + s0.many % many) (by omega) (by omega)
  have z1 : (many = 0) = False := eq_false (by omega)
  have e1 : 1 + s0.many % many = ((madeN s0 many : Nat) : Int) := by unfold madeN; omega
  rw [e1] at w2
  obtain ⟨k1, k2, k3, k4, k5, k6, k7⟩ := made_ok (s := s0) hm hm2 hl hl2
  have hlg := longest_ok (s0.arts lines (madeN s0 many)) lines hl (fun a ha => (arts_ok s0 (by omega) _ a ha).2.2)
  have w3 := wrap64 s0.room (by omega) (by omega)
  have w4 := wrap64 (3 * lines) (by omega) (by omega)
  have m2 := mod_range s0.room (3 * lines) (by omega)
  have t2 : s0.room.tmod (3 * lines) = s0.room % (3 * lines) := Int.tmod_eq_emod_of_nonneg (by omega)
  have z2 : (3 * lines = 0) = False := eq_false (by omega)
  have w5 := wrap64 (longest (s0.arts lines (madeN s0 many)) + s0.room % (3 * lines)) (by omega) (by omega)
  have e2 : min 100 (longest (s0.arts lines (madeN s0 many)) + s0.room % (3 * lines)) = madeRoom s0 many lines := rfl
  have w6 := wrap64 s0.floor (by omega) (by omega)
  have w7 := wrap64 (madeRoom s0 many lines + 1) (by omega) (by omega)
  have t3 : s0.floor.tmod (madeRoom s0 many lines + 1) = s0.floor % (madeRoom s0 many lines + 1) := Int.tmod_eq_emod_of_nonneg (by omega)
  have z3 : (madeRoom s0 many lines + 1 = 0) = False := eq_false (by omega)
  have e3 : s0.floor % (madeRoom s0 many lines + 1) = madeFloor s0 many lines := rfl
  simp only [ir45, go_sem, reduceIte, Nat.reduceEqDiff, Nat.reduceAdd, Nat.reduceSub, Nat.reduceLeDiff, Nat.reduceLT, reduceCtorEq, Int.reduceLT, Int.reduceLE, Int.reduceEq, Int.reduceBEq, Int.reduceSub, Int.reduceAdd, Int.reduceMul, Int.reduceNeg, Int.reduceToNat, Nat.reduceMul, Nat.reduceBEq, pubs_shelf, shelf_storable, shelf_0, w1, t1, w2, z1, e1]
  generalize hg : lim (headed pure (run L) true _ lp45_0 _ _) _ _ = o
  obtain ⟨x, en, s, rfl, h2⟩ : ∃ x en s, o = some (x, en, s) ∧ _ := by rw [← hg]; exact loop45 s0 hs lines hl hl2 (madeN s0 many) (by unfold madeN; omega) 0 (Nat.zero_le _) _ _ (by simp only [go_sem, reduceIte, Nat.reduceEqDiff, Nat.reduceAdd, Nat.reduceSub, Nat.reduceLeDiff, Nat.reduceLT, reduceCtorEq, Int.reduceLT, Int.reduceLE, Int.reduceEq, Int.reduceBEq, Int.reduceSub, Int.reduceAdd, Int.reduceMul, Int.reduceNeg, Int.reduceToNat, Nat.reduceMul, Nat.reduceBEq, okRefs_shelf, renCells_shelf, Shelf.arts, List.range_zero, List.map_nil, loc_start, locT, longest, List.foldl_nil] <;> rfl)
  clear hg
  obtain ⟨rfl, h3, h4, h5, h6, h7, h8⟩ := h2
  obtain ⟨s1, s2⟩ := s
  simp only at h8
  subst h8
  simp only [go_sem, reduceIte, Nat.reduceEqDiff, Nat.reduceAdd, Nat.reduceSub, Nat.reduceLeDiff, Nat.reduceLT, reduceCtorEq, Int.reduceLT, Int.reduceLE, Int.reduceEq, Int.reduceBEq, Int.reduceSub, Int.reduceAdd, Int.reduceMul, Int.reduceNeg, Int.reduceToNat, Nat.reduceMul, Nat.reduceBEq, h3, h4, h5, h6, h7, shelf_1, shelf_2, w3, w4, t2, z2, w5, e2, w6, w7, t3, z3, e3]
  rfl


theorem slice_arts (nl : Bool) (arts : List (Int × Int)) (b e : Int) (h : arts ≠ []) (h0 : 0 ≤ b) (h1 : b ≤ e) (h2 : e ≤ arts.length) :
    sliceAV 2 (sl 2 nl (arts.map artAV)) (some (.v (.int .i64 b))) (some (.v (.int .i64 e))) none = some (sl 2 false (((arts.take e.toNat).drop b.toNat).map artAV)) := by
  rw [sl_ne (by simpa using h)]
  have q1 : natOr 0 (some (.v (.int .i64 b))) = some b.toNat := by simp [natOr, natOf, h0]
  have q2 : natOr (arts.map artAV).length (some (.v (.int .i64 e))) = some e.toNat := by simp [natOr, natOf]; omega
  simp only [sliceAV, if_true, q1, q2]
  rw [if_pos (by simp; omega)]
  simp [tagSlice, sl, List.map_take, List.map_drop]

theorem loop50 (nl : Bool) (arts : List (Int × Int)) (room floor : Int) (xs : List (Int × Int)) (hx0 : xs.length ≤ 12) (hxs : ∀ a ∈ xs, 0 ≤ a.2 ∧ a.2 ≤ 100) (i : Nat) (hok : i ≤ xs.length) (env : Env) (st : St)
    (hg : gcAV true 1 0 (canon env [7, 14, 15, 16]) st = ([(7, I ((xs.take i).map (·.2)).sum), (14, sl 2 false (xs.map artAV)), (15, I xs.length), (16, I i)], ⟨[bookCells nl arts room floor], []⟩)) :
    ∃ x_1 en s, lim (headed pure (run L) true [7, 14, 15, 16] lp50_0 1 0) env st = some (x_1, en, s) ∧ (x_1 = .exit 0 ∧ en.get 7 = I (xs.map (·.2)).sum) := by
  refine loop_wp (α := Nat) (fun i => xs.length - i) (fun i => i ≤ xs.length) (fun i => ([(7, I ((xs.take i).map (·.2)).sum), (14, sl 2 false (xs.map artAV)), (15, I xs.length), (16, I i)], ⟨[bookCells nl arts room floor], []⟩)) (fun i x_1 en s => x_1 = .exit 0 ∧ en.get 7 = I (xs.map (·.2)).sum) (fun i hok => ?_) i hok env st hg
  by_cases q : (i : Int) < (xs.length : Int)
  · have hx := index_arts false xs i (by omega)
    have hs := succ64 i (by omega)
    have htk : xs.take (i + 1) = xs.take i ++ [xs[i]'(by omega)] := (List.take_append_getElem (by omega)).symm
    have hsum : ((xs.take (i + 1)).map (·.2)).sum = ((xs.take i).map (·.2)).sum + (xs[i]'(by omega)).2 := by rw [htk]; simp only [List.map_append, List.map_cons, List.map_nil, List.sum_append, List.sum_cons, List.sum_nil]; omega
    have hb : ∀ l : List (Int × Int), (∀ a ∈ l, 0 ≤ a.2 ∧ a.2 ≤ 100) → 0 ≤ (l.map (·.2)).sum ∧ (l.map (·.2)).sum ≤ 100 * l.length := by
      intro l
      induction l with
      | nil => intro _; simp
      | cons a r ih =>
        intro h
        have h1 := h a (by simp)
        have h2 := ih fun x hx => h x (by simp [hx])
        simp only [List.map_cons, List.sum_cons, List.length_cons]; omega
    have hb1 := hb (xs.take i) (fun a ha => hxs a (List.mem_of_mem_take ha))
    have hb2 := hxs _ (List.getElem_mem (show i < xs.length by omega))
    have hl : (xs.take i).length ≤ 12 := by simp; omega
    have w := wrap64 (((xs.take i).map (·.2)).sum + (xs[i]'(by omega)).2) (by omega) (by omega)
    simp only [go_sem, reduceIte, Nat.reduceEqDiff, Nat.reduceAdd, Nat.reduceSub, Nat.reduceLeDiff, Nat.reduceLT, reduceCtorEq, Int.reduceLT, Int.reduceLE, Int.reduceEq, Int.reduceBEq, Int.reduceSub, Int.reduceAdd, Int.reduceMul, Int.reduceNeg, Int.reduceToNat, Nat.reduceMul, Nat.reduceBEq, index_rsl_if, setm, make_ints, condK_dec, wantK_dec, not_dec, and_dec, or_dec, seqK_ite, seqK_none, blockK_ite, blockK_none, opsK_ite, opsK_none, stepK_ite, stepK_none, bodyK_ite, bodyK_none, resK_ite, resK_none, leaveK_ite, leaveK_none, only_ite, only_none, bind_ite, gives_some, gives_none, gives_ite, then_normal, then_ret, then_exit, then_none, then_ite, Option.bind_none, Bool.not_eq_true', decide_eq_false_iff_not, Bool.and_eq_true, Bool.or_eq_true, Option.some.injEq, Int.not_lt, Int.not_le, lp50_0, q, hx, hs, w]
    refine ⟨i + 1, by simp only [go_sem, reduceIte, Nat.reduceEqDiff, Nat.reduceAdd, Nat.reduceSub, Nat.reduceLeDiff, Nat.reduceLT, reduceCtorEq, Int.reduceLT, Int.reduceLE, Int.reduceEq, Int.reduceBEq, Int.reduceSub, Int.reduceAdd, Int.reduceMul, Int.reduceNeg, Int.reduceToNat, Nat.reduceMul, Nat.reduceBEq, ren1_locm, loc_tips, locT_eq, hsum] <;> rfl, ?_, ?_, fun x en s hq => ?_⟩
    · omega
    · omega
    · exact hq
  · have htk : xs.take i = xs := List.take_of_length_le (by omega)
    simp only [go_sem, reduceIte, Nat.reduceEqDiff, Nat.reduceAdd, Nat.reduceSub, Nat.reduceLeDiff, Nat.reduceLT, reduceCtorEq, Int.reduceLT, Int.reduceLE, Int.reduceEq, Int.reduceBEq, Int.reduceSub, Int.reduceAdd, Int.reduceMul, Int.reduceNeg, Int.reduceToNat, Nat.reduceMul, Nat.reduceBEq, index_rsl_if, setm, make_ints, condK_dec, wantK_dec, not_dec, and_dec, or_dec, seqK_ite, seqK_none, blockK_ite, blockK_none, opsK_ite, opsK_none, stepK_ite, stepK_none, bodyK_ite, bodyK_none, resK_ite, resK_none, leaveK_ite, leaveK_none, only_ite, only_none, bind_ite, gives_some, gives_none, gives_ite, then_normal, then_ret, then_exit, then_none, then_ite, Option.bind_none, Bool.not_eq_true', decide_eq_false_iff_not, Bool.and_eq_true, Bool.or_eq_true, Option.some.injEq, Int.not_lt, Int.not_le, lp50_0, q, htk]

theorem c50 (nl : Bool) (arts : List (Int × Int)) (room floor : Int) (hc : check arts room floor = 0) (b e : Int) (h0 : 0 ≤ b) (h1 : b ≤ e) (h2 : e ≤ arts.length) (st : St) :
    run L 50 [bookAV nl arts room floor, I b, I e] st = some (I (seg (mosts arts) b e), st) := by
  rw [run_pure (fn := ir50) rfl rfl]
  obtain ⟨k1, k2, k3, _⟩ := check_zero hc
  have hsl := slice_arts nl arts b e (by intro h; subst h; simp at k1) h0 h1 h2
  have hs := seg_sums (·.2) arts b e h0 h1 h2
  simp only [ir50, go_sem, reduceIte, Nat.reduceEqDiff, Nat.reduceAdd, Nat.reduceSub, Nat.reduceLeDiff, Nat.reduceLT, reduceCtorEq, Int.reduceLT, Int.reduceLE, Int.reduceEq, Int.reduceBEq, Int.reduceSub, Int.reduceAdd, Int.reduceMul, Int.reduceNeg, Int.reduceToNat, Nat.reduceMul, Nat.reduceBEq, hsl]
  generalize hg : lim (headed pure (run L) true _ lp50_0 _ _) _ _ = o
  obtain ⟨x, en, s, rfl, h2⟩ : ∃ x en s, o = some (x, en, s) ∧ _ := by rw [← hg]; exact loop50 nl arts room floor ((arts.take e.toNat).drop b.toNat) (by simp; omega) (fun a ha => by have := k3 a (List.mem_of_mem_take (List.mem_of_mem_drop ha)); omega) 0 (Nat.zero_le _) _ _ (by simp only [go_sem, reduceIte, Nat.reduceEqDiff, Nat.reduceAdd, Nat.reduceSub, Nat.reduceLeDiff, Nat.reduceLT, reduceCtorEq, Int.reduceLT, Int.reduceLE, Int.reduceEq, Int.reduceBEq, Int.reduceSub, Int.reduceAdd, Int.reduceMul, Int.reduceNeg, Int.reduceToNat, Nat.reduceMul, Nat.reduceBEq, List.take_zero, List.map_nil, List.sum_nil, List.length_map] <;> rfl)
  clear hg
  obtain ⟨rfl, h3⟩ := h2
  simp only [go_sem, reduceIte, Nat.reduceEqDiff, Nat.reduceAdd, Nat.reduceSub, Nat.reduceLeDiff, Nat.reduceLT, reduceCtorEq, Int.reduceLT, Int.reduceLE, Int.reduceEq, Int.reduceBEq, Int.reduceSub, Int.reduceAdd, Int.reduceMul, Int.reduceNeg, Int.reduceToNat, Nat.reduceMul, Nat.reduceBEq, h3, mosts, hs]
  rfl


/-! ### laws on the cut that is filled -/

theorem seg_single {arts : List (Int × Int)} {i : Nat} (h : i < arts.length) : seg (mosts arts) i ((i + 1 : Nat) : Int) = arts[i].2 := by
  have h2 := seg_sums (·.2) arts i ((i + 1 : Nat) : Int) (by omega) (by omega) (by omega)
  rw [Int.toNat_natCast, Int.toNat_natCast, sumSeg_step _ _ _ _ (by omega) (by omega), sumSeg_end _ _ _ _ (by omega)] at h2
  simp only [mosts, h2]; omega
theorem singles_iff {arts : List (Int × Int)} (r : Int) : (∀ e : Nat, 1 ≤ e → e ≤ arts.length → seg (mosts arts) ((e : Int) - 1) e ≤ r) ↔ ∀ a ∈ arts, a.2 ≤ r := by
  constructor
  · intro h a ha
    obtain ⟨i, hi, rfl⟩ := List.getElem_of_mem ha
    have := h (i + 1) (by omega) (by omega)
    rw [show ((i + 1 : Nat) : Int) - 1 = i by omega, seg_single hi] at this
    exact this
  · intro h e h1 h2
    have := h _ (List.getElem_mem (show e - 1 < arts.length by omega))
    rw [← seg_single (show e - 1 < arts.length by omega)] at this
    rw [show ((e - 1 : Nat) : Int) = (e : Int) - 1 by omega, show ((e - 1 + 1 : Nat) : Int) = e by omega] at this
    exact this
theorem mono_any {arts : List (Int × Int)} {room0 floor : Int} (hc : check arts room0 floor = 0) (room : Int) : Mono arts.length (fun b e => decide (seg (mosts arts) b e ≤ room)) := by
  obtain ⟨_, _, k3, _⟩ := check_zero hc
  intro b b' e' e h1 h2 h3 h4 h5
  simp only [decide_eq_true_eq] at h5 ⊢
  have := seg_mono (l := arts.map (·.2)) (by intro x hx; obtain ⟨a, ha, rfl⟩ := List.mem_map.1 hx; have := k3 a ha; omega) b b' e' e h1 h2 h3 (by simpa using h4)
  simp only [mosts] at h5 ⊢
  omega
theorem filled_some {arts : List (Int × Int)} {room0 floor : Int} (hc : check arts room0 floor = 0) {r : Int} (hs : ∀ a ∈ arts, a.2 ≤ r) :
    lastMin (goods arts.length (fun b e => decide (seg (mosts arts) b e ≤ r)) 0) = some (filled (mosts arts) r) ∧ filled (mosts arts) r ≠ [] := by
  obtain ⟨g1, g2, g3, g4⟩ := mosts_ok hc
  obtain ⟨q, h1, h2⟩ := fill_goods (mosts arts) r arts.length (mono_any hc r) ((singles_iff r).2 hs) arts.length 0 1 [] (by omega) (by omega) (.inl rfl) (by omega)
  have hf : filled (mosts arts) r = q ++ [(arts.length : Int)] := by
    unfold filled
    rw [g2, Nat.add_sub_cancel, h1]
    simp only [List.nil_append]
    congr 2; omega
  rw [hf]
  exact ⟨h2, by simp⟩


theorem cells5 : Try.prog.cellsOf 5 = 1 := by kernel_rfl
theorem cells60 : Try.prog.cellsOf 60 = 12 := by kernel_rfl
theorem cells62 : Try.prog.cellsOf 62 = 27 := by kernel_rfl

theorem one_byte {d : Nat} {bs : List AV} (h : Sh Try.prog (d + 1) 5 bs) : ∃ n, bs = [U n] ∧ Byte n := by
  simp only [Sh, Try.underlying5] at h
  obtain ⟨n, h1, h2⟩ := h
  exact ⟨n, h1, bounds_u8 h2⟩
theorem all_bytes : ∀ (bs : List AV), (∀ i, i < bs.length → ∃ n, (bs.drop i).take 1 = [U n] ∧ Byte n) → ∃ zs : List Int, bs = zs.map U ∧ zs.length = bs.length ∧ ∀ n ∈ zs, Byte n
  | [], _ => ⟨[], rfl, rfl, by simp⟩
  | b :: r, h => by
    obtain ⟨n, h1, h2⟩ := h 0 (by simp)
    simp only [List.drop_zero, List.take_succ_cons, List.take_zero, List.cons.injEq, and_true] at h1
    obtain ⟨zs, h3, h4, h5⟩ := all_bytes r fun i hi => by
      obtain ⟨n, q1, q2⟩ := h (i + 1) (by simp; omega)
      exact ⟨n, by simpa using q1, q2⟩
    exact ⟨n :: zs, by simp [h1, ← h3], by simp [h4], by simp; exact ⟨h2, h5⟩⟩
theorem sh_bytes {d : Nat} {bs : List AV} (h : Sh Try.prog (d + 2) 60 bs) : ∃ zs : List Int, bs = zs.map U ∧ zs.length = 12 ∧ ∀ n ∈ zs, Byte n := by
  unfold Sh at h
  simp only [Try.underlying60, cells60, cells5, Nat.mul_one] at h
  obtain ⟨h1, h2⟩ := h
  obtain ⟨zs, h3, h4, h5⟩ := all_bytes bs fun i hi => one_byte (h2 i (by omega))
  exact ⟨zs, h3, by omega, h5⟩

/-- A book by numbers. -/
theorem sh_shelf {a : AV} (h : ShV Try.prog 8 62 a) : ∃ s : Shelf, a = s.av ∧ s.ok := by
  unfold ShV at h
  rw [if_pos (by unfold aggB; rw [Try.underlying62])] at h
  obtain ⟨cs, rfl, hs⟩ := h
  unfold Sh at hs
  simp only [Try.underlying62, cells62] at hs
  obtain ⟨h1, h2⟩ := hs
  have f0 := h2 0 _ rfl
  have f1 := h2 1 _ rfl
  have f2 := h2 2 _ rfl
  have f3 := h2 3 _ rfl
  have f4 := h2 4 _ rfl
  simp only [List.getElem_toArray, List.getElem_cons_zero, List.getElem_cons_succ, cells5, cells60] at f0 f1 f2 f3 f4
  obtain ⟨a, e0, b0⟩ := one_byte f0
  obtain ⟨b, e1, b1⟩ := one_byte f1
  obtain ⟨c, e2, b2⟩ := one_byte f2
  obtain ⟨ls, e3, b3, c3⟩ := sh_bytes f3
  obtain ⟨ms, e4, b4, c4⟩ := sh_bytes f4
  refine ⟨⟨a, b, c, ls, ms⟩, ?_, b0, b1, b2, b3, b4, c3, c4⟩
  have hcs : cs = (cs.drop 0).take 1 ++ ((cs.drop 1).take 1 ++ ((cs.drop 2).take 1 ++ ((cs.drop 3).take 12 ++ (cs.drop 15).take 12))) := by
    have s5 : (cs.drop 15).take 12 = cs.drop 15 := List.take_of_length_le (by simp [h1])
    have s4 : (cs.drop 3).take 12 ++ cs.drop 15 = cs.drop 3 := by
      have := List.take_append_drop 12 (cs.drop 3)
      rw [List.drop_drop] at this
      exact this
    have s3 : (cs.drop 2).take 1 ++ cs.drop 3 = cs.drop 2 := by
      have := List.take_append_drop 1 (cs.drop 2)
      rw [List.drop_drop] at this
      exact this
    have s2 : (cs.drop 1).take 1 ++ cs.drop 2 = cs.drop 1 := by
      have := List.take_append_drop 1 (cs.drop 1)
      rw [List.drop_drop] at this
      exact this
    have s1 : (cs.drop 0).take 1 ++ cs.drop 1 = cs := by
      have := List.take_append_drop 1 cs
      simpa using this
    rw [s5, s4, s3, s2, s1]
  show AV.agg cs = AV.agg (Shelf.cells ⟨a, b, c, ls, ms⟩)
  rw [hcs, e0, e1, e2, e3, e4]
  rfl

theorem sh_byte {a : AV} (h : ShV Try.prog 8 5 a) : ∃ n, a = U n ∧ Byte n := by
  obtain ⟨n, rfl, h1⟩ := sh_int Try.underlying5 h
  exact ⟨n, rfl, bounds_u8 h1⟩


theorem stretchEnd_spec (l : List Int) (room : Int) (n x : Nat) : ∀ k y, y + k = n → (∀ z, y ≤ z → z < stretchEnd l room n x k y → seg l x ((z : Int) + 1) ≤ room) ∧ (stretchEnd l room n x k y < n → room < seg l x ((stretchEnd l room n x k y : Int) + 1))
  | 0, y, h => by
    simp only [stretchEnd]
    exact ⟨fun z h1 h2 => by omega, fun h1 => by omega⟩
  | k + 1, y, h => by
    simp only [stretchEnd]
    split
    · next hc =>
      obtain ⟨h1, h2⟩ := stretchEnd_spec l room n x k (y + 1) (by omega)
      refine ⟨fun z q1 q2 => ?_, h2⟩
      by_cases hz : z = y
      · subst hz; exact hc.2
      · exact h1 z (by omega) q2
    · next hc =>
      exact ⟨fun z h1 h2 => by omega, fun h1 => by omega⟩


/-! ### all cuts are tried: 'cuts' with a function of two that are met -/

structure Five where
  c0 : List AV
  c1 : List AV
  c2 : List AV
  c3 : List AV
  c4 : List AV
/-- The store while all cuts of n articles are tried: what is captured, then n, the function, and the closure itself. -/
abbrev trySt (n : Nat) (f : Nat) (fv : List AV) (a : Five) : List (List AV) := [a.c0, a.c1, a.c2, a.c3, a.c4, [I n], [.fn (.func f) [] fv], [.fn (.func 88) [] [.ptr 5 0, .ptr 6 0, .ptr 7 0]]]
/-- What is a list of numbers in a register: nil, or a list. -/
def IsInts (l0 : AV) (l : List Int) : Prop := (l = [] ∧ l0 = .v (.slice none 0 0)) ∨ ∃ g, l0 = .lst g 1 (l.map I)
/-- What the function does with one cut. -/
def Each (n f : Nat) (fv : List AV) (P : Five → List (List Int) → Prop) : Prop :=
  ∀ (a : Five) (done : List (List Int)) (l : List Int) (l0 : AV) (T : List Nat), IsInts l0 l → (∃ rest, cutsOf n 0 = done ++ [l] ++ rest) → P a done →
    ∃ a' T', run L f (l0 :: fv) ⟨trySt n f fv a, T⟩ = some (.tup [], ⟨trySt n f fv a', T'⟩) ∧ P a' (done ++ [l])


/-- A cut each of whose volumes is as long as possible. -/
def Greedy (n : Nat) (p : Int → Int → Bool) : Nat → List Int → Prop
  | b, [] => n ≤ b
  | b, e :: r => ∃ E : Nat, e = E ∧ b < E ∧ E ≤ n ∧ p b E = true ∧ (∀ e' : Nat, E < e' → e' ≤ n → p b e' = false) ∧ Greedy n p E r

theorem fill_greedy (l : List Int) (room : Int) (n : Nat) (hp : Mono n (fun b e => decide (seg l b e ≤ room))) (hsing : ∀ e : Nat, 1 ≤ e → e ≤ n → seg l ((e : Int) - 1) e ≤ room) :
    ∀ (k b e : Nat) (out : List Int), e + k = n + 1 → b < e → (e = b + 1 ∨ seg l b ((e : Int) - 1) ≤ room) → b < n →
      ∃ r, fillFrom l room k b e out = some (out ++ r) ∧ Greedy n (fun b e => decide (seg l b e ≤ room)) b (r ++ [(n : Int)])
  | 0, b, e, out, hk, hbe, hpre, hbn => by
    refine ⟨[], by simp [fillFrom], ?_⟩
    have h1 : decide (seg l b n ≤ room) = true := by
      rcases hpre with h | h
      · have := hsing (b + 1) (by omega) (by omega)
        rw [show ((b + 1 : Nat) : Int) - 1 = b by omega] at this
        rw [show n = b + 1 by omega]; simpa using this
      · rw [show (e : Int) - 1 = n by omega] at h; simpa using h
    exact ⟨n, rfl, hbn, Nat.le_refl _, h1, fun e h1 h2 => by omega, Nat.le_refl _⟩
  | k + 1, b, e, out, hk, hbe, hpre, hbn => by
    simp only [fillFrom]
    rw [if_neg (by have := hsing e (by omega) (by omega); omega)]
    split
    · next hlt =>
      have hb1 : b < e - 1 := by
        rcases hpre with h | h
        · exfalso
          have := hsing e (by omega) (by omega)
          rw [h] at this hlt
          rw [show ((b + 1 : Nat) : Int) - 1 = b by omega] at this
          omega
        · rcases Nat.lt_or_ge b (e - 1) with h1 | h1
          · exact h1
          · exfalso
            have := hsing e (by omega) (by omega)
            rw [show (e : Int) - 1 = b by omega] at this
            omega
      have hE : seg l b ((e : Int) - 1) ≤ room := by
        rcases hpre with h | h
        · omega
        · exact h
      obtain ⟨r, h1, h2⟩ := fill_greedy l room n hp hsing k (e - 1) (e + 1) (out ++ [(e : Int) - 1]) (by omega) (by omega) (.inr (by
        have := hsing e (by omega) (by omega)
        rw [show ((e - 1 : Nat) : Int) = (e : Int) - 1 by omega, show ((e + 1 : Nat) : Int) - 1 = e by omega]; exact this)) (by omega)
      refine ⟨((e : Int) - 1) :: r, by rw [h1]; simp, e - 1, by omega, hb1, by omega, ?_, fun e' h3 h4 => ?_, h2⟩
      · rw [show ((e - 1 : Nat) : Int) = (e : Int) - 1 by omega]; simpa using hE
      · rw [decide_eq_false_iff_not]
        intro h5
        have := hp b b e e' (Nat.le_refl _) (by omega) (by omega) h4 (by simpa using h5)
        simp at this; omega
    · next hlt =>
      exact fill_greedy l room n hp hsing k b (e + 1) out (by omega) (by omega) (.inr (by rw [show ((e + 1 : Nat) : Int) - 1 = e by omega]; omega)) hbn

theorem filled_greedy {arts : List (Int × Int)} {room floor : Int} (hc : check arts room floor = 0) (hs : ∀ a ∈ arts, a.2 ≤ room) :
    Greedy arts.length (fun b e => decide (seg (mosts arts) b e ≤ room)) 0 (filled (mosts arts) room) := by
  obtain ⟨g1, g2, g3, g4⟩ := mosts_ok hc
  have hs' := (singles_iff room).2 hs
  obtain ⟨r, h1, h2⟩ := fill_greedy (mosts arts) room arts.length (mono_room hc) hs' arts.length 0 1 [] (by omega) (by omega) (.inl rfl) (by omega)
  have hf : filled (mosts arts) room = r ++ [(arts.length : Int)] := by
    unfold filled
    rw [g2, Nat.add_sub_cancel, h1]
    simp only [List.nil_append]
    congr 2; omega
  rw [hf]
  exact h2

/-! ### the longest rows -/

theorem rowOf_eq {n : Nat} {la : Nat → Nat} (hla : ∀ x, x < n → x < la x ∧ la x ≤ n) (x : Nat) (hx : x < n) : rowOf n la x = if la x < n then max (rowOf n la (x + 1)) (1 + rowOf n la (la x)) else rowOf n la (x + 1) := by
  have := hla x hx
  rw [rowOf, if_pos hx, show max (x + 1) (la x) = la x by omega]
theorem rowOf_end {n : Nat} {la : Nat → Nat} {x : Nat} (h : n ≤ x) : rowOf n la x = 0 := by rw [rowOf, if_neg (by omega)]
theorem rowOf_step {n : Nat} {la : Nat → Nat} (hla : ∀ x, x < n → x < la x ∧ la x ≤ n) (x : Nat) : rowOf n la (x + 1) ≤ rowOf n la x := by
  by_cases hx : x < n
  · rw [rowOf_eq hla x hx]; split <;> omega
  · rw [rowOf_end (show n ≤ x + 1 by omega)]; omega
theorem rowOf_anti {n : Nat} {la : Nat → Nat} (hla : ∀ x, x < n → x < la x ∧ la x ≤ n) (x : Nat) : ∀ k, rowOf n la (x + k) ≤ rowOf n la x
  | 0 => Nat.le_refl _
  | k + 1 => Nat.le_trans (rowOf_step hla (x + k)) (rowOf_anti hla x k)
/-- The longest row begins with the shortest stretch. -/
theorem rowOf_first {n : Nat} {la : Nat → Nat} (hla : ∀ x, x < n → x < la x ∧ la x ≤ n) (hm : ∀ x, x + 1 < n → la x ≤ la (x + 1)) : ∀ (m x : Nat), n - x = m → x < n → rowOf n la x = if la x < n then 1 + rowOf n la (la x) else 0 := by
  intro m
  induction m using Nat.strongRecOn with
  | ind m ih =>
    intro x hm' hx
    rw [rowOf_eq hla x hx]
    have h1 := hla x hx
    by_cases h2 : x + 1 < n
    · have h3 := ih (n - (x + 1)) (by omega) (x + 1) rfl h2
      have h4 := hm x h2
      by_cases h5 : la x < n
      · rw [if_pos h5, if_pos h5]
        have h6 := rowOf_anti hla (la x) (la (x + 1) - la x)
        rw [show la x + (la (x + 1) - la x) = la (x + 1) by omega] at h6
        split at h3 <;> omega
      · rw [if_neg h5, if_neg h5, h3, if_neg (by omega)]
    · rw [rowOf_end (show n ≤ x + 1 by omega)]
      rw [if_neg (by omega), if_neg (by omega)]

/-- THE STAGE'S THEOREM: as many volumes as stretches in the longest row, and one more. -/
theorem greedy_row {n : Nat} {p : Int → Int → Bool} {la : Nat → Nat} (hla : ∀ x, x < n → x < la x ∧ la x ≤ n) (hm : ∀ x, x + 1 < n → la x ≤ la (x + 1))
    (hpla : ∀ x E : Nat, x < E → E ≤ n → p x E = true → (∀ e' : Nat, E < e' → e' ≤ n → p x e' = false) → la x = E) : ∀ (f : List Int) (b : Nat), b < n → Greedy n p b f → f.length = 1 + rowOf n la b
  | [], b, hb, h => by simp only [Greedy] at h; omega
  | e :: r, b, hb, h => by
    obtain ⟨E, rfl, q1, q2, q3, q4, q5⟩ := h
    have h1 := hpla b E q1 q2 q3 q4
    have h2 := rowOf_first hla hm _ b rfl hb
    rw [h1] at h2
    by_cases h3 : E < n
    · rw [if_pos h3] at h2
      have := greedy_row hla hm hpla r E h3 q5
      rw [List.length_cons, this, h2]; omega
    · rw [if_neg h3] at h2
      cases r with
      | nil => rw [h2]; rfl
      | cons x t => obtain ⟨X, _, h4, h5, _⟩ := q5; omega

theorem last_greedy {arts : List (Int × Int)} {room0 floor : Int} (hck : check arts room0 floor = 0) (room : Int) (x E : Nat) (h1 : x < E) (h2 : E ≤ arts.length) (h3 : decide (seg (mosts arts) x E ≤ room) = true)
    (h4 : ∀ e' : Nat, E < e' → e' ≤ arts.length → decide (seg (mosts arts) x e' ≤ room) = false) : lastOfArt (mosts arts) room arts.length x = E := by
  obtain ⟨k1, k2⟩ := lastOfArt_ok (mosts arts) room arts.length x (by omega)
  obtain ⟨k3, k4⟩ := stretchEnd_spec (mosts arts) room arts.length x (arts.length - (x + 1)) (x + 1) (by omega)
  have hm := mono_any hck room
  have e0 : lastOfArt (mosts arts) room arts.length x = stretchEnd (mosts arts) room arts.length x (arts.length - (x + 1)) (x + 1) := rfl
  rw [← e0] at k3 k4
  generalize lastOfArt (mosts arts) room arts.length x = Y at *
  rw [decide_eq_true_eq] at h3
  rcases Nat.lt_trichotomy Y E with h | h | h
  · have h5 := k4 (by omega)
    have h6 := hm x x (Y + 1) E (Nat.le_refl _) (by omega) (by omega) h2 (by simpa using h3)
    rw [decide_eq_true_eq, show ((Y + 1 : Nat) : Int) = (Y : Int) + 1 by omega] at h6
    omega
  · exact h
  · have h5 := k3 E (by omega) h
    have h6 := h4 (E + 1) (by omega) (by omega)
    rw [decide_eq_false_iff_not, show ((E + 1 : Nat) : Int) = (E : Int) + 1 by omega] at h6
    omega
theorem last_mono {arts : List (Int × Int)} {room0 floor : Int} (hck : check arts room0 floor = 0) (room : Int) (x : Nat) (hx : x + 1 < arts.length) : lastOfArt (mosts arts) room arts.length x ≤ lastOfArt (mosts arts) room arts.length (x + 1) := by
  obtain ⟨k1, k2⟩ := lastOfArt_ok (mosts arts) room arts.length x (by omega)
  obtain ⟨j1, j2⟩ := lastOfArt_ok (mosts arts) room arts.length (x + 1) (by omega)
  obtain ⟨k3, _⟩ := stretchEnd_spec (mosts arts) room arts.length x (arts.length - (x + 1)) (x + 1) (by omega)
  obtain ⟨_, j4⟩ := stretchEnd_spec (mosts arts) room arts.length (x + 1) (arts.length - (x + 1 + 1)) (x + 1 + 1) (by omega)
  have hm := mono_any hck room
  have e0 : lastOfArt (mosts arts) room arts.length x = stretchEnd (mosts arts) room arts.length x (arts.length - (x + 1)) (x + 1) := rfl
  have e1 : lastOfArt (mosts arts) room arts.length (x + 1) = stretchEnd (mosts arts) room arts.length (x + 1) (arts.length - (x + 1 + 1)) (x + 1 + 1) := rfl
  rw [← e0] at k3
  rw [← e1] at j4
  generalize lastOfArt (mosts arts) room arts.length x = Y at *
  generalize lastOfArt (mosts arts) room arts.length (x + 1) = Z at *
  apply Classical.byContradiction
  intro h
  have h5 := k3 Z (by omega) (by omega)
  have h6 := j4 (by omega)
  have h7 := hm x (x + 1) (Z + 1) (Z + 1) (by omega) (by omega) (Nat.le_refl _) (by omega) (by rw [decide_eq_true_eq, show ((Z + 1 : Nat) : Int) = (Z : Int) + 1 by omega]; exact h5)
  rw [decide_eq_true_eq, show ((Z + 1 : Nat) : Int) = (Z : Int) + 1 by omega] at h7
  omega


/-! ### pairs of numbers that may be written -/

/-- The cells of a list of pairs. -/
def flatI (xs : List (Int × Int)) : List Int := xs.flatMap fun a => [a.1, a.2]
theorem flatI_cons (a : Int × Int) (r : List (Int × Int)) : flatI (a :: r) = a.1 :: a.2 :: flatI r := rfl
theorem flatI_len (xs : List (Int × Int)) : (flatI xs).length = xs.length * 2 := by
  induction xs with
  | nil => rfl
  | cons a r ih => rw [flatI_cons, List.length_cons, List.length_cons, ih, List.length_cons]; omega
theorem flatI_append (xs ys : List (Int × Int)) : flatI (xs ++ ys) = flatI xs ++ flatI ys := by simp [flatI]
theorem flatI_at (xs : List (Int × Int)) (i : Nat) (h : i < xs.length) : (flatI xs).drop (i * 2) = xs[i].1 :: xs[i].2 :: flatI (xs.drop (i + 1)) := by
  induction xs generalizing i with
  | nil => simp at h
  | cons a r ih =>
    cases i with
    | zero => rw [flatI_cons]; rfl
    | succ i =>
      rw [flatI_cons, show (i + 1) * 2 = i * 2 + 1 + 1 by omega, List.drop_succ_cons, List.drop_succ_cons, ih i (by simpa using h)]
      rfl
theorem flatI_pair (xs : List (Int × Int)) (i : Nat) (h : i < xs.length) : (((flatI xs).map I).drop (i * 2)).take 2 = [I xs[i].1, I xs[i].2] := by
  rw [← List.map_drop, flatI_at xs i h]; rfl
theorem flatI_set (xs : List (Int × Int)) (i : Nat) (a b : Int) (h : i < xs.length) : (((flatI xs).map I).set (i * 2) (I a)).set (i * 2 + 1) (I b) = (flatI (xs.set i (a, b))).map I := by
  rw [← List.map_set, ← List.map_set]
  congr 1
  induction xs generalizing i with
  | nil => simp at h
  | cons x r ih =>
    cases i with
    | zero => simp [flatI_cons]
    | succ i =>
      rw [List.set_cons_succ, flatI_cons, flatI_cons, ← ih i (by simpa using h), show (i + 1) * 2 = i * 2 + 1 + 1 by omega]
      rfl
theorem frzV_v (l : Nat) (cs : List AV) (x : Value) : frzV l cs (.v x) = .v x := by simp only [frzV]
theorem frzV_ptr (l : Nat) (cs : List AV) (i o : Nat) : frzV l cs (.ptr i o) = .ptr i o := by simp only [frzV]
theorem frzV_eptr (l : Nat) (cs : List AV) (e : AV) (o : Nat) : frzV l cs (.eptr e o) = .eptr e o := by simp only [frzV]
theorem frzV_lst (l : Nat) (cs : List AV) (g : Tag) (z : Nat) (xs : List AV) : frzV l cs (.lst g z xs) = .lst g z xs := by simp only [frzV]
theorem frzV_fn (l : Nat) (cs : List AV) (f : Fn) (a b : List AV) : frzV l cs (.fn f a b) = .fn f a b := by simp only [frzV]
theorem frzV_agg (l : Nat) (cs : List AV) (xs : List AV) : frzV l cs (.agg xs) = .agg (frzVs l cs xs) := by simp only [frzV]
theorem frzV_tup (l : Nat) (cs : List AV) (xs : List AV) : frzV l cs (.tup xs) = .tup (frzVs l cs xs) := by simp only [frzV]
theorem frzV_any (l : Nat) (cs : List AV) : frzV l cs .any = .any := by simp only [frzV]
theorem frzVs_U (l : Nat) (cs : List AV) (xs : List Int) : frzVs l cs (xs.map U) = xs.map U := by
  induction xs with
  | nil => rfl
  | cons x r ih => simp only [List.map_cons, frzVs, frzV, ih]
theorem frzVs_append (l : Nat) (cs : List AV) : ∀ a b : List AV, frzVs l cs (a ++ b) = frzVs l cs a ++ frzVs l cs b
  | [], _ => rfl
  | x :: r, b => by simp only [List.cons_append, frzVs, frzVs_append l cs r b]
theorem frzVs_shelf (l : Nat) (cs : List AV) (s : Shelf) : frzVs l cs s.cells = s.cells := by
  simp only [Shelf.cells, frzVs, frzV, frzVs_append, frzVs_U]
theorem pubs_I (l : List Int) : pubs (l.map I) = l.map I := pubs_map I (fun _ => rfl) l
theorem frzV_sl (l : Nat) (cs : List AV) (z : Nat) (nl : Bool) (xs : List AV) : frzV l cs (sl z nl xs) = sl z nl xs := by
  cases xs with
  | nil => cases nl <;> rfl
  | cons x r => rw [sl_ne (by simp)]; simp only [frzV]
theorem group_flat (xs : List (Int × Int)) : group true 2 xs.length ((flatI xs).map I) = xs.map artAV := by
  induction xs with
  | nil => rfl
  | cons a r ih =>
    rw [flatI_cons]
    simp only [List.length_cons, group, if_true, List.map_cons, List.take_succ_cons, List.take_zero, List.drop_succ_cons, List.drop_zero, ih]


/-! ### the opposite order -/

theorem idx_rsl2 (l n i : Nat) (h : i < n) : indexSAV 2 (.rsl l 0 n n 2 true) (.v (.int .i64 (i : Int))) = some (.ptr l (i * 2)) := by
  simp only [indexSAV]
  rw [if_pos ⟨trivial, by omega, by omega⟩]
  simp
theorem flatI_setI (xs : List (Int × Int)) (i : Nat) (a b : Int) (h : i < xs.length) : ((flatI xs).set (i * 2) a).set (i * 2 + 1) b = flatI (xs.set i (a, b)) := by
  have := flatI_set xs i a b h
  rw [← List.map_set, ← List.map_set] at this
  exact (List.map_inj_right (fun a b h => by simpa using h)).1 this


def RevP (n : Nat) (p p' : Int → Int → Bool) : Prop := ∀ b e : Nat, b ≤ e → e ≤ n → p' ((n - e : Nat) : Int) ((n - b : Nat) : Int) = p b e
theorem RevP.symm {n : Nat} {p p' : Int → Int → Bool} (hp : RevP n p p') : RevP n p' p := by
  intro b e h1 h2
  have := hp (n - e) (n - b) (by omega) (by omega)
  rw [show n - (n - b) = b by omega, show n - (n - e) = e by omega] at this
  exact this.symm


/-! ### few pairs are put in order -/

def cmp1 (x y : Int) : Int := if x < y then -1 else if y < x then 1 else 0
def cmp2 (p q : Int × Int) : Int := if cmp1 p.1 q.1 ≠ 0 then cmp1 p.1 q.1 else cmp1 p.2 q.2
theorem c92 (x y : Int) (st : St) : run L 92 [I x, I y] st = some (I (cmp1 x y), st) := by
  rw [run_pure (fn := ir92) rfl rfl]
  unfold cmp1
  by_cases p : x < y
  · simp only [ir92, go_sem, reduceIte, Nat.reduceEqDiff, Nat.reduceAdd, Nat.reduceSub, Nat.reduceLeDiff, Nat.reduceLT, reduceCtorEq, Int.reduceLT, Int.reduceLE, Int.reduceEq, Int.reduceBEq, Int.reduceSub, Int.reduceAdd, Int.reduceMul, Int.reduceNeg, Int.reduceToNat, Nat.reduceMul, Nat.reduceBEq, c106, p]
  · by_cases q : y < x
    · simp only [ir92, go_sem, reduceIte, Nat.reduceEqDiff, Nat.reduceAdd, Nat.reduceSub, Nat.reduceLeDiff, Nat.reduceLT, reduceCtorEq, Int.reduceLT, Int.reduceLE, Int.reduceEq, Int.reduceBEq, Int.reduceSub, Int.reduceAdd, Int.reduceMul, Int.reduceNeg, Int.reduceToNat, Nat.reduceMul, Nat.reduceBEq, c106, p, q]
    · simp only [ir92, go_sem, reduceIte, Nat.reduceEqDiff, Nat.reduceAdd, Nat.reduceSub, Nat.reduceLeDiff, Nat.reduceLT, reduceCtorEq, Int.reduceLT, Int.reduceLE, Int.reduceEq, Int.reduceBEq, Int.reduceSub, Int.reduceAdd, Int.reduceMul, Int.reduceNeg, Int.reduceToNat, Nat.reduceMul, Nat.reduceBEq, c106, p, q]

theorem idx_rsl1 (l n i : Nat) (h : i < n) : indexSAV 1 (.rsl l 0 n n 1 false) (.v (.int .i64 (i : Int))) = some (.ptr l i) := by
  simp only [indexSAV]
  rw [if_pos ⟨trivial, by omega, by omega⟩]
  simp
theorem c64 (a b c d : Int) : run L 64 [.rsl 0 0 2 2 1 false, .rsl 1 0 2 2 1 false] ⟨[[I a, I b], [I c, I d]], []⟩ = some (I (cmp2 (a, b) (c, d)), ⟨[[I a, I b], [I c, I d]], []⟩) := by
  rw [run_shared (fn := ir64) rfl rfl]
  have x0 := idx_rsl1 0 2 0 (by omega)
  have x1 := idx_rsl1 0 2 1 (by omega)
  have y0 := idx_rsl1 1 2 0 (by omega)
  have y1 := idx_rsl1 1 2 1 (by omega)
  have w1 := wrap64 1 (by omega) (by omega)
  have w2 := wrap64 2 (by omega) (by omega)
  simp only [Int.natCast_zero, Int.natCast_one] at x0 x1 y0 y1
  have h92a := fun st => c92 a c st
  have h92b := fun st => c92 b d st
  unfold cmp2
  simp only
  by_cases p : cmp1 a c = 0
  · rw [if_neg (by simpa using p)]
    by_cases q : cmp1 b d = 0
    · simp only [ir64, go_sem, reduceIte, Nat.reduceEqDiff, Nat.reduceAdd, Nat.reduceSub, Nat.reduceLeDiff, Nat.reduceLT, reduceCtorEq, Int.reduceLT, Int.reduceLE, Int.reduceEq, Int.reduceBEq, Int.reduceSub, Int.reduceAdd, Int.reduceMul, Int.reduceNeg, Int.reduceToNat, Nat.reduceMul, Nat.reduceBEq]
      rw [lim_eq]
      simp only [headed, lp64_0, go_sem, reduceIte, Nat.reduceEqDiff, Nat.reduceAdd, Nat.reduceSub, Nat.reduceLeDiff, Nat.reduceLT, reduceCtorEq, Int.reduceLT, Int.reduceLE, Int.reduceEq, Int.reduceBEq, Int.reduceSub, Int.reduceAdd, Int.reduceMul, Int.reduceNeg, Int.reduceToNat, Nat.reduceMul, Nat.reduceBEq, x0, x1, y0, y1, w1, w2, h92a, h92b, p]
      rw [lim_eq]
      simp only [headed, lp64_0, go_sem, reduceIte, Nat.reduceEqDiff, Nat.reduceAdd, Nat.reduceSub, Nat.reduceLeDiff, Nat.reduceLT, reduceCtorEq, Int.reduceLT, Int.reduceLE, Int.reduceEq, Int.reduceBEq, Int.reduceSub, Int.reduceAdd, Int.reduceMul, Int.reduceNeg, Int.reduceToNat, Nat.reduceMul, Nat.reduceBEq, x0, x1, y0, y1, w1, w2, h92a, h92b, p, q]
      rw [lim_eq]
      simp only [headed, lp64_0, go_sem, reduceIte, Nat.reduceEqDiff, Nat.reduceAdd, Nat.reduceSub, Nat.reduceLeDiff, Nat.reduceLT, reduceCtorEq, Int.reduceLT, Int.reduceLE, Int.reduceEq, Int.reduceBEq, Int.reduceSub, Int.reduceAdd, Int.reduceMul, Int.reduceNeg, Int.reduceToNat, Nat.reduceMul, Nat.reduceBEq, x0, x1, y0, y1, w1, w2, h92a, h92b, p, q]
    · simp only [ir64, go_sem, reduceIte, Nat.reduceEqDiff, Nat.reduceAdd, Nat.reduceSub, Nat.reduceLeDiff, Nat.reduceLT, reduceCtorEq, Int.reduceLT, Int.reduceLE, Int.reduceEq, Int.reduceBEq, Int.reduceSub, Int.reduceAdd, Int.reduceMul, Int.reduceNeg, Int.reduceToNat, Nat.reduceMul, Nat.reduceBEq]
      rw [lim_eq]
      simp only [headed, lp64_0, go_sem, reduceIte, Nat.reduceEqDiff, Nat.reduceAdd, Nat.reduceSub, Nat.reduceLeDiff, Nat.reduceLT, reduceCtorEq, Int.reduceLT, Int.reduceLE, Int.reduceEq, Int.reduceBEq, Int.reduceSub, Int.reduceAdd, Int.reduceMul, Int.reduceNeg, Int.reduceToNat, Nat.reduceMul, Nat.reduceBEq, x0, x1, y0, y1, w1, w2, h92a, h92b, p]
      rw [lim_eq]
      simp only [headed, lp64_0, go_sem, reduceIte, Nat.reduceEqDiff, Nat.reduceAdd, Nat.reduceSub, Nat.reduceLeDiff, Nat.reduceLT, reduceCtorEq, Int.reduceLT, Int.reduceLE, Int.reduceEq, Int.reduceBEq, Int.reduceSub, Int.reduceAdd, Int.reduceMul, Int.reduceNeg, Int.reduceToNat, Nat.reduceMul, Nat.reduceBEq, x0, x1, y0, y1, w1, w2, h92a, h92b, p, q]
  · rw [if_pos (by simpa using p)]
    simp only [ir64, go_sem, reduceIte, Nat.reduceEqDiff, Nat.reduceAdd, Nat.reduceSub, Nat.reduceLeDiff, Nat.reduceLT, reduceCtorEq, Int.reduceLT, Int.reduceLE, Int.reduceEq, Int.reduceBEq, Int.reduceSub, Int.reduceAdd, Int.reduceMul, Int.reduceNeg, Int.reduceToNat, Nat.reduceMul, Nat.reduceBEq]
    rw [lim_eq]
    simp only [headed, lp64_0, go_sem, reduceIte, Nat.reduceEqDiff, Nat.reduceAdd, Nat.reduceSub, Nat.reduceLeDiff, Nat.reduceLT, reduceCtorEq, Int.reduceLT, Int.reduceLE, Int.reduceEq, Int.reduceBEq, Int.reduceSub, Int.reduceAdd, Int.reduceMul, Int.reduceNeg, Int.reduceToNat, Nat.reduceMul, Nat.reduceBEq, x0, x1, y0, y1, w1, w2, h92a, h92b, p]

theorem c63 (p q : Int × Int) (st : St) : run L 63 [artAV p, artAV q] st = some (I (cmp2 p q), st) := by
  obtain ⟨a, b⟩ := p
  obtain ⟨c, d⟩ := q
  rw [run_pure (fn := ir63) rfl rfl]
  have h64 := c64 a b c d
  have e0 : sliceaAV 2 1 false (.ptr 0 0) none none none = some (.rsl 0 0 2 2 1 false) := rfl
  have e1 : sliceaAV 2 1 false (.ptr 1 0) none none none = some (.rsl 1 0 2 2 1 false) := rfl
  simp only [ir63, go_sem, reduceIte, Nat.reduceEqDiff, Nat.reduceAdd, Nat.reduceSub, Nat.reduceLeDiff, Nat.reduceLT, reduceCtorEq, Int.reduceLT, Int.reduceLE, Int.reduceEq, Int.reduceBEq, Int.reduceSub, Int.reduceAdd, Int.reduceMul, Int.reduceNeg, Int.reduceToNat, Nat.reduceMul, Nat.reduceBEq, e0, e1, h64]


abbrev fn63 : AV := .fn (.func 63) [] []
theorem idx_rsl3 (n i : Nat) (h : i < n) : indexSAV 2 (.rsl 3 0 n n 2 true) (.v (.int .i64 (i : Int))) = some (.ptr 3 (i * 2)) := idx_rsl2 3 n i h

theorem loop96_0 (k : Nat) (hk : k < 1000) (xs0 : List (Int × Int)) (a b c : List AV) (r : List (List AV)) (T : List Nat) (i : Nat) (hi : i < k) (lo hi2 : Nat) (j : Nat) (xs : List (Int × Int)) (hok : j ≤ i ∧ xs.length = k ∧ ∀ p ∈ xs, p ∈ xs0) (env : Env) (st : St)
    (hg : gcAV false lo hi2 (canon env [0, 1, 2, 3, 8, 9]) st = ([(0, .rsl 3 0 k k 2 true), (1, I 0), (2, I k), (3, fn63), (8, I i), (9, I j)], ⟨a :: b :: c :: ((flatI xs).map I) :: r, T⟩)) :
    ∃ x_1 en s, lim (headed pure (run L) false [0, 1, 2, 3, 8, 9] lp96_0 lo hi2) env st = some (x_1, en, s) ∧ (x_1 = .exit 2 ∧ en.get 0 = .rsl 3 0 k k 2 true ∧ en.get 1 = I 0 ∧ en.get 2 = I k ∧ en.get 3 = fn63 ∧ en.get 8 = I i ∧ ∃ xs', xs'.length = k ∧ (∀ p ∈ xs', p ∈ xs0) ∧ s = ⟨a :: b :: c :: ((flatI xs').map I) :: r, T⟩) := by
  refine loop_wp (α := Nat × List (Int × Int)) (fun ⟨j, xs⟩ => j) (fun ⟨j, xs⟩ => j ≤ i ∧ xs.length = k ∧ ∀ p ∈ xs, p ∈ xs0) (fun ⟨j, xs⟩ => ([(0, .rsl 3 0 k k 2 true), (1, I 0), (2, I k), (3, fn63), (8, I i), (9, I j)], ⟨a :: b :: c :: ((flatI xs).map I) :: r, T⟩)) (fun ⟨j, xs⟩ x_1 en s => x_1 = .exit 2 ∧ en.get 0 = .rsl 3 0 k k 2 true ∧ en.get 1 = I 0 ∧ en.get 2 = I k ∧ en.get 3 = fn63 ∧ en.get 8 = I i ∧ ∃ xs', xs'.length = k ∧ (∀ p ∈ xs', p ∈ xs0) ∧ s = ⟨a :: b :: c :: ((flatI xs').map I) :: r, T⟩) (fun ⟨j, xs⟩ hok => ?_) ⟨j, xs⟩ hok env st hg
  simp only at hok
  obtain ⟨h1, hl, hx⟩ := hok
  by_cases q : 0 < j
  · have q' : ((0 : Int) < (j : Int)) = True := eq_true (by omega)
    have hw : IntKind.i64.wrap ((j : Int) - 1) = ((j - 1 : Nat) : Int) := by rw [wrap64] <;> omega
    have hi1 := idx_rsl3 k j (by omega)
    have hi2 := idx_rsl3 k (j - 1) (by omega)
    have hjl : j < xs.length := by omega
    have hjl1 : j - 1 < xs.length := by omega
    have p1 := flatI_pair xs j hjl
    have p2 := flatI_pair xs (j - 1) hjl1
    have s1 := flatI_setI xs j (xs[j - 1]).1 (xs[j - 1]).2 hjl
    have s2 := flatI_setI (xs.set j ((xs[j - 1]).1, (xs[j - 1]).2)) (j - 1) (xs[j]).1 (xs[j]).2 (by simpa using hjl1)
    have hfl1 : (flatI xs).length = k * 2 := by rw [flatI_len, hl]
    have hfl2 : (flatI (xs.set j ((xs[j - 1]).1, (xs[j - 1]).2))).length = k * 2 := by rw [flatI_len, List.length_set, hl]
    have b1 : (j * 2 + 2 ≤ k * 2) = True := eq_true (by omega)
    have b2 : ((j - 1) * 2 + 2 ≤ k * 2) = True := eq_true (by omega)
    have m1 : xs[j] ∈ xs0 := hx _ (List.getElem_mem hjl)
    have m2 : xs[j - 1] ∈ xs0 := hx _ (List.getElem_mem hjl1)
    have h63 := fun st => c63 xs[j] xs[j - 1] st
    have q1 : j - 1 < j := by omega
    generalize xs[j] = vj at *
    generalize xs[j - 1] = vi at *
    have hok' : j - 1 ≤ i ∧ ((xs.set j (vi.1, vi.2)).set (j - 1) (vj.1, vj.2)).length = k ∧ ∀ p ∈ ((xs.set j (vi.1, vi.2)).set (j - 1) (vj.1, vj.2)), p ∈ xs0 := by
      refine ⟨by omega, by simp [hl], fun p hp => ?_⟩
      rcases List.mem_or_eq_of_mem_set hp with hp | rfl
      · rcases List.mem_or_eq_of_mem_set hp with hp | rfl
        · exact hx p hp
        · exact m2
      · exact m1
    dsimp only
    by_cases p : cmp2 vj vi < 0
    · simp only [go_sem, reduceIte, Nat.reduceEqDiff, Nat.reduceAdd, Nat.reduceSub, Nat.reduceLeDiff, Nat.reduceLT, reduceCtorEq, Int.reduceLT, Int.reduceLE, Int.reduceEq, Int.reduceBEq, Int.reduceSub, Int.reduceAdd, Int.reduceMul, Int.reduceNeg, Int.reduceToNat, Nat.reduceMul, Nat.reduceBEq, index_rsl_if, setm, make_ints, condK_dec, wantK_dec, not_dec, and_dec, or_dec, seqK_ite, seqK_none, blockK_ite, blockK_none, opsK_ite, opsK_none, stepK_ite, stepK_none, bodyK_ite, bodyK_none, resK_ite, resK_none, leaveK_ite, leaveK_none, only_ite, only_none, bind_ite, gives_some, gives_none, gives_ite, then_normal, then_ret, then_exit, then_none, then_ite, Option.bind_none, Bool.not_eq_true', decide_eq_false_iff_not, Bool.and_eq_true, Bool.or_eq_true, Option.some.injEq, Int.not_lt, Int.not_le, lp96_0, q', hw, hi1, hi2, p1, p2, s1, s2, hfl1, hfl2, b1, b2, h63, p, List.length_map]
      refine ⟨(j - 1, (xs.set j (vi.1, vi.2)).set (j - 1) (vj.1, vj.2)), by simp only [go_sem, reduceIte, Nat.reduceEqDiff, Nat.reduceAdd, Nat.reduceSub, Nat.reduceLeDiff, Nat.reduceLT, reduceCtorEq, Int.reduceLT, Int.reduceLE, Int.reduceEq, Int.reduceBEq, Int.reduceSub, Int.reduceAdd, Int.reduceMul, Int.reduceNeg, Int.reduceToNat, Nat.reduceMul, Nat.reduceBEq] <;> rfl, hok', q1, fun x_1 en s hq => hq⟩
    · simp only [go_sem, reduceIte, Nat.reduceEqDiff, Nat.reduceAdd, Nat.reduceSub, Nat.reduceLeDiff, Nat.reduceLT, reduceCtorEq, Int.reduceLT, Int.reduceLE, Int.reduceEq, Int.reduceBEq, Int.reduceSub, Int.reduceAdd, Int.reduceMul, Int.reduceNeg, Int.reduceToNat, Nat.reduceMul, Nat.reduceBEq, index_rsl_if, setm, make_ints, condK_dec, wantK_dec, not_dec, and_dec, or_dec, seqK_ite, seqK_none, blockK_ite, blockK_none, opsK_ite, opsK_none, stepK_ite, stepK_none, bodyK_ite, bodyK_none, resK_ite, resK_none, leaveK_ite, leaveK_none, only_ite, only_none, bind_ite, gives_some, gives_none, gives_ite, then_normal, then_ret, then_exit, then_none, then_ite, Option.bind_none, Bool.not_eq_true', decide_eq_false_iff_not, Bool.and_eq_true, Bool.or_eq_true, Option.some.injEq, Int.not_lt, Int.not_le, lp96_0, q', hw, hi1, hi2, p1, p2, hfl1, b1, b2, h63, p, List.length_map]
      exact ⟨xs, hl, hx, rfl⟩
  · have q' : ((0 : Int) < (j : Int)) = False := eq_false (by omega)
    dsimp only
    simp only [go_sem, reduceIte, Nat.reduceEqDiff, Nat.reduceAdd, Nat.reduceSub, Nat.reduceLeDiff, Nat.reduceLT, reduceCtorEq, Int.reduceLT, Int.reduceLE, Int.reduceEq, Int.reduceBEq, Int.reduceSub, Int.reduceAdd, Int.reduceMul, Int.reduceNeg, Int.reduceToNat, Nat.reduceMul, Nat.reduceBEq, index_rsl_if, setm, make_ints, condK_dec, wantK_dec, not_dec, and_dec, or_dec, seqK_ite, seqK_none, blockK_ite, blockK_none, opsK_ite, opsK_none, stepK_ite, stepK_none, bodyK_ite, bodyK_none, resK_ite, resK_none, leaveK_ite, leaveK_none, only_ite, only_none, bind_ite, gives_some, gives_none, gives_ite, then_normal, then_ret, then_exit, then_none, then_ite, Option.bind_none, Bool.not_eq_true', decide_eq_false_iff_not, Bool.and_eq_true, Bool.or_eq_true, Option.some.injEq, Int.not_lt, Int.not_le, lp96_0, q']
    exact ⟨xs, hl, hx, rfl⟩

theorem loop96_1 (k : Nat) (hk : k < 1000) (xs0 : List (Int × Int)) (a b c : List AV) (r : List (List AV)) (T : List Nat) (lo hi2 : Nat) (i : Nat) (xs : List (Int × Int)) (hok : xs.length = k ∧ ∀ p ∈ xs, p ∈ xs0) (env : Env) (st : St)
    (hg : gcAV false lo hi2 (canon env [0, 1, 2, 3, 8]) st = ([(0, .rsl 3 0 k k 2 true), (1, I 0), (2, I k), (3, fn63), (8, I i)], ⟨a :: b :: c :: ((flatI xs).map I) :: r, T⟩)) :
    ∃ x_1 en s, lim (headed pure (run L) false [0, 1, 2, 3, 8] lp96_1 lo hi2) env st = some (x_1, en, s) ∧ (x_1 = .exit 0 ∧ ∃ xs', xs'.length = k ∧ (∀ p ∈ xs', p ∈ xs0) ∧ s = ⟨a :: b :: c :: ((flatI xs').map I) :: r, T⟩) := by
  refine loop_wp (α := Nat × List (Int × Int)) (fun ⟨i, xs⟩ => k - i) (fun ⟨i, xs⟩ => xs.length = k ∧ ∀ p ∈ xs, p ∈ xs0) (fun ⟨i, xs⟩ => ([(0, .rsl 3 0 k k 2 true), (1, I 0), (2, I k), (3, fn63), (8, I i)], ⟨a :: b :: c :: ((flatI xs).map I) :: r, T⟩)) (fun ⟨i, xs⟩ x_1 en s => x_1 = .exit 0 ∧ ∃ xs', xs'.length = k ∧ (∀ p ∈ xs', p ∈ xs0) ∧ s = ⟨a :: b :: c :: ((flatI xs').map I) :: r, T⟩) (fun ⟨i, xs⟩ hok => ?_) ⟨i, xs⟩ hok env st hg
  simp only at hok
  obtain ⟨hl, hx⟩ := hok
  by_cases q : (i : Int) < (k : Int)
  · have hs := succ64 i (by omega)
    have q1 : k - (i + 1) < k - i := by omega
    dsimp only
    simp only [go_sem, reduceIte, Nat.reduceEqDiff, Nat.reduceAdd, Nat.reduceSub, Nat.reduceLeDiff, Nat.reduceLT, reduceCtorEq, Int.reduceLT, Int.reduceLE, Int.reduceEq, Int.reduceBEq, Int.reduceSub, Int.reduceAdd, Int.reduceMul, Int.reduceNeg, Int.reduceToNat, Nat.reduceMul, Nat.reduceBEq, index_rsl_if, setm, make_ints, condK_dec, wantK_dec, not_dec, and_dec, or_dec, seqK_ite, seqK_none, blockK_ite, blockK_none, opsK_ite, opsK_none, stepK_ite, stepK_none, bodyK_ite, bodyK_none, resK_ite, resK_none, leaveK_ite, leaveK_none, only_ite, only_none, bind_ite, gives_some, gives_none, gives_ite, then_normal, then_ret, then_exit, then_none, then_ite, Option.bind_none, Bool.not_eq_true', decide_eq_false_iff_not, Bool.and_eq_true, Bool.or_eq_true, Option.some.injEq, Int.not_lt, Int.not_le, lp96_1, q]
    generalize hg : lim (headed pure (run L) false _ lp96_0 _ _) _ _ = o
    obtain ⟨x, en, s, rfl, h2⟩ : ∃ x en s, o = some (x, en, s) ∧ _ := by rw [← hg]; exact loop96_0 k hk xs0 a b c r T i (by omega) _ _ i xs ⟨Nat.le_refl _, hl, hx⟩ _ _ (by simp only [go_sem, reduceIte, Nat.reduceEqDiff, Nat.reduceAdd, Nat.reduceSub, Nat.reduceLeDiff, Nat.reduceLT, reduceCtorEq, Int.reduceLT, Int.reduceLE, Int.reduceEq, Int.reduceBEq, Int.reduceSub, Int.reduceAdd, Int.reduceMul, Int.reduceNeg, Int.reduceToNat, Nat.reduceMul, Nat.reduceBEq] <;> rfl)
    clear hg
    obtain ⟨rfl, g1, g2, g3, g4, g5, xs', h3, h4, rfl⟩ := h2
    simp only [go_sem, reduceIte, Nat.reduceEqDiff, Nat.reduceAdd, Nat.reduceSub, Nat.reduceLeDiff, Nat.reduceLT, reduceCtorEq, Int.reduceLT, Int.reduceLE, Int.reduceEq, Int.reduceBEq, Int.reduceSub, Int.reduceAdd, Int.reduceMul, Int.reduceNeg, Int.reduceToNat, Nat.reduceMul, Nat.reduceBEq, index_rsl_if, setm, make_ints, condK_dec, wantK_dec, not_dec, and_dec, or_dec, seqK_ite, seqK_none, blockK_ite, blockK_none, opsK_ite, opsK_none, stepK_ite, stepK_none, bodyK_ite, bodyK_none, resK_ite, resK_none, leaveK_ite, leaveK_none, only_ite, only_none, bind_ite, gives_some, gives_none, gives_ite, then_normal, then_ret, then_exit, then_none, then_ite, Option.bind_none, Bool.not_eq_true', decide_eq_false_iff_not, Bool.and_eq_true, Bool.or_eq_true, Option.some.injEq, Int.not_lt, Int.not_le, g1, g2, g3, g4, g5, hs]
    refine ⟨(i + 1, xs'), by simp only [go_sem, reduceIte, Nat.reduceEqDiff, Nat.reduceAdd, Nat.reduceSub, Nat.reduceLeDiff, Nat.reduceLT, reduceCtorEq, Int.reduceLT, Int.reduceLE, Int.reduceEq, Int.reduceBEq, Int.reduceSub, Int.reduceAdd, Int.reduceMul, Int.reduceNeg, Int.reduceToNat, Nat.reduceMul, Nat.reduceBEq, g1, g2, g3, g4, g5] <;> rfl, ⟨h3, h4⟩, q1, fun x_1 en s hq => hq⟩
  · dsimp only
    simp only [go_sem, reduceIte, Nat.reduceEqDiff, Nat.reduceAdd, Nat.reduceSub, Nat.reduceLeDiff, Nat.reduceLT, reduceCtorEq, Int.reduceLT, Int.reduceLE, Int.reduceEq, Int.reduceBEq, Int.reduceSub, Int.reduceAdd, Int.reduceMul, Int.reduceNeg, Int.reduceToNat, Nat.reduceMul, Nat.reduceBEq, index_rsl_if, setm, make_ints, condK_dec, wantK_dec, not_dec, and_dec, or_dec, seqK_ite, seqK_none, blockK_ite, blockK_none, opsK_ite, opsK_none, stepK_ite, stepK_none, bodyK_ite, bodyK_none, resK_ite, resK_none, leaveK_ite, leaveK_none, only_ite, only_none, bind_ite, gives_some, gives_none, gives_ite, then_normal, then_ret, then_exit, then_none, then_ite, Option.bind_none, Bool.not_eq_true', decide_eq_false_iff_not, Bool.and_eq_true, Bool.or_eq_true, Option.some.injEq, Int.not_lt, Int.not_le, lp96_1, q]
    exact ⟨xs, hl, hx, rfl⟩

theorem c96 (k : Nat) (hk : k < 1000) (xs : List (Int × Int)) (hl : xs.length = k) (a b c : List AV) (r : List (List AV)) (T : List Nat) :
    ∃ xs', xs'.length = k ∧ (∀ p ∈ xs', p ∈ xs) ∧ run L 96 [.rsl 3 0 k k 2 true, I 0, I k, fn63] ⟨a :: b :: c :: ((flatI xs).map I) :: r, T⟩ = some (.tup [], ⟨a :: b :: c :: ((flatI xs').map I) :: r, T⟩) := by
  rw [run_shared (fn := ir96) rfl rfl]
  have hw := wrap64 1 (by omega) (by omega)
  simp only [ir96, go_sem, reduceIte, Nat.reduceEqDiff, Nat.reduceAdd, Nat.reduceSub, Nat.reduceLeDiff, Nat.reduceLT, reduceCtorEq, Int.reduceLT, Int.reduceLE, Int.reduceEq, Int.reduceBEq, Int.reduceSub, Int.reduceAdd, Int.reduceMul, Int.reduceNeg, Int.reduceToNat, Nat.reduceMul, Nat.reduceBEq, hw]
  generalize hg : lim (headed pure (run L) false _ lp96_1 _ _) _ _ = o
  obtain ⟨x, en, s, rfl, h2⟩ : ∃ x en s, o = some (x, en, s) ∧ _ := by rw [← hg]; exact loop96_1 k hk xs a b c r T _ _ 1 xs ⟨hl, fun p h => h⟩ _ _ (by simp only [go_sem, reduceIte, Nat.reduceEqDiff, Nat.reduceAdd, Nat.reduceSub, Nat.reduceLeDiff, Nat.reduceLT, reduceCtorEq, Int.reduceLT, Int.reduceLE, Int.reduceEq, Int.reduceBEq, Int.reduceSub, Int.reduceAdd, Int.reduceMul, Int.reduceNeg, Int.reduceToNat, Nat.reduceMul, Nat.reduceBEq] <;> rfl)
  clear hg
  obtain ⟨rfl, xs', h3, h4, rfl⟩ := h2
  refine ⟨xs', h3, h4, ?_⟩
  simp only [go_sem, reduceIte, Nat.reduceEqDiff, Nat.reduceAdd, Nat.reduceSub, Nat.reduceLeDiff, Nat.reduceLT, reduceCtorEq, Int.reduceLT, Int.reduceLE, Int.reduceEq, Int.reduceBEq, Int.reduceSub, Int.reduceAdd, Int.reduceMul, Int.reduceNeg, Int.reduceToNat, Nat.reduceMul, Nat.reduceBEq]
theorem c96n (st : St) : run L 96 [.v (.slice none 0 0), I 0, I 0, fn63] st = some (.tup [], st) := by
  rw [run_shared (fn := ir96) rfl rfl]
  have hw := wrap64 1 (by omega) (by omega)
  simp only [ir96, go_sem, reduceIte, Nat.reduceEqDiff, Nat.reduceAdd, Nat.reduceSub, Nat.reduceLeDiff, Nat.reduceLT, reduceCtorEq, Int.reduceLT, Int.reduceLE, Int.reduceEq, Int.reduceBEq, Int.reduceSub, Int.reduceAdd, Int.reduceMul, Int.reduceNeg, Int.reduceToNat, Nat.reduceMul, Nat.reduceBEq, hw]
  rw [lim_eq]
  simp only [headed, lp96_1, go_sem, reduceIte, Nat.reduceEqDiff, Nat.reduceAdd, Nat.reduceSub, Nat.reduceLeDiff, Nat.reduceLT, reduceCtorEq, Int.reduceLT, Int.reduceLE, Int.reduceEq, Int.reduceBEq, Int.reduceSub, Int.reduceAdd, Int.reduceMul, Int.reduceNeg, Int.reduceToNat, Nat.reduceMul, Nat.reduceBEq]

theorem c90 (k : Nat) (hk : k ≤ 12) (xs : List (Int × Int)) (hl : xs.length = k) (lim0 : Int) (a b c : List AV) (r : List (List AV)) (T : List Nat) :
    ∃ xs', xs'.length = k ∧ (∀ p ∈ xs', p ∈ xs) ∧ run L 90 [.rsl 3 0 k k 2 true, I 0, I k, I lim0, fn63] ⟨a :: b :: c :: ((flatI xs).map I) :: r, T⟩ = some (.tup [], ⟨a :: b :: c :: ((flatI xs').map I) :: r, T⟩) := by
  obtain ⟨xs', h1, h2, h96⟩ := c96 k (by omega) xs hl a b c r T
  refine ⟨xs', h1, h2, ?_⟩
  rw [run_shared (fn := ir90) rfl rfl]
  have hw : IntKind.i64.wrap ((k : Int) - 0) = (k : Int) := by rw [wrap64] <;> omega
  have q : ((k : Int) ≤ 12) = True := eq_true (by omega)
  simp only [ir90, go_sem, reduceIte, Nat.reduceEqDiff, Nat.reduceAdd, Nat.reduceSub, Nat.reduceLeDiff, Nat.reduceLT, reduceCtorEq, Int.reduceLT, Int.reduceLE, Int.reduceEq, Int.reduceBEq, Int.reduceSub, Int.reduceAdd, Int.reduceMul, Int.reduceNeg, Int.reduceToNat, Nat.reduceMul, Nat.reduceBEq]
  rw [lim_eq]
  simp only [headed, lp90_0, go_sem, reduceIte, Nat.reduceEqDiff, Nat.reduceAdd, Nat.reduceSub, Nat.reduceLeDiff, Nat.reduceLT, reduceCtorEq, Int.reduceLT, Int.reduceLE, Int.reduceEq, Int.reduceBEq, Int.reduceSub, Int.reduceAdd, Int.reduceMul, Int.reduceNeg, Int.reduceToNat, Nat.reduceMul, Nat.reduceBEq, hw, q, h96]
theorem c90n (lim0 : Int) (st : St) : run L 90 [.v (.slice none 0 0), I 0, I 0, I lim0, fn63] st = some (.tup [], st) := by
  rw [run_shared (fn := ir90) rfl rfl]
  have hw := wrap64 0 (by omega) (by omega)
  simp only [ir90, go_sem, reduceIte, Nat.reduceEqDiff, Nat.reduceAdd, Nat.reduceSub, Nat.reduceLeDiff, Nat.reduceLT, reduceCtorEq, Int.reduceLT, Int.reduceLE, Int.reduceEq, Int.reduceBEq, Int.reduceSub, Int.reduceAdd, Int.reduceMul, Int.reduceNeg, Int.reduceToNat, Nat.reduceMul, Nat.reduceBEq]
  rw [lim_eq]
  simp only [headed, lp90_0, go_sem, reduceIte, Nat.reduceEqDiff, Nat.reduceAdd, Nat.reduceSub, Nat.reduceLeDiff, Nat.reduceLT, reduceCtorEq, Int.reduceLT, Int.reduceLE, Int.reduceEq, Int.reduceBEq, Int.reduceSub, Int.reduceAdd, Int.reduceMul, Int.reduceNeg, Int.reduceToNat, Nat.reduceMul, Nat.reduceBEq, hw, c96n]

theorem len0 : callAV L 20 91 [.v (.int .u64 0)] ⟨[], []⟩ = some (I 0, ⟨[], []⟩) := by kernel_rfl
theorem len1 : callAV L 20 91 [.v (.int .u64 1)] ⟨[], []⟩ = some (I 1, ⟨[], []⟩) := by kernel_rfl
theorem len2 : callAV L 20 91 [.v (.int .u64 2)] ⟨[], []⟩ = some (I 2, ⟨[], []⟩) := by kernel_rfl
theorem len3 : callAV L 20 91 [.v (.int .u64 3)] ⟨[], []⟩ = some (I 2, ⟨[], []⟩) := by kernel_rfl
theorem len4 : callAV L 20 91 [.v (.int .u64 4)] ⟨[], []⟩ = some (I 3, ⟨[], []⟩) := by kernel_rfl
theorem c91 (k : Nat) (hk : k ≤ 4) : ∃ m : Int, ∀ st, run L 91 [.v (.int .u64 (k : Int))] st = some (I m, st) := by
  have key : ∀ (n m : Int), callAV L 20 91 [.v (.int .u64 n)] ⟨[], []⟩ = some (I m, ⟨[], []⟩) → ∀ st, run L 91 [.v (.int .u64 n)] st = some (I m, st) := by
    intro n m h st
    exact run_any (fn := ir91) rfl rfl ((run_some L).2 ⟨20, h⟩) st
  match k, hk with
  | 0, _ => exact ⟨0, key 0 0 len0⟩
  | 1, _ => exact ⟨1, key 1 1 len1⟩
  | 2, _ => exact ⟨2, key 2 2 len2⟩
  | 3, _ => exact ⟨2, key 3 2 len3⟩
  | 4, _ => exact ⟨3, key 4 3 len4⟩
theorem c62 (k : Nat) (hk : k ≤ 4) (xs : List (Int × Int)) (hl : xs.length = k) (a b c : List AV) (r : List (List AV)) (T : List Nat) :
    ∃ xs', xs'.length = k ∧ (∀ p ∈ xs', p ∈ xs) ∧ run L 62 [.rsl 3 0 k k 2 true, fn63] ⟨a :: b :: c :: ((flatI xs).map I) :: r, T⟩ = some (.tup [], ⟨a :: b :: c :: ((flatI xs').map I) :: r, T⟩) := by
  obtain ⟨m, h91⟩ := c91 k hk
  obtain ⟨xs', h1, h2, h90⟩ := c90 k (by omega) xs hl m a b c r T
  refine ⟨xs', h1, h2, ?_⟩
  rw [run_shared (fn := ir62) rfl rfl]
  have hw : IntKind.u64.wrap (k : Int) = (k : Int) := by simp [IntKind.wrap, IntKind.bits, IntKind.signed]; omega
  simp only [ir62, go_sem, reduceIte, Nat.reduceEqDiff, Nat.reduceAdd, Nat.reduceSub, Nat.reduceLeDiff, Nat.reduceLT, reduceCtorEq, Int.reduceLT, Int.reduceLE, Int.reduceEq, Int.reduceBEq, Int.reduceSub, Int.reduceAdd, Int.reduceMul, Int.reduceNeg, Int.reduceToNat, Nat.reduceMul, Nat.reduceBEq, hw, h91, h90]
theorem c62n (st : St) : run L 62 [.v (.slice none 0 0), fn63] st = some (.tup [], st) := by
  obtain ⟨m, h91⟩ := c91 0 (by omega)
  rw [run_shared (fn := ir62) rfl rfl]
  have hw : IntKind.u64.wrap (0 : Int) = 0 := by decide
  simp only [Int.natCast_zero] at h91
  simp only [ir62, go_sem, reduceIte, Nat.reduceEqDiff, Nat.reduceAdd, Nat.reduceSub, Nat.reduceLeDiff, Nat.reduceLT, reduceCtorEq, Int.reduceLT, Int.reduceLE, Int.reduceEq, Int.reduceBEq, Int.reduceSub, Int.reduceAdd, Int.reduceMul, Int.reduceNeg, Int.reduceToNat, Nat.reduceMul, Nat.reduceBEq, hw, h91, c90n]


/-! ### stretches that are shown -/

theorem refsV_sl (n : Nat) (acc : List Nat) (z : Nat) (nl : Bool) (xs : List AV) : refsV n acc (sl z nl xs) = acc := by
  cases xs with
  | nil => cases nl <;> rfl
  | cons x r => rw [sl_ne (by simp)]; simp only [refsV]
theorem mapL_sl (n : Nat) (M : List Nat) (z : Nat) (nl : Bool) (xs : List AV) : mapL n M (sl z nl xs) = sl z nl xs := by
  cases xs with
  | nil => cases nl <;> rfl
  | cons x r => rw [sl_ne (by simp)]; simp only [mapL]
theorem refsL_ints (n : Nat) (k : IntKind) : ∀ (xs : List Int) (acc : List Nat), refsL n acc (xs.map fun i => .v (.int k i)) = acc
  | [], acc => by simp only [List.map_nil, refsL]
  | x :: r, acc => by simp only [List.map_cons, refsL, refsV, refsL_ints n k r]
theorem mapLs_ints (n : Nat) (M : List Nat) (k : IntKind) : ∀ (xs : List Int), mapLs n M (xs.map fun i => .v (.int k i)) = xs.map fun i => .v (.int k i)
  | [] => by simp only [List.map_nil, mapLs]
  | x :: r => by simp only [List.map_cons, mapLs, mapL, mapLs_ints n M k r]
theorem refsL_append (n : Nat) : ∀ (a b : List AV) (acc : List Nat), refsL n acc (a ++ b) = refsL n (refsL n acc a) b
  | [], _, _ => rfl
  | x :: r, b, acc => by simp only [List.cons_append, refsL, refsL_append n r b]
theorem mapLs_append (n : Nat) (M : List Nat) : ∀ (a b : List AV), mapLs n M (a ++ b) = mapLs n M a ++ mapLs n M b
  | [], _ => rfl
  | x :: r, b => by simp only [List.cons_append, mapLs, mapLs_append n M r b]
theorem refsL_shelf (n : Nat) (acc : List Nat) (s : Shelf) : refsL n acc s.cells = acc := by
  simp only [Shelf.cells, refsL, refsV, refsL_append, refsL_ints]
theorem mapLs_shelf (n : Nat) (M : List Nat) (s : Shelf) : mapLs n M s.cells = s.cells := by
  simp only [Shelf.cells, mapLs, mapL, mapLs_append, mapLs_ints]

/-- The pairs out of bytes. -/
def pairAt (zs : List Int) (n : Int) (i : Nat) : Int × Int := (zs.getD (i * 2) 0 % (n + 1), zs.getD (i * 2 + 1) 0 % (n + 1))
def pairsOf (zs : List Int) (n : Int) (m : Nat) : List (Int × Int) := (List.range m).map (pairAt zs n)
theorem pairs_succ (zs : List Int) (n : Int) (m : Nat) : pairsOf zs n (m + 1) = pairsOf zs n m ++ [pairAt zs n m] := by simp [pairsOf, List.range_succ]
theorem pairs_len (zs : List Int) (n : Int) (m : Nat) : (pairsOf zs n m).length = m := by simp [pairsOf]
def mutAV (xs : List (Int × Int)) : AV := if xs = [] then .v (.slice none 0 0) else .rsl 3 0 xs.length xs.length 2 true
def mutS (xs : List (Int × Int)) : List (List AV) := if xs = [] then [] else [(flatI xs).map I]

theorem loop16_0 (s0 : Shelf) (zs : List Int) (hz : zs.length = 8) (hby : ∀ z ∈ zs, Byte z) (arts : List (Int × Int)) (room floor : Int) (g3 : 1 ≤ arts.length) (g4 : arts.length ≤ 12) (many v : Int) (m : Nat) (hm : m ≤ 4) (i : Nat) (hok : i ≤ m) (env : Env) (st : St)
    (hg : gcAV true 3 0 (canon env [3, 9, 10, 11, 12, 32, 33, 34, 3000000]) st = ([(3, U many), (9, .ptr 2 0), (10, I arts.length), (11, I v), (12, mutAV (pairsOf zs arts.length i)), (32, .rsl 1 0 m 4 2 true), (33, I m), (34, I i), (3000000, .any)], ⟨s0.cells :: zs.map U :: bookCells true arts room floor :: mutS (pairsOf zs arts.length i), []⟩)) :
    ∃ x_1 en s, lim (headed pure (run L) true [3, 9, 10, 11, 12, 32, 33, 34, 3000000] lp16_0 3 0) env st = some (x_1, en, s) ∧ (x_1 = .exit 0 ∧ en.get 3 = U many ∧ en.get 9 = .ptr 2 0 ∧ en.get 10 = I arts.length ∧ en.get 11 = I v ∧ en.get 12 = mutAV (pairsOf zs arts.length m) ∧ s = ⟨s0.cells :: zs.map U :: bookCells true arts room floor :: mutS (pairsOf zs arts.length m), []⟩) := by
  refine loop_wp (α := Nat) (fun i => m - i) (fun i => i ≤ m) (fun i => ([(3, U many), (9, .ptr 2 0), (10, I arts.length), (11, I v), (12, mutAV (pairsOf zs arts.length i)), (32, .rsl 1 0 m 4 2 true), (33, I m), (34, I i), (3000000, .any)], ⟨s0.cells :: zs.map U :: bookCells true arts room floor :: mutS (pairsOf zs arts.length i), []⟩)) (fun i x_1 en s => x_1 = .exit 0 ∧ en.get 3 = U many ∧ en.get 9 = .ptr 2 0 ∧ en.get 10 = I arts.length ∧ en.get 11 = I v ∧ en.get 12 = mutAV (pairsOf zs arts.length m) ∧ s = ⟨s0.cells :: zs.map U :: bookCells true arts room floor :: mutS (pairsOf zs arts.length m), []⟩) (fun i hok => ?_) i hok env st hg
  by_cases q : (i : Int) < (m : Int)
  · have hs := succ64 i (by omega)
    have hidx : indexSAV 2 (.rsl 1 0 m 4 2 true) (.v (.int .i64 (i : Int))) = some (.ptr 1 (i * 2)) := by
      simp only [indexSAV]
      rw [if_pos ⟨trivial, by omega, by omega⟩]
      simp
    have hb1 : (i * 2 + 2 ≤ 8) = True := eq_true (by omega)
    have hpair : ((zs.map U).drop (i * 2)).take 2 = [U (zs.getD (i * 2) 0), U (zs.getD (i * 2 + 1) 0)] := by
      have hd : zs.drop (i * 2) = zs[i * 2]'(by omega) :: zs[i * 2 + 1]'(by omega) :: zs.drop (i * 2 + 1 + 1) := by rw [List.drop_eq_getElem_cons (by omega), List.drop_eq_getElem_cons (by omega)]
      have e1 : zs.getD (i * 2) 0 = zs[i * 2]'(by omega) := by rw [List.getD_eq_getElem?_getD, List.getElem?_eq_getElem (by omega)]; rfl
      have e2 : zs.getD (i * 2 + 1) 0 = zs[i * 2 + 1]'(by omega) := by rw [List.getD_eq_getElem?_getD, List.getElem?_eq_getElem (by omega)]; rfl
      rw [← List.map_drop, hd, e1, e2]
      rfl
    have ba := byte_getD hby (i * 2)
    have bb := byte_getD hby (i * 2 + 1)
    have hsucc := pairs_succ zs arts.length i
    have hlen := pairs_len zs arts.length i
    have hp : pairAt zs arts.length i = (zs.getD (i * 2) 0 % ((arts.length : Int) + 1), zs.getD (i * 2 + 1) 0 % ((arts.length : Int) + 1)) := rfl
    generalize zs.getD (i * 2) 0 = za at *
    generalize zs.getD (i * 2 + 1) 0 = zb at *
    unfold Byte at ba bb
    have wa := wrap64 za (by omega) (by omega)
    have wb := wrap64 zb (by omega) (by omega)
    have wn := wrap64 ((arts.length : Int) + 1) (by omega) (by omega)
    have zn : ((arts.length : Int) + 1 = 0) = False := eq_false (by omega)
    have ta : za.tmod ((arts.length : Int) + 1) = za % ((arts.length : Int) + 1) := Int.tmod_eq_emod_of_nonneg (by omega)
    have tb : zb.tmod ((arts.length : Int) + 1) = zb % ((arts.length : Int) + 1) := Int.tmod_eq_emod_of_nonneg (by omega)
    have q1 : m - (i + 1) < m - i := by omega
    have q2 : i + 1 ≤ m := by omega
    generalize pairAt zs arts.length i = pr at *
    dsimp only
    by_cases hi : i = 0
    · have e0 : pairsOf zs arts.length i = [] := by rw [hi]; rfl
      rw [e0] at hsucc ⊢
      have happ : ∀ (S : List (List AV)), appendmAV 2 true (.v (.slice none 0 0)) [.agg [I (za % ((arts.length : Int) + 1)), I (zb % ((arts.length : Int) + 1))]] ⟨S, []⟩ = some (.rsl S.length 0 1 1 2 true, ⟨S ++ [(flatI [pr]).map I], []⟩) := by
        intro S
        subst hp
        simp [appendmAV, newM, maxGrow, flatAV, flatI, AV.cells]
      have em : mutAV ([] : List (Int × Int)) = .v (.slice none 0 0) := rfl
      have eS : mutS ([] : List (Int × Int)) = [] := rfl
      have em1 : mutAV (pairsOf zs arts.length (i + 1)) = .rsl 3 0 1 1 2 true := by rw [hsucc]; rfl
      have eS1 : mutS (pairsOf zs arts.length (i + 1)) = [(flatI [pr]).map I] := by rw [hsucc]; rfl
      generalize flatI [pr] = fl at *
      simp only [go_sem, reduceIte, Nat.reduceEqDiff, Nat.reduceAdd, Nat.reduceSub, Nat.reduceLeDiff, Nat.reduceLT, reduceCtorEq, Int.reduceLT, Int.reduceLE, Int.reduceEq, Int.reduceBEq, Int.reduceSub, Int.reduceAdd, Int.reduceMul, Int.reduceNeg, Int.reduceToNat, Nat.reduceMul, Nat.reduceBEq, index_rsl_if, setm, make_ints, condK_dec, wantK_dec, not_dec, and_dec, or_dec, seqK_ite, seqK_none, blockK_ite, blockK_none, opsK_ite, opsK_none, stepK_ite, stepK_none, bodyK_ite, bodyK_none, resK_ite, resK_none, leaveK_ite, leaveK_none, only_ite, only_none, bind_ite, gives_some, gives_none, gives_ite, then_normal, then_ret, then_exit, then_none, then_ite, Option.bind_none, Bool.not_eq_true', decide_eq_false_iff_not, Bool.and_eq_true, Bool.or_eq_true, Option.some.injEq, Int.not_lt, Int.not_le, lp16_0, q, hidx, hb1, hpair, wa, wb, wn, zn, ta, tb, hs, happ, em, eS, elemsOf, hz, List.length_map]
      refine ⟨i + 1, ?_, q2, q1, fun x_1 en s hq => hq⟩
      simp only [go_sem, reduceIte, Nat.reduceEqDiff, Nat.reduceAdd, Nat.reduceSub, Nat.reduceLeDiff, Nat.reduceLT, reduceCtorEq, Int.reduceLT, Int.reduceLE, Int.reduceEq, Int.reduceBEq, Int.reduceSub, Int.reduceAdd, Int.reduceMul, Int.reduceNeg, Int.reduceToNat, Nat.reduceMul, Nat.reduceBEq, em1, eS1, compact, compactW, refsEnv, refsV, refsL, refsStore, refsAt, mapEnv, mapL, mapLs, newName, posOf, mapStore, pickStore, namesOk, refsV_sl, mapL_sl, refsL_ints, mapLs_ints, refsL_shelf, mapLs_shelf, renCells_shelf, renCells_map U _ _ (fun _ _ => rfl), List.contains_nil, List.contains_cons, Option.getD_some, List.take_succ_cons]
    · have hne : pairsOf zs arts.length i ≠ [] := by intro h; rw [h] at hlen; simp at hlen; omega
      have em : mutAV (pairsOf zs arts.length i) = .rsl 3 0 i i 2 true := by unfold mutAV; rw [if_neg hne, hlen]
      have eS : mutS (pairsOf zs arts.length i) = [(flatI (pairsOf zs arts.length i)).map I] := by unfold mutS; rw [if_neg hne]
      have hne1 : pairsOf zs arts.length (i + 1) ≠ [] := by rw [hsucc]; simp
      have em1 : mutAV (pairsOf zs arts.length (i + 1)) = .rsl 3 0 (i + 1) (i + 1) 2 true := by unfold mutAV; rw [if_neg hne1, pairs_len]
      have eS1 : mutS (pairsOf zs arts.length (i + 1)) = [(flatI (pairsOf zs arts.length (i + 1))).map I] := by unfold mutS; rw [if_neg hne1]
      have happ : ∀ (a b c d : List AV), appendmAV 2 true (.rsl 3 0 i i 2 true) [.agg [I (za % ((arts.length : Int) + 1)), I (zb % ((arts.length : Int) + 1))]] ⟨[a, b, c, (flatI (pairsOf zs arts.length i)).map I, d], []⟩ =
          some (.rsl 5 0 (i + 1) (i + 1) 2 true, ⟨[a, b, c, [], d, (flatI (pairsOf zs arts.length (i + 1))).map I], []⟩) := by
        intro a b c d
        have hfl : ((flatI (pairsOf zs arts.length i)).map I).length = i * 2 := by rw [List.length_map, flatI_len, hlen]
        have htk : ((flatI (pairsOf zs arts.length i)).map I).take (i * 2) = (flatI (pairsOf zs arts.length i)).map I := List.take_of_length_le (by omega)
        simp only [appendmAV, List.getElem?_cons_succ, List.getElem?_cons_zero, hfl, List.length_cons, List.length_nil, htk]
        rw [if_pos ⟨trivial, trivial, Nat.le_refl _, by omega, by omega⟩, if_neg (by omega), if_pos ⟨trivial, by unfold maxGrow; omega, by omega⟩]
        rw [hsucc, flatI_append, hp]
        simp [flatAV, flatI, AV.cells]
      generalize pairsOf zs arts.length i = P1 at *
      simp only [go_sem, reduceIte, Nat.reduceEqDiff, Nat.reduceAdd, Nat.reduceSub, Nat.reduceLeDiff, Nat.reduceLT, reduceCtorEq, Int.reduceLT, Int.reduceLE, Int.reduceEq, Int.reduceBEq, Int.reduceSub, Int.reduceAdd, Int.reduceMul, Int.reduceNeg, Int.reduceToNat, Nat.reduceMul, Nat.reduceBEq, index_rsl_if, setm, make_ints, condK_dec, wantK_dec, not_dec, and_dec, or_dec, seqK_ite, seqK_none, blockK_ite, blockK_none, opsK_ite, opsK_none, stepK_ite, stepK_none, bodyK_ite, bodyK_none, resK_ite, resK_none, leaveK_ite, leaveK_none, only_ite, only_none, bind_ite, gives_some, gives_none, gives_ite, then_normal, then_ret, then_exit, then_none, then_ite, Option.bind_none, Bool.not_eq_true', decide_eq_false_iff_not, Bool.and_eq_true, Bool.or_eq_true, Option.some.injEq, Int.not_lt, Int.not_le, lp16_0, q, hidx, hb1, hpair, wa, wb, wn, zn, ta, tb, hs, happ, em, eS, elemsOf, hz, List.length_map]
      refine ⟨i + 1, ?_, q2, q1, fun x_1 en s hq => hq⟩
      simp only [go_sem, reduceIte, Nat.reduceEqDiff, Nat.reduceAdd, Nat.reduceSub, Nat.reduceLeDiff, Nat.reduceLT, reduceCtorEq, Int.reduceLT, Int.reduceLE, Int.reduceEq, Int.reduceBEq, Int.reduceSub, Int.reduceAdd, Int.reduceMul, Int.reduceNeg, Int.reduceToNat, Nat.reduceMul, Nat.reduceBEq, em1, eS1, compact, compactW, refsEnv, refsV, refsL, refsStore, refsAt, mapEnv, mapL, mapLs, newName, posOf, mapStore, pickStore, namesOk, refsV_sl, mapL_sl, refsL_ints, mapLs_ints, refsL_shelf, mapLs_shelf, renCells_shelf, renCells_map U _ _ (fun _ _ => rfl), List.contains_nil, List.contains_cons, Option.getD_some, List.take_succ_cons]
  · obtain rfl : i = m := by omega
    dsimp only
    simp only [go_sem, reduceIte, Nat.reduceEqDiff, Nat.reduceAdd, Nat.reduceSub, Nat.reduceLeDiff, Nat.reduceLT, reduceCtorEq, Int.reduceLT, Int.reduceLE, Int.reduceEq, Int.reduceBEq, Int.reduceSub, Int.reduceAdd, Int.reduceMul, Int.reduceNeg, Int.reduceToNat, Nat.reduceMul, Nat.reduceBEq, index_rsl_if, setm, make_ints, condK_dec, wantK_dec, not_dec, and_dec, or_dec, seqK_ite, seqK_none, blockK_ite, blockK_none, opsK_ite, opsK_none, stepK_ite, stepK_none, bodyK_ite, bodyK_none, resK_ite, resK_none, leaveK_ite, leaveK_none, only_ite, only_none, bind_ite, gives_some, gives_none, gives_ite, then_normal, then_ret, then_exit, then_none, then_ite, Option.bind_none, Bool.not_eq_true', decide_eq_false_iff_not, Bool.and_eq_true, Bool.or_eq_true, Option.some.injEq, Int.not_lt, Int.not_le, lp16_0, q]

set_option maxHeartbeats 4000000 in
theorem loop16_1 (s0 : Shelf) (zs : List Int) (arts : List (Int × Int)) (room floor : Int) (hck : check arts room floor = 0) (v : Int) (xs : List (Int × Int)) (hlen : xs.length < 1000) (hxs : ∀ p ∈ xs, (0 ≤ p.1 ∧ p.1 ≤ arts.length) ∧ 0 ≤ p.2 ∧ p.2 ≤ arts.length) (W : Int) (D : List (List AV)) (lo : Nat) (hD : (D = [] ∧ lo = 3) ∨ (D = [[]] ∧ lo = 4)) (i : Nat) (want : Int) (f : Int) (hok : i ≤ xs.length ∧ (want ≠ 0 → want = W) ∧ (want = 0 → provesFrom arts.length (mosts arts) room f (xs.drop i) = W)) (env : Env) (st : St)
    (hg : gcAV true lo 0 (canon env [9, 10, 11, 12, 15, 16, 60, 61, 62]) st = ([(9, .ptr 2 0), (10, I arts.length), (11, I v), (12, sl 2 true (xs.map artAV)), (15, I want), (16, I f), (60, sl 2 true (xs.map artAV)), (61, I xs.length), (62, I i)], ⟨s0.cells :: zs.map U :: bookCells true arts room floor :: D, []⟩)) :
    ∃ x_1 en s, lim (headed pure (run L) true [9, 10, 11, 12, 15, 16, 60, 61, 62] lp16_1 lo 0) env st = some (x_1, en, s) ∧ (x_1 = .exit 2 ∧ en.get 9 = .ptr 2 0 ∧ en.get 10 = I arts.length ∧ en.get 11 = I v ∧ en.get 12 = sl 2 true (xs.map artAV) ∧ en.get 15 = I W ∧ s.store.take 3 = [s0.cells, zs.map U, bookCells true arts room floor]) := by
  refine loop_wp (α := Nat × Int × Int) (fun ⟨i, want, f⟩ => xs.length - i) (fun ⟨i, want, f⟩ => i ≤ xs.length ∧ (want ≠ 0 → want = W) ∧ (want = 0 → provesFrom arts.length (mosts arts) room f (xs.drop i) = W)) (fun ⟨i, want, f⟩ => ([(9, .ptr 2 0), (10, I arts.length), (11, I v), (12, sl 2 true (xs.map artAV)), (15, I want), (16, I f), (60, sl 2 true (xs.map artAV)), (61, I xs.length), (62, I i)], ⟨s0.cells :: zs.map U :: bookCells true arts room floor :: D, []⟩)) (fun ⟨i, want, f⟩ x_1 en s => x_1 = .exit 2 ∧ en.get 9 = .ptr 2 0 ∧ en.get 10 = I arts.length ∧ en.get 11 = I v ∧ en.get 12 = sl 2 true (xs.map artAV) ∧ en.get 15 = I W ∧ s.store.take 3 = [s0.cells, zs.map U, bookCells true arts room floor]) (fun ⟨i, want, f⟩ hok => ?_) ⟨i, want, f⟩ hok env st hg
  simp only at hok
  obtain ⟨h1, h2, h3⟩ := hok
  dsimp only
  by_cases q : (i : Int) < (xs.length : Int)
  · have hx := index_arts true xs i (by omega)
    have hs := succ64 i (by omega)
    have hd : xs.drop i = xs[i]'(by omega) :: xs.drop (i + 1) := List.drop_eq_getElem_cons (by omega)
    have hmem := hxs _ (List.getElem_mem (show i < xs.length by omega))
    rw [hd] at h3
    generalize xs[i]'(by omega) = pr at *
    obtain ⟨x, y⟩ := pr
    simp only at hmem
    simp only [provesFrom] at h3
    obtain ⟨⟨m1, m2⟩, m3, m4⟩ := hmem
    have q1 : xs.length - (i + 1) < xs.length - i := by omega
    by_cases w : want = 0
    · replace h3 := h3 w
      clear h2
      subst w
      have key : ∀ (want' : Int), (want' ≠ 0 → want' = W) → (want' = 0 → provesFrom arts.length (mosts arts) room y (xs.drop (i + 1)) = W) → i + 1 ≤ xs.length ∧ (want' ≠ 0 → want' = W) ∧ (want' = 0 → provesFrom arts.length (mosts arts) room y (xs.drop (i + 1)) = W) := fun _ a b => ⟨by omega, a, b⟩
      by_cases p1 : x = (arts.length : Int)
      · rw [if_pos (.inr (by omega))] at h3
        have hk := key 2 (fun _ => h3) (fun h => by omega)
        rcases hD with ⟨rfl, rfl⟩ | ⟨rfl, rfl⟩ <;> (
        simp only [go_sem, reduceIte, Nat.reduceEqDiff, Nat.reduceAdd, Nat.reduceSub, Nat.reduceLeDiff, Nat.reduceLT, reduceCtorEq, Int.reduceLT, Int.reduceLE, Int.reduceEq, Int.reduceBEq, Int.reduceSub, Int.reduceAdd, Int.reduceMul, Int.reduceNeg, Int.reduceToNat, Nat.reduceMul, Nat.reduceBEq, index_rsl_if, setm, make_ints, condK_dec, wantK_dec, not_dec, and_dec, or_dec, seqK_ite, seqK_none, blockK_ite, blockK_none, opsK_ite, opsK_none, stepK_ite, stepK_none, bodyK_ite, bodyK_none, resK_ite, resK_none, leaveK_ite, leaveK_none, only_ite, only_none, bind_ite, gives_some, gives_none, gives_ite, then_normal, then_ret, then_exit, then_none, then_ite, Option.bind_none, Bool.not_eq_true', decide_eq_false_iff_not, Bool.and_eq_true, Bool.or_eq_true, Option.some.injEq, Int.not_lt, Int.not_le, lp16_1, q, hx, hs, p1]
        refine ⟨(i + 1, 2, y), by simp only [go_sem, reduceIte, Nat.reduceEqDiff, Nat.reduceAdd, Nat.reduceSub, Nat.reduceLeDiff, Nat.reduceLT, reduceCtorEq, Int.reduceLT, Int.reduceLE, Int.reduceEq, Int.reduceBEq, Int.reduceSub, Int.reduceAdd, Int.reduceMul, Int.reduceNeg, Int.reduceToNat, Nat.reduceMul, Nat.reduceBEq, ren1_locm, loc_tips, locT_eq, okRefs_shelf, renCells_shelf, okRefs_map U _ (fun _ => rfl), renCells_map U _ _ (fun _ _ => rfl)] <;> rfl, ?_, ?_, fun x en s hq => ?_⟩
        · exact hk
        · exact q1
        · exact hq)
      · by_cases p2 : y = (arts.length : Int)
        · rw [if_pos (.inr (by omega))] at h3
          have hk := key 2 (fun _ => h3) (fun h => by omega)
          clear key h3
          subst p2
          rcases hD with ⟨rfl, rfl⟩ | ⟨rfl, rfl⟩ <;> (
          simp only [go_sem, reduceIte, Nat.reduceEqDiff, Nat.reduceAdd, Nat.reduceSub, Nat.reduceLeDiff, Nat.reduceLT, reduceCtorEq, Int.reduceLT, Int.reduceLE, Int.reduceEq, Int.reduceBEq, Int.reduceSub, Int.reduceAdd, Int.reduceMul, Int.reduceNeg, Int.reduceToNat, Nat.reduceMul, Nat.reduceBEq, index_rsl_if, setm, make_ints, condK_dec, wantK_dec, not_dec, and_dec, or_dec, seqK_ite, seqK_none, blockK_ite, blockK_none, opsK_ite, opsK_none, stepK_ite, stepK_none, bodyK_ite, bodyK_none, resK_ite, resK_none, leaveK_ite, leaveK_none, only_ite, only_none, bind_ite, gives_some, gives_none, gives_ite, then_normal, then_ret, then_exit, then_none, then_ite, Option.bind_none, Bool.not_eq_true', decide_eq_false_iff_not, Bool.and_eq_true, Bool.or_eq_true, Option.some.injEq, Int.not_lt, Int.not_le, lp16_1, q, hx, hs, p1]
          refine ⟨(i + 1, 2, (arts.length : Int)), by simp only [go_sem, reduceIte, Nat.reduceEqDiff, Nat.reduceAdd, Nat.reduceSub, Nat.reduceLeDiff, Nat.reduceLT, reduceCtorEq, Int.reduceLT, Int.reduceLE, Int.reduceEq, Int.reduceBEq, Int.reduceSub, Int.reduceAdd, Int.reduceMul, Int.reduceNeg, Int.reduceToNat, Nat.reduceMul, Nat.reduceBEq, ren1_locm, loc_tips, locT_eq, okRefs_shelf, renCells_shelf, okRefs_map U _ (fun _ => rfl), renCells_map U _ _ (fun _ _ => rfl)] <;> rfl, ?_, ?_, fun x en s hq => ?_⟩
          · exact hk
          · exact q1
          · exact hq)
        · rw [if_neg (by omega)] at h3
          by_cases p3 : y ≤ x
          · rw [if_pos (.inl p3)] at h3
            have hk := key 7 (fun _ => h3) (fun h => by omega)
            rcases hD with ⟨rfl, rfl⟩ | ⟨rfl, rfl⟩ <;> (
            simp only [go_sem, reduceIte, Nat.reduceEqDiff, Nat.reduceAdd, Nat.reduceSub, Nat.reduceLeDiff, Nat.reduceLT, reduceCtorEq, Int.reduceLT, Int.reduceLE, Int.reduceEq, Int.reduceBEq, Int.reduceSub, Int.reduceAdd, Int.reduceMul, Int.reduceNeg, Int.reduceToNat, Nat.reduceMul, Nat.reduceBEq, index_rsl_if, setm, make_ints, condK_dec, wantK_dec, not_dec, and_dec, or_dec, seqK_ite, seqK_none, blockK_ite, blockK_none, opsK_ite, opsK_none, stepK_ite, stepK_none, bodyK_ite, bodyK_none, resK_ite, resK_none, leaveK_ite, leaveK_none, only_ite, only_none, bind_ite, gives_some, gives_none, gives_ite, then_normal, then_ret, then_exit, then_none, then_ite, Option.bind_none, Bool.not_eq_true', decide_eq_false_iff_not, Bool.and_eq_true, Bool.or_eq_true, Option.some.injEq, Int.not_lt, Int.not_le, lp16_1, q, hx, hs, p1, p2, p3]
            refine ⟨(i + 1, 7, y), by simp only [go_sem, reduceIte, Nat.reduceEqDiff, Nat.reduceAdd, Nat.reduceSub, Nat.reduceLeDiff, Nat.reduceLT, reduceCtorEq, Int.reduceLT, Int.reduceLE, Int.reduceEq, Int.reduceBEq, Int.reduceSub, Int.reduceAdd, Int.reduceMul, Int.reduceNeg, Int.reduceToNat, Nat.reduceMul, Nat.reduceBEq, ren1_locm, loc_tips, locT_eq, okRefs_shelf, renCells_shelf, okRefs_map U _ (fun _ => rfl), renCells_map U _ _ (fun _ _ => rfl)] <;> rfl, ?_, ?_, fun x en s hq => ?_⟩
            · exact hk
            · exact q1
            · exact hq)
          · by_cases p4 : x < f
            · rw [if_pos (.inr p4)] at h3
              have hk := key 7 (fun _ => h3) (fun h => by omega)
              rcases hD with ⟨rfl, rfl⟩ | ⟨rfl, rfl⟩ <;> (
              simp only [go_sem, reduceIte, Nat.reduceEqDiff, Nat.reduceAdd, Nat.reduceSub, Nat.reduceLeDiff, Nat.reduceLT, reduceCtorEq, Int.reduceLT, Int.reduceLE, Int.reduceEq, Int.reduceBEq, Int.reduceSub, Int.reduceAdd, Int.reduceMul, Int.reduceNeg, Int.reduceToNat, Nat.reduceMul, Nat.reduceBEq, index_rsl_if, setm, make_ints, condK_dec, wantK_dec, not_dec, and_dec, or_dec, seqK_ite, seqK_none, blockK_ite, blockK_none, opsK_ite, opsK_none, stepK_ite, stepK_none, bodyK_ite, bodyK_none, resK_ite, resK_none, leaveK_ite, leaveK_none, only_ite, only_none, bind_ite, gives_some, gives_none, gives_ite, then_normal, then_ret, then_exit, then_none, then_ite, Option.bind_none, Bool.not_eq_true', decide_eq_false_iff_not, Bool.and_eq_true, Bool.or_eq_true, Option.some.injEq, Int.not_lt, Int.not_le, lp16_1, q, hx, hs, p1, p2, p3, p4]
              refine ⟨(i + 1, 7, y), by simp only [go_sem, reduceIte, Nat.reduceEqDiff, Nat.reduceAdd, Nat.reduceSub, Nat.reduceLeDiff, Nat.reduceLT, reduceCtorEq, Int.reduceLT, Int.reduceLE, Int.reduceEq, Int.reduceBEq, Int.reduceSub, Int.reduceAdd, Int.reduceMul, Int.reduceNeg, Int.reduceToNat, Nat.reduceMul, Nat.reduceBEq, ren1_locm, loc_tips, locT_eq, okRefs_shelf, renCells_shelf, okRefs_map U _ (fun _ => rfl), renCells_map U _ _ (fun _ _ => rfl)] <;> rfl, ?_, ?_, fun x en s hq => ?_⟩
              · exact hk
              · exact q1
              · exact hq)
            · rw [if_neg (by omega)] at h3
              obtain ⟨g1, g2, g3, g4⟩ := mosts_ok hck
              have hw := wrap64 (y + 1) (by omega) (by omega)
              have h50 := fun st => c50 true arts room floor hck x (y + 1) m1 (by omega) (by omega) st
              by_cases p5 : seg (mosts arts) x (y + 1) ≤ room
              · rw [if_pos p5] at h3
                have hk := key 14 (fun _ => h3) (fun h => by omega)
                rcases hD with ⟨rfl, rfl⟩ | ⟨rfl, rfl⟩ <;> (
                simp only [go_sem, reduceIte, Nat.reduceEqDiff, Nat.reduceAdd, Nat.reduceSub, Nat.reduceLeDiff, Nat.reduceLT, reduceCtorEq, Int.reduceLT, Int.reduceLE, Int.reduceEq, Int.reduceBEq, Int.reduceSub, Int.reduceAdd, Int.reduceMul, Int.reduceNeg, Int.reduceToNat, Nat.reduceMul, Nat.reduceBEq, index_rsl_if, setm, make_ints, condK_dec, wantK_dec, not_dec, and_dec, or_dec, seqK_ite, seqK_none, blockK_ite, blockK_none, opsK_ite, opsK_none, stepK_ite, stepK_none, bodyK_ite, bodyK_none, resK_ite, resK_none, leaveK_ite, leaveK_none, only_ite, only_none, bind_ite, gives_some, gives_none, gives_ite, then_normal, then_ret, then_exit, then_none, then_ite, Option.bind_none, Bool.not_eq_true', decide_eq_false_iff_not, Bool.and_eq_true, Bool.or_eq_true, Option.some.injEq, Int.not_lt, Int.not_le, lp16_1, q, hx, hs, p1, p2, p3, p4, hw, h50, p5]
                refine ⟨(i + 1, 14, y), by simp only [go_sem, reduceIte, Nat.reduceEqDiff, Nat.reduceAdd, Nat.reduceSub, Nat.reduceLeDiff, Nat.reduceLT, reduceCtorEq, Int.reduceLT, Int.reduceLE, Int.reduceEq, Int.reduceBEq, Int.reduceSub, Int.reduceAdd, Int.reduceMul, Int.reduceNeg, Int.reduceToNat, Nat.reduceMul, Nat.reduceBEq, ren1_locm, loc_tips, locT_eq, okRefs_shelf, renCells_shelf, okRefs_map U _ (fun _ => rfl), renCells_map U _ _ (fun _ _ => rfl)] <;> rfl, ?_, ?_, fun x en s hq => ?_⟩
                · exact hk
                · exact q1
                · exact hq)
              · rw [if_neg p5] at h3
                have hk := key 0 (fun h => absurd rfl h) (fun _ => h3)
                rcases hD with ⟨rfl, rfl⟩ | ⟨rfl, rfl⟩ <;> (
                simp only [go_sem, reduceIte, Nat.reduceEqDiff, Nat.reduceAdd, Nat.reduceSub, Nat.reduceLeDiff, Nat.reduceLT, reduceCtorEq, Int.reduceLT, Int.reduceLE, Int.reduceEq, Int.reduceBEq, Int.reduceSub, Int.reduceAdd, Int.reduceMul, Int.reduceNeg, Int.reduceToNat, Nat.reduceMul, Nat.reduceBEq, index_rsl_if, setm, make_ints, condK_dec, wantK_dec, not_dec, and_dec, or_dec, seqK_ite, seqK_none, blockK_ite, blockK_none, opsK_ite, opsK_none, stepK_ite, stepK_none, bodyK_ite, bodyK_none, resK_ite, resK_none, leaveK_ite, leaveK_none, only_ite, only_none, bind_ite, gives_some, gives_none, gives_ite, then_normal, then_ret, then_exit, then_none, then_ite, Option.bind_none, Bool.not_eq_true', decide_eq_false_iff_not, Bool.and_eq_true, Bool.or_eq_true, Option.some.injEq, Int.not_lt, Int.not_le, lp16_1, q, hx, hs, p1, p2, p3, p4, hw, h50, p5]
                refine ⟨(i + 1, 0, y), by simp only [go_sem, reduceIte, Nat.reduceEqDiff, Nat.reduceAdd, Nat.reduceSub, Nat.reduceLeDiff, Nat.reduceLT, reduceCtorEq, Int.reduceLT, Int.reduceLE, Int.reduceEq, Int.reduceBEq, Int.reduceSub, Int.reduceAdd, Int.reduceMul, Int.reduceNeg, Int.reduceToNat, Nat.reduceMul, Nat.reduceBEq, ren1_locm, loc_tips, locT_eq, okRefs_shelf, renCells_shelf, okRefs_map U _ (fun _ => rfl), renCells_map U _ _ (fun _ _ => rfl)] <;> rfl, ?_, ?_, fun x en s hq => ?_⟩
                · exact hk
                · exact q1
                · exact hq)
    · replace h2 := h2 w
      subst h2
      rcases hD with ⟨rfl, rfl⟩ | ⟨rfl, rfl⟩ <;> (
      simp only [go_sem, reduceIte, Nat.reduceEqDiff, Nat.reduceAdd, Nat.reduceSub, Nat.reduceLeDiff, Nat.reduceLT, reduceCtorEq, Int.reduceLT, Int.reduceLE, Int.reduceEq, Int.reduceBEq, Int.reduceSub, Int.reduceAdd, Int.reduceMul, Int.reduceNeg, Int.reduceToNat, Nat.reduceMul, Nat.reduceBEq, index_rsl_if, setm, make_ints, condK_dec, wantK_dec, not_dec, and_dec, or_dec, seqK_ite, seqK_none, blockK_ite, blockK_none, opsK_ite, opsK_none, stepK_ite, stepK_none, bodyK_ite, bodyK_none, resK_ite, resK_none, leaveK_ite, leaveK_none, only_ite, only_none, bind_ite, gives_some, gives_none, gives_ite, then_normal, then_ret, then_exit, then_none, then_ite, Option.bind_none, Bool.not_eq_true', decide_eq_false_iff_not, Bool.and_eq_true, Bool.or_eq_true, Option.some.injEq, Int.not_lt, Int.not_le, lp16_1, q, hx, hs, w]
      )
  · have hW : want = W := by
      by_cases w : want = 0
      · have := h3 w
        rw [List.drop_eq_nil_of_le (by omega)] at this
        simp only [provesFrom] at this
        omega
      · exact h2 w
    subst hW
    rcases hD with ⟨rfl, rfl⟩ | ⟨rfl, rfl⟩ <;> (
    simp only [go_sem, reduceIte, Nat.reduceEqDiff, Nat.reduceAdd, Nat.reduceSub, Nat.reduceLeDiff, Nat.reduceLT, reduceCtorEq, Int.reduceLT, Int.reduceLE, Int.reduceEq, Int.reduceBEq, Int.reduceSub, Int.reduceAdd, Int.reduceMul, Int.reduceNeg, Int.reduceToNat, Nat.reduceMul, Nat.reduceBEq, index_rsl_if, setm, make_ints, condK_dec, wantK_dec, not_dec, and_dec, or_dec, seqK_ite, seqK_none, blockK_ite, blockK_none, opsK_ite, opsK_none, stepK_ite, stepK_none, bodyK_ite, bodyK_none, resK_ite, resK_none, leaveK_ite, leaveK_none, only_ite, only_none, bind_ite, gives_some, gives_none, gives_ite, then_normal, then_ret, then_exit, then_none, then_ite, Option.bind_none, Bool.not_eq_true', decide_eq_false_iff_not, Bool.and_eq_true, Bool.or_eq_true, Option.some.injEq, Int.not_lt, Int.not_le, lp16_1, q]
    )


/-- As many stretches in a row as the longest row has, at most. -/
theorem row_le {arts : List (Int × Int)} {room0 floor : Int} (hck : check arts room0 floor = 0) (room : Int) : ∀ (xs : List (Int × Int)) (f : Int) (x : Nat), (x : Int) ≤ f → provesFrom arts.length (mosts arts) room f xs = 0 → xs.length ≤ rowOf arts.length (lastOfArt (mosts arts) room arts.length) x
  | [], _, _, _, _ => Nat.zero_le _
  | s :: r, f, x, hx, h => by
    simp only [provesFrom] at h
    split at h
    · omega
    · next p1 =>
      split at h
      · omega
      · next p2 =>
        split at h
        · omega
        · next p3 =>
          obtain ⟨a, b⟩ := s
          simp only at p1 p2 p3 h
          obtain ⟨a, rfl⟩ : ∃ a' : Nat, a = a' := ⟨a.toNat, by omega⟩
          obtain ⟨b, rfl⟩ : ∃ b' : Nat, b = b' := ⟨b.toNat, by omega⟩
          have hla := lastOfArt_ok (mosts arts) room arts.length
          obtain ⟨k1, k2⟩ := hla a (by omega)
          obtain ⟨k3, _⟩ := stretchEnd_spec (mosts arts) room arts.length a (arts.length - (a + 1)) (a + 1) (by omega)
          have e0 : lastOfArt (mosts arts) room arts.length a = stretchEnd (mosts arts) room arts.length a (arts.length - (a + 1)) (a + 1) := rfl
          rw [← e0] at k3
          have hlb : lastOfArt (mosts arts) room arts.length a ≤ b := by
            apply Classical.byContradiction
            intro hn
            exact p3 (k3 b (by omega) (by omega))
          have ih := row_le hck room r b b (Int.le_refl _) h
          have h1 := rowOf_anti hla (lastOfArt (mosts arts) room arts.length a) (b - lastOfArt (mosts arts) room arts.length a)
          rw [show lastOfArt (mosts arts) room arts.length a + (b - lastOfArt (mosts arts) room arts.length a) = b by omega] at h1
          have h2 := rowOf_eq hla a (by omega)
          rw [if_pos (by omega)] at h2
          have h3 := rowOf_anti hla x (a - x)
          rw [show x + (a - x) = a by omega] at h3
          simp only [List.length_cons]
          omega

theorem take3 {l : List (List AV)} {a b c : List AV} (h : l.take 3 = [a, b, c]) : ∃ R, l = a :: b :: c :: R := by
  have := List.take_append_drop 3 l
  rw [h] at this
  exact ⟨l.drop 3, this.symm⟩
theorem frzL3 {a b c cs : List AV} (hne : cs ≠ []) (r : List (List AV)) (T : List Nat) (env : Env) :
    frzL 3 env ⟨a :: b :: c :: cs :: r, T⟩ = (frzEnv 3 cs env, ⟨frzVs 3 cs a :: frzVs 3 cs b :: frzVs 3 cs c :: [] :: frzStore 3 cs r, T⟩) := by
  cases cs with
  | nil => exact absurd rfl hne
  | cons c cs => rfl
theorem frzV_arts3 (arts : List (Int × Int)) : frzV 3 ((flatI arts).map I) (.rsl 3 0 arts.length arts.length 2 true) = .lst .any 2 (arts.map artAV) := by
  simp only [frzV, List.length_map, flatI_len, List.drop_zero, pubs_I, group_flat]
  simp
theorem frzV_rsl1 (cs : List AV) (o k c z : Nat) (a : Bool) : frzV 3 cs (.rsl 1 o k c z a) = .rsl 1 o k c z a := by
  simp only [frzV]; rw [if_neg (by omega)]

set_option maxHeartbeats 4000000 in
theorem c16 (s0 : Shelf) (hs : s0.ok) (vol : Int) (h1 : Byte vol) (zs : List Int) (hz : zs.length = 8) (hby : ∀ z ∈ zs, Byte z) (many : Int) (h2 : Byte many) (st : St) :
    run L 16 [s0.av, U vol, .agg (zs.map U), U many] st = some (B true, st) := by
  rw [run_pure (fn := ir16) rfl rfl]
  have h45 := fun st => c45 s0 hs 12 20 (by omega) (by omega) (by omega) (by omega) st
  have hck := made_check (s := s0) (many := 12) (lines := 20) (by omega) (by omega) (by omega) (by omega)
  obtain ⟨_, _, hsing, k1, k2, k3, k4⟩ := made_ok (s := s0) (many := 12) (lines := 20) (by omega) (by omega) (by omega) (by omega)
  generalize madeArts s0 12 20 = arts at *
  generalize madeRoom s0 12 20 = room at *
  generalize madeFloor s0 12 20 = floor at *
  obtain ⟨g1, g2, g3, g4⟩ := mosts_ok hck
  unfold Byte at h1 h2
  have hs1 : ∀ a ∈ arts, a.2 ≤ room := fun a ha => (hsing a ha).2.2.2
  obtain ⟨u1, u2⟩ := filled_some hck hs1
  have hfv : fewestV arts room floor = (filled (mosts arts) room, 0) := by unfold fewestV; rw [if_pos hck, if_neg u2]
  have h31 := fun st => c31 true arts room floor st
  rw [hfv] at h31
  have hgr := filled_greedy hck hs1
  have hrow := greedy_row (lastOfArt_ok (mosts arts) room arts.length) (last_mono hck room) (last_greedy hck room) _ 0 (by omega) hgr
  have wv := wrap64 vol (by omega) (by omega)
  have tv : vol.tmod 6 = vol % 6 := Int.tmod_eq_emod_of_nonneg (by omega)
  have mv := mod_range vol 6 (by omega)
  have wm := wrap64 many (by omega) (by omega)
  have mm := mod_range many 5 (by omega)
  obtain ⟨m, hm⟩ : ∃ m : Nat, many % 5 = m := ⟨(many % 5).toNat, by omega⟩
  have tm : many.tmod 5 = (m : Int) := by rw [Int.tmod_eq_emod_of_nonneg (by omega), hm]
  have hsla : sliceaAV 4 2 true (.ptr 1 0) none (some (.v (.int .i64 (m : Int)))) none = some (.rsl 1 0 m 4 2 true) := by
    simp only [sliceaAV, natOr, natOf]
    simp; omega
  have hpubs : pubs (zs.map U) = zs.map U := pubs_map U (fun _ => rfl) _
  have hzs : (zs.map U).all storable = true := by simp [storable_int]
  have ztk : (zs.map U).take 8 = zs.map U := List.take_of_length_le (by simp; omega)
  have wv1 := wrap64 (vol % 6 - 1) (by omega) (by omega)
  generalize hvv : vol % 6 = v at *
  have hxb : ∀ p ∈ pairsOf zs arts.length m, (0 ≤ p.1 ∧ p.1 ≤ arts.length) ∧ 0 ≤ p.2 ∧ p.2 ≤ arts.length := by
    intro p hp
    simp only [pairsOf, List.mem_map] at hp
    obtain ⟨i, _, rfl⟩ := hp
    have r1 := mod_range (zs.getD (i * 2) 0) ((arts.length : Int) + 1) (by omega)
    have r2 := mod_range (zs.getD (i * 2 + 1) 0) ((arts.length : Int) + 1) (by omega)
    simp only [pairAt]
    omega
  have hxl := pairs_len zs arts.length m
  -- the end, whatever the stretches are
  have fin : ∀ (xs : List (Int × Int)), xs.length < 1000 → ∀ W, provesFrom arts.length (mosts arts) room 0 xs = W → (v < 1 ∧ provesV arts room floor v xs = 1) ∨ (¬ v < 1 ∧ W = 0 ∧ (xs.length : Int) < v - 1 ∧ provesV arts room floor v xs = 14) ∨ (¬ v < 1 ∧ W = 0 ∧ ¬ (xs.length : Int) < v - 1 ∧ provesV arts room floor v xs = 0 ∧ v ≤ ((filled (mosts arts) room).length : Int)) ∨ (¬ v < 1 ∧ W ≠ 0 ∧ provesV arts room floor v xs = W) := by
    intro xs hx W hW
    unfold provesV
    rw [if_pos hck, hW]
    by_cases a1 : v < 1
    · exact .inl ⟨a1, by rw [if_pos a1]⟩
    · rw [if_neg a1]
      by_cases a2 : W = 0
      · rw [if_pos a2]
        by_cases a3 : (xs.length : Int) < v - 1
        · exact .inr (.inl ⟨a1, a2, a3, by rw [if_pos a3]⟩)
        · refine .inr (.inr (.inl ⟨a1, a2, a3, by rw [if_neg a3], ?_⟩))
          have := row_le hck room xs 0 0 (by omega) (by rw [hW]; exact a2)
          omega
      · exact .inr (.inr (.inr ⟨a1, a2, by rw [if_neg a2]⟩))
  have h39 := fun (xs : List (Int × Int)) (hx : xs.length < 1000) st => c39 true true arts room floor v (by omega) xs hx st
  generalize filled (mosts arts) room = F at *
  simp only [ir16, go_sem, reduceIte, Nat.reduceEqDiff, Nat.reduceAdd, Nat.reduceSub, Nat.reduceLeDiff, Nat.reduceLT, reduceCtorEq, Int.reduceLT, Int.reduceLE, Int.reduceEq, Int.reduceBEq, Int.reduceSub, Int.reduceAdd, Int.reduceMul, Int.reduceNeg, Int.reduceToNat, Nat.reduceMul, Nat.reduceBEq, pubs_shelf, hpubs, shelf_storable, shelf_len hs, shelf_take hs, h45, List.length_map, hz, hzs, ztk, wv, tv, wm, tm, hsla]
  generalize hg : lim (headed pure (run L) true _ lp16_0 _ _) _ _ = o
  obtain ⟨x, en, s, rfl, h2⟩ : ∃ x en s, o = some (x, en, s) ∧ _ := by rw [← hg]; exact loop16_0 s0 zs hz hby arts room floor g3 g4 many v m (by omega) 0 (Nat.zero_le _) _ _ (by simp only [go_sem, reduceIte, Nat.reduceEqDiff, Nat.reduceAdd, Nat.reduceSub, Nat.reduceLeDiff, Nat.reduceLT, reduceCtorEq, Int.reduceLT, Int.reduceLE, Int.reduceEq, Int.reduceBEq, Int.reduceSub, Int.reduceAdd, Int.reduceMul, Int.reduceNeg, Int.reduceToNat, Nat.reduceMul, Nat.reduceBEq, mutAV, mutS, pairsOf, List.range_zero, List.map_nil, okRefs_shelf, renCells_shelf, renCells_map U _ _ (fun _ _ => rfl), compact, compactW, refsEnv, refsV, refsL, refsStore, refsAt, mapEnv, mapL, mapLs, newName, posOf, mapStore, pickStore, namesOk, refsV_sl, mapL_sl, refsL_ints, mapLs_ints, refsL_shelf, mapLs_shelf, List.take_succ_cons] <;> rfl)
  clear hg
  obtain ⟨rfl, e3, e9, e10, e11, e12, rfl⟩ := h2
  generalize hP : pairsOf zs arts.length m = xs at *
  by_cases p : many.tmod 3 = 0 <;> by_cases hn : xs = []
  · skip
    have em : mutAV xs = .v (.slice none 0 0) := by unfold mutAV; rw [if_pos hn]
    have eS : mutS xs = [] := by unfold mutS; rw [if_pos hn]
    obtain ⟨ys, y1, y2, hys⟩ : ∃ ys : List (Int × Int), ys.length = xs.length ∧ (∀ p ∈ ys, p ∈ xs) ∧ ys = [] := ⟨[], by rw [hn], fun p h => by simp at h, rfl⟩
    have hsl : (.v (.slice none 0 0) : AV) = sl 2 true (ys.map artAV) := by rw [hys]; rfl
    have hyl : ys.length < 1000 := by omega
    have hyb : ∀ p ∈ ys, (0 ≤ p.1 ∧ p.1 ≤ arts.length) ∧ 0 ≤ p.2 ∧ p.2 ≤ arts.length := fun p hp => hxb p (y2 p hp)
    have hfin := fin ys hyl _ rfl
    have h39' := h39 ys hyl
    generalize hW : provesFrom arts.length (mosts arts) room 0 ys = W at *
    generalize provesV arts room floor v ys = PV at *
    simp only [go_sem, reduceIte, Nat.reduceEqDiff, Nat.reduceAdd, Nat.reduceSub, Nat.reduceLeDiff, Nat.reduceLT, reduceCtorEq, Int.reduceLT, Int.reduceLE, Int.reduceEq, Int.reduceBEq, Int.reduceSub, Int.reduceAdd, Int.reduceMul, Int.reduceNeg, Int.reduceToNat, Nat.reduceMul, Nat.reduceBEq, e3, e9, e10, e11, e12, em, eS, p, code_frz, frzAV, frzT, frzLs, rslsOf, c62n]
    generalize hg : lim (headed pure (run L) true _ lp16_1 _ _) _ _ = o
    obtain ⟨x, en, s, rfl, h2⟩ : ∃ x en s, o = some (x, en, s) ∧ _ := by rw [← hg]; exact loop16_1 s0 zs arts room floor hck v ys hyl hyb W [] 3 (.inl ⟨rfl, rfl⟩) 0 0 0 ⟨Nat.zero_le _, fun h => absurd rfl h, fun _ => by rw [List.drop_zero]; exact hW⟩ _ _ (by simp only [go_sem, reduceIte, Nat.reduceEqDiff, Nat.reduceAdd, Nat.reduceSub, Nat.reduceLeDiff, Nat.reduceLT, reduceCtorEq, Int.reduceLT, Int.reduceLE, Int.reduceEq, Int.reduceBEq, Int.reduceSub, Int.reduceAdd, Int.reduceMul, Int.reduceNeg, Int.reduceToNat, Nat.reduceMul, Nat.reduceBEq, e9, e10, e11, e12, em, hys, okRefs_shelf, renCells_shelf, okRefs_map U _ (fun _ => rfl), renCells_map U _ _ (fun _ _ => rfl), List.length_map, y1] <;> rfl)
    clear hg
    obtain ⟨rfl, f9, f10, f11, f12, f15, f3⟩ := h2
    obtain ⟨S1, T1⟩ := s
    simp only at f3
    obtain ⟨R, rfl⟩ := take3 f3
    rcases hfin with ⟨a1, a2⟩ | ⟨a1, a2, a3, a4⟩ | ⟨a1, a2, a3, a4, a5⟩ | ⟨a1, a2, a3⟩
    · subst a2
      by_cases b1 : W = 0
      · by_cases b2 : (ys.length : Int) < v - 1
        · simp only [go_sem, reduceIte, Nat.reduceEqDiff, Nat.reduceAdd, Nat.reduceSub, Nat.reduceLeDiff, Nat.reduceLT, reduceCtorEq, Int.reduceLT, Int.reduceLE, Int.reduceEq, Int.reduceBEq, Int.reduceSub, Int.reduceAdd, Int.reduceMul, Int.reduceNeg, Int.reduceToNat, Nat.reduceMul, Nat.reduceBEq, f9, f10, f11, f12, f15, a1, b1, b2, wv1, h31, h39', c17, List.length_map]
        · simp only [go_sem, reduceIte, Nat.reduceEqDiff, Nat.reduceAdd, Nat.reduceSub, Nat.reduceLeDiff, Nat.reduceLT, reduceCtorEq, Int.reduceLT, Int.reduceLE, Int.reduceEq, Int.reduceBEq, Int.reduceSub, Int.reduceAdd, Int.reduceMul, Int.reduceNeg, Int.reduceToNat, Nat.reduceMul, Nat.reduceBEq, f9, f10, f11, f12, f15, a1, b1, b2, wv1, h31, h39', c17, List.length_map]
      · simp only [go_sem, reduceIte, Nat.reduceEqDiff, Nat.reduceAdd, Nat.reduceSub, Nat.reduceLeDiff, Nat.reduceLT, reduceCtorEq, Int.reduceLT, Int.reduceLE, Int.reduceEq, Int.reduceBEq, Int.reduceSub, Int.reduceAdd, Int.reduceMul, Int.reduceNeg, Int.reduceToNat, Nat.reduceMul, Nat.reduceBEq, f9, f10, f11, f12, f15, a1, b1, wv1, h31, h39', c17, List.length_map]
    · subst a2 a4
      simp only [go_sem, reduceIte, Nat.reduceEqDiff, Nat.reduceAdd, Nat.reduceSub, Nat.reduceLeDiff, Nat.reduceLT, reduceCtorEq, Int.reduceLT, Int.reduceLE, Int.reduceEq, Int.reduceBEq, Int.reduceSub, Int.reduceAdd, Int.reduceMul, Int.reduceNeg, Int.reduceToNat, Nat.reduceMul, Nat.reduceBEq, f9, f10, f11, f12, f15, a1, a3, wv1, h31, h39', c17, List.length_map]
    · subst a2 a4
      simp only [go_sem, reduceIte, Nat.reduceEqDiff, Nat.reduceAdd, Nat.reduceSub, Nat.reduceLeDiff, Nat.reduceLT, reduceCtorEq, Int.reduceLT, Int.reduceLE, Int.reduceEq, Int.reduceBEq, Int.reduceSub, Int.reduceAdd, Int.reduceMul, Int.reduceNeg, Int.reduceToNat, Nat.reduceMul, Nat.reduceBEq, f9, f10, f11, f12, f15, a1, a3, a5, wv1, h31, h39', c17, List.length_map]
    · subst a3
      simp only [go_sem, reduceIte, Nat.reduceEqDiff, Nat.reduceAdd, Nat.reduceSub, Nat.reduceLeDiff, Nat.reduceLT, reduceCtorEq, Int.reduceLT, Int.reduceLE, Int.reduceEq, Int.reduceBEq, Int.reduceSub, Int.reduceAdd, Int.reduceMul, Int.reduceNeg, Int.reduceToNat, Nat.reduceMul, Nat.reduceBEq, f9, f10, f11, f12, f15, a1, a2, wv1, h31, h39', c17, List.length_map]
  · skip
    have em : mutAV xs = .rsl 3 0 xs.length xs.length 2 true := by unfold mutAV; rw [if_neg hn]
    have eS : mutS xs = [(flatI xs).map I] := by unfold mutS; rw [if_neg hn]
    obtain ⟨ys, y1, y2, h62⟩ := c62 xs.length (by omega) xs rfl s0.cells (zs.map U) (bookCells true arts room floor) [] []
    have hyn : ys ≠ [] := by intro h; subst h; simp only [List.length_nil] at y1; exact hn (List.eq_nil_of_length_eq_zero y1.symm)
    have hneF : (flatI ys).map I ≠ [] := by
      intro h
      have := congrArg List.length h
      rw [List.length_map, flatI_len] at this
      have h5 := List.length_pos_iff.2 hyn
      simp at this; omega
    have hfz := fun r T env => frzL3 (a := s0.cells) (b := zs.map U) (c := bookCells true arts room floor) hneF r T env
    have hfv3 := frzV_arts3 ys
    rw [y1] at hfv3
    have hsl : sl 2 true (ys.map artAV) = .lst .any 2 (ys.map artAV) := sl_ne (by simpa using hyn)
    rw [← hsl] at hfv3
    have hyl : ys.length < 1000 := by omega
    have hyb : ∀ p ∈ ys, (0 ≤ p.1 ∧ p.1 ≤ arts.length) ∧ 0 ≤ p.2 ∧ p.2 ≤ arts.length := fun p hp => hxb p (y2 p hp)
    have hfin := fin ys hyl _ rfl
    have h39' := h39 ys hyl
    generalize hW : provesFrom arts.length (mosts arts) room 0 ys = W at *
    generalize provesV arts room floor v ys = PV at *
    simp only [go_sem, reduceIte, Nat.reduceEqDiff, Nat.reduceAdd, Nat.reduceSub, Nat.reduceLeDiff, Nat.reduceLT, reduceCtorEq, Int.reduceLT, Int.reduceLE, Int.reduceEq, Int.reduceBEq, Int.reduceSub, Int.reduceAdd, Int.reduceMul, Int.reduceNeg, Int.reduceToNat, Nat.reduceMul, Nat.reduceBEq, e3, e9, e10, e11, e12, em, eS, p, code_frz, frzAV, frzT, frzLs, rslsOf, hfz, frzEnv, frzEnv_get, frzStore, frzVs, frzV_v, frzV_ptr, frzV_eptr, frzV_lst, frzV_fn, frzV_agg, frzV_tup, frzV_any, frzVs_shelf, frzVs_U, frzV_sl, frzV_rsl1, hfv3, h62]
    generalize hg : lim (headed pure (run L) true _ lp16_1 _ _) _ _ = o
    obtain ⟨x, en, s, rfl, h2⟩ : ∃ x en s, o = some (x, en, s) ∧ _ := by rw [← hg]; exact loop16_1 s0 zs arts room floor hck v ys hyl hyb W [[]] 4 (.inr ⟨rfl, rfl⟩) 0 0 0 ⟨Nat.zero_le _, fun h => absurd rfl h, fun _ => by rw [List.drop_zero]; exact hW⟩ _ _ (by simp only [go_sem, reduceIte, Nat.reduceEqDiff, Nat.reduceAdd, Nat.reduceSub, Nat.reduceLeDiff, Nat.reduceLT, reduceCtorEq, Int.reduceLT, Int.reduceLE, Int.reduceEq, Int.reduceBEq, Int.reduceSub, Int.reduceAdd, Int.reduceMul, Int.reduceNeg, Int.reduceToNat, Nat.reduceMul, Nat.reduceBEq, e9, e10, e11, e12, em, frzEnv_get, frzV_v, frzV_ptr, hfv3, okRefs_shelf, renCells_shelf, okRefs_map U _ (fun _ => rfl), renCells_map U _ _ (fun _ _ => rfl), List.length_map, y1] <;> rfl)
    clear hg
    obtain ⟨rfl, f9, f10, f11, f12, f15, f3⟩ := h2
    obtain ⟨S1, T1⟩ := s
    simp only at f3
    obtain ⟨R, rfl⟩ := take3 f3
    rcases hfin with ⟨a1, a2⟩ | ⟨a1, a2, a3, a4⟩ | ⟨a1, a2, a3, a4, a5⟩ | ⟨a1, a2, a3⟩
    · subst a2
      by_cases b1 : W = 0
      · by_cases b2 : (ys.length : Int) < v - 1
        · simp only [go_sem, reduceIte, Nat.reduceEqDiff, Nat.reduceAdd, Nat.reduceSub, Nat.reduceLeDiff, Nat.reduceLT, reduceCtorEq, Int.reduceLT, Int.reduceLE, Int.reduceEq, Int.reduceBEq, Int.reduceSub, Int.reduceAdd, Int.reduceMul, Int.reduceNeg, Int.reduceToNat, Nat.reduceMul, Nat.reduceBEq, f9, f10, f11, f12, f15, a1, b1, b2, wv1, h31, h39', c17, List.length_map]
        · simp only [go_sem, reduceIte, Nat.reduceEqDiff, Nat.reduceAdd, Nat.reduceSub, Nat.reduceLeDiff, Nat.reduceLT, reduceCtorEq, Int.reduceLT, Int.reduceLE, Int.reduceEq, Int.reduceBEq, Int.reduceSub, Int.reduceAdd, Int.reduceMul, Int.reduceNeg, Int.reduceToNat, Nat.reduceMul, Nat.reduceBEq, f9, f10, f11, f12, f15, a1, b1, b2, wv1, h31, h39', c17, List.length_map]
      · simp only [go_sem, reduceIte, Nat.reduceEqDiff, Nat.reduceAdd, Nat.reduceSub, Nat.reduceLeDiff, Nat.reduceLT, reduceCtorEq, Int.reduceLT, Int.reduceLE, Int.reduceEq, Int.reduceBEq, Int.reduceSub, Int.reduceAdd, Int.reduceMul, Int.reduceNeg, Int.reduceToNat, Nat.reduceMul, Nat.reduceBEq, f9, f10, f11, f12, f15, a1, b1, wv1, h31, h39', c17, List.length_map]
    · subst a2 a4
      simp only [go_sem, reduceIte, Nat.reduceEqDiff, Nat.reduceAdd, Nat.reduceSub, Nat.reduceLeDiff, Nat.reduceLT, reduceCtorEq, Int.reduceLT, Int.reduceLE, Int.reduceEq, Int.reduceBEq, Int.reduceSub, Int.reduceAdd, Int.reduceMul, Int.reduceNeg, Int.reduceToNat, Nat.reduceMul, Nat.reduceBEq, f9, f10, f11, f12, f15, a1, a3, wv1, h31, h39', c17, List.length_map]
    · subst a2 a4
      simp only [go_sem, reduceIte, Nat.reduceEqDiff, Nat.reduceAdd, Nat.reduceSub, Nat.reduceLeDiff, Nat.reduceLT, reduceCtorEq, Int.reduceLT, Int.reduceLE, Int.reduceEq, Int.reduceBEq, Int.reduceSub, Int.reduceAdd, Int.reduceMul, Int.reduceNeg, Int.reduceToNat, Nat.reduceMul, Nat.reduceBEq, f9, f10, f11, f12, f15, a1, a3, a5, wv1, h31, h39', c17, List.length_map]
    · subst a3
      simp only [go_sem, reduceIte, Nat.reduceEqDiff, Nat.reduceAdd, Nat.reduceSub, Nat.reduceLeDiff, Nat.reduceLT, reduceCtorEq, Int.reduceLT, Int.reduceLE, Int.reduceEq, Int.reduceBEq, Int.reduceSub, Int.reduceAdd, Int.reduceMul, Int.reduceNeg, Int.reduceToNat, Nat.reduceMul, Nat.reduceBEq, f9, f10, f11, f12, f15, a1, a2, wv1, h31, h39', c17, List.length_map]
  · skip
    have em : mutAV xs = .v (.slice none 0 0) := by unfold mutAV; rw [if_pos hn]
    have eS : mutS xs = [] := by unfold mutS; rw [if_pos hn]
    obtain ⟨ys, y1, y2, hys⟩ : ∃ ys : List (Int × Int), ys.length = xs.length ∧ (∀ p ∈ ys, p ∈ xs) ∧ ys = [] := ⟨[], by rw [hn], fun p h => by simp at h, rfl⟩
    have hsl : (.v (.slice none 0 0) : AV) = sl 2 true (ys.map artAV) := by rw [hys]; rfl
    have hyl : ys.length < 1000 := by omega
    have hyb : ∀ p ∈ ys, (0 ≤ p.1 ∧ p.1 ≤ arts.length) ∧ 0 ≤ p.2 ∧ p.2 ≤ arts.length := fun p hp => hxb p (y2 p hp)
    have hfin := fin ys hyl _ rfl
    have h39' := h39 ys hyl
    generalize hW : provesFrom arts.length (mosts arts) room 0 ys = W at *
    generalize provesV arts room floor v ys = PV at *
    simp only [go_sem, reduceIte, Nat.reduceEqDiff, Nat.reduceAdd, Nat.reduceSub, Nat.reduceLeDiff, Nat.reduceLT, reduceCtorEq, Int.reduceLT, Int.reduceLE, Int.reduceEq, Int.reduceBEq, Int.reduceSub, Int.reduceAdd, Int.reduceMul, Int.reduceNeg, Int.reduceToNat, Nat.reduceMul, Nat.reduceBEq, e3, e9, e10, e11, e12, em, eS, p, code_frz, frzAV, frzT, frzLs, rslsOf]
    generalize hg : lim (headed pure (run L) true _ lp16_1 _ _) _ _ = o
    obtain ⟨x, en, s, rfl, h2⟩ : ∃ x en s, o = some (x, en, s) ∧ _ := by rw [← hg]; exact loop16_1 s0 zs arts room floor hck v ys hyl hyb W [] 3 (.inl ⟨rfl, rfl⟩) 0 0 0 ⟨Nat.zero_le _, fun h => absurd rfl h, fun _ => by rw [List.drop_zero]; exact hW⟩ _ _ (by simp only [go_sem, reduceIte, Nat.reduceEqDiff, Nat.reduceAdd, Nat.reduceSub, Nat.reduceLeDiff, Nat.reduceLT, reduceCtorEq, Int.reduceLT, Int.reduceLE, Int.reduceEq, Int.reduceBEq, Int.reduceSub, Int.reduceAdd, Int.reduceMul, Int.reduceNeg, Int.reduceToNat, Nat.reduceMul, Nat.reduceBEq, e9, e10, e11, e12, em, hys, okRefs_shelf, renCells_shelf, okRefs_map U _ (fun _ => rfl), renCells_map U _ _ (fun _ _ => rfl), List.length_map, y1] <;> rfl)
    clear hg
    obtain ⟨rfl, f9, f10, f11, f12, f15, f3⟩ := h2
    obtain ⟨S1, T1⟩ := s
    simp only at f3
    obtain ⟨R, rfl⟩ := take3 f3
    rcases hfin with ⟨a1, a2⟩ | ⟨a1, a2, a3, a4⟩ | ⟨a1, a2, a3, a4, a5⟩ | ⟨a1, a2, a3⟩
    · subst a2
      by_cases b1 : W = 0
      · by_cases b2 : (ys.length : Int) < v - 1
        · simp only [go_sem, reduceIte, Nat.reduceEqDiff, Nat.reduceAdd, Nat.reduceSub, Nat.reduceLeDiff, Nat.reduceLT, reduceCtorEq, Int.reduceLT, Int.reduceLE, Int.reduceEq, Int.reduceBEq, Int.reduceSub, Int.reduceAdd, Int.reduceMul, Int.reduceNeg, Int.reduceToNat, Nat.reduceMul, Nat.reduceBEq, f9, f10, f11, f12, f15, a1, b1, b2, wv1, h31, h39', c17, List.length_map]
        · simp only [go_sem, reduceIte, Nat.reduceEqDiff, Nat.reduceAdd, Nat.reduceSub, Nat.reduceLeDiff, Nat.reduceLT, reduceCtorEq, Int.reduceLT, Int.reduceLE, Int.reduceEq, Int.reduceBEq, Int.reduceSub, Int.reduceAdd, Int.reduceMul, Int.reduceNeg, Int.reduceToNat, Nat.reduceMul, Nat.reduceBEq, f9, f10, f11, f12, f15, a1, b1, b2, wv1, h31, h39', c17, List.length_map]
      · simp only [go_sem, reduceIte, Nat.reduceEqDiff, Nat.reduceAdd, Nat.reduceSub, Nat.reduceLeDiff, Nat.reduceLT, reduceCtorEq, Int.reduceLT, Int.reduceLE, Int.reduceEq, Int.reduceBEq, Int.reduceSub, Int.reduceAdd, Int.reduceMul, Int.reduceNeg, Int.reduceToNat, Nat.reduceMul, Nat.reduceBEq, f9, f10, f11, f12, f15, a1, b1, wv1, h31, h39', c17, List.length_map]
    · subst a2 a4
      simp only [go_sem, reduceIte, Nat.reduceEqDiff, Nat.reduceAdd, Nat.reduceSub, Nat.reduceLeDiff, Nat.reduceLT, reduceCtorEq, Int.reduceLT, Int.reduceLE, Int.reduceEq, Int.reduceBEq, Int.reduceSub, Int.reduceAdd, Int.reduceMul, Int.reduceNeg, Int.reduceToNat, Nat.reduceMul, Nat.reduceBEq, f9, f10, f11, f12, f15, a1, a3, wv1, h31, h39', c17, List.length_map]
    · subst a2 a4
      simp only [go_sem, reduceIte, Nat.reduceEqDiff, Nat.reduceAdd, Nat.reduceSub, Nat.reduceLeDiff, Nat.reduceLT, reduceCtorEq, Int.reduceLT, Int.reduceLE, Int.reduceEq, Int.reduceBEq, Int.reduceSub, Int.reduceAdd, Int.reduceMul, Int.reduceNeg, Int.reduceToNat, Nat.reduceMul, Nat.reduceBEq, f9, f10, f11, f12, f15, a1, a3, a5, wv1, h31, h39', c17, List.length_map]
    · subst a3
      simp only [go_sem, reduceIte, Nat.reduceEqDiff, Nat.reduceAdd, Nat.reduceSub, Nat.reduceLeDiff, Nat.reduceLT, reduceCtorEq, Int.reduceLT, Int.reduceLE, Int.reduceEq, Int.reduceBEq, Int.reduceSub, Int.reduceAdd, Int.reduceMul, Int.reduceNeg, Int.reduceToNat, Nat.reduceMul, Nat.reduceBEq, f9, f10, f11, f12, f15, a1, a2, wv1, h31, h39', c17, List.length_map]
  · skip
    have em : mutAV xs = .rsl 3 0 xs.length xs.length 2 true := by unfold mutAV; rw [if_neg hn]
    have eS : mutS xs = [(flatI xs).map I] := by unfold mutS; rw [if_neg hn]
    obtain ⟨ys, y1, y2, hys⟩ : ∃ ys : List (Int × Int), ys.length = xs.length ∧ (∀ p ∈ ys, p ∈ xs) ∧ ys = xs := ⟨xs, rfl, fun p h => h, rfl⟩
    have hyn : ys ≠ [] := by intro h; subst h; simp only [List.length_nil] at y1; exact hn (List.eq_nil_of_length_eq_zero y1.symm)
    have hneF : (flatI ys).map I ≠ [] := by
      intro h
      have := congrArg List.length h
      rw [List.length_map, flatI_len] at this
      have h5 := List.length_pos_iff.2 hyn
      simp at this; omega
    have hfz := fun r T env => frzL3 (a := s0.cells) (b := zs.map U) (c := bookCells true arts room floor) hneF r T env
    have hfv3 := frzV_arts3 ys
    rw [y1] at hfv3
    have hsl : sl 2 true (ys.map artAV) = .lst .any 2 (ys.map artAV) := sl_ne (by simpa using hyn)
    rw [← hsl] at hfv3
    have hyl : ys.length < 1000 := by omega
    have hyb : ∀ p ∈ ys, (0 ≤ p.1 ∧ p.1 ≤ arts.length) ∧ 0 ≤ p.2 ∧ p.2 ≤ arts.length := fun p hp => hxb p (y2 p hp)
    have hfin := fin ys hyl _ rfl
    have h39' := h39 ys hyl
    generalize hW : provesFrom arts.length (mosts arts) room 0 ys = W at *
    generalize provesV arts room floor v ys = PV at *
    subst hys
    simp only [go_sem, reduceIte, Nat.reduceEqDiff, Nat.reduceAdd, Nat.reduceSub, Nat.reduceLeDiff, Nat.reduceLT, reduceCtorEq, Int.reduceLT, Int.reduceLE, Int.reduceEq, Int.reduceBEq, Int.reduceSub, Int.reduceAdd, Int.reduceMul, Int.reduceNeg, Int.reduceToNat, Nat.reduceMul, Nat.reduceBEq, e3, e9, e10, e11, e12, em, eS, p, code_frz, frzAV, frzT, frzLs, rslsOf, hfz, frzEnv, frzEnv_get, frzStore, frzVs, frzV_v, frzV_ptr, frzV_eptr, frzV_lst, frzV_fn, frzV_agg, frzV_tup, frzV_any, frzVs_shelf, frzVs_U, frzV_sl, frzV_rsl1, hfv3]
    generalize hg : lim (headed pure (run L) true _ lp16_1 _ _) _ _ = o
    obtain ⟨x, en, s, rfl, h2⟩ : ∃ x en s, o = some (x, en, s) ∧ _ := by rw [← hg]; exact loop16_1 s0 zs arts room floor hck v ys hyl hyb W [[]] 4 (.inr ⟨rfl, rfl⟩) 0 0 0 ⟨Nat.zero_le _, fun h => absurd rfl h, fun _ => by rw [List.drop_zero]; exact hW⟩ _ _ (by simp only [go_sem, reduceIte, Nat.reduceEqDiff, Nat.reduceAdd, Nat.reduceSub, Nat.reduceLeDiff, Nat.reduceLT, reduceCtorEq, Int.reduceLT, Int.reduceLE, Int.reduceEq, Int.reduceBEq, Int.reduceSub, Int.reduceAdd, Int.reduceMul, Int.reduceNeg, Int.reduceToNat, Nat.reduceMul, Nat.reduceBEq, e9, e10, e11, e12, em, frzEnv_get, frzV_v, frzV_ptr, hfv3, okRefs_shelf, renCells_shelf, okRefs_map U _ (fun _ => rfl), renCells_map U _ _ (fun _ _ => rfl), List.length_map, y1] <;> rfl)
    clear hg
    obtain ⟨rfl, f9, f10, f11, f12, f15, f3⟩ := h2
    obtain ⟨S1, T1⟩ := s
    simp only at f3
    obtain ⟨R, rfl⟩ := take3 f3
    rcases hfin with ⟨a1, a2⟩ | ⟨a1, a2, a3, a4⟩ | ⟨a1, a2, a3, a4, a5⟩ | ⟨a1, a2, a3⟩
    · subst a2
      by_cases b1 : W = 0
      · by_cases b2 : (ys.length : Int) < v - 1
        · simp only [go_sem, reduceIte, Nat.reduceEqDiff, Nat.reduceAdd, Nat.reduceSub, Nat.reduceLeDiff, Nat.reduceLT, reduceCtorEq, Int.reduceLT, Int.reduceLE, Int.reduceEq, Int.reduceBEq, Int.reduceSub, Int.reduceAdd, Int.reduceMul, Int.reduceNeg, Int.reduceToNat, Nat.reduceMul, Nat.reduceBEq, f9, f10, f11, f12, f15, a1, b1, b2, wv1, h31, h39', c17, List.length_map]
        · simp only [go_sem, reduceIte, Nat.reduceEqDiff, Nat.reduceAdd, Nat.reduceSub, Nat.reduceLeDiff, Nat.reduceLT, reduceCtorEq, Int.reduceLT, Int.reduceLE, Int.reduceEq, Int.reduceBEq, Int.reduceSub, Int.reduceAdd, Int.reduceMul, Int.reduceNeg, Int.reduceToNat, Nat.reduceMul, Nat.reduceBEq, f9, f10, f11, f12, f15, a1, b1, b2, wv1, h31, h39', c17, List.length_map]
      · simp only [go_sem, reduceIte, Nat.reduceEqDiff, Nat.reduceAdd, Nat.reduceSub, Nat.reduceLeDiff, Nat.reduceLT, reduceCtorEq, Int.reduceLT, Int.reduceLE, Int.reduceEq, Int.reduceBEq, Int.reduceSub, Int.reduceAdd, Int.reduceMul, Int.reduceNeg, Int.reduceToNat, Nat.reduceMul, Nat.reduceBEq, f9, f10, f11, f12, f15, a1, b1, wv1, h31, h39', c17, List.length_map]
    · subst a2 a4
      simp only [go_sem, reduceIte, Nat.reduceEqDiff, Nat.reduceAdd, Nat.reduceSub, Nat.reduceLeDiff, Nat.reduceLT, reduceCtorEq, Int.reduceLT, Int.reduceLE, Int.reduceEq, Int.reduceBEq, Int.reduceSub, Int.reduceAdd, Int.reduceMul, Int.reduceNeg, Int.reduceToNat, Nat.reduceMul, Nat.reduceBEq, f9, f10, f11, f12, f15, a1, a3, wv1, h31, h39', c17, List.length_map]
    · subst a2 a4
      simp only [go_sem, reduceIte, Nat.reduceEqDiff, Nat.reduceAdd, Nat.reduceSub, Nat.reduceLeDiff, Nat.reduceLT, reduceCtorEq, Int.reduceLT, Int.reduceLE, Int.reduceEq, Int.reduceBEq, Int.reduceSub, Int.reduceAdd, Int.reduceMul, Int.reduceNeg, Int.reduceToNat, Nat.reduceMul, Nat.reduceBEq, f9, f10, f11, f12, f15, a1, a3, a5, wv1, h31, h39', c17, List.length_map]
    · subst a3
      simp only [go_sem, reduceIte, Nat.reduceEqDiff, Nat.reduceAdd, Nat.reduceSub, Nat.reduceLeDiff, Nat.reduceLT, reduceCtorEq, Int.reduceLT, Int.reduceLE, Int.reduceEq, Int.reduceBEq, Int.reduceSub, Int.reduceAdd, Int.reduceMul, Int.reduceNeg, Int.reduceToNat, Nat.reduceMul, Nat.reduceBEq, f9, f10, f11, f12, f15, a1, a2, wv1, h31, h39', c17, List.length_map]


theorem cells85 : Try.prog.cellsOf 85 = 2 := by kernel_rfl
theorem cells86 : Try.prog.cellsOf 86 = 8 := by kernel_rfl
/-- Four times two bytes. -/
theorem sh_four {a : AV} (h : ShV Try.prog 8 86 a) : ∃ zs : List Int, a = .agg (zs.map U) ∧ zs.length = 8 ∧ ∀ n ∈ zs, Byte n := by
  unfold ShV at h
  rw [if_pos (by unfold aggB; rw [Try.underlying86])] at h
  obtain ⟨cs, rfl, hs⟩ := h
  unfold Sh at hs
  simp only [Try.underlying86, cells86, cells85] at hs
  obtain ⟨h1, h2⟩ := hs
  obtain ⟨zs, h3, h4, h5⟩ := all_bytes cs fun i hi => by
    have h6 := h2 (i / 2) (by omega)
    unfold Sh at h6
    simp only [Try.underlying85, cells85, cells5, Nat.mul_one] at h6
    obtain ⟨n, q1, q2⟩ := one_byte (h6.2 (i % 2) (by omega))
    refine ⟨n, ?_, q2⟩
    rw [← q1, List.drop_take, List.take_take, List.drop_drop, show min 1 (2 - i % 2) = 1 by omega, show i / 2 * 2 + i % 2 = i by omega]
  exact ⟨zs, by rw [h3], by omega, h5⟩
end Go.Proofs.Ytiifibgadipalaa.Vm
