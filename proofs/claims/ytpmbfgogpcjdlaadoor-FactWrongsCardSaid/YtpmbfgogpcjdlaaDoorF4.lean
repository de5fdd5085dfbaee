/- What is proved: what functions of this program answer, by the evaluator. No condition. -/
import Derived.Test.YtpmbfgogpcjdlaaDoorF3
set_option linter.all false
namespace Go.Proofs.YtpmbfgogpcjdlaaDoor.Vm
open Go Go.Ev
set_option maxRecDepth 100000
attribute [local go_sem] cells_any storable_any ren1_any shaped_ptr cells_ptr storable_ptr ren1_ptr shaped_eptr cells_eptr storable_eptr ren1_eptr shaped_rsl cells_rsl storable_rsl ren1_rsl shaped_int cells_int storable_int ren1_int shaped_bool cells_bool storable_bool ren1_bool shaped_nils cells_nils storable_nils ren1_nils shaped_lst cells_lst storable_lst shaped_fn cells_fn storable_fn ren1_fn shaped_ifc cells_ifc storable_ifc ren1_ifc shaped_agg cells_agg storable_agg ren1_agg shaped_tup cells_tup storable_tup ren1_tup shaped_nif cells_nif storable_nif ren1_nif ren1_lany ren1_lfull ren1_lown len_lst len_rsl len_nil load_ptr load_eptr isRsl_lst isRsl_nil isRsl_rsl elems_nil elems_lst elems_sl isRsl_sl body_eq bodyK_normal bodyK_ret resK_some leaveK_some only_some code_skip code_exit code_ret code_ops code_seq code_cond code_block seqK_normal seqK_ret seqK_exit condK_true condK_false blockK_normal blockK_ret blockK_exit opsK_some ops_nil ops_cons wantK_true wantK_false stepK_some pubs pub pub_sl params okRef_loc storable_loc shaped_loc cells_loc isRsl_loc elems_loc len_loc untips untip untip_sl wantedAV setElems withO isAgg_v isAgg_agg isAgg_lst isAgg_ptr isAgg_fn isAgg_ifc isAgg_rsl isAgg_sl isAgg_loc List.replicate_succ List.replicate_zero opAV valAV aval avals ofVal Env.get setD canon gcAV renAll renEnv renStore renCells ren1_sl cutSt okEnv okStore okRefs okRef okRef_sl bin_int bin_bool bin_lst bin_rsl bin_nil bin_agg cellsEq cellEq isShift intOp boolOp min_int max_int beq_int bne resAV tupAV leave_eq fin_sl fin_loc fins fin_v fin_lst fin_agg fin_tup fin_fn storeAV readCells putCells cells_sl shaped_sl storable_sl fieldAddrAV len_sl goI List.getElem?_cons_zero List.getElem?_cons_succ List.getElem?_nil Option.bind_some Option.map_some List.length_cons List.length_nil List.all_cons List.all_nil Bool.and_true Bool.true_and Bool.and_false Bool.false_and and_true true_and and_false false_and Bool.false_eq_true List.set_cons_zero List.set_cons_succ List.append_nil List.nil_append List.cons_append List.take_zero List.take_succ_cons List.take_nil List.drop_zero List.drop_succ_cons List.map_cons List.map_nil decide_true decide_false beq_self_eq_true Bool.not_true Bool.not_false or_true true_or or_false false_or Nat.zero_add Nat.add_zero Nat.le_refl Nat.lt_irrefl decide_eq_true_eq eq_self_iff_true not_true_eq_false not_false_eq_true List.getD_cons_zero code_loop Nat.zero_le Nat.not_lt_zero Bool.true_beq Bool.false_beq beq_true beq_false ge_iff_le gt_iff_lt Lpure pus Option.map_none assert_ifc assert_nil idxA_ptr idxA_eptr idxV_agg Int.cast_ofNat_Int Nat.mul_one Nat.zero_mul Int.toNat_natCast Int.toNat_zero setParts withO2 hasKey eqnil_sl nenil_sl eqnil_loc nenil_loc map_nil_iff okRefs_ints renCells_ints
attribute [local go_sem high] and_one shr_u

/-- Both articles of a pair are among the first seven. -/
def okP (p : Int × Int) : Prop := 0 ≤ p.1 ∧ p.1 < 7 ∧ 0 ≤ p.2 ∧ p.2 < 7
/-- No article of a pair is in a set. -/
def openP (m : Nat) (p : Int × Int) : Bool := !(m.testBit p.1.toNat) && !(m.testBit p.2.toNat)

theorem loop95 (nl : Bool) (ps : List (Int × Int)) (hlen : ps.length < 1000000) (hok7 : ∀ p ∈ ps, okP p) (m : Nat) (hm : m < 128) (l : Nat) (S0 : List (List AV)) (T : List Nat) (hl : S0[l]? = some [U m]) (lo hi : Nat) (i : Nat) (junk : List (List AV)) (hok : i ≤ ps.length) (env : Env) (st : St)
    (hg : gcAV false lo hi (canon env [0, 1, 7, 8]) st = ([(0, sl 2 nl (ps.map prAV)), (1, .fn (.func 107) [] [.ptr l 0]), (7, I ps.length), (8, I i)], ⟨S0 ++ junk, T⟩)) :
    ∃ x_1 en s, lim (headed pure (run L) false [0, 1, 7, 8] lp95_0 lo hi) env st = some (x_1, en, s) ∧ ((∃ j, s = ⟨S0 ++ j, T⟩) ∧ (if (ps.drop i).any (openP m) = true then x_1 = .ret ∧ ∃ k : Int, 0 ≤ k ∧ en.get 4 = I k else x_1 = .exit 0)) := by
  refine loop_wp (α := Nat × List (List AV)) (fun ⟨i, junk⟩ => ps.length - i) (fun ⟨i, junk⟩ => i ≤ ps.length) (fun ⟨i, junk⟩ => ([(0, sl 2 nl (ps.map prAV)), (1, .fn (.func 107) [] [.ptr l 0]), (7, I ps.length), (8, I i)], ⟨S0 ++ junk, T⟩)) (fun ⟨i, junk⟩ x_1 en s => (∃ j, s = ⟨S0 ++ j, T⟩) ∧ (if (ps.drop i).any (openP m) = true then x_1 = .ret ∧ ∃ k : Int, 0 ≤ k ∧ en.get 4 = I k else x_1 = .exit 0)) (fun ⟨i, junk⟩ hok => ?_) ⟨i, junk⟩ hok env st hg
  simp only at hok
  have hl2 : (S0 ++ junk)[l]? = some [U m] := by rw [List.getElem?_append_left (List.getElem?_eq_some_iff.1 hl).1]; exact hl
  by_cases h : i < ps.length
  · have hx := index_prs nl ps i h
    have hs := succ64 i (by omega)
    have hd : ps.drop i = ps[i] :: ps.drop (i + 1) := List.drop_eq_getElem_cons h
    have hin : ps[i] ∈ ps := List.getElem_mem h
    have h7 := hok7 _ hin
    dsimp only
    rw [hd]
    generalize ps[i] = c at *
    obtain ⟨u, v⟩ := c
    obtain ⟨a1, a2, a3, a4⟩ := h7
    simp only at a1 a2 a3 a4
    obtain ⟨u, rfl⟩ := Int.eq_ofNat_of_zero_le a1
    obtain ⟨v, rfl⟩ := Int.eq_ofNat_of_zero_le a3
    have hlt : ((i : Int) < (ps.length : Int)) = True := eq_true (by omega)
    have h107 := c107 m u v hm (by omega) (by omega) l ⟨S0 ++ junk, T⟩ hl2
    simp only at hx h107
    by_cases p : m.testBit u = false ∧ m.testBit v = false
    · simp only [go_sem, reduceIte, Nat.reduceEqDiff, Nat.reduceAdd, Nat.reduceSub, Nat.reduceLeDiff, Nat.reduceLT, reduceCtorEq, Int.reduceLT, Int.reduceLE, Int.reduceEq, Int.reduceBEq, Int.reduceSub, Int.reduceAdd, Int.reduceMul, Int.reduceNeg, Int.reduceToNat, Nat.reduceMul, Nat.reduceBEq, index_rsl_if, setm, make_ints, condK_dec, wantK_dec, not_dec, and_dec, or_dec, seqK_ite, seqK_none, blockK_ite, blockK_none, opsK_ite, opsK_none, stepK_ite, stepK_none, bodyK_ite, bodyK_none, resK_ite, resK_none, leaveK_ite, leaveK_none, only_ite, only_none, bind_ite, gives_some, gives_none, gives_ite, then_normal, then_ret, then_exit, then_none, then_ite, Option.bind_none, Bool.not_eq_true', decide_eq_false_iff_not, Bool.and_eq_true, Bool.or_eq_true, Option.some.injEq, Int.not_lt, Int.not_le, lp95_0, hx, hlt, h107, p, show pure 107 = false from rfl, List.append_assoc]
      refine ⟨⟨_, rfl⟩, ?_⟩
      rw [if_pos (by simp [openP, p])]
      exact ⟨(i : Int), by omega, rfl⟩
    · simp only [go_sem, reduceIte, Nat.reduceEqDiff, Nat.reduceAdd, Nat.reduceSub, Nat.reduceLeDiff, Nat.reduceLT, reduceCtorEq, Int.reduceLT, Int.reduceLE, Int.reduceEq, Int.reduceBEq, Int.reduceSub, Int.reduceAdd, Int.reduceMul, Int.reduceNeg, Int.reduceToNat, Nat.reduceMul, Nat.reduceBEq, index_rsl_if, setm, make_ints, condK_dec, wantK_dec, not_dec, and_dec, or_dec, seqK_ite, seqK_none, blockK_ite, blockK_none, opsK_ite, opsK_none, stepK_ite, stepK_none, bodyK_ite, bodyK_none, resK_ite, resK_none, leaveK_ite, leaveK_none, only_ite, only_none, bind_ite, gives_some, gives_none, gives_ite, then_normal, then_ret, then_exit, then_none, then_ite, Option.bind_none, Bool.not_eq_true', decide_eq_false_iff_not, Bool.and_eq_true, Bool.or_eq_true, Option.some.injEq, Int.not_lt, Int.not_le, lp95_0, hx, hlt, h107, p, hs, show pure 107 = false from rfl, List.append_assoc]
      refine ⟨(i + 1, junk ++ [[I u, I v]]), by simp only [go_sem, reduceIte, Nat.reduceEqDiff, Nat.reduceAdd, Nat.reduceSub, Nat.reduceLeDiff, Nat.reduceLT, reduceCtorEq, Int.reduceLT, Int.reduceLE, Int.reduceEq, Int.reduceBEq, Int.reduceSub, Int.reduceAdd, Int.reduceMul, Int.reduceNeg, Int.reduceToNat, Nat.reduceMul, Nat.reduceBEq, ren1_locm, loc_tips, locT_eq] <;> rfl, ?_, ?_, fun x en s hq => ?_⟩
      · omega
      · simp only; omega
      · have hf : openP m (u, v) = false := by
          unfold openP; simp only [Int.toNat_natCast]
          cases h1 : m.testBit u <;> cases h2 : m.testBit v <;> simp_all
        rw [List.any_cons, hf, Bool.false_or]; exact hq
  · have hd : ps.drop i = [] := List.drop_eq_nil_of_le (by omega)
    have hlt : ((i : Int) < (ps.length : Int)) = False := eq_false (by omega)
    simp only [go_sem, reduceIte, Nat.reduceEqDiff, Nat.reduceAdd, Nat.reduceSub, Nat.reduceLeDiff, Nat.reduceLT, reduceCtorEq, Int.reduceLT, Int.reduceLE, Int.reduceEq, Int.reduceBEq, Int.reduceSub, Int.reduceAdd, Int.reduceMul, Int.reduceNeg, Int.reduceToNat, Nat.reduceMul, Nat.reduceBEq, index_rsl_if, setm, make_ints, condK_dec, wantK_dec, not_dec, and_dec, or_dec, seqK_ite, seqK_none, blockK_ite, blockK_none, opsK_ite, opsK_none, stepK_ite, stepK_none, bodyK_ite, bodyK_none, resK_ite, resK_none, leaveK_ite, leaveK_none, only_ite, only_none, bind_ite, gives_some, gives_none, gives_ite, then_normal, then_ret, then_exit, then_none, then_ite, Option.bind_none, Bool.not_eq_true', decide_eq_false_iff_not, Bool.and_eq_true, Bool.or_eq_true, Option.some.injEq, Int.not_lt, Int.not_le, lp95_0, hlt]
    refine ⟨⟨_, rfl⟩, ?_⟩
    rw [hd]; simp


theorem c95e (nl : Bool) (ps : List (Int × Int)) (hlen : ps.length < 1000000) (hok7 : ∀ p ∈ ps, okP p) (m : Nat) (hm : m < 128) (l : Nat) (st : St) (hl : st.store[l]? = some [U m]) :
    ∃ (k : Int) (j : List (List AV)), run L 95 [sl 2 nl (ps.map prAV), .fn (.func 107) [] [.ptr l 0]] st = some (I k, ⟨st.store ++ j, st.tips⟩) ∧ (0 ≤ k ↔ ps.any (openP m) = true) := by
  obtain ⟨S0, T⟩ := st
  rw [run_shared (fn := ir95) rfl rfl]
  simp only [ir95, go_sem, reduceIte, Nat.reduceEqDiff, Nat.reduceAdd, Nat.reduceSub, Nat.reduceLeDiff, Nat.reduceLT, reduceCtorEq, Int.reduceLT, Int.reduceLE, Int.reduceEq, Int.reduceBEq, Int.reduceSub, Int.reduceAdd, Int.reduceMul, Int.reduceNeg, Int.reduceToNat, Nat.reduceMul, Nat.reduceBEq, List.length_map]
  generalize hg : lim (headed pure (run L) false _ lp95_0 _ _) _ _ = o
  obtain ⟨x, en, s, rfl, h2⟩ : ∃ x en s, o = some (x, en, s) ∧ _ := by rw [← hg]; exact loop95 nl ps hlen hok7 m hm l S0 T hl S0.length T.length 0 [] (by omega) _ _ (by simp only [go_sem, reduceIte, Nat.reduceEqDiff, Nat.reduceAdd, Nat.reduceSub, Nat.reduceLeDiff, Nat.reduceLT, reduceCtorEq, Int.reduceLT, Int.reduceLE, Int.reduceEq, Int.reduceBEq, Int.reduceSub, Int.reduceAdd, Int.reduceMul, Int.reduceNeg, Int.reduceToNat, Nat.reduceMul, Nat.reduceBEq, List.append_nil] <;> rfl)
  clear hg
  rw [List.drop_zero] at h2
  obtain ⟨⟨j, rfl⟩, h2⟩ := h2
  by_cases h : ps.any (openP m) = true
  · rw [if_pos h] at h2
    obtain ⟨rfl, k, hk, h3⟩ := h2
    exact ⟨k, j, by simp only [go_sem, reduceIte, Nat.reduceEqDiff, Nat.reduceAdd, Nat.reduceSub, Nat.reduceLeDiff, Nat.reduceLT, reduceCtorEq, Int.reduceLT, Int.reduceLE, Int.reduceEq, Int.reduceBEq, Int.reduceSub, Int.reduceAdd, Int.reduceMul, Int.reduceNeg, Int.reduceToNat, Nat.reduceMul, Nat.reduceBEq, h3], by simp [h, hk]⟩
  · rw [if_neg h] at h2
    subst h2
    exact ⟨-1, j, by simp only [go_sem, reduceIte, Nat.reduceEqDiff, Nat.reduceAdd, Nat.reduceSub, Nat.reduceLeDiff, Nat.reduceLT, reduceCtorEq, Int.reduceLT, Int.reduceLE, Int.reduceEq, Int.reduceBEq, Int.reduceSub, Int.reduceAdd, Int.reduceMul, Int.reduceNeg, Int.reduceToNat, Nat.reduceMul, Nat.reduceBEq], by simp [h]⟩

theorem c98e (nl : Bool) (ps : List (Int × Int)) (hlen : ps.length < 1000000) (hok7 : ∀ p ∈ ps, okP p) (m : Nat) (hm : m < 128) (l : Nat) (st : St) (hl : st.store[l]? = some [U m]) :
    ∃ j : List (List AV), run L 98 [sl 2 nl (ps.map prAV), .fn (.func 107) [] [.ptr l 0]] st = some (B (ps.any (openP m)), ⟨st.store ++ j, st.tips⟩) := by
  obtain ⟨k, j, h1, h2⟩ := c95e nl ps hlen hok7 m hm l st hl
  rw [run_shared (fn := ir98) rfl rfl]
  refine ⟨j, ?_⟩
  have e : decide (0 ≤ k) = ps.any (openP m) := by rw [Bool.eq_iff_iff, decide_eq_true_iff]; exact h2
  obtain ⟨S0, T⟩ := st
  simp only [ir98, go_sem, reduceIte, Nat.reduceEqDiff, Nat.reduceAdd, Nat.reduceSub, Nat.reduceLeDiff, Nat.reduceLT, reduceCtorEq, Int.reduceLT, Int.reduceLE, Int.reduceEq, Int.reduceBEq, Int.reduceSub, Int.reduceAdd, Int.reduceMul, Int.reduceNeg, Int.reduceToNat, Nat.reduceMul, Nat.reduceBEq, h1, e]

theorem c79 (nl : Bool) (n : Int) (ps : List (Int × Int)) (hlen : ps.length < 1000000) (hok7 : ∀ p ∈ ps, okP p) (m : Nat) (hm : m < 128) (st : St) :
    run L 79 [bkAV nl n ps, U m] st = some (B (!ps.any (openP m)), st) := by
  rw [run_pure (fn := ir79) rfl rfl]
  obtain ⟨j, h1⟩ := c98e nl ps hlen hok7 m hm 1 ⟨[bkCells nl n ps, [U m]], []⟩ rfl
  simp only [ir79, go_sem, reduceIte, Nat.reduceEqDiff, Nat.reduceAdd, Nat.reduceSub, Nat.reduceLeDiff, Nat.reduceLT, reduceCtorEq, Int.reduceLT, Int.reduceLE, Int.reduceEq, Int.reduceBEq, Int.reduceSub, Int.reduceAdd, Int.reduceMul, Int.reduceNeg, Int.reduceToNat, Nat.reduceMul, Nat.reduceBEq, h1, show pure 98 = false from rfl]

/-! ### comparing -/
theorem c127 (a : Int) (st : St) : run L 127 [I a] st = some (B false, st) := by
  rw [run_pure (fn := ir127) rfl rfl]
  simp only [ir127, go_sem, reduceIte, Nat.reduceEqDiff, Nat.reduceAdd, Nat.reduceSub, Nat.reduceLeDiff, Nat.reduceLT, reduceCtorEq, Int.reduceLT, Int.reduceLE, Int.reduceEq, Int.reduceBEq, Int.reduceSub, Int.reduceAdd, Int.reduceMul, Int.reduceNeg, Int.reduceToNat, Nat.reduceMul, Nat.reduceBEq]
theorem c102 (a b : Int) (st : St) : run L 102 [I a, I b] st = some (I (if a < b then -1 else if b < a then 1 else 0), st) := by
  rw [run_pure (fn := ir102) rfl rfl]
  by_cases h1 : a < b
  · simp only [ir102, go_sem, reduceIte, Nat.reduceEqDiff, Nat.reduceAdd, Nat.reduceSub, Nat.reduceLeDiff, Nat.reduceLT, reduceCtorEq, Int.reduceLT, Int.reduceLE, Int.reduceEq, Int.reduceBEq, Int.reduceSub, Int.reduceAdd, Int.reduceMul, Int.reduceNeg, Int.reduceToNat, Nat.reduceMul, Nat.reduceBEq, c127, h1]
  · by_cases h2 : b < a <;> simp only [ir102, go_sem, reduceIte, Nat.reduceEqDiff, Nat.reduceAdd, Nat.reduceSub, Nat.reduceLeDiff, Nat.reduceLT, reduceCtorEq, Int.reduceLT, Int.reduceLE, Int.reduceEq, Int.reduceBEq, Int.reduceSub, Int.reduceAdd, Int.reduceMul, Int.reduceNeg, Int.reduceToNat, Nat.reduceMul, Nat.reduceBEq, c127, h1, h2]

/-- Is a list ahead of another one? -/
def lexLt : List Int → List Int → Bool
  | [], [] => false
  | [], _ :: _ => true
  | _ :: _, [] => false
  | a :: r, b :: s => decide (a < b) || (decide (a = b) && lexLt r s)

theorem loop69 (n1 n2 : Bool) (xs ys : List Int) (hlen : xs.length < 1000000) (i : Nat) (hok : i ≤ xs.length ∧ i ≤ ys.length) (env : Env) (st : St)
    (hg : gcAV true 0 0 (canon env [0, 1, 9, 10, 11]) st = ([(0, sl 1 n1 (xs.map I)), (1, sl 1 n2 (ys.map I)), (9, sl 1 n1 (xs.map I)), (10, I xs.length), (11, I i)], ⟨[], []⟩)) :
    ∃ x_1 en s, lim (headed pure (run L) true [0, 1, 9, 10, 11] lp69_0 0 0) env st = some (x_1, en, s) ∧ ((x_1 = .exit 0 ∧ en.get 0 = sl 1 n1 (xs.map I) ∧ en.get 1 = sl 1 n2 (ys.map I) ∧ lexLt (xs.drop i) (ys.drop i) = decide (xs.length < ys.length)) ∨ (x_1 = .ret ∧ ∃ k : Int, en.get 4 = I k ∧ lexLt (xs.drop i) (ys.drop i) = decide (k < 0))) := by
  refine loop_wp (α := Nat) (fun i => xs.length - i) (fun i => i ≤ xs.length ∧ i ≤ ys.length) (fun i => ([(0, sl 1 n1 (xs.map I)), (1, sl 1 n2 (ys.map I)), (9, sl 1 n1 (xs.map I)), (10, I xs.length), (11, I i)], ⟨[], []⟩)) (fun i x_1 en s => (x_1 = .exit 0 ∧ en.get 0 = sl 1 n1 (xs.map I) ∧ en.get 1 = sl 1 n2 (ys.map I) ∧ lexLt (xs.drop i) (ys.drop i) = decide (xs.length < ys.length)) ∨ (x_1 = .ret ∧ ∃ k : Int, en.get 4 = I k ∧ lexLt (xs.drop i) (ys.drop i) = decide (k < 0))) (fun i hok => ?_) i hok env st hg
  obtain ⟨hok1, hok2⟩ := hok
  by_cases h : i < xs.length
  · have hx := index_ints n1 xs i h
    have hs := succ64 i (by omega)
    have hd : xs.drop i = xs[i] :: xs.drop (i + 1) := List.drop_eq_getElem_cons h
    have hlt : ((i : Int) < (xs.length : Int)) = True := eq_true (by omega)
    rw [hd]
    by_cases h2 : i < ys.length
    · have hy := index_ints n2 ys i h2
      have hd2 : ys.drop i = ys[i] :: ys.drop (i + 1) := List.drop_eq_getElem_cons h2
      have hge : ((ys.length : Int) ≤ (i : Int)) = False := eq_false (by omega)
      rw [hd2]
      generalize xs[i] = a at *
      generalize ys[i] = b at *
      by_cases p1 : a < b
      · simp only [go_sem, reduceIte, Nat.reduceEqDiff, Nat.reduceAdd, Nat.reduceSub, Nat.reduceLeDiff, Nat.reduceLT, reduceCtorEq, Int.reduceLT, Int.reduceLE, Int.reduceEq, Int.reduceBEq, Int.reduceSub, Int.reduceAdd, Int.reduceMul, Int.reduceNeg, Int.reduceToNat, Nat.reduceMul, Nat.reduceBEq, index_rsl_if, setm, make_ints, condK_dec, wantK_dec, not_dec, and_dec, or_dec, seqK_ite, seqK_none, blockK_ite, blockK_none, opsK_ite, opsK_none, stepK_ite, stepK_none, bodyK_ite, bodyK_none, resK_ite, resK_none, leaveK_ite, leaveK_none, only_ite, only_none, bind_ite, gives_some, gives_none, gives_ite, then_normal, then_ret, then_exit, then_none, then_ite, Option.bind_none, Bool.not_eq_true', decide_eq_false_iff_not, Bool.and_eq_true, Bool.or_eq_true, Option.some.injEq, Int.not_lt, Int.not_le, lp69_0, hx, hy, hlt, hge, c102, p1, List.length_map]
        refine ⟨-1, rfl, ?_⟩
        simp [lexLt, p1]
      · by_cases p2 : b < a
        · simp only [go_sem, reduceIte, Nat.reduceEqDiff, Nat.reduceAdd, Nat.reduceSub, Nat.reduceLeDiff, Nat.reduceLT, reduceCtorEq, Int.reduceLT, Int.reduceLE, Int.reduceEq, Int.reduceBEq, Int.reduceSub, Int.reduceAdd, Int.reduceMul, Int.reduceNeg, Int.reduceToNat, Nat.reduceMul, Nat.reduceBEq, index_rsl_if, setm, make_ints, condK_dec, wantK_dec, not_dec, and_dec, or_dec, seqK_ite, seqK_none, blockK_ite, blockK_none, opsK_ite, opsK_none, stepK_ite, stepK_none, bodyK_ite, bodyK_none, resK_ite, resK_none, leaveK_ite, leaveK_none, only_ite, only_none, bind_ite, gives_some, gives_none, gives_ite, then_normal, then_ret, then_exit, then_none, then_ite, Option.bind_none, Bool.not_eq_true', decide_eq_false_iff_not, Bool.and_eq_true, Bool.or_eq_true, Option.some.injEq, Int.not_lt, Int.not_le, lp69_0, hx, hy, hlt, hge, c102, p1, p2, List.length_map]
          refine ⟨1, rfl, ?_⟩
          simp [lexLt, p1, show a ≠ b by omega]
        · obtain rfl : a = b := by omega
          simp only [go_sem, reduceIte, Nat.reduceEqDiff, Nat.reduceAdd, Nat.reduceSub, Nat.reduceLeDiff, Nat.reduceLT, reduceCtorEq, Int.reduceLT, Int.reduceLE, Int.reduceEq, Int.reduceBEq, Int.reduceSub, Int.reduceAdd, Int.reduceMul, Int.reduceNeg, Int.reduceToNat, Nat.reduceMul, Nat.reduceBEq, index_rsl_if, setm, make_ints, condK_dec, wantK_dec, not_dec, and_dec, or_dec, seqK_ite, seqK_none, blockK_ite, blockK_none, opsK_ite, opsK_none, stepK_ite, stepK_none, bodyK_ite, bodyK_none, resK_ite, resK_none, leaveK_ite, leaveK_none, only_ite, only_none, bind_ite, gives_some, gives_none, gives_ite, then_normal, then_ret, then_exit, then_none, then_ite, Option.bind_none, Bool.not_eq_true', decide_eq_false_iff_not, Bool.and_eq_true, Bool.or_eq_true, Option.some.injEq, Int.not_lt, Int.not_le, lp69_0, hx, hy, hlt, hge, c102, p1, hs, List.length_map]
          refine ⟨i + 1, by simp only [go_sem, reduceIte, Nat.reduceEqDiff, Nat.reduceAdd, Nat.reduceSub, Nat.reduceLeDiff, Nat.reduceLT, reduceCtorEq, Int.reduceLT, Int.reduceLE, Int.reduceEq, Int.reduceBEq, Int.reduceSub, Int.reduceAdd, Int.reduceMul, Int.reduceNeg, Int.reduceToNat, Nat.reduceMul, Nat.reduceBEq, ren1_locm, loc_tips, locT_eq] <;> rfl, ?_, ?_, fun x en s hq => ?_⟩
          · omega
          · omega
          · have e : lexLt (a :: xs.drop (i + 1)) (a :: ys.drop (i + 1)) = lexLt (xs.drop (i + 1)) (ys.drop (i + 1)) := by simp [lexLt]
            rw [e]; exact hq
    · have hd2 : ys.drop i = [] := List.drop_eq_nil_of_le (by omega)
      have hge : ((ys.length : Int) ≤ (i : Int)) = True := eq_true (by omega)
      rw [hd2]
      generalize xs[i] = a at *
      simp only [go_sem, reduceIte, Nat.reduceEqDiff, Nat.reduceAdd, Nat.reduceSub, Nat.reduceLeDiff, Nat.reduceLT, reduceCtorEq, Int.reduceLT, Int.reduceLE, Int.reduceEq, Int.reduceBEq, Int.reduceSub, Int.reduceAdd, Int.reduceMul, Int.reduceNeg, Int.reduceToNat, Nat.reduceMul, Nat.reduceBEq, index_rsl_if, setm, make_ints, condK_dec, wantK_dec, not_dec, and_dec, or_dec, seqK_ite, seqK_none, blockK_ite, blockK_none, opsK_ite, opsK_none, stepK_ite, stepK_none, bodyK_ite, bodyK_none, resK_ite, resK_none, leaveK_ite, leaveK_none, only_ite, only_none, bind_ite, gives_some, gives_none, gives_ite, then_normal, then_ret, then_exit, then_none, then_ite, Option.bind_none, Bool.not_eq_true', decide_eq_false_iff_not, Bool.and_eq_true, Bool.or_eq_true, Option.some.injEq, Int.not_lt, Int.not_le, lp69_0, hx, hlt, hge, List.length_map]
      refine ⟨1, rfl, ?_⟩
      simp [lexLt]
  · have hd : xs.drop i = [] := List.drop_eq_nil_of_le (by omega)
    have hlt : ((i : Int) < (xs.length : Int)) = False := eq_false (by omega)
    simp only [go_sem, reduceIte, Nat.reduceEqDiff, Nat.reduceAdd, Nat.reduceSub, Nat.reduceLeDiff, Nat.reduceLT, reduceCtorEq, Int.reduceLT, Int.reduceLE, Int.reduceEq, Int.reduceBEq, Int.reduceSub, Int.reduceAdd, Int.reduceMul, Int.reduceNeg, Int.reduceToNat, Nat.reduceMul, Nat.reduceBEq, index_rsl_if, setm, make_ints, condK_dec, wantK_dec, not_dec, and_dec, or_dec, seqK_ite, seqK_none, blockK_ite, blockK_none, opsK_ite, opsK_none, stepK_ite, stepK_none, bodyK_ite, bodyK_none, resK_ite, resK_none, leaveK_ite, leaveK_none, only_ite, only_none, bind_ite, gives_some, gives_none, gives_ite, then_normal, then_ret, then_exit, then_none, then_ite, Option.bind_none, Bool.not_eq_true', decide_eq_false_iff_not, Bool.and_eq_true, Bool.or_eq_true, Option.some.injEq, Int.not_lt, Int.not_le, lp69_0, hlt, List.length_map]
    rw [hd]
    by_cases h2 : i < ys.length
    · rw [List.drop_eq_getElem_cons h2]; simp [lexLt]; omega
    · rw [List.drop_eq_nil_of_le (by omega)]; simp [lexLt]; omega


theorem c69 (n1 n2 : Bool) (xs ys : List Int) (hlen : xs.length < 1000000) (st : St) :
    ∃ k : Int, run L 69 [sl 1 n1 (xs.map I), sl 1 n2 (ys.map I)] st = some (I k, st) ∧ decide (k < 0) = lexLt xs ys := by
  rw [run_pure (fn := ir69) rfl rfl]
  simp only [ir69, go_sem, reduceIte, Nat.reduceEqDiff, Nat.reduceAdd, Nat.reduceSub, Nat.reduceLeDiff, Nat.reduceLT, reduceCtorEq, Int.reduceLT, Int.reduceLE, Int.reduceEq, Int.reduceBEq, Int.reduceSub, Int.reduceAdd, Int.reduceMul, Int.reduceNeg, Int.reduceToNat, Nat.reduceMul, Nat.reduceBEq, List.length_map]
  generalize hg : lim (headed pure (run L) true _ lp69_0 _ _) _ _ = o
  obtain ⟨x, en, s, rfl, h2⟩ : ∃ x en s, o = some (x, en, s) ∧ _ := by rw [← hg]; exact loop69 n1 n2 xs ys hlen 0 ⟨by omega, by omega⟩ _ _ (by simp only [go_sem, reduceIte, Nat.reduceEqDiff, Nat.reduceAdd, Nat.reduceSub, Nat.reduceLeDiff, Nat.reduceLT, reduceCtorEq, Int.reduceLT, Int.reduceLE, Int.reduceEq, Int.reduceBEq, Int.reduceSub, Int.reduceAdd, Int.reduceMul, Int.reduceNeg, Int.reduceToNat, Nat.reduceMul, Nat.reduceBEq] <;> rfl)
  clear hg
  simp only [List.drop_zero] at h2
  rcases h2 with ⟨rfl, h3, h4, h5⟩ | ⟨rfl, k, h3, h5⟩
  · by_cases p : xs.length < ys.length
    · have q : ((xs.length : Int) < (ys.length : Int)) = True := eq_true (by omega)
      exact ⟨-1, by simp only [go_sem, reduceIte, Nat.reduceEqDiff, Nat.reduceAdd, Nat.reduceSub, Nat.reduceLeDiff, Nat.reduceLT, reduceCtorEq, Int.reduceLT, Int.reduceLE, Int.reduceEq, Int.reduceBEq, Int.reduceSub, Int.reduceAdd, Int.reduceMul, Int.reduceNeg, Int.reduceToNat, Nat.reduceMul, Nat.reduceBEq, h3, h4, q, List.length_map], by rw [h5]; simp [p]⟩
    · have q : ((xs.length : Int) < (ys.length : Int)) = False := eq_false (by omega)
      exact ⟨0, by simp only [go_sem, reduceIte, Nat.reduceEqDiff, Nat.reduceAdd, Nat.reduceSub, Nat.reduceLeDiff, Nat.reduceLT, reduceCtorEq, Int.reduceLT, Int.reduceLE, Int.reduceEq, Int.reduceBEq, Int.reduceSub, Int.reduceAdd, Int.reduceMul, Int.reduceNeg, Int.reduceToNat, Nat.reduceMul, Nat.reduceBEq, h3, h4, q, List.length_map], by rw [h5]; simp [p]⟩
  · exact ⟨k, by simp only [go_sem, reduceIte, Nat.reduceEqDiff, Nat.reduceAdd, Nat.reduceSub, Nat.reduceLeDiff, Nat.reduceLT, reduceCtorEq, Int.reduceLT, Int.reduceLE, Int.reduceEq, Int.reduceBEq, Int.reduceSub, Int.reduceAdd, Int.reduceMul, Int.reduceNeg, Int.reduceToNat, Nat.reduceMul, Nat.reduceBEq, h3], h5.symm⟩
end Go.Proofs.YtpmbfgogpcjdlaaDoor.Vm
