/- What is proved: what each function of this program computes, as equations on the evaluator. No condition. -/
import Derived.Test.YtpmbfgogpcjdlaaDoorC2
import Derived.KernelRfl
import Derived.Test.YtpmbfgogpcjdlaaDoorFkf
set_option linter.all false
namespace Go.Proofs.YtpmbfgogpcjdlaaDoor.Vm
open Go Go.Ev
set_option maxRecDepth 100000
attribute [local go_sem] cells_any storable_any ren1_any shaped_ptr cells_ptr storable_ptr ren1_ptr shaped_eptr cells_eptr storable_eptr ren1_eptr shaped_rsl cells_rsl storable_rsl ren1_rsl shaped_int cells_int storable_int ren1_int shaped_bool cells_bool storable_bool ren1_bool shaped_nils cells_nils storable_nils ren1_nils shaped_lst cells_lst storable_lst shaped_fn cells_fn storable_fn ren1_fn shaped_ifc cells_ifc storable_ifc ren1_ifc shaped_agg cells_agg storable_agg ren1_agg shaped_tup cells_tup storable_tup ren1_tup shaped_nif cells_nif storable_nif ren1_nif ren1_lany ren1_lfull ren1_lown len_lst len_rsl len_nil load_ptr load_eptr isRsl_lst isRsl_nil isRsl_rsl elems_nil elems_lst elems_sl isRsl_sl body_eq bodyK_normal bodyK_ret resK_some leaveK_some only_some code_skip code_exit code_ret code_ops code_seq code_cond code_block seqK_normal seqK_ret seqK_exit condK_true condK_false blockK_normal blockK_ret blockK_exit opsK_some ops_nil ops_cons wantK_true wantK_false stepK_some pubs pub pub_sl params okRef_loc storable_loc shaped_loc cells_loc isRsl_loc elems_loc len_loc untips untip untip_sl wantedAV setElems withO isAgg_v isAgg_agg isAgg_lst isAgg_ptr isAgg_fn isAgg_ifc isAgg_rsl isAgg_sl isAgg_loc List.replicate_succ List.replicate_zero opAV valAV aval avals ofVal Env.get setD canon gcAV renAll renEnv renStore renCells ren1_sl cutSt okEnv okStore okRefs okRef okRef_sl bin_int bin_bool bin_lst bin_rsl bin_nil bin_agg cellsEq cellEq isShift intOp boolOp min_int max_int beq_int bne resAV tupAV leave_eq fin_sl fin_loc fins fin_v fin_lst fin_agg fin_tup fin_fn storeAV readCells putCells cells_sl shaped_sl storable_sl fieldAddrAV len_sl goI List.getElem?_cons_zero List.getElem?_cons_succ List.getElem?_nil Option.bind_some Option.map_some List.length_cons List.length_nil List.all_cons List.all_nil Bool.and_true Bool.true_and Bool.and_false Bool.false_and and_true true_and and_false false_and Bool.false_eq_true List.set_cons_zero List.set_cons_succ List.append_nil List.nil_append List.cons_append List.take_zero List.take_succ_cons List.take_nil List.drop_zero List.drop_succ_cons List.map_cons List.map_nil decide_true decide_false beq_self_eq_true Bool.not_true Bool.not_false or_true true_or or_false false_or Nat.zero_add Nat.add_zero Nat.le_refl Nat.lt_irrefl decide_eq_true_eq eq_self_iff_true not_true_eq_false not_false_eq_true List.getD_cons_zero code_loop Nat.zero_le Nat.not_lt_zero Bool.true_beq Bool.false_beq beq_true beq_false ge_iff_le gt_iff_lt Lpure pus Option.map_none assert_ifc assert_nil idxA_ptr idxA_eptr idxV_agg Int.cast_ofNat_Int Nat.mul_one Nat.zero_mul Int.toNat_natCast Int.toNat_zero setParts withO2 hasKey eqnil_sl nenil_sl eqnil_loc nenil_loc map_nil_iff okRefs_ints renCells_ints
attribute [local go_sem high] and_one shr_u shl_one or_u

/-! ### a walk along pairs: always to the first that is free -/
def walkP (m : List Nat) : Nat → Nat → List Int → Nat → List Int × Nat
  | 0, tk, row, _ => (row, tk)
  | f + 1, tk, row, a => if dfN (m.getD a 0) tk = 0 then (row, tk) else walkP m f (tk ||| 2 ^ tzN (dfN (m.getD a 0) tk)) (row ++ [(tzN (dfN (m.getD a 0) tk) : Int)]) (tzN (dfN (m.getD a 0) tk))
def ringP (m : List Nat) (st : Nat × List (List Int)) (i : Nat) : Nat × List (List Int) :=
  if st.1.testBit i = true ∨ m.getD i 0 = 0 then st else ((walkP m 128 (st.1 ||| 2 ^ i) [(i : Int)] i).2, st.2 ++ [(walkP m 128 (st.1 ||| 2 ^ i) [(i : Int)] i).1])
def ringsP (n : Nat) (m : List Nat) : List (List Int) := ((List.range n).foldl (ringP m) (0, [])).2
theorem or_grow {tk b : Nat} (h : tk < 128) (hb : b < 7) (h2 : tk.testBit b = false) : tk < tk ||| 2 ^ b ∧ tk ||| 2 ^ b < 128 := by
  refine ⟨?_, Nat.or_lt_two_pow (n := 7) h (Nat.pow_lt_pow_right (by omega) hb)⟩
  have h1 : tk ≤ tk ||| 2 ^ b := Nat.left_le_or
  rcases Nat.lt_or_ge tk (tk ||| 2 ^ b) with h3 | h3
  · exact h3
  · have e : tk = tk ||| 2 ^ b := by omega
    have : (tk ||| 2 ^ b).testBit b = true := by rw [Nat.testBit_or, Nat.testBit_two_pow]; simp
    rw [← e, h2] at this; simp at this
theorem free_step {m : List Nat} (hm : ∀ x ∈ m, x < 128) {tk : Nat} (htk : tk < 128) {a : Nat} (h : dfN (m.getD a 0) tk ≠ 0) :
    tzN (dfN (m.getD a 0) tk) < 7 ∧ tk < tk ||| 2 ^ tzN (dfN (m.getD a 0) tk) ∧ tk ||| 2 ^ tzN (dfN (m.getD a 0) tk) < 128 := by
  obtain ⟨h1, h2⟩ := tz_spec (dfN_lt (small_getD hm a)) h
  rw [dfN_bit htk] at h2
  have h3 : tk.testBit (tzN (dfN (m.getD a 0) tk)) = false := by
    cases e : tk.testBit (tzN (dfN (m.getD a 0) tk))
    · rfl
    · rw [e] at h2; simp at h2
  exact ⟨h1, or_grow htk h1 h3⟩
theorem walk_fuel {m : List Nat} (hm : ∀ x ∈ m, x < 128) : ∀ (f g tk : Nat) (row : List Int) (a : Nat), tk < 128 → 128 - tk ≤ f → 128 - tk ≤ g → walkP m f tk row a = walkP m g tk row a
  | 0, _, tk, _, _, h, h1, _ => by omega
  | _ + 1, 0, tk, _, _, h, _, h2 => by omega
  | f + 1, g + 1, tk, row, a, h, h1, h2 => by
    simp only [walkP]
    by_cases p : dfN (m.getD a 0) tk = 0
    · rw [if_pos p, if_pos p]
    · rw [if_neg p, if_neg p]
      obtain ⟨_, g2, g3⟩ := free_step hm h p
      exact walk_fuel hm f g _ _ _ g3 (by omega) (by omega)
theorem walk_tk {m : List Nat} (hm : ∀ x ∈ m, x < 128) : ∀ (f tk : Nat) (row : List Int) (a : Nat), tk < 128 → (walkP m f tk row a).2 < 128
  | 0, tk, row, a, h => h
  | f + 1, tk, row, a, h => by
    simp only [walkP]
    by_cases p : dfN (m.getD a 0) tk = 0
    · rw [if_pos p]; exact h
    · rw [if_neg p]
      exact walk_tk hm f _ _ _ (free_step hm h p).2.2

/-! ### the lists of rings, and the ring that grows -/
def rwAV (l : List Int) : AV := sl 1 true (l.map I)
def rAV (k : Nat) (rows : List (List Int)) : AV := if rows = [] then .v (.slice none 0 0) else .lst (.own k rows.length) 1 (rows.map rwAV)
def rT (rows : List (List Int)) : List Nat := if rows = [] then [] else [rows.length]
def rAcc (k : Nat) (rows : List (List Int)) : List (Nat × Nat) := if rows = [] then [] else [(k, rows.length)]
/-- A ring of one is a fresh list. -/
def wAV (k : Nat) (row : List Int) : AV := if row.length = 1 then .lst .full 1 (row.map I) else .lst (.own k row.length) 1 (row.map I)
def wT (row : List Int) : List Nat := if row.length = 1 then [] else [row.length]
def wAcc (k : Nat) (row : List Int) : List (Nat × Nat) := if row.length = 1 then [] else [(k, row.length)]

def rXAV (T0 : List Nat) (rows : List (List Int)) (row : List Int) : AV := if rows = [] then .lst (.own (T0 ++ wT row).length 1) 1 [rwAV row] else .lst (.own T0.length (rows.length + 1)) 1 ((rows ++ [row]).map rwAV)
def rXT (T0 : List Nat) (rows : List (List Int)) (row : List Int) : List Nat := if rows = [] then T0 ++ wT row ++ [1] else T0 ++ (rows.length + 1) :: wT row
theorem append_r (T0 : List Nat) (rows : List (List Int)) (row : List Int) (S : List (List AV)) (h : rows.length < 1000) : appendAV 1 (rAV T0.length rows) [rwAV row] ⟨S, T0 ++ rT rows ++ wT row⟩ = some (rXAV T0 rows row, ⟨S, rXT T0 rows row⟩) := by
  unfold rAV rT rXAV rXT
  by_cases h0 : rows = []
  · subst h0; simp [appendAV, maxGrow]
  · have h1 : rows.length + 1 ≤ maxGrow := by unfold maxGrow; omega
    simp [h0, appendAV, h1]
theorem append_w (T : List Nat) (row : List Int) (x : Int) (S : List (List AV)) (h : row.length < 1000) (h0 : 1 ≤ row.length) : appendAV 1 (wAV T.length row) [I x] ⟨S, T ++ wT row⟩ = some (wAV T.length (row ++ [x]), ⟨S, T ++ wT (row ++ [x])⟩) := by
  unfold wAV wT
  have h1 : row.length + 1 ≤ maxGrow := by unfold maxGrow; omega
  have h2 : ¬ (row.length = 0) := by omega
  by_cases h3 : row.length = 1
  · simp [h3, appendAV, maxGrow]
  · simp [h3, h2, appendAV, h1]
theorem shaped_w (k : Nat) (row : List Int) : (wAV k row).shaped = true := by unfold wAV; split <;> rfl
theorem cells_w (k : Nat) (row : List Int) : (wAV k row).cells = [wAV k row] := by unfold wAV; split <;> rfl
theorem isAgg_w (k : Nat) (row : List Int) : Ev.isAgg (wAV k row) = false := by unfold wAV; split <;> rfl
theorem storable_w (k : Nat) (row : List Int) : storable (wAV k row) = true := by unfold wAV; split <;> rfl
theorem okRef_w (n k : Nat) (row : List Int) : okRef n (wAV k row) = true := by unfold wAV; split <;> rfl
theorem okRef_r (n k : Nat) (rows : List (List Int)) : okRef n (rAV k rows) = true := by unfold rAV; split <;> rfl
theorem okRef_rX (n : Nat) (T0 : List Nat) (rows : List (List Int)) (row : List Int) : okRef n (rXAV T0 rows row) = true := by unfold rXAV; split <;> rfl
theorem pub_w (k : Nat) (row : List Int) (h : row ≠ []) : pub (wAV k row) = rwAV row := by
  unfold wAV rwAV
  rw [sl_ne (by simpa using h)]
  split <;> rfl
theorem ren1_o {hi : Nat} {o : List (Int × Int)} (h : (outT o).length ≤ hi) (T : List Nat) (acc : List (Nat × Nat)) : ren1 hi T acc (outAV o) = (outAV o, acc) := by
  unfold outAV outT loc locT at *
  by_cases h0 : (o.map prAV).length = 0
  · simp only [h0, if_true] at h ⊢; rfl
  · simp only [h0, if_false] at h ⊢
    have : 0 < hi := by simp at h; omega
    simp [ren1, this]
theorem ren1_rH (T0 : List Nat) (rows : List (List Int)) (T : List Nat) (acc : List (Nat × Nat)) : ren1 (T0 ++ rT rows).length T acc (rAV T0.length rows) = (rAV T0.length rows, acc) := by
  unfold rAV rT
  by_cases h : rows = []
  · simp [h, ren1]
  · simp [h, ren1]
theorem ren1_wH (T : List Nat) (row : List Int) : ren1 T.length (T ++ wT row) [] (wAV T.length row) = (wAV T.length row, wAcc T.length row) := by
  unfold wAV wT wAcc
  by_cases h : row.length = 1
  · simp [h, ren1]
  · simp [h, ren1]
theorem wAcc_snd (k : Nat) (row : List Int) : (wAcc k row).map (fun x => x.2) = wT row := by
  unfold wAcc wT; split <;> rfl
theorem take_T (T0 T : List Nat) : (T0 ++ T).take T0.length = T0 := List.take_left
theorem take_T2 (A B T : List Nat) : (A ++ B ++ T).take (A ++ B).length = A ++ B := List.take_left
def rXAcc (T0 : List Nat) (rows : List (List Int)) (row : List Int) : List (Nat × Nat) := if rows = [] then [((T0 ++ wT row).length, 1)] else [(T0.length, rows.length + 1)]
theorem rXAcc_snd (T0 : List Nat) (rows : List (List Int)) (row : List Int) : (rXAcc T0 rows row).map (fun x => x.2) = rT (rows ++ [row]) := by
  unfold rXAcc rT; by_cases h : rows = [] <;> simp [h]
theorem ren1_rX (T0 : List Nat) (rows : List (List Int)) (row : List Int) : ren1 T0.length (rXT T0 rows row) [] (rXAV T0 rows row) = (rAV T0.length (rows ++ [row]), rXAcc T0 rows row) := by
  unfold rXAV rXT rAV rXAcc
  by_cases h : rows = []
  · have e : (T0 ++ wT row ++ [1])[(T0 ++ wT row).length]? = some 1 := by simp
    have e2 : ¬ ((T0 ++ wT row).length < T0.length) := by simp
    rw [if_pos h, if_pos h, ren1, if_neg e2, if_pos ⟨e, by simp⟩]
    simp [h]
  · simp [h, ren1]
theorem ren1_r0 (T0 : List Nat) (rows : List (List Int)) : ren1 T0.length (T0 ++ rT rows) [] (rAV T0.length rows) = (rAV T0.length rows, rAcc T0.length rows) := by
  unfold rT rAV rAcc
  by_cases h : rows = []
  · simp [h, ren1]
  · simp [h, ren1]
theorem rAcc_snd (k : Nat) (rows : List (List Int)) : (rAcc k rows).map (fun x => x.2) = rT rows := by
  unfold rAcc rT; split <;> rfl
theorem take_rX (T0 : List Nat) (rows : List (List Int)) (row : List Int) : (rXT T0 rows row).take T0.length = T0 := by
  unfold rXT; split
  · rw [List.append_assoc, List.take_left]
  · rw [List.take_left]
attribute [local go_sem] shaped_w cells_w isAgg_w storable_w okRef_w okRef_r okRef_rX okRef_out storable_out shaped_out cells_out fin_out pub_out

theorem loop37_1 (nl : Bool) (n : Nat) (ps : List (Int × Int)) (o1 : List (Int × Int)) (m : List Nat) (hm : ∀ x ∈ m, x < 128) (hml : m.length = 7) (rows : List (List Int)) (hrl : rows.length < 1000) (th : Nat) (hth : th = (outT o1 ++ rT rows).length) (i : Nat) (tk : Nat) (row : List Int) (a : Nat) (hok : tk < 128 ∧ 1 ≤ row.length ∧ row.length ≤ tk ∧ a < 7) (env : Env) (st : St)
    (hg : gcAV true 3 th (canon env [8, 9, 10, 12, 13, 47, 48]) st = ([(8, .ptr 2 0), (9, U tk), (10, rAV (outT o1).length rows), (12, wAV th row), (13, I a), (47, I n), (48, I i)], ⟨[bkCells nl n ps, [I n, outAV o1], m.map U], outT o1 ++ rT rows ++ wT row⟩)) :
    ∃ x_1 en s, lim (headed pure (run L) true [8, 9, 10, 12, 13, 47, 48] lp37_1 3 th) env st = some (x_1, en, s) ∧ (x_1 = .exit 3 ∧ en.get 8 = .ptr 2 0 ∧ en.get 9 = U (walkP m 128 tk row a).2 ∧ en.get 10 = rXAV (outT o1) rows (walkP m 128 tk row a).1 ∧ en.get 47 = I n ∧ en.get 48 = I i ∧ s = ⟨[bkCells nl n ps, [I n, outAV o1], m.map U], rXT (outT o1) rows (walkP m 128 tk row a).1⟩) := by
  refine loop_wp (α := Nat × List Int × Nat) (fun ⟨tk, row, a⟩ => 128 - tk) (fun ⟨tk, row, a⟩ => tk < 128 ∧ 1 ≤ row.length ∧ row.length ≤ tk ∧ a < 7) (fun ⟨tk, row, a⟩ => ([(8, .ptr 2 0), (9, U tk), (10, rAV (outT o1).length rows), (12, wAV th row), (13, I a), (47, I n), (48, I i)], ⟨[bkCells nl n ps, [I n, outAV o1], m.map U], outT o1 ++ rT rows ++ wT row⟩)) (fun ⟨tk, row, a⟩ x_1 en s => x_1 = .exit 3 ∧ en.get 8 = .ptr 2 0 ∧ en.get 9 = U (walkP m 128 tk row a).2 ∧ en.get 10 = rXAV (outT o1) rows (walkP m 128 tk row a).1 ∧ en.get 47 = I n ∧ en.get 48 = I i ∧ s = ⟨[bkCells nl n ps, [I n, outAV o1], m.map U], rXT (outT o1) rows (walkP m 128 tk row a).1⟩) (fun ⟨tk, row, a⟩ hok => ?_) ⟨tk, row, a⟩ hok env st hg
  simp only at hok
  subst hth
  obtain ⟨h1, h2, h3, h4⟩ := hok
  dsimp only at h1 h2 h3 h4 ⊢
  have g1 := getU m a (by omega)
  have hd := dfU_eq (m.getD a 0) tk (small_getD hm a) h1
  have b1 : ((0 : Int) ≤ (a : Int)) = True := eq_true (by omega)
  have b2 : ((a : Int) < 7) = True := eq_true (by omega)
  have hne : row ≠ [] := by intro e; rw [e] at h2; simp at h2
  have hpw := pub_w (outT o1 ++ rT rows).length row hne
  have e0 : walkP m 128 tk row a = if dfN (m.getD a 0) tk = 0 then (row, tk) else walkP m 127 (tk ||| 2 ^ tzN (dfN (m.getD a 0) tk)) (row ++ [(tzN (dfN (m.getD a 0) tk) : Int)]) (tzN (dfN (m.getD a 0) tk)) := rfl
  by_cases p : dfN (m.getD a 0) tk = 0
  · have happ := fun S => append_r (outT o1) rows row S hrl
    rw [e0, if_pos p]
    simp only [go_sem, reduceIte, Nat.reduceEqDiff, Nat.reduceAdd, Nat.reduceSub, Nat.reduceLeDiff, Nat.reduceLT, reduceCtorEq, Int.reduceLT, Int.reduceLE, Int.reduceEq, Int.reduceBEq, Int.reduceSub, Int.reduceAdd, Int.reduceMul, Int.reduceNeg, Int.reduceToNat, Nat.reduceMul, Nat.reduceBEq, index_rsl_if, setm, make_ints, condK_dec, wantK_dec, not_dec, and_dec, or_dec, seqK_ite, seqK_none, blockK_ite, blockK_none, opsK_ite, opsK_none, stepK_ite, stepK_none, bodyK_ite, bodyK_none, resK_ite, resK_none, leaveK_ite, leaveK_none, only_ite, only_none, bind_ite, gives_some, gives_none, gives_ite, then_normal, then_ret, then_exit, then_none, then_ite, Option.bind_none, Bool.not_eq_true', decide_eq_false_iff_not, Bool.and_eq_true, Bool.or_eq_true, Option.some.injEq, Int.not_lt, Int.not_le, lp37_1, g1, b1, b2, hd, p, hml, hpw, happ, List.length_map, Int.natCast_zero]
  · obtain ⟨q1, q2, q3⟩ := free_step hm h1 (a := a) p
    have h90 := fun st => c90 (dfN (m.getD a 0) tk) (dfN_lt (small_getD hm a)) st
    rw [e0, if_neg p]
    have pz : (((dfN (m.getD a 0) tk : Nat) : Int) = 0) = False := eq_false (by omega)
    generalize dfN (m.getD a 0) tk = z at *
    have e1 : orU tk (sh1 (tzN z)) = tk ||| 2 ^ tzN z := by rw [(sh1_lt _ q1).1, orU_eq _ _ h1 (sh1_lt _ q1).2]
    have happ := fun S => append_w (outT o1 ++ rT rows) row (tzN z : Int) S (by omega) h2
    have hfu := walk_fuel hm 127 128 (tk ||| 2 ^ tzN z) (row ++ [(tzN z : Int)]) (tzN z) q3 (by omega) (by omega)
    rw [hfu]
    have hlt : (outT o1).length ≤ (outT o1 ++ rT rows).length := by simp
    have hro := fun T acc => ren1_o hlt T acc
    generalize tzN z = b at *
    generalize tk ||| 2 ^ b = tk2 at *
    simp only [go_sem, reduceIte, Nat.reduceEqDiff, Nat.reduceAdd, Nat.reduceSub, Nat.reduceLeDiff, Nat.reduceLT, reduceCtorEq, Int.reduceLT, Int.reduceLE, Int.reduceEq, Int.reduceBEq, Int.reduceSub, Int.reduceAdd, Int.reduceMul, Int.reduceNeg, Int.reduceToNat, Nat.reduceMul, Nat.reduceBEq, index_rsl_if, setm, make_ints, condK_dec, wantK_dec, not_dec, and_dec, or_dec, seqK_ite, seqK_none, blockK_ite, blockK_none, opsK_ite, opsK_none, stepK_ite, stepK_none, bodyK_ite, bodyK_none, resK_ite, resK_none, leaveK_ite, leaveK_none, only_ite, only_none, bind_ite, gives_some, gives_none, gives_ite, then_normal, then_ret, then_exit, then_none, then_ite, Option.bind_none, Bool.not_eq_true', decide_eq_false_iff_not, Bool.and_eq_true, Bool.or_eq_true, Option.some.injEq, Int.not_lt, Int.not_le, lp37_1, g1, b1, b2, hd, pz, hml, h90, e1, happ, List.length_map]
    refine ⟨(tk2, row ++ [(b : Int)], b), by simp only [go_sem, reduceIte, Nat.reduceEqDiff, Nat.reduceAdd, Nat.reduceSub, Nat.reduceLeDiff, Nat.reduceLT, reduceCtorEq, Int.reduceLT, Int.reduceLE, Int.reduceEq, Int.reduceBEq, Int.reduceSub, Int.reduceAdd, Int.reduceMul, Int.reduceNeg, Int.reduceToNat, Nat.reduceMul, Nat.reduceBEq, ren1_locm, loc_tips, locT_eq, hro, ren1_rH, ren1_wH, wAcc_snd, take_T2, okRefsU, renCellsU] <;> rfl, ?_, ?_, fun x en s hq => ?_⟩
    · dsimp only; refine ⟨q3, by simp, by simp; omega, q1⟩
    · dsimp only; omega
    · exact hq

theorem loop37_2 (nl : Bool) (n : Nat) (hn : n ≤ 7) (ps : List (Int × Int)) (o1 : List (Int × Int)) (m : List Nat) (hm : ∀ x ∈ m, x < 128) (hml : m.length = 7) (th : Nat) (hth : th = (outT o1).length) (i : Nat) (tk : Nat) (rows : List (List Int)) (hok : i ≤ n ∧ tk < 128 ∧ rows.length ≤ i) (env : Env) (st : St)
    (hg : gcAV true 3 th (canon env [8, 9, 10, 47, 48]) st = ([(8, .ptr 2 0), (9, U tk), (10, rAV (outT o1).length rows), (47, I n), (48, I i)], ⟨[bkCells nl n ps, [I n, outAV o1], m.map U], outT o1 ++ rT rows⟩)) :
    ∃ x_1 en s, lim (headed pure (run L) true [8, 9, 10, 47, 48] lp37_2 3 th) env st = some (x_1, en, s) ∧ (x_1 = .exit 2 ∧ en.get 10 = rAV (outT o1).length ((List.range' i (n - i)).foldl (ringP m) (tk, rows)).2 ∧ s = ⟨[bkCells nl n ps, [I n, outAV o1], m.map U], outT o1 ++ rT ((List.range' i (n - i)).foldl (ringP m) (tk, rows)).2⟩) := by
  refine loop_wp (α := Nat × Nat × List (List Int)) (fun ⟨i, tk, rows⟩ => n - i) (fun ⟨i, tk, rows⟩ => i ≤ n ∧ tk < 128 ∧ rows.length ≤ i) (fun ⟨i, tk, rows⟩ => ([(8, .ptr 2 0), (9, U tk), (10, rAV (outT o1).length rows), (47, I n), (48, I i)], ⟨[bkCells nl n ps, [I n, outAV o1], m.map U], outT o1 ++ rT rows⟩)) (fun ⟨i, tk, rows⟩ x_1 en s => x_1 = .exit 2 ∧ en.get 10 = rAV (outT o1).length ((List.range' i (n - i)).foldl (ringP m) (tk, rows)).2 ∧ s = ⟨[bkCells nl n ps, [I n, outAV o1], m.map U], outT o1 ++ rT ((List.range' i (n - i)).foldl (ringP m) (tk, rows)).2⟩) (fun ⟨i, tk, rows⟩ hok => ?_) ⟨i, tk, rows⟩ hok env st hg
  simp only at hok
  subst hth
  obtain ⟨h1, h2, h3⟩ := hok
  dsimp only at h1 h2 h3 ⊢
  have hro := fun T acc => ren1_o (Nat.le_refl (outT o1).length) T acc
  by_cases h : i < n
  · have hs := succ64 i (by omega)
    have hlt : ((i : Int) < (n : Int)) = True := eq_true (by omega)
    have hd : List.range' i (n - i) = i :: List.range' (i + 1) (n - (i + 1)) := by
      rw [show n - i = (n - (i + 1)) + 1 from by omega, List.range'_succ]
    rw [hd, List.foldl_cons]
    have g1 := getU m i (by omega)
    have b1 : ((0 : Int) ≤ (i : Int)) = True := eq_true (by omega)
    have b2 : ((i : Int) < 7) = True := eq_true (by omega)
    have hmin := min64 i (by omega)
    have hb1 : ((((tk >>> i) % 2 : Nat) : Int) = 1) = (tk.testBit i = true) := bit_one tk i
    by_cases p1 : tk.testBit i = true
    · have e : ringP m (tk, rows) i = (tk, rows) := by unfold ringP; rw [if_pos (.inl p1)]
      rw [e]
      simp only [go_sem, reduceIte, Nat.reduceEqDiff, Nat.reduceAdd, Nat.reduceSub, Nat.reduceLeDiff, Nat.reduceLT, reduceCtorEq, Int.reduceLT, Int.reduceLE, Int.reduceEq, Int.reduceBEq, Int.reduceSub, Int.reduceAdd, Int.reduceMul, Int.reduceNeg, Int.reduceToNat, Nat.reduceMul, Nat.reduceBEq, index_rsl_if, setm, make_ints, condK_dec, wantK_dec, not_dec, and_dec, or_dec, seqK_ite, seqK_none, blockK_ite, blockK_none, opsK_ite, opsK_none, stepK_ite, stepK_none, bodyK_ite, bodyK_none, resK_ite, resK_none, leaveK_ite, leaveK_none, only_ite, only_none, bind_ite, gives_some, gives_none, gives_ite, then_normal, then_ret, then_exit, then_none, then_ite, Option.bind_none, Bool.not_eq_true', decide_eq_false_iff_not, Bool.and_eq_true, Bool.or_eq_true, Option.some.injEq, Int.not_lt, Int.not_le, lp37_2, hlt, hs, hmin, hb1, p1, hml, List.length_map]
      refine ⟨(i + 1, tk, rows), by simp only [go_sem, reduceIte, Nat.reduceEqDiff, Nat.reduceAdd, Nat.reduceSub, Nat.reduceLeDiff, Nat.reduceLT, reduceCtorEq, Int.reduceLT, Int.reduceLE, Int.reduceEq, Int.reduceBEq, Int.reduceSub, Int.reduceAdd, Int.reduceMul, Int.reduceNeg, Int.reduceToNat, Nat.reduceMul, Nat.reduceBEq, ren1_locm, loc_tips, locT_eq, hro, ren1_r0, rAcc_snd, take_T, okRefsU, renCellsU] <;> rfl, ?_, ?_, fun x en s hq => ?_⟩
      · dsimp only; omega
      · dsimp only; omega
      · exact hq
    · by_cases p2 : m.getD i 0 = 0
      · have e : ringP m (tk, rows) i = (tk, rows) := by unfold ringP; rw [if_pos (.inr p2)]
        rw [e]
        simp only [go_sem, reduceIte, Nat.reduceEqDiff, Nat.reduceAdd, Nat.reduceSub, Nat.reduceLeDiff, Nat.reduceLT, reduceCtorEq, Int.reduceLT, Int.reduceLE, Int.reduceEq, Int.reduceBEq, Int.reduceSub, Int.reduceAdd, Int.reduceMul, Int.reduceNeg, Int.reduceToNat, Nat.reduceMul, Nat.reduceBEq, index_rsl_if, setm, make_ints, condK_dec, wantK_dec, not_dec, and_dec, or_dec, seqK_ite, seqK_none, blockK_ite, blockK_none, opsK_ite, opsK_none, stepK_ite, stepK_none, bodyK_ite, bodyK_none, resK_ite, resK_none, leaveK_ite, leaveK_none, only_ite, only_none, bind_ite, gives_some, gives_none, gives_ite, then_normal, then_ret, then_exit, then_none, then_ite, Option.bind_none, Bool.not_eq_true', decide_eq_false_iff_not, Bool.and_eq_true, Bool.or_eq_true, Option.some.injEq, Int.not_lt, Int.not_le, lp37_2, hlt, hs, hmin, hb1, p1, p2, g1, b1, b2, hml, List.length_map, Int.natCast_zero]
        refine ⟨(i + 1, tk, rows), by simp only [go_sem, reduceIte, Nat.reduceEqDiff, Nat.reduceAdd, Nat.reduceSub, Nat.reduceLeDiff, Nat.reduceLT, reduceCtorEq, Int.reduceLT, Int.reduceLE, Int.reduceEq, Int.reduceBEq, Int.reduceSub, Int.reduceAdd, Int.reduceMul, Int.reduceNeg, Int.reduceToNat, Nat.reduceMul, Nat.reduceBEq, ren1_locm, loc_tips, locT_eq, hro, ren1_r0, rAcc_snd, take_T, okRefsU, renCellsU] <;> rfl, ?_, ?_, fun x en s hq => ?_⟩
        · dsimp only; omega
        · dsimp only; omega
        · exact hq
      · have pz : (((m.getD i 0 : Nat) : Int) = 0) = False := eq_false (by omega)
        have hg := or_grow h2 (show i < 7 by omega) (by simpa using p1)
        have hwt := walk_tk hm 128 (tk ||| 2 ^ i) [(i : Int)] i hg.2
        have e1 : orU tk (sh1 i) = tk ||| 2 ^ i := by rw [(sh1_lt _ (by omega)).1, orU_eq _ _ h2 (sh1_lt _ (by omega)).2]
        have e : ringP m (tk, rows) i = ((walkP m 128 (tk ||| 2 ^ i) [(i : Int)] i).2, rows ++ [(walkP m 128 (tk ||| 2 ^ i) [(i : Int)] i).1]) := by unfold ringP; rw [if_neg (by simp only [p1, p2]; simp)]
        have hL := loop37_1 nl n ps o1 m hm hml rows (by omega) _ rfl i (tk ||| 2 ^ i) [(i : Int)] i ⟨hg.2, by simp, by simp; omega, by omega⟩
        rw [e]
        have hro2 := fun T acc => ren1_o (show (outT o1).length ≤ (outT o1 ++ rT rows).length by simp) T acc
        have hw0 : wAV (outT o1 ++ rT rows).length [(i : Int)] = .lst .full 1 [I i] := rfl
        have hT0 : wT [(i : Int)] = [] := rfl
        simp only [go_sem, reduceIte, Nat.reduceEqDiff, Nat.reduceAdd, Nat.reduceSub, Nat.reduceLeDiff, Nat.reduceLT, reduceCtorEq, Int.reduceLT, Int.reduceLE, Int.reduceEq, Int.reduceBEq, Int.reduceSub, Int.reduceAdd, Int.reduceMul, Int.reduceNeg, Int.reduceToNat, Nat.reduceMul, Nat.reduceBEq, index_rsl_if, setm, make_ints, condK_dec, wantK_dec, not_dec, and_dec, or_dec, seqK_ite, seqK_none, blockK_ite, blockK_none, opsK_ite, opsK_none, stepK_ite, stepK_none, bodyK_ite, bodyK_none, resK_ite, resK_none, leaveK_ite, leaveK_none, only_ite, only_none, bind_ite, gives_some, gives_none, gives_ite, then_normal, then_ret, then_exit, then_none, then_ite, Option.bind_none, Bool.not_eq_true', decide_eq_false_iff_not, Bool.and_eq_true, Bool.or_eq_true, Option.some.injEq, Int.not_lt, Int.not_le, lp37_2, hlt, hs, hmin, hb1, p1, pz, g1, b1, b2, e1, hml, List.length_map, Int.natCast_zero]
        generalize hg : lim (headed pure (run L) true _ lp37_1 _ _) _ _ = o
        obtain ⟨x, en, s, rfl, h2⟩ : ∃ x en s, o = some (x, en, s) ∧ _ := by rw [← hg]; exact hL _ _ (by simp only [go_sem, reduceIte, Nat.reduceEqDiff, Nat.reduceAdd, Nat.reduceSub, Nat.reduceLeDiff, Nat.reduceLT, reduceCtorEq, Int.reduceLT, Int.reduceLE, Int.reduceEq, Int.reduceBEq, Int.reduceSub, Int.reduceAdd, Int.reduceMul, Int.reduceNeg, Int.reduceToNat, Nat.reduceMul, Nat.reduceBEq, hro2, ren1_rH, List.take_length, okRefsU, renCellsU, hw0, hT0, List.append_nil, Int.natCast_zero] <;> rfl)
        clear hg
        obtain ⟨rfl, e8, e9, e10, e47, e48, rfl⟩ := h2
        generalize (walkP m 128 (tk ||| 2 ^ i) [(i : Int)] i).1 = w at *
        generalize (walkP m 128 (tk ||| 2 ^ i) [(i : Int)] i).2 = tk2 at *
        have hfst := rXAcc_snd (outT o1) rows w
        simp only [go_sem, reduceIte, Nat.reduceEqDiff, Nat.reduceAdd, Nat.reduceSub, Nat.reduceLeDiff, Nat.reduceLT, reduceCtorEq, Int.reduceLT, Int.reduceLE, Int.reduceEq, Int.reduceBEq, Int.reduceSub, Int.reduceAdd, Int.reduceMul, Int.reduceNeg, Int.reduceToNat, Nat.reduceMul, Nat.reduceBEq, index_rsl_if, setm, make_ints, condK_dec, wantK_dec, not_dec, and_dec, or_dec, seqK_ite, seqK_none, blockK_ite, blockK_none, opsK_ite, opsK_none, stepK_ite, stepK_none, bodyK_ite, bodyK_none, resK_ite, resK_none, leaveK_ite, leaveK_none, only_ite, only_none, bind_ite, gives_some, gives_none, gives_ite, then_normal, then_ret, then_exit, then_none, then_ite, Option.bind_none, Bool.not_eq_true', decide_eq_false_iff_not, Bool.and_eq_true, Bool.or_eq_true, Option.some.injEq, Int.not_lt, Int.not_le, lp37_2, e8, e9, e10, e47, e48, hs]
        refine ⟨(i + 1, tk2, rows ++ [w]), by simp only [go_sem, reduceIte, Nat.reduceEqDiff, Nat.reduceAdd, Nat.reduceSub, Nat.reduceLeDiff, Nat.reduceLT, reduceCtorEq, Int.reduceLT, Int.reduceLE, Int.reduceEq, Int.reduceBEq, Int.reduceSub, Int.reduceAdd, Int.reduceMul, Int.reduceNeg, Int.reduceToNat, Nat.reduceMul, Nat.reduceBEq, ren1_locm, loc_tips, locT_eq, e8, e9, e10, e47, e48, hro, ren1_rX, hfst, take_rX, okRefsU, renCellsU] <;> rfl, ?_, ?_, fun x en s hq => ?_⟩
        · dsimp only; refine ⟨by omega, hwt, by simp; omega⟩
        · dsimp only; omega
        · exact hq
  · obtain rfl : i = n := by omega
    have hz : List.range' i (i - i) = [] := by simp
    rw [hz]
    simp only [go_sem, reduceIte, Nat.reduceEqDiff, Nat.reduceAdd, Nat.reduceSub, Nat.reduceLeDiff, Nat.reduceLT, reduceCtorEq, Int.reduceLT, Int.reduceLE, Int.reduceEq, Int.reduceBEq, Int.reduceSub, Int.reduceAdd, Int.reduceMul, Int.reduceNeg, Int.reduceToNat, Nat.reduceMul, Nat.reduceBEq, index_rsl_if, setm, make_ints, condK_dec, wantK_dec, not_dec, and_dec, or_dec, seqK_ite, seqK_none, blockK_ite, blockK_none, opsK_ite, opsK_none, stepK_ite, stepK_none, bodyK_ite, bodyK_none, resK_ite, resK_none, leaveK_ite, leaveK_none, only_ite, only_none, bind_ite, gives_some, gives_none, gives_ite, then_normal, then_ret, then_exit, then_none, then_ite, Option.bind_none, Bool.not_eq_true', decide_eq_false_iff_not, Bool.and_eq_true, Bool.or_eq_true, Option.some.injEq, Int.not_lt, Int.not_le, lp37_2, show ((i : Int) < (i : Int)) = False from eq_false (by omega)]
    exact ⟨rfl, rfl⟩

attribute [local go_sem] okRef_out storable_out shaped_out cells_out fin_out pub_out okRef_w okRef_r okRef_rX

/-! ### the rings, by the program -/
def onesL (W : List ((Int × Int) × Int)) : List (Int × Int) := (W.filter fun e => decide (e.2 = 1)).map fun e => e.1
def onesR (n : Nat) (ps : List (Int × Int)) : List (Int × Int) := onesL (ps.zip (sharesR n ps))
theorem onesL_nil : onesL [] = [] := rfl
theorem onesL_cons (e : (Int × Int) × Int) (W : List ((Int × Int) × Int)) : onesL (e :: W) = if e.2 = 1 then e.1 :: onesL W else onesL W := by
  unfold onesL
  by_cases h : e.2 = 1
  · rw [if_pos h, List.filter_cons_of_pos (by simp [h]), List.map_cons]
  · rw [if_neg h, List.filter_cons_of_neg (by simp [h])]
theorem onesL_len (W : List ((Int × Int) × Int)) : (onesL W).length ≤ W.length := by
  unfold onesL; rw [List.length_map]; exact List.length_filter_le _ _
theorem drop_zip (ps : List (Int × Int)) (s : List Int) (i : Nat) (h : i < ps.length) (h2 : i < s.length) : (ps.zip s).drop i = (ps[i], s[i]) :: (ps.zip s).drop (i + 1) := by
  have hl : i < (ps.zip s).length := by rw [List.length_zip]; omega
  rw [List.drop_eq_getElem_cons hl, List.getElem_zip]

theorem loop37_0 (nl n2 : Bool) (n : Nat) (ps : List (Int × Int)) (hlen : ps.length ≤ 10) (s0 : List Int) (hs0 : s0.length = ps.length) (i : Nat) (o1 : List (Int × Int)) (hok : i ≤ ps.length ∧ o1.length ≤ i) (env : Env) (st : St)
    (hg : gcAV true 2 0 (canon env [1, 5, 24, 25, 26]) st = ([(1, .ptr 0 0), (5, .ptr 1 0), (24, sl 1 n2 (s0.map I)), (25, I ps.length), (26, I i)], ⟨[bkCells nl n ps, [I n, outAV o1]], outT o1⟩)) :
    ∃ x_1 en s, lim (headed pure (run L) true [1, 5, 24, 25, 26] lp37_0 2 0) env st = some (x_1, en, s) ∧ (x_1 = .exit 0 ∧ en.get 1 = .ptr 0 0 ∧ en.get 5 = .ptr 1 0 ∧ s = ⟨[bkCells nl n ps, [I n, outAV (o1 ++ onesL ((ps.zip s0).drop i))]], outT (o1 ++ onesL ((ps.zip s0).drop i))⟩) := by
  refine loop_wp (α := Nat × List (Int × Int)) (fun ⟨i, o1⟩ => ps.length - i) (fun ⟨i, o1⟩ => i ≤ ps.length ∧ o1.length ≤ i) (fun ⟨i, o1⟩ => ([(1, .ptr 0 0), (5, .ptr 1 0), (24, sl 1 n2 (s0.map I)), (25, I ps.length), (26, I i)], ⟨[bkCells nl n ps, [I n, outAV o1]], outT o1⟩)) (fun ⟨i, o1⟩ x_1 en s => x_1 = .exit 0 ∧ en.get 1 = .ptr 0 0 ∧ en.get 5 = .ptr 1 0 ∧ s = ⟨[bkCells nl n ps, [I n, outAV (o1 ++ onesL ((ps.zip s0).drop i))]], outT (o1 ++ onesL ((ps.zip s0).drop i))⟩) (fun ⟨i, o1⟩ hok => ?_) ⟨i, o1⟩ hok env st hg
  simp only at hok
  obtain ⟨h1, h2⟩ := hok
  dsimp only at h1 h2 ⊢
  by_cases h : i < ps.length
  · have hx := index_prs2 nl ps i h
    have hy := index_ints n2 s0 i (by omega)
    have hs := succ64 i (by omega)
    have hd := drop_zip ps s0 i h (by omega)
    have hlt : ((i : Int) < (ps.length : Int)) = True := eq_true (by omega)
    rw [hd, onesL_cons]
    generalize s0[i] = a at *
    generalize ps[i] = c at *
    obtain ⟨u, v⟩ := c
    dsimp only at hx ⊢
    have happ := fun S => append_out o1 u v S (by omega)
    by_cases p : a = 1
    · rw [if_pos p]
      simp only [go_sem, reduceIte, Nat.reduceEqDiff, Nat.reduceAdd, Nat.reduceSub, Nat.reduceLeDiff, Nat.reduceLT, reduceCtorEq, Int.reduceLT, Int.reduceLE, Int.reduceEq, Int.reduceBEq, Int.reduceSub, Int.reduceAdd, Int.reduceMul, Int.reduceNeg, Int.reduceToNat, Nat.reduceMul, Nat.reduceBEq, index_rsl_if, setm, make_ints, condK_dec, wantK_dec, not_dec, and_dec, or_dec, seqK_ite, seqK_none, blockK_ite, blockK_none, opsK_ite, opsK_none, stepK_ite, stepK_none, bodyK_ite, bodyK_none, resK_ite, resK_none, leaveK_ite, leaveK_none, only_ite, only_none, bind_ite, gives_some, gives_none, gives_ite, then_normal, then_ret, then_exit, then_none, then_ite, Option.bind_none, Bool.not_eq_true', decide_eq_false_iff_not, Bool.and_eq_true, Bool.or_eq_true, Option.some.injEq, Int.not_lt, Int.not_le, lp37_0, hx, hy, hlt, hs, p, happ]
      refine ⟨(i + 1, o1 ++ [(u, v)]), by simp only [go_sem, reduceIte, Nat.reduceEqDiff, Nat.reduceAdd, Nat.reduceSub, Nat.reduceLeDiff, Nat.reduceLT, reduceCtorEq, Int.reduceLT, Int.reduceLE, Int.reduceEq, Int.reduceBEq, Int.reduceSub, Int.reduceAdd, Int.reduceMul, Int.reduceNeg, Int.reduceToNat, Nat.reduceMul, Nat.reduceBEq, ren1_locm, loc_tips, locT_eq, ren1_out, outAcc_snd] <;> rfl, ?_, ?_, fun x en s hq => ?_⟩
      · dsimp only; refine ⟨by omega, by simp; omega⟩
      · dsimp only; omega
      · simpa using hq
    · rw [if_neg p]
      simp only [go_sem, reduceIte, Nat.reduceEqDiff, Nat.reduceAdd, Nat.reduceSub, Nat.reduceLeDiff, Nat.reduceLT, reduceCtorEq, Int.reduceLT, Int.reduceLE, Int.reduceEq, Int.reduceBEq, Int.reduceSub, Int.reduceAdd, Int.reduceMul, Int.reduceNeg, Int.reduceToNat, Nat.reduceMul, Nat.reduceBEq, index_rsl_if, setm, make_ints, condK_dec, wantK_dec, not_dec, and_dec, or_dec, seqK_ite, seqK_none, blockK_ite, blockK_none, opsK_ite, opsK_none, stepK_ite, stepK_none, bodyK_ite, bodyK_none, resK_ite, resK_none, leaveK_ite, leaveK_none, only_ite, only_none, bind_ite, gives_some, gives_none, gives_ite, then_normal, then_ret, then_exit, then_none, then_ite, Option.bind_none, Bool.not_eq_true', decide_eq_false_iff_not, Bool.and_eq_true, Bool.or_eq_true, Option.some.injEq, Int.not_lt, Int.not_le, lp37_0, hx, hy, hlt, hs, p]
      refine ⟨(i + 1, o1), by simp only [go_sem, reduceIte, Nat.reduceEqDiff, Nat.reduceAdd, Nat.reduceSub, Nat.reduceLeDiff, Nat.reduceLT, reduceCtorEq, Int.reduceLT, Int.reduceLE, Int.reduceEq, Int.reduceBEq, Int.reduceSub, Int.reduceAdd, Int.reduceMul, Int.reduceNeg, Int.reduceToNat, Nat.reduceMul, Nat.reduceBEq, ren1_locm, loc_tips, locT_eq, ren1_out, outAcc_snd] <;> rfl, ?_, ?_, fun x en s hq => ?_⟩
      · dsimp only; omega
      · dsimp only; omega
      · exact hq
  · have hz : (ps.zip s0).drop i = [] := List.drop_eq_nil_of_le (by rw [List.length_zip]; omega)
    rw [hz, onesL_nil, List.append_nil]
    have hlt : ((i : Int) < (ps.length : Int)) = False := eq_false (by omega)
    simp only [go_sem, reduceIte, Nat.reduceEqDiff, Nat.reduceAdd, Nat.reduceSub, Nat.reduceLeDiff, Nat.reduceLT, reduceCtorEq, Int.reduceLT, Int.reduceLE, Int.reduceEq, Int.reduceBEq, Int.reduceSub, Int.reduceAdd, Int.reduceMul, Int.reduceNeg, Int.reduceToNat, Nat.reduceMul, Nat.reduceBEq, index_rsl_if, setm, make_ints, condK_dec, wantK_dec, not_dec, and_dec, or_dec, seqK_ite, seqK_none, blockK_ite, blockK_none, opsK_ite, opsK_none, stepK_ite, stepK_none, bodyK_ite, bodyK_none, resK_ite, resK_none, leaveK_ite, leaveK_none, only_ite, only_none, bind_ite, gives_some, gives_none, gives_ite, then_normal, then_ret, then_exit, then_none, then_ite, Option.bind_none, Bool.not_eq_true', decide_eq_false_iff_not, Bool.and_eq_true, Bool.or_eq_true, Option.some.injEq, Int.not_lt, Int.not_le, lp37_0, hlt]

theorem fin_r (st : St) (k : Nat) (rows : List (List Int)) : fin st (rAV k rows) = sl 1 true (rows.map rwAV) := by
  unfold rAV
  by_cases h : rows = []
  · subst h; rfl
  · rw [if_neg h, sl_ne (by simpa using h)]; rfl
attribute [local go_sem] fin_r
def rgv (n : Int) (ps : List (Int × Int)) : List (List Int) × Int := if chk n ps = 0 then (ringsP n.toNat (advL (onesR n.toNat ps)), 0) else ([], chk n ps)
theorem onesL_in {ps : List (Int × Int)} {s : List Int} : ∀ p ∈ onesL (ps.zip s), p ∈ ps := by
  intro p hp
  unfold onesL at hp
  obtain ⟨e, he, rfl⟩ := List.mem_map.1 hp
  exact (List.of_mem_zip (List.mem_filter.1 he).1).1

theorem c37 (nl : Bool) (n : Int) (ps : List (Int × Int)) (st : St) : run L 37 [bkAV nl n ps] st = some (.tup [sl 1 true ((rgv n ps).1.map rwAV), I (rgv n ps).2], st) := by
  rw [run_pure (fn := ir37) rfl rfl]
  have h22 := fun st => c22 nl n ps st
  unfold rgv
  by_cases h : chk n ps = 0
  · obtain ⟨h1, h2, h3, h4, h5⟩ := chk_zero h
    obtain ⟨k, rfl⟩ := Int.eq_ofNat_of_zero_le (show 0 ≤ n by omega)
    obtain ⟨n2, h87⟩ := c87 nl k (by omega) (by omega) ps h3 h4 h5 (chk_nodup h)
    have hl := (sharesR_len k ps).1
    rw [if_pos h]
    simp only [Int.toNat_natCast]
    have h7o : ∀ p ∈ onesR k ps, okP p := fun p hp => h5 p (onesL_in p hp)
    have hol : (onesR k ps).length ≤ 10 := by
      have h6 := onesL_len (ps.zip (sharesR k ps))
      rw [List.length_zip] at h6
      unfold onesR; omega
    have h89 : ∀ st, run L 89 [.agg [I k, outAV (onesR k ps)]] st = some (.agg ((advL (onesR k ps)).map U), st) := fun st => by
      rw [← c89 true k (onesR k ps) (by omega) h7o st]
      exact run_args (fn := ir89) rfl rfl st (by simp only [pubs, pub, pub_out, pub_sl])
    have hal := advL_len h7o
    have has := advL_small h7o
    have hput : putCells z7 0 ((advL (onesR k ps)).map U) = (advL (onesR k ps)).map U ∧ ((advL (onesR k ps)).map U).all storable = true := by
      obtain ⟨a, b, c, d, f, g, k, h6⟩ := len_seven hal
      rw [h6]
      exact ⟨rfl, rfl⟩
    have hz : z7 = [.v (.int .u64 0), .v (.int .u64 0), .v (.int .u64 0), .v (.int .u64 0), .v (.int .u64 0), .v (.int .u64 0), .v (.int .u64 0)] := rfl
    rw [hz] at hput
    have hro := fun T acc => ren1_o (Nat.le_refl (outT (onesR k ps)).length) T acc
    simp only [ir37, go_sem, reduceIte, Nat.reduceEqDiff, Nat.reduceAdd, Nat.reduceSub, Nat.reduceLeDiff, Nat.reduceLT, reduceCtorEq, Int.reduceLT, Int.reduceLE, Int.reduceEq, Int.reduceBEq, Int.reduceSub, Int.reduceAdd, Int.reduceMul, Int.reduceNeg, Int.reduceToNat, Nat.reduceMul, Nat.reduceBEq, h22, h, h87, List.length_map, hl]
    generalize hg : lim (headed pure (run L) true _ lp37_0 _ _) _ _ = o
    obtain ⟨x, en, s, rfl, h2⟩ : ∃ x en s, o = some (x, en, s) ∧ _ := by rw [← hg]; exact loop37_0 nl n2 k ps h3 (sharesR k ps) hl 0 [] ⟨by omega, by simp⟩ _ _ (by simp only [go_sem, reduceIte, Nat.reduceEqDiff, Nat.reduceAdd, Nat.reduceSub, Nat.reduceLeDiff, Nat.reduceLT, reduceCtorEq, Int.reduceLT, Int.reduceLE, Int.reduceEq, Int.reduceBEq, Int.reduceSub, Int.reduceAdd, Int.reduceMul, Int.reduceNeg, Int.reduceToNat, Nat.reduceMul, Nat.reduceBEq, show outAV [] = .v (.slice none 0 0) from rfl, show outT [] = [] from rfl, ren1_out, outAcc_snd, Int.natCast_zero] <;> rfl)
    clear hg
    rw [List.drop_zero, List.nil_append] at h2
    obtain ⟨rfl, e1, e5, rfl⟩ := h2
    have hones : onesL (ps.zip (sharesR k ps)) = onesR k ps := rfl
    rw [hones]
    generalize onesR k ps = o1 at *
    generalize advL o1 = m at *
    simp only [go_sem, reduceIte, Nat.reduceEqDiff, Nat.reduceAdd, Nat.reduceSub, Nat.reduceLeDiff, Nat.reduceLT, reduceCtorEq, Int.reduceLT, Int.reduceLE, Int.reduceEq, Int.reduceBEq, Int.reduceSub, Int.reduceAdd, Int.reduceMul, Int.reduceNeg, Int.reduceToNat, Nat.reduceMul, Nat.reduceBEq, e1, e5, h89, hput.1, hput.2, hal, List.length_map]
    generalize hg : lim (headed pure (run L) true _ lp37_2 _ _) _ _ = o
    obtain ⟨x, en, s, rfl, h2⟩ : ∃ x en s, o = some (x, en, s) ∧ _ := by rw [← hg]; exact loop37_2 nl k (by omega) ps o1 m has hal _ rfl 0 0 [] ⟨by omega, by omega, by simp⟩ _ _ (by simp only [go_sem, reduceIte, Nat.reduceEqDiff, Nat.reduceAdd, Nat.reduceSub, Nat.reduceLeDiff, Nat.reduceLT, reduceCtorEq, Int.reduceLT, Int.reduceLE, Int.reduceEq, Int.reduceBEq, Int.reduceSub, Int.reduceAdd, Int.reduceMul, Int.reduceNeg, Int.reduceToNat, Nat.reduceMul, Nat.reduceBEq, hro, show rAV (outT o1).length [] = .v (.slice none 0 0) from rfl, show rT [] = [] from rfl, List.append_nil, List.take_length, okRefsU, renCellsU, Int.natCast_zero] <;> rfl)
    clear hg
    rw [Nat.sub_zero, ← List.range_eq_range'] at h2
    obtain ⟨rfl, e10, rfl⟩ := h2
    have hring : ((List.range k).foldl (ringP m) (0, [])).2 = ringsP k m := rfl
    rw [hring] at e10
    simp only [go_sem, reduceIte, Nat.reduceEqDiff, Nat.reduceAdd, Nat.reduceSub, Nat.reduceLeDiff, Nat.reduceLT, reduceCtorEq, Int.reduceLT, Int.reduceLE, Int.reduceEq, Int.reduceBEq, Int.reduceSub, Int.reduceAdd, Int.reduceMul, Int.reduceNeg, Int.reduceToNat, Nat.reduceMul, Nat.reduceBEq, e10]
  · rw [if_neg h]
    simp only [ir37, go_sem, reduceIte, Nat.reduceEqDiff, Nat.reduceAdd, Nat.reduceSub, Nat.reduceLeDiff, Nat.reduceLT, reduceCtorEq, Int.reduceLT, Int.reduceLE, Int.reduceEq, Int.reduceBEq, Int.reduceSub, Int.reduceAdd, Int.reduceMul, Int.reduceNeg, Int.reduceToNat, Nat.reduceMul, Nat.reduceBEq, h22, h]
    rfl


attribute [local go_sem] okRef_l fin_l
/-! ### the rings, by the reference -/
def joinB (os : List (Int × Int)) (a b : Int) : Bool := decide ((min a b, max a b) ∈ os)
def lastL (b : List Int) : Int := b.getD (b.length - 1) 0
def rgHd (os : List (Int × Int)) (b : List Int) : List (List Int) := if 2 < b.length ∧ b.getD 1 0 < lastL b ∧ joinB os (lastL b) (b.getD 0 0) = true then [b] else []
def rgF (n : Nat) (os : List (Int × Int)) : Nat → List Int → List (List Int)
  | 0, b => rgHd os b
  | k + 1, b => rgHd os b ++ (List.range' ((b.getD 0 0).toNat + 1) (n - ((b.getD 0 0).toNat + 1))).flatMap fun (x : Nat) => if (x : Int) ∉ b ∧ joinB os (lastL b) x = true then rgF n os k (b ++ [(x : Int)]) else []
/-- What comes of the next ones from x on. -/
def rgN (n : Nat) (os : List (Int × Int)) (k : Nat) (b : List Int) (x : Nat) : List (List Int) := (List.range' x (n - x)).flatMap fun (x : Nat) => if (x : Int) ∉ b ∧ joinB os (lastL b) x = true then rgF n os k (b ++ [(x : Int)]) else []
theorem rgN_step (n : Nat) (os : List (Int × Int)) (k : Nat) (b : List Int) (x : Nat) (h : x < n) : rgN n os k b x = (if (x : Int) ∉ b ∧ joinB os (lastL b) x = true then rgF n os k (b ++ [(x : Int)]) else []) ++ rgN n os k b (x + 1) := by
  unfold rgN
  rw [show n - x = (n - (x + 1)) + 1 by omega, List.range'_succ, List.flatMap_cons]
theorem rgN_end (n : Nat) (os : List (Int × Int)) (k : Nat) (b : List Int) (x : Nat) (h : n ≤ x) : rgN n os k b x = [] := by
  unfold rgN; rw [show n - x = 0 by omega]; rfl
theorem flat_len {α β : Type} (f : α → List β) (B : Nat) : ∀ l : List α, (∀ a ∈ l, (f a).length ≤ B) → (l.flatMap f).length ≤ l.length * B
  | [], _ => by simp
  | a :: l, h => by
    have h1 := h a (by simp)
    have h2 := flat_len f B l (fun x hx => h x (by simp [hx]))
    rw [List.flatMap_cons, List.length_append, List.length_cons, Nat.add_mul]
    omega
def bd6 : Nat → Nat
  | 0 => 1
  | k + 1 => 1 + 6 * bd6 k
theorem rgF_len {n : Nat} (hn : n ≤ 7) (os : List (Int × Int)) : ∀ k b, (rgF n os k b).length ≤ bd6 k
  | 0, b => by
    simp only [rgF, rgHd, bd6]; split <;> simp
  | k + 1, b => by
    simp only [rgF, bd6]
    have h1 : (rgHd os b).length ≤ 1 := by unfold rgHd; split <;> simp
    have h2 := flat_len (fun (x : Nat) => if (x : Int) ∉ b ∧ joinB os (lastL b) x = true then rgF n os k (b ++ [(x : Int)]) else []) (bd6 k) (List.range' ((b.getD 0 0).toNat + 1) (n - ((b.getD 0 0).toNat + 1))) (by
      intro x _
      split
      · exact rgF_len hn os k _
      · simp)
    have h3 : (List.range' ((b.getD 0 0).toNat + 1) (n - ((b.getD 0 0).toNat + 1))).length ≤ 6 := by rw [List.length_range']; omega
    have h4 := Nat.mul_le_mul_right (bd6 k) h3
    rw [List.length_append]
    omega
theorem bd6_le : ∀ k, k ≤ 6 → bd6 k ≤ 55987 := by decide

theorem ren1_lh {th : Nat} {o : List (List Int)} (h : th = 0 ∨ th = 1 ∧ 1 ≤ o.length) (T : List Nat) : (ren1 th (lT o ++ T) [] (lAV o)).1 = lAV o ∧ (lT o ++ T).take th ++ ((ren1 th (lT o ++ T) [] (lAV o)).2).map (fun x => x.2) = lT o := by
  rcases h with rfl | ⟨rfl, h⟩
  · have := ren1_l o T
    rw [List.take_zero, List.nil_append]; exact this
  · have h0 : ¬ (o.length = 0) := by omega
    unfold lAV lT loc locT
    simp [h0, ren1]
theorem ren1_lh0 {th : Nat} {o : List (List Int)} (h : th = 0 ∨ th = 1 ∧ 1 ≤ o.length) : (ren1 th (lT o) [] (lAV o)).1 = lAV o ∧ (lT o).take th ++ ((ren1 th (lT o) [] (lAV o)).2).map (fun x => x.2) = lT o := by
  have := ren1_lh h []
  rwa [List.append_nil] at this
theorem append_lh {th : Nat} (o G : List (List Int)) (h0 : th = 0 ∨ th = 1 ∧ 1 ≤ o.length) (h : o.length + G.length ≤ 100000) (T : List Nat) : ∃ new T', (∀ S, appendAV 1 (lAV o) (G.map listAV) ⟨S, lT o ++ T⟩ = some (new, ⟨S, T'⟩)) ∧ (∀ n, okRef n new = true) ∧ (ren1 th T' [] new).1 = lAV (o ++ G) ∧ T'.take th ++ ((ren1 th T' [] new).2).map (fun x => x.2) = lT (o ++ G) := by
  rcases h0 with rfl | ⟨rfl, h1⟩
  · obtain ⟨new, T', a, b, c, d⟩ := append_lm o G h T
    exact ⟨new, T', a, b, c, by rw [List.take_zero, List.nil_append]; exact d⟩
  · cases G with
    | nil =>
      refine ⟨lAV o, lT o ++ T, fun S => append_l0 o _, fun n => okRef_l n o, ?_⟩
      rw [List.append_nil]
      exact ren1_lh (.inr ⟨rfl, h1⟩) T
    | cons g r =>
      have hm : o.length + (r.length + 1) ≤ maxGrow := by unfold maxGrow; simp only [List.length_cons] at h; omega
      cases o with
      | nil => simp at h1
      | cons x o =>
        refine ⟨.lst (.own 0 (o.length + 1 + (r.length + 1))) 1 ((x :: o).map listAV ++ (g :: r).map listAV), (o.length + 1 + (r.length + 1)) :: T, fun S => ?_, fun n => rfl, ?_⟩
        · have hm' : o.length + 1 + (r.length + 1) ≤ maxGrow := by simpa using hm
          simp [lAV, lT, loc, locT, appendAV, hm']
        · simp [lAV, lT, loc, locT, ren1]; omega

set_option maxHeartbeats 1000000 in
theorem loop91 (nl : Bool) (n : Nat) (hn : n ≤ 7) (os : List (Int × Int)) (hlen : os.length < 1000000) (b : List Int) (hb1 : 1 ≤ b.length) (hb2 : b.length ≤ 20) (k : Nat) (hrec : ∀ x : Nat, x < n → (x : Int) ∉ b → ∀ st, run L 91 [I n, sl 2 nl (os.map prAV), sl 1 false ((b ++ [(x : Int)]).map I)] st = some (sl 1 true ((rgF n os k (b ++ [(x : Int)])).map listAV), st)) (th : Nat) (x : Nat) (out : List (List Int)) (hok : x ≤ n ∧ out.length + (rgN n os k b x).length ≤ 60000 ∧ (th = 0 ∨ th = 1 ∧ 1 ≤ out.length)) (env : Env) (st : St)
    (hg : gcAV true 0 th (canon env [0, 1, 2, 7, 8, 9]) st = ([(0, I n), (1, sl 2 nl (os.map prAV)), (2, sl 1 false (b.map I)), (7, lAV out), (8, I (lastL b)), (9, I x)], ⟨[], lT out⟩)) :
    ∃ x_1 en s, lim (headed pure (run L) true [0, 1, 2, 7, 8, 9] lp91_0 0 th) env st = some (x_1, en, s) ∧ (x_1 = .exit 0 ∧ en.get 7 = lAV (out ++ rgN n os k b x)) := by
  refine loop_wp (α := Nat × List (List Int)) (fun ⟨x, out⟩ => n - x) (fun ⟨x, out⟩ => x ≤ n ∧ out.length + (rgN n os k b x).length ≤ 60000 ∧ (th = 0 ∨ th = 1 ∧ 1 ≤ out.length)) (fun ⟨x, out⟩ => ([(0, I n), (1, sl 2 nl (os.map prAV)), (2, sl 1 false (b.map I)), (7, lAV out), (8, I (lastL b)), (9, I x)], ⟨[], lT out⟩)) (fun ⟨x, out⟩ x_1 en s => x_1 = .exit 0 ∧ en.get 7 = lAV (out ++ rgN n os k b x)) (fun ⟨x, out⟩ hok => ?_) ⟨x, out⟩ hok env st hg
  simp only at hok
  obtain ⟨hv, hok, hth⟩ := hok
  dsimp only at hv hok hth ⊢
  by_cases q : x < n
  · have q' : ((x : Int) < (n : Int)) = True := eq_true (by omega)
    have hs := succ64 x (by omega)
    have hst := rgN_step n os k b x q
    have h80 := fun st => c80 false b (by omega) x st
    have h78 := fun st => c78 nl os hlen (lastL b) x st
    have hj : decide ((min (lastL b) (x : Int), max (lastL b) (x : Int)) ∈ os) = joinB os (lastL b) x := rfl
    have hmeas : n - (x + 1) < n - x := by omega
    obtain ⟨r1, r2⟩ := ren1_lh0 hth
    rw [hj] at h78
    by_cases p1 : (x : Int) ∈ b
    · rw [if_neg (by simp [p1]), List.nil_append] at hst
      rw [hst] at hok ⊢
      simp only [go_sem, reduceIte, Nat.reduceEqDiff, Nat.reduceAdd, Nat.reduceSub, Nat.reduceLeDiff, Nat.reduceLT, reduceCtorEq, Int.reduceLT, Int.reduceLE, Int.reduceEq, Int.reduceBEq, Int.reduceSub, Int.reduceAdd, Int.reduceMul, Int.reduceNeg, Int.reduceToNat, Nat.reduceMul, Nat.reduceBEq, index_rsl_if, setm, make_ints, condK_dec, wantK_dec, not_dec, and_dec, or_dec, seqK_ite, seqK_none, blockK_ite, blockK_none, opsK_ite, opsK_none, stepK_ite, stepK_none, bodyK_ite, bodyK_none, resK_ite, resK_none, leaveK_ite, leaveK_none, only_ite, only_none, bind_ite, gives_some, gives_none, gives_ite, then_normal, then_ret, then_exit, then_none, then_ite, Option.bind_none, Bool.not_eq_true', decide_eq_false_iff_not, Bool.and_eq_true, Bool.or_eq_true, Option.some.injEq, Int.not_lt, Int.not_le, lp91_0, q', h80, p1, hs]
      refine ⟨(x + 1, out), by simp only [go_sem, reduceIte, Nat.reduceEqDiff, Nat.reduceAdd, Nat.reduceSub, Nat.reduceLeDiff, Nat.reduceLT, reduceCtorEq, Int.reduceLT, Int.reduceLE, Int.reduceEq, Int.reduceBEq, Int.reduceSub, Int.reduceAdd, Int.reduceMul, Int.reduceNeg, Int.reduceToNat, Nat.reduceMul, Nat.reduceBEq, ren1_locm, loc_tips, locT_eq, r1, r2] <;> rfl, ?_, ?_, fun x en s hq => ?_⟩
      · dsimp only; exact ⟨by omega, hok, hth⟩
      · exact hmeas
      · exact hq
    · cases hj2 : joinB os (lastL b) x
      · rw [hj2, if_neg (by simp), List.nil_append] at hst
        rw [hst] at hok ⊢
        rw [hj2] at h78
        simp only [go_sem, reduceIte, Nat.reduceEqDiff, Nat.reduceAdd, Nat.reduceSub, Nat.reduceLeDiff, Nat.reduceLT, reduceCtorEq, Int.reduceLT, Int.reduceLE, Int.reduceEq, Int.reduceBEq, Int.reduceSub, Int.reduceAdd, Int.reduceMul, Int.reduceNeg, Int.reduceToNat, Nat.reduceMul, Nat.reduceBEq, index_rsl_if, setm, make_ints, condK_dec, wantK_dec, not_dec, and_dec, or_dec, seqK_ite, seqK_none, blockK_ite, blockK_none, opsK_ite, opsK_none, stepK_ite, stepK_none, bodyK_ite, bodyK_none, resK_ite, resK_none, leaveK_ite, leaveK_none, only_ite, only_none, bind_ite, gives_some, gives_none, gives_ite, then_normal, then_ret, then_exit, then_none, then_ite, Option.bind_none, Bool.not_eq_true', decide_eq_false_iff_not, Bool.and_eq_true, Bool.or_eq_true, Option.some.injEq, Int.not_lt, Int.not_le, lp91_0, q', h80, p1, h78, hs]
        refine ⟨(x + 1, out), by simp only [go_sem, reduceIte, Nat.reduceEqDiff, Nat.reduceAdd, Nat.reduceSub, Nat.reduceLeDiff, Nat.reduceLT, reduceCtorEq, Int.reduceLT, Int.reduceLE, Int.reduceEq, Int.reduceBEq, Int.reduceSub, Int.reduceAdd, Int.reduceMul, Int.reduceNeg, Int.reduceToNat, Nat.reduceMul, Nat.reduceBEq, ren1_locm, loc_tips, locT_eq, r1, r2] <;> rfl, ?_, ?_, fun x en s hq => ?_⟩
        · dsimp only; exact ⟨by omega, hok, hth⟩
        · exact hmeas
        · exact hq
      · rw [if_pos ⟨p1, hj2⟩] at hst
        rw [hj2] at h78
        rw [hst] at hok ⊢
        rw [List.length_append] at hok
        have h91 : ∀ g st, run L 91 [I n, sl 2 nl (os.map prAV), .lst g 1 ((b ++ [(x : Int)]).map I)] st = some (sl 1 true ((rgF n os k (b ++ [(x : Int)])).map listAV), st) := by
          intro g st
          rw [← hrec x q p1 st]
          exact run_args (fn := ir91) rfl rfl st (by simp only [pubs, pub, pub_sl]; rw [sl_false])
        generalize rgF n os k (b ++ [(x : Int)]) = G at *
        obtain ⟨new, T', k1, k2, k3, k4⟩ := append_lh out G hth (by omega) [b.length + 1]
        have hok' : x + 1 ≤ n ∧ (out ++ G).length + (rgN n os k b (x + 1)).length ≤ 60000 ∧ (th = 0 ∨ th = 1 ∧ 1 ≤ (out ++ G).length) := by
          rw [List.length_append]; exact ⟨by omega, by omega, by omega⟩
        rw [← List.append_assoc]
        have hbm : b.map I ≠ [] := by intro e; have := congrArg List.length e; simp at this; subst this; simp at hb1
        have h33 := fun st => copy_some (z := 1) hbm (by simp [maxGrow]; omega) st
        have h36 : ∀ s T, appendAV 1 (.lst (.own T.length b.length) 1 (b.map I)) [I (x : Int)] ⟨s, T ++ [b.length]⟩ = some (.lst (.own T.length (b.length + 1)) 1 ((b ++ [(x : Int)]).map I), ⟨s, T ++ [b.length + 1]⟩) := by
          intro s T
          have := copy_one (z := 1) (xs := b.map I) (I (x : Int)) s T (by simp [maxGrow]; omega)
          simpa using this
        simp only [go_sem, reduceIte, Nat.reduceEqDiff, Nat.reduceAdd, Nat.reduceSub, Nat.reduceLeDiff, Nat.reduceLT, reduceCtorEq, Int.reduceLT, Int.reduceLE, Int.reduceEq, Int.reduceBEq, Int.reduceSub, Int.reduceAdd, Int.reduceMul, Int.reduceNeg, Int.reduceToNat, Nat.reduceMul, Nat.reduceBEq, index_rsl_if, setm, make_ints, condK_dec, wantK_dec, not_dec, and_dec, or_dec, seqK_ite, seqK_none, blockK_ite, blockK_none, opsK_ite, opsK_none, stepK_ite, stepK_none, bodyK_ite, bodyK_none, resK_ite, resK_none, leaveK_ite, leaveK_none, only_ite, only_none, bind_ite, gives_some, gives_none, gives_ite, then_normal, then_ret, then_exit, then_none, then_ite, Option.bind_none, Bool.not_eq_true', decide_eq_false_iff_not, Bool.and_eq_true, Bool.or_eq_true, Option.some.injEq, Int.not_lt, Int.not_le, lp91_0, q', h80, p1, h78, h33, h36, h91, hs, k1, List.length_map]
        refine ⟨(x + 1, out ++ G), by simp only [go_sem, reduceIte, Nat.reduceEqDiff, Nat.reduceAdd, Nat.reduceSub, Nat.reduceLeDiff, Nat.reduceLT, reduceCtorEq, Int.reduceLT, Int.reduceLE, Int.reduceEq, Int.reduceBEq, Int.reduceSub, Int.reduceAdd, Int.reduceMul, Int.reduceNeg, Int.reduceToNat, Nat.reduceMul, Nat.reduceBEq, ren1_locm, loc_tips, locT_eq, k2, k3, k4] <;> rfl, ?_, ?_, fun x en s hq => ?_⟩
        · exact hok'
        · exact hmeas
        · exact hq
  · have hz := rgN_end n os k b x (by omega)
    rw [hz, List.append_nil]
    simp only [go_sem, reduceIte, Nat.reduceEqDiff, Nat.reduceAdd, Nat.reduceSub, Nat.reduceLeDiff, Nat.reduceLT, reduceCtorEq, Int.reduceLT, Int.reduceLE, Int.reduceEq, Int.reduceBEq, Int.reduceSub, Int.reduceAdd, Int.reduceMul, Int.reduceNeg, Int.reduceToNat, Nat.reduceMul, Nat.reduceBEq, index_rsl_if, setm, make_ints, condK_dec, wantK_dec, not_dec, and_dec, or_dec, seqK_ite, seqK_none, blockK_ite, blockK_none, opsK_ite, opsK_none, stepK_ite, stepK_none, bodyK_ite, bodyK_none, resK_ite, resK_none, leaveK_ite, leaveK_none, only_ite, only_none, bind_ite, gives_some, gives_none, gives_ite, then_normal, then_ret, then_exit, then_none, then_ite, Option.bind_none, Bool.not_eq_true', decide_eq_false_iff_not, Bool.and_eq_true, Bool.or_eq_true, Option.some.injEq, Int.not_lt, Int.not_le, lp91_0, show ((x : Int) < (n : Int)) = False from eq_false (by omega)]

theorem append_first (x : List Int) (S : List (List AV)) : appendAV 1 (.v (.slice none 0 0)) [listAV x] ⟨S, []⟩ = some (lAV [x], ⟨S, lT [x]⟩) := by
  simp [appendAV, maxGrow, lAV, lT, loc, locT]
theorem lvl91 (nl : Bool) (n : Nat) (hn : n ≤ 7) (os : List (Int × Int)) (hlen : os.length < 1000000) (b : List Int) (hb1 : 1 ≤ b.length) (hb2 : b.length ≤ 20) (hbb : ∀ y ∈ b, 0 ≤ y ∧ y < (n : Int)) (k : Nat)
    (hrec : ∀ x : Nat, x < n → (x : Int) ∉ b → ∀ st, run L 91 [I n, sl 2 nl (os.map prAV), sl 1 false ((b ++ [(x : Int)]).map I)] st = some (sl 1 true ((rgF n os k (b ++ [(x : Int)])).map listAV), st))
    (hbd : 1 + (rgN n os k b ((b.getD 0 0).toNat + 1)).length ≤ 60000) (st : St) :
    run L 91 [I n, sl 2 nl (os.map prAV), sl 1 false (b.map I)] st = some (sl 1 true ((rgHd os b ++ rgN n os k b ((b.getD 0 0).toNat + 1)).map listAV), st) := by
  rw [run_pure (fn := ir91) rfl rfl]
  have h0 := index_at false b 0 (by omega) (by omega)
  have hbd0 : 0 ≤ b.getD 0 0 ∧ b.getD 0 0 < (n : Int) := by
    rw [List.getD_eq_getElem?_getD, List.getElem?_eq_getElem (by omega)]
    exact hbb _ (List.getElem_mem _)
  have hwl : IntKind.i64.wrap ((b.length : Int) - 1) = (b.length : Int) - 1 := by rw [wrap64] <;> omega
  have hl := index_at false b ((b.length : Int) - 1) (by omega) (by omega)
  rw [show ((b.length : Int) - 1).toNat = b.length - 1 from by omega] at hl
  have hla : b.getD (b.length - 1) 0 = lastL b := rfl
  rw [hla] at hl
  rw [Int.toNat_zero] at h0
  have hwf : IntKind.i64.wrap (b.getD 0 0 + 1) = (((b.getD 0 0).toNat + 1 : Nat) : Int) := by rw [wrap64] <;> omega
  have hh78 := fun st => c78 nl os hlen (lastL b) (b.getD 0 0) st
  have hj : decide ((min (lastL b) (b.getD 0 0), max (lastL b) (b.getD 0 0)) ∈ os) = joinB os (lastL b) (b.getD 0 0) := rfl
  rw [hj] at hh78
  have hE : sl 1 false (b.map I) = listAV b := rfl
  have hr0 := ren1_l0 []
  have hr1 := ren1_lh0 (th := (lT [b]).length) (o := [b]) (.inr ⟨rfl, by simp⟩)
  have haf := append_first b []
  have hB0 : ([] : List (List Int)).length + (rgN n os k b ((b.getD 0 0).toNat + 1)).length ≤ 60000 := by rw [List.length_nil]; omega
  have hB1 : [b].length + (rgN n os k b ((b.getD 0 0).toNat + 1)).length ≤ 60000 := hbd
  have hloop := fun (out : List (List Int)) (th : Nat) ho1 ho2 ho3 => loop91 nl n hn os hlen b hb1 hb2 k hrec th ((b.getD 0 0).toNat + 1) out ⟨ho1, ho2, ho3⟩
  unfold rgHd
  by_cases p1 : 2 < b.length
  · have h1 := index_at false b 1 (by omega) (by omega)
    rw [show ((1 : Int).toNat) = 1 from rfl] at h1
    have g1 : ((2 : Int) < (b.length : Int)) = True := eq_true (by omega)
    by_cases p2 : b.getD 1 0 < lastL b
    · cases p3 : joinB os (lastL b) (b.getD 0 0)
      · rw [if_neg (by simp)]
        rw [p3] at hh78
        simp only [ir91, go_sem, reduceIte, Nat.reduceEqDiff, Nat.reduceAdd, Nat.reduceSub, Nat.reduceLeDiff, Nat.reduceLT, reduceCtorEq, Int.reduceLT, Int.reduceLE, Int.reduceEq, Int.reduceBEq, Int.reduceSub, Int.reduceAdd, Int.reduceMul, Int.reduceNeg, Int.reduceToNat, Nat.reduceMul, Nat.reduceBEq, hwl, hl, h0, h1, g1, p2, hh78, hwf, List.length_map]
        generalize hg : lim (headed pure (run L) true _ lp91_0 _ _) _ _ = o
        obtain ⟨x, en, s, rfl, h2⟩ : ∃ x en s, o = some (x, en, s) ∧ _ := by rw [← hg]; exact hloop [] 0 (by omega) hB0 (.inl rfl) _ _ (by simp only [go_sem, reduceIte, Nat.reduceEqDiff, Nat.reduceAdd, Nat.reduceSub, Nat.reduceLeDiff, Nat.reduceLT, reduceCtorEq, Int.reduceLT, Int.reduceLE, Int.reduceEq, Int.reduceBEq, Int.reduceSub, Int.reduceAdd, Int.reduceMul, Int.reduceNeg, Int.reduceToNat, Nat.reduceMul, Nat.reduceBEq, l_start, lT_nil, hr0.1, hr0.2] <;> rfl)
        clear hg
        obtain ⟨rfl, h3⟩ := h2
        simp only [go_sem, reduceIte, Nat.reduceEqDiff, Nat.reduceAdd, Nat.reduceSub, Nat.reduceLeDiff, Nat.reduceLT, reduceCtorEq, Int.reduceLT, Int.reduceLE, Int.reduceEq, Int.reduceBEq, Int.reduceSub, Int.reduceAdd, Int.reduceMul, Int.reduceNeg, Int.reduceToNat, Nat.reduceMul, Nat.reduceBEq, h3]
      · rw [if_pos ⟨p1, p2, rfl⟩]
        rw [p3] at hh78
        simp only [ir91, go_sem, reduceIte, Nat.reduceEqDiff, Nat.reduceAdd, Nat.reduceSub, Nat.reduceLeDiff, Nat.reduceLT, reduceCtorEq, Int.reduceLT, Int.reduceLE, Int.reduceEq, Int.reduceBEq, Int.reduceSub, Int.reduceAdd, Int.reduceMul, Int.reduceNeg, Int.reduceToNat, Nat.reduceMul, Nat.reduceBEq, hwl, hl, h0, h1, g1, p2, hh78, hwf, List.length_map, hE, haf]
        generalize hg : lim (headed pure (run L) true _ lp91_0 _ _) _ _ = o
        obtain ⟨x, en, s, rfl, h2⟩ : ∃ x en s, o = some (x, en, s) ∧ _ := by rw [← hg]; exact hloop [b] (lT [b]).length (by omega) hB1 (.inr ⟨rfl, by simp⟩) _ _ (by simp only [go_sem, reduceIte, Nat.reduceEqDiff, Nat.reduceAdd, Nat.reduceSub, Nat.reduceLeDiff, Nat.reduceLT, reduceCtorEq, Int.reduceLT, Int.reduceLE, Int.reduceEq, Int.reduceBEq, Int.reduceSub, Int.reduceAdd, Int.reduceMul, Int.reduceNeg, Int.reduceToNat, Nat.reduceMul, Nat.reduceBEq, l_start, lT_nil, hE, hr1.1, hr1.2] <;> rfl)
        clear hg
        obtain ⟨rfl, h3⟩ := h2
        simp only [go_sem, reduceIte, Nat.reduceEqDiff, Nat.reduceAdd, Nat.reduceSub, Nat.reduceLeDiff, Nat.reduceLT, reduceCtorEq, Int.reduceLT, Int.reduceLE, Int.reduceEq, Int.reduceBEq, Int.reduceSub, Int.reduceAdd, Int.reduceMul, Int.reduceNeg, Int.reduceToNat, Nat.reduceMul, Nat.reduceBEq, h3]
    · rw [if_neg (fun hh => p2 hh.2.1)]
      simp only [ir91, go_sem, reduceIte, Nat.reduceEqDiff, Nat.reduceAdd, Nat.reduceSub, Nat.reduceLeDiff, Nat.reduceLT, reduceCtorEq, Int.reduceLT, Int.reduceLE, Int.reduceEq, Int.reduceBEq, Int.reduceSub, Int.reduceAdd, Int.reduceMul, Int.reduceNeg, Int.reduceToNat, Nat.reduceMul, Nat.reduceBEq, hwl, hl, h0, h1, g1, p2, hwf, List.length_map]
      generalize hg : lim (headed pure (run L) true _ lp91_0 _ _) _ _ = o
      obtain ⟨x, en, s, rfl, h2⟩ : ∃ x en s, o = some (x, en, s) ∧ _ := by rw [← hg]; exact hloop [] 0 (by omega) hB0 (.inl rfl) _ _ (by simp only [go_sem, reduceIte, Nat.reduceEqDiff, Nat.reduceAdd, Nat.reduceSub, Nat.reduceLeDiff, Nat.reduceLT, reduceCtorEq, Int.reduceLT, Int.reduceLE, Int.reduceEq, Int.reduceBEq, Int.reduceSub, Int.reduceAdd, Int.reduceMul, Int.reduceNeg, Int.reduceToNat, Nat.reduceMul, Nat.reduceBEq, l_start, lT_nil, hr0.1, hr0.2] <;> rfl)
      clear hg
      obtain ⟨rfl, h3⟩ := h2
      simp only [go_sem, reduceIte, Nat.reduceEqDiff, Nat.reduceAdd, Nat.reduceSub, Nat.reduceLeDiff, Nat.reduceLT, reduceCtorEq, Int.reduceLT, Int.reduceLE, Int.reduceEq, Int.reduceBEq, Int.reduceSub, Int.reduceAdd, Int.reduceMul, Int.reduceNeg, Int.reduceToNat, Nat.reduceMul, Nat.reduceBEq, h3]
  · rw [if_neg (fun hh => p1 hh.1)]
    have g1 : ((2 : Int) < (b.length : Int)) = False := eq_false (by omega)
    simp only [ir91, go_sem, reduceIte, Nat.reduceEqDiff, Nat.reduceAdd, Nat.reduceSub, Nat.reduceLeDiff, Nat.reduceLT, reduceCtorEq, Int.reduceLT, Int.reduceLE, Int.reduceEq, Int.reduceBEq, Int.reduceSub, Int.reduceAdd, Int.reduceMul, Int.reduceNeg, Int.reduceToNat, Nat.reduceMul, Nat.reduceBEq, hwl, hl, h0, g1, hwf, List.length_map]
    generalize hg : lim (headed pure (run L) true _ lp91_0 _ _) _ _ = o
    obtain ⟨x, en, s, rfl, h2⟩ : ∃ x en s, o = some (x, en, s) ∧ _ := by rw [← hg]; exact hloop [] 0 (by omega) hB0 (.inl rfl) _ _ (by simp only [go_sem, reduceIte, Nat.reduceEqDiff, Nat.reduceAdd, Nat.reduceSub, Nat.reduceLeDiff, Nat.reduceLT, reduceCtorEq, Int.reduceLT, Int.reduceLE, Int.reduceEq, Int.reduceBEq, Int.reduceSub, Int.reduceAdd, Int.reduceMul, Int.reduceNeg, Int.reduceToNat, Nat.reduceMul, Nat.reduceBEq, l_start, lT_nil, hr0.1, hr0.2] <;> rfl)
    clear hg
    obtain ⟨rfl, h3⟩ := h2
    simp only [go_sem, reduceIte, Nat.reduceEqDiff, Nat.reduceAdd, Nat.reduceSub, Nat.reduceLeDiff, Nat.reduceLT, reduceCtorEq, Int.reduceLT, Int.reduceLE, Int.reduceEq, Int.reduceBEq, Int.reduceSub, Int.reduceAdd, Int.reduceMul, Int.reduceNeg, Int.reduceToNat, Nat.reduceMul, Nat.reduceBEq, h3]

theorem filter_drop (n x : Nat) (b : List Int) (hx : x < n) (hxb : (x : Int) ∉ b) : ((List.range n).filter fun (z : Nat) => decide ((z : Int) ∉ b ++ [(x : Int)])).length < ((List.range n).filter fun (z : Nat) => decide ((z : Int) ∉ b)).length := by
  have key : ∀ l : List Nat, (l.filter fun (z : Nat) => decide ((z : Int) ∉ b ++ [(x : Int)])).length ≤ (l.filter fun (z : Nat) => decide ((z : Int) ∉ b)).length ∧ (x ∈ l → (l.filter fun (z : Nat) => decide ((z : Int) ∉ b ++ [(x : Int)])).length < (l.filter fun (z : Nat) => decide ((z : Int) ∉ b)).length) := by
    intro l
    induction l with
    | nil => simp
    | cons z l ih =>
      obtain ⟨i1, i2⟩ := ih
      by_cases hz : (z : Int) ∈ b
      · rw [List.filter_cons_of_neg (by simp [hz]), List.filter_cons_of_neg (by simp [hz])]
        refine ⟨i1, fun h => ?_⟩
        rcases List.mem_cons.1 h with rfl | h
        · exact absurd hz hxb
        · exact i2 h
      · by_cases e : z = x
        · subst e
          rw [List.filter_cons_of_neg (by simp), List.filter_cons_of_pos (by simp [hz]), List.length_cons]
          exact ⟨by omega, fun _ => by omega⟩
        · rw [List.filter_cons_of_pos (by simp [hz]; omega), List.filter_cons_of_pos (by simp [hz]), List.length_cons, List.length_cons]
          refine ⟨by omega, fun h => ?_⟩
          rcases List.mem_cons.1 h with h | h
          · exact absurd h.symm e
          · have := i2 h; omega
  exact (key _).2 (List.mem_range.2 hx)
theorem rgN_len {n : Nat} (hn : n ≤ 7) (os : List (Int × Int)) (k : Nat) (hk : k ≤ 6) (b : List Int) : 1 + (rgN n os k b ((b.getD 0 0).toNat + 1)).length ≤ 1 + 6 * bd6 k := by
  have h2 := flat_len (fun (x : Nat) => if (x : Int) ∉ b ∧ joinB os (lastL b) x = true then rgF n os k (b ++ [(x : Int)]) else []) (bd6 k) (List.range' ((b.getD 0 0).toNat + 1) (n - ((b.getD 0 0).toNat + 1))) (by
    intro x _
    split
    · exact rgF_len hn os k _
    · simp)
  have h3 : (List.range' ((b.getD 0 0).toNat + 1) (n - ((b.getD 0 0).toNat + 1))).length ≤ 6 := by rw [List.length_range']; omega
  have h4 := Nat.mul_le_mul_right (bd6 k) h3
  unfold rgN
  omega
theorem c91 (nl : Bool) (n : Nat) (hn : n ≤ 7) (os : List (Int × Int)) (hlen : os.length < 1000000) : ∀ (k : Nat) (b : List Int), k ≤ 6 → 1 ≤ b.length → b.length + k ≤ 20 → (∀ y ∈ b, 0 ≤ y ∧ y < (n : Int)) → ((List.range n).filter fun (x : Nat) => decide ((x : Int) ∉ b)).length ≤ k → ∀ st,
    run L 91 [I n, sl 2 nl (os.map prAV), sl 1 false (b.map I)] st = some (sl 1 true ((rgF n os k b).map listAV), st) := by
  intro k
  induction k with
  | zero =>
    intro b hk hb1 hbl hbb hf st
    have hall : ∀ x : Nat, x < n → (x : Int) ∈ b := by
      intro x hx
      apply Classical.byContradiction
      intro h
      have : x ∈ (List.range n).filter fun (x : Nat) => decide ((x : Int) ∉ b) := List.mem_filter.2 ⟨List.mem_range.2 hx, by simp [h]⟩
      have := List.length_pos_of_mem this
      omega
    have hz : rgN n os 0 b ((b.getD 0 0).toNat + 1) = [] := by
      unfold rgN
      rw [List.flatMap_eq_nil_iff]
      intro x hx
      rw [List.mem_range'_1] at hx
      rw [if_neg (fun h => h.1 (hall x (by omega)))]
    have := lvl91 nl n hn os hlen b hb1 (by omega) hbb 0 (fun x hx hxb => absurd (hall x hx) hxb) (by rw [hz]; simp) st
    rw [hz, List.append_nil] at this
    exact this
  | succ k ih =>
    intro b hk hb1 hbl hbb hf st
    have hrec : ∀ x : Nat, x < n → (x : Int) ∉ b → ∀ st, run L 91 [I n, sl 2 nl (os.map prAV), sl 1 false ((b ++ [(x : Int)]).map I)] st = some (sl 1 true ((rgF n os k (b ++ [(x : Int)])).map listAV), st) := by
      intro x hx hxb st
      refine ih (b ++ [(x : Int)]) (by omega) (by simp) (by simp; omega) ?_ ?_ st
      · intro y hy
        rcases List.mem_append.1 hy with hy | hy
        · exact hbb y hy
        · simp at hy; subst hy; omega
      · have := filter_drop n x b hx hxb
        omega
    have h1 := rgN_len hn os k (by omega) b
    have h2 := bd6_le (k + 1) hk
    rw [bd6] at h2
    exact lvl91 nl n hn os hlen b hb1 (by omega) hbb k hrec (by omega) st
/-- All rings, by the reference. -/
def rgsR (n : Nat) (os : List (Int × Int)) : List (List Int) := (List.range n).flatMap fun (a : Nat) => rgF n os 6 [(a : Int)]


/-! ### all graphs in which each article has no pair or two -/
def edges (n : Nat) : List (Nat × Nat) := (List.range n).flatMap fun a => ((List.range n).filter fun b => decide (a < b)).map fun b => (a, b)
def incD (d : List Nat) (e : Nat × Nat) : List Nat := (d.set e.1 (d.getD e.1 0 + 1)).set e.2 (d.getD e.2 0 + 1)
def addM (M : Nat) (e : Nat × Nat) : Nat := M ||| 2 ^ (7 * e.1 + e.2) ||| 2 ^ (7 * e.2 + e.1)
def mOf (M : Nat) : List Nat := (List.range 7).map fun a => (M >>> (7 * a)) % 128
/-- The number first, then what is asked of it. -/
def forceN (x : Nat) (f : Nat → Bool) : Bool := match x with
  | 0 => f 0
  | k + 1 => f (k + 1)
theorem forceN_eq (x : Nat) (f : Nat → Bool) : forceN x f = f x := by cases x <;> rfl
def leafM (P : List Nat → Bool) (M : Nat) : Bool := forceN (M % 128) fun a => forceN (M >>> 7 % 128) fun b => forceN (M >>> 14 % 128) fun c => forceN (M >>> 21 % 128) fun d => forceN (M >>> 28 % 128) fun e => forceN (M >>> 35 % 128) fun f => forceN (M >>> 42 % 128) fun g => P [a, b, c, d, e, f, g]
theorem leafM_eq (P : List Nat → Bool) (M : Nat) : leafM P M = P (mOf M) := by
  unfold leafM
  simp only [forceN_eq]
  rfl
def allSub (P : List Nat → Bool) : List (Nat × Nat) → List Nat → Nat → Bool
  | [], d, M => d.contains 1 || leafM P M
  | e :: E, d, M => allSub P E d M && (Nat.blt 1 (d.getD e.1 0) || (Nat.blt 1 (d.getD e.2 0) || forceN (addM M e) fun M => allSub P E (incD d e) M))
def touches (a : Nat) (e : Nat × Nat) : Bool := decide (a = e.1 ∨ a = e.2)
/-! ### the reference's rings, by masks -/
def Jm (m : List Nat) (a b : Nat) : Bool := (m.getD a 0).testBit b
def lastN (b : List Nat) : Nat := b.getD (b.length - 1) 0
/-- The number first, then what is made of it. -/
def forceA {α : Type} (x : Nat) (f : Nat → α) : α := match x with
  | 0 => f 0
  | k + 1 => f (k + 1)
theorem forceA_eq {α : Type} (x : Nat) (f : Nat → α) : forceA x f = f x := by cases x <;> rfl
/-- b begins at a, its last has the neighbours w. -/
def rgHJ (a l w : Nat) (b : List Nat) : List (List Nat) := bif w.testBit a && (Nat.blt 2 b.length && Nat.blt (b.getD 1 0) l) then [b] else []
def rgJ (n : Nat) (m : List Nat) : Nat → Nat → Nat → List Nat → List (List Nat)
  | 0, a, l, b => forceA (m.getD l 0) fun w => rgHJ a l w b
  | k + 1, a, l, b => forceA (m.getD l 0) fun w => rgHJ a l w b ++ (List.range' (a + 1) (n - (a + 1))).flatMap fun (x : Nat) => bif w.testBit x && !(b.contains x) then rgJ n m k a x (b ++ [x]) else []
def intL (b : List Nat) : List Int := b.map fun (a : Nat) => (a : Int)
def okG (n : Nat) (m : List Nat) : Bool := decide (ringsP n m = ((List.range n).flatMap fun a => rgJ n m 6 a a [a]).map intL)
theorem allG0 : allSub (okG 0) (edges 0) [0, 0, 0, 0, 0, 0, 0] 0 = true := by kernel_rfl
theorem allG1 : allSub (okG 1) (edges 1) [0, 0, 0, 0, 0, 0, 0] 0 = true := by kernel_rfl
theorem allG2 : allSub (okG 2) (edges 2) [0, 0, 0, 0, 0, 0, 0] 0 = true := by kernel_rfl
theorem allG3 : allSub (okG 3) (edges 3) [0, 0, 0, 0, 0, 0, 0] 0 = true := by kernel_rfl
theorem allG4 : allSub (okG 4) (edges 4) [0, 0, 0, 0, 0, 0, 0] 0 = true := by kernel_rfl
theorem allG5 : allSub (okG 5) (edges 5) [0, 0, 0, 0, 0, 0, 0] 0 = true := by kernel_rfl
theorem allG6 : allSub (okG 6) (edges 6) [0, 0, 0, 0, 0, 0, 0] 0 = true := by kernel_rfl
/-- What the first pairs lead to. -/
def states : List (Nat × Nat) → List Nat → Nat → List (List Nat × Nat)
  | [], d, M => [(d, M)]
  | e :: E, d, M => states E d M ++ (if Nat.blt 1 (d.getD e.1 0) = true ∨ Nat.blt 1 (d.getD e.2 0) = true then [] else states E (incD d e) (addM M e))
theorem allSub_split {P : List Nat → Bool} {E2 : List (Nat × Nat)} : ∀ (E1 : List (Nat × Nat)) (d : List Nat) (M : Nat), (∀ s ∈ states E1 d M, allSub P E2 s.1 s.2 = true) → allSub P (E1 ++ E2) d M = true
  | [], d, M, h => h (d, M) (by simp [states])
  | e :: E, d, M, h => by
    simp only [states, List.mem_append] at h
    simp only [List.cons_append, allSub, forceN_eq, Bool.and_eq_true, Bool.or_eq_true]
    refine ⟨allSub_split E d M (fun s hs => h s (.inl hs)), ?_⟩
    by_cases c : Nat.blt 1 (d.getD e.1 0) = true ∨ Nat.blt 1 (d.getD e.2 0) = true
    · rcases c with c | c
      · exact .inl c
      · exact .inr (.inl c)
    · exact .inr (.inr (allSub_split E (incD d e) (addM M e) (fun s hs => h s (.inr (by rw [if_neg c]; exact hs)))))
def E7a : List (Nat × Nat) := [(0, 1), (0, 2), (0, 3), (0, 4), (0, 5), (0, 6)]
def E7b : List (Nat × Nat) := [(1, 2), (1, 3), (1, 4), (1, 5), (1, 6), (2, 3), (2, 4), (2, 5), (2, 6), (3, 4), (3, 5), (3, 6), (4, 5), (4, 6), (5, 6)]
theorem edges7 : edges 7 = E7a ++ E7b := by kernel_rfl
theorem states7 : states E7a [0, 0, 0, 0, 0, 0, 0] 0 = [([0, 0, 0, 0, 0, 0, 0], 0), ([1, 0, 0, 0, 0, 0, 1], 4398046511168), ([1, 0, 0, 0, 0, 1, 0], 34359738400), ([2, 0, 0, 0, 0, 1, 1], 4432406249568), ([1, 0, 0, 0, 1, 0, 0], 268435472), ([2, 0, 0, 0, 1, 0, 1], 4398314946640), ([2, 0, 0, 0, 1, 1, 0], 34628173872), ([1, 0, 0, 1, 0, 0, 0], 2097160), ([2, 0, 0, 1, 0, 0, 1], 4398048608328), ([2, 0, 0, 1, 0, 1, 0], 34361835560), ([2, 0, 0, 1, 1, 0, 0], 270532632), ([1, 0, 1, 0, 0, 0, 0], 16388), ([2, 0, 1, 0, 0, 0, 1], 4398046527556), ([2, 0, 1, 0, 0, 1, 0], 34359754788), ([2, 0, 1, 0, 1, 0, 0], 268451860), ([2, 0, 1, 1, 0, 0, 0], 2113548), ([1, 1, 0, 0, 0, 0, 0], 130), ([2, 1, 0, 0, 0, 0, 1], 4398046511298), ([2, 1, 0, 0, 0, 1, 0], 34359738530), ([2, 1, 0, 0, 1, 0, 0], 268435602), ([2, 1, 0, 1, 0, 0, 0], 2097290), ([2, 1, 1, 0, 0, 0, 0], 16518)] := by kernel_rfl
theorem part7_0 : allSub (okG 7) E7b [0, 0, 0, 0, 0, 0, 0] 0 = true := by kernel_rfl
theorem part7_1 : allSub (okG 7) E7b [1, 0, 0, 0, 0, 0, 1] 4398046511168 = true := by kernel_rfl
theorem part7_2 : allSub (okG 7) E7b [1, 0, 0, 0, 0, 1, 0] 34359738400 = true := by kernel_rfl
theorem part7_3 : allSub (okG 7) E7b [2, 0, 0, 0, 0, 1, 1] 4432406249568 = true := by kernel_rfl
theorem part7_4 : allSub (okG 7) E7b [1, 0, 0, 0, 1, 0, 0] 268435472 = true := by kernel_rfl
theorem part7_5 : allSub (okG 7) E7b [2, 0, 0, 0, 1, 0, 1] 4398314946640 = true := by kernel_rfl
theorem part7_6 : allSub (okG 7) E7b [2, 0, 0, 0, 1, 1, 0] 34628173872 = true := by kernel_rfl
theorem part7_7 : allSub (okG 7) E7b [1, 0, 0, 1, 0, 0, 0] 2097160 = true := by kernel_rfl
theorem part7_8 : allSub (okG 7) E7b [2, 0, 0, 1, 0, 0, 1] 4398048608328 = true := by kernel_rfl
theorem part7_9 : allSub (okG 7) E7b [2, 0, 0, 1, 0, 1, 0] 34361835560 = true := by kernel_rfl
theorem part7_10 : allSub (okG 7) E7b [2, 0, 0, 1, 1, 0, 0] 270532632 = true := by kernel_rfl
theorem part7_11 : allSub (okG 7) E7b [1, 0, 1, 0, 0, 0, 0] 16388 = true := by kernel_rfl
theorem part7_12 : allSub (okG 7) E7b [2, 0, 1, 0, 0, 0, 1] 4398046527556 = true := by kernel_rfl
theorem part7_13 : allSub (okG 7) E7b [2, 0, 1, 0, 0, 1, 0] 34359754788 = true := by kernel_rfl
theorem part7_14 : allSub (okG 7) E7b [2, 0, 1, 0, 1, 0, 0] 268451860 = true := by kernel_rfl
theorem part7_15 : allSub (okG 7) E7b [2, 0, 1, 1, 0, 0, 0] 2113548 = true := by kernel_rfl
theorem part7_16 : allSub (okG 7) E7b [1, 1, 0, 0, 0, 0, 0] 130 = true := by kernel_rfl
theorem part7_17 : allSub (okG 7) E7b [2, 1, 0, 0, 0, 0, 1] 4398046511298 = true := by kernel_rfl
theorem part7_18 : allSub (okG 7) E7b [2, 1, 0, 0, 0, 1, 0] 34359738530 = true := by kernel_rfl
theorem part7_19 : allSub (okG 7) E7b [2, 1, 0, 0, 1, 0, 0] 268435602 = true := by kernel_rfl
theorem part7_20 : allSub (okG 7) E7b [2, 1, 0, 1, 0, 0, 0] 2097290 = true := by kernel_rfl
theorem part7_21 : allSub (okG 7) E7b [2, 1, 1, 0, 0, 0, 0] 16518 = true := by kernel_rfl
theorem allG7 : allSub (okG 7) (edges 7) [0, 0, 0, 0, 0, 0, 0] 0 = true := by
  rw [edges7]
  apply allSub_split
  intro s hs
  rw [states7] at hs
  simp only [List.mem_cons, List.not_mem_nil, or_false] at hs
  rcases hs with rfl | rfl | rfl | rfl | rfl | rfl | rfl | rfl | rfl | rfl | rfl | rfl | rfl | rfl | rfl | rfl | rfl | rfl | rfl | rfl | rfl | rfl
  · exact part7_0
  · exact part7_1
  · exact part7_2
  · exact part7_3
  · exact part7_4
  · exact part7_5
  · exact part7_6
  · exact part7_7
  · exact part7_8
  · exact part7_9
  · exact part7_10
  · exact part7_11
  · exact part7_12
  · exact part7_13
  · exact part7_14
  · exact part7_15
  · exact part7_16
  · exact part7_17
  · exact part7_18
  · exact part7_19
  · exact part7_20
  · exact part7_21
theorem allG : ∀ n, n ≤ 7 → allSub (okG n) (edges n) [0, 0, 0, 0, 0, 0, 0] 0 = true
  | 0, _ => allG0
  | 1, _ => allG1
  | 2, _ => allG2
  | 3, _ => allG3
  | 4, _ => allG4
  | 5, _ => allG5
  | 6, _ => allG6
  | 7, _ => allG7
  | n + 8, h => by omega


theorem incD_len (d : List Nat) (e : Nat × Nat) : (incD d e).length = d.length := by simp [incD]
theorem incD_getD {d : List Nat} {e : Nat × Nat} (hd : d.length = 7) (h1 : e.1 < e.2) (h2 : e.2 < 7) (a : Nat) : (incD d e).getD a 0 = d.getD a 0 + if touches a e = true then 1 else 0 := by
  unfold incD touches
  simp only [List.getD_eq_getElem?_getD, List.getElem?_set, List.length_set, decide_eq_true_iff]
  by_cases p2 : e.2 = a
  · subst p2
    rw [if_pos rfl, if_pos (by omega), if_pos (.inr rfl)]; rfl
  · rw [if_neg p2]
    by_cases p1 : e.1 = a
    · subst p1
      rw [if_pos rfl, if_pos (by omega), if_pos (.inl rfl)]; rfl
    · rw [if_neg p1, if_neg (by omega)]; rfl
theorem fold_deg : ∀ (S : List (Nat × Nat)) (d : List Nat), d.length = 7 → (∀ e ∈ S, e.1 < e.2 ∧ e.2 < 7) → ∀ a, (S.foldl incD d).getD a 0 = d.getD a 0 + (S.filter (touches a)).length
  | [], d, _, _, a => by simp
  | e :: S, d, hd, h, a => by
    have he := h e (by simp)
    rw [List.foldl_cons, fold_deg S (incD d e) (by rw [incD_len, hd]) (fun x hx => h x (by simp [hx])) a, incD_getD hd he.1 he.2]
    by_cases p : touches a e = true
    · rw [if_pos p, List.filter_cons_of_pos p, List.length_cons]; omega
    · rw [if_neg p, List.filter_cons_of_neg p]; omega
theorem allSub_ok {P : List Nat → Bool} (f : Nat × Nat → Bool) : ∀ (E : List (Nat × Nat)) (d : List Nat) (M : Nat), d.length = 7 → (∀ e ∈ E, e.1 < e.2 ∧ e.2 < 7) → allSub P E d M = true →
    (∀ a, ((E.filter f).foldl incD d).getD a 0 = 0 ∨ ((E.filter f).foldl incD d).getD a 0 = 2) → P (mOf ((E.filter f).foldl addM M)) = true
  | [], d, M, hd, _, h, hdeg => by
    simp only [List.filter_nil, List.foldl_nil] at hdeg ⊢
    simp only [allSub, leafM_eq, Bool.or_eq_true] at h
    rcases h with h | h
    · exfalso
      rw [List.contains_iff_mem] at h
      obtain ⟨a, ha, h2⟩ := List.getElem_of_mem h
      have := hdeg a
      rw [List.getD_eq_getElem?_getD, List.getElem?_eq_getElem ha, h2] at this
      simp at this
    · exact h
  | e :: E, d, M, hd, hE, h, hdeg => by
    have he := hE e (by simp)
    have hE2 : ∀ x ∈ E, x.1 < x.2 ∧ x.2 < 7 := fun x hx => hE x (by simp [hx])
    simp only [allSub, forceN_eq, Bool.and_eq_true, Bool.or_eq_true] at h
    obtain ⟨h1, h2⟩ := h
    by_cases p : f e = true
    · rw [List.filter_cons_of_pos p, List.foldl_cons] at hdeg ⊢
      have hl : (incD d e).length = 7 := by rw [incD_len, hd]
      have hS : ∀ x ∈ E.filter f, x.1 < x.2 ∧ x.2 < 7 := fun x hx => hE2 x (List.mem_filter.1 hx).1
      have g : ∀ a, touches a e = true → d.getD a 0 ≤ 1 := by
        intro a ha
        have h3 := hdeg a
        rw [fold_deg _ _ hl hS a, incD_getD hd he.1 he.2, if_pos ha] at h3
        omega
      have g1 := g e.1 (by simp [touches])
      have g2 := g e.2 (by simp [touches])
      have b1 : Nat.blt 1 (d.getD e.1 0) = true → False := by intro hb; have := Nat.le_of_ble_eq_true hb; omega
      have b2 : Nat.blt 1 (d.getD e.2 0) = true → False := by intro hb; have := Nat.le_of_ble_eq_true hb; omega
      rcases h2 with h2 | h2 | h2
      · exact absurd h2 b1
      · exact absurd h2 b2
      · exact allSub_ok f E (incD d e) (addM M e) hl hE2 h2 hdeg
    · rw [List.filter_cons_of_neg p] at hdeg ⊢
      exact allSub_ok f E d M hd hE2 h1 hdeg

theorem intL_getD (b : List Nat) (i : Nat) : (intL b).getD i 0 = ((b.getD i 0 : Nat) : Int) := by
  unfold intL
  rw [List.getD_eq_getElem?_getD, List.getD_eq_getElem?_getD, List.getElem?_map]
  cases b[i]? <;> simp
theorem intL_len (b : List Nat) : (intL b).length = b.length := by simp [intL]
theorem intL_last (b : List Nat) : lastL (intL b) = ((lastN b : Nat) : Int) := by
  unfold lastL lastN
  rw [intL_getD, intL_len]
theorem intL_mem (b : List Nat) (x : Nat) : (x : Int) ∈ intL b ↔ x ∈ b := by
  unfold intL
  simp only [List.mem_map]
  constructor
  · rintro ⟨a, h, e⟩
    have : a = x := by omega
    subst this; exact h
  · intro h; exact ⟨x, h, rfl⟩
theorem rgHd_J {os : List (Int × Int)} {m : List Nat} (hJ : ∀ a b : Nat, joinB os (a : Int) (b : Int) = Jm m a b) (a l : Nat) (b : List Nat) (ha : b.getD 0 0 = a) (hl : lastN b = l) : rgHd os (intL b) = (rgHJ a l (m.getD l 0) b).map intL := by
  unfold rgHd rgHJ
  rw [intL_last, intL_getD, intL_getD, intL_len, hJ, ha, hl]
  have h1 : Nat.blt 2 b.length = decide (2 < b.length) := by
    rw [Bool.eq_iff_iff, decide_eq_true_iff]; exact ⟨Nat.le_of_ble_eq_true, Nat.ble_eq_true_of_le⟩
  have h2 : Nat.blt (b.getD 1 0) l = decide (b.getD 1 0 < l) := by
    rw [Bool.eq_iff_iff, decide_eq_true_iff]; exact ⟨Nat.le_of_ble_eq_true, Nat.ble_eq_true_of_le⟩
  have h3 : (m.getD l 0).testBit a = Jm m l a := rfl
  rw [h1, h2, h3]
  cases p3 : Jm m l a
  · rw [if_neg (by simp), Bool.false_and]; rfl
  · rw [Bool.true_and]
    by_cases p1 : 2 < b.length
    · by_cases p2 : b.getD 1 0 < l
      · rw [if_pos ⟨p1, by omega, rfl⟩, decide_eq_true p1, decide_eq_true p2]; rfl
      · rw [if_neg (by omega), decide_eq_false p2, Bool.and_false]; rfl
    · rw [if_neg (by omega), decide_eq_false p1, Bool.false_and]; rfl
theorem flat_map {α β γ : Type} (g : β → γ) (f : α → List β) (l : List α) : (l.flatMap f).map g = l.flatMap fun a => (f a).map g := by
  induction l with
  | nil => rfl
  | cons a l ih => rw [List.flatMap_cons, List.map_append, ih, List.flatMap_cons]
theorem flat_congr {α β : Type} {f g : α → List β} : ∀ (l : List α), (∀ a ∈ l, f a = g a) → l.flatMap f = l.flatMap g
  | [], _ => rfl
  | a :: l, h => by rw [List.flatMap_cons, List.flatMap_cons, h a (by simp), flat_congr l (fun x hx => h x (by simp [hx]))]
theorem rgF_J {n : Nat} {os : List (Int × Int)} {m : List Nat} (hJ : ∀ a b : Nat, joinB os (a : Int) (b : Int) = Jm m a b) : ∀ (k a l : Nat) (b : List Nat), b ≠ [] → b.getD 0 0 = a → lastN b = l → rgF n os k (intL b) = (rgJ n m k a l b).map intL
  | 0, a, l, b, _, ha, hl => by simp only [rgF, rgJ, forceA_eq]; exact rgHd_J hJ a l b ha hl
  | k + 1, a, l, b, hb, ha, hl => by
    simp only [rgF, rgJ, forceA_eq]
    rw [List.map_append, rgHd_J hJ a l b ha hl, flat_map, intL_getD, Int.toNat_natCast, ha]
    congr 1
    apply flat_congr
    intro x _
    have e : intL b ++ [(x : Int)] = intL (b ++ [x]) := by simp [intL]
    have e1 : (b ++ [x]).getD 0 0 = a := by
      rw [← ha]
      cases b with
      | nil => exact absurd rfl hb
      | cons c r => rfl
    have e2 : lastN (b ++ [x]) = x := by unfold lastN; simp
    rw [e, rgF_J hJ k a x (b ++ [x]) (by simp) e1 e2, intL_last, hl, hJ]
    have hm := intL_mem b x
    have h3 : (m.getD l 0).testBit x = Jm m l x := rfl
    rw [h3]
    by_cases p : x ∈ b
    · rw [if_neg (fun h => h.1 (hm.2 p))]; simp [p]
    · cases q : Jm m l x
      · rw [if_neg (by simp)]; simp
      · rw [if_pos ⟨fun h => p (hm.1 h), rfl⟩]; simp [p]
/-! ### from pairs to masks -/
theorem fold_bit (i : Nat) : ∀ (S : List (Nat × Nat)) (M : Nat), (S.foldl addM M).testBit i = true ↔ M.testBit i = true ∨ ∃ e ∈ S, i = 7 * e.1 + e.2 ∨ i = 7 * e.2 + e.1
  | [], M => by simp
  | e :: S, M => by
    rw [List.foldl_cons, fold_bit i S (addM M e)]
    unfold addM
    rw [Nat.testBit_or, Nat.testBit_or, Nat.testBit_two_pow, Nat.testBit_two_pow]
    simp only [Bool.or_eq_true, decide_eq_true_iff, List.mem_cons, exists_eq_or_imp]
    constructor
    · rintro (((h | h) | h) | h)
      · exact .inl h
      · exact .inr (.inl (.inl h.symm))
      · exact .inr (.inl (.inr h.symm))
      · exact .inr (.inr h)
    · rintro (h | (h | h) | h)
      · exact .inl (.inl (.inl h))
      · exact .inl (.inl (.inr h.symm))
      · exact .inl (.inr h.symm)
      · exact .inr h
theorem mOf_bit (M u v : Nat) : ((mOf M).getD u 0).testBit v = true ↔ u < 7 ∧ v < 7 ∧ M.testBit (7 * u + v) = true := by
  unfold mOf
  rw [List.getD_eq_getElem?_getD, List.getElem?_map]
  by_cases h : u < 7
  · rw [List.getElem?_range h]
    simp only [Option.map_some, Option.getD_some]
    rw [show (128 : Nat) = 2 ^ 7 from rfl, Nat.testBit_mod_two_pow, Nat.testBit_shiftRight]
    simp [h]
  · rw [List.getElem?_eq_none (by simp; omega)]
    simp [h]
theorem mem_edges {n : Nat} {e : Nat × Nat} : e ∈ edges n ↔ e.1 < e.2 ∧ e.2 < n := by
  obtain ⟨a, b⟩ := e
  unfold edges
  simp only [List.mem_flatMap, List.mem_range, List.mem_map, List.mem_filter, decide_eq_true_iff, Prod.mk.injEq]
  constructor
  · rintro ⟨a', h1, b', ⟨h2, h3⟩, rfl, rfl⟩; exact ⟨h3, h2⟩
  · rintro ⟨h1, h2⟩; exact ⟨a, by omega, b, ⟨h2, h1⟩, rfl, rfl⟩
def inOs (os : List (Int × Int)) (e : Nat × Nat) : Bool := decide (((e.1 : Int), (e.2 : Int)) ∈ os)
theorem mask_eq {n : Nat} (hn : n ≤ 7) {os : List (Int × Int)} (hps : ∀ p ∈ os, 0 ≤ p.1 ∧ p.1 < p.2 ∧ p.2 < (n : Int)) (h7 : ∀ p ∈ os, okP p) : advL os = mOf (((edges n).filter (inOs os)).foldl addM 0) := by
  have hl := advL_len h7
  apply List.ext_getElem (by rw [hl]; simp [mOf])
  intro u h1 h2
  have g1 : (advL os)[u] = (advL os).getD u 0 := by rw [List.getD_eq_getElem?_getD, List.getElem?_eq_getElem h1]; rfl
  have g2 : (mOf (((edges n).filter (inOs os)).foldl addM 0))[u] = (mOf (((edges n).filter (inOs os)).foldl addM 0)).getD u 0 := by rw [List.getD_eq_getElem?_getD, List.getElem?_eq_getElem h2]; rfl
  rw [g1, g2]
  apply Nat.eq_of_testBit_eq
  intro v
  rw [Bool.eq_iff_iff, advL_bit h7, mOf_bit, fold_bit]
  rw [hl] at h1
  have hz : ((0 : Nat).testBit (7 * u + v) = true) = False := by simp
  rw [hz, false_or]
  constructor
  · intro h
    rcases h with h | h
    · have hh := hps _ h
      simp only at hh
      refine ⟨h1, by omega, (u, v), List.mem_filter.2 ⟨mem_edges.2 (by simp only; omega), ?_⟩, .inl rfl⟩
      unfold inOs; exact decide_eq_true h
    · have hh := hps _ h
      simp only at hh
      refine ⟨h1, by omega, (v, u), List.mem_filter.2 ⟨mem_edges.2 (by simp only; omega), ?_⟩, .inr rfl⟩
      unfold inOs; exact decide_eq_true h
  · rintro ⟨h3, h4, e, he, h5⟩
    obtain ⟨he, hf⟩ := List.mem_filter.1 he
    rw [mem_edges] at he
    unfold inOs at hf
    have hf := of_decide_eq_true hf
    rcases h5 with h5 | h5
    · have e1 : e.1 = u := by omega
      have e2 : e.2 = v := by omega
      rw [e1, e2] at hf; exact .inl hf
    · have e1 : e.2 = u := by omega
      have e2 : e.1 = v := by omega
      rw [e1, e2] at hf; exact .inr hf
theorem join_mask {n : Nat} {os : List (Int × Int)} (hps : ∀ p ∈ os, 0 ≤ p.1 ∧ p.1 < p.2 ∧ p.2 < (n : Int)) (h7 : ∀ p ∈ os, okP p) (a b : Nat) : joinB os (a : Int) (b : Int) = Jm (advL os) a b := by
  unfold joinB Jm
  rw [Bool.eq_iff_iff, decide_eq_true_iff, advL_bit h7]
  constructor
  · intro h
    by_cases q : (a : Int) ≤ (b : Int)
    · rw [Int.min_eq_left q, Int.max_eq_right q] at h; exact .inl h
    · rw [Int.min_eq_right (by omega), Int.max_eq_left (by omega)] at h; exact .inr h
  · rintro (h | h)
    · have hh := hps _ h
      simp only at hh
      rw [Int.min_eq_left (by omega), Int.max_eq_right (by omega)]; exact h
    · have hh := hps _ h
      simp only at hh
      rw [Int.min_eq_right (by omega), Int.max_eq_left (by omega)]; exact h

/-! ### how many pairs an article has -/
def mkE (a b : Nat) : Nat × Nat := if a < b then (a, b) else (b, a)
theorem touch_all : (List.range 8).all (fun n => (List.range 7).all fun a => decide ((edges n).filter (touches a) = if a < n then ((List.range n).filter fun b => !(b == a)).map (mkE a) else [])) = true := by kernel_rfl
theorem touch_eq {n a : Nat} (hn : n ≤ 7) (ha : a < 7) : (edges n).filter (touches a) = if a < n then ((List.range n).filter fun b => !(b == a)).map (mkE a) else [] := by
  have h := List.all_eq_true.1 (List.all_eq_true.1 touch_all n (List.mem_range.2 (by omega))) a (List.mem_range.2 ha)
  exact of_decide_eq_true h
theorem mem_onesL {W : List ((Int × Int) × Int)} {p : Int × Int} : p ∈ onesL W ↔ ∃ e ∈ W, e.2 = 1 ∧ e.1 = p := by
  unfold onesL
  simp only [List.mem_map, List.mem_filter, decide_eq_true_iff]
  constructor
  · rintro ⟨e, ⟨h1, h2⟩, h3⟩; exact ⟨e, h1, h2, h3⟩
  · rintro ⟨e, h1, h2, h3⟩; exact ⟨e, ⟨h1, h2⟩, h3⟩
theorem one_sh {n : Nat} {W : List ((Int × Int) × Int)} (hnd : (W.map fun e => e.1).Nodup) (hW : OkW n W) {a b : Nat} (hab : a ≠ b) : inOs (onesL W) (mkE a b) = decide (sh W a b = 1) := by
  rw [Bool.eq_iff_iff, decide_eq_true_iff]
  unfold inOs
  rw [decide_eq_true_iff, mem_onesL]
  constructor
  · rintro ⟨e, he, h1, h2⟩
    rw [sh_val hnd hW he (a := a) (b := b), h1]
    unfold mkE at h2
    by_cases q : a < b
    · rw [if_pos q] at h2; rw [h2]; exact .inl ⟨rfl, rfl⟩
    · rw [if_neg q] at h2; rw [h2]; exact .inr ⟨rfl, rfl⟩
  · intro h
    obtain ⟨e, he, h2⟩ := sh_pos (W := W) (a := a) (b := b) (by omega)
    have h3 := sh_val hnd hW he h2
    have h4 := hW e he
    refine ⟨e, he, by omega, ?_⟩
    unfold mkE
    rcases h2 with ⟨g1, g2⟩ | ⟨g1, g2⟩
    · rw [if_pos (by omega)]; exact Prod.ext g1 g2
    · rw [if_neg (by omega)]; exact Prod.ext g1 g2
theorem deg_sum {n : Nat} (hn : n ≤ 7) {W : List ((Int × Int) × Int)} (hnd : (W.map fun e => e.1).Nodup) (hW : OkW n W) {a : Nat} (ha : a < n) :
    ((((edges n).filter (inOs (onesL W))).filter (touches a)).length : Int) = sumL ((List.range n).map fun b => if sh W a b = 1 then (1 : Int) else 0) := by
  have e : ((edges n).filter (inOs (onesL W))).filter (touches a) = ((edges n).filter (touches a)).filter (inOs (onesL W)) := by
    rw [List.filter_filter, List.filter_filter]
    congr 1; funext x; exact Bool.and_comm _ _
  rw [e, touch_eq hn (by omega), if_pos ha, List.filter_map, List.length_map, List.filter_filter]
  rw [len_sum]
  congr 1
  apply List.map_congr_left
  intro b _
  by_cases q : b = a
  · subst q
    have h0 : ¬ sh W b b = 1 := by
      intro h
      obtain ⟨e, he, h2⟩ := sh_pos (W := W) (a := b) (b := b) (by omega)
      have := hW e he
      omega
    rw [if_neg h0]; simp
  · have e1 := one_sh hnd hW (a := a) (b := b) (fun h => q h.symm)
    have e2 : (inOs (onesL W) ∘ mkE a) b = decide (sh W a b = 1) := e1
    by_cases r : sh W a b = 1
    · rw [if_pos r, if_pos]
      rw [e2]; simp [q, r]
    · rw [if_neg r, if_neg]
      rw [e2]; simp [r]

theorem rings_eq {n : Nat} {ps : List (Int × Int)} (hn1 : 1 ≤ n) (hn : n ≤ 7) (hps : ∀ p ∈ ps, 0 ≤ p.1 ∧ p.1 < p.2 ∧ p.2 < (n : Int)) (h7 : ∀ p ∈ ps, okP p) (hnd : ps.Nodup) : ringsP n (advL (onesR n ps)) = rgsR n (onesR n ps) := by
  have hops : ∀ p ∈ onesR n ps, 0 ≤ p.1 ∧ p.1 < p.2 ∧ p.2 < (n : Int) := fun p hp => hps p (onesL_in p hp)
  have ho7 : ∀ p ∈ onesR n ps, okP p := fun p hp => h7 p (onesL_in p hp)
  have key : ∀ a, (((edges n).filter (inOs (onesR n ps))).foldl incD [0, 0, 0, 0, 0, 0, 0]).getD a 0 = 0 ∨ (((edges n).filter (inOs (onesR n ps))).foldl incD [0, 0, 0, 0, 0, 0, 0]).getD a 0 = 2 := by
    intro a
    have hz : ([0, 0, 0, 0, 0, 0, 0] : List Nat).getD a 0 = 0 := by
      rw [show ([0, 0, 0, 0, 0, 0, 0] : List Nat) = List.replicate 7 0 from rfl, List.getD_eq_getElem?_getD, List.getElem?_replicate]
      split <;> rfl
    rw [fold_deg _ _ rfl (fun e he => by have := mem_edges.1 (List.mem_filter.1 he).1; omega) a, hz, Nat.zero_add]
    rcases Nat.lt_or_ge a n with ha | ha
    · obtain ⟨s1, s2⟩ := sharesR_in (n := n) (ps := ps)
      obtain ⟨a1, a2⟩ := shF_ok s1
      obtain ⟨v1, v2, _⟩ := halvesV_ok hn1 hn hps h7
      have hv := (cheap_mem.1 (halves_spec hn1 hn hps h7).1).1.2
      have hM1 := over_none s1 hps
      have hw := shares_worth hn1 hn hps h7 hnd
      obtain ⟨hsl, hM2⟩ := slack hn hps v1 v2 a1 a2 hv hM1 (by omega)
      have hWn : ((ps.zip (sharesR n ps)).map fun e => e.1).Nodup := by
        have : (ps.zip (sharesR n ps)).map (fun e => e.1) = ps := List.map_fst_zip (by omega)
        rw [this]; exact hnd
      have hW : OkW n (ps.zip (sharesR n ps)) := zip_ok hps _
      have hb : ∀ e ∈ ps.zip (sharesR n ps), 0 ≤ e.2 ∧ e.2 ≤ 2 := fun e he => a2 _ (List.of_mem_zip he).2
      have hmid := ones_mid hn1 hn hps h7 hnd
      have hds := deg_sum hn hWn hW ha
      by_cases hex : ∃ b0, b0 < n ∧ sh (ps.zip (sharesR n ps)) a b0 = 1
      · obtain ⟨b0, hb0, h1⟩ := hex
        obtain ⟨e, he, h2⟩ := sh_pos (W := ps.zip (sharesR n ps)) (a := a) (b := b0) (by omega)
        have h3 := sh_val hWn hW he h2
        have h4 := hmid e he (by omega)
        have h5 := hsl e he (by omega)
        have hva : (halvesV n ps).getD a 0 = 1 := by
          rcases h2 with ⟨g1, g2⟩ | ⟨g1, g2⟩
          · rw [show a = e.1.1.toNat by omega]; exact h4
          · rw [show a = e.1.2.toNat by omega]; omega
        have h6 := two_ones hWn hW hb (hM2 a ha (by omega)) hb0 h1
        right
        rw [h6] at hds
        have hds' : ((((edges n).filter (inOs (onesR n ps))).filter (touches a)).length : Int) = 2 := hds
        omega
      · left
        have h6 : sumL ((List.range n).map fun b => if sh (ps.zip (sharesR n ps)) a b = 1 then (1 : Int) else 0) = 0 := by
          apply sum_zero
          intro b hb
          rw [if_neg (fun h => hex ⟨b, List.mem_range.1 hb, h⟩)]
        rw [h6] at hds
        have hds' : ((((edges n).filter (inOs (onesR n ps))).filter (touches a)).length : Int) = 0 := hds
        omega
    · left
      rw [List.length_eq_zero_iff, List.filter_eq_nil_iff]
      intro e he h
      have := mem_edges.1 (List.mem_filter.1 he).1
      unfold touches at h
      have := of_decide_eq_true h
      omega
  have h := allSub_ok (P := okG n) (inOs (onesR n ps)) (edges n) [0, 0, 0, 0, 0, 0, 0] 0 rfl (fun e he => by have := mem_edges.1 he; omega) (allG n hn) key
  rw [← mask_eq hn hops ho7] at h
  have h2 := of_decide_eq_true h
  rw [h2]
  unfold rgsR
  rw [flat_map]
  apply flat_congr
  intro a _
  exact (rgF_J (join_mask hops ho7) 6 a a [a] (by simp) rfl rfl).symm


/-! ### lists of lists are equal -/
theorem rw_one {l : List Int} (h : l ≠ []) : rwAV l = listAV l := by
  unfold rwAV listAV
  rw [sl_ne (by simpa using h), sl_ne (by simpa using h)]
theorem rw_list {xs : List (List Int)} (h : ∀ l ∈ xs, l ≠ []) : xs.map rwAV = xs.map listAV := List.map_congr_left fun l hl => rw_one (h l hl)
theorem loop39 (n1 n2 : Bool) (xs ys : List (List Int)) (hl : xs.length = ys.length) (hlen : xs.length < 1000000) (hx : ∀ l ∈ xs, l.length < 1000000) (i : Nat) (hok : i ≤ xs.length) (env : Env) (st : St)
    (hg : gcAV true 0 0 (canon env [0, 1, 5]) st = ([(0, sl 1 n1 (xs.map listAV)), (1, sl 1 n2 (ys.map listAV)), (5, I i)], ⟨[], []⟩)) :
    ∃ x_1 en s, lim (headed pure (run L) true [0, 1, 5] lp39_0 0 0) env st = some (x_1, en, s) ∧ (if xs.drop i = ys.drop i then x_1 = .exit 0 else x_1 = .ret ∧ en.get 4 = B false) := by
  refine loop_wp (α := Nat) (fun i => xs.length - i) (fun i => i ≤ xs.length) (fun i => ([(0, sl 1 n1 (xs.map listAV)), (1, sl 1 n2 (ys.map listAV)), (5, I i)], ⟨[], []⟩)) (fun i x_1 en s => if xs.drop i = ys.drop i then x_1 = .exit 0 else x_1 = .ret ∧ en.get 4 = B false) (fun i hok => ?_) i hok env st hg
  by_cases h : i < xs.length
  · have hix := index_lists n1 xs i h
    have hiy := index_lists n2 ys i (by omega)
    have hs := succ64 i (by omega)
    have hd : xs.drop i = xs[i] :: xs.drop (i + 1) := List.drop_eq_getElem_cons h
    have hd2 : ys.drop i = ys[i] :: ys.drop (i + 1) := List.drop_eq_getElem_cons (by omega)
    have hlt : ((i : Int) < (xs.length : Int)) = True := eq_true (by omega)
    have hxl := hx xs[i] (List.getElem_mem h)
    rw [hd, hd2]
    generalize xs[i] = a at *
    generalize ys[i]'(by omega) = b at *
    have h21 := fun st => c21 false false a b hxl st
    by_cases p : a = b
    · subst p
      have h21' : ∀ st, run L 21 [sl 1 false (a.map I), sl 1 false (a.map I)] st = some (B true, st) := fun st => by rw [h21 st]; simp
      simp only [go_sem, reduceIte, Nat.reduceEqDiff, Nat.reduceAdd, Nat.reduceSub, Nat.reduceLeDiff, Nat.reduceLT, reduceCtorEq, Int.reduceLT, Int.reduceLE, Int.reduceEq, Int.reduceBEq, Int.reduceSub, Int.reduceAdd, Int.reduceMul, Int.reduceNeg, Int.reduceToNat, Nat.reduceMul, Nat.reduceBEq, index_rsl_if, setm, make_ints, condK_dec, wantK_dec, not_dec, and_dec, or_dec, seqK_ite, seqK_none, blockK_ite, blockK_none, opsK_ite, opsK_none, stepK_ite, stepK_none, bodyK_ite, bodyK_none, resK_ite, resK_none, leaveK_ite, leaveK_none, only_ite, only_none, bind_ite, gives_some, gives_none, gives_ite, then_normal, then_ret, then_exit, then_none, then_ite, Option.bind_none, Bool.not_eq_true', decide_eq_false_iff_not, Bool.and_eq_true, Bool.or_eq_true, Option.some.injEq, Int.not_lt, Int.not_le, lp39_0, hix, hiy, hlt, h21', hs, List.length_map]
      refine ⟨i + 1, by simp only [go_sem, reduceIte, Nat.reduceEqDiff, Nat.reduceAdd, Nat.reduceSub, Nat.reduceLeDiff, Nat.reduceLT, reduceCtorEq, Int.reduceLT, Int.reduceLE, Int.reduceEq, Int.reduceBEq, Int.reduceSub, Int.reduceAdd, Int.reduceMul, Int.reduceNeg, Int.reduceToNat, Nat.reduceMul, Nat.reduceBEq, ren1_locm, loc_tips, locT_eq] <;> rfl, ?_, ?_, fun x en s hq => ?_⟩
      · omega
      · omega
      · simp only [List.cons.injEq, true_and]; exact hq
    · have h21' : ∀ st, run L 21 [sl 1 false (a.map I), sl 1 false (b.map I)] st = some (B false, st) := fun st => by rw [h21 st]; simp [p]
      simp only [go_sem, reduceIte, Nat.reduceEqDiff, Nat.reduceAdd, Nat.reduceSub, Nat.reduceLeDiff, Nat.reduceLT, reduceCtorEq, Int.reduceLT, Int.reduceLE, Int.reduceEq, Int.reduceBEq, Int.reduceSub, Int.reduceAdd, Int.reduceMul, Int.reduceNeg, Int.reduceToNat, Nat.reduceMul, Nat.reduceBEq, index_rsl_if, setm, make_ints, condK_dec, wantK_dec, not_dec, and_dec, or_dec, seqK_ite, seqK_none, blockK_ite, blockK_none, opsK_ite, opsK_none, stepK_ite, stepK_none, bodyK_ite, bodyK_none, resK_ite, resK_none, leaveK_ite, leaveK_none, only_ite, only_none, bind_ite, gives_some, gives_none, gives_ite, then_normal, then_ret, then_exit, then_none, then_ite, Option.bind_none, Bool.not_eq_true', decide_eq_false_iff_not, Bool.and_eq_true, Bool.or_eq_true, Option.some.injEq, Int.not_lt, Int.not_le, lp39_0, hix, hiy, hlt, h21', List.length_map]
      rw [if_neg (by simp [p])]; trivial
  · have hd : xs.drop i = [] := List.drop_eq_nil_of_le (by omega)
    have hd2 : ys.drop i = [] := List.drop_eq_nil_of_le (by omega)
    have hlt : ((i : Int) < (xs.length : Int)) = False := eq_false (by omega)
    simp only [go_sem, reduceIte, Nat.reduceEqDiff, Nat.reduceAdd, Nat.reduceSub, Nat.reduceLeDiff, Nat.reduceLT, reduceCtorEq, Int.reduceLT, Int.reduceLE, Int.reduceEq, Int.reduceBEq, Int.reduceSub, Int.reduceAdd, Int.reduceMul, Int.reduceNeg, Int.reduceToNat, Nat.reduceMul, Nat.reduceBEq, index_rsl_if, setm, make_ints, condK_dec, wantK_dec, not_dec, and_dec, or_dec, seqK_ite, seqK_none, blockK_ite, blockK_none, opsK_ite, opsK_none, stepK_ite, stepK_none, bodyK_ite, bodyK_none, resK_ite, resK_none, leaveK_ite, leaveK_none, only_ite, only_none, bind_ite, gives_some, gives_none, gives_ite, then_normal, then_ret, then_exit, then_none, then_ite, Option.bind_none, Bool.not_eq_true', decide_eq_false_iff_not, Bool.and_eq_true, Bool.or_eq_true, Option.some.injEq, Int.not_lt, Int.not_le, lp39_0, hlt, List.length_map]
    rw [hd, hd2]; simp

theorem c39 (n1 n2 : Bool) (xs ys : List (List Int)) (hlen : xs.length < 1000000) (hx : ∀ l ∈ xs, l.length < 1000000) (st : St) : run L 39 [sl 1 n1 (xs.map listAV), sl 1 n2 (ys.map listAV)] st = some (B (decide (xs = ys)), st) := by
  rw [run_pure (fn := ir39) rfl rfl]
  by_cases hl : xs.length = ys.length
  · simp only [ir39, go_sem, reduceIte, Nat.reduceEqDiff, Nat.reduceAdd, Nat.reduceSub, Nat.reduceLeDiff, Nat.reduceLT, reduceCtorEq, Int.reduceLT, Int.reduceLE, Int.reduceEq, Int.reduceBEq, Int.reduceSub, Int.reduceAdd, Int.reduceMul, Int.reduceNeg, Int.reduceToNat, Nat.reduceMul, Nat.reduceBEq, List.length_map, hl]
    generalize hg : lim (headed pure (run L) true _ lp39_0 _ _) _ _ = o
    obtain ⟨x, en, s, rfl, h2⟩ : ∃ x en s, o = some (x, en, s) ∧ _ := by rw [← hg]; exact loop39 n1 n2 xs ys hl hlen hx 0 (by omega) _ _ (by simp only [go_sem, reduceIte, Nat.reduceEqDiff, Nat.reduceAdd, Nat.reduceSub, Nat.reduceLeDiff, Nat.reduceLT, reduceCtorEq, Int.reduceLT, Int.reduceLE, Int.reduceEq, Int.reduceBEq, Int.reduceSub, Int.reduceAdd, Int.reduceMul, Int.reduceNeg, Int.reduceToNat, Nat.reduceMul, Nat.reduceBEq] <;> rfl)
    clear hg
    simp only [List.drop_zero] at h2
    by_cases h : xs = ys
    · rw [if_pos h] at h2
      subst h2
      simp only [go_sem, reduceIte, Nat.reduceEqDiff, Nat.reduceAdd, Nat.reduceSub, Nat.reduceLeDiff, Nat.reduceLT, reduceCtorEq, Int.reduceLT, Int.reduceLE, Int.reduceEq, Int.reduceBEq, Int.reduceSub, Int.reduceAdd, Int.reduceMul, Int.reduceNeg, Int.reduceToNat, Nat.reduceMul, Nat.reduceBEq, h]
    · rw [if_neg h] at h2
      obtain ⟨rfl, h3⟩ := h2
      simp only [go_sem, reduceIte, Nat.reduceEqDiff, Nat.reduceAdd, Nat.reduceSub, Nat.reduceLeDiff, Nat.reduceLT, reduceCtorEq, Int.reduceLT, Int.reduceLE, Int.reduceEq, Int.reduceBEq, Int.reduceSub, Int.reduceAdd, Int.reduceMul, Int.reduceNeg, Int.reduceToNat, Nat.reduceMul, Nat.reduceBEq, h3, h]
  · have hl2 : ((xs.length : Int) = (ys.length : Int)) = False := eq_false (by omega)
    have hne : ¬ xs = ys := fun h => hl (by rw [h])
    simp only [ir39, go_sem, reduceIte, Nat.reduceEqDiff, Nat.reduceAdd, Nat.reduceSub, Nat.reduceLeDiff, Nat.reduceLT, reduceCtorEq, Int.reduceLT, Int.reduceLE, Int.reduceEq, Int.reduceBEq, Int.reduceSub, Int.reduceAdd, Int.reduceMul, Int.reduceNeg, Int.reduceToNat, Nat.reduceMul, Nat.reduceBEq, List.length_map, hl2, hne]

/-! ### a list of lists that grows, above other tips -/
def nAV (k : Nat) (o : List (List Int)) : AV := if o = [] then .v (.slice none 0 0) else .lst (.own k o.length) 1 (o.map listAV)
def nT (o : List (List Int)) : List Nat := if o = [] then [] else [o.length]
theorem okRef_n (n k : Nat) (o : List (List Int)) : okRef n (nAV k o) = true := by unfold nAV; split <;> rfl
theorem fin_n (st : St) (k : Nat) (o : List (List Int)) : fin st (nAV k o) = sl 1 true (o.map listAV) := by
  unfold nAV
  by_cases h : o = []
  · subst h; rfl
  · rw [if_neg h, sl_ne (by simpa using h)]; rfl
theorem ren1_n (T0 : List Nat) (o : List (List Int)) : (ren1 T0.length (T0 ++ nT o) [] (nAV T0.length o)).1 = nAV T0.length o ∧ (T0 ++ nT o).take T0.length ++ ((ren1 T0.length (T0 ++ nT o) [] (nAV T0.length o)).2).map (fun x => x.2) = T0 ++ nT o := by
  unfold nAV nT
  by_cases h : o = []
  · simp [h, ren1]
  · simp [h, ren1]
theorem append_n (T0 : List Nat) (o G : List (List Int)) (h : o.length + G.length ≤ 1000000) : ∃ new T', (∀ S, appendAV 1 (nAV T0.length o) (G.map listAV) ⟨S, T0 ++ nT o⟩ = some (new, ⟨S, T'⟩)) ∧ (∀ n, okRef n new = true) ∧ (ren1 T0.length T' [] new).1 = nAV T0.length (o ++ G) ∧ T'.take T0.length ++ ((ren1 T0.length T' [] new).2).map (fun x => x.2) = T0 ++ nT (o ++ G) := by
  cases G with
  | nil =>
    refine ⟨nAV T0.length o, T0 ++ nT o, fun S => ?_, fun n => okRef_n _ _ _, ?_⟩
    · unfold nAV
      by_cases h0 : o = []
      · simp [h0, appendAV]
      · simp [h0, appendAV]
    · rw [List.append_nil]
      exact ren1_n T0 o
  | cons g r =>
    have hm : o.length + (r.length + 1) ≤ maxGrow := by unfold maxGrow; simp only [List.length_cons] at h; omega
    cases o with
    | nil =>
      refine ⟨.lst (.own T0.length (r.length + 1)) 1 ((g :: r).map listAV), T0 ++ [r.length + 1], fun S => ?_, fun n => rfl, ?_⟩
      · have hm' : r.length + 1 ≤ maxGrow := by simp at hm; exact hm
        simp [nAV, nT, appendAV, hm']
      · simp [nAV, nT, ren1]
    | cons x o =>
      refine ⟨.lst (.own T0.length (o.length + 1 + (r.length + 1))) 1 ((x :: o).map listAV ++ (g :: r).map listAV), T0 ++ [o.length + 1 + (r.length + 1)], fun S => ?_, fun n => rfl, ?_⟩
      · have hm' : o.length + 1 + (r.length + 1) ≤ maxGrow := by simpa using hm
        simp [nAV, nT, appendAV, hm']
      · simp [nAV, nT, ren1, Nat.add_assoc]
attribute [local go_sem] okRef_out storable_out shaped_out cells_out fin_out pub_out okRef_n fin_n

theorem loop38_0 (nl : Bool) (n : Nat) (ps : List (Int × Int)) (hlen : ps.length ≤ 10) (s0 : List Int) (hs0 : s0.length = ps.length) (i : Nat) (o1 : List (Int × Int)) (hok : i ≤ ps.length ∧ o1.length ≤ i) (env : Env) (st : St)
    (hg : gcAV true 1 0 (canon env [1, 5, 6, 7]) st = ([(1, .ptr 0 0), (5, sl 1 true (s0.map I)), (6, outAV o1), (7, I i)], ⟨[bkCells nl n ps], outT o1⟩)) :
    ∃ x_1 en s, lim (headed pure (run L) true [1, 5, 6, 7] lp38_0 1 0) env st = some (x_1, en, s) ∧ (x_1 = .exit 0 ∧ en.get 1 = .ptr 0 0 ∧ en.get 6 = outAV (o1 ++ onesL ((ps.zip s0).drop i)) ∧ s = ⟨[bkCells nl n ps], outT (o1 ++ onesL ((ps.zip s0).drop i))⟩) := by
  refine loop_wp (α := Nat × List (Int × Int)) (fun ⟨i, o1⟩ => ps.length - i) (fun ⟨i, o1⟩ => i ≤ ps.length ∧ o1.length ≤ i) (fun ⟨i, o1⟩ => ([(1, .ptr 0 0), (5, sl 1 true (s0.map I)), (6, outAV o1), (7, I i)], ⟨[bkCells nl n ps], outT o1⟩)) (fun ⟨i, o1⟩ x_1 en s => x_1 = .exit 0 ∧ en.get 1 = .ptr 0 0 ∧ en.get 6 = outAV (o1 ++ onesL ((ps.zip s0).drop i)) ∧ s = ⟨[bkCells nl n ps], outT (o1 ++ onesL ((ps.zip s0).drop i))⟩) (fun ⟨i, o1⟩ hok => ?_) ⟨i, o1⟩ hok env st hg
  simp only at hok
  obtain ⟨h1, h2⟩ := hok
  dsimp only at h1 h2 ⊢
  by_cases h : i < ps.length
  · have hx := index_prs2 nl ps i h
    have hy := index_ints true s0 i (by omega)
    have hs := succ64 i (by omega)
    have hd := drop_zip ps s0 i h (by omega)
    have hlt : ((i : Int) < (s0.length : Int)) = True := eq_true (by omega)
    rw [hd, onesL_cons]
    generalize s0[i] = a at *
    generalize ps[i] = c at *
    obtain ⟨u, v⟩ := c
    dsimp only at hx ⊢
    have happ := fun S => append_out o1 u v S (by omega)
    by_cases p : a = 1
    · rw [if_pos p]
      simp only [go_sem, reduceIte, Nat.reduceEqDiff, Nat.reduceAdd, Nat.reduceSub, Nat.reduceLeDiff, Nat.reduceLT, reduceCtorEq, Int.reduceLT, Int.reduceLE, Int.reduceEq, Int.reduceBEq, Int.reduceSub, Int.reduceAdd, Int.reduceMul, Int.reduceNeg, Int.reduceToNat, Nat.reduceMul, Nat.reduceBEq, index_rsl_if, setm, make_ints, condK_dec, wantK_dec, not_dec, and_dec, or_dec, seqK_ite, seqK_none, blockK_ite, blockK_none, opsK_ite, opsK_none, stepK_ite, stepK_none, bodyK_ite, bodyK_none, resK_ite, resK_none, leaveK_ite, leaveK_none, only_ite, only_none, bind_ite, gives_some, gives_none, gives_ite, then_normal, then_ret, then_exit, then_none, then_ite, Option.bind_none, Bool.not_eq_true', decide_eq_false_iff_not, Bool.and_eq_true, Bool.or_eq_true, Option.some.injEq, Int.not_lt, Int.not_le, lp38_0, hx, hy, hlt, hs, p, happ, List.length_map]
      refine ⟨(i + 1, o1 ++ [(u, v)]), by simp only [go_sem, reduceIte, Nat.reduceEqDiff, Nat.reduceAdd, Nat.reduceSub, Nat.reduceLeDiff, Nat.reduceLT, reduceCtorEq, Int.reduceLT, Int.reduceLE, Int.reduceEq, Int.reduceBEq, Int.reduceSub, Int.reduceAdd, Int.reduceMul, Int.reduceNeg, Int.reduceToNat, Nat.reduceMul, Nat.reduceBEq, ren1_locm, loc_tips, locT_eq, ren1_out, outAcc_snd] <;> rfl, ?_, ?_, fun x en s hq => ?_⟩
      · dsimp only; refine ⟨by omega, by simp; omega⟩
      · dsimp only; omega
      · simpa using hq
    · rw [if_neg p]
      simp only [go_sem, reduceIte, Nat.reduceEqDiff, Nat.reduceAdd, Nat.reduceSub, Nat.reduceLeDiff, Nat.reduceLT, reduceCtorEq, Int.reduceLT, Int.reduceLE, Int.reduceEq, Int.reduceBEq, Int.reduceSub, Int.reduceAdd, Int.reduceMul, Int.reduceNeg, Int.reduceToNat, Nat.reduceMul, Nat.reduceBEq, index_rsl_if, setm, make_ints, condK_dec, wantK_dec, not_dec, and_dec, or_dec, seqK_ite, seqK_none, blockK_ite, blockK_none, opsK_ite, opsK_none, stepK_ite, stepK_none, bodyK_ite, bodyK_none, resK_ite, resK_none, leaveK_ite, leaveK_none, only_ite, only_none, bind_ite, gives_some, gives_none, gives_ite, then_normal, then_ret, then_exit, then_none, then_ite, Option.bind_none, Bool.not_eq_true', decide_eq_false_iff_not, Bool.and_eq_true, Bool.or_eq_true, Option.some.injEq, Int.not_lt, Int.not_le, lp38_0, hx, hy, hlt, hs, p, List.length_map]
      refine ⟨(i + 1, o1), by simp only [go_sem, reduceIte, Nat.reduceEqDiff, Nat.reduceAdd, Nat.reduceSub, Nat.reduceLeDiff, Nat.reduceLT, reduceCtorEq, Int.reduceLT, Int.reduceLE, Int.reduceEq, Int.reduceBEq, Int.reduceSub, Int.reduceAdd, Int.reduceMul, Int.reduceNeg, Int.reduceToNat, Nat.reduceMul, Nat.reduceBEq, ren1_locm, loc_tips, locT_eq, ren1_out, outAcc_snd] <;> rfl, ?_, ?_, fun x en s hq => ?_⟩
      · dsimp only; omega
      · dsimp only; omega
      · exact hq
  · have hz : (ps.zip s0).drop i = [] := List.drop_eq_nil_of_le (by rw [List.length_zip]; omega)
    rw [hz, onesL_nil, List.append_nil]
    have hlt : ((i : Int) < (s0.length : Int)) = False := eq_false (by omega)
    simp only [go_sem, reduceIte, Nat.reduceEqDiff, Nat.reduceAdd, Nat.reduceSub, Nat.reduceLeDiff, Nat.reduceLT, reduceCtorEq, Int.reduceLT, Int.reduceLE, Int.reduceEq, Int.reduceBEq, Int.reduceSub, Int.reduceAdd, Int.reduceMul, Int.reduceNeg, Int.reduceToNat, Nat.reduceMul, Nat.reduceBEq, index_rsl_if, setm, make_ints, condK_dec, wantK_dec, not_dec, and_dec, or_dec, seqK_ite, seqK_none, blockK_ite, blockK_none, opsK_ite, opsK_none, stepK_ite, stepK_none, bodyK_ite, bodyK_none, resK_ite, resK_none, leaveK_ite, leaveK_none, only_ite, only_none, bind_ite, gives_some, gives_none, gives_ite, then_normal, then_ret, then_exit, then_none, then_ite, Option.bind_none, Bool.not_eq_true', decide_eq_false_iff_not, Bool.and_eq_true, Bool.or_eq_true, Option.some.injEq, Int.not_lt, Int.not_le, lp38_0, hlt, List.length_map]

/-- The rings from a start on. -/
def rgA (n : Nat) (os : List (Int × Int)) (a : Nat) : List (List Int) := (List.range' a (n - a)).flatMap fun (a : Nat) => rgF n os 6 [(a : Int)]
theorem rgA_step (n : Nat) (os : List (Int × Int)) (a : Nat) (h : a < n) : rgA n os a = rgF n os 6 [(a : Int)] ++ rgA n os (a + 1) := by
  unfold rgA
  rw [show n - a = (n - (a + 1)) + 1 by omega, List.range'_succ, List.flatMap_cons]
theorem start_len (n : Nat) (hn : n ≤ 7) (a : Nat) (h : a < n) : ((List.range n).filter fun (x : Nat) => decide ((x : Int) ∉ [(a : Int)])).length ≤ 6 := by
  have h1 := filter_drop n a [] h (by simp)
  have h2 := List.length_filter_le (fun (z : Nat) => decide ((z : Int) ∉ ([] : List Int))) (List.range n)
  rw [List.length_range] at h2
  rw [List.nil_append] at h1
  omega
theorem rgA_len {n : Nat} (hn : n ≤ 7) (os : List (Int × Int)) (a : Nat) : (rgA n os a).length ≤ 391909 := by
  have h2 := flat_len (fun (a : Nat) => rgF n os 6 [(a : Int)]) 55987 (List.range' a (n - a)) (fun x _ => by
    have h1 := rgF_len hn os 6 [(x : Int)]
    have h3 := bd6_le 6 (by omega)
    omega)
  rw [List.length_range'] at h2
  have h4 := Nat.mul_le_mul_right 55987 (show n - a ≤ 7 by omega)
  have h5 : 7 * 55987 = 391909 := by decide
  rw [h5] at h4
  exact Nat.le_trans h2 h4

theorem loop38_1 (nl : Bool) (n : Nat) (hn : n ≤ 7) (ps : List (Int × Int)) (os : List (Int × Int)) (hol : os.length ≤ 10) (th : Nat) (hth : th = (outT os).length) (a : Nat) (out : List (List Int)) (hok : a ≤ n ∧ out.length + (rgA n os a).length ≤ 400000) (env : Env) (st : St)
    (hg : gcAV true 1 th (canon env [1, 6, 8, 9]) st = ([(1, .ptr 0 0), (6, outAV os), (8, nAV th out), (9, I a)], ⟨[bkCells nl n ps], outT os ++ nT out⟩)) :
    ∃ x_1 en s, lim (headed pure (run L) true [1, 6, 8, 9] lp38_1 1 th) env st = some (x_1, en, s) ∧ (x_1 = .exit 2 ∧ en.get 8 = nAV th (out ++ rgA n os a)) := by
  refine loop_wp (α := Nat × List (List Int)) (fun ⟨a, out⟩ => n - a) (fun ⟨a, out⟩ => a ≤ n ∧ out.length + (rgA n os a).length ≤ 400000) (fun ⟨a, out⟩ => ([(1, .ptr 0 0), (6, outAV os), (8, nAV th out), (9, I a)], ⟨[bkCells nl n ps], outT os ++ nT out⟩)) (fun ⟨a, out⟩ x_1 en s => x_1 = .exit 2 ∧ en.get 8 = nAV th (out ++ rgA n os a)) (fun ⟨a, out⟩ hok => ?_) ⟨a, out⟩ hok env st hg
  simp only at hok
  obtain ⟨h1, h2⟩ := hok
  dsimp only at h1 h2 ⊢
  subst hth
  have hro := fun T acc => ren1_o (Nat.le_refl (outT os).length) T acc
  by_cases h : a < n
  · have hs := succ64 a (by omega)
    have hlt : ((a : Int) < (n : Int)) = True := eq_true (by omega)
    have hst := rgA_step n os a h
    rw [hst] at h2 ⊢
    rw [List.length_append] at h2
    have h91 : ∀ g st, run L 91 [I n, outAV os, .lst g 1 [I (a : Int)]] st = some (sl 1 true ((rgF n os 6 [(a : Int)]).map listAV), st) := by
      intro g st
      rw [← c91 true n hn os (by omega) 6 [(a : Int)] (by omega) (by simp) (by simp) (by intro y hy; rw [List.mem_singleton] at hy; subst hy; omega) (start_len n hn a h) st]
      exact run_args (fn := ir91) rfl rfl st (by simp only [pubs, pub, pub_sl, pub_out, List.map_cons, List.map_nil]; rw [sl_false])
    generalize rgF n os 6 [(a : Int)] = G at *
    obtain ⟨new, T', k1, k2, k3, k4⟩ := append_n (outT os) out G (by omega)
    rw [← List.append_assoc]
    simp only [go_sem, reduceIte, Nat.reduceEqDiff, Nat.reduceAdd, Nat.reduceSub, Nat.reduceLeDiff, Nat.reduceLT, reduceCtorEq, Int.reduceLT, Int.reduceLE, Int.reduceEq, Int.reduceBEq, Int.reduceSub, Int.reduceAdd, Int.reduceMul, Int.reduceNeg, Int.reduceToNat, Nat.reduceMul, Nat.reduceBEq, index_rsl_if, setm, make_ints, condK_dec, wantK_dec, not_dec, and_dec, or_dec, seqK_ite, seqK_none, blockK_ite, blockK_none, opsK_ite, opsK_none, stepK_ite, stepK_none, bodyK_ite, bodyK_none, resK_ite, resK_none, leaveK_ite, leaveK_none, only_ite, only_none, bind_ite, gives_some, gives_none, gives_ite, then_normal, then_ret, then_exit, then_none, then_ite, Option.bind_none, Bool.not_eq_true', decide_eq_false_iff_not, Bool.and_eq_true, Bool.or_eq_true, Option.some.injEq, Int.not_lt, Int.not_le, lp38_1, hlt, hs, h91, k1]
    refine ⟨(a + 1, out ++ G), by simp only [go_sem, reduceIte, Nat.reduceEqDiff, Nat.reduceAdd, Nat.reduceSub, Nat.reduceLeDiff, Nat.reduceLT, reduceCtorEq, Int.reduceLT, Int.reduceLE, Int.reduceEq, Int.reduceBEq, Int.reduceSub, Int.reduceAdd, Int.reduceMul, Int.reduceNeg, Int.reduceToNat, Nat.reduceMul, Nat.reduceBEq, ren1_locm, loc_tips, locT_eq, hro, k2, k3, k4] <;> rfl, ?_, ?_, fun x en s hq => ?_⟩
    · dsimp only; rw [List.length_append]; omega
    · dsimp only; omega
    · exact hq
  · have hz : rgA n os a = [] := by unfold rgA; rw [show n - a = 0 by omega]; rfl
    rw [hz, List.append_nil]
    simp only [go_sem, reduceIte, Nat.reduceEqDiff, Nat.reduceAdd, Nat.reduceSub, Nat.reduceLeDiff, Nat.reduceLT, reduceCtorEq, Int.reduceLT, Int.reduceLE, Int.reduceEq, Int.reduceBEq, Int.reduceSub, Int.reduceAdd, Int.reduceMul, Int.reduceNeg, Int.reduceToNat, Nat.reduceMul, Nat.reduceBEq, index_rsl_if, setm, make_ints, condK_dec, wantK_dec, not_dec, and_dec, or_dec, seqK_ite, seqK_none, blockK_ite, blockK_none, opsK_ite, opsK_none, stepK_ite, stepK_none, bodyK_ite, bodyK_none, resK_ite, resK_none, leaveK_ite, leaveK_none, only_ite, only_none, bind_ite, gives_some, gives_none, gives_ite, then_normal, then_ret, then_exit, then_none, then_ite, Option.bind_none, Bool.not_eq_true', decide_eq_false_iff_not, Bool.and_eq_true, Bool.or_eq_true, Option.some.injEq, Int.not_lt, Int.not_le, lp38_1, show ((a : Int) < (n : Int)) = False from eq_false (by omega)]

def rrv (n : Int) (ps : List (Int × Int)) : List (List Int) × Int := if chk n ps = 0 then (rgsR n.toNat (onesR n.toNat ps), 0) else ([], chk n ps)
theorem rgA_zero (n : Nat) (os : List (Int × Int)) : rgA n os 0 = rgsR n os := by
  unfold rgA rgsR; rw [Nat.sub_zero, ← List.range_eq_range']
theorem onesR_len {n : Nat} {ps : List (Int × Int)} (h : ps.length ≤ 10) : (onesR n ps).length ≤ 10 := by
  have h6 := onesL_len (ps.zip (sharesR n ps))
  rw [List.length_zip] at h6
  unfold onesR; omega
theorem c38 (nl : Bool) (n : Int) (ps : List (Int × Int)) (st : St) : run L 38 [bkAV nl n ps] st = some (.tup [sl 1 true ((rrv n ps).1.map listAV), I (rrv n ps).2], st) := by
  rw [run_pure (fn := ir38) rfl rfl]
  have h23 := fun st => c23 nl n ps st
  unfold rrv
  by_cases h : chk n ps = 0
  · obtain ⟨h1, h2, h3, h4, h5⟩ := chk_zero h
    obtain ⟨k, rfl⟩ := Int.eq_ofNat_of_zero_le (show 0 ≤ n by omega)
    have h88 := fun st => c88 nl k (by omega) ps h3 st
    have hl := (sharesR_len k ps).1
    rw [if_pos h]
    simp only [Int.toNat_natCast]
    have hro := fun T acc => ren1_o (Nat.le_refl (outT (onesR k ps)).length) T acc
    have hn0 := ren1_n (outT (onesR k ps)) []
    simp only [ir38, go_sem, reduceIte, Nat.reduceEqDiff, Nat.reduceAdd, Nat.reduceSub, Nat.reduceLeDiff, Nat.reduceLT, reduceCtorEq, Int.reduceLT, Int.reduceLE, Int.reduceEq, Int.reduceBEq, Int.reduceSub, Int.reduceAdd, Int.reduceMul, Int.reduceNeg, Int.reduceToNat, Nat.reduceMul, Nat.reduceBEq, h23, h, h88]
    generalize hg : lim (headed pure (run L) true _ lp38_0 _ _) _ _ = o
    obtain ⟨x, en, s, rfl, h2⟩ : ∃ x en s, o = some (x, en, s) ∧ _ := by rw [← hg]; exact loop38_0 nl k ps h3 (sharesR k ps) hl 0 [] ⟨by omega, by simp⟩ _ _ (by simp only [go_sem, reduceIte, Nat.reduceEqDiff, Nat.reduceAdd, Nat.reduceSub, Nat.reduceLeDiff, Nat.reduceLT, reduceCtorEq, Int.reduceLT, Int.reduceLE, Int.reduceEq, Int.reduceBEq, Int.reduceSub, Int.reduceAdd, Int.reduceMul, Int.reduceNeg, Int.reduceToNat, Nat.reduceMul, Nat.reduceBEq, show outAV [] = .v (.slice none 0 0) from rfl, show outT [] = [] from rfl, ren1_out, outAcc_snd, Int.natCast_zero] <;> rfl)
    clear hg
    rw [List.drop_zero, List.nil_append] at h2
    obtain ⟨rfl, e1, e6, rfl⟩ := h2
    have hones : onesL (ps.zip (sharesR k ps)) = onesR k ps := rfl
    rw [hones] at e6 ⊢
    have hol := onesR_len (n := k) h3
    generalize onesR k ps = os at *
    have hlen := rgA_len (n := k) (by omega) os 0
    simp only [go_sem, reduceIte, Nat.reduceEqDiff, Nat.reduceAdd, Nat.reduceSub, Nat.reduceLeDiff, Nat.reduceLT, reduceCtorEq, Int.reduceLT, Int.reduceLE, Int.reduceEq, Int.reduceBEq, Int.reduceSub, Int.reduceAdd, Int.reduceMul, Int.reduceNeg, Int.reduceToNat, Nat.reduceMul, Nat.reduceBEq, e1, e6]
    generalize hg : lim (headed pure (run L) true _ lp38_1 _ _) _ _ = o
    obtain ⟨x, en, s, rfl, h2⟩ : ∃ x en s, o = some (x, en, s) ∧ _ := by rw [← hg]; exact loop38_1 nl k (by omega) ps os hol _ rfl 0 [] ⟨by omega, by simp only [List.length_nil]; omega⟩ _ _ (by simp only [go_sem, reduceIte, Nat.reduceEqDiff, Nat.reduceAdd, Nat.reduceSub, Nat.reduceLeDiff, Nat.reduceLT, reduceCtorEq, Int.reduceLT, Int.reduceLE, Int.reduceEq, Int.reduceBEq, Int.reduceSub, Int.reduceAdd, Int.reduceMul, Int.reduceNeg, Int.reduceToNat, Nat.reduceMul, Nat.reduceBEq, e1, e6, hro, show nAV (outT os).length [] = .v (.slice none 0 0) from rfl, show nT [] = [] from rfl, List.append_nil, List.take_length, Int.natCast_zero] <;> rfl)
    clear hg
    rw [List.nil_append, rgA_zero] at h2
    obtain ⟨rfl, e8⟩ := h2
    simp only [go_sem, reduceIte, Nat.reduceEqDiff, Nat.reduceAdd, Nat.reduceSub, Nat.reduceLeDiff, Nat.reduceLT, reduceCtorEq, Int.reduceLT, Int.reduceLE, Int.reduceEq, Int.reduceBEq, Int.reduceSub, Int.reduceAdd, Int.reduceMul, Int.reduceNeg, Int.reduceToNat, Nat.reduceMul, Nat.reduceBEq, e8]
  · rw [if_neg h]
    simp only [ir38, go_sem, reduceIte, Nat.reduceEqDiff, Nat.reduceAdd, Nat.reduceSub, Nat.reduceLeDiff, Nat.reduceLT, reduceCtorEq, Int.reduceLT, Int.reduceLE, Int.reduceEq, Int.reduceBEq, Int.reduceSub, Int.reduceAdd, Int.reduceMul, Int.reduceNeg, Int.reduceToNat, Nat.reduceMul, Nat.reduceBEq, h23, h]
    rfl
theorem rgHd_ne {os : List (Int × Int)} {b l : List Int} (h : l ∈ rgHd os b) : l ≠ [] ∧ l = b := by
  unfold rgHd at h
  split at h
  · next hc =>
    simp at h; subst h
    refine ⟨?_, rfl⟩
    intro e; rw [e] at hc; simp at hc
  · simp at h
theorem rgF_ne {n : Nat} {os : List (Int × Int)} : ∀ (k : Nat) (b l : List Int), b.length + k ≤ 20 → l ∈ rgF n os k b → l ≠ [] ∧ l.length ≤ 20
  | 0, b, l, hb, h => by
    simp only [rgF] at h
    obtain ⟨h1, rfl⟩ := rgHd_ne h
    exact ⟨h1, by omega⟩
  | k + 1, b, l, hb, h => by
    simp only [rgF, List.mem_append, List.mem_flatMap] at h
    rcases h with h | ⟨x, _, h⟩
    · obtain ⟨h1, rfl⟩ := rgHd_ne h
      exact ⟨h1, by omega⟩
    · split at h
      · exact rgF_ne k _ l (by simp; omega) h
      · simp at h
theorem rgsR_ne {n : Nat} {os : List (Int × Int)} : ∀ l ∈ rgsR n os, l ≠ [] ∧ l.length ≤ 20 := by
  intro l hl
  unfold rgsR at hl
  obtain ⟨a, _, h⟩ := List.mem_flatMap.1 hl
  exact rgF_ne 6 _ l (by simp) h


theorem rgv_eq (n : Int) (ps : List (Int × Int)) : rgv n ps = rrv n ps := by
  unfold rgv rrv
  by_cases h : chk n ps = 0
  · rw [if_pos h, if_pos h]
    obtain ⟨h1, h2, h3, h4, h5⟩ := chk_zero h
    obtain ⟨k, rfl⟩ := Int.eq_ofNat_of_zero_le (show 0 ≤ n by omega)
    simp only [Int.toNat_natCast]
    rw [rings_eq (by omega) (by omega) h4 h5 (chk_nodup h)]
  · rw [if_neg h, if_neg h]
theorem rrv_ok (n : Int) (ps : List (Int × Int)) : (∀ l ∈ (rrv n ps).1, l ≠ [] ∧ l.length ≤ 20) ∧ (rrv n ps).1.length ≤ 391909 := by
  unfold rrv
  by_cases h : chk n ps = 0
  · rw [if_pos h]
    obtain ⟨h1, h2, h3, h4, h5⟩ := chk_zero h
    refine ⟨rgsR_ne, ?_⟩
    rw [← rgA_zero]
    exact rgA_len (by omega) _ 0
  · rw [if_neg h]; simp
theorem shv_len (n : Int) (ps : List (Int × Int)) : (shv n ps).1.length ≤ ps.length := by
  unfold shv
  by_cases h : chk n ps = 0
  · rw [if_pos h]
    have := (sharesR_len n.toNat ps).1
    simp only; omega
  · rw [if_neg h]; simp
theorem c37r (nl : Bool) (n : Int) (ps : List (Int × Int)) (st : St) : run L 37 [bkAV nl n ps] st = some (.tup [sl 1 true ((rrv n ps).1.map listAV), I (rrv n ps).2], st) := by
  rw [c37, rgv_eq, rw_list (fun l hl => ((rrv_ok n ps).1 l hl).1)]
theorem c5 (nl n2 n3 : Bool) (n : Int) (ps : List (Int × Int)) (v s : List Int) (st : St) : run L 5 [bkAV nl n ps, sl 1 n2 (v.map I), sl 1 n3 (s.map I)] st = some (B true, st) := by
  rw [run_pure (fn := ir5) rfl rfl]
  by_cases p1 : 40 < ps.length
  · have q1 : ((40 : Int) < (ps.length : Int)) = True := eq_true (by omega)
    simp only [ir5, go_sem, reduceIte, Nat.reduceEqDiff, Nat.reduceAdd, Nat.reduceSub, Nat.reduceLeDiff, Nat.reduceLT, reduceCtorEq, Int.reduceLT, Int.reduceLE, Int.reduceEq, Int.reduceBEq, Int.reduceSub, Int.reduceAdd, Int.reduceMul, Int.reduceNeg, Int.reduceToNat, Nat.reduceMul, Nat.reduceBEq, List.length_map, q1, c16]
  · have q1 : ((40 : Int) < (ps.length : Int)) = False := eq_false (by omega)
    by_cases p2 : 40 < v.length
    · have q2 : ((40 : Int) < (v.length : Int)) = True := eq_true (by omega)
      simp only [ir5, go_sem, reduceIte, Nat.reduceEqDiff, Nat.reduceAdd, Nat.reduceSub, Nat.reduceLeDiff, Nat.reduceLT, reduceCtorEq, Int.reduceLT, Int.reduceLE, Int.reduceEq, Int.reduceBEq, Int.reduceSub, Int.reduceAdd, Int.reduceMul, Int.reduceNeg, Int.reduceToNat, Nat.reduceMul, Nat.reduceBEq, List.length_map, q1, q2, c16]
    · have q2 : ((40 : Int) < (v.length : Int)) = False := eq_false (by omega)
      by_cases p3 : 40 < s.length
      · have q3 : ((40 : Int) < (s.length : Int)) = True := eq_true (by omega)
        simp only [ir5, go_sem, reduceIte, Nat.reduceEqDiff, Nat.reduceAdd, Nat.reduceSub, Nat.reduceLeDiff, Nat.reduceLT, reduceCtorEq, Int.reduceLT, Int.reduceLE, Int.reduceEq, Int.reduceBEq, Int.reduceSub, Int.reduceAdd, Int.reduceMul, Int.reduceNeg, Int.reduceToNat, Nat.reduceMul, Nat.reduceBEq, List.length_map, q1, q2, q3, c16]
      · have q3 : ((40 : Int) < (s.length : Int)) = False := eq_false (by omega)
        obtain ⟨n4, h35⟩ := c35 nl n ps
        have h36 := fun st => c36 nl n ps st
        have h37 := fun st => c37r nl n ps st
        have h38 := fun st => c38 nl n ps st
        have h40 := fun st => c40 nl n3 n ps s (by omega) st
        have h41 := fun st => c41 nl n3 n ps s (by omega) st
        have h42 := fun st => c42 nl n2 n3 n ps v s (by omega) (by omega) st
        have h43 := fun st => c43 nl n2 n3 n ps v s (by omega) (by omega) st
        have l1 := shv_len n ps
        obtain ⟨r1, r2⟩ := rrv_ok n ps
        have k1 := fun st => c21 n4 true (shv n ps).1 (shv n ps).1 (by omega) st
        have k2 := fun st => c39 true true (rrv n ps).1 (rrv n ps).1 (by omega) (fun l hl => by have := (r1 l hl).2; omega) st
        simp only [decide_true] at k1 k2
        simp only [ir5, go_sem, reduceIte, Nat.reduceEqDiff, Nat.reduceAdd, Nat.reduceSub, Nat.reduceLeDiff, Nat.reduceLT, reduceCtorEq, Int.reduceLT, Int.reduceLE, Int.reduceEq, Int.reduceBEq, Int.reduceSub, Int.reduceAdd, Int.reduceMul, Int.reduceNeg, Int.reduceToNat, Nat.reduceMul, Nat.reduceBEq, List.length_map, q1, q2, q3, h35, h36, h37, h38, h40, h41, h42, h43, k1, k2, c16]
end Go.Proofs.YtpmbfgogpcjdlaaDoor.Vm
