/- What is proved: what each function of this program computes, as equations on the evaluator. No condition. -/
import Derived.Test.YtpmbfgogpcjdlaaDoorC1
import Derived.KernelRfl
import Derived.Test.YtpmbfgogpcjdlaaDoorFkf
set_option linter.all false
namespace Go.Proofs.YtpmbfgogpcjdlaaDoor.Vm
open Go Go.Ev
set_option maxRecDepth 100000
attribute [local go_sem] cells_any storable_any ren1_any shaped_ptr cells_ptr storable_ptr ren1_ptr shaped_eptr cells_eptr storable_eptr ren1_eptr shaped_rsl cells_rsl storable_rsl ren1_rsl shaped_int cells_int storable_int ren1_int shaped_bool cells_bool storable_bool ren1_bool shaped_nils cells_nils storable_nils ren1_nils shaped_lst cells_lst storable_lst shaped_fn cells_fn storable_fn ren1_fn shaped_ifc cells_ifc storable_ifc ren1_ifc shaped_agg cells_agg storable_agg ren1_agg shaped_tup cells_tup storable_tup ren1_tup shaped_nif cells_nif storable_nif ren1_nif ren1_lany ren1_lfull ren1_lown len_lst len_rsl len_nil load_ptr load_eptr isRsl_lst isRsl_nil isRsl_rsl elems_nil elems_lst elems_sl isRsl_sl body_eq bodyK_normal bodyK_ret resK_some leaveK_some only_some code_skip code_exit code_ret code_ops code_seq code_cond code_block seqK_normal seqK_ret seqK_exit condK_true condK_false blockK_normal blockK_ret blockK_exit opsK_some ops_nil ops_cons wantK_true wantK_false stepK_some pubs pub pub_sl params okRef_loc storable_loc shaped_loc cells_loc isRsl_loc elems_loc len_loc untips untip untip_sl wantedAV setElems withO isAgg_v isAgg_agg isAgg_lst isAgg_ptr isAgg_fn isAgg_ifc isAgg_rsl isAgg_sl isAgg_loc List.replicate_succ List.replicate_zero opAV valAV aval avals ofVal Env.get setD canon gcAV renAll renEnv renStore renCells ren1_sl cutSt okEnv okStore okRefs okRef okRef_sl bin_int bin_bool bin_lst bin_rsl bin_nil bin_agg cellsEq cellEq isShift intOp boolOp min_int max_int beq_int bne resAV tupAV leave_eq fin_sl fin_loc fins fin_v fin_lst fin_agg fin_tup fin_fn storeAV readCells putCells cells_sl shaped_sl storable_sl fieldAddrAV len_sl goI List.getElem?_cons_zero List.getElem?_cons_succ List.getElem?_nil Option.bind_some Option.map_some List.length_cons List.length_nil List.all_cons List.all_nil Bool.and_true Bool.true_and Bool.and_false Bool.false_and and_true true_and and_false false_and Bool.false_eq_true List.set_cons_zero List.set_cons_succ List.append_nil List.nil_append List.cons_append List.take_zero List.take_succ_cons List.take_nil List.drop_zero List.drop_succ_cons List.map_cons List.map_nil decide_true decide_false beq_self_eq_true Bool.not_true Bool.not_false or_true true_or or_false false_or Nat.zero_add Nat.add_zero Nat.le_refl Nat.lt_irrefl decide_eq_true_eq eq_self_iff_true not_true_eq_false not_false_eq_true List.getD_cons_zero code_loop Nat.zero_le Nat.not_lt_zero Bool.true_beq Bool.false_beq beq_true beq_false ge_iff_le gt_iff_lt Lpure pus Option.map_none assert_ifc assert_nil idxA_ptr idxA_eptr idxV_agg Int.cast_ofNat_Int Nat.mul_one Nat.zero_mul Int.toNat_natCast Int.toNat_zero setParts withO2 hasKey eqnil_sl nenil_sl eqnil_loc nenil_loc map_nil_iff okRefs_ints renCells_ints
attribute [local go_sem] okRef_v pub_v len_v

theorem ren1_v0 (v : List Int) (acc : List (Nat × Nat)) : ren1 (vT v).length (vT v) acc (vAV v) = (vAV v, acc) := by
  have := ren1_vH v [] acc
  rwa [sT_nil, List.append_nil] at this
theorem pow3_le {i : Nat} (h : i ≤ 7) : 3 ^ i ≤ 2187 := Nat.le_trans (Nat.pow_le_pow_right (by omega) h) (by decide)

theorem loop6_0 (zs : List Int) (n : Nat) (hn : n ≤ 7) (ps : List (Int × Int)) (v : List Int) (tot : Int) (i : Nat) (hok : i ≤ n) (env : Env) (st : St)
    (hg : gcAV true 2 0 (canon env [3, 4, 6, 7, 52, 53]) st = ([(3, .ptr 1 0), (4, sl 1 true (v.map I)), (6, I tot), (7, .v (.int .i64 ((3 ^ i : Nat) : Int))), (52, I n), (53, I i)], ⟨[zs.map B8, bkCells true n ps], []⟩)) :
    ∃ x_1 en s, lim (headed pure (run L) true [3, 4, 6, 7, 52, 53] lp6_0 2 0) env st = some (x_1, en, s) ∧ (x_1 = .exit 0 ∧ en.get 3 = .ptr 1 0 ∧ en.get 4 = sl 1 true (v.map I) ∧ en.get 6 = I tot ∧ en.get 7 = I ((3 ^ n : Nat) : Int) ∧ s = ⟨[zs.map B8, bkCells true n ps], []⟩) := by
  refine loop_wp (α := Nat) (fun i => n - i) (fun i => i ≤ n) (fun i => ([(3, .ptr 1 0), (4, sl 1 true (v.map I)), (6, I tot), (7, .v (.int .i64 ((3 ^ i : Nat) : Int))), (52, I n), (53, I i)], ⟨[zs.map B8, bkCells true n ps], []⟩)) (fun i x_1 en s => x_1 = .exit 0 ∧ en.get 3 = .ptr 1 0 ∧ en.get 4 = sl 1 true (v.map I) ∧ en.get 6 = I tot ∧ en.get 7 = I ((3 ^ n : Nat) : Int) ∧ s = ⟨[zs.map B8, bkCells true n ps], []⟩) (fun i hok => ?_) i hok env st hg
  by_cases h : i < n
  · have hs := succ64 i (by omega)
    have hlt : ((i : Int) < (n : Int)) = True := eq_true (by omega)
    have hp : 3 ^ (i + 1) = 3 ^ i * 3 := Nat.pow_succ 3 i
    have hb := pow3_le (i := i) (by omega)
    have hw : IntKind.i64.wrap (((3 ^ i : Nat) : Int) * 3) = ((3 ^ (i + 1) : Nat) : Int) := by rw [hp, wrap64] <;> omega
    simp only [go_sem, reduceIte, Nat.reduceEqDiff, Nat.reduceAdd, Nat.reduceSub, Nat.reduceLeDiff, Nat.reduceLT, reduceCtorEq, Int.reduceLT, Int.reduceLE, Int.reduceEq, Int.reduceBEq, Int.reduceSub, Int.reduceAdd, Int.reduceMul, Int.reduceNeg, Int.reduceToNat, Nat.reduceMul, Nat.reduceBEq, index_rsl_if, setm, make_ints, condK_dec, wantK_dec, not_dec, and_dec, or_dec, seqK_ite, seqK_none, blockK_ite, blockK_none, opsK_ite, opsK_none, stepK_ite, stepK_none, bodyK_ite, bodyK_none, resK_ite, resK_none, leaveK_ite, leaveK_none, only_ite, only_none, bind_ite, gives_some, gives_none, gives_ite, then_normal, then_ret, then_exit, then_none, then_ite, Option.bind_none, Bool.not_eq_true', decide_eq_false_iff_not, Bool.and_eq_true, Bool.or_eq_true, Option.some.injEq, Int.not_lt, Int.not_le, lp6_0, hlt, hs, hw]
    refine ⟨i + 1, by simp only [go_sem, reduceIte, Nat.reduceEqDiff, Nat.reduceAdd, Nat.reduceSub, Nat.reduceLeDiff, Nat.reduceLT, reduceCtorEq, Int.reduceLT, Int.reduceLE, Int.reduceEq, Int.reduceBEq, Int.reduceSub, Int.reduceAdd, Int.reduceMul, Int.reduceNeg, Int.reduceToNat, Nat.reduceMul, Nat.reduceBEq, ren1_locm, loc_tips, locT_eq, okRefsB, renCellsB] <;> rfl, ?_, ?_, fun x en s hq => ?_⟩
    · omega
    · omega
    · exact hq
  · obtain rfl : i = n := by omega
    simp only [go_sem, reduceIte, Nat.reduceEqDiff, Nat.reduceAdd, Nat.reduceSub, Nat.reduceLeDiff, Nat.reduceLT, reduceCtorEq, Int.reduceLT, Int.reduceLE, Int.reduceEq, Int.reduceBEq, Int.reduceSub, Int.reduceAdd, Int.reduceMul, Int.reduceNeg, Int.reduceToNat, Nat.reduceMul, Nat.reduceBEq, index_rsl_if, setm, make_ints, condK_dec, wantK_dec, not_dec, and_dec, or_dec, seqK_ite, seqK_none, blockK_ite, blockK_none, opsK_ite, opsK_none, stepK_ite, stepK_none, bodyK_ite, bodyK_none, resK_ite, resK_none, leaveK_ite, leaveK_none, only_ite, only_none, bind_ite, gives_some, gives_none, gives_ite, then_normal, then_ret, then_exit, then_none, then_ite, Option.bind_none, Bool.not_eq_true', decide_eq_false_iff_not, Bool.and_eq_true, Bool.or_eq_true, Option.some.injEq, Int.not_lt, Int.not_le, lp6_0, show ((i : Int) < (i : Int)) = False from eq_false (by omega)]

/-- The digits of a number, the highest first. -/
def digTo (n k j : Nat) : List Int := (List.range j).map fun i => ((k / 3 ^ (n - 1 - i) % 3 : Nat) : Int)
theorem digTo_succ (n k j : Nat) : digTo n k (j + 1) = digTo n k j ++ [((k / 3 ^ (n - 1 - j) % 3 : Nat) : Int)] := by simp [digTo, List.range_succ]
theorem digTo_len (n k j : Nat) : (digTo n k j).length = j := by simp [digTo]
theorem digTo_bd (n k j : Nat) : ∀ x ∈ digTo n k j, 0 ≤ x ∧ x ≤ 2 := by
  intro x hx; unfold digTo at hx; rw [List.mem_map] at hx; obtain ⟨i, _, rfl⟩ := hx
  have := Nat.mod_lt (k / 3 ^ (n - 1 - i)) (show 0 < 3 by omega)
  omega
def dAt (n j : Nat) : Nat := if j < n then 3 ^ (n - 1 - j) else 0
theorem dAt_zero {n : Nat} (h : 1 ≤ n) : dAt n 0 = 3 ^ n / 3 := by
  unfold dAt; rw [if_pos (by omega)]
  obtain ⟨m, rfl⟩ : ∃ m, n = m + 1 := ⟨n - 1, by omega⟩
  rw [Nat.pow_succ]; simp
theorem dAt_succ {n j : Nat} (h : j < n) : dAt n j / 3 = dAt n (j + 1) := by
  unfold dAt; rw [if_pos h]
  split
  · next h2 =>
    rw [show n - 1 - j = (n - 1 - (j + 1)) + 1 by omega, Nat.pow_succ]; simp
  · next h2 => rw [show n - 1 - j = 0 by omega]
theorem nat_tdiv (a b : Nat) : (a : Int).tdiv (b : Int) = ((a / b : Nat) : Int) := rfl
theorem nat_tmod (a b : Nat) : (a : Int).tmod (b : Int) = ((a % b : Nat) : Int) := rfl

theorem loop6_1 (zs : List Int) (n : Nat) (hn1 : 1 ≤ n) (hn : n ≤ 7) (ps : List (Int × Int)) (v : List Int) (tot : Int) (found : Bool) (k N : Nat) (hk : k < 2187) (j : Nat) (hok : j ≤ n) (env : Env) (st : St)
    (hg : gcAV true 2 0 (canon env [3, 4, 6, 7, 8, 9, 10, 11, 58, 59]) st = ([(3, .ptr 1 0), (4, sl 1 true (v.map I)), (6, I tot), (7, I N), (8, B found), (9, I k), (10, vAV (digTo n k j)), (11, I (dAt n j)), (58, I N), (59, I k)], ⟨[zs.map B8, bkCells true n ps], vT (digTo n k j)⟩)) :
    ∃ x_1 en s, lim (headed pure (run L) true [3, 4, 6, 7, 8, 9, 10, 11, 58, 59] lp6_1 2 0) env st = some (x_1, en, s) ∧ (x_1 = .exit 4 ∧ en.get 3 = .ptr 1 0 ∧ en.get 4 = sl 1 true (v.map I) ∧ en.get 6 = I tot ∧ en.get 7 = I N ∧ en.get 8 = B found ∧ en.get 10 = vAV (digTo n k n) ∧ en.get 58 = I N ∧ en.get 59 = I k ∧ s = ⟨[zs.map B8, bkCells true n ps], vT (digTo n k n)⟩) := by
  refine loop_wp (α := Nat) (fun j => n - j) (fun j => j ≤ n) (fun j => ([(3, .ptr 1 0), (4, sl 1 true (v.map I)), (6, I tot), (7, I N), (8, B found), (9, I k), (10, vAV (digTo n k j)), (11, I (dAt n j)), (58, I N), (59, I k)], ⟨[zs.map B8, bkCells true n ps], vT (digTo n k j)⟩)) (fun j x_1 en s => x_1 = .exit 4 ∧ en.get 3 = .ptr 1 0 ∧ en.get 4 = sl 1 true (v.map I) ∧ en.get 6 = I tot ∧ en.get 7 = I N ∧ en.get 8 = B found ∧ en.get 10 = vAV (digTo n k n) ∧ en.get 58 = I N ∧ en.get 59 = I k ∧ s = ⟨[zs.map B8, bkCells true n ps], vT (digTo n k n)⟩) (fun j hok => ?_) j hok env st hg
  by_cases h : j < n
  · have hd : dAt n j = 3 ^ (n - 1 - j) := by unfold dAt; rw [if_pos h]
    have hpos : 0 < 3 ^ (n - 1 - j) := Nat.pow_pos (by omega)
    have hb := pow3_le (i := n - 1 - j) (by omega)
    have hsu := digTo_succ n k j
    have hdl := digTo_len n k j
    have hnx := dAt_succ h
    rw [← hd] at hsu hpos hb
    generalize dAt n j = d at *
    have hgt : ((0 : Int) < (d : Int)) = True := eq_true (by omega)
    have hz : ((d : Int) = 0) = False := eq_false (by omega)
    have t1 := nat_tdiv k d
    have t2 : ((k / d : Nat) : Int).tmod 3 = ((k / d % 3 : Nat) : Int) := nat_tmod (k / d) 3
    have t3 : (d : Int).tdiv 3 = ((dAt n (j + 1) : Nat) : Int) := by rw [← hnx]; exact nat_tdiv d 3
    have hkd : k / d ≤ k := Nat.div_le_self k d
    have hd3 : dAt n (j + 1) ≤ d := by rw [← hnx]; exact Nat.div_le_self d 3
    have w2 : IntKind.i64.wrap ((dAt n (j + 1) : Nat) : Int) = ((dAt n (j + 1) : Nat) : Int) := by rw [wrap64] <;> omega
    have happ := fun S => append_v (digTo n k j) ((k / d % 3 : Nat) : Int) S (by omega)
    rw [← hsu] at happ
    generalize k / d = q0 at *
    have w1 : IntKind.i64.wrap (q0 : Int) = (q0 : Int) := by rw [wrap64] <;> omega
    simp only [go_sem, reduceIte, Nat.reduceEqDiff, Nat.reduceAdd, Nat.reduceSub, Nat.reduceLeDiff, Nat.reduceLT, reduceCtorEq, Int.reduceLT, Int.reduceLE, Int.reduceEq, Int.reduceBEq, Int.reduceSub, Int.reduceAdd, Int.reduceMul, Int.reduceNeg, Int.reduceToNat, Nat.reduceMul, Nat.reduceBEq, index_rsl_if, setm, make_ints, condK_dec, wantK_dec, not_dec, and_dec, or_dec, seqK_ite, seqK_none, blockK_ite, blockK_none, opsK_ite, opsK_none, stepK_ite, stepK_none, bodyK_ite, bodyK_none, resK_ite, resK_none, leaveK_ite, leaveK_none, only_ite, only_none, bind_ite, gives_some, gives_none, gives_ite, then_normal, then_ret, then_exit, then_none, then_ite, Option.bind_none, Bool.not_eq_true', decide_eq_false_iff_not, Bool.and_eq_true, Bool.or_eq_true, Option.some.injEq, Int.not_lt, Int.not_le, lp6_1, hgt, hz, t1, t2, t3, w1, w2, happ]
    refine ⟨j + 1, by simp only [go_sem, reduceIte, Nat.reduceEqDiff, Nat.reduceAdd, Nat.reduceSub, Nat.reduceLeDiff, Nat.reduceLT, reduceCtorEq, Int.reduceLT, Int.reduceLE, Int.reduceEq, Int.reduceBEq, Int.reduceSub, Int.reduceAdd, Int.reduceMul, Int.reduceNeg, Int.reduceToNat, Nat.reduceMul, Nat.reduceBEq, ren1_locm, loc_tips, locT_eq, ren1_v, vAcc_snd, okRefsB, renCellsB] <;> rfl, ?_, ?_, fun x en s hq => ?_⟩
    · omega
    · omega
    · exact hq
  · obtain rfl : j = n := by omega
    have hd : dAt j j = 0 := by unfold dAt; rw [if_neg (by omega)]
    simp only [go_sem, reduceIte, Nat.reduceEqDiff, Nat.reduceAdd, Nat.reduceSub, Nat.reduceLeDiff, Nat.reduceLT, reduceCtorEq, Int.reduceLT, Int.reduceLE, Int.reduceEq, Int.reduceBEq, Int.reduceSub, Int.reduceAdd, Int.reduceMul, Int.reduceNeg, Int.reduceToNat, Nat.reduceMul, Nat.reduceBEq, index_rsl_if, setm, make_ints, condK_dec, wantK_dec, not_dec, and_dec, or_dec, seqK_ite, seqK_none, blockK_ite, blockK_none, opsK_ite, opsK_none, stepK_ite, stepK_none, bodyK_ite, bodyK_none, resK_ite, resK_none, leaveK_ite, leaveK_none, only_ite, only_none, bind_ite, gives_some, gives_none, gives_ite, then_normal, then_ret, then_exit, then_none, then_ite, Option.bind_none, Bool.not_eq_true', decide_eq_false_iff_not, Bool.and_eq_true, Bool.or_eq_true, Option.some.injEq, Int.not_lt, Int.not_le, lp6_1, hd, Int.natCast_zero]

theorem loop6_2 (zs : List Int) (n : Nat) (hn : n ≤ 7) (ps : List (Int × Int)) (hlen : ps.length ≤ 10) (hps : ∀ p ∈ ps, 0 ≤ p.1 ∧ p.1 < p.2 ∧ p.2 < (n : Int)) (v : List Int) (tot : Int) (found : Bool) (k N : Nat) (l : List Int) (hl : l.length = n) (hlb : ∀ x ∈ l, 0 ≤ x ∧ x ≤ 2) (th : Nat) (hth : th = (vT l).length) (i : Nat) (e : Bool) (hok : i ≤ ps.length) (env : Env) (st : St)
    (hg : gcAV true 2 th (canon env [3, 4, 6, 7, 8, 10, 12, 58, 59, 76, 77, 78]) st = ([(3, .ptr 1 0), (4, sl 1 true (v.map I)), (6, I tot), (7, I N), (8, B found), (10, vAV l), (12, B e), (58, I N), (59, I k), (76, sl 2 true (ps.map prAV)), (77, I ps.length), (78, I i)], ⟨[zs.map B8, bkCells true n ps], vT l⟩)) :
    ∃ x_1 en s, lim (headed pure (run L) true [3, 4, 6, 7, 8, 10, 12, 58, 59, 76, 77, 78] lp6_2 2 th) env st = some (x_1, en, s) ∧ (x_1 = .exit 6 ∧ en.get 3 = .ptr 1 0 ∧ en.get 4 = sl 1 true (v.map I) ∧ en.get 6 = I tot ∧ en.get 7 = I N ∧ en.get 8 = B found ∧ en.get 10 = vAV l ∧ en.get 12 = B (e && halfOk (ps.drop i) l) ∧ en.get 58 = I N ∧ en.get 59 = I k ∧ s = ⟨[zs.map B8, bkCells true n ps], vT l⟩) := by
  refine loop_wp (α := Nat × Bool) (fun ⟨i, e⟩ => ps.length - i) (fun ⟨i, e⟩ => i ≤ ps.length) (fun ⟨i, e⟩ => ([(3, .ptr 1 0), (4, sl 1 true (v.map I)), (6, I tot), (7, I N), (8, B found), (10, vAV l), (12, B e), (58, I N), (59, I k), (76, sl 2 true (ps.map prAV)), (77, I ps.length), (78, I i)], ⟨[zs.map B8, bkCells true n ps], vT l⟩)) (fun ⟨i, e⟩ x_1 en s => x_1 = .exit 6 ∧ en.get 3 = .ptr 1 0 ∧ en.get 4 = sl 1 true (v.map I) ∧ en.get 6 = I tot ∧ en.get 7 = I N ∧ en.get 8 = B found ∧ en.get 10 = vAV l ∧ en.get 12 = B (e && halfOk (ps.drop i) l) ∧ en.get 58 = I N ∧ en.get 59 = I k ∧ s = ⟨[zs.map B8, bkCells true n ps], vT l⟩) (fun ⟨i, e⟩ hok => ?_) ⟨i, e⟩ hok env st hg
  simp only at hok
  subst hth
  dsimp only
  by_cases h : i < ps.length
  · have hx := index_prs true ps i h
    have hs := succ64 i (by omega)
    have hd : ps.drop i = ps[i] :: ps.drop (i + 1) := List.drop_eq_getElem_cons h
    have hp := hps ps[i] (List.getElem_mem h)
    have hlt : ((i : Int) < (ps.length : Int)) = True := eq_true (by omega)
    rw [hd]
    generalize ps[i] = c at *
    obtain ⟨a, b⟩ := c
    simp only at hx hp
    have hxa := index_v l a (by omega) (by omega)
    have hxb := index_v l b (by omega) (by omega)
    have hba := getD_bd (B := 2) (by omega) hlb a.toNat
    have hbb := getD_bd (B := 2) (by omega) hlb b.toNat
    have hE : enough l (a, b) = decide (2 ≤ l.getD a.toNat 0 + l.getD b.toNat 0) := rfl
    have hF : halfOk ((a, b) :: ps.drop (i + 1)) l = (decide (2 ≤ l.getD a.toNat 0 + l.getD b.toNat 0) && halfOk (ps.drop (i + 1)) l) := by simp only [halfOk, List.all_cons, hE]
    rw [hF]
    generalize l.getD a.toNat 0 = x at *
    generalize l.getD b.toNat 0 = y at *
    have hw : IntKind.i64.wrap (x + y) = x + y := by rw [wrap64] <;> omega
    cases e
    · simp only [go_sem, reduceIte, Nat.reduceEqDiff, Nat.reduceAdd, Nat.reduceSub, Nat.reduceLeDiff, Nat.reduceLT, reduceCtorEq, Int.reduceLT, Int.reduceLE, Int.reduceEq, Int.reduceBEq, Int.reduceSub, Int.reduceAdd, Int.reduceMul, Int.reduceNeg, Int.reduceToNat, Nat.reduceMul, Nat.reduceBEq, index_rsl_if, setm, make_ints, condK_dec, wantK_dec, not_dec, and_dec, or_dec, seqK_ite, seqK_none, blockK_ite, blockK_none, opsK_ite, opsK_none, stepK_ite, stepK_none, bodyK_ite, bodyK_none, resK_ite, resK_none, leaveK_ite, leaveK_none, only_ite, only_none, bind_ite, gives_some, gives_none, gives_ite, then_normal, then_ret, then_exit, then_none, then_ite, Option.bind_none, Bool.not_eq_true', decide_eq_false_iff_not, Bool.and_eq_true, Bool.or_eq_true, Option.some.injEq, Int.not_lt, Int.not_le, lp6_2, hx, hlt, hs]
      refine ⟨(i + 1, false), by simp only [go_sem, reduceIte, Nat.reduceEqDiff, Nat.reduceAdd, Nat.reduceSub, Nat.reduceLeDiff, Nat.reduceLT, reduceCtorEq, Int.reduceLT, Int.reduceLE, Int.reduceEq, Int.reduceBEq, Int.reduceSub, Int.reduceAdd, Int.reduceMul, Int.reduceNeg, Int.reduceToNat, Nat.reduceMul, Nat.reduceBEq, ren1_locm, loc_tips, locT_eq, ren1_v0, List.take_length, okRefsB, renCellsB] <;> rfl, ?_, ?_, fun x en s hq => ?_⟩
      · omega
      · simp only; omega
      · simpa using hq
    · by_cases p : 1 < x + y
      · have hdec : decide (2 ≤ x + y) = true := decide_eq_true (by omega)
        simp only [go_sem, reduceIte, Nat.reduceEqDiff, Nat.reduceAdd, Nat.reduceSub, Nat.reduceLeDiff, Nat.reduceLT, reduceCtorEq, Int.reduceLT, Int.reduceLE, Int.reduceEq, Int.reduceBEq, Int.reduceSub, Int.reduceAdd, Int.reduceMul, Int.reduceNeg, Int.reduceToNat, Nat.reduceMul, Nat.reduceBEq, index_rsl_if, setm, make_ints, condK_dec, wantK_dec, not_dec, and_dec, or_dec, seqK_ite, seqK_none, blockK_ite, blockK_none, opsK_ite, opsK_none, stepK_ite, stepK_none, bodyK_ite, bodyK_none, resK_ite, resK_none, leaveK_ite, leaveK_none, only_ite, only_none, bind_ite, gives_some, gives_none, gives_ite, then_normal, then_ret, then_exit, then_none, then_ite, Option.bind_none, Bool.not_eq_true', decide_eq_false_iff_not, Bool.and_eq_true, Bool.or_eq_true, Option.some.injEq, Int.not_lt, Int.not_le, lp6_2, hx, hlt, hxa, hxb, hw, p, hs]
        refine ⟨(i + 1, true), by simp only [go_sem, reduceIte, Nat.reduceEqDiff, Nat.reduceAdd, Nat.reduceSub, Nat.reduceLeDiff, Nat.reduceLT, reduceCtorEq, Int.reduceLT, Int.reduceLE, Int.reduceEq, Int.reduceBEq, Int.reduceSub, Int.reduceAdd, Int.reduceMul, Int.reduceNeg, Int.reduceToNat, Nat.reduceMul, Nat.reduceBEq, ren1_locm, loc_tips, locT_eq, ren1_v0, List.take_length, okRefsB, renCellsB] <;> rfl, ?_, ?_, fun x en s hq => ?_⟩
        · omega
        · simp only; omega
        · rw [hdec]; simpa using hq
      · have hdec : decide (2 ≤ x + y) = false := decide_eq_false (by omega)
        simp only [go_sem, reduceIte, Nat.reduceEqDiff, Nat.reduceAdd, Nat.reduceSub, Nat.reduceLeDiff, Nat.reduceLT, reduceCtorEq, Int.reduceLT, Int.reduceLE, Int.reduceEq, Int.reduceBEq, Int.reduceSub, Int.reduceAdd, Int.reduceMul, Int.reduceNeg, Int.reduceToNat, Nat.reduceMul, Nat.reduceBEq, index_rsl_if, setm, make_ints, condK_dec, wantK_dec, not_dec, and_dec, or_dec, seqK_ite, seqK_none, blockK_ite, blockK_none, opsK_ite, opsK_none, stepK_ite, stepK_none, bodyK_ite, bodyK_none, resK_ite, resK_none, leaveK_ite, leaveK_none, only_ite, only_none, bind_ite, gives_some, gives_none, gives_ite, then_normal, then_ret, then_exit, then_none, then_ite, Option.bind_none, Bool.not_eq_true', decide_eq_false_iff_not, Bool.and_eq_true, Bool.or_eq_true, Option.some.injEq, Int.not_lt, Int.not_le, lp6_2, hx, hlt, hxa, hxb, hw, p, hs]
        refine ⟨(i + 1, false), by simp only [go_sem, reduceIte, Nat.reduceEqDiff, Nat.reduceAdd, Nat.reduceSub, Nat.reduceLeDiff, Nat.reduceLT, reduceCtorEq, Int.reduceLT, Int.reduceLE, Int.reduceEq, Int.reduceBEq, Int.reduceSub, Int.reduceAdd, Int.reduceMul, Int.reduceNeg, Int.reduceToNat, Nat.reduceMul, Nat.reduceBEq, ren1_locm, loc_tips, locT_eq, ren1_v0, List.take_length, okRefsB, renCellsB] <;> rfl, ?_, ?_, fun x en s hq => ?_⟩
        · omega
        · simp only; omega
        · rw [hdec]; simpa using hq
  · have hd : ps.drop i = [] := List.drop_eq_nil_of_le (by omega)
    have hlt : ((i : Int) < (ps.length : Int)) = False := eq_false (by omega)
    simp only [go_sem, reduceIte, Nat.reduceEqDiff, Nat.reduceAdd, Nat.reduceSub, Nat.reduceLeDiff, Nat.reduceLT, reduceCtorEq, Int.reduceLT, Int.reduceLE, Int.reduceEq, Int.reduceBEq, Int.reduceSub, Int.reduceAdd, Int.reduceMul, Int.reduceNeg, Int.reduceToNat, Nat.reduceMul, Nat.reduceBEq, index_rsl_if, setm, make_ints, condK_dec, wantK_dec, not_dec, and_dec, or_dec, seqK_ite, seqK_none, blockK_ite, blockK_none, opsK_ite, opsK_none, stepK_ite, stepK_none, bodyK_ite, bodyK_none, resK_ite, resK_none, leaveK_ite, leaveK_none, only_ite, only_none, bind_ite, gives_some, gives_none, gives_ite, then_normal, then_ret, then_exit, then_none, then_ite, Option.bind_none, Bool.not_eq_true', decide_eq_false_iff_not, Bool.and_eq_true, Bool.or_eq_true, Option.some.injEq, Int.not_lt, Int.not_le, lp6_2, hlt]
    rw [hd]; simp [halfOk]

attribute [local go_sem] okRef_v pub_v len_v

def goodK (n : Nat) (ps : List (Int × Int)) (tot : Int) (k : Nat) : Prop := halfOk ps (digTo n k n) = true ∧ sumL (digTo n k n) = tot
set_option maxHeartbeats 1000000 in
theorem loop6_3 (zs : List Int) (n : Nat) (hn1 : 1 ≤ n) (hn : n ≤ 7) (ps : List (Int × Int)) (hlen : ps.length ≤ 10) (hps : ∀ p ∈ ps, 0 ≤ p.1 ∧ p.1 < p.2 ∧ p.2 < (n : Int)) (v : List Int) (hvl : v.length ≤ 7) (tot : Int) (N : Nat) (hN : N = 3 ^ n) (hmin : ∀ k, k < N → halfOk ps (digTo n k n) = true → tot ≤ sumL (digTo n k n)) (hfst : ∀ k, k < N → goodK n ps tot k → (∀ j, j < k → ¬ goodK n ps tot j) → digTo n k n = v) (k : Nat) (found : Bool) (hok : k ≤ N ∧ (found = true ↔ ∃ j, j < k ∧ goodK n ps tot j)) (env : Env) (st : St)
    (hg : gcAV true 2 0 (canon env [3, 4, 6, 7, 8, 58, 59]) st = ([(3, .ptr 1 0), (4, sl 1 true (v.map I)), (6, I tot), (7, I N), (8, B found), (58, I N), (59, I k)], ⟨[zs.map B8, bkCells true n ps], []⟩)) :
    ∃ x_1 en s, lim (headed pure (run L) true [3, 4, 6, 7, 8, 58, 59] lp6_3 2 0) env st = some (x_1, en, s) ∧ (x_1 = .exit 2 ∧ en.get 3 = .ptr 1 0 ∧ en.get 4 = sl 1 true (v.map I) ∧ s = ⟨[zs.map B8, bkCells true n ps], []⟩) := by
  refine loop_wp (α := Nat × Bool) (fun ⟨k, found⟩ => N - k) (fun ⟨k, found⟩ => k ≤ N ∧ (found = true ↔ ∃ j, j < k ∧ goodK n ps tot j)) (fun ⟨k, found⟩ => ([(3, .ptr 1 0), (4, sl 1 true (v.map I)), (6, I tot), (7, I N), (8, B found), (58, I N), (59, I k)], ⟨[zs.map B8, bkCells true n ps], []⟩)) (fun ⟨k, found⟩ x_1 en s => x_1 = .exit 2 ∧ en.get 3 = .ptr 1 0 ∧ en.get 4 = sl 1 true (v.map I) ∧ s = ⟨[zs.map B8, bkCells true n ps], []⟩) (fun ⟨k, found⟩ hok => ?_) ⟨k, found⟩ hok env st hg
  simp only at hok
  obtain ⟨h1, hfd⟩ := hok
  dsimp only
  have hNb := pow3_le (i := n) hn
  rw [← hN] at hNb
  by_cases h : k < N
  · have hs := succ64 k (by omega)
    have hlt : ((k : Int) < (N : Int)) = True := eq_true (by omega)
    have t0 : (N : Int).tdiv 3 = ((dAt n 0 : Nat) : Int) := by rw [dAt_zero hn1, ← hN]; exact nat_tdiv N 3
    have hd0 : dAt n 0 ≤ N := by rw [dAt_zero hn1, ← hN]; exact Nat.div_le_self _ _
    have w0 : IntKind.i64.wrap ((dAt n 0 : Nat) : Int) = ((dAt n 0 : Nat) : Int) := by rw [wrap64] <;> omega
    have hl := digTo_len n k n
    have hlb := digTo_bd n k n
    have hm := hmin k h
    have hf := hfst k h
    have hgk : goodK n ps tot k ↔ (halfOk ps (digTo n k n) = true ∧ sumL (digTo n k n) = tot) := Iff.rfl
    have hnext : ∀ f' : Bool, (f' = true ↔ (found = true ∨ goodK n ps tot k)) → (k + 1 ≤ N ∧ (f' = true ↔ ∃ j, j < k + 1 ∧ goodK n ps tot j)) := by
      intro f' hf'
      refine ⟨by omega, ?_⟩
      rw [hf', hfd]
      constructor
      · rintro (⟨j, h3, h4⟩ | h3)
        · exact ⟨j, by omega, h4⟩
        · exact ⟨k, by omega, h3⟩
      · rintro ⟨j, h3, h4⟩
        by_cases e : j = k
        · subst e; exact .inr h4
        · exact .inl ⟨j, by omega, h4⟩
    simp only [go_sem, reduceIte, Nat.reduceEqDiff, Nat.reduceAdd, Nat.reduceSub, Nat.reduceLeDiff, Nat.reduceLT, reduceCtorEq, Int.reduceLT, Int.reduceLE, Int.reduceEq, Int.reduceBEq, Int.reduceSub, Int.reduceAdd, Int.reduceMul, Int.reduceNeg, Int.reduceToNat, Nat.reduceMul, Nat.reduceBEq, index_rsl_if, setm, make_ints, condK_dec, wantK_dec, not_dec, and_dec, or_dec, seqK_ite, seqK_none, blockK_ite, blockK_none, opsK_ite, opsK_none, stepK_ite, stepK_none, bodyK_ite, bodyK_none, resK_ite, resK_none, leaveK_ite, leaveK_none, only_ite, only_none, bind_ite, gives_some, gives_none, gives_ite, then_normal, then_ret, then_exit, then_none, then_ite, Option.bind_none, Bool.not_eq_true', decide_eq_false_iff_not, Bool.and_eq_true, Bool.or_eq_true, Option.some.injEq, Int.not_lt, Int.not_le, lp6_3, hlt, t0, w0]
    generalize hg : lim (headed pure (run L) true _ lp6_1 _ _) _ _ = o
    obtain ⟨x, en, s, rfl, h2⟩ : ∃ x en s, o = some (x, en, s) ∧ _ := by rw [← hg]; exact loop6_1 zs n hn1 hn ps v tot found k N (by omega) 0 (by omega) _ _ (by simp only [go_sem, reduceIte, Nat.reduceEqDiff, Nat.reduceAdd, Nat.reduceSub, Nat.reduceLeDiff, Nat.reduceLT, reduceCtorEq, Int.reduceLT, Int.reduceLE, Int.reduceEq, Int.reduceBEq, Int.reduceSub, Int.reduceAdd, Int.reduceMul, Int.reduceNeg, Int.reduceToNat, Nat.reduceMul, Nat.reduceBEq, okRefsB, renCellsB, show vAV (digTo n k 0) = .v (.slice none 0 0) from rfl, show vT (digTo n k 0) = [] from rfl] <;> rfl)
    clear hg
    obtain ⟨rfl, e3, e4, e6, e7, e8, e10, e58, e59, rfl⟩ := h2
    generalize hdl : digTo n k n = l at *
    simp only [go_sem, reduceIte, Nat.reduceEqDiff, Nat.reduceAdd, Nat.reduceSub, Nat.reduceLeDiff, Nat.reduceLT, reduceCtorEq, Int.reduceLT, Int.reduceLE, Int.reduceEq, Int.reduceBEq, Int.reduceSub, Int.reduceAdd, Int.reduceMul, Int.reduceNeg, Int.reduceToNat, Nat.reduceMul, Nat.reduceBEq, index_rsl_if, setm, make_ints, condK_dec, wantK_dec, not_dec, and_dec, or_dec, seqK_ite, seqK_none, blockK_ite, blockK_none, opsK_ite, opsK_none, stepK_ite, stepK_none, bodyK_ite, bodyK_none, resK_ite, resK_none, leaveK_ite, leaveK_none, only_ite, only_none, bind_ite, gives_some, gives_none, gives_ite, then_normal, then_ret, then_exit, then_none, then_ite, Option.bind_none, Bool.not_eq_true', decide_eq_false_iff_not, Bool.and_eq_true, Bool.or_eq_true, Option.some.injEq, Int.not_lt, Int.not_le, lp6_3, e3, e4, e6, e7, e8, e10, e58, e59]
    generalize hg : lim (headed pure (run L) true _ lp6_2 _ _) _ _ = o
    obtain ⟨x, en, s, rfl, h2⟩ : ∃ x en s, o = some (x, en, s) ∧ _ := by rw [← hg]; exact loop6_2 zs n hn ps hlen hps v tot found k N l hl hlb _ rfl 0 true (by omega) _ _ (by simp only [go_sem, reduceIte, Nat.reduceEqDiff, Nat.reduceAdd, Nat.reduceSub, Nat.reduceLeDiff, Nat.reduceLT, reduceCtorEq, Int.reduceLT, Int.reduceLE, Int.reduceEq, Int.reduceBEq, Int.reduceSub, Int.reduceAdd, Int.reduceMul, Int.reduceNeg, Int.reduceToNat, Nat.reduceMul, Nat.reduceBEq, e3, e4, e6, e7, e8, e10, e58, e59, okRefsB, renCellsB, ren1_v0, List.take_length, List.length_map, Int.natCast_zero] <;> rfl)
    clear hg
    obtain ⟨rfl, f3, f4, f6, f7, f8, f10, f12, f58, f59, rfl⟩ := h2
    rw [List.drop_zero, Bool.true_and] at f12
    have hall : l.all in02 = true := List.all_eq_true.2 (fun x hx => decide_eq_true (hlb x hx))
    have ht : totalV l n = sumL l := by unfold totalV; rw [if_pos (by omega), if_pos hall]
    have h45 : ∀ st, run L 45 [vAV l, I n] st = some (I (sumL l), st) := by
      rw [← ht]
      exact run_args2 (fn := ir45) rfl rfl (by simp only [pubs, pub_v, pub_sl]) (fun st => c45 true l (by omega) n st)
    have h21 : ∀ st, run L 21 [vAV l, sl 1 true (v.map I)] st = some (B (decide (l = v)), st) :=
      run_args2 (fn := ir21) rfl rfl (by simp only [pubs, pub_v, pub_sl]) (fun st => c21 true true l v (by omega) st)
    by_cases p : halfOk ps l = true
    · rw [p] at f12
      have hle := hm p
      have q1 : (sumL l < tot) = False := eq_false (by omega)
      by_cases p2 : sumL l = tot
      · have hg : goodK n ps tot k := hgk.2 ⟨p, p2⟩
        cases hfo : found
        · have hnot : ∀ j, j < k → ¬ goodK n ps tot j := fun j h3 h4 => by
            have := hfd.2 ⟨j, h3, h4⟩; rw [hfo] at this; simp at this
          have hlv : l = v := hf hg hnot
          have hn2 := hnext true (by simp [hg])
          rw [hfo] at f8
          subst hlv
          simp only [go_sem, reduceIte, Nat.reduceEqDiff, Nat.reduceAdd, Nat.reduceSub, Nat.reduceLeDiff, Nat.reduceLT, reduceCtorEq, Int.reduceLT, Int.reduceLE, Int.reduceEq, Int.reduceBEq, Int.reduceSub, Int.reduceAdd, Int.reduceMul, Int.reduceNeg, Int.reduceToNat, Nat.reduceMul, Nat.reduceBEq, index_rsl_if, setm, make_ints, condK_dec, wantK_dec, not_dec, and_dec, or_dec, seqK_ite, seqK_none, blockK_ite, blockK_none, opsK_ite, opsK_none, stepK_ite, stepK_none, bodyK_ite, bodyK_none, resK_ite, resK_none, leaveK_ite, leaveK_none, only_ite, only_none, bind_ite, gives_some, gives_none, gives_ite, then_normal, then_ret, then_exit, then_none, then_ite, Option.bind_none, Bool.not_eq_true', decide_eq_false_iff_not, Bool.and_eq_true, Bool.or_eq_true, Option.some.injEq, Int.not_lt, Int.not_le, lp6_3, f3, f4, f6, f7, f8, f10, f12, f58, f59, h45, h21, q1, p2, hs, Int.lt_irrefl]
          refine ⟨(k + 1, true), by simp only [go_sem, reduceIte, Nat.reduceEqDiff, Nat.reduceAdd, Nat.reduceSub, Nat.reduceLeDiff, Nat.reduceLT, reduceCtorEq, Int.reduceLT, Int.reduceLE, Int.reduceEq, Int.reduceBEq, Int.reduceSub, Int.reduceAdd, Int.reduceMul, Int.reduceNeg, Int.reduceToNat, Nat.reduceMul, Nat.reduceBEq, ren1_locm, loc_tips, locT_eq, f3, f4, f6, f7, f8, f58, f59, okRefsB, renCellsB, List.take_zero] <;> rfl, ?_, ?_, fun x en s hq => ?_⟩
          · exact hn2
          · simp only; omega
          · exact hq
        · have hn2 := hnext true (by simp [hg])
          rw [hfo] at f8
          simp only [go_sem, reduceIte, Nat.reduceEqDiff, Nat.reduceAdd, Nat.reduceSub, Nat.reduceLeDiff, Nat.reduceLT, reduceCtorEq, Int.reduceLT, Int.reduceLE, Int.reduceEq, Int.reduceBEq, Int.reduceSub, Int.reduceAdd, Int.reduceMul, Int.reduceNeg, Int.reduceToNat, Nat.reduceMul, Nat.reduceBEq, index_rsl_if, setm, make_ints, condK_dec, wantK_dec, not_dec, and_dec, or_dec, seqK_ite, seqK_none, blockK_ite, blockK_none, opsK_ite, opsK_none, stepK_ite, stepK_none, bodyK_ite, bodyK_none, resK_ite, resK_none, leaveK_ite, leaveK_none, only_ite, only_none, bind_ite, gives_some, gives_none, gives_ite, then_normal, then_ret, then_exit, then_none, then_ite, Option.bind_none, Bool.not_eq_true', decide_eq_false_iff_not, Bool.and_eq_true, Bool.or_eq_true, Option.some.injEq, Int.not_lt, Int.not_le, lp6_3, f3, f4, f6, f7, f8, f10, f12, f58, f59, h45, q1, p2, hs, Int.lt_irrefl]
          refine ⟨(k + 1, true), by simp only [go_sem, reduceIte, Nat.reduceEqDiff, Nat.reduceAdd, Nat.reduceSub, Nat.reduceLeDiff, Nat.reduceLT, reduceCtorEq, Int.reduceLT, Int.reduceLE, Int.reduceEq, Int.reduceBEq, Int.reduceSub, Int.reduceAdd, Int.reduceMul, Int.reduceNeg, Int.reduceToNat, Nat.reduceMul, Nat.reduceBEq, ren1_locm, loc_tips, locT_eq, f3, f4, f6, f7, f8, f58, f59, okRefsB, renCellsB, List.take_zero] <;> rfl, ?_, ?_, fun x en s hq => ?_⟩
          · exact hn2
          · simp only; omega
          · exact hq
      · have hn2 := hnext found (by rw [hgk]; simp [p2])
        simp only [go_sem, reduceIte, Nat.reduceEqDiff, Nat.reduceAdd, Nat.reduceSub, Nat.reduceLeDiff, Nat.reduceLT, reduceCtorEq, Int.reduceLT, Int.reduceLE, Int.reduceEq, Int.reduceBEq, Int.reduceSub, Int.reduceAdd, Int.reduceMul, Int.reduceNeg, Int.reduceToNat, Nat.reduceMul, Nat.reduceBEq, index_rsl_if, setm, make_ints, condK_dec, wantK_dec, not_dec, and_dec, or_dec, seqK_ite, seqK_none, blockK_ite, blockK_none, opsK_ite, opsK_none, stepK_ite, stepK_none, bodyK_ite, bodyK_none, resK_ite, resK_none, leaveK_ite, leaveK_none, only_ite, only_none, bind_ite, gives_some, gives_none, gives_ite, then_normal, then_ret, then_exit, then_none, then_ite, Option.bind_none, Bool.not_eq_true', decide_eq_false_iff_not, Bool.and_eq_true, Bool.or_eq_true, Option.some.injEq, Int.not_lt, Int.not_le, lp6_3, f3, f4, f6, f7, f8, f10, f12, f58, f59, h45, q1, p2, hs]
        refine ⟨(k + 1, found), by simp only [go_sem, reduceIte, Nat.reduceEqDiff, Nat.reduceAdd, Nat.reduceSub, Nat.reduceLeDiff, Nat.reduceLT, reduceCtorEq, Int.reduceLT, Int.reduceLE, Int.reduceEq, Int.reduceBEq, Int.reduceSub, Int.reduceAdd, Int.reduceMul, Int.reduceNeg, Int.reduceToNat, Nat.reduceMul, Nat.reduceBEq, ren1_locm, loc_tips, locT_eq, f3, f4, f6, f7, f8, f58, f59, okRefsB, renCellsB, List.take_zero] <;> rfl, ?_, ?_, fun x en s hq => ?_⟩
        · exact hn2
        · simp only; omega
        · exact hq
    · have p' : halfOk ps l = false := by simpa using p
      rw [p'] at f12
      have hn2 := hnext found (by rw [hgk]; simp [p'])
      simp only [go_sem, reduceIte, Nat.reduceEqDiff, Nat.reduceAdd, Nat.reduceSub, Nat.reduceLeDiff, Nat.reduceLT, reduceCtorEq, Int.reduceLT, Int.reduceLE, Int.reduceEq, Int.reduceBEq, Int.reduceSub, Int.reduceAdd, Int.reduceMul, Int.reduceNeg, Int.reduceToNat, Nat.reduceMul, Nat.reduceBEq, index_rsl_if, setm, make_ints, condK_dec, wantK_dec, not_dec, and_dec, or_dec, seqK_ite, seqK_none, blockK_ite, blockK_none, opsK_ite, opsK_none, stepK_ite, stepK_none, bodyK_ite, bodyK_none, resK_ite, resK_none, leaveK_ite, leaveK_none, only_ite, only_none, bind_ite, gives_some, gives_none, gives_ite, then_normal, then_ret, then_exit, then_none, then_ite, Option.bind_none, Bool.not_eq_true', decide_eq_false_iff_not, Bool.and_eq_true, Bool.or_eq_true, Option.some.injEq, Int.not_lt, Int.not_le, lp6_3, f3, f4, f6, f7, f8, f10, f12, f58, f59, hs]
      refine ⟨(k + 1, found), by simp only [go_sem, reduceIte, Nat.reduceEqDiff, Nat.reduceAdd, Nat.reduceSub, Nat.reduceLeDiff, Nat.reduceLT, reduceCtorEq, Int.reduceLT, Int.reduceLE, Int.reduceEq, Int.reduceBEq, Int.reduceSub, Int.reduceAdd, Int.reduceMul, Int.reduceNeg, Int.reduceToNat, Nat.reduceMul, Nat.reduceBEq, ren1_locm, loc_tips, locT_eq, f3, f4, f6, f7, f8, f58, f59, okRefsB, renCellsB, List.take_zero] <;> rfl, ?_, ?_, fun x en s hq => ?_⟩
      · exact hn2
      · simp only; omega
      · exact hq
  · have hlt : ((k : Int) < (N : Int)) = False := eq_false (by omega)
    simp only [go_sem, reduceIte, Nat.reduceEqDiff, Nat.reduceAdd, Nat.reduceSub, Nat.reduceLeDiff, Nat.reduceLT, reduceCtorEq, Int.reduceLT, Int.reduceLE, Int.reduceEq, Int.reduceBEq, Int.reduceSub, Int.reduceAdd, Int.reduceMul, Int.reduceNeg, Int.reduceToNat, Nat.reduceMul, Nat.reduceBEq, index_rsl_if, setm, make_ints, condK_dec, wantK_dec, not_dec, and_dec, or_dec, seqK_ite, seqK_none, blockK_ite, blockK_none, opsK_ite, opsK_none, stepK_ite, stepK_none, bodyK_ite, bodyK_none, resK_ite, resK_none, leaveK_ite, leaveK_none, only_ite, only_none, bind_ite, gives_some, gives_none, gives_ite, then_normal, then_ret, then_exit, then_none, then_ite, Option.bind_none, Bool.not_eq_true', decide_eq_false_iff_not, Bool.and_eq_true, Bool.or_eq_true, Option.some.injEq, Int.not_lt, Int.not_le, lp6_3, hlt]


/-! ### three lists that grow in an array -/
def cN (k : Nat) (xs : List Int) : AV := if xs = [] then .v (.slice none 0 0) else .lst (.own k xs.length) 1 (xs.map I)
def n1 (xs : List Int) : Nat := if xs = [] then 0 else 1
def cel3 (A B C : List Int) : List AV := [cN 0 A, cN (n1 A) B, cN (n1 A + n1 B) C]
def tips3 (A B C : List Int) : List Nat := sT A ++ (sT B ++ sT C)
theorem pub_cN (k : Nat) (xs : List Int) : pub (cN k xs) = sl 1 true (xs.map I) := by
  unfold cN
  split
  · next h => subst h; rfl
  · next h => rw [sl_ne (by simpa using h)]; rfl
theorem len_cN (k : Nat) (xs : List Int) : lenAV (cN k xs) = some (I xs.length) := by
  unfold cN
  split
  · next h => subst h; rfl
  · next h => rw [len_lst]; simp
theorem okRefs_c3 (n : Nat) (A B C : List Int) : okRefs n (cel3 A B C) = true := by
  unfold cel3 cN
  simp only [okRefs]
  split <;> split <;> split <;> rfl
theorem ren_c3H (A B C : List Int) (T : List Nat) (acc : List (Nat × Nat)) : renCells (tips3 A B C).length T acc (cel3 A B C) = (cel3 A B C, acc) := by
  cases A <;> cases B <;> cases C <;> simp [cel3, tips3, cN, n1, sT, renCells, ren1]
/-- One more in one of three lists. -/
theorem to_step (A B C : List Int) (hA : A.length ≤ 7) (hB : B.length ≤ 7) (hC : C.length ≤ 7) (y : Nat) (hy : y < 3) (a : Int) : ∃ c new T', (cel3 A B C)[y]? = some c ∧ (∀ S, appendAV 1 c [I a] ⟨S, tips3 A B C⟩ = some (new, ⟨S, T'⟩)) ∧ new.shaped = true ∧ new.cells = [new] ∧ storable new = true ∧
    okRefs 4 ((cel3 A B C).set y new) = true ∧ (renCells 0 T' [] ((cel3 A B C).set y new)).1 = cel3 (if y = 0 then A ++ [a] else A) (if y = 1 then B ++ [a] else B) (if y = 2 then C ++ [a] else C) ∧ (renCells 0 T' [] ((cel3 A B C).set y new)).2.map (fun x => x.2) = tips3 (if y = 0 then A ++ [a] else A) (if y = 1 then B ++ [a] else B) (if y = 2 then C ++ [a] else C) := by
  have h0 : y = 0 ∨ y = 1 ∨ y = 2 := by omega
  rcases h0 with rfl | rfl | rfl
  · cases A with
    | nil =>
      refine ⟨_, .lst (.own (tips3 [] B C).length 1) 1 [I a], tips3 [] B C ++ [1], rfl, fun S => ?_, rfl, rfl, rfl, by cases B <;> cases C <;> rfl, ?_⟩
      · simp [cN, appendAV, maxGrow]
      · cases B <;> cases C <;> simp [cel3, tips3, cN, n1, sT, renCells, ren1]
    | cons x r =>
      have hm : r.length + 1 + 1 ≤ maxGrow := by unfold maxGrow; simp at hA; omega
      refine ⟨cN 0 (x :: r), .lst (.own 0 (r.length + 1 + 1)) 1 ((x :: r).map I ++ [I a]), (r.length + 1 + 1) :: (sT B ++ sT C), rfl, fun S => ?_, rfl, rfl, rfl, by cases B <;> cases C <;> rfl, ?_⟩
      · simp [cN, tips3, sT, appendAV, hm]
      · cases B <;> cases C <;> simp [cel3, tips3, cN, n1, sT, renCells, ren1]
  · cases B with
    | nil =>
      refine ⟨_, .lst (.own (tips3 A [] C).length 1) 1 [I a], tips3 A [] C ++ [1], rfl, fun S => ?_, rfl, rfl, rfl, by cases A <;> cases C <;> rfl, ?_⟩
      · simp [cN, appendAV, maxGrow]
      · cases A <;> cases C <;> simp [cel3, tips3, cN, n1, sT, renCells, ren1]
    | cons x r =>
      have hm : r.length + 1 + 1 ≤ maxGrow := by unfold maxGrow; simp at hB; omega
      refine ⟨cN (n1 A) (x :: r), .lst (.own (n1 A) (r.length + 1 + 1)) 1 ((x :: r).map I ++ [I a]), sT A ++ ((r.length + 1 + 1) :: sT C), rfl, fun S => ?_, rfl, rfl, rfl, by cases A <;> cases C <;> rfl, ?_⟩
      · cases A <;> simp [cN, n1, tips3, sT, appendAV, hm]
      · cases A <;> cases C <;> simp [cel3, tips3, cN, n1, sT, renCells, ren1]
  · cases C with
    | nil =>
      refine ⟨_, .lst (.own (tips3 A B []).length 1) 1 [I a], tips3 A B [] ++ [1], rfl, fun S => ?_, rfl, rfl, rfl, by cases A <;> cases B <;> rfl, ?_⟩
      · simp [cN, appendAV, maxGrow]
      · cases A <;> cases B <;> simp [cel3, tips3, cN, n1, sT, renCells, ren1]
    | cons x r =>
      have hm : r.length + 1 + 1 ≤ maxGrow := by unfold maxGrow; simp at hC; omega
      refine ⟨cN (n1 A + n1 B) (x :: r), .lst (.own (n1 A + n1 B) (r.length + 1 + 1)) 1 ((x :: r).map I ++ [I a]), sT A ++ (sT B ++ [r.length + 1 + 1]), rfl, fun S => ?_, rfl, rfl, rfl, by cases A <;> cases B <;> rfl, ?_⟩
      · cases A <;> cases B <;> simp [cN, n1, tips3, sT, appendAV, hm]
      · cases A <;> cases B <;> simp [cel3, tips3, cN, n1, sT, renCells, ren1]

theorem withL_append (x a : Int) : ∀ (l : List Int) (i : Nat), withL x (l ++ [a]) i = withL x l i ++ (if a = x then [((i + l.length : Nat) : Int)] else [])
  | [], i => by simp only [List.nil_append, withL, List.length_nil, Nat.add_zero]
  | b :: r, i => by
    have ih := withL_append x a r (i + 1)
    simp only [List.cons_append, withL, ih, List.length_cons]
    rw [show i + 1 + r.length = i + (r.length + 1) by omega]
    split <;> simp


/-- The places of a value among the first ones. -/
def toW (v : List Int) (x : Int) (i : Nat) : List Int := withL x (v.take i) 0
theorem toW_len (v : List Int) (x : Int) (i : Nat) : (toW v x i).length ≤ v.length := by
  have := withL_len x (v.take i) 0
  have h2 : (v.take i).length ≤ v.length := by simp; omega
  unfold toW; omega
theorem toW_succ (v : List Int) (x : Int) (i : Nat) (h : i < v.length) : toW v x (i + 1) = if v[i] = x then toW v x i ++ [(i : Int)] else toW v x i := by
  unfold toW
  rw [List.take_succ_eq_append_getElem h, withL_append]
  have : (v.take i).length = i := by simp; omega
  rw [this, Nat.zero_add]
  split <;> simp
def toC (v : List Int) (i : Nat) : List AV := cel3 (toW v 0 i) (toW v 1 i) (toW v 2 i)
def toT (v : List Int) (i : Nat) : List Nat := tips3 (toW v 0 i) (toW v 1 i) (toW v 2 i)
theorem toC_len (v : List Int) (i : Nat) : (toC v i).length = 3 := rfl
/-- The other arguments' cells. -/
abbrev bk2 (m : Int) (rp : List (Int × Int)) : List AV := [I m, sl 2 true (rp.map prAV)]

theorem loop6_4 (zs : List Int) (n : Nat) (ps : List (Int × Int)) (m : Int) (rp : List (Int × Int)) (wr ri le : List Int) (v : List Int) (hv : v.length ≤ 7) (hvb : ∀ x ∈ v, 0 ≤ x ∧ x ≤ 2) (i : Nat) (hok : i ≤ v.length) (env : Env) (st : St)
    (hg : gcAV true 4 0 (canon env [3, 15, 16, 17, 18, 20, 143, 144, 145]) st = ([(3, .ptr 1 0), (15, sl 1 true (wr.map I)), (16, sl 1 true (ri.map I)), (17, .ptr 2 0), (18, sl 1 true (le.map I)), (20, .ptr 3 0), (143, sl 1 true (v.map I)), (144, I v.length), (145, I i)], ⟨[zs.map B8, bkCells true n ps, bk2 m rp, toC v i], toT v i⟩)) :
    ∃ x_1 en s, lim (headed pure (run L) true [3, 15, 16, 17, 18, 20, 143, 144, 145] lp6_4 4 0) env st = some (x_1, en, s) ∧ (x_1 = .exit 8 ∧ en.get 3 = .ptr 1 0 ∧ en.get 15 = sl 1 true (wr.map I) ∧ en.get 16 = sl 1 true (ri.map I) ∧ en.get 17 = .ptr 2 0 ∧ en.get 18 = sl 1 true (le.map I) ∧ en.get 20 = .ptr 3 0 ∧ s = ⟨[zs.map B8, bkCells true n ps, bk2 m rp, toC v v.length], toT v v.length⟩) := by
  refine loop_wp (α := Nat) (fun i => v.length - i) (fun i => i ≤ v.length) (fun i => ([(3, .ptr 1 0), (15, sl 1 true (wr.map I)), (16, sl 1 true (ri.map I)), (17, .ptr 2 0), (18, sl 1 true (le.map I)), (20, .ptr 3 0), (143, sl 1 true (v.map I)), (144, I v.length), (145, I i)], ⟨[zs.map B8, bkCells true n ps, bk2 m rp, toC v i], toT v i⟩)) (fun i x_1 en s => x_1 = .exit 8 ∧ en.get 3 = .ptr 1 0 ∧ en.get 15 = sl 1 true (wr.map I) ∧ en.get 16 = sl 1 true (ri.map I) ∧ en.get 17 = .ptr 2 0 ∧ en.get 18 = sl 1 true (le.map I) ∧ en.get 20 = .ptr 3 0 ∧ s = ⟨[zs.map B8, bkCells true n ps, bk2 m rp, toC v v.length], toT v v.length⟩) (fun i hok => ?_) i hok env st hg
  by_cases h : i < v.length
  · have hx := index_ints true v i h
    have hs := succ64 i (by omega)
    have hlt : ((i : Int) < (v.length : Int)) = True := eq_true (by omega)
    have hb := hvb v[i] (List.getElem_mem h)
    have s0 := toW_succ v 0 i h
    have s1 := toW_succ v 1 i h
    have s2 := toW_succ v 2 i h
    generalize v[i] = x at *
    obtain ⟨y, rfl⟩ := Int.eq_ofNat_of_zero_le hb.1
    obtain ⟨c, new, T', k1, k2, k3, k4, k5, k6, k7, k8⟩ := to_step (toW v 0 i) (toW v 1 i) (toW v 2 i) (by have := toW_len v 0 i; omega) (by have := toW_len v 1 i; omega) (by have := toW_len v 2 i; omega) y (by omega) (i : Int)
    have e0 : (if y = 0 then toW v 0 i ++ [(i : Int)] else toW v 0 i) = toW v 0 (i + 1) := by rw [s0]; by_cases h0 : y = 0 <;> simp [h0]
    have e1 : (if y = 1 then toW v 1 i ++ [(i : Int)] else toW v 1 i) = toW v 1 (i + 1) := by
      rw [s1]; by_cases h0 : y = 1
      · simp [h0]
      · rw [if_neg h0, if_neg (by omega)]
    have e2 : (if y = 2 then toW v 2 i ++ [(i : Int)] else toW v 2 i) = toW v 2 (i + 1) := by
      rw [s2]; by_cases h0 : y = 2
      · simp [h0]
      · rw [if_neg h0, if_neg (by omega)]
    rw [e0, e1, e2] at k7 k8
    have hC : cel3 (toW v 0 i) (toW v 1 i) (toW v 2 i) = toC v i := rfl
    have hT : tips3 (toW v 0 i) (toW v 1 i) (toW v 2 i) = toT v i := rfl
    have hC1 : cel3 (toW v 0 (i + 1)) (toW v 1 (i + 1)) (toW v 2 (i + 1)) = toC v (i + 1) := rfl
    have hT1 : tips3 (toW v 0 (i + 1)) (toW v 1 (i + 1)) (toW v 2 (i + 1)) = toT v (i + 1) := rfl
    rw [hC] at k1 k6 k7 k8
    rw [hC1] at k7
    rw [hT1] at k8
    rw [hT] at k2
    have hcl := toC_len v i
    have b1 : ((0 : Int) ≤ (y : Int)) = True := eq_true (by omega)
    have b2 : ((y : Int) < 3) = True := eq_true (by omega)
    have b3 : (y + 1 ≤ 3) = True := eq_true (by omega)
    simp only [go_sem, reduceIte, Nat.reduceEqDiff, Nat.reduceAdd, Nat.reduceSub, Nat.reduceLeDiff, Nat.reduceLT, reduceCtorEq, Int.reduceLT, Int.reduceLE, Int.reduceEq, Int.reduceBEq, Int.reduceSub, Int.reduceAdd, Int.reduceMul, Int.reduceNeg, Int.reduceToNat, Nat.reduceMul, Nat.reduceBEq, index_rsl_if, setm, make_ints, condK_dec, wantK_dec, not_dec, and_dec, or_dec, seqK_ite, seqK_none, blockK_ite, blockK_none, opsK_ite, opsK_none, stepK_ite, stepK_none, bodyK_ite, bodyK_none, resK_ite, resK_none, leaveK_ite, leaveK_none, only_ite, only_none, bind_ite, gives_some, gives_none, gives_ite, then_normal, then_ret, then_exit, then_none, then_ite, Option.bind_none, Bool.not_eq_true', decide_eq_false_iff_not, Bool.and_eq_true, Bool.or_eq_true, Option.some.injEq, Int.not_lt, Int.not_le, lp6_4, hx, hlt, hs, b1, b2, b3, k1, k2, k3, k4, k5, hcl, List.length_singleton]
    refine ⟨i + 1, by simp only [go_sem, reduceIte, Nat.reduceEqDiff, Nat.reduceAdd, Nat.reduceSub, Nat.reduceLeDiff, Nat.reduceLT, reduceCtorEq, Int.reduceLT, Int.reduceLE, Int.reduceEq, Int.reduceBEq, Int.reduceSub, Int.reduceAdd, Int.reduceMul, Int.reduceNeg, Int.reduceToNat, Nat.reduceMul, Nat.reduceBEq, ren1_locm, loc_tips, locT_eq, okRefsB, renCellsB, k6, k7, k8] <;> rfl, ?_, ?_, fun x en s hq => ?_⟩
    · omega
    · omega
    · exact hq
  · obtain rfl : i = v.length := by omega
    simp only [go_sem, reduceIte, Nat.reduceEqDiff, Nat.reduceAdd, Nat.reduceSub, Nat.reduceLeDiff, Nat.reduceLT, reduceCtorEq, Int.reduceLT, Int.reduceLE, Int.reduceEq, Int.reduceBEq, Int.reduceSub, Int.reduceAdd, Int.reduceMul, Int.reduceNeg, Int.reduceToNat, Nat.reduceMul, Nat.reduceBEq, index_rsl_if, setm, make_ints, condK_dec, wantK_dec, not_dec, and_dec, or_dec, seqK_ite, seqK_none, blockK_ite, blockK_none, opsK_ite, opsK_none, stepK_ite, stepK_none, bodyK_ite, bodyK_none, resK_ite, resK_none, leaveK_ite, leaveK_none, only_ite, only_none, bind_ite, gives_some, gives_none, gives_ite, then_normal, then_ret, then_exit, then_none, then_ite, Option.bind_none, Bool.not_eq_true', decide_eq_false_iff_not, Bool.and_eq_true, Bool.or_eq_true, Option.some.injEq, Int.not_lt, Int.not_le, lp6_4, show ((v.length : Int) < (v.length : Int)) = False from eq_false (by omega)]


/-! ### a list of pairs that grows behind other lists -/
def pN (k : Nat) (o : List (Int × Int)) : AV := if o = [] then .v (.slice none 0 0) else .lst (.own k o.length) 2 (o.map prAV)
def pT (o : List (Int × Int)) : List Nat := if o = [] then [] else [o.length]
def pAcc (k : Nat) (o : List (Int × Int)) : List (Nat × Nat) := if o = [] then [] else [(k, o.length)]
theorem okRef_pN (n k : Nat) (o : List (Int × Int)) : okRef n (pN k o) = true := by unfold pN; split <;> rfl
theorem pub_pN (k : Nat) (o : List (Int × Int)) : pub (pN k o) = sl 2 true (o.map prAV) := by
  unfold pN
  split
  · next h => subst h; rfl
  · next h => rw [sl_ne (by simpa using h)]; rfl
theorem ren1_pN (T : List Nat) (o : List (Int × Int)) : ren1 T.length (T ++ pT o) [] (pN T.length o) = (pN T.length o, pAcc T.length o) := by
  unfold pN pT pAcc
  by_cases h : o = []
  · simp [h, ren1]
  · simp [h, ren1]
theorem pAcc_snd (k : Nat) (o : List (Int × Int)) : (pAcc k o).map (fun x => x.2) = pT o := by
  unfold pAcc pT; split <;> rfl
theorem append_pN (T : List Nat) (o : List (Int × Int)) (x y : Int) (S : List (List AV)) (h : o.length < 1000) : appendAV 2 (pN T.length o) [.agg [I x, I y]] ⟨S, T ++ pT o⟩ = some (pN T.length (o ++ [(x, y)]), ⟨S, T ++ pT (o ++ [(x, y)])⟩) := by
  unfold pN pT
  by_cases h0 : o = []
  · subst h0; simp [appendAV, maxGrow]
  · have h1 : o.length + 1 ≤ maxGrow := by unfold maxGrow; omega
    simp [h0, appendAV, h1]
attribute [local go_sem] okRef_pN pub_pN

/-- The pairs of the others, by first places. -/
def restX (B : List Int) (ps : List (Int × Int)) : List (Int × Int) := ps.filterMap fun p => if p.1 ∈ B ∧ p.2 ∈ B then some (indexOf p.1 B 0, indexOf p.2 B 0) else none

theorem loop6_5 (zs : List Int) (n : Nat) (ps : List (Int × Int)) (hlen : ps.length ≤ 10) (m : Int) (rp : List (Int × Int)) (wr ri le : List Int) (A B C : List Int) (hB : B.length ≤ 7) (th : Nat) (hth : th = (tips3 A B C).length) (i : Nat) (out : List (Int × Int)) (hok : i ≤ ps.length ∧ out.length ≤ i) (env : Env) (st : St)
    (hg : gcAV true 4 th (canon env [15, 16, 17, 18, 20, 23, 160, 161, 162]) st = ([(15, sl 1 true (wr.map I)), (16, sl 1 true (ri.map I)), (17, .ptr 2 0), (18, sl 1 true (le.map I)), (20, .ptr 3 0), (23, pN (tips3 A B C).length out), (160, sl 2 true (ps.map prAV)), (161, I ps.length), (162, I i)], ⟨[zs.map B8, bkCells true n ps, bk2 m rp, cel3 A B C], tips3 A B C ++ pT out⟩)) :
    ∃ x_1 en s, lim (headed pure (run L) true [15, 16, 17, 18, 20, 23, 160, 161, 162] lp6_5 4 th) env st = some (x_1, en, s) ∧ (x_1 = .exit 10 ∧ en.get 15 = sl 1 true (wr.map I) ∧ en.get 16 = sl 1 true (ri.map I) ∧ en.get 17 = .ptr 2 0 ∧ en.get 18 = sl 1 true (le.map I) ∧ en.get 20 = .ptr 3 0 ∧ en.get 23 = pN (tips3 A B C).length (out ++ restX B (ps.drop i)) ∧ s = ⟨[zs.map B8, bkCells true n ps, bk2 m rp, cel3 A B C], tips3 A B C ++ pT (out ++ restX B (ps.drop i))⟩) := by
  refine loop_wp (α := Nat × List (Int × Int)) (fun ⟨i, out⟩ => ps.length - i) (fun ⟨i, out⟩ => i ≤ ps.length ∧ out.length ≤ i) (fun ⟨i, out⟩ => ([(15, sl 1 true (wr.map I)), (16, sl 1 true (ri.map I)), (17, .ptr 2 0), (18, sl 1 true (le.map I)), (20, .ptr 3 0), (23, pN (tips3 A B C).length out), (160, sl 2 true (ps.map prAV)), (161, I ps.length), (162, I i)], ⟨[zs.map B8, bkCells true n ps, bk2 m rp, cel3 A B C], tips3 A B C ++ pT out⟩)) (fun ⟨i, out⟩ x_1 en s => x_1 = .exit 10 ∧ en.get 15 = sl 1 true (wr.map I) ∧ en.get 16 = sl 1 true (ri.map I) ∧ en.get 17 = .ptr 2 0 ∧ en.get 18 = sl 1 true (le.map I) ∧ en.get 20 = .ptr 3 0 ∧ en.get 23 = pN (tips3 A B C).length (out ++ restX B (ps.drop i)) ∧ s = ⟨[zs.map B8, bkCells true n ps, bk2 m rp, cel3 A B C], tips3 A B C ++ pT (out ++ restX B (ps.drop i))⟩) (fun ⟨i, out⟩ hok => ?_) ⟨i, out⟩ hok env st hg
  simp only at hok
  subst hth
  obtain ⟨h1, h2⟩ := hok
  dsimp only
  by_cases h : i < ps.length
  · have hx := index_prs true ps i h
    have hs := succ64 i (by omega)
    have hd : ps.drop i = ps[i] :: ps.drop (i + 1) := List.drop_eq_getElem_cons h
    have hlt : ((i : Int) < (ps.length : Int)) = True := eq_true (by omega)
    rw [hd]
    generalize ps[i] = c at *
    obtain ⟨u, w⟩ := c
    simp only at hx
    have h46 : ∀ a st, run L 46 [cN (n1 A) B, I a] st = some (I (indexOf a B 0), st) := fun a =>
      run_args2 (fn := ir46) rfl rfl (by simp only [pubs, pub_cN, pub_sl]) (fun st => c46 true B (by omega) a st)
    have hc1 : (cel3 A B C)[1]? = some (cN (n1 A) B) := rfl
    have hr : ∀ acc, renCells (tips3 A B C).length (tips3 A B C ++ pT out) acc (cel3 A B C) = (cel3 A B C, acc) := fun acc => ren_c3H A B C _ acc
    have i1 := indexOf_nonneg u B 0
    have i2 := indexOf_nonneg w B 0
    by_cases p1 : u ∈ B
    · by_cases p2 : w ∈ B
      · have e : restX B ((u, w) :: ps.drop (i + 1)) = (indexOf u B 0, indexOf w B 0) :: restX B (ps.drop (i + 1)) := by simp [restX, p1, p2]
        rw [e]
        have happ := fun S => append_pN (tips3 A B C) out (indexOf u B 0) (indexOf w B 0) S (by omega)
        have hr2 : ∀ acc, renCells (tips3 A B C).length (tips3 A B C ++ pT (out ++ [(indexOf u B 0, indexOf w B 0)])) acc (cel3 A B C) = (cel3 A B C, acc) := fun acc => ren_c3H A B C _ acc
        simp only [go_sem, reduceIte, Nat.reduceEqDiff, Nat.reduceAdd, Nat.reduceSub, Nat.reduceLeDiff, Nat.reduceLT, reduceCtorEq, Int.reduceLT, Int.reduceLE, Int.reduceEq, Int.reduceBEq, Int.reduceSub, Int.reduceAdd, Int.reduceMul, Int.reduceNeg, Int.reduceToNat, Nat.reduceMul, Nat.reduceBEq, index_rsl_if, setm, make_ints, condK_dec, wantK_dec, not_dec, and_dec, or_dec, seqK_ite, seqK_none, blockK_ite, blockK_none, opsK_ite, opsK_none, stepK_ite, stepK_none, bodyK_ite, bodyK_none, resK_ite, resK_none, leaveK_ite, leaveK_none, only_ite, only_none, bind_ite, gives_some, gives_none, gives_ite, then_normal, then_ret, then_exit, then_none, then_ite, Option.bind_none, Bool.not_eq_true', decide_eq_false_iff_not, Bool.and_eq_true, Bool.or_eq_true, Option.some.injEq, Int.not_lt, Int.not_le, lp6_5, hx, hlt, hs, h46, hc1, i1, i2, p1, p2, happ, show Int.toNat 1 = 1 from rfl]
        refine ⟨(i + 1, out ++ [(indexOf u B 0, indexOf w B 0)]), by simp only [go_sem, reduceIte, Nat.reduceEqDiff, Nat.reduceAdd, Nat.reduceSub, Nat.reduceLeDiff, Nat.reduceLT, reduceCtorEq, Int.reduceLT, Int.reduceLE, Int.reduceEq, Int.reduceBEq, Int.reduceSub, Int.reduceAdd, Int.reduceMul, Int.reduceNeg, Int.reduceToNat, Nat.reduceMul, Nat.reduceBEq, ren1_locm, loc_tips, locT_eq, okRefsB, renCellsB, okRefs_c3, ren1_pN, pAcc_snd, hr2, List.take_left] <;> rfl, ?_, ?_, fun x en s hq => ?_⟩
        · dsimp only; exact ⟨by omega, by simp; omega⟩
        · simp only; omega
        · simpa using hq
      · have e : restX B ((u, w) :: ps.drop (i + 1)) = restX B (ps.drop (i + 1)) := by simp [restX, p2]
        rw [e]
        simp only [go_sem, reduceIte, Nat.reduceEqDiff, Nat.reduceAdd, Nat.reduceSub, Nat.reduceLeDiff, Nat.reduceLT, reduceCtorEq, Int.reduceLT, Int.reduceLE, Int.reduceEq, Int.reduceBEq, Int.reduceSub, Int.reduceAdd, Int.reduceMul, Int.reduceNeg, Int.reduceToNat, Nat.reduceMul, Nat.reduceBEq, index_rsl_if, setm, make_ints, condK_dec, wantK_dec, not_dec, and_dec, or_dec, seqK_ite, seqK_none, blockK_ite, blockK_none, opsK_ite, opsK_none, stepK_ite, stepK_none, bodyK_ite, bodyK_none, resK_ite, resK_none, leaveK_ite, leaveK_none, only_ite, only_none, bind_ite, gives_some, gives_none, gives_ite, then_normal, then_ret, then_exit, then_none, then_ite, Option.bind_none, Bool.not_eq_true', decide_eq_false_iff_not, Bool.and_eq_true, Bool.or_eq_true, Option.some.injEq, Int.not_lt, Int.not_le, lp6_5, hx, hlt, hs, h46, hc1, i1, i2, p1, p2, show Int.toNat 1 = 1 from rfl]
        refine ⟨(i + 1, out), by simp only [go_sem, reduceIte, Nat.reduceEqDiff, Nat.reduceAdd, Nat.reduceSub, Nat.reduceLeDiff, Nat.reduceLT, reduceCtorEq, Int.reduceLT, Int.reduceLE, Int.reduceEq, Int.reduceBEq, Int.reduceSub, Int.reduceAdd, Int.reduceMul, Int.reduceNeg, Int.reduceToNat, Nat.reduceMul, Nat.reduceBEq, ren1_locm, loc_tips, locT_eq, okRefsB, renCellsB, okRefs_c3, ren1_pN, pAcc_snd, hr, List.take_left] <;> rfl, ?_, ?_, fun x en s hq => ?_⟩
        · dsimp only; exact ⟨by omega, by omega⟩
        · simp only; omega
        · exact hq
    · have e : restX B ((u, w) :: ps.drop (i + 1)) = restX B (ps.drop (i + 1)) := by simp [restX, p1]
      rw [e]
      simp only [go_sem, reduceIte, Nat.reduceEqDiff, Nat.reduceAdd, Nat.reduceSub, Nat.reduceLeDiff, Nat.reduceLT, reduceCtorEq, Int.reduceLT, Int.reduceLE, Int.reduceEq, Int.reduceBEq, Int.reduceSub, Int.reduceAdd, Int.reduceMul, Int.reduceNeg, Int.reduceToNat, Nat.reduceMul, Nat.reduceBEq, index_rsl_if, setm, make_ints, condK_dec, wantK_dec, not_dec, and_dec, or_dec, seqK_ite, seqK_none, blockK_ite, blockK_none, opsK_ite, opsK_none, stepK_ite, stepK_none, bodyK_ite, bodyK_none, resK_ite, resK_none, leaveK_ite, leaveK_none, only_ite, only_none, bind_ite, gives_some, gives_none, gives_ite, then_normal, then_ret, then_exit, then_none, then_ite, Option.bind_none, Bool.not_eq_true', decide_eq_false_iff_not, Bool.and_eq_true, Bool.or_eq_true, Option.some.injEq, Int.not_lt, Int.not_le, lp6_5, hx, hlt, hs, h46, hc1, i1, p1, show Int.toNat 1 = 1 from rfl]
      refine ⟨(i + 1, out), by simp only [go_sem, reduceIte, Nat.reduceEqDiff, Nat.reduceAdd, Nat.reduceSub, Nat.reduceLeDiff, Nat.reduceLT, reduceCtorEq, Int.reduceLT, Int.reduceLE, Int.reduceEq, Int.reduceBEq, Int.reduceSub, Int.reduceAdd, Int.reduceMul, Int.reduceNeg, Int.reduceToNat, Nat.reduceMul, Nat.reduceBEq, ren1_locm, loc_tips, locT_eq, okRefsB, renCellsB, okRefs_c3, ren1_pN, pAcc_snd, hr, List.take_left] <;> rfl, ?_, ?_, fun x en s hq => ?_⟩
      · dsimp only; exact ⟨by omega, by omega⟩
      · simp only; omega
      · exact hq
  · have hd : ps.drop i = [] := List.drop_eq_nil_of_le (by omega)
    have hlt : ((i : Int) < (ps.length : Int)) = False := eq_false (by omega)
    simp only [go_sem, reduceIte, Nat.reduceEqDiff, Nat.reduceAdd, Nat.reduceSub, Nat.reduceLeDiff, Nat.reduceLT, reduceCtorEq, Int.reduceLT, Int.reduceLE, Int.reduceEq, Int.reduceBEq, Int.reduceSub, Int.reduceAdd, Int.reduceMul, Int.reduceNeg, Int.reduceToNat, Nat.reduceMul, Nat.reduceBEq, index_rsl_if, setm, make_ints, condK_dec, wantK_dec, not_dec, and_dec, or_dec, seqK_ite, seqK_none, blockK_ite, blockK_none, opsK_ite, opsK_none, stepK_ite, stepK_none, bodyK_ite, bodyK_none, resK_ite, resK_none, leaveK_ite, leaveK_none, only_ite, only_none, bind_ite, gives_some, gives_none, gives_ite, then_normal, then_ret, then_exit, then_none, then_ite, Option.bind_none, Bool.not_eq_true', decide_eq_false_iff_not, Bool.and_eq_true, Bool.or_eq_true, Option.some.injEq, Int.not_lt, Int.not_le, lp6_5, hlt]
    rw [hd]; simp [restX]


/-! ### all values by their digits -/
theorem digs : (List.range 8).map (fun n => (List.range (3 ^ n)).map fun k => digTo n k n) = (List.range 8).map (allL 1) := by kernel_rfl
theorem digs_eq {n : Nat} (hn : n ≤ 7) : (List.range (3 ^ n)).map (fun k => digTo n k n) = allL 1 n := all_of digs n (by omega)
theorem dig_get {n k : Nat} (hn : n ≤ 7) (hk : k < 3 ^ n) : (allL 1 n)[k]? = some (digTo n k n) := by
  rw [← digs_eq hn]; simp [hk]
theorem dig_mem {n k : Nat} (hn : n ≤ 7) (hk : k < 3 ^ n) : digTo n k n ∈ allL 1 n := List.mem_of_getElem? (dig_get hn hk)
theorem allL1_len {n : Nat} (hn : n ≤ 7) : (allL 1 n).length = 3 ^ n := by rw [← digs_eq hn]; simp
section
variable {n : Nat} {ps : List (Int × Int)} (hn1 : 1 ≤ n) (hn : n ≤ 7) (hps : ∀ p ∈ ps, 0 ≤ p.1 ∧ p.1 < p.2 ∧ p.2 < (n : Int)) (h7 : ∀ p ∈ ps, okP p)
include hn1 hn hps h7
theorem dig_min (k : Nat) (hk : k < 3 ^ n) (h : halfOk ps (digTo n k n) = true) : sumL (halvesV n ps) ≤ sumL (digTo n k n) :=
  (cheap_mem.1 (halves_spec hn1 hn hps h7).1).2 _ (dig_mem hn hk) h
theorem dig_first (k : Nat) (hk : k < 3 ^ n) (hg : goodK n ps (sumL (halvesV n ps)) k) (hno : ∀ j, j < k → ¬ goodK n ps (sumL (halvesV n ps)) j) : digTo n k n = halvesV n ps := by
  obtain ⟨s1, s2⟩ := halves_spec hn1 hn hps h7
  obtain ⟨⟨m1, m2⟩, m3⟩ := cheap_mem.1 s1
  obtain ⟨j, hj, hje⟩ := List.getElem_of_mem m1
  rw [allL1_len hn] at hj
  have hjd := dig_get hn hj
  rw [List.getElem?_eq_getElem (by rw [allL1_len hn]; exact hj)] at hjd
  have hjd2 : digTo n j n = halvesV n ps := by rw [← hje]; exact (Option.some.inj hjd).symm
  have hgj : goodK n ps (sumL (halvesV n ps)) j := ⟨by rw [hjd2]; exact m2, by rw [hjd2]⟩
  have h1 : ¬ j < k := fun h => hno j h hgj
  by_cases e : j = k
  · subst e; exact hjd2
  · have hlt : k < j := by omega
    have hc : digTo n k n ∈ cheap n 1 ps := cheap_mem.2 ⟨⟨dig_mem hn hk, hg.1⟩, fun y hy hy2 => by rw [hg.2]; exact m3 y hy hy2⟩
    have h2 := s2 _ hc
    have hkd := dig_get hn hk
    rw [List.getElem?_eq_getElem (by rw [allL1_len hn]; exact hk)] at hkd
    have h3 := List.pairwise_iff_getElem.1 (lex_sorted 1 (.inl rfl) n) k j (by rw [allL1_len hn]; exact hk) (by rw [allL1_len hn]; exact hj) hlt
    rw [Option.some.inj hkd, hje] at h3
    rw [h2] at h3; simp at h3
end
theorem idx_cnt {a : Int} : ∀ {l : List Int} (i : Nat), l.Pairwise (· < ·) → a ∈ l → indexOf a l i = ((i + cnt l a : Nat) : Int)
  | [], i, _, h => by simp at h
  | b :: r, i, hp, h => by
    rw [List.pairwise_cons] at hp
    simp only [indexOf]
    by_cases e : a = b
    · subst e; simp [cnt]
    · rw [if_neg e]
      have hr : a ∈ r := by simpa [e] using h
      have hb := hp.1 a hr
      rw [idx_cnt (i + 1) hp.2 hr]
      simp only [cnt, List.takeWhile_cons, hb, decide_true, if_true, List.length_cons]
      omega
theorem restX_eq {B : List Int} (hp : B.Pairwise (· < ·)) (ps : List (Int × Int)) : restX B ps = restV B ps := by
  induction ps with
  | nil => rfl
  | cons p r ih =>
    unfold restX restV at ih ⊢
    simp only [List.filterMap_cons]
    by_cases h : p.1 ∈ B ∧ p.2 ∈ B
    · rw [if_pos h, if_pos h, idx_cnt 0 hp h.1, idx_cnt 0 hp h.2, Nat.zero_add, Nat.zero_add]
      simp only [ih]
    · rw [if_neg h, if_neg h]
      simp only [ih]

attribute [local go_sem] okRef_pN pub_pN

set_option maxHeartbeats 2000000 in
theorem c6 (zs : List Int) (hzl : zs.length = 22) (hz : ∀ a ∈ zs, Byte a) (st : St) : run L 6 [qAV zs] st = some (B true, st) := by
  rw [run_pure (fn := ir6) rfl rfl]
  have h44 := fun st => c44 zs hzl hz 1 (.inl rfl) st
  obtain ⟨n, hN, hn1, _, hn, hlen, hps, h7, hnd, hck⟩ := made_ok (.inl rfl : (1 : Int) = 1 ∨ (1 : Int) = 2) zs
  rw [hN] at h44
  generalize madeP 1 zs = ps at *
  have htk : (zs.map B8).take 22 = zs.map B8 := List.take_of_length_le (by simp [hzl])
  obtain ⟨hvl, hvb, hvne⟩ := halvesV_ok hn1 hn hps h7
  have hvm := (cheap_mem.1 (halves_spec hn1 hn hps h7).1).1
  have hmin := dig_min hn1 hn hps h7
  have hfst := dig_first hn1 hn hps h7
  have ehv : hv (n : Int) ps = (halvesV n ps, 0) := by unfold hv; rw [if_pos hck, Int.toNat_natCast]
  have esu : sureV (n : Int) ps = (withL 2 (halvesV n ps) 0, withL 0 (halvesV n ps) 0, 0) := by unfold sureV; rw [if_pos hck, Int.toNat_natCast]
  have ele : leftV (n : Int) ps = withL 1 (halvesV n ps) 0 := by unfold leftV; rw [if_pos hck, Int.toNat_natCast]
  have ere : restP (n : Int) ps = restV (leftV (n : Int) ps) ps := by unfold restP; rw [if_pos hck]
  have h26 := fun st => c26 true n ps st
  have h28 := fun st => c28 true n ps st
  have h32 := fun st => c32 true n ps st
  simp only [ehv] at h26
  simp only [esu] at h28
  simp only [ere, ele, hck] at h32
  generalize halvesV n ps = v at *
  have hall : v.all in02 = true := List.all_eq_true.2 (fun x hx => decide_eq_true (hvb x hx))
  have htot : totalV v n = sumL v := by unfold totalV; rw [if_pos (by omega), if_pos hall]
  have h45 := fun st => c45 true v (by omega) n st
  simp only [htot] at h45
  have hsb := sumL_bd v hvb
  have q0 : (sumL v < 0) = False := eq_false (by omega)
  have hE : halvesE n ps v = 0 := by
    unfold halvesE
    rw [if_pos hvl, if_neg (by rintro ⟨x, hx, h⟩; have := hvb x hx; omega), if_pos hvm.2]
  have h30 := fun st => c30 true true n ps v (by omega) st
  rw [halves_eq hck (fun x hx => (hvb x hx).1), hE] at h30
  simp only [ir6, go_sem, reduceIte, Nat.reduceEqDiff, Nat.reduceAdd, Nat.reduceSub, Nat.reduceLeDiff, Nat.reduceLT, reduceCtorEq, Int.reduceLT, Int.reduceLE, Int.reduceEq, Int.reduceBEq, Int.reduceSub, Int.reduceAdd, Int.reduceMul, Int.reduceNeg, Int.reduceToNat, Nat.reduceMul, Nat.reduceBEq, okRefsB, pubsB, storableB, htk, hzl, h44, h26, h45, h30, q0, List.length_map]
  generalize hg : lim (headed pure (run L) true _ lp6_0 _ _) _ _ = o
  obtain ⟨x, en, s, rfl, h2⟩ : ∃ x en s, o = some (x, en, s) ∧ _ := by rw [← hg]; exact loop6_0 zs n hn ps v (sumL v) 0 (by omega) _ _ (by simp only [go_sem, reduceIte, Nat.reduceEqDiff, Nat.reduceAdd, Nat.reduceSub, Nat.reduceLeDiff, Nat.reduceLT, reduceCtorEq, Int.reduceLT, Int.reduceLE, Int.reduceEq, Int.reduceBEq, Int.reduceSub, Int.reduceAdd, Int.reduceMul, Int.reduceNeg, Int.reduceToNat, Nat.reduceMul, Nat.reduceBEq, okRefsB, renCellsB, Int.natCast_zero] <;> rfl)
  clear hg
  obtain ⟨rfl, e3, e4, e6, e7, rfl⟩ := h2
  simp only [go_sem, reduceIte, Nat.reduceEqDiff, Nat.reduceAdd, Nat.reduceSub, Nat.reduceLeDiff, Nat.reduceLT, reduceCtorEq, Int.reduceLT, Int.reduceLE, Int.reduceEq, Int.reduceBEq, Int.reduceSub, Int.reduceAdd, Int.reduceMul, Int.reduceNeg, Int.reduceToNat, Nat.reduceMul, Nat.reduceBEq, e3, e4, e6, e7]
  generalize hg : lim (headed pure (run L) true _ lp6_3 _ _) _ _ = o
  obtain ⟨x, en, s, rfl, h2⟩ : ∃ x en s, o = some (x, en, s) ∧ _ := by rw [← hg]; exact loop6_3 zs n hn1 hn ps hlen hps v (by omega) (sumL v) (3 ^ n) rfl hmin hfst 0 false ⟨Nat.zero_le _, by simp⟩ _ _ (by simp only [go_sem, reduceIte, Nat.reduceEqDiff, Nat.reduceAdd, Nat.reduceSub, Nat.reduceLeDiff, Nat.reduceLT, reduceCtorEq, Int.reduceLT, Int.reduceLE, Int.reduceEq, Int.reduceBEq, Int.reduceSub, Int.reduceAdd, Int.reduceMul, Int.reduceNeg, Int.reduceToNat, Nat.reduceMul, Nat.reduceBEq, e3, e4, e6, e7, okRefsB, renCellsB, Int.natCast_zero] <;> rfl)
  clear hg
  obtain ⟨rfl, f3, f4, rfl⟩ := h2
  simp only [go_sem, reduceIte, Nat.reduceEqDiff, Nat.reduceAdd, Nat.reduceSub, Nat.reduceLeDiff, Nat.reduceLT, reduceCtorEq, Int.reduceLT, Int.reduceLE, Int.reduceEq, Int.reduceBEq, Int.reduceSub, Int.reduceAdd, Int.reduceMul, Int.reduceNeg, Int.reduceToNat, Nat.reduceMul, Nat.reduceBEq, f3, f4, h28, h32, List.length_map]
  generalize hg : lim (headed pure (run L) true _ lp6_4 _ _) _ _ = o
  obtain ⟨x, en, s, rfl, h2⟩ : ∃ x en s, o = some (x, en, s) ∧ _ := by rw [← hg]; exact loop6_4 zs n ps ((withL 1 v 0).length : Int) (restV (withL 1 v 0) ps) (withL 2 v 0) (withL 0 v 0) (withL 1 v 0) v (by omega) hvb 0 (by omega) _ _ (by simp only [go_sem, reduceIte, Nat.reduceEqDiff, Nat.reduceAdd, Nat.reduceSub, Nat.reduceLeDiff, Nat.reduceLT, reduceCtorEq, Int.reduceLT, Int.reduceLE, Int.reduceEq, Int.reduceBEq, Int.reduceSub, Int.reduceAdd, Int.reduceMul, Int.reduceNeg, Int.reduceToNat, Nat.reduceMul, Nat.reduceBEq, f3, f4, okRefsB, renCellsB, Int.natCast_zero] <;> rfl)
  clear hg
  obtain ⟨rfl, g3, g15, g16, g17, g18, g20, rfl⟩ := h2
  have eA : ∀ x, toW v x v.length = withL x v 0 := fun x => by unfold toW; rw [List.take_length]
  have eC : toC v v.length = cel3 (withL 0 v 0) (withL 1 v 0) (withL 2 v 0) := by unfold toC; rw [eA, eA, eA]
  have eT : toT v v.length = tips3 (withL 0 v 0) (withL 1 v 0) (withL 2 v 0) := by unfold toT; rw [eA, eA, eA]
  rw [eC, eT]
  have hp1 := (withL_sorted 1 v 0).1
  have hrx := restX_eq hp1 ps
  have l0 := withL_len 0 v 0
  have l1 := withL_len 1 v 0
  have l2 := withL_len 2 v 0
  have hrl : (restV (withL 1 v 0) ps).length ≤ 10 := by unfold restV; exact Nat.le_trans (List.length_filterMap_le _ _) hlen
  generalize hA : withL 0 v 0 = A at *
  generalize hB : withL 1 v 0 = B1 at *
  generalize hCC : withL 2 v 0 = C at *
  have hr0 : ∀ T acc, renCells (tips3 A B1 C).length T acc (cel3 A B1 C) = (cel3 A B1 C, acc) := fun T acc => ren_c3H A B1 C T acc
  simp only [go_sem, reduceIte, Nat.reduceEqDiff, Nat.reduceAdd, Nat.reduceSub, Nat.reduceLeDiff, Nat.reduceLT, reduceCtorEq, Int.reduceLT, Int.reduceLE, Int.reduceEq, Int.reduceBEq, Int.reduceSub, Int.reduceAdd, Int.reduceMul, Int.reduceNeg, Int.reduceToNat, Nat.reduceMul, Nat.reduceBEq, g3, g15, g16, g17, g18, g20, List.length_map]
  generalize hg : lim (headed pure (run L) true _ lp6_5 _ _) _ _ = o
  obtain ⟨x, en, s, rfl, h2⟩ : ∃ x en s, o = some (x, en, s) ∧ _ := by rw [← hg]; exact loop6_5 zs n ps hlen (B1.length : Int) (restV B1 ps) C A B1 A B1 C (by omega) _ rfl 0 [] ⟨by omega, by simp⟩ _ _ (by simp only [go_sem, reduceIte, Nat.reduceEqDiff, Nat.reduceAdd, Nat.reduceSub, Nat.reduceLeDiff, Nat.reduceLT, reduceCtorEq, Int.reduceLT, Int.reduceLE, Int.reduceEq, Int.reduceBEq, Int.reduceSub, Int.reduceAdd, Int.reduceMul, Int.reduceNeg, Int.reduceToNat, Nat.reduceMul, Nat.reduceBEq, g15, g16, g17, g18, g20, okRefsB, renCellsB, okRefs_c3, hr0, List.take_length, Int.natCast_zero, show ∀ k, pN k [] = .v (.slice none 0 0) from fun _ => rfl, show pT [] = [] from rfl] <;> rfl)
  clear hg
  obtain ⟨rfl, i15, i16, i17, i18, i20, i23, rfl⟩ := h2
  rw [List.drop_zero, List.nil_append, hrx] at i23 ⊢
  have k21 : ∀ (k : Nat) (xs : List Int), xs.length ≤ 7 → ∀ st, run L 21 [sl 1 true (xs.map I), cN k xs] st = some (B true, st) := fun k xs hx =>
    run_args2 (fn := ir21) (args' := [sl 1 true (xs.map I), sl 1 true (xs.map I)]) rfl rfl (by simp only [pubs, pub_cN, pub_sl]) (fun st => by rw [c21 true true xs xs (by omega) st]; simp)
  have k34 : ∀ (k : Nat) st, run L 34 [sl 2 true ((restV B1 ps).map prAV), pN k (restV B1 ps)] st = some (B true, st) := fun k =>
    run_args2 (fn := ir34) (args' := [sl 2 true ((restV B1 ps).map prAV), sl 2 true ((restV B1 ps).map prAV)]) rfl rfl (by simp only [pubs, pub_pN, pub_sl]) (fun st => by rw [c34 true true _ _ (by omega) st]; simp)
  have c0 : (cel3 A B1 C)[0]? = some (cN 0 A) := rfl
  have c1 : (cel3 A B1 C)[1]? = some (cN (n1 A) B1) := rfl
  have c2 : (cel3 A B1 C)[2]? = some (cN (n1 A + n1 B1) C) := rfl
  have kA := fun k st => k21 k A (by omega) st
  have kB := fun k st => k21 k B1 (by omega) st
  have kC := fun k st => k21 k C (by omega) st
  simp only [go_sem, reduceIte, Nat.reduceEqDiff, Nat.reduceAdd, Nat.reduceSub, Nat.reduceLeDiff, Nat.reduceLT, reduceCtorEq, Int.reduceLT, Int.reduceLE, Int.reduceEq, Int.reduceBEq, Int.reduceSub, Int.reduceAdd, Int.reduceMul, Int.reduceNeg, Int.reduceToNat, Nat.reduceMul, Nat.reduceBEq, i15, i16, i17, i18, i20, i23, c0, c1, c2, kA, kB, kC, k34, len_cN, c16]
end Go.Proofs.YtpmbfgogpcjdlaaDoor.Vm
