/- What is proved: what functions of this program answer, by the evaluator. No condition. -/
import Derived.Test.YtpmbfgogpcjdlaaDoorF6
set_option linter.all false
namespace Go.Proofs.YtpmbfgogpcjdlaaDoor.Vm
open Go Go.Ev
set_option maxRecDepth 100000
attribute [local go_sem] cells_any storable_any ren1_any shaped_ptr cells_ptr storable_ptr ren1_ptr shaped_eptr cells_eptr storable_eptr ren1_eptr shaped_rsl cells_rsl storable_rsl ren1_rsl shaped_int cells_int storable_int ren1_int shaped_bool cells_bool storable_bool ren1_bool shaped_nils cells_nils storable_nils ren1_nils shaped_lst cells_lst storable_lst shaped_fn cells_fn storable_fn ren1_fn shaped_ifc cells_ifc storable_ifc ren1_ifc shaped_agg cells_agg storable_agg ren1_agg shaped_tup cells_tup storable_tup ren1_tup shaped_nif cells_nif storable_nif ren1_nif ren1_lany ren1_lfull ren1_lown len_lst len_rsl len_nil load_ptr load_eptr isRsl_lst isRsl_nil isRsl_rsl elems_nil elems_lst elems_sl isRsl_sl body_eq bodyK_normal bodyK_ret resK_some leaveK_some only_some code_skip code_exit code_ret code_ops code_seq code_cond code_block seqK_normal seqK_ret seqK_exit condK_true condK_false blockK_normal blockK_ret blockK_exit opsK_some ops_nil ops_cons wantK_true wantK_false stepK_some pubs pub pub_sl params okRef_loc storable_loc shaped_loc cells_loc isRsl_loc elems_loc len_loc untips untip untip_sl wantedAV setElems withO isAgg_v isAgg_agg isAgg_lst isAgg_ptr isAgg_fn isAgg_ifc isAgg_rsl isAgg_sl isAgg_loc List.replicate_succ List.replicate_zero opAV valAV aval avals ofVal Env.get setD canon gcAV renAll renEnv renStore renCells ren1_sl cutSt okEnv okStore okRefs okRef okRef_sl bin_int bin_bool bin_lst bin_rsl bin_nil bin_agg cellsEq cellEq isShift intOp boolOp min_int max_int beq_int bne resAV tupAV leave_eq fin_sl fin_loc fins fin_v fin_lst fin_agg fin_tup fin_fn storeAV readCells putCells cells_sl shaped_sl storable_sl fieldAddrAV len_sl goI List.getElem?_cons_zero List.getElem?_cons_succ List.getElem?_nil Option.bind_some Option.map_some List.length_cons List.length_nil List.all_cons List.all_nil Bool.and_true Bool.true_and Bool.and_false Bool.false_and and_true true_and and_false false_and Bool.false_eq_true List.set_cons_zero List.set_cons_succ List.append_nil List.nil_append List.cons_append List.take_zero List.take_succ_cons List.take_nil List.drop_zero List.drop_succ_cons List.map_cons List.map_nil decide_true decide_false beq_self_eq_true Bool.not_true Bool.not_false or_true true_or or_false false_or Nat.zero_add Nat.add_zero Nat.le_refl Nat.lt_irrefl decide_eq_true_eq eq_self_iff_true not_true_eq_false not_false_eq_true List.getD_cons_zero code_loop Nat.zero_le Nat.not_lt_zero Bool.true_beq Bool.false_beq beq_true beq_false ge_iff_le gt_iff_lt Lpure pus Option.map_none assert_ifc assert_nil idxA_ptr idxA_eptr idxV_agg Int.cast_ofNat_Int Nat.mul_one Nat.zero_mul Int.toNat_natCast Int.toNat_zero setParts withO2 hasKey eqnil_sl nenil_sl eqnil_loc nenil_loc map_nil_iff okRefs_ints renCells_ints

def orU (a b : Nat) : Nat := a % 2 ^ 64 ||| b % 2 ^ 64
theorem or_u (a b : Nat) : binAV .or none (.v (.int .u64 (a : Int))) (.v (.int .u64 (b : Int))) = some (.v (.int .u64 ((orU a b : Nat) : Int))) := by
  have h : (BitVec.ofInt 64 (a : Int) ||| BitVec.ofInt 64 (b : Int)).toNat = orU a b := by
    rw [BitVec.toNat_or]; simp [BitVec.ofInt_natCast, orU]
  show some (AV.v (.int .u64 (IntKind.u64.wrap ((BitVec.ofInt 64 (a : Int) ||| BitVec.ofInt 64 (b : Int)).toNat : Int)))) = _
  rw [h, wrapU]
  unfold orU
  exact Nat.or_lt_two_pow (Nat.mod_lt _ (by decide)) (Nat.mod_lt _ (by decide))
theorem orU_eq (a b : Nat) (ha : a < 128) (hb : b < 128) : orU a b = a ||| b := by
  unfold orU; rw [Nat.mod_eq_of_lt (by omega), Nat.mod_eq_of_lt (by omega)]
attribute [local go_sem high] and_one shr_u shl_one or_u

theorem prsErr_zero {n : Int} : ∀ {ps seen : List (Int × Int)}, prsErr n seen ps = 0 → ∀ p ∈ ps, 0 ≤ p.1 ∧ p.1 < p.2 ∧ p.2 < n
  | [], _, _, p, hp => by simp at hp
  | a :: r, seen, h, p, hp => by
    simp only [prsErr] at h
    split at h
    · next h0 =>
      unfold prErr at h0
      split at h0
      · omega
      · split at h0
        · omega
        · rcases List.mem_cons.1 hp with rfl | hp
          · exact ⟨by omega, by omega, by omega⟩
          · exact prsErr_zero h p hp
    · next h0 => exact absurd h h0
/-- What a good book is like. -/
theorem chk_zero {n : Int} {ps : List (Int × Int)} (h : chk n ps = 0) : 1 ≤ n ∧ n ≤ 7 ∧ ps.length ≤ 10 ∧ (∀ p ∈ ps, 0 ≤ p.1 ∧ p.1 < p.2 ∧ p.2 < n) ∧ ∀ p ∈ ps, okP p := by
  unfold chk at h
  split at h
  · omega
  · split at h
    · omega
    · have := prsErr_zero h
      exact ⟨by omega, by omega, by omega, this, fun p hp => by have := this p hp; unfold okP; omega⟩

/-- A list and an error: nil with an error. -/
def firstV (n : Int) (ps : List (Int × Int)) : List Int × Int := if chk n ps = 0 then ((shAll n.toNat ps).1, 0) else ([], chk n ps)
def countV (n : Int) (ps : List (Int × Int)) : Int × Int := if chk n ps = 0 then ((shAll n.toNat ps).2, 0) else (0, chk n ps)

theorem c17 (nl : Bool) (n : Int) (ps : List (Int × Int)) (st : St) : run L 17 [bkAV nl n ps] st = some (.tup [sl 1 true ((firstV n ps).1.map I), I (firstV n ps).2], st) := by
  rw [run_pure (fn := ir17) rfl rfl]
  have h22 := fun st => c22 nl n ps st
  unfold firstV
  by_cases h : chk n ps = 0
  · obtain ⟨h1, h2, h3, h4, h5⟩ := chk_zero h
    obtain ⟨k, rfl⟩ := Int.eq_ofNat_of_zero_le (show 0 ≤ n by omega)
    have h72 := fun st => c72 nl k (by omega) ps (by omega) h5 st
    rw [if_pos h]
    simp only [Int.toNat_natCast]
    simp only [ir17, go_sem, reduceIte, Nat.reduceEqDiff, Nat.reduceAdd, Nat.reduceSub, Nat.reduceLeDiff, Nat.reduceLT, reduceCtorEq, Int.reduceLT, Int.reduceLE, Int.reduceEq, Int.reduceBEq, Int.reduceSub, Int.reduceAdd, Int.reduceMul, Int.reduceNeg, Int.reduceToNat, Nat.reduceMul, Nat.reduceBEq, h22, h, h72]
  · rw [if_neg h]
    simp only [ir17, go_sem, reduceIte, Nat.reduceEqDiff, Nat.reduceAdd, Nat.reduceSub, Nat.reduceLeDiff, Nat.reduceLT, reduceCtorEq, Int.reduceLT, Int.reduceLE, Int.reduceEq, Int.reduceBEq, Int.reduceSub, Int.reduceAdd, Int.reduceMul, Int.reduceNeg, Int.reduceToNat, Nat.reduceMul, Nat.reduceBEq, h22, h]
    rfl
theorem c19 (nl : Bool) (n : Int) (ps : List (Int × Int)) (st : St) : run L 19 [bkAV nl n ps] st = some (.tup [I (countV n ps).1, I (countV n ps).2], st) := by
  rw [run_pure (fn := ir19) rfl rfl]
  have h22 := fun st => c22 nl n ps st
  unfold countV
  by_cases h : chk n ps = 0
  · obtain ⟨h1, h2, h3, h4, h5⟩ := chk_zero h
    obtain ⟨k, rfl⟩ := Int.eq_ofNat_of_zero_le (show 0 ≤ n by omega)
    have h72 := fun st => c72 nl k (by omega) ps (by omega) h5 st
    rw [if_pos h]
    simp only [Int.toNat_natCast]
    simp only [ir19, go_sem, reduceIte, Nat.reduceEqDiff, Nat.reduceAdd, Nat.reduceSub, Nat.reduceLeDiff, Nat.reduceLT, reduceCtorEq, Int.reduceLT, Int.reduceLE, Int.reduceEq, Int.reduceBEq, Int.reduceSub, Int.reduceAdd, Int.reduceMul, Int.reduceNeg, Int.reduceToNat, Nat.reduceMul, Nat.reduceBEq, h22, h, h72]
  · rw [if_neg h]
    simp only [ir19, go_sem, reduceIte, Nat.reduceEqDiff, Nat.reduceAdd, Nat.reduceSub, Nat.reduceLeDiff, Nat.reduceLT, reduceCtorEq, Int.reduceLT, Int.reduceLE, Int.reduceEq, Int.reduceBEq, Int.reduceSub, Int.reduceAdd, Int.reduceMul, Int.reduceNeg, Int.reduceToNat, Nat.reduceMul, Nat.reduceBEq, h22, h]

/-- What is wrong with a list behind a last number; its set. -/
def wErr (n : Int) : Int → List Int → Int
  | _, [] => 0
  | last, a :: r => if a < 0 ∨ n ≤ a then 2 else if a ≤ last then 7 else wErr n a r
def setOf (l : List Int) (m : Nat) : Nat := l.foldl (fun m a => m ||| 2 ^ a.toNat) m
def validV (n : Int) (ps : List (Int × Int)) (l : List Int) : Int :=
  if chk n ps = 0 then (if wErr n (-1) l = 0 then (if expl ps (setOf l 0) = true then 0 else 21) else wErr n (-1) l) else chk n ps

theorem loop24 (nl n2 : Bool) (n : Int) (hn : n ≤ 7) (ps : List (Int × Int)) (l : List Int) (hlen : l.length < 1000000) (i : Nat) (m : Nat) (last : Int) (hok : i ≤ l.length ∧ m < 128) (env : Env) (st : St)
    (hg : gcAV true 1 0 (canon env [2, 6, 7, 15, 16, 17]) st = ([(2, .ptr 0 0), (6, .v (.int .u64 (m : Int))), (7, I last), (15, sl 1 n2 (l.map I)), (16, I l.length), (17, I i)], ⟨[bkCells nl n ps], []⟩)) :
    ∃ x_1 en s, lim (headed pure (run L) true [2, 6, 7, 15, 16, 17] lp24_0 1 0) env st = some (x_1, en, s) ∧ (if wErr n last (l.drop i) = 0 then x_1 = .exit 0 ∧ en.get 2 = .ptr 0 0 ∧ s = ⟨[bkCells nl n ps], []⟩ ∧ en.get 6 = U (setOf (l.drop i) m) ∧ setOf (l.drop i) m < 128 else x_1 = .ret ∧ en.get 4 = I (wErr n last (l.drop i))) := by
  refine loop_wp (α := Nat × Nat × Int) (fun ⟨i, m, last⟩ => l.length - i) (fun ⟨i, m, last⟩ => i ≤ l.length ∧ m < 128) (fun ⟨i, m, last⟩ => ([(2, .ptr 0 0), (6, .v (.int .u64 (m : Int))), (7, I last), (15, sl 1 n2 (l.map I)), (16, I l.length), (17, I i)], ⟨[bkCells nl n ps], []⟩)) (fun ⟨i, m, last⟩ x_1 en s => if wErr n last (l.drop i) = 0 then x_1 = .exit 0 ∧ en.get 2 = .ptr 0 0 ∧ s = ⟨[bkCells nl n ps], []⟩ ∧ en.get 6 = U (setOf (l.drop i) m) ∧ setOf (l.drop i) m < 128 else x_1 = .ret ∧ en.get 4 = I (wErr n last (l.drop i))) (fun ⟨i, m, last⟩ hok => ?_) ⟨i, m, last⟩ hok env st hg
  simp only at hok
  obtain ⟨h1, h2⟩ := hok
  dsimp only
  by_cases h : i < l.length
  · have hx := index_ints n2 l i h
    have hs := succ64 i (by omega)
    have hd : l.drop i = l[i] :: l.drop (i + 1) := List.drop_eq_getElem_cons h
    have hlt : ((i : Int) < (l.length : Int)) = True := eq_true (by omega)
    rw [hd]
    generalize l[i] = a at *
    by_cases p1 : a < 0
    · have he : wErr n last (a :: l.drop (i + 1)) = 2 := by simp only [wErr]; rw [if_pos (.inl p1)]
      simp only [go_sem, reduceIte, Nat.reduceEqDiff, Nat.reduceAdd, Nat.reduceSub, Nat.reduceLeDiff, Nat.reduceLT, reduceCtorEq, Int.reduceLT, Int.reduceLE, Int.reduceEq, Int.reduceBEq, Int.reduceSub, Int.reduceAdd, Int.reduceMul, Int.reduceNeg, Int.reduceToNat, Nat.reduceMul, Nat.reduceBEq, index_rsl_if, setm, make_ints, condK_dec, wantK_dec, not_dec, and_dec, or_dec, seqK_ite, seqK_none, blockK_ite, blockK_none, opsK_ite, opsK_none, stepK_ite, stepK_none, bodyK_ite, bodyK_none, resK_ite, resK_none, leaveK_ite, leaveK_none, only_ite, only_none, bind_ite, gives_some, gives_none, gives_ite, then_normal, then_ret, then_exit, then_none, then_ite, Option.bind_none, Bool.not_eq_true', decide_eq_false_iff_not, Bool.and_eq_true, Bool.or_eq_true, Option.some.injEq, Int.not_lt, Int.not_le, lp24_0, hx, hlt, p1]
      rw [he]; simp
    by_cases p2 : n ≤ a
    · have he : wErr n last (a :: l.drop (i + 1)) = 2 := by simp only [wErr]; rw [if_pos (.inr p2)]
      simp only [go_sem, reduceIte, Nat.reduceEqDiff, Nat.reduceAdd, Nat.reduceSub, Nat.reduceLeDiff, Nat.reduceLT, reduceCtorEq, Int.reduceLT, Int.reduceLE, Int.reduceEq, Int.reduceBEq, Int.reduceSub, Int.reduceAdd, Int.reduceMul, Int.reduceNeg, Int.reduceToNat, Nat.reduceMul, Nat.reduceBEq, index_rsl_if, setm, make_ints, condK_dec, wantK_dec, not_dec, and_dec, or_dec, seqK_ite, seqK_none, blockK_ite, blockK_none, opsK_ite, opsK_none, stepK_ite, stepK_none, bodyK_ite, bodyK_none, resK_ite, resK_none, leaveK_ite, leaveK_none, only_ite, only_none, bind_ite, gives_some, gives_none, gives_ite, then_normal, then_ret, then_exit, then_none, then_ite, Option.bind_none, Bool.not_eq_true', decide_eq_false_iff_not, Bool.and_eq_true, Bool.or_eq_true, Option.some.injEq, Int.not_lt, Int.not_le, lp24_0, hx, hlt, p1, p2]
      rw [he]; simp
    by_cases p3 : a ≤ last
    · have he : wErr n last (a :: l.drop (i + 1)) = 7 := by simp only [wErr]; rw [if_neg (by omega), if_pos p3]
      simp only [go_sem, reduceIte, Nat.reduceEqDiff, Nat.reduceAdd, Nat.reduceSub, Nat.reduceLeDiff, Nat.reduceLT, reduceCtorEq, Int.reduceLT, Int.reduceLE, Int.reduceEq, Int.reduceBEq, Int.reduceSub, Int.reduceAdd, Int.reduceMul, Int.reduceNeg, Int.reduceToNat, Nat.reduceMul, Nat.reduceBEq, index_rsl_if, setm, make_ints, condK_dec, wantK_dec, not_dec, and_dec, or_dec, seqK_ite, seqK_none, blockK_ite, blockK_none, opsK_ite, opsK_none, stepK_ite, stepK_none, bodyK_ite, bodyK_none, resK_ite, resK_none, leaveK_ite, leaveK_none, only_ite, only_none, bind_ite, gives_some, gives_none, gives_ite, then_normal, then_ret, then_exit, then_none, then_ite, Option.bind_none, Bool.not_eq_true', decide_eq_false_iff_not, Bool.and_eq_true, Bool.or_eq_true, Option.some.injEq, Int.not_lt, Int.not_le, lp24_0, hx, hlt, p1, p2, p3]
      rw [he]; simp
    · have he : wErr n last (a :: l.drop (i + 1)) = wErr n a (l.drop (i + 1)) := by simp only [wErr]; rw [if_neg (by omega), if_neg p3]
      obtain ⟨b, rfl⟩ := Int.eq_ofNat_of_zero_le (show 0 ≤ a by omega)
      have hb : 2 ^ b < 128 := Nat.pow_lt_pow_right (by omega) (show b < 7 by omega)
      have hsh := sh1_eq b (by omega)
      have hor := orU_eq m (2 ^ b) h2 hb
      have hlt2 : m ||| 2 ^ b < 128 := Nat.or_lt_two_pow (n := 7) h2 hb
      have hset : setOf ((b : Int) :: l.drop (i + 1)) m = setOf (l.drop (i + 1)) (m ||| 2 ^ b) := rfl
      generalize m ||| 2 ^ b = m2 at *
      simp only [go_sem, reduceIte, Nat.reduceEqDiff, Nat.reduceAdd, Nat.reduceSub, Nat.reduceLeDiff, Nat.reduceLT, reduceCtorEq, Int.reduceLT, Int.reduceLE, Int.reduceEq, Int.reduceBEq, Int.reduceSub, Int.reduceAdd, Int.reduceMul, Int.reduceNeg, Int.reduceToNat, Nat.reduceMul, Nat.reduceBEq, index_rsl_if, setm, make_ints, condK_dec, wantK_dec, not_dec, and_dec, or_dec, seqK_ite, seqK_none, blockK_ite, blockK_none, opsK_ite, opsK_none, stepK_ite, stepK_none, bodyK_ite, bodyK_none, resK_ite, resK_none, leaveK_ite, leaveK_none, only_ite, only_none, bind_ite, gives_some, gives_none, gives_ite, then_normal, then_ret, then_exit, then_none, then_ite, Option.bind_none, Bool.not_eq_true', decide_eq_false_iff_not, Bool.and_eq_true, Bool.or_eq_true, Option.some.injEq, Int.not_lt, Int.not_le, lp24_0, hx, hlt, p1, p2, p3, hsh, hor, hs]
      refine ⟨(i + 1, m2, (b : Int)), by simp only [go_sem, reduceIte, Nat.reduceEqDiff, Nat.reduceAdd, Nat.reduceSub, Nat.reduceLeDiff, Nat.reduceLT, reduceCtorEq, Int.reduceLT, Int.reduceLE, Int.reduceEq, Int.reduceBEq, Int.reduceSub, Int.reduceAdd, Int.reduceMul, Int.reduceNeg, Int.reduceToNat, Nat.reduceMul, Nat.reduceBEq, ren1_locm, loc_tips, locT_eq] <;> rfl, ?_, ?_, fun x en s hq => ?_⟩
      · dsimp only; exact ⟨by omega, hlt2⟩
      · simp only; omega
      · rw [he, hset]
        exact hq
  · have hd : l.drop i = [] := List.drop_eq_nil_of_le (by omega)
    have hlt : ((i : Int) < (l.length : Int)) = False := eq_false (by omega)
    simp only [go_sem, reduceIte, Nat.reduceEqDiff, Nat.reduceAdd, Nat.reduceSub, Nat.reduceLeDiff, Nat.reduceLT, reduceCtorEq, Int.reduceLT, Int.reduceLE, Int.reduceEq, Int.reduceBEq, Int.reduceSub, Int.reduceAdd, Int.reduceMul, Int.reduceNeg, Int.reduceToNat, Nat.reduceMul, Nat.reduceBEq, index_rsl_if, setm, make_ints, condK_dec, wantK_dec, not_dec, and_dec, or_dec, seqK_ite, seqK_none, blockK_ite, blockK_none, opsK_ite, opsK_none, stepK_ite, stepK_none, bodyK_ite, bodyK_none, resK_ite, resK_none, leaveK_ite, leaveK_none, only_ite, only_none, bind_ite, gives_some, gives_none, gives_ite, then_normal, then_ret, then_exit, then_none, then_ite, Option.bind_none, Bool.not_eq_true', decide_eq_false_iff_not, Bool.and_eq_true, Bool.or_eq_true, Option.some.injEq, Int.not_lt, Int.not_le, lp24_0, hlt]
    rw [hd]; simp [wErr, setOf, h2]


theorem c24 (nl n2 : Bool) (n : Int) (ps : List (Int × Int)) (l : List Int) (hlen : l.length < 1000000) (st : St) :
    run L 24 [bkAV nl n ps, sl 1 n2 (l.map I)] st = some (I (validV n ps l), st) := by
  rw [run_pure (fn := ir24) rfl rfl]
  have h22 := fun st => c22 nl n ps st
  unfold validV
  by_cases h : chk n ps = 0
  · obtain ⟨h1, h2, h3, h4, h5⟩ := chk_zero h
    rw [if_pos h]
    simp only [ir24, go_sem, reduceIte, Nat.reduceEqDiff, Nat.reduceAdd, Nat.reduceSub, Nat.reduceLeDiff, Nat.reduceLT, reduceCtorEq, Int.reduceLT, Int.reduceLE, Int.reduceEq, Int.reduceBEq, Int.reduceSub, Int.reduceAdd, Int.reduceMul, Int.reduceNeg, Int.reduceToNat, Nat.reduceMul, Nat.reduceBEq, h22, h, List.length_map]
    generalize hg : lim (headed pure (run L) true _ lp24_0 _ _) _ _ = o
    obtain ⟨x, en, s, rfl, h2⟩ : ∃ x en s, o = some (x, en, s) ∧ _ := by rw [← hg]; exact loop24 nl n2 n h2 ps l hlen 0 0 (-1) ⟨by omega, by omega⟩ _ _ (by simp only [go_sem, reduceIte, Nat.reduceEqDiff, Nat.reduceAdd, Nat.reduceSub, Nat.reduceLeDiff, Nat.reduceLT, reduceCtorEq, Int.reduceLT, Int.reduceLE, Int.reduceEq, Int.reduceBEq, Int.reduceSub, Int.reduceAdd, Int.reduceMul, Int.reduceNeg, Int.reduceToNat, Nat.reduceMul, Nat.reduceBEq, Int.natCast_zero] <;> rfl)
    clear hg
    rw [List.drop_zero] at h2
    by_cases p : wErr n (-1) l = 0
    · rw [if_pos p] at h2
      obtain ⟨rfl, g1, rfl, g2, g3⟩ := h2
      have h79 := fun st => c79 nl n ps (by omega) h5 (setOf l 0) g3 st
      rw [if_pos p]
      by_cases q : ps.any (openP (setOf l 0)) = true
      · have q' : expl ps (setOf l 0) = false := by unfold expl; rw [q]; rfl
        simp only [go_sem, reduceIte, Nat.reduceEqDiff, Nat.reduceAdd, Nat.reduceSub, Nat.reduceLeDiff, Nat.reduceLT, reduceCtorEq, Int.reduceLT, Int.reduceLE, Int.reduceEq, Int.reduceBEq, Int.reduceSub, Int.reduceAdd, Int.reduceMul, Int.reduceNeg, Int.reduceToNat, Nat.reduceMul, Nat.reduceBEq, g1, g2, h79, q, q']
      · have q0 : ps.any (openP (setOf l 0)) = false := by simpa using q
        have q' : expl ps (setOf l 0) = true := by unfold expl; rw [q0]; rfl
        simp only [go_sem, reduceIte, Nat.reduceEqDiff, Nat.reduceAdd, Nat.reduceSub, Nat.reduceLeDiff, Nat.reduceLT, reduceCtorEq, Int.reduceLT, Int.reduceLE, Int.reduceEq, Int.reduceBEq, Int.reduceSub, Int.reduceAdd, Int.reduceMul, Int.reduceNeg, Int.reduceToNat, Nat.reduceMul, Nat.reduceBEq, g1, g2, h79, q0, q']
    · rw [if_neg p] at h2
      obtain ⟨rfl, g1⟩ := h2
      rw [if_neg p]
      simp only [go_sem, reduceIte, Nat.reduceEqDiff, Nat.reduceAdd, Nat.reduceSub, Nat.reduceLeDiff, Nat.reduceLT, reduceCtorEq, Int.reduceLT, Int.reduceLE, Int.reduceEq, Int.reduceBEq, Int.reduceSub, Int.reduceAdd, Int.reduceMul, Int.reduceNeg, Int.reduceToNat, Nat.reduceMul, Nat.reduceBEq, g1]
  · rw [if_neg h]
    simp only [ir24, go_sem, reduceIte, Nat.reduceEqDiff, Nat.reduceAdd, Nat.reduceSub, Nat.reduceLeDiff, Nat.reduceLT, reduceCtorEq, Int.reduceLT, Int.reduceLE, Int.reduceEq, Int.reduceBEq, Int.reduceSub, Int.reduceAdd, Int.reduceMul, Int.reduceNeg, Int.reduceToNat, Nat.reduceMul, Nat.reduceBEq, h22, h]
end Go.Proofs.YtpmbfgogpcjdlaaDoor.Vm
