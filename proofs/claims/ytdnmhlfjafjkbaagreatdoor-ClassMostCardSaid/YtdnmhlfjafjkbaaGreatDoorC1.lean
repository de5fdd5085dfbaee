/- What is proved: what each function of this program computes, as equations on the evaluator. No condition. -/
import Derived.Test.YtdnmhlfjafjkbaaGreatDoorLib
import Derived.Test.YtdnmhlfjafjkbaaGreatDoorSy
import Derived.KernelRfl
set_option linter.all false
namespace Go.Proofs.YtdnmhlfjafjkbaaGreatDoor.Vm
open Go Go.Ev
set_option maxRecDepth 100000
attribute [local go_sem] cells_any storable_any ren1_any shaped_ptr cells_ptr storable_ptr ren1_ptr shaped_eptr cells_eptr storable_eptr ren1_eptr shaped_rsl cells_rsl storable_rsl ren1_rsl shaped_int cells_int storable_int ren1_int shaped_bool cells_bool storable_bool ren1_bool shaped_nils cells_nils storable_nils ren1_nils shaped_lst cells_lst storable_lst shaped_fn cells_fn storable_fn ren1_fn shaped_ifc cells_ifc storable_ifc ren1_ifc shaped_agg cells_agg storable_agg ren1_agg shaped_tup cells_tup storable_tup ren1_tup shaped_nif cells_nif storable_nif ren1_nif ren1_lany ren1_lfull ren1_lown len_lst len_rsl len_nil load_ptr load_eptr isRsl_lst isRsl_nil isRsl_rsl elems_nil elems_lst elems_sl isRsl_sl body_eq bodyK_normal bodyK_ret resK_some leaveK_some only_some code_skip code_exit code_ret code_ops code_seq code_cond code_block seqK_normal seqK_ret seqK_exit condK_true condK_false blockK_normal blockK_ret blockK_exit opsK_some ops_nil ops_cons wantK_true wantK_false stepK_some pubs pub pub_sl params okRef_loc storable_loc shaped_loc cells_loc isRsl_loc elems_loc len_loc untips untip untip_sl wantedAV setElems withO isAgg_v isAgg_agg isAgg_lst isAgg_ptr isAgg_fn isAgg_ifc isAgg_rsl isAgg_sl isAgg_loc List.replicate_succ List.replicate_zero opAV valAV aval avals ofVal Env.get setD canon gcAV renAll renEnv renStore renCells ren1_sl cutSt okEnv okStore okRefs okRef okRef_sl bin_int bin_bool bin_lst bin_rsl bin_nil bin_agg cellsEq cellEq isShift intOp boolOp min_int max_int beq_int bne resAV tupAV leave_eq fin_sl fin_loc fins fin_v fin_lst fin_agg fin_tup fin_fn storeAV readCells putCells cells_sl shaped_sl storable_sl fieldAddrAV len_sl goI List.getElem?_cons_zero List.getElem?_cons_succ List.getElem?_nil Option.bind_some Option.map_some List.length_cons List.length_nil List.all_cons List.all_nil Bool.and_true Bool.true_and Bool.and_false Bool.false_and and_true true_and and_false false_and Bool.false_eq_true List.set_cons_zero List.set_cons_succ List.append_nil List.nil_append List.cons_append List.take_zero List.take_succ_cons List.take_nil List.drop_zero List.drop_succ_cons List.map_cons List.map_nil decide_true decide_false beq_self_eq_true Bool.not_true Bool.not_false or_true true_or or_false false_or Nat.zero_add Nat.add_zero Nat.le_refl Nat.lt_irrefl decide_eq_true_eq eq_self_iff_true not_true_eq_false not_false_eq_true List.getD_cons_zero code_loop Nat.zero_le Nat.not_lt_zero Bool.true_beq Bool.false_beq beq_true beq_false ge_iff_le gt_iff_lt keepR keepT ownTop Lpure pus Option.map_none assert_ifc assert_nil idxA_ptr idxA_eptr idxV_agg Int.cast_ofNat_Int Nat.mul_one Nat.zero_mul Int.toNat_natCast Int.toNat_zero setParts withO2 hasKey eqnil_sl nenil_sl eqnil_loc nenil_loc map_nil_iff okRefs_ints renCells_ints

theorem succ64 (i : Nat) (h : i < 1000000) : IntKind.i64.wrap ((i : Int) + 1) = ((i + 1 : Nat) : Int) := by
  rw [wrap64] <;> omega
theorem index_ints (nl : Bool) (l : List Int) (i : Nat) (h : i < l.length) : indexSAV 1 (sl 1 nl (l.map I)) (.v (.int .i64 i)) = some (.eptr (I l[i]) 0) := by
  rw [index_sl _ _ _ _ _ (by omega) (by simpa using h)]
  simp
abbrev J (n : Nat) : AV := I (n : Int)
abbrev U (n : Nat) : AV := .v (.int .u64 n)
theorem wrapU (n : Nat) (h : n < 2 ^ 64) : IntKind.u64.wrap (n : Int) = n := by
  simp [IntKind.wrap, IntKind.bits, IntKind.signed]; omega
theorem run_any' {f : FuncId} {fn : IF} (hf : L.fns f = some fn) (hp : L.pure f = true) {args : List AV} {st0 st1 : St} {r : AV} (h : run L f args st0 = some (r, st1)) (st : St) : run L f args st = some (r, st) := by
  rw [run_pure hf hp] at h ⊢
  unfold leaveK at h ⊢
  split at h
  · simp only [leave, Option.some.injEq, Prod.mk.injEq] at h ⊢
    exact ⟨h.1, trivial⟩
  · simp at h
theorem all_of {α : Type} {f g : Nat → α} {k : Nat} (h : (List.range k).map f = (List.range k).map g) (m : Nat) (hm : m < k) : f m = g m := by
  have := congrArg (fun l : List α => l[m]?) h
  simpa [hm] using this
def sh1 (p : Nat) : Nat := 2 ^ min p 64 % 2 ^ 64
theorem sh1_eq (p : Nat) (h : p < 64) : sh1 p = 2 ^ p := by
  unfold sh1; rw [show min p 64 = p by omega]
  exact Nat.mod_eq_of_lt (Nat.pow_lt_pow_right (by omega) h)
theorem shl_one (p : Nat) : binAV .shl none (.v (.int .u64 1)) (.v (.int .i64 (p : Int))) = some (.v (.int .u64 ((sh1 p : Nat) : Int))) := by
  show (if (p : Int) < 0 then none else some (AV.v (.int .u64 (IntKind.u64.wrap (1 * (2 ^ (min (Int.toNat (p : Int)) 64)))))) ) = _
  rw [if_neg (by omega), Int.toNat_natCast]
  have e2 : (1 : Int) * ((2 : Int) ^ (min p 64)) = ((2 ^ (min p 64) : Nat) : Int) := by simp
  rw [e2]
  simp only [sh1, IntKind.wrap, IntKind.bits, IntKind.signed]
  simp
theorem succU (m : Nat) (h : m < 1000000) : IntKind.u64.wrap ((m : Int) + 1) = ((m + 1 : Nat) : Int) := by
  have := wrapU (m + 1) (by omega)
  simpa using this
def andN (a b : Nat) : Nat := a % 2 ^ 64 &&& b % 2 ^ 64
theorem and_u (a b : Nat) : binAV .and none (.v (.int .u64 (a : Int))) (.v (.int .u64 (b : Int))) = some (.v (.int .u64 ((andN a b : Nat) : Int))) := by
  have h : (BitVec.ofInt 64 (a : Int) &&& BitVec.ofInt 64 (b : Int)).toNat = andN a b := by
    rw [BitVec.toNat_and]; simp [BitVec.ofInt_natCast, andN]
  show some (AV.v (.int .u64 (IntKind.u64.wrap ((BitVec.ofInt 64 (a : Int) &&& BitVec.ofInt 64 (b : Int)).toNat : Int)))) = _
  rw [h, wrapU]
  unfold andN
  exact Nat.lt_of_le_of_lt Nat.and_le_left (Nat.mod_lt _ (by decide))
theorem andN_eq (a b : Nat) (ha : a < 512) (hb : b < 512) : andN a b = a &&& b := by
  unfold andN; rw [Nat.mod_eq_of_lt (by omega), Nat.mod_eq_of_lt (by omega)]
theorem loop22 (n1 n2 : Bool) (xs ys : List Int) (hl : xs.length = ys.length) (hlen : xs.length < 1000000) (i : Nat) (hok : i ≤ xs.length) (env : Env) (st : St)
    (hg : gcAV true 0 0 (canon env [0, 1, 5]) st = ([(0, sl 1 n1 (xs.map I)), (1, sl 1 n2 (ys.map I)), (5, I i)], ⟨[], []⟩)) :
    ∃ x_1 en s, lim (headed pure (run L) true [0, 1, 5] lp22_0 0 0) env st = some (x_1, en, s) ∧ (if xs.drop i = ys.drop i then x_1 = .exit 0 else x_1 = .ret ∧ en.get 4 = B false) := by
  refine loop_wp (α := Nat) (fun i => xs.length - i) (fun i => i ≤ xs.length) (fun i => ([(0, sl 1 n1 (xs.map I)), (1, sl 1 n2 (ys.map I)), (5, I i)], ⟨[], []⟩)) (fun i x_1 en s => if xs.drop i = ys.drop i then x_1 = .exit 0 else x_1 = .ret ∧ en.get 4 = B false) (fun i hok => ?_) i hok env st hg
  by_cases h : i < xs.length
  · have hx := index_ints n1 xs i h
    have hy := index_ints n2 ys i (by omega)
    have hs := succ64 i (by omega)
    have hd : xs.drop i = xs[i] :: xs.drop (i + 1) := List.drop_eq_getElem_cons h
    have hd2 : ys.drop i = ys[i] :: ys.drop (i + 1) := List.drop_eq_getElem_cons (by omega)
    have hlt : ((i : Int) < (xs.length : Int)) = True := eq_true (by omega)
    rw [hd, hd2]
    generalize xs[i] = a at *
    generalize ys[i]'(by omega) = b at *
    by_cases p : a = b
    · simp only [go_sem, reduceIte, Nat.reduceEqDiff, Nat.reduceAdd, Nat.reduceSub, Nat.reduceLeDiff, Nat.reduceLT, reduceCtorEq, Int.reduceLT, Int.reduceLE, Int.reduceEq, Int.reduceBEq, Int.reduceSub, Int.reduceAdd, Int.reduceMul, Int.reduceNeg, Int.reduceToNat, Nat.reduceMul, Nat.reduceBEq, index_rsl_if, setm, make_ints, condK_dec, wantK_dec, not_dec, and_dec, or_dec, seqK_ite, seqK_none, blockK_ite, blockK_none, opsK_ite, opsK_none, stepK_ite, stepK_none, bodyK_ite, bodyK_none, resK_ite, resK_none, leaveK_ite, leaveK_none, only_ite, only_none, bind_ite, gives_some, gives_none, gives_ite, then_normal, then_ret, then_exit, then_none, then_ite, Option.bind_none, Bool.not_eq_true', decide_eq_false_iff_not, Bool.and_eq_true, Bool.or_eq_true, Option.some.injEq, Int.not_lt, Int.not_le, lp22_0, hx, hy, hlt, p, hs, List.length_map]
      refine ⟨i + 1, by simp only [go_sem, reduceIte, Nat.reduceEqDiff, Nat.reduceAdd, Nat.reduceSub, Nat.reduceLeDiff, Nat.reduceLT, reduceCtorEq, Int.reduceLT, Int.reduceLE, Int.reduceEq, Int.reduceBEq, Int.reduceSub, Int.reduceAdd, Int.reduceMul, Int.reduceNeg, Int.reduceToNat, Nat.reduceMul, Nat.reduceBEq, ren1_locm, loc_tips, locT_eq] <;> rfl, ?_, ?_, fun x en s hq => ?_⟩
      · omega
      · omega
      · simp only [List.cons.injEq, p, true_and]; exact hq
    · simp only [go_sem, reduceIte, Nat.reduceEqDiff, Nat.reduceAdd, Nat.reduceSub, Nat.reduceLeDiff, Nat.reduceLT, reduceCtorEq, Int.reduceLT, Int.reduceLE, Int.reduceEq, Int.reduceBEq, Int.reduceSub, Int.reduceAdd, Int.reduceMul, Int.reduceNeg, Int.reduceToNat, Nat.reduceMul, Nat.reduceBEq, index_rsl_if, setm, make_ints, condK_dec, wantK_dec, not_dec, and_dec, or_dec, seqK_ite, seqK_none, blockK_ite, blockK_none, opsK_ite, opsK_none, stepK_ite, stepK_none, bodyK_ite, bodyK_none, resK_ite, resK_none, leaveK_ite, leaveK_none, only_ite, only_none, bind_ite, gives_some, gives_none, gives_ite, then_normal, then_ret, then_exit, then_none, then_ite, Option.bind_none, Bool.not_eq_true', decide_eq_false_iff_not, Bool.and_eq_true, Bool.or_eq_true, Option.some.injEq, Int.not_lt, Int.not_le, lp22_0, hx, hy, hlt, p, List.length_map]
      rw [if_neg (by simp [p])]; trivial
  · have hd : xs.drop i = [] := List.drop_eq_nil_of_le (by omega)
    have hd2 : ys.drop i = [] := List.drop_eq_nil_of_le (by omega)
    have hlt : ((i : Int) < (xs.length : Int)) = False := eq_false (by omega)
    simp only [go_sem, reduceIte, Nat.reduceEqDiff, Nat.reduceAdd, Nat.reduceSub, Nat.reduceLeDiff, Nat.reduceLT, reduceCtorEq, Int.reduceLT, Int.reduceLE, Int.reduceEq, Int.reduceBEq, Int.reduceSub, Int.reduceAdd, Int.reduceMul, Int.reduceNeg, Int.reduceToNat, Nat.reduceMul, Nat.reduceBEq, index_rsl_if, setm, make_ints, condK_dec, wantK_dec, not_dec, and_dec, or_dec, seqK_ite, seqK_none, blockK_ite, blockK_none, opsK_ite, opsK_none, stepK_ite, stepK_none, bodyK_ite, bodyK_none, resK_ite, resK_none, leaveK_ite, leaveK_none, only_ite, only_none, bind_ite, gives_some, gives_none, gives_ite, then_normal, then_ret, then_exit, then_none, then_ite, Option.bind_none, Bool.not_eq_true', decide_eq_false_iff_not, Bool.and_eq_true, Bool.or_eq_true, Option.some.injEq, Int.not_lt, Int.not_le, lp22_0, hlt, List.length_map]
    rw [hd, hd2]; simp

theorem c22 (n1 n2 : Bool) (xs ys : List Int) (hlen : xs.length < 1000000) (st : St) : run L 22 [sl 1 n1 (xs.map I), sl 1 n2 (ys.map I)] st = some (B (decide (xs = ys)), st) := by
  rw [run_pure (fn := ir22) rfl rfl]
  by_cases hl : xs.length = ys.length
  · simp only [ir22, go_sem, reduceIte, Nat.reduceEqDiff, Nat.reduceAdd, Nat.reduceSub, Nat.reduceLeDiff, Nat.reduceLT, reduceCtorEq, Int.reduceLT, Int.reduceLE, Int.reduceEq, Int.reduceBEq, Int.reduceSub, Int.reduceAdd, Int.reduceMul, Int.reduceNeg, Int.reduceToNat, Nat.reduceMul, Nat.reduceBEq, List.length_map, hl]
    generalize hg : lim (headed pure (run L) true _ lp22_0 _ _) _ _ = o
    obtain ⟨x, en, s, rfl, h2⟩ : ∃ x en s, o = some (x, en, s) ∧ _ := by rw [← hg]; exact loop22 n1 n2 xs ys hl hlen 0 (by omega) _ _ (by simp only [go_sem, reduceIte, Nat.reduceEqDiff, Nat.reduceAdd, Nat.reduceSub, Nat.reduceLeDiff, Nat.reduceLT, reduceCtorEq, Int.reduceLT, Int.reduceLE, Int.reduceEq, Int.reduceBEq, Int.reduceSub, Int.reduceAdd, Int.reduceMul, Int.reduceNeg, Int.reduceToNat, Nat.reduceMul, Nat.reduceBEq] <;> rfl)
    clear hg
    simp only [List.drop_zero] at h2
    by_cases h : xs = ys
    · rw [if_pos h] at h2
      subst h2
      simp only [go_sem, reduceIte, Nat.reduceEqDiff, Nat.reduceAdd, Nat.reduceSub, Nat.reduceLeDiff, Nat.reduceLT, reduceCtorEq, Int.reduceLT, Int.reduceLE, Int.reduceEq, Int.reduceBEq, Int.reduceSub, Int.reduceAdd, Int.reduceMul, Int.reduceNeg, Int.reduceToNat, Nat.reduceMul, Nat.reduceBEq, h]
    · rw [if_neg h] at h2
      obtain ⟨rfl, h3⟩ := h2
      simp only [go_sem, reduceIte, Nat.reduceEqDiff, Nat.reduceAdd, Nat.reduceSub, Nat.reduceLeDiff, Nat.reduceLT, reduceCtorEq, Int.reduceLT, Int.reduceLE, Int.reduceEq, Int.reduceBEq, Int.reduceSub, Int.reduceAdd, Int.reduceMul, Int.reduceNeg, Int.reduceToNat, Nat.reduceMul, Nat.reduceBEq, h3, h]
  · have hl2 : ((xs.length : Int) = (ys.length : Int)) = False := eq_false (by omega)
    have hne : ¬ xs = ys := fun h => hl (by rw [h])
    simp only [ir22, go_sem, reduceIte, Nat.reduceEqDiff, Nat.reduceAdd, Nat.reduceSub, Nat.reduceLeDiff, Nat.reduceLT, reduceCtorEq, Int.reduceLT, Int.reduceLE, Int.reduceEq, Int.reduceBEq, Int.reduceSub, Int.reduceAdd, Int.reduceMul, Int.reduceNeg, Int.reduceToNat, Nat.reduceMul, Nat.reduceBEq, List.length_map, hl2, hne]
/-- Is a list ahead of another one? -/
def lexLt : List Int → List Int → Bool
  | [], [] => false
  | [], _ :: _ => true
  | _ :: _, [] => false
  | a :: r, b :: s => decide (a < b) || (decide (a = b) && lexLt r s)
theorem c138 (a : Int) (st : St) : run L 138 [I a] st = some (B false, st) := by
  rw [run_pure (fn := ir138) rfl rfl]
  simp only [ir138, go_sem, reduceIte, Nat.reduceEqDiff, Nat.reduceAdd, Nat.reduceSub, Nat.reduceLeDiff, Nat.reduceLT, reduceCtorEq, Int.reduceLT, Int.reduceLE, Int.reduceEq, Int.reduceBEq, Int.reduceSub, Int.reduceAdd, Int.reduceMul, Int.reduceNeg, Int.reduceToNat, Nat.reduceMul, Nat.reduceBEq]
theorem c109 (a b : Int) (st : St) : run L 109 [I a, I b] st = some (I (if a < b then -1 else if b < a then 1 else 0), st) := by
  rw [run_pure (fn := ir109) rfl rfl]
  by_cases h1 : a < b
  · simp only [ir109, go_sem, reduceIte, Nat.reduceEqDiff, Nat.reduceAdd, Nat.reduceSub, Nat.reduceLeDiff, Nat.reduceLT, reduceCtorEq, Int.reduceLT, Int.reduceLE, Int.reduceEq, Int.reduceBEq, Int.reduceSub, Int.reduceAdd, Int.reduceMul, Int.reduceNeg, Int.reduceToNat, Nat.reduceMul, Nat.reduceBEq, c138, h1]
  · by_cases h2 : b < a <;> simp only [ir109, go_sem, reduceIte, Nat.reduceEqDiff, Nat.reduceAdd, Nat.reduceSub, Nat.reduceLeDiff, Nat.reduceLT, reduceCtorEq, Int.reduceLT, Int.reduceLE, Int.reduceEq, Int.reduceBEq, Int.reduceSub, Int.reduceAdd, Int.reduceMul, Int.reduceNeg, Int.reduceToNat, Nat.reduceMul, Nat.reduceBEq, c138, h1, h2]

def cmpN : List Int → List Int → Int
  | [], [] => 0
  | [], _ :: _ => -1
  | _ :: _, [] => 1
  | a :: r, b :: s => if a < b then -1 else if b < a then 1 else cmpN r s
theorem cmpN_lt : ∀ (xs ys : List Int), decide (cmpN xs ys < 0) = lexLt xs ys
  | [], [] => rfl
  | [], _ :: _ => rfl
  | _ :: _, [] => rfl
  | a :: r, b :: s => by
    have ih := cmpN_lt r s
    unfold cmpN lexLt
    by_cases h1 : a < b
    · simp [h1]
    · by_cases h2 : b < a
      · simp [h1, h2, show a ≠ b by omega]
      · simp [h1, h2, show a = b by omega, ih]
theorem cmpN_nil (ys : List Int) : cmpN [] ys = if 0 < ys.length then -1 else 0 := by cases ys <;> rfl

theorem loop42 (st0 : St) (n1 n2 : Bool) (xs ys : List Int) (hlen : xs.length < 1000000) (lo hi : Nat) (i : Nat) (hok : i ≤ xs.length ∧ i ≤ ys.length) (env : Env) (st : St)
    (hg : gcAV false lo hi (canon env [0, 1, 9, 10, 11]) st = ([(0, sl 1 n1 (xs.map I)), (1, sl 1 n2 (ys.map I)), (9, sl 1 n1 (xs.map I)), (10, I xs.length), (11, I i)], st0)) :
    ∃ x_1 en s, lim (headed pure (run L) false [0, 1, 9, 10, 11] lp42_0 lo hi) env st = some (x_1, en, s) ∧ (s = st0 ∧ ((x_1 = .exit 0 ∧ en.get 0 = sl 1 n1 (xs.map I) ∧ en.get 1 = sl 1 n2 (ys.map I) ∧ cmpN (xs.drop i) (ys.drop i) = if xs.length < ys.length then -1 else 0) ∨ (x_1 = .ret ∧ en.get 4 = I (cmpN (xs.drop i) (ys.drop i))))) := by
  refine loop_wp (α := Nat) (fun i => xs.length - i) (fun i => i ≤ xs.length ∧ i ≤ ys.length) (fun i => ([(0, sl 1 n1 (xs.map I)), (1, sl 1 n2 (ys.map I)), (9, sl 1 n1 (xs.map I)), (10, I xs.length), (11, I i)], st0)) (fun i x_1 en s => s = st0 ∧ ((x_1 = .exit 0 ∧ en.get 0 = sl 1 n1 (xs.map I) ∧ en.get 1 = sl 1 n2 (ys.map I) ∧ cmpN (xs.drop i) (ys.drop i) = if xs.length < ys.length then -1 else 0) ∨ (x_1 = .ret ∧ en.get 4 = I (cmpN (xs.drop i) (ys.drop i))))) (fun i hok => ?_) i hok env st hg
  obtain ⟨hok1, hok2⟩ := hok
  by_cases h : i < xs.length
  · have hx := index_ints n1 xs i h
    have hs := succ64 i (by omega)
    have hd : xs.drop i = xs[i] :: xs.drop (i + 1) := List.drop_eq_getElem_cons h
    have hlt : ((i : Int) < (xs.length : Int)) = True := eq_true (by omega)
    rw [hd]
    by_cases h2 : i < ys.length
    · have hy := index_ints n2 ys i h2
      have hd2 : ys.drop i = ys[i] :: ys.drop (i + 1) := List.drop_eq_getElem_cons h2
      have hge : ((ys.length : Int) ≤ (i : Int)) = False := eq_false (by omega)
      rw [hd2]
      generalize xs[i] = a at *
      generalize ys[i] = b at *
      have hcn : cmpN (a :: xs.drop (i + 1)) (b :: ys.drop (i + 1)) = if a < b then -1 else if b < a then 1 else cmpN (xs.drop (i + 1)) (ys.drop (i + 1)) := rfl
      rw [hcn]
      by_cases p1 : a < b
      · simp only [go_sem, reduceIte, Nat.reduceEqDiff, Nat.reduceAdd, Nat.reduceSub, Nat.reduceLeDiff, Nat.reduceLT, reduceCtorEq, Int.reduceLT, Int.reduceLE, Int.reduceEq, Int.reduceBEq, Int.reduceSub, Int.reduceAdd, Int.reduceMul, Int.reduceNeg, Int.reduceToNat, Nat.reduceMul, Nat.reduceBEq, index_rsl_if, setm, make_ints, condK_dec, wantK_dec, not_dec, and_dec, or_dec, seqK_ite, seqK_none, blockK_ite, blockK_none, opsK_ite, opsK_none, stepK_ite, stepK_none, bodyK_ite, bodyK_none, resK_ite, resK_none, leaveK_ite, leaveK_none, only_ite, only_none, bind_ite, gives_some, gives_none, gives_ite, then_normal, then_ret, then_exit, then_none, then_ite, Option.bind_none, Bool.not_eq_true', decide_eq_false_iff_not, Bool.and_eq_true, Bool.or_eq_true, Option.some.injEq, Int.not_lt, Int.not_le, lp42_0, hx, hy, hlt, hge, c109, p1, List.length_map]
      · by_cases p2 : b < a
        · simp only [go_sem, reduceIte, Nat.reduceEqDiff, Nat.reduceAdd, Nat.reduceSub, Nat.reduceLeDiff, Nat.reduceLT, reduceCtorEq, Int.reduceLT, Int.reduceLE, Int.reduceEq, Int.reduceBEq, Int.reduceSub, Int.reduceAdd, Int.reduceMul, Int.reduceNeg, Int.reduceToNat, Nat.reduceMul, Nat.reduceBEq, index_rsl_if, setm, make_ints, condK_dec, wantK_dec, not_dec, and_dec, or_dec, seqK_ite, seqK_none, blockK_ite, blockK_none, opsK_ite, opsK_none, stepK_ite, stepK_none, bodyK_ite, bodyK_none, resK_ite, resK_none, leaveK_ite, leaveK_none, only_ite, only_none, bind_ite, gives_some, gives_none, gives_ite, then_normal, then_ret, then_exit, then_none, then_ite, Option.bind_none, Bool.not_eq_true', decide_eq_false_iff_not, Bool.and_eq_true, Bool.or_eq_true, Option.some.injEq, Int.not_lt, Int.not_le, lp42_0, hx, hy, hlt, hge, c109, p1, p2, List.length_map]
        · simp only [go_sem, reduceIte, Nat.reduceEqDiff, Nat.reduceAdd, Nat.reduceSub, Nat.reduceLeDiff, Nat.reduceLT, reduceCtorEq, Int.reduceLT, Int.reduceLE, Int.reduceEq, Int.reduceBEq, Int.reduceSub, Int.reduceAdd, Int.reduceMul, Int.reduceNeg, Int.reduceToNat, Nat.reduceMul, Nat.reduceBEq, index_rsl_if, setm, make_ints, condK_dec, wantK_dec, not_dec, and_dec, or_dec, seqK_ite, seqK_none, blockK_ite, blockK_none, opsK_ite, opsK_none, stepK_ite, stepK_none, bodyK_ite, bodyK_none, resK_ite, resK_none, leaveK_ite, leaveK_none, only_ite, only_none, bind_ite, gives_some, gives_none, gives_ite, then_normal, then_ret, then_exit, then_none, then_ite, Option.bind_none, Bool.not_eq_true', decide_eq_false_iff_not, Bool.and_eq_true, Bool.or_eq_true, Option.some.injEq, Int.not_lt, Int.not_le, lp42_0, hx, hy, hlt, hge, c109, p1, p2, hs, List.length_map]
          refine ⟨i + 1, by simp only [go_sem, reduceIte, Nat.reduceEqDiff, Nat.reduceAdd, Nat.reduceSub, Nat.reduceLeDiff, Nat.reduceLT, reduceCtorEq, Int.reduceLT, Int.reduceLE, Int.reduceEq, Int.reduceBEq, Int.reduceSub, Int.reduceAdd, Int.reduceMul, Int.reduceNeg, Int.reduceToNat, Nat.reduceMul, Nat.reduceBEq, ren1_locm, loc_tips, locT_eq] <;> rfl, ?_, ?_, fun x en s hq => ?_⟩
          · omega
          · omega
          · exact hq
    · have hd2 : ys.drop i = [] := List.drop_eq_nil_of_le (by omega)
      have hge : ((ys.length : Int) ≤ (i : Int)) = True := eq_true (by omega)
      rw [hd2]
      generalize xs[i] = a at *
      simp only [go_sem, reduceIte, Nat.reduceEqDiff, Nat.reduceAdd, Nat.reduceSub, Nat.reduceLeDiff, Nat.reduceLT, reduceCtorEq, Int.reduceLT, Int.reduceLE, Int.reduceEq, Int.reduceBEq, Int.reduceSub, Int.reduceAdd, Int.reduceMul, Int.reduceNeg, Int.reduceToNat, Nat.reduceMul, Nat.reduceBEq, index_rsl_if, setm, make_ints, condK_dec, wantK_dec, not_dec, and_dec, or_dec, seqK_ite, seqK_none, blockK_ite, blockK_none, opsK_ite, opsK_none, stepK_ite, stepK_none, bodyK_ite, bodyK_none, resK_ite, resK_none, leaveK_ite, leaveK_none, only_ite, only_none, bind_ite, gives_some, gives_none, gives_ite, then_normal, then_ret, then_exit, then_none, then_ite, Option.bind_none, Bool.not_eq_true', decide_eq_false_iff_not, Bool.and_eq_true, Bool.or_eq_true, Option.some.injEq, Int.not_lt, Int.not_le, lp42_0, hx, hlt, hge, cmpN, List.length_map]
  · have hd : xs.drop i = [] := List.drop_eq_nil_of_le (by omega)
    have hlt : ((i : Int) < (xs.length : Int)) = False := eq_false (by omega)
    have hl2 : (ys.drop i).length = ys.length - i := List.length_drop
    rw [hd, cmpN_nil, hl2]
    simp only [go_sem, reduceIte, Nat.reduceEqDiff, Nat.reduceAdd, Nat.reduceSub, Nat.reduceLeDiff, Nat.reduceLT, reduceCtorEq, Int.reduceLT, Int.reduceLE, Int.reduceEq, Int.reduceBEq, Int.reduceSub, Int.reduceAdd, Int.reduceMul, Int.reduceNeg, Int.reduceToNat, Nat.reduceMul, Nat.reduceBEq, index_rsl_if, setm, make_ints, condK_dec, wantK_dec, not_dec, and_dec, or_dec, seqK_ite, seqK_none, blockK_ite, blockK_none, opsK_ite, opsK_none, stepK_ite, stepK_none, bodyK_ite, bodyK_none, resK_ite, resK_none, leaveK_ite, leaveK_none, only_ite, only_none, bind_ite, gives_some, gives_none, gives_ite, then_normal, then_ret, then_exit, then_none, then_ite, Option.bind_none, Bool.not_eq_true', decide_eq_false_iff_not, Bool.and_eq_true, Bool.or_eq_true, Option.some.injEq, Int.not_lt, Int.not_le, lp42_0, hlt, List.length_map]
    have e : (0 < ys.length - i) = (xs.length < ys.length) := propext (by omega)
    simp only [e]

theorem c42 (n1 n2 : Bool) (xs ys : List Int) (hlen : xs.length < 1000000) (st : St) : run L 42 [sl 1 n1 (xs.map I), sl 1 n2 (ys.map I)] st = some (I (cmpN xs ys), st) := by
  rw [run_shared (fn := ir42) rfl rfl]
  simp only [ir42, go_sem, reduceIte, Nat.reduceEqDiff, Nat.reduceAdd, Nat.reduceSub, Nat.reduceLeDiff, Nat.reduceLT, reduceCtorEq, Int.reduceLT, Int.reduceLE, Int.reduceEq, Int.reduceBEq, Int.reduceSub, Int.reduceAdd, Int.reduceMul, Int.reduceNeg, Int.reduceToNat, Nat.reduceMul, Nat.reduceBEq, List.length_map]
  generalize hg : lim (headed pure (run L) false _ lp42_0 _ _) _ _ = o
  obtain ⟨x, en, s, rfl, h2⟩ : ∃ x en s, o = some (x, en, s) ∧ _ := by rw [← hg]; exact loop42 st n1 n2 xs ys hlen _ _ 0 ⟨by omega, by omega⟩ _ _ (by simp only [go_sem, reduceIte, Nat.reduceEqDiff, Nat.reduceAdd, Nat.reduceSub, Nat.reduceLeDiff, Nat.reduceLT, reduceCtorEq, Int.reduceLT, Int.reduceLE, Int.reduceEq, Int.reduceBEq, Int.reduceSub, Int.reduceAdd, Int.reduceMul, Int.reduceNeg, Int.reduceToNat, Nat.reduceMul, Nat.reduceBEq] <;> rfl)
  clear hg
  simp only [List.drop_zero] at h2
  obtain ⟨rfl, h2⟩ := h2
  rcases h2 with ⟨rfl, h3, h4, h5⟩ | ⟨rfl, h3⟩
  · rw [h5]
    by_cases p : xs.length < ys.length
    · have q : ((xs.length : Int) < (ys.length : Int)) = True := eq_true (by omega)
      rw [if_pos p]
      simp only [go_sem, reduceIte, Nat.reduceEqDiff, Nat.reduceAdd, Nat.reduceSub, Nat.reduceLeDiff, Nat.reduceLT, reduceCtorEq, Int.reduceLT, Int.reduceLE, Int.reduceEq, Int.reduceBEq, Int.reduceSub, Int.reduceAdd, Int.reduceMul, Int.reduceNeg, Int.reduceToNat, Nat.reduceMul, Nat.reduceBEq, h3, h4, q, List.length_map]
    · have q : ((xs.length : Int) < (ys.length : Int)) = False := eq_false (by omega)
      rw [if_neg p]
      simp only [go_sem, reduceIte, Nat.reduceEqDiff, Nat.reduceAdd, Nat.reduceSub, Nat.reduceLeDiff, Nat.reduceLT, reduceCtorEq, Int.reduceLT, Int.reduceLE, Int.reduceEq, Int.reduceBEq, Int.reduceSub, Int.reduceAdd, Int.reduceMul, Int.reduceNeg, Int.reduceToNat, Nat.reduceMul, Nat.reduceBEq, h3, h4, q, List.length_map]
  · simp only [go_sem, reduceIte, Nat.reduceEqDiff, Nat.reduceAdd, Nat.reduceSub, Nat.reduceLeDiff, Nat.reduceLT, reduceCtorEq, Int.reduceLT, Int.reduceLE, Int.reduceEq, Int.reduceBEq, Int.reduceSub, Int.reduceAdd, Int.reduceMul, Int.reduceNeg, Int.reduceToNat, Nat.reduceMul, Nat.reduceBEq, h3]

def tAV (l : List Int) : AV := sl 1 true (l.map I)
theorem shaped_t (l : List Int) : (tAV l).shaped = true := by unfold tAV sl; split <;> rfl
theorem cells_t (l : List Int) : (tAV l).cells = [tAV l] := by unfold tAV sl; split <;> rfl
theorem isAgg_t (l : List Int) : Ev.isAgg (tAV l) = false := by unfold tAV sl; split <;> rfl
theorem storable_t (l : List Int) : storable (tAV l) = true := by unfold tAV sl; split <;> rfl
theorem okRef_t (n : Nat) (l : List Int) : okRef n (tAV l) = true := by unfold tAV sl; split <;> rfl
theorem pub_t (l : List Int) : pub (tAV l) = tAV l := pub_sl _ _ _


/-! ### a local list that grows -/
def oA (xs : List AV) : AV := loc 1 0 xs
def oT (xs : List AV) : List Nat := locT 0 xs
def oAcc (xs : List AV) : List (Nat × Nat) := if xs.length = 0 then [] else [(0, xs.length)]
theorem okRef_o (n : Nat) (o : List AV) : okRef n (oA o) = true := okRef_loc _ _ _ _
theorem storable_o (o : List AV) : storable (oA o) = true := storable_loc _ _ _
theorem shaped_o (o : List AV) : (oA o).shaped = true := shaped_loc _ _ _
theorem cells_o (o : List AV) : (oA o).cells = [oA o] := cells_loc _ _ _
theorem ren1_o (o : List AV) : ren1 0 (oT o) [] (oA o) = (oA o, oAcc o) := ren1_loc (k := 0) 1 o
theorem oAcc_snd (o : List AV) : (oAcc o).map (fun x => x.2) = oT o := by
  unfold oAcc oT locT; split <;> rfl
theorem fin_o (st : St) (o : List AV) : fin st (oA o) = sl 1 true o := fin_loc st 1 0 _
theorem pub_o (o : List AV) : pub (oA o) = sl 1 true o := pub_loc 1 0 _
theorem append_o (o : List AV) (y : AV) (s : List (List AV)) (h : o.length < 1000) : appendAV 1 (oA o) [y] ⟨s, oT o⟩ = some (oA (o ++ [y]), ⟨s, oT (o ++ [y])⟩) :=
  append_loc (z := 1) (k := 0) y s (by omega) (by unfold maxGrow; omega)
theorem o_start : .v (.slice none 0 0) = oA [] := rfl
theorem oT_nil : oT [] = [] := rfl
theorem len_o (o : List AV) : lenAV (oA o) = some (J o.length) := len_loc _ _ _
attribute [local go_sem] okRef_o storable_o shaped_o cells_o fin_o pub_o

/-! ### sets and their lists -/
abbrev u8 (n : Nat) : AV := .v (.int .u8 n)
abbrev u16 (n : Nat) : AV := .v (.int .u16 n)
abbrev E8 (n : Nat) : AV := .agg [u8 n]
abbrev E16 (n : Nat) : AV := .agg [u16 n]
def memb (m : Nat) : List Int := ((List.range 9).filter m.testBit).map fun (i : Nat) => (i : Int)
def tzN (m : Nat) : Nat := ((List.range 9).find? m.testBit).getD 64

theorem all108 : (List.range 512).map (fun m => callAV L 400 108 [U m] ⟨[], []⟩) = (List.range 512).map (fun m => some (J (tzN m), (⟨[], []⟩ : St))) := by kernel_rfl
theorem all106 : (List.range 256).map (fun m => callAV L 400 106 [E8 m, J 0] ⟨[], []⟩) = (List.range 256).map (fun m => some (B (m.testBit 0), (⟨[], []⟩ : St))) := by kernel_rfl
theorem c108 (m : Nat) (h : m < 512) (st : St) : run L 108 [U m] st = some (J (tzN m), st) := run_any' (fn := ir108) rfl rfl (callAV_run L 400 _ _ _ _ (all_of all108 m h)) st
theorem c106 (m : Nat) (h : m < 256) (st : St) : run L 106 [E8 m, J 0] st = some (B (m.testBit 0), st) := run_any' (fn := ir106) rfl rfl (callAV_run L 400 _ _ _ _ (all_of all106 m h)) st
theorem memb_all : (List.range 512).map (fun m => decide (m = 0 ∨ memb m = (tzN m : Int) :: memb (m &&& (m - 1)))) = (List.range 512).map (fun _ => true) := by kernel_rfl
theorem memb_step (m : Nat) (h : m < 512) (h0 : m ≠ 0) : memb m = (tzN m : Int) :: memb (m &&& (m - 1)) := by
  have := all_of memb_all m h
  simp only [decide_eq_true_eq, h0, false_or] at this
  exact this
theorem drop_lt (m : Nat) (h0 : m ≠ 0) : m &&& (m - 1) < m := Nat.lt_of_le_of_lt Nat.and_le_right (by omega)
theorem subU (m : Nat) (h : m < 512) (h0 : m ≠ 0) : IntKind.u64.wrap ((m : Int) - 1) = ((m - 1 : Nat) : Int) := by
  have := wrapU (m - 1) (by omega)
  rw [← this]; congr 1; omega
theorem and_d (a b : Nat) (ha : a < 512) (hb : b < 512) : binAV .and none (.v (.int .u64 (a : Int))) (.v (.int .u64 (b : Int))) = some (.v (.int .u64 ((a &&& b : Nat) : Int))) := by
  rw [and_u, andN_eq a b ha hb]

theorem loop40  (m : Nat) (o : List Int) (hok : m < 512 ∧ o.length + (memb m).length ≤ 9) (env : Env) (st : St)
    (hg : gcAV true 0 0 (canon env [0, 3]) st = ([(0, U m), (3, oA (o.map I))], ⟨[], oT (o.map I)⟩)) :
    ∃ x_1 en s, lim (headed pure (run L) true [0, 3] lp40_0 0 0) env st = some (x_1, en, s) ∧ (x_1 = .exit 0 ∧ en.get 3 = oA ((o ++ memb m).map I) ∧ s = ⟨[], oT ((o ++ memb m).map I)⟩) := by
  refine loop_wp (α := Nat × List Int) (fun ⟨m, o⟩ => m) (fun ⟨m, o⟩ => m < 512 ∧ o.length + (memb m).length ≤ 9) (fun ⟨m, o⟩ => ([(0, U m), (3, oA (o.map I))], ⟨[], oT (o.map I)⟩)) (fun ⟨m, o⟩ x_1 en s => x_1 = .exit 0 ∧ en.get 3 = oA ((o ++ memb m).map I) ∧ s = ⟨[], oT ((o ++ memb m).map I)⟩) (fun ⟨m, o⟩ hok => ?_) ⟨m, o⟩ hok env st hg
  simp only at hok
  obtain ⟨h1, h2⟩ := hok
  dsimp only at h1 h2 ⊢
  by_cases h : m = 0
  · have e : memb 0 = [] := by decide
    subst h
    rw [e, List.append_nil]
    simp only [go_sem, reduceIte, Nat.reduceEqDiff, Nat.reduceAdd, Nat.reduceSub, Nat.reduceLeDiff, Nat.reduceLT, reduceCtorEq, Int.reduceLT, Int.reduceLE, Int.reduceEq, Int.reduceBEq, Int.reduceSub, Int.reduceAdd, Int.reduceMul, Int.reduceNeg, Int.reduceToNat, Nat.reduceMul, Nat.reduceBEq, index_rsl_if, setm, make_ints, condK_dec, wantK_dec, not_dec, and_dec, or_dec, seqK_ite, seqK_none, blockK_ite, blockK_none, opsK_ite, opsK_none, stepK_ite, stepK_none, bodyK_ite, bodyK_none, resK_ite, resK_none, leaveK_ite, leaveK_none, only_ite, only_none, bind_ite, gives_some, gives_none, gives_ite, then_normal, then_ret, then_exit, then_none, then_ite, Option.bind_none, Bool.not_eq_true', decide_eq_false_iff_not, Bool.and_eq_true, Bool.or_eq_true, Option.some.injEq, Int.not_lt, Int.not_le, lp40_0, Int.natCast_zero]
  · have hne : ((m : Int) = 0) = False := eq_false (by omega)
    have ht := fun st => c108 m h1 st
    have hm := memb_step m h1 h
    have hlt := drop_lt m h
    have hs := subU m h1 h
    have ha := and_d m (m - 1) h1 (by omega)
    rw [hm] at h2 ⊢
    rw [List.length_cons] at h2
    have happ := fun S => append_o (o.map I) (J (tzN m)) S (by rw [List.length_map]; omega)
    simp only [go_sem, reduceIte, Nat.reduceEqDiff, Nat.reduceAdd, Nat.reduceSub, Nat.reduceLeDiff, Nat.reduceLT, reduceCtorEq, Int.reduceLT, Int.reduceLE, Int.reduceEq, Int.reduceBEq, Int.reduceSub, Int.reduceAdd, Int.reduceMul, Int.reduceNeg, Int.reduceToNat, Nat.reduceMul, Nat.reduceBEq, index_rsl_if, setm, make_ints, condK_dec, wantK_dec, not_dec, and_dec, or_dec, seqK_ite, seqK_none, blockK_ite, blockK_none, opsK_ite, opsK_none, stepK_ite, stepK_none, bodyK_ite, bodyK_none, resK_ite, resK_none, leaveK_ite, leaveK_none, only_ite, only_none, bind_ite, gives_some, gives_none, gives_ite, then_normal, then_ret, then_exit, then_none, then_ite, Option.bind_none, Bool.not_eq_true', decide_eq_false_iff_not, Bool.and_eq_true, Bool.or_eq_true, Option.some.injEq, Int.not_lt, Int.not_le, lp40_0, hne, ht, hs, ha, happ]
    refine ⟨(m &&& (m - 1), o ++ [(tzN m : Int)]), by simp only [go_sem, reduceIte, Nat.reduceEqDiff, Nat.reduceAdd, Nat.reduceSub, Nat.reduceLeDiff, Nat.reduceLT, reduceCtorEq, Int.reduceLT, Int.reduceLE, Int.reduceEq, Int.reduceBEq, Int.reduceSub, Int.reduceAdd, Int.reduceMul, Int.reduceNeg, Int.reduceToNat, Nat.reduceMul, Nat.reduceBEq, ren1_locm, loc_tips, locT_eq, ren1_o, oAcc_snd, List.map_append] <;> rfl, ?_, ?_, fun x en s hq => ?_⟩
    · dsimp only; exact ⟨by omega, by rw [List.length_append, List.length_singleton]; omega⟩
    · dsimp only; exact hlt
    · simp only [List.append_assoc, List.singleton_append] at hq; exact hq

theorem loop74 (m0 : Nat) (m : Nat) (o : List Int) (hok : m < 512 ∧ o.length + (memb m).length ≤ 9) (env : Env) (st : St)
    (hg : gcAV true 1 0 (canon env [3, 4]) st = ([(3, oA (o.map I)), (4, U m)], ⟨[[u16 m0]], oT (o.map I)⟩)) :
    ∃ x_1 en s, lim (headed pure (run L) true [3, 4] lp74_0 1 0) env st = some (x_1, en, s) ∧ (x_1 = .exit 0 ∧ en.get 3 = oA ((o ++ memb m).map I) ∧ s = ⟨[[u16 m0]], oT ((o ++ memb m).map I)⟩) := by
  refine loop_wp (α := Nat × List Int) (fun ⟨m, o⟩ => m) (fun ⟨m, o⟩ => m < 512 ∧ o.length + (memb m).length ≤ 9) (fun ⟨m, o⟩ => ([(3, oA (o.map I)), (4, U m)], ⟨[[u16 m0]], oT (o.map I)⟩)) (fun ⟨m, o⟩ x_1 en s => x_1 = .exit 0 ∧ en.get 3 = oA ((o ++ memb m).map I) ∧ s = ⟨[[u16 m0]], oT ((o ++ memb m).map I)⟩) (fun ⟨m, o⟩ hok => ?_) ⟨m, o⟩ hok env st hg
  simp only at hok
  obtain ⟨h1, h2⟩ := hok
  dsimp only at h1 h2 ⊢
  by_cases h : m = 0
  · have e : memb 0 = [] := by decide
    subst h
    rw [e, List.append_nil]
    simp only [go_sem, reduceIte, Nat.reduceEqDiff, Nat.reduceAdd, Nat.reduceSub, Nat.reduceLeDiff, Nat.reduceLT, reduceCtorEq, Int.reduceLT, Int.reduceLE, Int.reduceEq, Int.reduceBEq, Int.reduceSub, Int.reduceAdd, Int.reduceMul, Int.reduceNeg, Int.reduceToNat, Nat.reduceMul, Nat.reduceBEq, index_rsl_if, setm, make_ints, condK_dec, wantK_dec, not_dec, and_dec, or_dec, seqK_ite, seqK_none, blockK_ite, blockK_none, opsK_ite, opsK_none, stepK_ite, stepK_none, bodyK_ite, bodyK_none, resK_ite, resK_none, leaveK_ite, leaveK_none, only_ite, only_none, bind_ite, gives_some, gives_none, gives_ite, then_normal, then_ret, then_exit, then_none, then_ite, Option.bind_none, Bool.not_eq_true', decide_eq_false_iff_not, Bool.and_eq_true, Bool.or_eq_true, Option.some.injEq, Int.not_lt, Int.not_le, lp74_0, Int.natCast_zero]
  · have hne : ((m : Int) = 0) = False := eq_false (by omega)
    have ht := fun st => c108 m h1 st
    have hm := memb_step m h1 h
    have hlt := drop_lt m h
    have hs := subU m h1 h
    have ha := and_d m (m - 1) h1 (by omega)
    rw [hm] at h2 ⊢
    rw [List.length_cons] at h2
    have happ := fun S => append_o (o.map I) (J (tzN m)) S (by rw [List.length_map]; omega)
    simp only [go_sem, reduceIte, Nat.reduceEqDiff, Nat.reduceAdd, Nat.reduceSub, Nat.reduceLeDiff, Nat.reduceLT, reduceCtorEq, Int.reduceLT, Int.reduceLE, Int.reduceEq, Int.reduceBEq, Int.reduceSub, Int.reduceAdd, Int.reduceMul, Int.reduceNeg, Int.reduceToNat, Nat.reduceMul, Nat.reduceBEq, index_rsl_if, setm, make_ints, condK_dec, wantK_dec, not_dec, and_dec, or_dec, seqK_ite, seqK_none, blockK_ite, blockK_none, opsK_ite, opsK_none, stepK_ite, stepK_none, bodyK_ite, bodyK_none, resK_ite, resK_none, leaveK_ite, leaveK_none, only_ite, only_none, bind_ite, gives_some, gives_none, gives_ite, then_normal, then_ret, then_exit, then_none, then_ite, Option.bind_none, Bool.not_eq_true', decide_eq_false_iff_not, Bool.and_eq_true, Bool.or_eq_true, Option.some.injEq, Int.not_lt, Int.not_le, lp74_0, hne, ht, hs, ha, happ]
    refine ⟨(m &&& (m - 1), o ++ [(tzN m : Int)]), by simp only [go_sem, reduceIte, Nat.reduceEqDiff, Nat.reduceAdd, Nat.reduceSub, Nat.reduceLeDiff, Nat.reduceLT, reduceCtorEq, Int.reduceLT, Int.reduceLE, Int.reduceEq, Int.reduceBEq, Int.reduceSub, Int.reduceAdd, Int.reduceMul, Int.reduceNeg, Int.reduceToNat, Nat.reduceMul, Nat.reduceBEq, ren1_locm, loc_tips, locT_eq, ren1_o, oAcc_snd, List.map_append] <;> rfl, ?_, ?_, fun x en s hq => ?_⟩
    · dsimp only; exact ⟨by omega, by rw [List.length_append, List.length_singleton]; omega⟩
    · dsimp only; exact hlt
    · simp only [List.append_assoc, List.singleton_append] at hq; exact hq

theorem memb_len (m : Nat) : (memb m).length ≤ 9 := by
  unfold memb; rw [List.length_map]
  exact Nat.le_trans (List.length_filter_le _ _) (by simp)
theorem c40 (m : Nat) (h : m < 512) (st : St) : run L 40 [U m] st = some (tAV (memb m), st) := by
  rw [run_pure (fn := ir40) rfl rfl]
  have hl := memb_len m
  simp only [ir40, go_sem, reduceIte, Nat.reduceEqDiff, Nat.reduceAdd, Nat.reduceSub, Nat.reduceLeDiff, Nat.reduceLT, reduceCtorEq, Int.reduceLT, Int.reduceLE, Int.reduceEq, Int.reduceBEq, Int.reduceSub, Int.reduceAdd, Int.reduceMul, Int.reduceNeg, Int.reduceToNat, Nat.reduceMul, Nat.reduceBEq]
  generalize hg : lim (headed pure (run L) true _ lp40_0 _ _) _ _ = o
  obtain ⟨x, en, s, rfl, h2⟩ : ∃ x en s, o = some (x, en, s) ∧ _ := by rw [← hg]; exact loop40 m [] ⟨h, by simpa using hl⟩ _ _ (by simp only [go_sem, reduceIte, Nat.reduceEqDiff, Nat.reduceAdd, Nat.reduceSub, Nat.reduceLeDiff, Nat.reduceLT, reduceCtorEq, Int.reduceLT, Int.reduceLE, Int.reduceEq, Int.reduceBEq, Int.reduceSub, Int.reduceAdd, Int.reduceMul, Int.reduceNeg, Int.reduceToNat, Nat.reduceMul, Nat.reduceBEq, List.map_nil, ← o_start, oT_nil] <;> rfl)
  clear hg
  obtain ⟨rfl, h3, rfl⟩ := h2
  simp only [go_sem, reduceIte, Nat.reduceEqDiff, Nat.reduceAdd, Nat.reduceSub, Nat.reduceLeDiff, Nat.reduceLT, reduceCtorEq, Int.reduceLT, Int.reduceLE, Int.reduceEq, Int.reduceBEq, Int.reduceSub, Int.reduceAdd, Int.reduceMul, Int.reduceNeg, Int.reduceToNat, Nat.reduceMul, Nat.reduceBEq, h3]
  rfl
theorem c74 (m : Nat) (h : m < 512) (st : St) : run L 74 [E16 m] st = some (tAV (memb m), st) := by
  rw [run_pure (fn := ir74) rfl rfl]
  have hl := memb_len m
  have hw := wrapU m (by omega)
  simp only [ir74, go_sem, reduceIte, Nat.reduceEqDiff, Nat.reduceAdd, Nat.reduceSub, Nat.reduceLeDiff, Nat.reduceLT, reduceCtorEq, Int.reduceLT, Int.reduceLE, Int.reduceEq, Int.reduceBEq, Int.reduceSub, Int.reduceAdd, Int.reduceMul, Int.reduceNeg, Int.reduceToNat, Nat.reduceMul, Nat.reduceBEq, hw]
  generalize hg : lim (headed pure (run L) true _ lp74_0 _ _) _ _ = o
  obtain ⟨x, en, s, rfl, h2⟩ : ∃ x en s, o = some (x, en, s) ∧ _ := by rw [← hg]; exact loop74 m m [] ⟨h, by simpa using hl⟩ _ _ (by simp only [go_sem, reduceIte, Nat.reduceEqDiff, Nat.reduceAdd, Nat.reduceSub, Nat.reduceLeDiff, Nat.reduceLT, reduceCtorEq, Int.reduceLT, Int.reduceLE, Int.reduceEq, Int.reduceBEq, Int.reduceSub, Int.reduceAdd, Int.reduceMul, Int.reduceNeg, Int.reduceToNat, Nat.reduceMul, Nat.reduceBEq, List.map_nil, ← o_start, oT_nil] <;> rfl)
  clear hg
  obtain ⟨rfl, h3, rfl⟩ := h2
  simp only [go_sem, reduceIte, Nat.reduceEqDiff, Nat.reduceAdd, Nat.reduceSub, Nat.reduceLeDiff, Nat.reduceLT, reduceCtorEq, Int.reduceLT, Int.reduceLE, Int.reduceEq, Int.reduceBEq, Int.reduceSub, Int.reduceAdd, Int.reduceMul, Int.reduceNeg, Int.reduceToNat, Nat.reduceMul, Nat.reduceBEq, h3]
  rfl


/-! ### do two sides agree? -/
def dfN (a b : Nat) : Nat := a &&& (255 - b)
theorem dfN_bit {a b : Nat} (hb : b < 256) (i : Nat) : (dfN a b).testBit i = (a.testBit i && (decide (i < 8) && !b.testBit i)) := by
  unfold dfN
  rw [Nat.testBit_and, show 255 - b = 2 ^ 8 - (b + 1) from by omega, Nat.testBit_two_pow_sub_succ hb]
theorem dfN_lt {a b : Nat} (ha : a < 256) : dfN a b < 256 := Nat.lt_of_le_of_lt Nat.and_le_left ha
def agN (a b : Nat) : Bool := decide (a &&& b = 0) || decide (dfN a b = 0) || decide (dfN b a = 0)
theorem agN_comm (a b : Nat) : agN a b = agN b a := by
  unfold agN; rw [Nat.and_comm, Bool.or_assoc, Bool.or_assoc]
  congr 1; exact Bool.or_comm _ _
theorem dfN_self {a : Nat} (h : a < 256) : dfN a a = 0 := by
  apply Nat.eq_of_testBit_eq; intro i
  rw [dfN_bit h]; cases a.testBit i <;> simp
theorem agN_self {a : Nat} (h : a < 256) : agN a a = true := by
  unfold agN; rw [dfN_self h]; simp
theorem df_nat (w : Nat) (hw : 8 ≤ w) (a b : Nat) (ha : a < 256) (hb : b < 256) : (BitVec.ofInt w (a : Int) &&& ~~~BitVec.ofInt w (b : Int)).toNat = dfN a b := by
  have hp : 256 ≤ 2 ^ w := Nat.pow_le_pow_right (n := 2) (by decide) hw
  rw [BitVec.toNat_and, BitVec.toNat_not, BitVec.toNat_ofInt, BitVec.toNat_ofInt]
  have ea : ((a : Int) % ((2 ^ w : Nat) : Int)).toNat = a := by rw [← Int.natCast_emod, Int.toNat_natCast]; exact Nat.mod_eq_of_lt (by omega)
  have eb : ((b : Int) % ((2 ^ w : Nat) : Int)).toNat = b := by rw [← Int.natCast_emod, Int.toNat_natCast]; exact Nat.mod_eq_of_lt (by omega)
  rw [ea, eb]
  apply Nat.eq_of_testBit_eq
  intro i
  rw [dfN_bit hb, Nat.testBit_and, show 2 ^ w - 1 - b = 2 ^ w - (b + 1) from by omega, Nat.testBit_two_pow_sub_succ (by omega : b < 2 ^ w)]
  by_cases h : i < 8
  · simp [h, show i < w by omega]
  · have : a.testBit i = false := Nat.testBit_lt_two_pow (Nat.lt_of_lt_of_le ha (Nat.pow_le_pow_right (n := 2) (by decide) (Nat.le_of_not_lt h)))
    rw [this]; simp
theorem wrap8 (n : Nat) (h : n < 256) : IntKind.u8.wrap (n : Int) = n := by
  simp [IntKind.wrap, IntKind.bits, IntKind.signed]; omega
theorem wrap16 (n : Nat) (h : n < 65536) : IntKind.u16.wrap (n : Int) = n := by
  simp [IntKind.wrap, IntKind.bits, IntKind.signed]; omega
theorem dfU (a b : Nat) (ha : a < 256) (hb : b < 256) : binAV .andNot none (.v (.int .u64 (a : Int))) (.v (.int .u64 (b : Int))) = some (.v (.int .u64 ((dfN a b : Nat) : Int))) := by
  show some (AV.v (.int .u64 (IntKind.u64.wrap ((BitVec.ofInt IntKind.u64.bits (a : Int) &&& ~~~BitVec.ofInt IntKind.u64.bits (b : Int)).toNat : Int)))) = _
  rw [df_nat _ (by decide) a b ha hb, wrapU _ (by have := dfN_lt (a := a) (b := b) ha; omega)]
theorem df8 (a b : Nat) (ha : a < 256) (hb : b < 256) : binAV .andNot none (.v (.int .u8 (a : Int))) (.v (.int .u8 (b : Int))) = some (.v (.int .u8 ((dfN a b : Nat) : Int))) := by
  show some (AV.v (.int .u8 (IntKind.u8.wrap ((BitVec.ofInt IntKind.u8.bits (a : Int) &&& ~~~BitVec.ofInt IntKind.u8.bits (b : Int)).toNat : Int)))) = _
  rw [df_nat _ (by decide) a b ha hb, wrap8 _ (dfN_lt ha)]
theorem and8 (a b : Nat) (ha : a < 256) (hb : b < 256) : binAV .and none (.v (.int .u8 (a : Int))) (.v (.int .u8 (b : Int))) = some (.v (.int .u8 ((a &&& b : Nat) : Int))) := by
  have h : (BitVec.ofInt 8 (a : Int) &&& BitVec.ofInt 8 (b : Int)).toNat = a &&& b := by
    rw [BitVec.toNat_and]; simp [BitVec.ofInt_natCast, Nat.mod_eq_of_lt ha, Nat.mod_eq_of_lt hb]
  show some (AV.v (.int .u8 (IntKind.u8.wrap ((BitVec.ofInt 8 (a : Int) &&& BitVec.ofInt 8 (b : Int)).toNat : Int)))) = _
  rw [h, wrap8 _ (Nat.lt_of_le_of_lt Nat.and_le_left ha)]
theorem or8 (a b : Nat) (ha : a < 256) (hb : b < 256) : binAV .or none (.v (.int .u8 (a : Int))) (.v (.int .u8 (b : Int))) = some (.v (.int .u8 ((a ||| b : Nat) : Int))) := by
  have h : (BitVec.ofInt 8 (a : Int) ||| BitVec.ofInt 8 (b : Int)).toNat = a ||| b := by
    rw [BitVec.toNat_or]; simp [BitVec.ofInt_natCast, Nat.mod_eq_of_lt ha, Nat.mod_eq_of_lt hb]
  show some (AV.v (.int .u8 (IntKind.u8.wrap ((BitVec.ofInt 8 (a : Int) ||| BitVec.ofInt 8 (b : Int)).toNat : Int)))) = _
  rw [h, wrap8 _ (Nat.or_lt_two_pow (n := 8) ha hb)]
theorem shl8 (p : Nat) (h : p < 8) : binAV .shl none (.v (.int .u8 1)) (.v (.int .i64 (p : Int))) = some (.v (.int .u8 ((2 ^ p : Nat) : Int))) := by
  show (if (p : Int) < 0 then none else some (AV.v (.int .u8 (IntKind.u8.wrap (1 * (2 ^ (min (Int.toNat (p : Int)) 8)))))) ) = _
  rw [if_neg (by omega), Int.toNat_natCast, show min p 8 = p by omega]
  have e2 : (1 : Int) * ((2 : Int) ^ p) = ((2 ^ p : Nat) : Int) := by simp
  rw [e2, wrap8 _ (Nat.pow_lt_pow_right (by omega) h)]
theorem nat0 (n : Nat) : ((n : Int) = 0) = (n = 0) := propext (by omega)

theorem c41 (a b : Nat) (ha : a < 256) (hb : b < 256) (st : St) : run L 41 [U a, U b] st = some (B (agN a b), st) := by
  rw [run_pure (fn := ir41) rfl rfl]
  have h1 := and_d a b (by omega) (by omega)
  have h2 := dfU a b ha hb
  have h3 := dfU b a hb ha
  have e : agN a b = (decide (a &&& b = 0) || decide (dfN a b = 0) || decide (dfN b a = 0)) := rfl
  rw [e]
  by_cases p1 : a &&& b = 0 <;> by_cases p2 : dfN a b = 0 <;> by_cases p3 : dfN b a = 0 <;>
    simp only [ir41, go_sem, reduceIte, Nat.reduceEqDiff, Nat.reduceAdd, Nat.reduceSub, Nat.reduceLeDiff, Nat.reduceLT, reduceCtorEq, Int.reduceLT, Int.reduceLE, Int.reduceEq, Int.reduceBEq, Int.reduceSub, Int.reduceAdd, Int.reduceMul, Int.reduceNeg, Int.reduceToNat, Nat.reduceMul, Nat.reduceBEq, h1, h2, h3, nat0, p1, p2, p3, Bool.or_true, Bool.or_false, Bool.true_or, Bool.false_or]
theorem c127 (a b : Nat) (ha : a < 256) (hb : b < 256) (st : St) : run L 127 [E8 a, E8 b] st = some (B (decide (dfN a b = 0)), st) := by
  rw [run_pure (fn := ir127) rfl rfl]
  have h2 := df8 a b ha hb
  by_cases p2 : dfN a b = 0 <;> simp only [ir127, go_sem, reduceIte, Nat.reduceEqDiff, Nat.reduceAdd, Nat.reduceSub, Nat.reduceLeDiff, Nat.reduceLT, reduceCtorEq, Int.reduceLT, Int.reduceLE, Int.reduceEq, Int.reduceBEq, Int.reduceSub, Int.reduceAdd, Int.reduceMul, Int.reduceNeg, Int.reduceToNat, Nat.reduceMul, Nat.reduceBEq, h2, nat0, p2]
theorem c73 (a b : Nat) (ha : a < 256) (hb : b < 256) (st : St) : run L 73 [E8 a, E8 b] st = some (B (agN a b), st) := by
  rw [run_pure (fn := ir73) rfl rfl]
  have h1 := and8 a b ha hb
  have h2 := fun st => c127 a b ha hb st
  have h3 := fun st => c127 b a hb ha st
  have e : agN a b = (decide (a &&& b = 0) || decide (dfN a b = 0) || decide (dfN b a = 0)) := rfl
  rw [e]
  by_cases p1 : a &&& b = 0 <;> by_cases p2 : dfN a b = 0 <;> by_cases p3 : dfN b a = 0 <;>
    simp only [ir73, go_sem, reduceIte, Nat.reduceEqDiff, Nat.reduceAdd, Nat.reduceSub, Nat.reduceLeDiff, Nat.reduceLT, reduceCtorEq, Int.reduceLT, Int.reduceLE, Int.reduceEq, Int.reduceBEq, Int.reduceSub, Int.reduceAdd, Int.reduceMul, Int.reduceNeg, Int.reduceToNat, Nat.reduceMul, Nat.reduceBEq, h1, h2, h3, nat0, p1, p2, p3, Bool.or_true, Bool.or_false, Bool.true_or, Bool.false_or]

/-! ### a list as a set -/
def orL (l : List Int) (acc : Nat) : Nat := l.foldl (fun b a => b ||| 2 ^ a.toNat) acc
theorem orL_all : (List.range 256).map (fun m => orL (memb m) 0) = (List.range 256).map (fun m => m) := by kernel_rfl
theorem orL_memb (m : Nat) (h : m < 256) : orL (memb m) 0 = m := all_of orL_all m h
theorem loop105 (nl : Bool) (l : List Int) (hlen : l.length < 1000000) (hl : ∀ a ∈ l, 0 ≤ a ∧ a < 8) (i : Nat) (b : Nat) (hok : i ≤ l.length ∧ b < 256) (env : Env) (st : St)
    (hg : gcAV true 2 0 (canon env [2, 3, 6, 7, 8]) st = ([(2, .ptr 0 0), (3, .ptr 1 0), (6, sl 1 nl (l.map I)), (7, J l.length), (8, J i)], ⟨[[u8 0], [u8 b]], []⟩)) :
    ∃ x_1 en s, lim (headed pure (run L) true [2, 3, 6, 7, 8] lp105_0 2 0) env st = some (x_1, en, s) ∧ (x_1 = .exit 0 ∧ en.get 2 = .ptr 0 0 ∧ en.get 3 = .ptr 1 0 ∧ s = ⟨[[u8 0], [u8 (orL (l.drop i) b)]], []⟩) := by
  refine loop_wp (α := Nat × Nat) (fun ⟨i, b⟩ => l.length - i) (fun ⟨i, b⟩ => i ≤ l.length ∧ b < 256) (fun ⟨i, b⟩ => ([(2, .ptr 0 0), (3, .ptr 1 0), (6, sl 1 nl (l.map I)), (7, J l.length), (8, J i)], ⟨[[u8 0], [u8 b]], []⟩)) (fun ⟨i, b⟩ x_1 en s => x_1 = .exit 0 ∧ en.get 2 = .ptr 0 0 ∧ en.get 3 = .ptr 1 0 ∧ s = ⟨[[u8 0], [u8 (orL (l.drop i) b)]], []⟩) (fun ⟨i, b⟩ hok => ?_) ⟨i, b⟩ hok env st hg
  simp only at hok
  obtain ⟨h1, h2⟩ := hok
  dsimp only at h1 h2 ⊢
  by_cases h : i < l.length
  · have hx := index_ints nl l i h
    have hs := succ64 i (by omega)
    have hd : l.drop i = l[i] :: l.drop (i + 1) := List.drop_eq_getElem_cons h
    have ha := hl l[i] (List.getElem_mem h)
    have hlt : ((i : Int) < (l.length : Int)) = True := eq_true (by omega)
    rw [hd]
    generalize l[i] = a at *
    obtain ⟨p, rfl⟩ := Int.eq_ofNat_of_zero_le ha.1
    have h3 := shl8 p (by omega)
    have hp : 2 ^ p < 256 := Nat.pow_lt_pow_right (n := 8) (by omega) (by omega)
    have h4 := or8 b (2 ^ p) h2 hp
    have e : orL ((p : Int) :: l.drop (i + 1)) b = orL (l.drop (i + 1)) (b ||| 2 ^ p) := by simp [orL]
    rw [e]
    simp only [go_sem, reduceIte, Nat.reduceEqDiff, Nat.reduceAdd, Nat.reduceSub, Nat.reduceLeDiff, Nat.reduceLT, reduceCtorEq, Int.reduceLT, Int.reduceLE, Int.reduceEq, Int.reduceBEq, Int.reduceSub, Int.reduceAdd, Int.reduceMul, Int.reduceNeg, Int.reduceToNat, Nat.reduceMul, Nat.reduceBEq, index_rsl_if, setm, make_ints, condK_dec, wantK_dec, not_dec, and_dec, or_dec, seqK_ite, seqK_none, blockK_ite, blockK_none, opsK_ite, opsK_none, stepK_ite, stepK_none, bodyK_ite, bodyK_none, resK_ite, resK_none, leaveK_ite, leaveK_none, only_ite, only_none, bind_ite, gives_some, gives_none, gives_ite, then_normal, then_ret, then_exit, then_none, then_ite, Option.bind_none, Bool.not_eq_true', decide_eq_false_iff_not, Bool.and_eq_true, Bool.or_eq_true, Option.some.injEq, Int.not_lt, Int.not_le, lp105_0, hx, hlt, hs, h3, h4]
    refine ⟨(i + 1, Nat.lor b (2 ^ p)), by simp only [go_sem, reduceIte, Nat.reduceEqDiff, Nat.reduceAdd, Nat.reduceSub, Nat.reduceLeDiff, Nat.reduceLT, reduceCtorEq, Int.reduceLT, Int.reduceLE, Int.reduceEq, Int.reduceBEq, Int.reduceSub, Int.reduceAdd, Int.reduceMul, Int.reduceNeg, Int.reduceToNat, Nat.reduceMul, Nat.reduceBEq, ren1_locm, loc_tips, locT_eq] <;> rfl, ?_, ?_, fun x en s hq => ?_⟩
    · dsimp only; exact ⟨by omega, Nat.or_lt_two_pow (n := 8) h2 hp⟩
    · dsimp only; omega
    · exact hq
  · have hd : l.drop i = [] := List.drop_eq_nil_of_le (by omega)
    have hlt : ((i : Int) < (l.length : Int)) = False := eq_false (by omega)
    rw [hd]
    simp only [go_sem, reduceIte, Nat.reduceEqDiff, Nat.reduceAdd, Nat.reduceSub, Nat.reduceLeDiff, Nat.reduceLT, reduceCtorEq, Int.reduceLT, Int.reduceLE, Int.reduceEq, Int.reduceBEq, Int.reduceSub, Int.reduceAdd, Int.reduceMul, Int.reduceNeg, Int.reduceToNat, Nat.reduceMul, Nat.reduceBEq, index_rsl_if, setm, make_ints, condK_dec, wantK_dec, not_dec, and_dec, or_dec, seqK_ite, seqK_none, blockK_ite, blockK_none, opsK_ite, opsK_none, stepK_ite, stepK_none, bodyK_ite, bodyK_none, resK_ite, resK_none, leaveK_ite, leaveK_none, only_ite, only_none, bind_ite, gives_some, gives_none, gives_ite, then_normal, then_ret, then_exit, then_none, then_ite, Option.bind_none, Bool.not_eq_true', decide_eq_false_iff_not, Bool.and_eq_true, Bool.or_eq_true, Option.some.injEq, Int.not_lt, Int.not_le, lp105_0, hlt]
    rfl

theorem c105g (nl : Bool) (l : List Int) (hlen : l.length < 1000000) (hl : ∀ a ∈ l, 0 ≤ a ∧ a < 8) (st : St) : run L 105 [sl 1 nl (l.map I)] st = some (E8 (orL l 0), st) := by
  rw [run_pure (fn := ir105) rfl rfl]
  simp only [ir105, go_sem, reduceIte, Nat.reduceEqDiff, Nat.reduceAdd, Nat.reduceSub, Nat.reduceLeDiff, Nat.reduceLT, reduceCtorEq, Int.reduceLT, Int.reduceLE, Int.reduceEq, Int.reduceBEq, Int.reduceSub, Int.reduceAdd, Int.reduceMul, Int.reduceNeg, Int.reduceToNat, Nat.reduceMul, Nat.reduceBEq, List.length_map]
  generalize hg : lim (headed pure (run L) true _ lp105_0 _ _) _ _ = o
  obtain ⟨x, en, s, rfl, h2⟩ : ∃ x en s, o = some (x, en, s) ∧ _ := by rw [← hg]; exact loop105 nl l hlen hl 0 0 ⟨by omega, by omega⟩ _ _ (by simp only [go_sem, reduceIte, Nat.reduceEqDiff, Nat.reduceAdd, Nat.reduceSub, Nat.reduceLeDiff, Nat.reduceLT, reduceCtorEq, Int.reduceLT, Int.reduceLE, Int.reduceEq, Int.reduceBEq, Int.reduceSub, Int.reduceAdd, Int.reduceMul, Int.reduceNeg, Int.reduceToNat, Nat.reduceMul, Nat.reduceBEq] <;> rfl)
  clear hg
  rw [List.drop_zero] at h2
  obtain ⟨rfl, h3, h4, rfl⟩ := h2
  simp only [go_sem, reduceIte, Nat.reduceEqDiff, Nat.reduceAdd, Nat.reduceSub, Nat.reduceLeDiff, Nat.reduceLT, reduceCtorEq, Int.reduceLT, Int.reduceLE, Int.reduceEq, Int.reduceBEq, Int.reduceSub, Int.reduceAdd, Int.reduceMul, Int.reduceNeg, Int.reduceToNat, Nat.reduceMul, Nat.reduceBEq, h3, h4]
theorem memb_lt {m : Nat} (h : m < 256) : ∀ a ∈ memb m, 0 ≤ a ∧ a < 8 := by
  intro a ha
  unfold memb at ha
  rw [List.mem_map] at ha
  obtain ⟨i, hi, rfl⟩ := ha
  rw [List.mem_filter] at hi
  have : i < 8 := by
    by_cases h8 : i < 8
    · exact h8
    · have := Nat.testBit_lt_two_pow (Nat.lt_of_lt_of_le h (Nat.pow_le_pow_right (n := 2) (by decide) (Nat.le_of_not_lt h8)) : m < 2 ^ i)
      rw [this] at hi; simp at hi
  omega
theorem c105 (m : Nat) (h : m < 256) (st : St) : run L 105 [tAV (memb m)] st = some (E8 m, st) := by
  have := memb_len m
  have e := c105g true (memb m) (by omega) (memb_lt h) st
  rw [orL_memb m h] at e
  exact e


/-! ### the first one of a list with a property -/
def idxF {α : Type} (p : α → Bool) (xs : List α) : Int := match xs.findIdx? p with | some j => (j : Int) | none => -1
theorem idxF_any {α : Type} (p : α → Bool) (xs : List α) : decide (0 ≤ idxF p xs) = xs.any p := by
  unfold idxF
  cases h : xs.findIdx? p with
  | none =>
    have : xs.any p = false := by
      rw [List.any_eq_false]
      intro x hx
      have := List.findIdx?_eq_none_iff.1 h x hx
      simp [this]
    rw [this]; rfl
  | some j =>
    have : xs.any p = true := by
      rw [List.findIdx?_eq_some_iff_getElem] at h
      obtain ⟨h1, h2, _⟩ := h
      rw [List.any_eq_true]
      exact ⟨xs[j], List.getElem_mem h1, h2⟩
    rw [this]; simp
theorem idx_sl {α : Type} (f : α → AV) (nl : Bool) (xs : List α) (i : Nat) (h : i < xs.length) : indexSAV 1 (sl 1 nl (xs.map f)) (J i) = some (.eptr (f xs[i]) 0) := by
  rw [index_sl _ _ _ _ _ (by omega) (by simpa using h)]
  simp
theorem idx_o {α : Type} (f : α → AV) (xs : List α) (i : Nat) (h : i < xs.length) : indexSAV 1 (oA (xs.map f)) (J i) = some (.eptr (f xs[i]) 0) := by
  unfold oA
  rw [index_loc _ _ _ _ _ (by omega) (by simpa using h)]
  simp
theorem lenm_sl {α : Type} (f : α → AV) (nl : Bool) (xs : List α) : lenAV (sl 1 nl (xs.map f)) = some (J xs.length) := by rw [len_sl, List.length_map]
theorem lenm_o {α : Type} (f : α → AV) (xs : List α) : lenAV (oA (xs.map f)) = some (J xs.length) := by rw [len_o, List.length_map]

theorem loop117 (st0 : St) (k : Nat) (hk : pure k = false) (caps : List AV) (X : AV) (xs : List Nat) (hlen : xs.length < 1000000) (hX : lenAV X = some (J xs.length)) (hI : ∀ i (h : i < xs.length), indexSAV 1 X (J i) = some (.eptr (U xs[i]) 0)) (p : Nat → Bool) (hc : ∀ x ∈ xs, run L k (U x :: caps) st0 = some (B (p x), st0)) (lo hi : Nat) (i : Nat) (hok : i ≤ xs.length) (env : Env) (st : St)
    (hg : gcAV false lo hi (canon env [0, 1, 7, 8]) st = ([(0, X), (1, .fn (.func k) [] caps), (7, J xs.length), (8, J i)], st0)) :
    ∃ x_1 en s, lim (headed pure (run L) false [0, 1, 7, 8] lp117_0 lo hi) env st = some (x_1, en, s) ∧ (s = st0 ∧ ((x_1 = .exit 0 ∧ (xs.drop i).findIdx? p = none) ∨ (x_1 = .ret ∧ ∃ j : Nat, (xs.drop i).findIdx? p = some j ∧ en.get 4 = J (i + j)))) := by
  refine loop_wp (α := Nat) (fun i => xs.length - i) (fun i => i ≤ xs.length) (fun i => ([(0, X), (1, .fn (.func k) [] caps), (7, J xs.length), (8, J i)], st0)) (fun i x_1 en s => s = st0 ∧ ((x_1 = .exit 0 ∧ (xs.drop i).findIdx? p = none) ∨ (x_1 = .ret ∧ ∃ j : Nat, (xs.drop i).findIdx? p = some j ∧ en.get 4 = J (i + j)))) (fun i hok => ?_) i hok env st hg
  by_cases h : i < xs.length
  · have hx := hI i h
    have hs := succ64 i (by omega)
    have hd : xs.drop i = xs[i] :: xs.drop (i + 1) := List.drop_eq_getElem_cons h
    have hcall := hc xs[i] (List.getElem_mem h)
    have hlt : ((i : Int) < (xs.length : Int)) = True := eq_true (by omega)
    rw [hd, List.findIdx?_cons]
    generalize xs[i] = a at *
    cases hp : p a with
    | true =>
      rw [hp] at hcall
      simp only [go_sem, reduceIte, Nat.reduceEqDiff, Nat.reduceAdd, Nat.reduceSub, Nat.reduceLeDiff, Nat.reduceLT, reduceCtorEq, Int.reduceLT, Int.reduceLE, Int.reduceEq, Int.reduceBEq, Int.reduceSub, Int.reduceAdd, Int.reduceMul, Int.reduceNeg, Int.reduceToNat, Nat.reduceMul, Nat.reduceBEq, index_rsl_if, setm, make_ints, condK_dec, wantK_dec, not_dec, and_dec, or_dec, seqK_ite, seqK_none, blockK_ite, blockK_none, opsK_ite, opsK_none, stepK_ite, stepK_none, bodyK_ite, bodyK_none, resK_ite, resK_none, leaveK_ite, leaveK_none, only_ite, only_none, bind_ite, gives_some, gives_none, gives_ite, then_normal, then_ret, then_exit, then_none, then_ite, Option.bind_none, Bool.not_eq_true', decide_eq_false_iff_not, Bool.and_eq_true, Bool.or_eq_true, Option.some.injEq, Int.not_lt, Int.not_le, lp117_0, hx, hlt, hk, hcall]
      exact ⟨0, rfl, rfl⟩
    | false =>
      rw [hp] at hcall
      simp only [go_sem, reduceIte, Nat.reduceEqDiff, Nat.reduceAdd, Nat.reduceSub, Nat.reduceLeDiff, Nat.reduceLT, reduceCtorEq, Int.reduceLT, Int.reduceLE, Int.reduceEq, Int.reduceBEq, Int.reduceSub, Int.reduceAdd, Int.reduceMul, Int.reduceNeg, Int.reduceToNat, Nat.reduceMul, Nat.reduceBEq, index_rsl_if, setm, make_ints, condK_dec, wantK_dec, not_dec, and_dec, or_dec, seqK_ite, seqK_none, blockK_ite, blockK_none, opsK_ite, opsK_none, stepK_ite, stepK_none, bodyK_ite, bodyK_none, resK_ite, resK_none, leaveK_ite, leaveK_none, only_ite, only_none, bind_ite, gives_some, gives_none, gives_ite, then_normal, then_ret, then_exit, then_none, then_ite, Option.bind_none, Bool.not_eq_true', decide_eq_false_iff_not, Bool.and_eq_true, Bool.or_eq_true, Option.some.injEq, Int.not_lt, Int.not_le, lp117_0, hx, hlt, hk, hcall, hs]
      refine ⟨i + 1, by simp only [go_sem, reduceIte, Nat.reduceEqDiff, Nat.reduceAdd, Nat.reduceSub, Nat.reduceLeDiff, Nat.reduceLT, reduceCtorEq, Int.reduceLT, Int.reduceLE, Int.reduceEq, Int.reduceBEq, Int.reduceSub, Int.reduceAdd, Int.reduceMul, Int.reduceNeg, Int.reduceToNat, Nat.reduceMul, Nat.reduceBEq, ren1_locm, loc_tips, locT_eq] <;> rfl, ?_, ?_, fun x en s hq => ?_⟩
      · omega
      · omega
      · obtain ⟨rfl, hq⟩ := hq
        refine ⟨rfl, ?_⟩
        rcases hq with ⟨rfl, hq⟩ | ⟨rfl, j, hq, hj⟩
        · left; rw [hq]; exact ⟨rfl, rfl⟩
        · right; refine ⟨rfl, j + 1, by rw [hq]; rfl, ?_⟩
          rw [hj, show i + 1 + j = i + (j + 1) by omega]
  · have hd : xs.drop i = [] := List.drop_eq_nil_of_le (by omega)
    have hlt : ((i : Int) < (xs.length : Int)) = False := eq_false (by omega)
    rw [hd]
    simp only [go_sem, reduceIte, Nat.reduceEqDiff, Nat.reduceAdd, Nat.reduceSub, Nat.reduceLeDiff, Nat.reduceLT, reduceCtorEq, Int.reduceLT, Int.reduceLE, Int.reduceEq, Int.reduceBEq, Int.reduceSub, Int.reduceAdd, Int.reduceMul, Int.reduceNeg, Int.reduceToNat, Nat.reduceMul, Nat.reduceBEq, index_rsl_if, setm, make_ints, condK_dec, wantK_dec, not_dec, and_dec, or_dec, seqK_ite, seqK_none, blockK_ite, blockK_none, opsK_ite, opsK_none, stepK_ite, stepK_none, bodyK_ite, bodyK_none, resK_ite, resK_none, leaveK_ite, leaveK_none, only_ite, only_none, bind_ite, gives_some, gives_none, gives_ite, then_normal, then_ret, then_exit, then_none, then_ite, Option.bind_none, Bool.not_eq_true', decide_eq_false_iff_not, Bool.and_eq_true, Bool.or_eq_true, Option.some.injEq, Int.not_lt, Int.not_le, lp117_0, hlt]
    trivial

theorem c117 (st0 : St) (k : Nat) (hk : pure k = false) (caps : List AV) (X : AV) (xs : List Nat) (hlen : xs.length < 1000000) (hX : lenAV X = some (J xs.length)) (hI : ∀ i (h : i < xs.length), indexSAV 1 X (J i) = some (.eptr (U xs[i]) 0)) (p : Nat → Bool) (hc : ∀ x ∈ xs, run L k (U x :: caps) st0 = some (B (p x), st0)) :
    run L 117 [X, .fn (.func k) [] caps] st0 = some (I (idxF p xs), st0) := by
  rw [run_shared (fn := ir117) rfl rfl]
  simp only [ir117, go_sem, reduceIte, Nat.reduceEqDiff, Nat.reduceAdd, Nat.reduceSub, Nat.reduceLeDiff, Nat.reduceLT, reduceCtorEq, Int.reduceLT, Int.reduceLE, Int.reduceEq, Int.reduceBEq, Int.reduceSub, Int.reduceAdd, Int.reduceMul, Int.reduceNeg, Int.reduceToNat, Nat.reduceMul, Nat.reduceBEq, hX]
  generalize hg : lim (headed pure (run L) false _ lp117_0 _ _) _ _ = o
  obtain ⟨x, en, s, rfl, h2⟩ : ∃ x en s, o = some (x, en, s) ∧ _ := by rw [← hg]; exact loop117 st0 k hk caps X xs hlen hX hI p hc _ _ 0 (by omega) _ _ (by simp only [go_sem, reduceIte, Nat.reduceEqDiff, Nat.reduceAdd, Nat.reduceSub, Nat.reduceLeDiff, Nat.reduceLT, reduceCtorEq, Int.reduceLT, Int.reduceLE, Int.reduceEq, Int.reduceBEq, Int.reduceSub, Int.reduceAdd, Int.reduceMul, Int.reduceNeg, Int.reduceToNat, Nat.reduceMul, Nat.reduceBEq] <;> rfl)
  clear hg
  rw [List.drop_zero] at h2
  obtain ⟨rfl, h2⟩ := h2
  unfold idxF
  rcases h2 with ⟨rfl, h2⟩ | ⟨rfl, j, h2, h3⟩
  · rw [h2]
    simp only [go_sem, reduceIte, Nat.reduceEqDiff, Nat.reduceAdd, Nat.reduceSub, Nat.reduceLeDiff, Nat.reduceLT, reduceCtorEq, Int.reduceLT, Int.reduceLE, Int.reduceEq, Int.reduceBEq, Int.reduceSub, Int.reduceAdd, Int.reduceMul, Int.reduceNeg, Int.reduceToNat, Nat.reduceMul, Nat.reduceBEq]
  · rw [h2]
    rw [Nat.zero_add] at h3
    simp only [go_sem, reduceIte, Nat.reduceEqDiff, Nat.reduceAdd, Nat.reduceSub, Nat.reduceLeDiff, Nat.reduceLT, reduceCtorEq, Int.reduceLT, Int.reduceLE, Int.reduceEq, Int.reduceBEq, Int.reduceSub, Int.reduceAdd, Int.reduceMul, Int.reduceNeg, Int.reduceToNat, Nat.reduceMul, Nat.reduceBEq, h3]
theorem c56 (st0 : St) (k : Nat) (hk : pure k = false) (caps : List AV) (X : AV) (xs : List Nat) (hlen : xs.length < 1000000) (hX : lenAV X = some (J xs.length)) (hI : ∀ i (h : i < xs.length), indexSAV 1 X (J i) = some (.eptr (U xs[i]) 0)) (p : Nat → Bool) (hc : ∀ x ∈ xs, run L k (U x :: caps) st0 = some (B (p x), st0)) :
    run L 56 [X, .fn (.func k) [] caps] st0 = some (B (xs.any p), st0) := by
  have h := c117 st0 k hk caps X xs hlen hX hI p hc
  rw [run_shared (fn := ir56) rfl rfl]
  simp only [ir56, go_sem, reduceIte, Nat.reduceEqDiff, Nat.reduceAdd, Nat.reduceSub, Nat.reduceLeDiff, Nat.reduceLT, reduceCtorEq, Int.reduceLT, Int.reduceLE, Int.reduceEq, Int.reduceBEq, Int.reduceSub, Int.reduceAdd, Int.reduceMul, Int.reduceNeg, Int.reduceToNat, Nat.reduceMul, Nat.reduceBEq, h, idxF_any]

theorem loop128 (st0 : St) (k : Nat) (hk : pure k = false) (caps : List AV) (X : AV) (xs : List Int) (hlen : xs.length < 1000000) (hX : lenAV X = some (J xs.length)) (hI : ∀ i (h : i < xs.length), indexSAV 1 X (J i) = some (.eptr (I xs[i]) 0)) (p : Int → Bool) (hc : ∀ x ∈ xs, run L k (I x :: caps) st0 = some (B (p x), st0)) (lo hi : Nat) (i : Nat) (hok : i ≤ xs.length) (env : Env) (st : St)
    (hg : gcAV false lo hi (canon env [0, 1, 7, 8]) st = ([(0, X), (1, .fn (.func k) [] caps), (7, J xs.length), (8, J i)], st0)) :
    ∃ x_1 en s, lim (headed pure (run L) false [0, 1, 7, 8] lp128_0 lo hi) env st = some (x_1, en, s) ∧ (s = st0 ∧ ((x_1 = .exit 0 ∧ (xs.drop i).findIdx? p = none) ∨ (x_1 = .ret ∧ ∃ j : Nat, (xs.drop i).findIdx? p = some j ∧ en.get 4 = J (i + j)))) := by
  refine loop_wp (α := Nat) (fun i => xs.length - i) (fun i => i ≤ xs.length) (fun i => ([(0, X), (1, .fn (.func k) [] caps), (7, J xs.length), (8, J i)], st0)) (fun i x_1 en s => s = st0 ∧ ((x_1 = .exit 0 ∧ (xs.drop i).findIdx? p = none) ∨ (x_1 = .ret ∧ ∃ j : Nat, (xs.drop i).findIdx? p = some j ∧ en.get 4 = J (i + j)))) (fun i hok => ?_) i hok env st hg
  by_cases h : i < xs.length
  · have hx := hI i h
    have hs := succ64 i (by omega)
    have hd : xs.drop i = xs[i] :: xs.drop (i + 1) := List.drop_eq_getElem_cons h
    have hcall := hc xs[i] (List.getElem_mem h)
    have hlt : ((i : Int) < (xs.length : Int)) = True := eq_true (by omega)
    rw [hd, List.findIdx?_cons]
    generalize xs[i] = a at *
    cases hp : p a with
    | true =>
      rw [hp] at hcall
      simp only [go_sem, reduceIte, Nat.reduceEqDiff, Nat.reduceAdd, Nat.reduceSub, Nat.reduceLeDiff, Nat.reduceLT, reduceCtorEq, Int.reduceLT, Int.reduceLE, Int.reduceEq, Int.reduceBEq, Int.reduceSub, Int.reduceAdd, Int.reduceMul, Int.reduceNeg, Int.reduceToNat, Nat.reduceMul, Nat.reduceBEq, index_rsl_if, setm, make_ints, condK_dec, wantK_dec, not_dec, and_dec, or_dec, seqK_ite, seqK_none, blockK_ite, blockK_none, opsK_ite, opsK_none, stepK_ite, stepK_none, bodyK_ite, bodyK_none, resK_ite, resK_none, leaveK_ite, leaveK_none, only_ite, only_none, bind_ite, gives_some, gives_none, gives_ite, then_normal, then_ret, then_exit, then_none, then_ite, Option.bind_none, Bool.not_eq_true', decide_eq_false_iff_not, Bool.and_eq_true, Bool.or_eq_true, Option.some.injEq, Int.not_lt, Int.not_le, lp128_0, hx, hlt, hk, hcall]
      exact ⟨0, rfl, rfl⟩
    | false =>
      rw [hp] at hcall
      simp only [go_sem, reduceIte, Nat.reduceEqDiff, Nat.reduceAdd, Nat.reduceSub, Nat.reduceLeDiff, Nat.reduceLT, reduceCtorEq, Int.reduceLT, Int.reduceLE, Int.reduceEq, Int.reduceBEq, Int.reduceSub, Int.reduceAdd, Int.reduceMul, Int.reduceNeg, Int.reduceToNat, Nat.reduceMul, Nat.reduceBEq, index_rsl_if, setm, make_ints, condK_dec, wantK_dec, not_dec, and_dec, or_dec, seqK_ite, seqK_none, blockK_ite, blockK_none, opsK_ite, opsK_none, stepK_ite, stepK_none, bodyK_ite, bodyK_none, resK_ite, resK_none, leaveK_ite, leaveK_none, only_ite, only_none, bind_ite, gives_some, gives_none, gives_ite, then_normal, then_ret, then_exit, then_none, then_ite, Option.bind_none, Bool.not_eq_true', decide_eq_false_iff_not, Bool.and_eq_true, Bool.or_eq_true, Option.some.injEq, Int.not_lt, Int.not_le, lp128_0, hx, hlt, hk, hcall, hs]
      refine ⟨i + 1, by simp only [go_sem, reduceIte, Nat.reduceEqDiff, Nat.reduceAdd, Nat.reduceSub, Nat.reduceLeDiff, Nat.reduceLT, reduceCtorEq, Int.reduceLT, Int.reduceLE, Int.reduceEq, Int.reduceBEq, Int.reduceSub, Int.reduceAdd, Int.reduceMul, Int.reduceNeg, Int.reduceToNat, Nat.reduceMul, Nat.reduceBEq, ren1_locm, loc_tips, locT_eq] <;> rfl, ?_, ?_, fun x en s hq => ?_⟩
      · omega
      · omega
      · obtain ⟨rfl, hq⟩ := hq
        refine ⟨rfl, ?_⟩
        rcases hq with ⟨rfl, hq⟩ | ⟨rfl, j, hq, hj⟩
        · left; rw [hq]; exact ⟨rfl, rfl⟩
        · right; refine ⟨rfl, j + 1, by rw [hq]; rfl, ?_⟩
          rw [hj, show i + 1 + j = i + (j + 1) by omega]
  · have hd : xs.drop i = [] := List.drop_eq_nil_of_le (by omega)
    have hlt : ((i : Int) < (xs.length : Int)) = False := eq_false (by omega)
    rw [hd]
    simp only [go_sem, reduceIte, Nat.reduceEqDiff, Nat.reduceAdd, Nat.reduceSub, Nat.reduceLeDiff, Nat.reduceLT, reduceCtorEq, Int.reduceLT, Int.reduceLE, Int.reduceEq, Int.reduceBEq, Int.reduceSub, Int.reduceAdd, Int.reduceMul, Int.reduceNeg, Int.reduceToNat, Nat.reduceMul, Nat.reduceBEq, index_rsl_if, setm, make_ints, condK_dec, wantK_dec, not_dec, and_dec, or_dec, seqK_ite, seqK_none, blockK_ite, blockK_none, opsK_ite, opsK_none, stepK_ite, stepK_none, bodyK_ite, bodyK_none, resK_ite, resK_none, leaveK_ite, leaveK_none, only_ite, only_none, bind_ite, gives_some, gives_none, gives_ite, then_normal, then_ret, then_exit, then_none, then_ite, Option.bind_none, Bool.not_eq_true', decide_eq_false_iff_not, Bool.and_eq_true, Bool.or_eq_true, Option.some.injEq, Int.not_lt, Int.not_le, lp128_0, hlt]
    trivial

theorem c128 (st0 : St) (k : Nat) (hk : pure k = false) (caps : List AV) (X : AV) (xs : List Int) (hlen : xs.length < 1000000) (hX : lenAV X = some (J xs.length)) (hI : ∀ i (h : i < xs.length), indexSAV 1 X (J i) = some (.eptr (I xs[i]) 0)) (p : Int → Bool) (hc : ∀ x ∈ xs, run L k (I x :: caps) st0 = some (B (p x), st0)) :
    run L 128 [X, .fn (.func k) [] caps] st0 = some (I (idxF p xs), st0) := by
  rw [run_shared (fn := ir128) rfl rfl]
  simp only [ir128, go_sem, reduceIte, Nat.reduceEqDiff, Nat.reduceAdd, Nat.reduceSub, Nat.reduceLeDiff, Nat.reduceLT, reduceCtorEq, Int.reduceLT, Int.reduceLE, Int.reduceEq, Int.reduceBEq, Int.reduceSub, Int.reduceAdd, Int.reduceMul, Int.reduceNeg, Int.reduceToNat, Nat.reduceMul, Nat.reduceBEq, hX]
  generalize hg : lim (headed pure (run L) false _ lp128_0 _ _) _ _ = o
  obtain ⟨x, en, s, rfl, h2⟩ : ∃ x en s, o = some (x, en, s) ∧ _ := by rw [← hg]; exact loop128 st0 k hk caps X xs hlen hX hI p hc _ _ 0 (by omega) _ _ (by simp only [go_sem, reduceIte, Nat.reduceEqDiff, Nat.reduceAdd, Nat.reduceSub, Nat.reduceLeDiff, Nat.reduceLT, reduceCtorEq, Int.reduceLT, Int.reduceLE, Int.reduceEq, Int.reduceBEq, Int.reduceSub, Int.reduceAdd, Int.reduceMul, Int.reduceNeg, Int.reduceToNat, Nat.reduceMul, Nat.reduceBEq] <;> rfl)
  clear hg
  rw [List.drop_zero] at h2
  obtain ⟨rfl, h2⟩ := h2
  unfold idxF
  rcases h2 with ⟨rfl, h2⟩ | ⟨rfl, j, h2, h3⟩
  · rw [h2]
    simp only [go_sem, reduceIte, Nat.reduceEqDiff, Nat.reduceAdd, Nat.reduceSub, Nat.reduceLeDiff, Nat.reduceLT, reduceCtorEq, Int.reduceLT, Int.reduceLE, Int.reduceEq, Int.reduceBEq, Int.reduceSub, Int.reduceAdd, Int.reduceMul, Int.reduceNeg, Int.reduceToNat, Nat.reduceMul, Nat.reduceBEq]
  · rw [h2]
    rw [Nat.zero_add] at h3
    simp only [go_sem, reduceIte, Nat.reduceEqDiff, Nat.reduceAdd, Nat.reduceSub, Nat.reduceLeDiff, Nat.reduceLT, reduceCtorEq, Int.reduceLT, Int.reduceLE, Int.reduceEq, Int.reduceBEq, Int.reduceSub, Int.reduceAdd, Int.reduceMul, Int.reduceNeg, Int.reduceToNat, Nat.reduceMul, Nat.reduceBEq, h3]
theorem c75 (st0 : St) (k : Nat) (hk : pure k = false) (caps : List AV) (X : AV) (xs : List Int) (hlen : xs.length < 1000000) (hX : lenAV X = some (J xs.length)) (hI : ∀ i (h : i < xs.length), indexSAV 1 X (J i) = some (.eptr (I xs[i]) 0)) (p : Int → Bool) (hc : ∀ x ∈ xs, run L k (I x :: caps) st0 = some (B (p x), st0)) :
    run L 75 [X, .fn (.func k) [] caps] st0 = some (B (xs.any p), st0) := by
  have h := c128 st0 k hk caps X xs hlen hX hI p hc
  rw [run_shared (fn := ir75) rfl rfl]
  simp only [ir75, go_sem, reduceIte, Nat.reduceEqDiff, Nat.reduceAdd, Nat.reduceSub, Nat.reduceLeDiff, Nat.reduceLT, reduceCtorEq, Int.reduceLT, Int.reduceLE, Int.reduceEq, Int.reduceBEq, Int.reduceSub, Int.reduceAdd, Int.reduceMul, Int.reduceNeg, Int.reduceToNat, Nat.reduceMul, Nat.reduceBEq, h, idxF_any]

theorem loop116 (nl : Bool) (xs : List Nat) (hlen : xs.length < 1000000) (a : Nat) (i : Nat) (hok : i ≤ xs.length) (env : Env) (st : St)
    (hg : gcAV true 0 0 (canon env [0, 1, 7, 8]) st = ([(0, sl 1 nl (xs.map U)), (1, U a), (7, J xs.length), (8, J i)], ⟨[], []⟩)) :
    ∃ x_1 en s, lim (headed pure (run L) true [0, 1, 7, 8] lp116_0 0 0) env st = some (x_1, en, s) ∧ (if a ∈ xs.drop i then x_1 = .ret ∧ ∃ j : Nat, en.get 4 = J j else x_1 = .exit 0) := by
  refine loop_wp (α := Nat) (fun i => xs.length - i) (fun i => i ≤ xs.length) (fun i => ([(0, sl 1 nl (xs.map U)), (1, U a), (7, J xs.length), (8, J i)], ⟨[], []⟩)) (fun i x_1 en s => if a ∈ xs.drop i then x_1 = .ret ∧ ∃ j : Nat, en.get 4 = J j else x_1 = .exit 0) (fun i hok => ?_) i hok env st hg
  by_cases h : i < xs.length
  · have hx := idx_sl U nl xs i h
    have hs := succ64 i (by omega)
    have hd : xs.drop i = xs[i] :: xs.drop (i + 1) := List.drop_eq_getElem_cons h
    have hlt : ((i : Int) < (xs.length : Int)) = True := eq_true (by omega)
    rw [hd]
    generalize xs[i] = b at *
    by_cases p : a = b
    · have e : ((a : Int) = (b : Int)) = True := eq_true (by omega)
      simp only [go_sem, reduceIte, Nat.reduceEqDiff, Nat.reduceAdd, Nat.reduceSub, Nat.reduceLeDiff, Nat.reduceLT, reduceCtorEq, Int.reduceLT, Int.reduceLE, Int.reduceEq, Int.reduceBEq, Int.reduceSub, Int.reduceAdd, Int.reduceMul, Int.reduceNeg, Int.reduceToNat, Nat.reduceMul, Nat.reduceBEq, index_rsl_if, setm, make_ints, condK_dec, wantK_dec, not_dec, and_dec, or_dec, seqK_ite, seqK_none, blockK_ite, blockK_none, opsK_ite, opsK_none, stepK_ite, stepK_none, bodyK_ite, bodyK_none, resK_ite, resK_none, leaveK_ite, leaveK_none, only_ite, only_none, bind_ite, gives_some, gives_none, gives_ite, then_normal, then_ret, then_exit, then_none, then_ite, Option.bind_none, Bool.not_eq_true', decide_eq_false_iff_not, Bool.and_eq_true, Bool.or_eq_true, Option.some.injEq, Int.not_lt, Int.not_le, lp116_0, hx, hlt, e]
      rw [if_pos (by simp [p])]; exact ⟨i, rfl⟩
    · have e : ((a : Int) = (b : Int)) = False := eq_false (by omega)
      simp only [go_sem, reduceIte, Nat.reduceEqDiff, Nat.reduceAdd, Nat.reduceSub, Nat.reduceLeDiff, Nat.reduceLT, reduceCtorEq, Int.reduceLT, Int.reduceLE, Int.reduceEq, Int.reduceBEq, Int.reduceSub, Int.reduceAdd, Int.reduceMul, Int.reduceNeg, Int.reduceToNat, Nat.reduceMul, Nat.reduceBEq, index_rsl_if, setm, make_ints, condK_dec, wantK_dec, not_dec, and_dec, or_dec, seqK_ite, seqK_none, blockK_ite, blockK_none, opsK_ite, opsK_none, stepK_ite, stepK_none, bodyK_ite, bodyK_none, resK_ite, resK_none, leaveK_ite, leaveK_none, only_ite, only_none, bind_ite, gives_some, gives_none, gives_ite, then_normal, then_ret, then_exit, then_none, then_ite, Option.bind_none, Bool.not_eq_true', decide_eq_false_iff_not, Bool.and_eq_true, Bool.or_eq_true, Option.some.injEq, Int.not_lt, Int.not_le, lp116_0, hx, hlt, e, hs]
      refine ⟨i + 1, by simp only [go_sem, reduceIte, Nat.reduceEqDiff, Nat.reduceAdd, Nat.reduceSub, Nat.reduceLeDiff, Nat.reduceLT, reduceCtorEq, Int.reduceLT, Int.reduceLE, Int.reduceEq, Int.reduceBEq, Int.reduceSub, Int.reduceAdd, Int.reduceMul, Int.reduceNeg, Int.reduceToNat, Nat.reduceMul, Nat.reduceBEq, ren1_locm, loc_tips, locT_eq] <;> rfl, ?_, ?_, fun x en s hq => ?_⟩
      · omega
      · omega
      · simp only [List.mem_cons, p, false_or]; exact hq
  · have hd : xs.drop i = [] := List.drop_eq_nil_of_le (by omega)
    have hlt : ((i : Int) < (xs.length : Int)) = False := eq_false (by omega)
    simp only [go_sem, reduceIte, Nat.reduceEqDiff, Nat.reduceAdd, Nat.reduceSub, Nat.reduceLeDiff, Nat.reduceLT, reduceCtorEq, Int.reduceLT, Int.reduceLE, Int.reduceEq, Int.reduceBEq, Int.reduceSub, Int.reduceAdd, Int.reduceMul, Int.reduceNeg, Int.reduceToNat, Nat.reduceMul, Nat.reduceBEq, index_rsl_if, setm, make_ints, condK_dec, wantK_dec, not_dec, and_dec, or_dec, seqK_ite, seqK_none, blockK_ite, blockK_none, opsK_ite, opsK_none, stepK_ite, stepK_none, bodyK_ite, bodyK_none, resK_ite, resK_none, leaveK_ite, leaveK_none, only_ite, only_none, bind_ite, gives_some, gives_none, gives_ite, then_normal, then_ret, then_exit, then_none, then_ite, Option.bind_none, Bool.not_eq_true', decide_eq_false_iff_not, Bool.and_eq_true, Bool.or_eq_true, Option.some.injEq, Int.not_lt, Int.not_le, lp116_0, hlt]
    rw [hd]; simp

theorem c55 (nl : Bool) (xs : List Nat) (hlen : xs.length < 1000000) (a : Nat) (st : St) : run L 55 [sl 1 nl (xs.map U), U a] st = some (B (decide (a ∈ xs)), st) := by
  have h116 : ∀ st, ∃ k : Int, run L 116 [sl 1 nl (xs.map U), U a] st = some (I k, st) ∧ (0 ≤ k ↔ a ∈ xs) := by
    intro st
    rw [run_pure (fn := ir116) rfl rfl]
    simp only [ir116, go_sem, reduceIte, Nat.reduceEqDiff, Nat.reduceAdd, Nat.reduceSub, Nat.reduceLeDiff, Nat.reduceLT, reduceCtorEq, Int.reduceLT, Int.reduceLE, Int.reduceEq, Int.reduceBEq, Int.reduceSub, Int.reduceAdd, Int.reduceMul, Int.reduceNeg, Int.reduceToNat, Nat.reduceMul, Nat.reduceBEq, List.length_map]
    generalize hg : lim (headed pure (run L) true _ lp116_0 _ _) _ _ = o
    obtain ⟨x, en, s, rfl, h2⟩ : ∃ x en s, o = some (x, en, s) ∧ _ := by rw [← hg]; exact loop116 nl xs hlen a 0 (by omega) _ _ (by simp only [go_sem, reduceIte, Nat.reduceEqDiff, Nat.reduceAdd, Nat.reduceSub, Nat.reduceLeDiff, Nat.reduceLT, reduceCtorEq, Int.reduceLT, Int.reduceLE, Int.reduceEq, Int.reduceBEq, Int.reduceSub, Int.reduceAdd, Int.reduceMul, Int.reduceNeg, Int.reduceToNat, Nat.reduceMul, Nat.reduceBEq] <;> rfl)
    clear hg
    rw [List.drop_zero] at h2
    by_cases h : a ∈ xs
    · rw [if_pos h] at h2
      obtain ⟨rfl, k, h3⟩ := h2
      exact ⟨k, by simp only [go_sem, reduceIte, Nat.reduceEqDiff, Nat.reduceAdd, Nat.reduceSub, Nat.reduceLeDiff, Nat.reduceLT, reduceCtorEq, Int.reduceLT, Int.reduceLE, Int.reduceEq, Int.reduceBEq, Int.reduceSub, Int.reduceAdd, Int.reduceMul, Int.reduceNeg, Int.reduceToNat, Nat.reduceMul, Nat.reduceBEq, h3], by simp [h]⟩
    · rw [if_neg h] at h2
      subst h2
      exact ⟨-1, by simp only [go_sem, reduceIte, Nat.reduceEqDiff, Nat.reduceAdd, Nat.reduceSub, Nat.reduceLeDiff, Nat.reduceLT, reduceCtorEq, Int.reduceLT, Int.reduceLE, Int.reduceEq, Int.reduceBEq, Int.reduceSub, Int.reduceAdd, Int.reduceMul, Int.reduceNeg, Int.reduceToNat, Nat.reduceMul, Nat.reduceBEq], by simp [h]⟩
  rw [run_pure (fn := ir55) rfl rfl]
  obtain ⟨k, h1, h2⟩ := h116 ⟨[], []⟩
  simp only [ir55, go_sem, reduceIte, Nat.reduceEqDiff, Nat.reduceAdd, Nat.reduceSub, Nat.reduceLeDiff, Nat.reduceLT, reduceCtorEq, Int.reduceLT, Int.reduceLE, Int.reduceEq, Int.reduceBEq, Int.reduceSub, Int.reduceAdd, Int.reduceMul, Int.reduceNeg, Int.reduceToNat, Nat.reduceMul, Nat.reduceBEq, h1, h2]

theorem loop160 (nl : Bool) (xs : List Nat) (hlen : xs.length < 1000000) (a : Nat) (i : Nat) (hok : i ≤ xs.length) (env : Env) (st : St)
    (hg : gcAV true 1 0 (canon env [0, 3, 7, 8]) st = ([(0, sl 1 nl (xs.map E8)), (3, .ptr 0 0), (7, J xs.length), (8, J i)], ⟨[[u8 a]], []⟩)) :
    ∃ x_1 en s, lim (headed pure (run L) true [0, 3, 7, 8] lp160_0 1 0) env st = some (x_1, en, s) ∧ (if a ∈ xs.drop i then x_1 = .ret ∧ ∃ j : Nat, en.get 4 = J j else x_1 = .exit 0) := by
  refine loop_wp (α := Nat) (fun i => xs.length - i) (fun i => i ≤ xs.length) (fun i => ([(0, sl 1 nl (xs.map E8)), (3, .ptr 0 0), (7, J xs.length), (8, J i)], ⟨[[u8 a]], []⟩)) (fun i x_1 en s => if a ∈ xs.drop i then x_1 = .ret ∧ ∃ j : Nat, en.get 4 = J j else x_1 = .exit 0) (fun i hok => ?_) i hok env st hg
  by_cases h : i < xs.length
  · have hx := idx_sl E8 nl xs i h
    have hs := succ64 i (by omega)
    have hd : xs.drop i = xs[i] :: xs.drop (i + 1) := List.drop_eq_getElem_cons h
    have hlt : ((i : Int) < (xs.length : Int)) = True := eq_true (by omega)
    rw [hd]
    generalize xs[i] = b at *
    by_cases p : a = b
    · have e : ((a : Int) = (b : Int)) = True := eq_true (by omega)
      simp only [go_sem, reduceIte, Nat.reduceEqDiff, Nat.reduceAdd, Nat.reduceSub, Nat.reduceLeDiff, Nat.reduceLT, reduceCtorEq, Int.reduceLT, Int.reduceLE, Int.reduceEq, Int.reduceBEq, Int.reduceSub, Int.reduceAdd, Int.reduceMul, Int.reduceNeg, Int.reduceToNat, Nat.reduceMul, Nat.reduceBEq, index_rsl_if, setm, make_ints, condK_dec, wantK_dec, not_dec, and_dec, or_dec, seqK_ite, seqK_none, blockK_ite, blockK_none, opsK_ite, opsK_none, stepK_ite, stepK_none, bodyK_ite, bodyK_none, resK_ite, resK_none, leaveK_ite, leaveK_none, only_ite, only_none, bind_ite, gives_some, gives_none, gives_ite, then_normal, then_ret, then_exit, then_none, then_ite, Option.bind_none, Bool.not_eq_true', decide_eq_false_iff_not, Bool.and_eq_true, Bool.or_eq_true, Option.some.injEq, Int.not_lt, Int.not_le, lp160_0, hx, hlt, e]
      rw [if_pos (by simp [p])]; exact ⟨i, rfl⟩
    · have e : ((a : Int) = (b : Int)) = False := eq_false (by omega)
      simp only [go_sem, reduceIte, Nat.reduceEqDiff, Nat.reduceAdd, Nat.reduceSub, Nat.reduceLeDiff, Nat.reduceLT, reduceCtorEq, Int.reduceLT, Int.reduceLE, Int.reduceEq, Int.reduceBEq, Int.reduceSub, Int.reduceAdd, Int.reduceMul, Int.reduceNeg, Int.reduceToNat, Nat.reduceMul, Nat.reduceBEq, index_rsl_if, setm, make_ints, condK_dec, wantK_dec, not_dec, and_dec, or_dec, seqK_ite, seqK_none, blockK_ite, blockK_none, opsK_ite, opsK_none, stepK_ite, stepK_none, bodyK_ite, bodyK_none, resK_ite, resK_none, leaveK_ite, leaveK_none, only_ite, only_none, bind_ite, gives_some, gives_none, gives_ite, then_normal, then_ret, then_exit, then_none, then_ite, Option.bind_none, Bool.not_eq_true', decide_eq_false_iff_not, Bool.and_eq_true, Bool.or_eq_true, Option.some.injEq, Int.not_lt, Int.not_le, lp160_0, hx, hlt, e, hs]
      refine ⟨i + 1, by simp only [go_sem, reduceIte, Nat.reduceEqDiff, Nat.reduceAdd, Nat.reduceSub, Nat.reduceLeDiff, Nat.reduceLT, reduceCtorEq, Int.reduceLT, Int.reduceLE, Int.reduceEq, Int.reduceBEq, Int.reduceSub, Int.reduceAdd, Int.reduceMul, Int.reduceNeg, Int.reduceToNat, Nat.reduceMul, Nat.reduceBEq, ren1_locm, loc_tips, locT_eq] <;> rfl, ?_, ?_, fun x en s hq => ?_⟩
      · omega
      · omega
      · simp only [List.mem_cons, p, false_or]; exact hq
  · have hd : xs.drop i = [] := List.drop_eq_nil_of_le (by omega)
    have hlt : ((i : Int) < (xs.length : Int)) = False := eq_false (by omega)
    simp only [go_sem, reduceIte, Nat.reduceEqDiff, Nat.reduceAdd, Nat.reduceSub, Nat.reduceLeDiff, Nat.reduceLT, reduceCtorEq, Int.reduceLT, Int.reduceLE, Int.reduceEq, Int.reduceBEq, Int.reduceSub, Int.reduceAdd, Int.reduceMul, Int.reduceNeg, Int.reduceToNat, Nat.reduceMul, Nat.reduceBEq, index_rsl_if, setm, make_ints, condK_dec, wantK_dec, not_dec, and_dec, or_dec, seqK_ite, seqK_none, blockK_ite, blockK_none, opsK_ite, opsK_none, stepK_ite, stepK_none, bodyK_ite, bodyK_none, resK_ite, resK_none, leaveK_ite, leaveK_none, only_ite, only_none, bind_ite, gives_some, gives_none, gives_ite, then_normal, then_ret, then_exit, then_none, then_ite, Option.bind_none, Bool.not_eq_true', decide_eq_false_iff_not, Bool.and_eq_true, Bool.or_eq_true, Option.some.injEq, Int.not_lt, Int.not_le, lp160_0, hlt]
    rw [hd]; simp

theorem c122 (nl : Bool) (xs : List Nat) (hlen : xs.length < 1000000) (a : Nat) (st : St) : run L 122 [sl 1 nl (xs.map E8), E8 a] st = some (B (decide (a ∈ xs)), st) := by
  have h116 : ∀ st, ∃ k : Int, run L 160 [sl 1 nl (xs.map E8), E8 a] st = some (I k, st) ∧ (0 ≤ k ↔ a ∈ xs) := by
    intro st
    rw [run_pure (fn := ir160) rfl rfl]
    simp only [ir160, go_sem, reduceIte, Nat.reduceEqDiff, Nat.reduceAdd, Nat.reduceSub, Nat.reduceLeDiff, Nat.reduceLT, reduceCtorEq, Int.reduceLT, Int.reduceLE, Int.reduceEq, Int.reduceBEq, Int.reduceSub, Int.reduceAdd, Int.reduceMul, Int.reduceNeg, Int.reduceToNat, Nat.reduceMul, Nat.reduceBEq, List.length_map]
    generalize hg : lim (headed pure (run L) true _ lp160_0 _ _) _ _ = o
    obtain ⟨x, en, s, rfl, h2⟩ : ∃ x en s, o = some (x, en, s) ∧ _ := by rw [← hg]; exact loop160 nl xs hlen a 0 (by omega) _ _ (by simp only [go_sem, reduceIte, Nat.reduceEqDiff, Nat.reduceAdd, Nat.reduceSub, Nat.reduceLeDiff, Nat.reduceLT, reduceCtorEq, Int.reduceLT, Int.reduceLE, Int.reduceEq, Int.reduceBEq, Int.reduceSub, Int.reduceAdd, Int.reduceMul, Int.reduceNeg, Int.reduceToNat, Nat.reduceMul, Nat.reduceBEq] <;> rfl)
    clear hg
    rw [List.drop_zero] at h2
    by_cases h : a ∈ xs
    · rw [if_pos h] at h2
      obtain ⟨rfl, k, h3⟩ := h2
      exact ⟨k, by simp only [go_sem, reduceIte, Nat.reduceEqDiff, Nat.reduceAdd, Nat.reduceSub, Nat.reduceLeDiff, Nat.reduceLT, reduceCtorEq, Int.reduceLT, Int.reduceLE, Int.reduceEq, Int.reduceBEq, Int.reduceSub, Int.reduceAdd, Int.reduceMul, Int.reduceNeg, Int.reduceToNat, Nat.reduceMul, Nat.reduceBEq, h3], by simp [h]⟩
    · rw [if_neg h] at h2
      subst h2
      exact ⟨-1, by simp only [go_sem, reduceIte, Nat.reduceEqDiff, Nat.reduceAdd, Nat.reduceSub, Nat.reduceLeDiff, Nat.reduceLT, reduceCtorEq, Int.reduceLT, Int.reduceLE, Int.reduceEq, Int.reduceBEq, Int.reduceSub, Int.reduceAdd, Int.reduceMul, Int.reduceNeg, Int.reduceToNat, Nat.reduceMul, Nat.reduceBEq], by simp [h]⟩
  rw [run_pure (fn := ir122) rfl rfl]
  obtain ⟨k, h1, h2⟩ := h116 ⟨[[u8 a]], []⟩
  simp only [ir122, go_sem, reduceIte, Nat.reduceEqDiff, Nat.reduceAdd, Nat.reduceSub, Nat.reduceLeDiff, Nat.reduceLT, reduceCtorEq, Int.reduceLT, Int.reduceLE, Int.reduceEq, Int.reduceBEq, Int.reduceSub, Int.reduceAdd, Int.reduceMul, Int.reduceNeg, Int.reduceToNat, Nat.reduceMul, Nat.reduceBEq, h1, h2]

attribute [local go_sem] okRef_o storable_o shaped_o cells_o fin_o pub_o

theorem run_args {f : FuncId} {fn : IF} (hf : L.fns f = some fn) (hp : L.pure f = true) {args args' : List AV} (st : St) (h : pubs args = pubs args') : run L f args st = run L f args' st := by
  rw [run_pure hf hp, run_pure hf hp, h]
/-! ### divisions by numbers -/
theorem c107 (C : List AV) (T : List Nat) (a b : Nat) (ha : a < 256) (hb : b < 256) : run L 107 [U a, .ptr 1 0] ⟨[C, [U b]], T⟩ = some (B (!agN a b), ⟨[C, [U b]], T⟩) := by
  rw [run_shared (fn := ir107) rfl rfl]
  have h := fun st => c41 a b ha hb st
  cases hh : agN a b <;> rw [hh] at h <;> simp only [ir107, go_sem, reduceIte, Nat.reduceEqDiff, Nat.reduceAdd, Nat.reduceSub, Nat.reduceLeDiff, Nat.reduceLT, reduceCtorEq, Int.reduceLT, Int.reduceLE, Int.reduceEq, Int.reduceBEq, Int.reduceSub, Int.reduceAdd, Int.reduceMul, Int.reduceNeg, Int.reduceToNat, Nat.reduceMul, Nat.reduceBEq, h]
def cutC (a g : Nat) (zs : List Nat) (m w : Nat) : List AV := u8 a :: u8 g :: (zs.map u8 ++ [u8 m, u16 w])
theorem lenC (a g : Nat) (zs : List Nat) (hz : zs.length = 13) (m w : Nat) : (cutC a g zs m w).length = 17 := by simp [cutC, hz]
theorem cut0 (a g : Nat) (zs : List Nat) (m w : Nat) : (cutC a g zs m w)[0]? = some (u8 a) := rfl
theorem cut1 (a g : Nat) (zs : List Nat) (m w : Nat) : (cutC a g zs m w)[1]? = some (u8 g) := rfl
theorem cutZ (a g : Nat) (zs : List Nat) (hz : zs.length = 13) (m w : Nat) (i : Nat) (h : i < 13) : (cutC a g zs m w)[2 + i]? = some (u8 (zs.getD i 0)) := by
  rw [show 2 + i = i + 1 + 1 by omega]
  simp only [cutC, List.getElem?_cons_succ]
  rw [List.getElem?_append_left (by simpa [hz] using h), List.getElem?_map, List.getElem?_eq_getElem (by omega)]
  simp [List.getD_eq_getElem?_getD, show i < zs.length by omega]
theorem cut15 (a g : Nat) (zs : List Nat) (hz : zs.length = 13) (m w : Nat) : (cutC a g zs m w)[15]? = some (u8 m) := by
  simp only [cutC, List.getElem?_cons_succ]
  rw [List.getElem?_append_right (by simp [hz])]; simp [hz]
theorem cut16 (a g : Nat) (zs : List Nat) (hz : zs.length = 13) (m w : Nat) : (cutC a g zs m w)[16]? = some (u16 w) := by
  simp only [cutC, List.getElem?_cons_succ]
  rw [List.getElem?_append_right (by simp [hz])]; simp [hz]
/-- A side as it is taken: without the first article. -/
def smN (n x : Nat) : Nat := dfN (x &&& (2 ^ n - 1)) 1
def mkS (n g : Nat) (out : List Nat) (x : Nat) : List Nat :=
  if smN n x = 0 then out else if smN n x ∈ out then out else if g % 2 = 1 ∧ out.any (fun o => !agN o (smN n x)) = true then out else out ++ [smN n x]
def madeS (n g : Nat) (zs : List Nat) (k : Nat) : List Nat := (zs.take k).foldl (mkS n g) []
theorem smN_lt {n : Nat} (hn : n ≤ 8) (x : Nat) : smN n x < 256 := by
  have h : 2 ^ n ≤ 256 := Nat.pow_le_pow_right (n := 2) (by decide) hn
  have hp : 0 < 2 ^ n := Nat.two_pow_pos n
  exact dfN_lt (Nat.lt_of_le_of_lt Nat.and_le_right (by omega))
theorem mkS_len (n g : Nat) (out : List Nat) (x : Nat) : (mkS n g out x).length ≤ out.length + 1 := by
  unfold mkS; split
  · omega
  · split
    · omega
    · split <;> simp
theorem mkS_lt {n : Nat} (hn : n ≤ 8) (g : Nat) (out : List Nat) (h : ∀ y ∈ out, y < 256) (x : Nat) : ∀ y ∈ mkS n g out x, y < 256 := by
  unfold mkS; split
  · exact h
  · split
    · exact h
    · split
      · exact h
      · intro y hy
        rcases List.mem_append.1 hy with hy | hy
        · exact h y hy
        · rw [List.mem_singleton] at hy; subst hy; exact smN_lt hn x
theorem remJ (a b : Nat) (hb : b ≠ 0) : binAV .rem none (J a) (J b) = some (J (a % b)) := by
  show (if (b : Int) = 0 then none else some (AV.v (.int .i64 (Int.tmod (a : Int) (b : Int))))) = _
  rw [if_neg (by omega)]; rfl
theorem rem8 (a b : Nat) (hb : b ≠ 0) : binAV .rem none (u8 a) (u8 b) = some (u8 (a % b)) := by
  show (if (b : Int) = 0 then none else some (AV.v (.int .u8 (Int.tmod (a : Int) (b : Int))))) = _
  rw [if_neg (by omega)]; rfl
theorem shlU (n : Nat) (h : n ≤ 8) : binAV .shl none (.v (.int .u64 1)) (.v (.int .i64 (n : Int))) = some (U (2 ^ n)) := by
  rw [shl_one, sh1_eq n (by omega)]
theorem fullU (n : Nat) (h : n ≤ 8) : IntKind.u64.wrap (((2 ^ n : Nat) : Int) - 1) = ((2 ^ n - 1 : Nat) : Int) := by
  have h1 : 2 ^ n ≤ 256 := Nat.pow_le_pow_right (n := 2) (by decide) h
  have hp : 0 < 2 ^ n := Nat.two_pow_pos n
  generalize 2 ^ n = q at *
  have := wrapU (q - 1) (by omega)
  rw [← this]; congr 1; omega
theorem okRefsC (k a g : Nat) (zs : List Nat) (m w : Nat) : okRefs k (cutC a g zs m w) = true := by
  have h : ∀ xs : List Nat, okRefs k (xs.map u8 ++ [u8 m, u16 w]) = true := by
    intro xs
    induction xs with
    | nil => rfl
    | cons x r ih => simp only [List.map_cons, List.cons_append, okRefs, okRef, ih, Bool.true_and]
  simp only [cutC, okRefs, okRef, h, Bool.true_and]
theorem renCellsC (k : Nat) (T : List Nat) (acc : List (Nat × Nat)) (a g : Nat) (zs : List Nat) (m w : Nat) : renCells k T acc (cutC a g zs m w) = (cutC a g zs m w, acc) := by
  have h : ∀ (xs : List Nat) acc, renCells k T acc (xs.map u8 ++ [u8 m, u16 w]) = (xs.map u8 ++ [u8 m, u16 w], acc) := by
    intro xs
    induction xs with
    | nil => intro acc; rfl
    | cons x r ih => intro acc; simp only [List.map_cons, List.cons_append, renCells, ren1, ih]
  simp only [cutC, renCells, ren1, h]

set_option maxHeartbeats 1000000 in
theorem loop38 (n : Nat) (hn : n ≤ 8) (a g : Nat) (zs : List Nat) (hz : zs.length = 13) (hzs : ∀ z ∈ zs, z < 256) (m w k : Nat) (hk : k ≤ 13) (i : Nat) (o : List Nat) (hok : i ≤ k ∧ o.length ≤ i ∧ ∀ y ∈ o, y < 256) (env : Env) (st : St)
    (hg : gcAV true 1 0 (canon env [2, 6, 7, 23, 24, 25]) st = ([(2, .ptr 0 0), (6, J n), (7, oA (o.map U)), (23, .rsl 0 2 k 13 1 false), (24, J k), (25, J i)], ⟨[cutC a g zs m w], oT (o.map U)⟩)) :
    ∃ x_1 en s, lim (headed pure (run L) true [2, 6, 7, 23, 24, 25] lp38_0 1 0) env st = some (x_1, en, s) ∧ (x_1 = .exit 0 ∧ en.get 6 = J n ∧ en.get 7 = oA ((((zs.take k).drop i).foldl (mkS n g) o).map U)) := by
  refine loop_wp (α := Nat × List Nat) (fun ⟨i, o⟩ => k - i) (fun ⟨i, o⟩ => i ≤ k ∧ o.length ≤ i ∧ ∀ y ∈ o, y < 256) (fun ⟨i, o⟩ => ([(2, .ptr 0 0), (6, J n), (7, oA (o.map U)), (23, .rsl 0 2 k 13 1 false), (24, J k), (25, J i)], ⟨[cutC a g zs m w], oT (o.map U)⟩)) (fun ⟨i, o⟩ x_1 en s => x_1 = .exit 0 ∧ en.get 6 = J n ∧ en.get 7 = oA ((((zs.take k).drop i).foldl (mkS n g) o).map U)) (fun ⟨i, o⟩ hok => ?_) ⟨i, o⟩ hok env st hg
  simp only at hok
  obtain ⟨h1, h2, h3⟩ := hok
  dsimp only at h1 h2 h3 ⊢
  by_cases h : i < k
  · have hs := succ64 i (by omega)
    have hlt : ((i : Int) < (k : Int)) = True := eq_true (by omega)
    have hd : (zs.take k).drop i = zs.getD i 0 :: (zs.take k).drop (i + 1) := by
      rw [List.drop_eq_getElem_cons (by rw [List.length_take]; omega)]
      congr 1
      rw [List.getElem_take]; simp [List.getD_eq_getElem?_getD, show i < zs.length by omega]
    have hz2 := cutZ a g zs hz m w i (by omega)
    have hg1 := cut1 a g zs m w
    have hx : zs.getD i 0 < 256 := by
      rw [List.getD_eq_getElem?_getD, List.getElem?_eq_getElem (by omega)]
      exact hzs _ (List.getElem_mem _)
    rw [hd, List.foldl_cons]
    generalize zs.getD i 0 = x at *
    have hsm := smN_lt hn x
    have hl := mkS_len n g o x
    have hl2 := mkS_lt hn g o h3 x
    have hw := wrapU x (by omega)
    have hsh := shlU n hn
    have hfu := fullU n hn
    have h2n : 2 ^ n ≤ 256 := Nat.pow_le_pow_right (n := 2) (by decide) hn
    have hp : 0 < 2 ^ n := Nat.two_pow_pos n
    have ha := and_d x (2 ^ n - 1) (by omega) (by omega)
    have hb : binAV .andNot none (U (x &&& (2 ^ n - 1))) (.v (.int .u64 1)) = some (U (dfN (x &&& (2 ^ n - 1)) 1)) := dfU (x &&& (2 ^ n - 1)) 1 (Nat.lt_of_le_of_lt Nat.and_le_left (by omega)) (by omega)
    have he : mkS n g o x = if smN n x = 0 then o else if smN n x ∈ o then o else if g % 2 = 1 ∧ o.any (fun y => !agN y (smN n x)) = true then o else o ++ [smN n x] := rfl
    have hse : dfN (x &&& (2 ^ n - 1)) 1 = smN n x := rfl
    rw [hse] at hb
    rw [he] at hl hl2 ⊢
    generalize smN n x = v at *
    have h55 : ∀ st, run L 55 [oA (o.map U), U v] st = some (B (decide (v ∈ o)), st) := fun st => by
      have := c55 true o (by omega) v st
      rw [← this]
      exact run_args (fn := ir55) rfl rfl st (by simp only [pubs, pub_o, pub_sl])
    have h56 := c56 ⟨[cutC a g zs m w, [U v]], oT (o.map U)⟩ 107 rfl [.ptr 1 0] (oA (o.map U)) o (by omega) (lenm_o U o) (fun i h => idx_o U o i h) (fun y => !agN y v) (fun y hy => c107 _ _ y v (h3 y hy) hsm)
    have happ := fun S => append_o (o.map U) (U v) S (by rw [List.length_map]; omega)
    have hr : binAV .rem none (u8 g) (.v (.int .u8 2)) = some (u8 (g % 2)) := rem8 g 2 (by omega)
    by_cases p1 : v = 0
    · subst p1
      rw [if_pos rfl]
      simp only [go_sem, reduceIte, Nat.reduceEqDiff, Nat.reduceAdd, Nat.reduceSub, Nat.reduceLeDiff, Nat.reduceLT, reduceCtorEq, Int.reduceLT, Int.reduceLE, Int.reduceEq, Int.reduceBEq, Int.reduceSub, Int.reduceAdd, Int.reduceMul, Int.reduceNeg, Int.reduceToNat, Nat.reduceMul, Nat.reduceBEq, index_rsl_if, setm, make_ints, condK_dec, wantK_dec, not_dec, and_dec, or_dec, seqK_ite, seqK_none, blockK_ite, blockK_none, opsK_ite, opsK_none, stepK_ite, stepK_none, bodyK_ite, bodyK_none, resK_ite, resK_none, leaveK_ite, leaveK_none, only_ite, only_none, bind_ite, gives_some, gives_none, gives_ite, then_normal, then_ret, then_exit, then_none, then_ite, Option.bind_none, Bool.not_eq_true', decide_eq_false_iff_not, Bool.and_eq_true, Bool.or_eq_true, Option.some.injEq, Int.not_lt, Int.not_le, lp38_0, hlt, Int.natCast_nonneg, hs, hz2, hw, hsh, hfu, ha, hb, Int.natCast_zero]
      refine ⟨(i + 1, o), by simp only [go_sem, reduceIte, Nat.reduceEqDiff, Nat.reduceAdd, Nat.reduceSub, Nat.reduceLeDiff, Nat.reduceLT, reduceCtorEq, Int.reduceLT, Int.reduceLE, Int.reduceEq, Int.reduceBEq, Int.reduceSub, Int.reduceAdd, Int.reduceMul, Int.reduceNeg, Int.reduceToNat, Nat.reduceMul, Nat.reduceBEq, ren1_locm, loc_tips, locT_eq, ren1_o, oAcc_snd, okRefsC, renCellsC] <;> rfl, ?_, ?_, fun x en s hq => ?_⟩
      · dsimp only; exact ⟨by omega, by omega, h3⟩
      · dsimp only; omega
      · exact hq
    · have q1 : ((v : Int) = 0) = False := eq_false (by omega)
      rw [if_neg p1] at hl hl2 ⊢
      by_cases p2 : v ∈ o
      · rw [if_pos p2]
        simp only [go_sem, reduceIte, Nat.reduceEqDiff, Nat.reduceAdd, Nat.reduceSub, Nat.reduceLeDiff, Nat.reduceLT, reduceCtorEq, Int.reduceLT, Int.reduceLE, Int.reduceEq, Int.reduceBEq, Int.reduceSub, Int.reduceAdd, Int.reduceMul, Int.reduceNeg, Int.reduceToNat, Nat.reduceMul, Nat.reduceBEq, index_rsl_if, setm, make_ints, condK_dec, wantK_dec, not_dec, and_dec, or_dec, seqK_ite, seqK_none, blockK_ite, blockK_none, opsK_ite, opsK_none, stepK_ite, stepK_none, bodyK_ite, bodyK_none, resK_ite, resK_none, leaveK_ite, leaveK_none, only_ite, only_none, bind_ite, gives_some, gives_none, gives_ite, then_normal, then_ret, then_exit, then_none, then_ite, Option.bind_none, Bool.not_eq_true', decide_eq_false_iff_not, Bool.and_eq_true, Bool.or_eq_true, Option.some.injEq, Int.not_lt, Int.not_le, lp38_0, hlt, Int.natCast_nonneg, hs, hz2, hw, hsh, hfu, ha, hb, q1, h55, p2]
        refine ⟨(i + 1, o), by simp only [go_sem, reduceIte, Nat.reduceEqDiff, Nat.reduceAdd, Nat.reduceSub, Nat.reduceLeDiff, Nat.reduceLT, reduceCtorEq, Int.reduceLT, Int.reduceLE, Int.reduceEq, Int.reduceBEq, Int.reduceSub, Int.reduceAdd, Int.reduceMul, Int.reduceNeg, Int.reduceToNat, Nat.reduceMul, Nat.reduceBEq, ren1_locm, loc_tips, locT_eq, ren1_o, oAcc_snd, okRefsC, renCellsC] <;> rfl, ?_, ?_, fun x en s hq => ?_⟩
        · dsimp only; exact ⟨by omega, by omega, h3⟩
        · dsimp only; omega
        · exact hq
      · rw [if_neg p2] at hl hl2 ⊢
        by_cases p3 : g % 2 = 1
        · have q3 : (((g % 2 : Nat) : Int) = 1) = True := eq_true (by omega)
          cases p4 : o.any (fun y => !agN y v) with
          | true =>
            rw [p4] at h56 hl hl2
            rw [if_pos ⟨p3, rfl⟩] at hl hl2 ⊢
            simp only [go_sem, reduceIte, Nat.reduceEqDiff, Nat.reduceAdd, Nat.reduceSub, Nat.reduceLeDiff, Nat.reduceLT, reduceCtorEq, Int.reduceLT, Int.reduceLE, Int.reduceEq, Int.reduceBEq, Int.reduceSub, Int.reduceAdd, Int.reduceMul, Int.reduceNeg, Int.reduceToNat, Nat.reduceMul, Nat.reduceBEq, index_rsl_if, setm, make_ints, condK_dec, wantK_dec, not_dec, and_dec, or_dec, seqK_ite, seqK_none, blockK_ite, blockK_none, opsK_ite, opsK_none, stepK_ite, stepK_none, bodyK_ite, bodyK_none, resK_ite, resK_none, leaveK_ite, leaveK_none, only_ite, only_none, bind_ite, gives_some, gives_none, gives_ite, then_normal, then_ret, then_exit, then_none, then_ite, Option.bind_none, Bool.not_eq_true', decide_eq_false_iff_not, Bool.and_eq_true, Bool.or_eq_true, Option.some.injEq, Int.not_lt, Int.not_le, lp38_0, hlt, Int.natCast_nonneg, hs, hz2, hg1, hw, hsh, hfu, ha, hb, q1, h55, p2, hr, q3, h56, Int.cast_ofNat_Int]
            refine ⟨(i + 1, o), by simp only [go_sem, reduceIte, Nat.reduceEqDiff, Nat.reduceAdd, Nat.reduceSub, Nat.reduceLeDiff, Nat.reduceLT, reduceCtorEq, Int.reduceLT, Int.reduceLE, Int.reduceEq, Int.reduceBEq, Int.reduceSub, Int.reduceAdd, Int.reduceMul, Int.reduceNeg, Int.reduceToNat, Nat.reduceMul, Nat.reduceBEq, ren1_locm, loc_tips, locT_eq, ren1_o, oAcc_snd, okRefsC, renCellsC] <;> rfl, ?_, ?_, fun x en s hq => ?_⟩
            · dsimp only; exact ⟨by omega, by omega, h3⟩
            · dsimp only; omega
            · exact hq
          | false =>
            rw [p4] at h56 hl hl2
            rw [if_neg (by simp)] at hl hl2 ⊢
            simp only [go_sem, reduceIte, Nat.reduceEqDiff, Nat.reduceAdd, Nat.reduceSub, Nat.reduceLeDiff, Nat.reduceLT, reduceCtorEq, Int.reduceLT, Int.reduceLE, Int.reduceEq, Int.reduceBEq, Int.reduceSub, Int.reduceAdd, Int.reduceMul, Int.reduceNeg, Int.reduceToNat, Nat.reduceMul, Nat.reduceBEq, index_rsl_if, setm, make_ints, condK_dec, wantK_dec, not_dec, and_dec, or_dec, seqK_ite, seqK_none, blockK_ite, blockK_none, opsK_ite, opsK_none, stepK_ite, stepK_none, bodyK_ite, bodyK_none, resK_ite, resK_none, leaveK_ite, leaveK_none, only_ite, only_none, bind_ite, gives_some, gives_none, gives_ite, then_normal, then_ret, then_exit, then_none, then_ite, Option.bind_none, Bool.not_eq_true', decide_eq_false_iff_not, Bool.and_eq_true, Bool.or_eq_true, Option.some.injEq, Int.not_lt, Int.not_le, lp38_0, hlt, Int.natCast_nonneg, hs, hz2, hg1, hw, hsh, hfu, ha, hb, q1, h55, p2, hr, q3, h56, happ]
            refine ⟨(i + 1, o ++ [v]), by simp only [go_sem, reduceIte, Nat.reduceEqDiff, Nat.reduceAdd, Nat.reduceSub, Nat.reduceLeDiff, Nat.reduceLT, reduceCtorEq, Int.reduceLT, Int.reduceLE, Int.reduceEq, Int.reduceBEq, Int.reduceSub, Int.reduceAdd, Int.reduceMul, Int.reduceNeg, Int.reduceToNat, Nat.reduceMul, Nat.reduceBEq, ren1_locm, loc_tips, locT_eq, ren1_o, oAcc_snd, okRefsC, renCellsC, List.map_append] <;> rfl, ?_, ?_, fun x en s hq => ?_⟩
            · dsimp only; exact ⟨by omega, by omega, hl2⟩
            · dsimp only; omega
            · exact hq
        · have q3 : (((g % 2 : Nat) : Int) = 1) = False := eq_false (by omega)
          rw [if_neg (fun hh => p3 hh.1)] at hl hl2 ⊢
          simp only [go_sem, reduceIte, Nat.reduceEqDiff, Nat.reduceAdd, Nat.reduceSub, Nat.reduceLeDiff, Nat.reduceLT, reduceCtorEq, Int.reduceLT, Int.reduceLE, Int.reduceEq, Int.reduceBEq, Int.reduceSub, Int.reduceAdd, Int.reduceMul, Int.reduceNeg, Int.reduceToNat, Nat.reduceMul, Nat.reduceBEq, index_rsl_if, setm, make_ints, condK_dec, wantK_dec, not_dec, and_dec, or_dec, seqK_ite, seqK_none, blockK_ite, blockK_none, opsK_ite, opsK_none, stepK_ite, stepK_none, bodyK_ite, bodyK_none, resK_ite, resK_none, leaveK_ite, leaveK_none, only_ite, only_none, bind_ite, gives_some, gives_none, gives_ite, then_normal, then_ret, then_exit, then_none, then_ite, Option.bind_none, Bool.not_eq_true', decide_eq_false_iff_not, Bool.and_eq_true, Bool.or_eq_true, Option.some.injEq, Int.not_lt, Int.not_le, lp38_0, hlt, Int.natCast_nonneg, hs, hz2, hg1, hw, hsh, hfu, ha, hb, q1, h55, p2, hr, q3, happ]
          refine ⟨(i + 1, o ++ [v]), by simp only [go_sem, reduceIte, Nat.reduceEqDiff, Nat.reduceAdd, Nat.reduceSub, Nat.reduceLeDiff, Nat.reduceLT, reduceCtorEq, Int.reduceLT, Int.reduceLE, Int.reduceEq, Int.reduceBEq, Int.reduceSub, Int.reduceAdd, Int.reduceMul, Int.reduceNeg, Int.reduceToNat, Nat.reduceMul, Nat.reduceBEq, ren1_locm, loc_tips, locT_eq, ren1_o, oAcc_snd, okRefsC, renCellsC, List.map_append] <;> rfl, ?_, ?_, fun x en s hq => ?_⟩
          · dsimp only; exact ⟨by omega, by omega, hl2⟩
          · dsimp only; omega
          · exact hq
  · have hd : (zs.take k).drop i = [] := List.drop_eq_nil_of_le (by rw [List.length_take]; omega)
    have hlt : ((i : Int) < (k : Int)) = False := eq_false (by omega)
    rw [hd]
    simp only [go_sem, reduceIte, Nat.reduceEqDiff, Nat.reduceAdd, Nat.reduceSub, Nat.reduceLeDiff, Nat.reduceLT, reduceCtorEq, Int.reduceLT, Int.reduceLE, Int.reduceEq, Int.reduceBEq, Int.reduceSub, Int.reduceAdd, Int.reduceMul, Int.reduceNeg, Int.reduceToNat, Nat.reduceMul, Nat.reduceBEq, index_rsl_if, setm, make_ints, condK_dec, wantK_dec, not_dec, and_dec, or_dec, seqK_ite, seqK_none, blockK_ite, blockK_none, opsK_ite, opsK_none, stepK_ite, stepK_none, bodyK_ite, bodyK_none, resK_ite, resK_none, leaveK_ite, leaveK_none, only_ite, only_none, bind_ite, gives_some, gives_none, gives_ite, then_normal, then_ret, then_exit, then_none, then_ite, Option.bind_none, Bool.not_eq_true', decide_eq_false_iff_not, Bool.and_eq_true, Bool.or_eq_true, Option.some.injEq, Int.not_lt, Int.not_le, lp38_0, hlt]
    trivial

attribute [local go_sem] okRef_o storable_o shaped_o cells_o fin_o pub_o shaped_t cells_t isAgg_t storable_t okRef_t pub_t

def cutAV (a g : Nat) (zs : List Nat) (m w : Nat) : AV := .agg (cutC a g zs m w)
theorem w64 (a : Nat) (h : a < 1000000) : IntKind.i64.wrap (a : Int) = a := by rw [wrap64] <;> omega
theorem pubsC (a g : Nat) (zs : List Nat) (m w : Nat) : pubs (cutC a g zs m w) = cutC a g zs m w := by
  have h : ∀ xs : List Nat, pubs (xs.map u8 ++ [u8 m, u16 w]) = xs.map u8 ++ [u8 m, u16 w] := by
    intro xs
    induction xs with
    | nil => rfl
    | cons x r ih => simp only [List.map_cons, List.cons_append, pubs, pub, ih]
  simp only [cutC, pubs, pub, h]
theorem storableC (a g : Nat) (zs : List Nat) (m w : Nat) : (cutC a g zs m w).all storable = true := by
  simp only [cutC, List.all_cons, List.all_append, List.all_map, storable, List.all_nil, Bool.and_true, Bool.true_and]
  rw [List.all_eq_true]; intro x _; rfl
theorem c38 (a g : Nat) (ha : a < 256) (zs : List Nat) (hz : zs.length = 13) (hzs : ∀ z ∈ zs, z < 256) (m w : Nat) (hm : m < 256) (M d : Nat) (hM : (M = 6 ∧ d = 5) ∨ (M = 7 ∧ d = 6) ∨ (M = 8 ∧ d = 7)) (st : St) :
    run L 38 [cutAV a g zs m w, J M] st = some (.tup [J (2 + a % d), sl 1 true ((madeS (2 + a % d) g zs (m % 14)).map U)], st) := by
  rw [run_pure (fn := ir38) rfl rfl]
  have h0 := cut0 a g zs m w
  have h15 := cut15 a g zs hz m w
  have hw := w64 a (by omega)
  have hwm := w64 m (by omega)
  have hd : 0 < d ∧ d < 8 := by omega
  have hmd : IntKind.i64.wrap ((M : Int) - 1) = (d : Int) := by
    rw [← w64 d (by omega)]; congr 1; omega
  have hr := remJ a d (by omega)
  have hlt := Nat.mod_lt a hd.1
  have hn : IntKind.i64.wrap (2 + ((a % d : Nat) : Int)) = ((2 + a % d : Nat) : Int) := by
    rw [← w64 (2 + a % d) (by omega)]; congr 1
  have hrm : binAV .rem none (J m) (I 14) = some (J (m % 14)) := remJ m 14 (by omega)
  have hk : m % 14 ≤ 13 := by omega
  have hl : (cutC a g zs m w).length = 17 := lenC a g zs hz m w
  have e : madeS (2 + a % d) g zs (m % 14) = (((zs.take (m % 14)).drop 0).foldl (mkS (2 + a % d) g) []) := rfl
  rw [e]
  generalize m % 14 = k at *
  generalize a % d = q at *
  have hsl : sliceaAV 13 1 false (.ptr 0 2) none (some (.v (.int .i64 (k : Int)))) none = some (.rsl 0 2 k 13 1 false) := by
    simp only [sliceaAV, natOr, natOf]
    simp; omega
  have hun : cutAV a g zs m w = .agg (cutC a g zs m w) := rfl
  simp only [ir38, hun, go_sem, reduceIte, Nat.reduceEqDiff, Nat.reduceAdd, Nat.reduceSub, Nat.reduceLeDiff, Nat.reduceLT, reduceCtorEq, Int.reduceLT, Int.reduceLE, Int.reduceEq, Int.reduceBEq, Int.reduceSub, Int.reduceAdd, Int.reduceMul, Int.reduceNeg, Int.reduceToNat, Nat.reduceMul, Nat.reduceBEq, okRefsC, renCellsC, pubsC, storableC, h0, h15, hw, hwm, hmd, hr, hn, hrm, hsl, hl]
  generalize hg : lim (headed pure (run L) true _ lp38_0 _ _) _ _ = o
  obtain ⟨x, en, s, rfl, h2⟩ : ∃ x en s, o = some (x, en, s) ∧ _ := by rw [← hg]; exact loop38 (2 + q) (by omega) a g zs hz hzs m w k hk 0 [] ⟨by omega, by simp, by simp⟩ _ _ (by simp only [go_sem, reduceIte, Nat.reduceEqDiff, Nat.reduceAdd, Nat.reduceSub, Nat.reduceLeDiff, Nat.reduceLT, reduceCtorEq, Int.reduceLT, Int.reduceLE, Int.reduceEq, Int.reduceBEq, Int.reduceSub, Int.reduceAdd, Int.reduceMul, Int.reduceNeg, Int.reduceToNat, Nat.reduceMul, Nat.reduceBEq, List.map_nil, ← o_start, oT_nil, okRefsC, renCellsC, Int.natCast_zero] <;> rfl)
  clear hg
  obtain ⟨rfl, h6, h7⟩ := h2
  simp only [go_sem, reduceIte, Nat.reduceEqDiff, Nat.reduceAdd, Nat.reduceSub, Nat.reduceLeDiff, Nat.reduceLT, reduceCtorEq, Int.reduceLT, Int.reduceLE, Int.reduceEq, Int.reduceBEq, Int.reduceSub, Int.reduceAdd, Int.reduceMul, Int.reduceNeg, Int.reduceToNat, Nat.reduceMul, Nat.reduceBEq, h6, h7]

/-! ### the divisions told by their sides -/
def flN (n w i s : Nat) : Nat := if w.testBit i = true then s ^^^ (2 ^ n - 1) else s
def toldL (n w : Nat) : Nat → List Nat → List Nat
  | _, [] => []
  | i, s :: r => flN n w i s :: toldL n w (i + 1) r
theorem flN_lt {n : Nat} (hn : n ≤ 8) (w i s : Nat) (h : s < 256) : flN n w i s < 256 := by
  have h1 : 2 ^ n ≤ 256 := Nat.pow_le_pow_right (n := 2) (by decide) hn
  have hp : 0 < 2 ^ n := Nat.two_pow_pos n
  unfold flN; split
  · exact Nat.xor_lt_two_pow (n := 8) h (by omega)
  · exact h
theorem xorU (a b : Nat) (ha : a < 256) (hb : b < 256) : binAV .xor none (U a) (U b) = some (U (a ^^^ b)) := by
  have h : (BitVec.ofInt 64 (a : Int) ^^^ BitVec.ofInt 64 (b : Int)).toNat = a ^^^ b := by
    rw [BitVec.toNat_xor]; simp [BitVec.ofInt_natCast, Nat.mod_eq_of_lt (show a < 2 ^ 64 by omega), Nat.mod_eq_of_lt (show b < 2 ^ 64 by omega)]
  show some (AV.v (.int .u64 (IntKind.u64.wrap ((BitVec.ofInt 64 (a : Int) ^^^ BitVec.ofInt 64 (b : Int)).toNat : Int)))) = _
  rw [h, wrapU _ (by have := Nat.xor_lt_two_pow (n := 8) ha hb; omega)]
theorem shr16 (w i : Nat) (h : i ≤ 16) : binAV .shr none (u16 w) (.v (.int .i64 (i : Int))) = some (u16 (w >>> i)) := by
  show (if (i : Int) < 0 then none else some (AV.v (.int .u16 (Int.fdiv (w : Int) (2 ^ min (Int.toNat (i : Int)) 16))))) = _
  rw [if_neg (by omega), Int.toNat_natCast, show min i 16 = i by omega]
  have e2 : ((2 : Int) ^ i) = ((2 ^ i : Nat) : Int) := by simp
  rw [e2, Int.fdiv_eq_ediv_of_nonneg _ (Int.natCast_nonneg _), Nat.shiftRight_eq_div_pow]
  simp
theorem and16_1 (n : Nat) : binAV .and none (u16 n) (.v (.int .u16 1)) = some (u16 (n % 2)) := by
  have h : (BitVec.ofInt 16 (n : Int) &&& BitVec.ofInt 16 1).toNat = n % 2 := by
    rw [BitVec.toNat_and]
    have : (BitVec.ofInt 16 1).toNat = 1 := by decide
    rw [this, Nat.and_one_is_mod, BitVec.ofInt_natCast, BitVec.toNat_ofNat]
    omega
  show some (AV.v (.int .u16 (IntKind.u16.wrap ((BitVec.ofInt 16 (n : Int) &&& BitVec.ofInt 16 1).toNat : Int)))) = _
  rw [h, wrap16 _ (by omega)]
theorem bit_one (m p : Nat) : ((((m >>> p) % 2 : Nat) : Int) = 1) = (m.testBit p = true) := by
  rw [Nat.testBit_eq_decide_div_mod_eq, Nat.shiftRight_eq_div_pow]
  generalize m / 2 ^ p = k
  have : k % 2 < 2 := Nat.mod_lt _ (by omega)
  rw [decide_eq_true_iff]
  exact propext (by omega)
abbrev tM (m : Nat) : AV := tAV (memb m)

set_option maxHeartbeats 1000000 in
theorem loop39 (n : Nat) (hn : n ≤ 8) (a g : Nat) (zs : List Nat) (hz : zs.length = 13) (m w : Nat) (nl : Bool) (ss : List Nat) (hss : ∀ s ∈ ss, s < 256) (hsl : ss.length ≤ 16) (i : Nat) (X : List Nat) (hok : i ≤ ss.length ∧ X.length ≤ i) (env : Env) (st : St)
    (hg : gcAV true 1 0 (canon env [1, 3, 7, 10, 11, 12]) st = ([(1, J n), (3, .ptr 0 0), (7, oA (X.map tM)), (10, sl 1 nl (ss.map U)), (11, J ss.length), (12, J i)], ⟨[cutC a g zs m w], oT (X.map tM)⟩)) :
    ∃ x_1 en s, lim (headed pure (run L) true [1, 3, 7, 10, 11, 12] lp39_0 1 0) env st = some (x_1, en, s) ∧ (x_1 = .exit 0 ∧ en.get 7 = oA ((X ++ toldL n w i (ss.drop i)).map tM)) := by
  refine loop_wp (α := Nat × List Nat) (fun ⟨i, X⟩ => ss.length - i) (fun ⟨i, X⟩ => i ≤ ss.length ∧ X.length ≤ i) (fun ⟨i, X⟩ => ([(1, J n), (3, .ptr 0 0), (7, oA (X.map tM)), (10, sl 1 nl (ss.map U)), (11, J ss.length), (12, J i)], ⟨[cutC a g zs m w], oT (X.map tM)⟩)) (fun ⟨i, X⟩ x_1 en s => x_1 = .exit 0 ∧ en.get 7 = oA ((X ++ toldL n w i (ss.drop i)).map tM)) (fun ⟨i, X⟩ hok => ?_) ⟨i, X⟩ hok env st hg
  simp only at hok
  obtain ⟨h1, h2⟩ := hok
  dsimp only at h1 h2 ⊢
  by_cases h : i < ss.length
  · have hs := succ64 i (by omega)
    have hx := idx_sl U nl ss i h
    have hlt : ((i : Int) < (ss.length : Int)) = True := eq_true (by omega)
    have hd : ss.drop i = ss[i] :: ss.drop (i + 1) := List.drop_eq_getElem_cons h
    have hb := hss ss[i] (List.getElem_mem h)
    rw [hd]
    generalize ss[i] = s at *
    have ht : toldL n w i (s :: ss.drop (i + 1)) = flN n w i s :: toldL n w (i + 1) (ss.drop (i + 1)) := rfl
    rw [ht]
    have h16 := cut16 a g zs hz m w
    have hsr := shr16 w i (by omega)
    have ha1 := and16_1 (w >>> i)
    have hsh := shlU n hn
    have hfu := fullU n hn
    have h2n : 2 ^ n ≤ 256 := Nat.pow_le_pow_right (n := 2) (by decide) hn
    have hp : 0 < 2 ^ n := Nat.two_pow_pos n
    have hxo := xorU s (2 ^ n - 1) hb (by omega)
    have hf := flN_lt hn w i s hb
    have happ := fun v S => append_o (X.map tM) (tM v) S (by rw [List.length_map]; omega)
    have e : flN n w i s = if w.testBit i = true then s ^^^ (2 ^ n - 1) else s := rfl
    by_cases p : w.testBit i = true
    · rw [if_pos p] at e
      rw [e] at hf ⊢
      have h40 := fun st => c40 (s ^^^ (2 ^ n - 1)) (by omega) st
      generalize s ^^^ (2 ^ n - 1) = v at *
      simp only [go_sem, reduceIte, Nat.reduceEqDiff, Nat.reduceAdd, Nat.reduceSub, Nat.reduceLeDiff, Nat.reduceLT, reduceCtorEq, Int.reduceLT, Int.reduceLE, Int.reduceEq, Int.reduceBEq, Int.reduceSub, Int.reduceAdd, Int.reduceMul, Int.reduceNeg, Int.reduceToNat, Nat.reduceMul, Nat.reduceBEq, index_rsl_if, setm, make_ints, condK_dec, wantK_dec, not_dec, and_dec, or_dec, seqK_ite, seqK_none, blockK_ite, blockK_none, opsK_ite, opsK_none, stepK_ite, stepK_none, bodyK_ite, bodyK_none, resK_ite, resK_none, leaveK_ite, leaveK_none, only_ite, only_none, bind_ite, gives_some, gives_none, gives_ite, then_normal, then_ret, then_exit, then_none, then_ite, Option.bind_none, Bool.not_eq_true', decide_eq_false_iff_not, Bool.and_eq_true, Bool.or_eq_true, Option.some.injEq, Int.not_lt, Int.not_le, lp39_0, hlt, Int.natCast_nonneg, hs, hx, h16, hsr, ha1, bit_one, p, hsh, hfu, hxo, h40, happ]
      refine ⟨(i + 1, X ++ [v]), by simp only [go_sem, reduceIte, Nat.reduceEqDiff, Nat.reduceAdd, Nat.reduceSub, Nat.reduceLeDiff, Nat.reduceLT, reduceCtorEq, Int.reduceLT, Int.reduceLE, Int.reduceEq, Int.reduceBEq, Int.reduceSub, Int.reduceAdd, Int.reduceMul, Int.reduceNeg, Int.reduceToNat, Nat.reduceMul, Nat.reduceBEq, ren1_locm, loc_tips, locT_eq, ren1_o, oAcc_snd, okRefsC, renCellsC, List.map_append] <;> rfl, ?_, ?_, fun x en s hq => ?_⟩
      · dsimp only; exact ⟨by omega, by rw [List.length_append, List.length_singleton]; omega⟩
      · dsimp only; omega
      · simp only [List.append_assoc, List.singleton_append] at hq; exact hq
    · rw [if_neg p] at e
      rw [e] at hf ⊢
      have h40 := fun st => c40 s (by omega) st
      simp only [go_sem, reduceIte, Nat.reduceEqDiff, Nat.reduceAdd, Nat.reduceSub, Nat.reduceLeDiff, Nat.reduceLT, reduceCtorEq, Int.reduceLT, Int.reduceLE, Int.reduceEq, Int.reduceBEq, Int.reduceSub, Int.reduceAdd, Int.reduceMul, Int.reduceNeg, Int.reduceToNat, Nat.reduceMul, Nat.reduceBEq, index_rsl_if, setm, make_ints, condK_dec, wantK_dec, not_dec, and_dec, or_dec, seqK_ite, seqK_none, blockK_ite, blockK_none, opsK_ite, opsK_none, stepK_ite, stepK_none, bodyK_ite, bodyK_none, resK_ite, resK_none, leaveK_ite, leaveK_none, only_ite, only_none, bind_ite, gives_some, gives_none, gives_ite, then_normal, then_ret, then_exit, then_none, then_ite, Option.bind_none, Bool.not_eq_true', decide_eq_false_iff_not, Bool.and_eq_true, Bool.or_eq_true, Option.some.injEq, Int.not_lt, Int.not_le, lp39_0, hlt, Int.natCast_nonneg, hs, hx, h16, hsr, ha1, bit_one, p, h40, happ]
      refine ⟨(i + 1, X ++ [s]), by simp only [go_sem, reduceIte, Nat.reduceEqDiff, Nat.reduceAdd, Nat.reduceSub, Nat.reduceLeDiff, Nat.reduceLT, reduceCtorEq, Int.reduceLT, Int.reduceLE, Int.reduceEq, Int.reduceBEq, Int.reduceSub, Int.reduceAdd, Int.reduceMul, Int.reduceNeg, Int.reduceToNat, Nat.reduceMul, Nat.reduceBEq, ren1_locm, loc_tips, locT_eq, ren1_o, oAcc_snd, okRefsC, renCellsC, List.map_append] <;> rfl, ?_, ?_, fun x en s hq => ?_⟩
      · dsimp only; exact ⟨by omega, by rw [List.length_append, List.length_singleton]; omega⟩
      · dsimp only; omega
      · simp only [List.append_assoc, List.singleton_append] at hq; exact hq
  · have hd : ss.drop i = [] := List.drop_eq_nil_of_le (by omega)
    have hlt : ((i : Int) < (ss.length : Int)) = False := eq_false (by omega)
    rw [hd]
    have e : toldL n w i [] = [] := rfl
    rw [e, List.append_nil]
    simp only [go_sem, reduceIte, Nat.reduceEqDiff, Nat.reduceAdd, Nat.reduceSub, Nat.reduceLeDiff, Nat.reduceLT, reduceCtorEq, Int.reduceLT, Int.reduceLE, Int.reduceEq, Int.reduceBEq, Int.reduceSub, Int.reduceAdd, Int.reduceMul, Int.reduceNeg, Int.reduceToNat, Nat.reduceMul, Nat.reduceBEq, index_rsl_if, setm, make_ints, condK_dec, wantK_dec, not_dec, and_dec, or_dec, seqK_ite, seqK_none, blockK_ite, blockK_none, opsK_ite, opsK_none, stepK_ite, stepK_none, bodyK_ite, bodyK_none, resK_ite, resK_none, leaveK_ite, leaveK_none, only_ite, only_none, bind_ite, gives_some, gives_none, gives_ite, then_normal, then_ret, then_exit, then_none, then_ite, Option.bind_none, Bool.not_eq_true', decide_eq_false_iff_not, Bool.and_eq_true, Bool.or_eq_true, Option.some.injEq, Int.not_lt, Int.not_le, lp39_0, hlt]

theorem c39 (n : Nat) (hn : n ≤ 8) (a g : Nat) (zs : List Nat) (hz : zs.length = 13) (m w : Nat) (nl : Bool) (ss : List Nat) (hss : ∀ s ∈ ss, s < 256) (hsl : ss.length ≤ 16) (st : St) :
    run L 39 [cutAV a g zs m w, J n, sl 1 nl (ss.map U)] st = some (sl 1 true ((toldL n w 0 ss).map tM), st) := by
  rw [run_pure (fn := ir39) rfl rfl]
  have hun : cutAV a g zs m w = .agg (cutC a g zs m w) := rfl
  have hl : (cutC a g zs m w).length = 17 := lenC a g zs hz m w
  simp only [ir39, hun, go_sem, reduceIte, Nat.reduceEqDiff, Nat.reduceAdd, Nat.reduceSub, Nat.reduceLeDiff, Nat.reduceLT, reduceCtorEq, Int.reduceLT, Int.reduceLE, Int.reduceEq, Int.reduceBEq, Int.reduceSub, Int.reduceAdd, Int.reduceMul, Int.reduceNeg, Int.reduceToNat, Nat.reduceMul, Nat.reduceBEq, okRefsC, renCellsC, pubsC, storableC, hl, List.length_map]
  generalize hg : lim (headed pure (run L) true _ lp39_0 _ _) _ _ = o
  obtain ⟨x, en, s, rfl, h2⟩ : ∃ x en s, o = some (x, en, s) ∧ _ := by rw [← hg]; exact loop39 n hn a g zs hz m w nl ss hss hsl 0 [] ⟨by omega, by simp⟩ _ _ (by simp only [go_sem, reduceIte, Nat.reduceEqDiff, Nat.reduceAdd, Nat.reduceSub, Nat.reduceLeDiff, Nat.reduceLT, reduceCtorEq, Int.reduceLT, Int.reduceLE, Int.reduceEq, Int.reduceBEq, Int.reduceSub, Int.reduceAdd, Int.reduceMul, Int.reduceNeg, Int.reduceToNat, Nat.reduceMul, Nat.reduceBEq, List.map_nil, ← o_start, oT_nil, okRefsC, renCellsC, Int.natCast_zero] <;> rfl)
  clear hg
  obtain ⟨rfl, h7⟩ := h2
  rw [List.drop_zero, List.nil_append] at h7
  simp only [go_sem, reduceIte, Nat.reduceEqDiff, Nat.reduceAdd, Nat.reduceSub, Nat.reduceLeDiff, Nat.reduceLT, reduceCtorEq, Int.reduceLT, Int.reduceLE, Int.reduceEq, Int.reduceBEq, Int.reduceSub, Int.reduceAdd, Int.reduceMul, Int.reduceNeg, Int.reduceToNat, Nat.reduceMul, Nat.reduceBEq, h7]

attribute [local go_sem] okRef_o storable_o shaped_o cells_o fin_o pub_o shaped_t cells_t isAgg_t storable_t okRef_t pub_t

theorem refsV_sl (n : Nat) (acc : List Nat) (z : Nat) (nl : Bool) (xs : List AV) : refsV n acc (sl z nl xs) = acc := by
  cases xs with
  | nil => cases nl <;> rfl
  | cons x r => rw [sl_ne (by simp)]; simp only [refsV]
theorem mapL_sl (n : Nat) (M : List Nat) (z : Nat) (nl : Bool) (xs : List AV) : mapL n M (sl z nl xs) = sl z nl xs := by
  cases xs with
  | nil => cases nl <;> rfl
  | cons x r => rw [sl_ne (by simp)]; simp only [mapL]
theorem refsL_kind (n : Nat) {β : Type} (f : β → Value) : ∀ (xs : List β) (acc : List Nat), refsL n acc (xs.map fun b => .v (f b)) = acc
  | [], acc => rfl
  | x :: r, acc => by simp only [List.map_cons, refsL, refsV, refsL_kind n f r]
theorem mapLs_kind (n : Nat) (M : List Nat) {β : Type} (f : β → Value) : ∀ (xs : List β), mapLs n M (xs.map fun b => .v (f b)) = xs.map fun b => .v (f b)
  | [] => rfl
  | x :: r => by simp only [List.map_cons, mapLs, mapL, mapLs_kind n M f r]
theorem refsL_8 (n : Nat) (xs : List Nat) (acc : List Nat) : refsL n acc (xs.map u8) = acc := refsL_kind n (fun (n : Nat) => Value.int .u8 (n : Int)) xs acc
theorem mapLs_8 (n : Nat) (M : List Nat) (xs : List Nat) : mapLs n M (xs.map u8) = xs.map u8 := mapLs_kind n M (fun (n : Nat) => Value.int .u8 (n : Int)) xs
theorem okRefs8 (n : Nat) (xs : List Nat) : okRefs n (xs.map u8) = true := okRefs_map u8 n (fun _ => rfl) xs
theorem renCells8 (n : Nat) (tips : List Nat) (acc : List (Nat × Nat)) (xs : List Nat) : renCells n tips acc (xs.map u8) = (xs.map u8, acc) := renCells_map u8 n tips (fun _ _ => rfl) xs acc
/-! ### sides that are opened -/
def smlN (n v : Nat) : Nat := if v.testBit 0 = true then v ^^^ (2 ^ n - 1) else v
def kA (ss : List Nat) : AV := if ss = [] then .v (.slice none 0 0) else .rsl 0 0 ss.length ss.length 1 true
def kS (ss : List Nat) : List (List AV) := if ss = [] then [] else [ss.map u8]
theorem kA_ne {X : List Nat} (h : X ≠ []) : kA X = .rsl 0 0 X.length X.length 1 true := by unfold kA; rw [if_neg h]
theorem kS_ne {X : List Nat} (h : X ≠ []) : kS X = [X.map u8] := by unfold kS; rw [if_neg h]
theorem kA_one (l : Nat) : kA [l] = .rsl 0 0 1 1 1 true := rfl
theorem kS_one (l : Nat) : kS [l] = [[u8 l]] := rfl
theorem kA_snoc (X : List Nat) (l : Nat) : kA (X ++ [l]) = .rsl 0 0 (X.length + 1) (X.length + 1) 1 true := by rw [kA_ne (by simp)]; simp
theorem kS_snoc (X : List Nat) (l : Nat) : kS (X ++ [l]) = [(X ++ [l]).map u8] := kS_ne (by simp)
theorem happ_nil (v : Nat) (S : List (List AV)) (T : List Nat) : appendmAV 1 true (.v (.slice none 0 0)) [E8 v] ⟨S, T⟩ = some (.rsl S.length 0 1 1 1 true, ⟨S ++ [[u8 v]], T⟩) := by
  simp [appendmAV, newM, maxGrow, flatAV, cells_agg]
theorem happ_at (b : List AV) (X : List Nat) (v : Nat) (T : List Nat) (h : 1 ≤ X.length) (h2 : X.length ≤ 1000) : appendmAV 1 true (.rsl 0 0 X.length X.length 1 true) [E8 v] ⟨[X.map u8, b], T⟩ = some (.rsl 2 0 (X.length + 1) (X.length + 1) 1 true, ⟨[[], b, (X ++ [v]).map u8], T⟩) := by
  have htk : (X.map u8).take X.length = X.map u8 := List.take_of_length_le (by simp)
  simp only [appendmAV, List.getElem?_cons_succ, List.getElem?_cons_zero, List.length_cons, List.length_nil, List.length_map, Nat.mul_one, htk]
  rw [if_pos ⟨trivial, trivial, Nat.le_refl _, by omega, by omega⟩, if_neg (by omega), if_pos ⟨trivial, by unfold maxGrow; omega, by omega⟩]
  simp [flatAV, cells_agg]
theorem groupE : ∀ (X : List Nat), group true 1 X.length (X.map u8) = X.map E8
  | [] => rfl
  | x :: r => by
    have ih := groupE r
    simp only [List.length_cons, List.map_cons, group, if_true, List.take_succ_cons, List.take_zero, List.drop_succ_cons, List.drop_zero, ih]
theorem pubs8 (X : List Nat) : pubs (X.map u8) = X.map u8 := pubs_map u8 (fun _ => rfl) X
theorem frz_nil (v : Nat) (st : St) : frzArgs (rslsOf [.v (.slice none 0 0), E8 v]) [.v (.slice none 0 0), E8 v] st = ([.v (.slice none 0 0), E8 v], st) := rfl
theorem frz_at {X : List Nat} (h : X ≠ []) (v : Nat) (b : List AV) (T : List Nat) : ∃ S, frzArgs (rslsOf [.rsl 0 0 X.length X.length 1 true, E8 v]) [.rsl 0 0 X.length X.length 1 true, E8 v] ⟨[X.map u8, b], T⟩ = ([sl 1 true (X.map E8), E8 v], ⟨S, T⟩) := by
  obtain ⟨x, r, rfl⟩ : ∃ x r, X = x :: r := by cases X with | nil => exact absurd rfl h | cons x r => exact ⟨x, r, rfl⟩
  have hg := groupE (x :: r)
  have hp := pubs8 (x :: r)
  have hsl : sl 1 true ((x :: r).map E8) = .lst .any 1 ((x :: r).map E8) := sl_ne (by simp)
  simp only [rslsOf, List.filterMap_cons, List.filterMap_nil, List.append_nil, frzArgs, List.map_cons, List.map_nil, frzA, frzL, List.getElem?_cons_zero]
  have e1 : frzV 0 (u8 x :: List.map u8 r) (.rsl 0 0 (x :: r).length (x :: r).length 1 true) = .lst .any 1 ((x :: r).map E8) := by
    have hg2 : group true 1 (x :: r).length (pubs (List.drop 0 (u8 x :: List.map u8 r))) = (x :: r).map E8 := by
      rw [List.drop_zero, show (u8 x :: List.map u8 r) = (x :: r).map u8 from rfl, hp, hg]
    simp only [frzV, hg2]
    simp
  have e2 : frzV 0 (u8 x :: List.map u8 r) (E8 v) = E8 v := by simp only [frzV, frzVs]
  rw [e1, e2]
  exact ⟨_, by rw [show sl 1 true (E8 x :: List.map E8 r) = _ from hsl]⟩
theorem plainR_v (x : Value) : plainR (.v x) = true := rfl

theorem ren1_t (n : Nat) (tips : List Nat) (l : List Int) (acc : List (Nat × Nat)) : ren1 n tips acc (tAV l) = (tAV l, acc) := by
  unfold tAV
  cases l with
  | nil => rfl
  | cons a r => rw [sl_ne (by simp)]; simp [ren1]
theorem loop70_0n (n : Nat) (l : List Int) (hlen : l.length < 1000) (hr : ∀ a ∈ l, 0 ≤ a ∧ a < (n : Int)) (ho : ∀ i (h : i + 1 < l.length), l[i] < l[i + 1]) (nl : Bool) (X : List Nat) (f : Int) (k : Nat) (i : Nat) (hok : i ≤ l.length) (env : Env) (st : St)
    (hg : gcAV true 0 0 (canon env [0, 6, 7, 9, 27, 28, 29, 36, 37, 38]) st = ([(0, J n), (6, .v (.int .u8 f)), (7, .v (.slice none 0 0)), (9, tAV l), (27, sl 1 nl (X.map tM)), (28, J X.length), (29, J k), (36, tAV l), (37, J l.length), (38, J i)], ⟨[], []⟩)) :
    ∃ x_1 en s, lim (headed pure (run L) true [0, 6, 7, 9, 27, 28, 29, 36, 37, 38] lp70_0 0 0) env st = some (x_1, en, s) ∧ (x_1 = .exit 3 ∧ s = ⟨[], []⟩ ∧ en.get 0 = J n ∧ en.get 6 = .v (.int .u8 f) ∧ en.get 7 = .v (.slice none 0 0) ∧ en.get 9 = tAV l ∧ en.get 27 = sl 1 nl (X.map tM) ∧ en.get 28 = J X.length ∧ en.get 29 = J k ∧ en.get 3000000 = .any) := by
  refine loop_wp (α := Nat) (fun i => l.length - i) (fun i => i ≤ l.length) (fun i => ([(0, J n), (6, .v (.int .u8 f)), (7, .v (.slice none 0 0)), (9, tAV l), (27, sl 1 nl (X.map tM)), (28, J X.length), (29, J k), (36, tAV l), (37, J l.length), (38, J i)], ⟨[], []⟩)) (fun i x_1 en s => x_1 = .exit 3 ∧ s = ⟨[], []⟩ ∧ en.get 0 = J n ∧ en.get 6 = .v (.int .u8 f) ∧ en.get 7 = .v (.slice none 0 0) ∧ en.get 9 = tAV l ∧ en.get 27 = sl 1 nl (X.map tM) ∧ en.get 28 = J X.length ∧ en.get 29 = J k ∧ en.get 3000000 = .any) (fun i hok => ?_) i hok env st hg
  by_cases h : i < l.length
  · have hs := succ64 i (by omega)
    have hx : indexSAV 1 (tAV l) (.v (.int .i64 (i : Int))) = some (.eptr (I l[i]) 0) := index_ints true l i h
    have hlt : ((i : Int) < (l.length : Int)) = True := eq_true (by omega)
    have hb := hr l[i] (List.getElem_mem h)
    have q1 : (l[i] < 0) = False := eq_false (by omega)
    have q2 : ((n : Int) ≤ l[i]) = False := eq_false (by omega)
    by_cases h0 : 0 < i
    · have q3 : ((0 : Int) < (i : Int)) = True := eq_true (by omega)
      have hm : IntKind.i64.wrap ((i : Int) - 1) = ((i - 1 : Nat) : Int) := by
        rw [← w64 (i - 1) (by omega)]; congr 1; omega
      have hx2 : indexSAV 1 (tAV l) (.v (.int .i64 ((i - 1 : Nat) : Int))) = some (.eptr (I (l[i - 1]'(by omega))) 0) := index_ints true l (i - 1) (by omega)
      have ho1 : l[i - 1]'(by omega) < l[i] := by
        have := ho (i - 1) (by omega)
        simp only [show i - 1 + 1 = i by omega] at this
        exact this
      generalize l[i - 1]'(by omega) = b at *
      have q4 : (l[i] ≤ b) = False := eq_false (by omega)
      generalize l[i] = a at *
      simp only [go_sem, reduceIte, Nat.reduceEqDiff, Nat.reduceAdd, Nat.reduceSub, Nat.reduceLeDiff, Nat.reduceLT, reduceCtorEq, Int.reduceLT, Int.reduceLE, Int.reduceEq, Int.reduceBEq, Int.reduceSub, Int.reduceAdd, Int.reduceMul, Int.reduceNeg, Int.reduceToNat, Nat.reduceMul, Nat.reduceBEq, index_rsl_if, setm, make_ints, condK_dec, wantK_dec, not_dec, and_dec, or_dec, seqK_ite, seqK_none, blockK_ite, blockK_none, opsK_ite, opsK_none, stepK_ite, stepK_none, bodyK_ite, bodyK_none, resK_ite, resK_none, leaveK_ite, leaveK_none, only_ite, only_none, bind_ite, gives_some, gives_none, gives_ite, then_normal, then_ret, then_exit, then_none, then_ite, Option.bind_none, Bool.not_eq_true', decide_eq_false_iff_not, Bool.and_eq_true, Bool.or_eq_true, Option.some.injEq, Int.not_lt, Int.not_le, lp70_0, hlt, hs, hx, q1, q2, q3, hm, hx2, q4]
      refine ⟨i + 1, by simp only [go_sem, reduceIte, Nat.reduceEqDiff, Nat.reduceAdd, Nat.reduceSub, Nat.reduceLeDiff, Nat.reduceLT, reduceCtorEq, Int.reduceLT, Int.reduceLE, Int.reduceEq, Int.reduceBEq, Int.reduceSub, Int.reduceAdd, Int.reduceMul, Int.reduceNeg, Int.reduceToNat, Nat.reduceMul, Nat.reduceBEq, ren1_locm, loc_tips, locT_eq, ren1_t] <;> rfl, ?_, ?_, fun x en s hq => ?_⟩
      · omega
      · omega
      · exact hq
    · have q3 : ((0 : Int) < (i : Int)) = False := eq_false (by omega)
      generalize l[i] = a at *
      simp only [go_sem, reduceIte, Nat.reduceEqDiff, Nat.reduceAdd, Nat.reduceSub, Nat.reduceLeDiff, Nat.reduceLT, reduceCtorEq, Int.reduceLT, Int.reduceLE, Int.reduceEq, Int.reduceBEq, Int.reduceSub, Int.reduceAdd, Int.reduceMul, Int.reduceNeg, Int.reduceToNat, Nat.reduceMul, Nat.reduceBEq, index_rsl_if, setm, make_ints, condK_dec, wantK_dec, not_dec, and_dec, or_dec, seqK_ite, seqK_none, blockK_ite, blockK_none, opsK_ite, opsK_none, stepK_ite, stepK_none, bodyK_ite, bodyK_none, resK_ite, resK_none, leaveK_ite, leaveK_none, only_ite, only_none, bind_ite, gives_some, gives_none, gives_ite, then_normal, then_ret, then_exit, then_none, then_ite, Option.bind_none, Bool.not_eq_true', decide_eq_false_iff_not, Bool.and_eq_true, Bool.or_eq_true, Option.some.injEq, Int.not_lt, Int.not_le, lp70_0, hlt, hs, hx, q1, q2, q3]
      refine ⟨i + 1, by simp only [go_sem, reduceIte, Nat.reduceEqDiff, Nat.reduceAdd, Nat.reduceSub, Nat.reduceLeDiff, Nat.reduceLT, reduceCtorEq, Int.reduceLT, Int.reduceLE, Int.reduceEq, Int.reduceBEq, Int.reduceSub, Int.reduceAdd, Int.reduceMul, Int.reduceNeg, Int.reduceToNat, Nat.reduceMul, Nat.reduceBEq, ren1_locm, loc_tips, locT_eq, ren1_t] <;> rfl, ?_, ?_, fun x en s hq => ?_⟩
      · omega
      · omega
      · exact hq
  · have hlt : ((i : Int) < (l.length : Int)) = False := eq_false (by omega)
    simp only [go_sem, reduceIte, Nat.reduceEqDiff, Nat.reduceAdd, Nat.reduceSub, Nat.reduceLeDiff, Nat.reduceLT, reduceCtorEq, Int.reduceLT, Int.reduceLE, Int.reduceEq, Int.reduceBEq, Int.reduceSub, Int.reduceAdd, Int.reduceMul, Int.reduceNeg, Int.reduceToNat, Nat.reduceMul, Nat.reduceBEq, index_rsl_if, setm, make_ints, condK_dec, wantK_dec, not_dec, and_dec, or_dec, seqK_ite, seqK_none, blockK_ite, blockK_none, opsK_ite, opsK_none, stepK_ite, stepK_none, bodyK_ite, bodyK_none, resK_ite, resK_none, leaveK_ite, leaveK_none, only_ite, only_none, bind_ite, gives_some, gives_none, gives_ite, then_normal, then_ret, then_exit, then_none, then_ite, Option.bind_none, Bool.not_eq_true', decide_eq_false_iff_not, Bool.and_eq_true, Bool.or_eq_true, Option.some.injEq, Int.not_lt, Int.not_le, lp70_0, hlt]

theorem loop70_0c (n : Nat) (l : List Int) (hlen : l.length < 1000) (hr : ∀ a ∈ l, 0 ≤ a ∧ a < (n : Int)) (ho : ∀ i (h : i + 1 < l.length), l[i] < l[i + 1]) (nl : Bool) (X : List Nat) (f : Int) (ss : List Nat) (k : Nat) (i : Nat) (hok : i ≤ l.length) (env : Env) (st : St)
    (hg : gcAV true 1 0 (canon env [0, 6, 7, 9, 27, 28, 29, 36, 37, 38]) st = ([(0, J n), (6, .v (.int .u8 f)), (7, .rsl 0 0 ss.length ss.length 1 true), (9, tAV l), (27, sl 1 nl (X.map tM)), (28, J X.length), (29, J k), (36, tAV l), (37, J l.length), (38, J i)], ⟨[ss.map u8], []⟩)) :
    ∃ x_1 en s, lim (headed pure (run L) true [0, 6, 7, 9, 27, 28, 29, 36, 37, 38] lp70_0 1 0) env st = some (x_1, en, s) ∧ (x_1 = .exit 3 ∧ s = ⟨[ss.map u8], []⟩ ∧ en.get 0 = J n ∧ en.get 6 = .v (.int .u8 f) ∧ en.get 7 = .rsl 0 0 ss.length ss.length 1 true ∧ en.get 9 = tAV l ∧ en.get 27 = sl 1 nl (X.map tM) ∧ en.get 28 = J X.length ∧ en.get 29 = J k ∧ en.get 3000000 = .any) := by
  refine loop_wp (α := Nat) (fun i => l.length - i) (fun i => i ≤ l.length) (fun i => ([(0, J n), (6, .v (.int .u8 f)), (7, .rsl 0 0 ss.length ss.length 1 true), (9, tAV l), (27, sl 1 nl (X.map tM)), (28, J X.length), (29, J k), (36, tAV l), (37, J l.length), (38, J i)], ⟨[ss.map u8], []⟩)) (fun i x_1 en s => x_1 = .exit 3 ∧ s = ⟨[ss.map u8], []⟩ ∧ en.get 0 = J n ∧ en.get 6 = .v (.int .u8 f) ∧ en.get 7 = .rsl 0 0 ss.length ss.length 1 true ∧ en.get 9 = tAV l ∧ en.get 27 = sl 1 nl (X.map tM) ∧ en.get 28 = J X.length ∧ en.get 29 = J k ∧ en.get 3000000 = .any) (fun i hok => ?_) i hok env st hg
  by_cases h : i < l.length
  · have hs := succ64 i (by omega)
    have hx : indexSAV 1 (tAV l) (.v (.int .i64 (i : Int))) = some (.eptr (I l[i]) 0) := index_ints true l i h
    have hlt : ((i : Int) < (l.length : Int)) = True := eq_true (by omega)
    have hb := hr l[i] (List.getElem_mem h)
    have q1 : (l[i] < 0) = False := eq_false (by omega)
    have q2 : ((n : Int) ≤ l[i]) = False := eq_false (by omega)
    by_cases h0 : 0 < i
    · have q3 : ((0 : Int) < (i : Int)) = True := eq_true (by omega)
      have hm : IntKind.i64.wrap ((i : Int) - 1) = ((i - 1 : Nat) : Int) := by
        rw [← w64 (i - 1) (by omega)]; congr 1; omega
      have hx2 : indexSAV 1 (tAV l) (.v (.int .i64 ((i - 1 : Nat) : Int))) = some (.eptr (I (l[i - 1]'(by omega))) 0) := index_ints true l (i - 1) (by omega)
      have ho1 : l[i - 1]'(by omega) < l[i] := by
        have := ho (i - 1) (by omega)
        simp only [show i - 1 + 1 = i by omega] at this
        exact this
      generalize l[i - 1]'(by omega) = b at *
      have q4 : (l[i] ≤ b) = False := eq_false (by omega)
      generalize l[i] = a at *
      simp only [go_sem, reduceIte, Nat.reduceEqDiff, Nat.reduceAdd, Nat.reduceSub, Nat.reduceLeDiff, Nat.reduceLT, reduceCtorEq, Int.reduceLT, Int.reduceLE, Int.reduceEq, Int.reduceBEq, Int.reduceSub, Int.reduceAdd, Int.reduceMul, Int.reduceNeg, Int.reduceToNat, Nat.reduceMul, Nat.reduceBEq, index_rsl_if, setm, make_ints, condK_dec, wantK_dec, not_dec, and_dec, or_dec, seqK_ite, seqK_none, blockK_ite, blockK_none, opsK_ite, opsK_none, stepK_ite, stepK_none, bodyK_ite, bodyK_none, resK_ite, resK_none, leaveK_ite, leaveK_none, only_ite, only_none, bind_ite, gives_some, gives_none, gives_ite, then_normal, then_ret, then_exit, then_none, then_ite, Option.bind_none, Bool.not_eq_true', decide_eq_false_iff_not, Bool.and_eq_true, Bool.or_eq_true, Option.some.injEq, Int.not_lt, Int.not_le, lp70_0, hlt, hs, hx, q1, q2, q3, hm, hx2, q4]
      refine ⟨i + 1, by simp only [go_sem, reduceIte, Nat.reduceEqDiff, Nat.reduceAdd, Nat.reduceSub, Nat.reduceLeDiff, Nat.reduceLT, reduceCtorEq, Int.reduceLT, Int.reduceLE, Int.reduceEq, Int.reduceBEq, Int.reduceSub, Int.reduceAdd, Int.reduceMul, Int.reduceNeg, Int.reduceToNat, Nat.reduceMul, Nat.reduceBEq, ren1_locm, loc_tips, locT_eq, okRefs8, renCells8, ren1_t] <;> rfl, ?_, ?_, fun x en s hq => ?_⟩
      · omega
      · omega
      · exact hq
    · have q3 : ((0 : Int) < (i : Int)) = False := eq_false (by omega)
      generalize l[i] = a at *
      simp only [go_sem, reduceIte, Nat.reduceEqDiff, Nat.reduceAdd, Nat.reduceSub, Nat.reduceLeDiff, Nat.reduceLT, reduceCtorEq, Int.reduceLT, Int.reduceLE, Int.reduceEq, Int.reduceBEq, Int.reduceSub, Int.reduceAdd, Int.reduceMul, Int.reduceNeg, Int.reduceToNat, Nat.reduceMul, Nat.reduceBEq, index_rsl_if, setm, make_ints, condK_dec, wantK_dec, not_dec, and_dec, or_dec, seqK_ite, seqK_none, blockK_ite, blockK_none, opsK_ite, opsK_none, stepK_ite, stepK_none, bodyK_ite, bodyK_none, resK_ite, resK_none, leaveK_ite, leaveK_none, only_ite, only_none, bind_ite, gives_some, gives_none, gives_ite, then_normal, then_ret, then_exit, then_none, then_ite, Option.bind_none, Bool.not_eq_true', decide_eq_false_iff_not, Bool.and_eq_true, Bool.or_eq_true, Option.some.injEq, Int.not_lt, Int.not_le, lp70_0, hlt, hs, hx, q1, q2, q3]
      refine ⟨i + 1, by simp only [go_sem, reduceIte, Nat.reduceEqDiff, Nat.reduceAdd, Nat.reduceSub, Nat.reduceLeDiff, Nat.reduceLT, reduceCtorEq, Int.reduceLT, Int.reduceLE, Int.reduceEq, Int.reduceBEq, Int.reduceSub, Int.reduceAdd, Int.reduceMul, Int.reduceNeg, Int.reduceToNat, Nat.reduceMul, Nat.reduceBEq, ren1_locm, loc_tips, locT_eq, okRefs8, renCells8, ren1_t] <;> rfl, ?_, ?_, fun x en s hq => ?_⟩
      · omega
      · omega
      · exact hq
  · have hlt : ((i : Int) < (l.length : Int)) = False := eq_false (by omega)
    simp only [go_sem, reduceIte, Nat.reduceEqDiff, Nat.reduceAdd, Nat.reduceSub, Nat.reduceLeDiff, Nat.reduceLT, reduceCtorEq, Int.reduceLT, Int.reduceLE, Int.reduceEq, Int.reduceBEq, Int.reduceSub, Int.reduceAdd, Int.reduceMul, Int.reduceNeg, Int.reduceToNat, Nat.reduceMul, Nat.reduceBEq, index_rsl_if, setm, make_ints, condK_dec, wantK_dec, not_dec, and_dec, or_dec, seqK_ite, seqK_none, blockK_ite, blockK_none, opsK_ite, opsK_none, stepK_ite, stepK_none, bodyK_ite, bodyK_none, resK_ite, resK_none, leaveK_ite, leaveK_none, only_ite, only_none, bind_ite, gives_some, gives_none, gives_ite, then_normal, then_ret, then_exit, then_none, then_ite, Option.bind_none, Bool.not_eq_true', decide_eq_false_iff_not, Bool.and_eq_true, Bool.or_eq_true, Option.some.injEq, Int.not_lt, Int.not_le, lp70_0, hlt]

attribute [local go_sem] okRef_o storable_o shaped_o cells_o fin_o pub_o shaped_t cells_t isAgg_t storable_t okRef_t pub_t

theorem tb_lt {n v : Nat} (hv : v < 2 ^ n) (i : Nat) (h : n ≤ i) : v.testBit i = false := Nat.testBit_lt_two_pow (Nat.lt_of_lt_of_le hv (Nat.pow_le_pow_right (by decide) h))
theorem full_bit (n i : Nat) : (2 ^ n - 1).testBit i = decide (i < n) := by
  rw [show 2 ^ n - 1 = 2 ^ n - (0 + 1) from rfl, Nat.testBit_two_pow_sub_succ (Nat.two_pow_pos n)]; simp
theorem smlN_lt {n v : Nat} (hv : v < 2 ^ n) : smlN n v < 2 ^ n := by
  have hp : 0 < 2 ^ n := Nat.two_pow_pos n
  unfold smlN; split
  · exact Nat.xor_lt_two_pow hv (by omega)
  · exact hv
theorem smlN_ne {n v : Nat} (h0 : v ≠ 0) (hf : v ≠ 2 ^ n - 1) : smlN n v ≠ 0 := by
  unfold smlN; split
  · intro h
    apply hf
    apply Nat.eq_of_testBit_eq; intro i
    have := congrArg (fun x => x.testBit i) h
    simp only [Nat.testBit_xor, Nat.zero_testBit] at this
    cases hv : v.testBit i <;> cases hq : (2 ^ n - 1).testBit i <;> simp_all
  · exact h0
theorem memb_mem {m : Nat} (hm : m < 512) (a : Int) : a ∈ memb m ↔ ∃ i : Nat, a = i ∧ m.testBit i = true := by
  unfold memb
  rw [List.mem_map]
  constructor
  · rintro ⟨i, hi, rfl⟩
    rw [List.mem_filter] at hi
    exact ⟨i, rfl, hi.2⟩
  · rintro ⟨i, rfl, h⟩
    refine ⟨i, List.mem_filter.2 ⟨List.mem_range.2 ?_, h⟩, rfl⟩
    apply Nat.lt_of_not_le; intro h9
    rw [Nat.testBit_lt_two_pow (Nat.lt_of_lt_of_le hm (Nat.pow_le_pow_right (n := 2) (by decide) h9))] at h
    cases h
theorem memb_range {n v : Nat} (hn : n ≤ 8) (hv : v < 2 ^ n) : ∀ a ∈ memb v, 0 ≤ a ∧ a < (n : Int) := by
  intro a ha
  have h2n : 2 ^ n ≤ 256 := Nat.pow_le_pow_right (n := 2) (by decide) hn
  obtain ⟨i, rfl, hi⟩ := (memb_mem (by omega) a).1 ha
  have : i < n := by
    apply Nat.lt_of_not_le; intro h9
    rw [tb_lt hv i h9] at hi; cases hi
  omega
theorem memb_asc (m : Nat) : (memb m).Pairwise (· < ·) := by
  unfold memb
  rw [List.pairwise_map]
  exact ((List.pairwise_lt_range (n := 9)).sublist List.filter_sublist).imp (fun h => by omega)
theorem memb_step2 (m : Nat) (i : Nat) (h : i + 1 < (memb m).length) : (memb m)[i] < (memb m)[i + 1] := List.pairwise_iff_getElem.1 (memb_asc m) i (i + 1) (by omega) h (by omega)
theorem memb_pos {m : Nat} (hm : m < 512) (h : m ≠ 0) : (memb m).length ≠ 0 := by
  rw [memb_step m hm h]; simp
theorem xor8 (a b : Nat) (ha : a < 256) (hb : b < 256) : binAV .xor none (u8 a) (u8 b) = some (u8 (a ^^^ b)) := by
  have h : (BitVec.ofInt 8 (a : Int) ^^^ BitVec.ofInt 8 (b : Int)).toNat = a ^^^ b := by
    rw [BitVec.toNat_xor]; simp [BitVec.ofInt_natCast, Nat.mod_eq_of_lt ha, Nat.mod_eq_of_lt hb]
  show some (AV.v (.int .u8 (IntKind.u8.wrap ((BitVec.ofInt 8 (a : Int) ^^^ BitVec.ofInt 8 (b : Int)).toNat : Int)))) = _
  rw [h, wrap8 _ (Nat.xor_lt_two_pow (n := 8) ha hb)]

set_option maxHeartbeats 2000000 in
theorem loop70_1 (n : Nat) (hn : n ≤ 8) (nl : Bool) (X : List Nat) (hX : ∀ v ∈ X, v < 2 ^ n ∧ v ≠ 0 ∧ v ≠ 2 ^ n - 1) (hnd : (X.map (smlN n)).Nodup) (hl : X.length ≤ 13) (i : Nat) (ss : List Nat) (hok : i ≤ X.length ∧ ss = (X.take i).map (smlN n)) (env : Env) (st : St)
    (hg : gcAV true 0 0 (canon env [0, 6, 7, 27, 28, 29, 3000000]) st = ([(0, J n), (6, u8 (2 ^ n - 1)), (7, kA ss), (27, sl 1 nl (X.map tM)), (28, J X.length), (29, J i), (3000000, .any)], ⟨kS ss, []⟩)) :
    ∃ x_1 en s, lim (headed pure (run L) true [0, 6, 7, 27, 28, 29, 3000000] lp70_1 0 0) env st = some (x_1, en, s) ∧ (x_1 = .exit 1 ∧ en.get 7 = kA (X.map (smlN n)) ∧ s = ⟨kS (X.map (smlN n)), []⟩) := by
  refine loop_wp (α := Nat × List Nat) (fun ⟨i, ss⟩ => X.length - i) (fun ⟨i, ss⟩ => i ≤ X.length ∧ ss = (X.take i).map (smlN n)) (fun ⟨i, ss⟩ => ([(0, J n), (6, u8 (2 ^ n - 1)), (7, kA ss), (27, sl 1 nl (X.map tM)), (28, J X.length), (29, J i), (3000000, .any)], ⟨kS ss, []⟩)) (fun ⟨i, ss⟩ x_1 en s => x_1 = .exit 1 ∧ en.get 7 = kA (X.map (smlN n)) ∧ s = ⟨kS (X.map (smlN n)), []⟩) (fun ⟨i, ss⟩ hok => ?_) ⟨i, ss⟩ hok env st hg
  simp only at hok
  obtain ⟨h1, h2⟩ := hok
  dsimp only at h1 h2 ⊢
  by_cases h : i < X.length
  · have hs := succ64 i (by omega)
    have hx := idx_sl tM nl X i h
    have hlt : ((i : Int) < (X.length : Int)) = True := eq_true (by omega)
    have hv := hX X[i] (List.getElem_mem h)
    have hT : (X.take (i + 1)).map (smlN n) = ss ++ [smlN n X[i]] := by
      rw [h2, List.take_succ, List.getElem?_eq_getElem h, List.map_append]; rfl
    have hln : ss.length = i := by rw [h2, List.length_map, List.length_take]; omega
    have hni : smlN n X[i] ∉ ss := by
      have hnd2 : ((X.take (i + 1)).map (smlN n)).Nodup := hnd.sublist ((List.take_sublist _ _).map _)
      rw [hT, List.nodup_append] at hnd2
      intro hm
      exact hnd2.2.2 _ hm _ (List.mem_singleton.2 rfl) rfl
    clear h2
    generalize X[i] = v at *
    have h2n : 2 ^ n ≤ 256 := Nat.pow_le_pow_right (n := 2) (by decide) hn
    have hp : 0 < 2 ^ n := Nat.two_pow_pos n
    have hll : lenAV (tM v) = some (J (memb v).length) := lenm_sl I true (memb v)
    have hl0 : (((memb v).length : Int) = 0) = False := eq_false (by have := memb_pos (m := v) (by omega) hv.2.1; omega)
    have hml := memb_len v
    have hr := memb_range hn hv.1
    have ho := memb_step2 v
    have h105 := fun st => c105 v (by omega) st
    have h106 : ∀ st, run L 106 [E8 v, I 0] st = some (B (v.testBit 0), st) := fun st => c106 v (by omega) st
    have hxo := xor8 v (2 ^ n - 1) (by omega) (by omega)
    have hsl := smlN_lt hv.1
    have hsn := smlN_ne hv.2.1 hv.2.2
    have hsd : smlN n v = if v.testBit 0 = true then v ^^^ (2 ^ n - 1) else v := rfl
    have h122 := fun st => c122 true ss (by omega) (smlN n v) st
    rw [decide_eq_false hni] at h122
    by_cases he : ss = []
    · subst he
      have eA : kA [] = .v (.slice none 0 0) := rfl
      have eS : kS [] = [] := rfl
      rw [eA, eS]
      rw [show sl 1 true (([] : List Nat).map E8) = AV.v (.slice none 0 0) from rfl] at h122
      simp only [go_sem, reduceIte, Nat.reduceEqDiff, Nat.reduceAdd, Nat.reduceSub, Nat.reduceLeDiff, Nat.reduceLT, reduceCtorEq, Int.reduceLT, Int.reduceLE, Int.reduceEq, Int.reduceBEq, Int.reduceSub, Int.reduceAdd, Int.reduceMul, Int.reduceNeg, Int.reduceToNat, Nat.reduceMul, Nat.reduceBEq, index_rsl_if, setm, make_ints, condK_dec, wantK_dec, not_dec, and_dec, or_dec, seqK_ite, seqK_none, blockK_ite, blockK_none, opsK_ite, opsK_none, stepK_ite, stepK_none, bodyK_ite, bodyK_none, resK_ite, resK_none, leaveK_ite, leaveK_none, only_ite, only_none, bind_ite, gives_some, gives_none, gives_ite, then_normal, then_ret, then_exit, then_none, then_ite, Option.bind_none, Bool.not_eq_true', decide_eq_false_iff_not, Bool.and_eq_true, Bool.or_eq_true, Option.some.injEq, Int.not_lt, Int.not_le, lp70_1, hlt, hx, hll, hl0]
      generalize hg : lim (headed pure (run L) true _ lp70_0 _ _) _ _ = o
      obtain ⟨x, en, s, rfl, h2⟩ : ∃ x en s, o = some (x, en, s) ∧ _ := by rw [← hg]; exact loop70_0n n (memb v) (by omega) hr ho nl X ((2 ^ n - 1 : Nat) : Int) i 0 (by omega) _ _ (by simp only [go_sem, reduceIte, Nat.reduceEqDiff, Nat.reduceAdd, Nat.reduceSub, Nat.reduceLeDiff, Nat.reduceLT, reduceCtorEq, Int.reduceLT, Int.reduceLE, Int.reduceEq, Int.reduceBEq, Int.reduceSub, Int.reduceAdd, Int.reduceMul, Int.reduceNeg, Int.reduceToNat, Nat.reduceMul, Nat.reduceBEq, Int.natCast_zero, ren1_t] <;> rfl)
      clear hg
      obtain ⟨rfl, rfl, e0, e6, e7, e9, e27, e28, e29, e30⟩ := h2
      have hfr := fun st => frz_nil (smlN n v) st
      have happ := happ_nil (smlN n v) [[u8 (smlN n v)]] []
      cases hb : v.testBit 0 with
      | true =>
        rw [hb] at h106
        rw [hb, if_pos rfl] at hsd
        rw [← hsd] at hxo
        generalize smlN n v = w at *
        have hz : ((w : Int) = 0) = False := eq_false (by omega)
        simp only [go_sem, reduceIte, Nat.reduceEqDiff, Nat.reduceAdd, Nat.reduceSub, Nat.reduceLeDiff, Nat.reduceLT, reduceCtorEq, Int.reduceLT, Int.reduceLE, Int.reduceEq, Int.reduceBEq, Int.reduceSub, Int.reduceAdd, Int.reduceMul, Int.reduceNeg, Int.reduceToNat, Nat.reduceMul, Nat.reduceBEq, index_rsl_if, setm, make_ints, condK_dec, wantK_dec, not_dec, and_dec, or_dec, seqK_ite, seqK_none, blockK_ite, blockK_none, opsK_ite, opsK_none, stepK_ite, stepK_none, bodyK_ite, bodyK_none, resK_ite, resK_none, leaveK_ite, leaveK_none, only_ite, only_none, bind_ite, gives_some, gives_none, gives_ite, then_normal, then_ret, then_exit, then_none, then_ite, Option.bind_none, Bool.not_eq_true', decide_eq_false_iff_not, Bool.and_eq_true, Bool.or_eq_true, Option.some.injEq, Int.not_lt, Int.not_le, lp70_1, e0, e6, e7, e9, e27, e28, e29, h105, h106, hxo, hz, hfr, h122, plainR_v, happ, hs]
        refine ⟨(i + 1, [w]), by simp only [go_sem, reduceIte, Nat.reduceEqDiff, Nat.reduceAdd, Nat.reduceSub, Nat.reduceLeDiff, Nat.reduceLT, reduceCtorEq, Int.reduceLT, Int.reduceLE, Int.reduceEq, Int.reduceBEq, Int.reduceSub, Int.reduceAdd, Int.reduceMul, Int.reduceNeg, Int.reduceToNat, Nat.reduceMul, Nat.reduceBEq, ren1_locm, loc_tips, locT_eq, e0, e6, e7, e27, e28, e29, e30, kA_one, kS_one, compact, compactW, refsEnv, refsV, refsL, refsStore, refsAt, mapEnv, mapL, mapLs, newName, posOf, mapStore, pickStore, namesOk, refsV_sl, mapL_sl, List.contains_nil, List.contains_cons, Option.getD_some, hasKey] <;> rfl, ?_, ?_, fun x en s hq => ?_⟩
        · dsimp only; exact ⟨by omega, by rw [hT]; rfl⟩
        · dsimp only; omega
        · exact hq
      | false =>
        rw [hb] at h106
        rw [hb, if_neg (by simp)] at hsd
        generalize smlN n v = w at *
        subst hsd
        have hz : ((w : Int) = 0) = False := eq_false (by omega)
        simp only [go_sem, reduceIte, Nat.reduceEqDiff, Nat.reduceAdd, Nat.reduceSub, Nat.reduceLeDiff, Nat.reduceLT, reduceCtorEq, Int.reduceLT, Int.reduceLE, Int.reduceEq, Int.reduceBEq, Int.reduceSub, Int.reduceAdd, Int.reduceMul, Int.reduceNeg, Int.reduceToNat, Nat.reduceMul, Nat.reduceBEq, index_rsl_if, setm, make_ints, condK_dec, wantK_dec, not_dec, and_dec, or_dec, seqK_ite, seqK_none, blockK_ite, blockK_none, opsK_ite, opsK_none, stepK_ite, stepK_none, bodyK_ite, bodyK_none, resK_ite, resK_none, leaveK_ite, leaveK_none, only_ite, only_none, bind_ite, gives_some, gives_none, gives_ite, then_normal, then_ret, then_exit, then_none, then_ite, Option.bind_none, Bool.not_eq_true', decide_eq_false_iff_not, Bool.and_eq_true, Bool.or_eq_true, Option.some.injEq, Int.not_lt, Int.not_le, lp70_1, e0, e6, e7, e9, e27, e28, e29, h105, h106, hz, hfr, h122, plainR_v, happ, hs]
        refine ⟨(i + 1, [w]), by simp only [go_sem, reduceIte, Nat.reduceEqDiff, Nat.reduceAdd, Nat.reduceSub, Nat.reduceLeDiff, Nat.reduceLT, reduceCtorEq, Int.reduceLT, Int.reduceLE, Int.reduceEq, Int.reduceBEq, Int.reduceSub, Int.reduceAdd, Int.reduceMul, Int.reduceNeg, Int.reduceToNat, Nat.reduceMul, Nat.reduceBEq, ren1_locm, loc_tips, locT_eq, e0, e6, e7, e27, e28, e29, e30, kA_one, kS_one, compact, compactW, refsEnv, refsV, refsL, refsStore, refsAt, mapEnv, mapL, mapLs, newName, posOf, mapStore, pickStore, namesOk, refsV_sl, mapL_sl, List.contains_nil, List.contains_cons, Option.getD_some, hasKey] <;> rfl, ?_, ?_, fun x en s hq => ?_⟩
        · dsimp only; exact ⟨by omega, by rw [hT]; rfl⟩
        · dsimp only; omega
        · exact hq
    · have eA := kA_ne he
      have eS := kS_ne he
      have hpos : 1 ≤ ss.length := List.length_pos_iff.2 he
      rw [eA, eS]
      simp only [go_sem, reduceIte, Nat.reduceEqDiff, Nat.reduceAdd, Nat.reduceSub, Nat.reduceLeDiff, Nat.reduceLT, reduceCtorEq, Int.reduceLT, Int.reduceLE, Int.reduceEq, Int.reduceBEq, Int.reduceSub, Int.reduceAdd, Int.reduceMul, Int.reduceNeg, Int.reduceToNat, Nat.reduceMul, Nat.reduceBEq, index_rsl_if, setm, make_ints, condK_dec, wantK_dec, not_dec, and_dec, or_dec, seqK_ite, seqK_none, blockK_ite, blockK_none, opsK_ite, opsK_none, stepK_ite, stepK_none, bodyK_ite, bodyK_none, resK_ite, resK_none, leaveK_ite, leaveK_none, only_ite, only_none, bind_ite, gives_some, gives_none, gives_ite, then_normal, then_ret, then_exit, then_none, then_ite, Option.bind_none, Bool.not_eq_true', decide_eq_false_iff_not, Bool.and_eq_true, Bool.or_eq_true, Option.some.injEq, Int.not_lt, Int.not_le, lp70_1, hlt, hx, hll, hl0]
      generalize hg : lim (headed pure (run L) true _ lp70_0 _ _) _ _ = o
      obtain ⟨x, en, s, rfl, h2⟩ : ∃ x en s, o = some (x, en, s) ∧ _ := by rw [← hg]; exact loop70_0c n (memb v) (by omega) hr ho nl X ((2 ^ n - 1 : Nat) : Int) ss i 0 (by omega) _ _ (by simp only [go_sem, reduceIte, Nat.reduceEqDiff, Nat.reduceAdd, Nat.reduceSub, Nat.reduceLeDiff, Nat.reduceLT, reduceCtorEq, Int.reduceLT, Int.reduceLE, Int.reduceEq, Int.reduceBEq, Int.reduceSub, Int.reduceAdd, Int.reduceMul, Int.reduceNeg, Int.reduceToNat, Nat.reduceMul, Nat.reduceBEq, Int.natCast_zero, okRefs8, renCells8, ren1_t] <;> rfl)
      clear hg
      obtain ⟨rfl, rfl, e0, e6, e7, e9, e27, e28, e29, e30⟩ := h2
      obtain ⟨S2, hfr⟩ := frz_at he (smlN n v) [u8 (smlN n v)] []
      have happ := happ_at [u8 (smlN n v)] ss (smlN n v) [] hpos (by omega)
      cases hb : v.testBit 0 with
      | true =>
        rw [hb] at h106
        rw [hb, if_pos rfl] at hsd
        rw [← hsd] at hxo
        generalize smlN n v = w at *
        have hz : ((w : Int) = 0) = False := eq_false (by omega)
        simp only [go_sem, reduceIte, Nat.reduceEqDiff, Nat.reduceAdd, Nat.reduceSub, Nat.reduceLeDiff, Nat.reduceLT, reduceCtorEq, Int.reduceLT, Int.reduceLE, Int.reduceEq, Int.reduceBEq, Int.reduceSub, Int.reduceAdd, Int.reduceMul, Int.reduceNeg, Int.reduceToNat, Nat.reduceMul, Nat.reduceBEq, index_rsl_if, setm, make_ints, condK_dec, wantK_dec, not_dec, and_dec, or_dec, seqK_ite, seqK_none, blockK_ite, blockK_none, opsK_ite, opsK_none, stepK_ite, stepK_none, bodyK_ite, bodyK_none, resK_ite, resK_none, leaveK_ite, leaveK_none, only_ite, only_none, bind_ite, gives_some, gives_none, gives_ite, then_normal, then_ret, then_exit, then_none, then_ite, Option.bind_none, Bool.not_eq_true', decide_eq_false_iff_not, Bool.and_eq_true, Bool.or_eq_true, Option.some.injEq, Int.not_lt, Int.not_le, lp70_1, e0, e6, e7, e9, e27, e28, e29, h105, h106, hxo, hz, hfr, h122, plainR_v, happ, hs]
        refine ⟨(i + 1, ss ++ [w]), by simp only [go_sem, reduceIte, Nat.reduceEqDiff, Nat.reduceAdd, Nat.reduceSub, Nat.reduceLeDiff, Nat.reduceLT, reduceCtorEq, Int.reduceLT, Int.reduceLE, Int.reduceEq, Int.reduceBEq, Int.reduceSub, Int.reduceAdd, Int.reduceMul, Int.reduceNeg, Int.reduceToNat, Nat.reduceMul, Nat.reduceBEq, ren1_locm, loc_tips, locT_eq, e0, e6, e7, e27, e28, e29, e30, kA_snoc, kS_snoc, refsL_8, mapLs_8, okRefs8, renCells8, compact, compactW, refsEnv, refsV, refsL, refsStore, refsAt, mapEnv, mapL, mapLs, newName, posOf, mapStore, pickStore, namesOk, refsV_sl, mapL_sl, List.contains_nil, List.contains_cons, Option.getD_some, hasKey] <;> rfl, ?_, ?_, fun x en s hq => ?_⟩
        · dsimp only; exact ⟨by omega, by rw [hT]⟩
        · dsimp only; omega
        · exact hq
      | false =>
        rw [hb] at h106
        rw [hb, if_neg (by simp)] at hsd
        generalize smlN n v = w at *
        subst hsd
        have hz : ((w : Int) = 0) = False := eq_false (by omega)
        simp only [go_sem, reduceIte, Nat.reduceEqDiff, Nat.reduceAdd, Nat.reduceSub, Nat.reduceLeDiff, Nat.reduceLT, reduceCtorEq, Int.reduceLT, Int.reduceLE, Int.reduceEq, Int.reduceBEq, Int.reduceSub, Int.reduceAdd, Int.reduceMul, Int.reduceNeg, Int.reduceToNat, Nat.reduceMul, Nat.reduceBEq, index_rsl_if, setm, make_ints, condK_dec, wantK_dec, not_dec, and_dec, or_dec, seqK_ite, seqK_none, blockK_ite, blockK_none, opsK_ite, opsK_none, stepK_ite, stepK_none, bodyK_ite, bodyK_none, resK_ite, resK_none, leaveK_ite, leaveK_none, only_ite, only_none, bind_ite, gives_some, gives_none, gives_ite, then_normal, then_ret, then_exit, then_none, then_ite, Option.bind_none, Bool.not_eq_true', decide_eq_false_iff_not, Bool.and_eq_true, Bool.or_eq_true, Option.some.injEq, Int.not_lt, Int.not_le, lp70_1, e0, e6, e7, e9, e27, e28, e29, h105, h106, hz, hfr, h122, plainR_v, happ, hs]
        refine ⟨(i + 1, ss ++ [w]), by simp only [go_sem, reduceIte, Nat.reduceEqDiff, Nat.reduceAdd, Nat.reduceSub, Nat.reduceLeDiff, Nat.reduceLT, reduceCtorEq, Int.reduceLT, Int.reduceLE, Int.reduceEq, Int.reduceBEq, Int.reduceSub, Int.reduceAdd, Int.reduceMul, Int.reduceNeg, Int.reduceToNat, Nat.reduceMul, Nat.reduceBEq, ren1_locm, loc_tips, locT_eq, e0, e6, e7, e27, e28, e29, e30, kA_snoc, kS_snoc, refsL_8, mapLs_8, okRefs8, renCells8, compact, compactW, refsEnv, refsV, refsL, refsStore, refsAt, mapEnv, mapL, mapLs, newName, posOf, mapStore, pickStore, namesOk, refsV_sl, mapL_sl, List.contains_nil, List.contains_cons, Option.getD_some, hasKey] <;> rfl, ?_, ?_, fun x en s hq => ?_⟩
        · dsimp only; exact ⟨by omega, by rw [hT]⟩
        · dsimp only; omega
        · exact hq
  · have e : X.take i = X := List.take_of_length_le (by omega)
    rw [e] at h2
    subst h2
    have hlt : ((i : Int) < (X.length : Int)) = False := eq_false (by omega)
    simp only [go_sem, reduceIte, Nat.reduceEqDiff, Nat.reduceAdd, Nat.reduceSub, Nat.reduceLeDiff, Nat.reduceLT, reduceCtorEq, Int.reduceLT, Int.reduceLE, Int.reduceEq, Int.reduceBEq, Int.reduceSub, Int.reduceAdd, Int.reduceMul, Int.reduceNeg, Int.reduceToNat, Nat.reduceMul, Nat.reduceBEq, index_rsl_if, setm, make_ints, condK_dec, wantK_dec, not_dec, and_dec, or_dec, seqK_ite, seqK_none, blockK_ite, blockK_none, opsK_ite, opsK_none, stepK_ite, stepK_none, bodyK_ite, bodyK_none, resK_ite, resK_none, leaveK_ite, leaveK_none, only_ite, only_none, bind_ite, gives_some, gives_none, gives_ite, then_normal, then_ret, then_exit, then_none, then_ite, Option.bind_none, Bool.not_eq_true', decide_eq_false_iff_not, Bool.and_eq_true, Bool.or_eq_true, Option.some.injEq, Int.not_lt, Int.not_le, lp70_1, hlt]

theorem shl8n (n : Nat) (h : n ≤ 8) : ∃ r : Int, binAV .shl none (.v (.int .u8 1)) (.v (.int .i64 (n : Int))) = some (.v (.int .u8 r)) ∧ IntKind.u8.wrap (r - 1) = ((2 ^ n - 1 : Nat) : Int) := by
  refine ⟨IntKind.u8.wrap (1 * 2 ^ n), ?_, ?_⟩
  · show (if (n : Int) < 0 then none else some (AV.v (.int .u8 (IntKind.u8.wrap (1 * (2 ^ (min (Int.toNat (n : Int)) 8)))))) ) = _
    rw [if_neg (by omega), Int.toNat_natCast, show min n 8 = n by omega]
  · have hk : ∀ k : Fin 9, IntKind.u8.wrap (IntKind.u8.wrap (1 * 2 ^ k.val) - 1) = ((2 ^ k.val - 1 : Nat) : Int) := by decide
    exact hk ⟨n, by omega⟩
theorem c70 (n : Nat) (h2 : 2 ≤ n) (hn : n ≤ 8) (nl : Bool) (X : List Nat) (hX : ∀ v ∈ X, v < 2 ^ n ∧ v ≠ 0 ∧ v ≠ 2 ^ n - 1) (hnd : (X.map (smlN n)).Nodup) (hl : X.length ≤ 13) :
    run L 70 [J n, sl 1 nl (X.map tM)] ⟨[], []⟩ = some (.tup [kA (X.map (smlN n)), I 0], ⟨kS (X.map (smlN n)), []⟩) := by
  rw [run_shared (fn := ir70) rfl rfl]
  have q1 : ((n : Int) < 2) = False := eq_false (by omega)
  have q2 : ((8 : Int) < (n : Int)) = False := eq_false (by omega)
  have q3 : ((13 : Int) < (X.length : Int)) = False := eq_false (by omega)
  obtain ⟨r, hsh, hsu⟩ := shl8n n hn
  simp only [ir70, go_sem, reduceIte, Nat.reduceEqDiff, Nat.reduceAdd, Nat.reduceSub, Nat.reduceLeDiff, Nat.reduceLT, reduceCtorEq, Int.reduceLT, Int.reduceLE, Int.reduceEq, Int.reduceBEq, Int.reduceSub, Int.reduceAdd, Int.reduceMul, Int.reduceNeg, Int.reduceToNat, Nat.reduceMul, Nat.reduceBEq, List.length_map, q1, q2, q3, hsh, hsu]
  generalize hg : lim (headed pure (run L) true _ lp70_1 _ _) _ _ = o
  obtain ⟨x, en, s, rfl, h2⟩ : ∃ x en s, o = some (x, en, s) ∧ _ := by rw [← hg]; exact loop70_1 n hn nl X hX hnd hl 0 [] ⟨by omega, by simp⟩ _ _ (by simp only [go_sem, reduceIte, Nat.reduceEqDiff, Nat.reduceAdd, Nat.reduceSub, Nat.reduceLeDiff, Nat.reduceLT, reduceCtorEq, Int.reduceLT, Int.reduceLE, Int.reduceEq, Int.reduceBEq, Int.reduceSub, Int.reduceAdd, Int.reduceMul, Int.reduceNeg, Int.reduceToNat, Nat.reduceMul, Nat.reduceBEq, Int.natCast_zero, kA, kS, compact, compactW, refsEnv, refsV, refsL, refsStore, refsAt, mapEnv, mapL, mapLs, newName, posOf, mapStore, pickStore, namesOk, refsV_sl, mapL_sl, List.contains_nil, List.contains_cons, Option.getD_some, hasKey] <;> rfl)
  clear hg
  obtain ⟨rfl, e7, rfl⟩ := h2
  simp only [go_sem, reduceIte, Nat.reduceEqDiff, Nat.reduceAdd, Nat.reduceSub, Nat.reduceLeDiff, Nat.reduceLT, reduceCtorEq, Int.reduceLT, Int.reduceLE, Int.reduceEq, Int.reduceBEq, Int.reduceSub, Int.reduceAdd, Int.reduceMul, Int.reduceNeg, Int.reduceToNat, Nat.reduceMul, Nat.reduceBEq, e7]

attribute [local go_sem] okRef_o storable_o shaped_o cells_o fin_o pub_o shaped_t cells_t isAgg_t storable_t okRef_t pub_t

/-! ### friends -/
def frTo (ss : List Nat) (a : Nat) : Nat → Nat
  | 0 => 0
  | j + 1 => if agN a (ss.getD j 0) = true then frTo ss a j ||| 2 ^ j else frTo ss a j
def frN (ss : List Nat) (a : Nat) : Nat := frTo ss a ss.length
theorem frTo_bit (ss : List Nat) (a : Nat) : ∀ (j x : Nat), (frTo ss a j).testBit x = (decide (x < j) && agN a (ss.getD x 0))
  | 0, x => by simp [frTo]
  | j + 1, x => by
    have ih := frTo_bit ss a j x
    unfold frTo
    split
    · next h =>
      rw [Nat.testBit_or, ih, Nat.testBit_two_pow]
      by_cases h1 : j = x
      · subst h1; simp [h, -List.getD_eq_getElem?_getD]
      · by_cases h2 : x < j
        · simp [h1, h2, show x < j + 1 by omega]
        · simp [h1, h2, show ¬ x < j + 1 by omega]
    · next h =>
      rw [ih]
      by_cases h1 : j = x
      · subst h1; simp [h, -List.getD_eq_getElem?_getD]
      · by_cases h2 : x < j
        · simp [h2, show x < j + 1 by omega]
        · simp [h2, show ¬ x < j + 1 by omega]
theorem frTo_lt (ss : List Nat) (a : Nat) : ∀ j, frTo ss a j < 2 ^ j
  | 0 => by simp [frTo]
  | j + 1 => by
    have ih := frTo_lt ss a j
    have hp : 2 ^ (j + 1) = 2 ^ j * 2 := Nat.pow_succ 2 j
    have hj : 2 ^ j < 2 ^ (j + 1) := Nat.pow_lt_pow_right (by omega) (by omega)
    unfold frTo; split
    · exact Nat.or_lt_two_pow (by omega) hj
    · omega
theorem or16 (a b : Nat) (ha : a < 65536) (hb : b < 65536) : binAV .or none (u16 a) (u16 b) = some (u16 (a ||| b)) := by
  have h : (BitVec.ofInt 16 (a : Int) ||| BitVec.ofInt 16 (b : Int)).toNat = a ||| b := by
    rw [BitVec.toNat_or]; simp [BitVec.ofInt_natCast, Nat.mod_eq_of_lt ha, Nat.mod_eq_of_lt hb]
  show some (AV.v (.int .u16 (IntKind.u16.wrap ((BitVec.ofInt 16 (a : Int) ||| BitVec.ofInt 16 (b : Int)).toNat : Int)))) = _
  rw [h, wrap16 _ (Nat.or_lt_two_pow (n := 16) ha hb)]
theorem shl16 (p : Nat) (h : p < 16) : binAV .shl none (.v (.int .u16 1)) (.v (.int .i64 (p : Int))) = some (u16 (2 ^ p)) := by
  show (if (p : Int) < 0 then none else some (AV.v (.int .u16 (IntKind.u16.wrap (1 * (2 ^ (min (Int.toNat (p : Int)) 16)))))) ) = _
  rw [if_neg (by omega), Int.toNat_natCast, show min p 16 = p by omega]
  have e2 : (1 : Int) * ((2 : Int) ^ p) = ((2 ^ p : Nat) : Int) := by simp
  rw [e2, wrap16 _ (Nat.pow_lt_pow_right (n := 16) (by omega) h)]
theorem okRefs16 (n : Nat) (xs : List Nat) : okRefs n (xs.map u16) = true := okRefs_map u16 n (fun _ => rfl) xs
theorem renCells16 (n : Nat) (tips : List Nat) (acc : List (Nat × Nat)) (xs : List Nat) : renCells n tips acc (xs.map u16) = (xs.map u16, acc) := renCells_map u16 n tips (fun _ _ => rfl) xs acc
theorem slice8 (ss : List Nat) (j : Nat) (h : j < ss.length) : ((ss.map u8).drop j).take 1 = [u8 (ss.getD j 0)] := by
  rw [List.drop_eq_getElem_cons (by simpa using h), List.take_succ_cons, List.take_zero, List.getElem_map]
  simp [List.getD_eq_getElem?_getD, h]
theorem slice16 (ss : List Nat) (j : Nat) (h : j < ss.length) : ((ss.map u16).drop j).take 1 = [u16 (ss.getD j 0)] := by
  rw [List.drop_eq_getElem_cons (by simpa using h), List.take_succ_cons, List.take_zero, List.getElem_map]
  simp [List.getD_eq_getElem?_getD, h]

set_option maxHeartbeats 1000000 in
theorem loop18_0 (ss : List Nat) (hss : ∀ x ∈ ss, x < 256) (hk : ss.length ≤ 9) (A Z : List Nat) (hAZ : A.length + 1 + Z.length = ss.length) (a : Nat) (ha : a < 256) (j : Nat) (x : Nat) (hok : j ≤ ss.length ∧ x = frTo ss a j) (env : Env) (st : St)
    (hg : gcAV true 4 0 (canon env [6, 8, 9, 10, 29, 30, 31, 36, 37, 38]) st = ([(6, .rsl 0 0 ss.length ss.length 1 true), (8, .ptr 2 0), (9, J A.length), (10, .ptr 3 0), (29, .rsl 0 0 ss.length ss.length 1 true), (30, J ss.length), (31, J A.length), (36, .rsl 0 0 ss.length ss.length 1 true), (37, J ss.length), (38, J j)], ⟨[ss.map u8, (A ++ x :: Z).map u16, [.rsl 1 0 ss.length ss.length 1 true], [u8 a]], []⟩)) :
    ∃ x_1 en s, lim (headed pure (run L) true [6, 8, 9, 10, 29, 30, 31, 36, 37, 38] lp18_0 4 0) env st = some (x_1, en, s) ∧ (x_1 = .exit 2 ∧ en.get 6 = .rsl 0 0 ss.length ss.length 1 true ∧ en.get 8 = .ptr 2 0 ∧ en.get 29 = .rsl 0 0 ss.length ss.length 1 true ∧ en.get 30 = J ss.length ∧ en.get 31 = J A.length ∧ s = ⟨[ss.map u8, (A ++ frN ss a :: Z).map u16, [.rsl 1 0 ss.length ss.length 1 true], [u8 a]], []⟩) := by
  refine loop_wp (α := Nat × Nat) (fun ⟨j, x⟩ => ss.length - j) (fun ⟨j, x⟩ => j ≤ ss.length ∧ x = frTo ss a j) (fun ⟨j, x⟩ => ([(6, .rsl 0 0 ss.length ss.length 1 true), (8, .ptr 2 0), (9, J A.length), (10, .ptr 3 0), (29, .rsl 0 0 ss.length ss.length 1 true), (30, J ss.length), (31, J A.length), (36, .rsl 0 0 ss.length ss.length 1 true), (37, J ss.length), (38, J j)], ⟨[ss.map u8, (A ++ x :: Z).map u16, [.rsl 1 0 ss.length ss.length 1 true], [u8 a]], []⟩)) (fun ⟨j, x⟩ x_1 en s => x_1 = .exit 2 ∧ en.get 6 = .rsl 0 0 ss.length ss.length 1 true ∧ en.get 8 = .ptr 2 0 ∧ en.get 29 = .rsl 0 0 ss.length ss.length 1 true ∧ en.get 30 = J ss.length ∧ en.get 31 = J A.length ∧ s = ⟨[ss.map u8, (A ++ frN ss a :: Z).map u16, [.rsl 1 0 ss.length ss.length 1 true], [u8 a]], []⟩) (fun ⟨j, x⟩ hok => ?_) ⟨j, x⟩ hok env st hg
  simp only at hok
  obtain ⟨h1, h2⟩ := hok
  dsimp only at h1 h2 ⊢
  by_cases h : j < ss.length
  · have hs := succ64 j (by omega)
    have hlt : ((j : Int) < (ss.length : Int)) = True := eq_true (by omega)
    have hg := slice8 ss j h
    have hb : ss.getD j 0 < 256 := by
      rw [List.getD_eq_getElem?_getD, List.getElem?_eq_getElem h]; exact hss _ (List.getElem_mem h)
    have hf : frTo ss a (j + 1) = if agN a (ss.getD j 0) = true then frTo ss a j ||| 2 ^ j else frTo ss a j := rfl
    have hxl : x < 2 ^ 9 := by rw [h2]; exact Nat.lt_of_lt_of_le (frTo_lt ss a j) (Nat.pow_le_pow_right (by omega) (by omega))
    rw [← h2] at hf
    have h73 := fun st => c73 a (ss.getD j 0) ha hb st
    generalize ss.getD j 0 = b at *
    have hAl : (A ++ x :: Z).length = ss.length := by simp; omega
    have hget : ((A ++ x :: Z).map u16)[A.length]? = some (u16 x) := by rw [List.getElem?_map]; simp
    have hjl : (j + 1 ≤ ss.length) = True := eq_true (by omega)
    have hAl2 : ((A.length : Int) < (ss.length : Int)) = True := eq_true (by omega)
    have hAl3 : (A.length + 1 ≤ ss.length) = True := eq_true (by omega)
    have hjn : ((j : Int).toNat < ss.length) = True := eq_true (by omega)
    have hp2 : 2 ^ j < 2 ^ 9 := Nat.pow_lt_pow_right (by omega) (by omega)
    have hsh := shl16 j (by omega)
    have hor := or16 x (2 ^ j) (by omega) (by omega)
    have hset : ∀ y, (A ++ x :: Z).set A.length y = A ++ y :: Z := by intro y; simp
    cases hc : agN a b with
    | true =>
      rw [hc] at h73
      rw [hc, if_pos rfl] at hf
      simp only [go_sem, reduceIte, Nat.reduceEqDiff, Nat.reduceAdd, Nat.reduceSub, Nat.reduceLeDiff, Nat.reduceLT, reduceCtorEq, Int.reduceLT, Int.reduceLE, Int.reduceEq, Int.reduceBEq, Int.reduceSub, Int.reduceAdd, Int.reduceMul, Int.reduceNeg, Int.reduceToNat, Nat.reduceMul, Nat.reduceBEq, index_rsl_if, setm, make_ints, condK_dec, wantK_dec, not_dec, and_dec, or_dec, seqK_ite, seqK_none, blockK_ite, blockK_none, opsK_ite, opsK_none, stepK_ite, stepK_none, bodyK_ite, bodyK_none, resK_ite, resK_none, leaveK_ite, leaveK_none, only_ite, only_none, bind_ite, gives_some, gives_none, gives_ite, then_normal, then_ret, then_exit, then_none, then_ite, Option.bind_none, Bool.not_eq_true', decide_eq_false_iff_not, Bool.and_eq_true, Bool.or_eq_true, Option.some.injEq, Int.not_lt, Int.not_le, lp18_0, hlt, hs, hg, h73, hAl, hget, hjl, hAl2, hAl3, hjn, hsh, hor, hset, Int.natCast_nonneg, List.length_map]
      refine ⟨(j + 1, Nat.lor x (2 ^ j)), by simp only [go_sem, reduceIte, Nat.reduceEqDiff, Nat.reduceAdd, Nat.reduceSub, Nat.reduceLeDiff, Nat.reduceLT, reduceCtorEq, Int.reduceLT, Int.reduceLE, Int.reduceEq, Int.reduceBEq, Int.reduceSub, Int.reduceAdd, Int.reduceMul, Int.reduceNeg, Int.reduceToNat, Nat.reduceMul, Nat.reduceBEq, ren1_locm, loc_tips, locT_eq, okRefs8, renCells8, okRefs16, renCells16, hset] <;> rfl, ?_, ?_, fun x en s hq => ?_⟩
      · dsimp only; exact ⟨by omega, hf.symm⟩
      · dsimp only; omega
      · exact hq
    | false =>
      rw [hc] at h73
      rw [hc, if_neg (by simp)] at hf
      simp only [go_sem, reduceIte, Nat.reduceEqDiff, Nat.reduceAdd, Nat.reduceSub, Nat.reduceLeDiff, Nat.reduceLT, reduceCtorEq, Int.reduceLT, Int.reduceLE, Int.reduceEq, Int.reduceBEq, Int.reduceSub, Int.reduceAdd, Int.reduceMul, Int.reduceNeg, Int.reduceToNat, Nat.reduceMul, Nat.reduceBEq, index_rsl_if, setm, make_ints, condK_dec, wantK_dec, not_dec, and_dec, or_dec, seqK_ite, seqK_none, blockK_ite, blockK_none, opsK_ite, opsK_none, stepK_ite, stepK_none, bodyK_ite, bodyK_none, resK_ite, resK_none, leaveK_ite, leaveK_none, only_ite, only_none, bind_ite, gives_some, gives_none, gives_ite, then_normal, then_ret, then_exit, then_none, then_ite, Option.bind_none, Bool.not_eq_true', decide_eq_false_iff_not, Bool.and_eq_true, Bool.or_eq_true, Option.some.injEq, Int.not_lt, Int.not_le, lp18_0, hlt, hs, hg, h73, hjl, hjn, Int.natCast_nonneg, List.length_map]
      refine ⟨(j + 1, x), by simp only [go_sem, reduceIte, Nat.reduceEqDiff, Nat.reduceAdd, Nat.reduceSub, Nat.reduceLeDiff, Nat.reduceLT, reduceCtorEq, Int.reduceLT, Int.reduceLE, Int.reduceEq, Int.reduceBEq, Int.reduceSub, Int.reduceAdd, Int.reduceMul, Int.reduceNeg, Int.reduceToNat, Nat.reduceMul, Nat.reduceBEq, ren1_locm, loc_tips, locT_eq, okRefs8, renCells8, okRefs16, renCells16] <;> rfl, ?_, ?_, fun x en s hq => ?_⟩
      · dsimp only; exact ⟨by omega, hf.symm⟩
      · dsimp only; omega
      · exact hq
  · have e : j = ss.length := by omega
    subst e
    have hlt : ((ss.length : Int) < (ss.length : Int)) = False := eq_false (by omega)
    have e2 : frN ss a = x := by rw [h2]; rfl
    rw [e2]
    simp only [go_sem, reduceIte, Nat.reduceEqDiff, Nat.reduceAdd, Nat.reduceSub, Nat.reduceLeDiff, Nat.reduceLT, reduceCtorEq, Int.reduceLT, Int.reduceLE, Int.reduceEq, Int.reduceBEq, Int.reduceSub, Int.reduceAdd, Int.reduceMul, Int.reduceNeg, Int.reduceToNat, Nat.reduceMul, Nat.reduceBEq, index_rsl_if, setm, make_ints, condK_dec, wantK_dec, not_dec, and_dec, or_dec, seqK_ite, seqK_none, blockK_ite, blockK_none, opsK_ite, opsK_none, stepK_ite, stepK_none, bodyK_ite, bodyK_none, resK_ite, resK_none, leaveK_ite, leaveK_none, only_ite, only_none, bind_ite, gives_some, gives_none, gives_ite, then_normal, then_ret, then_exit, then_none, then_ite, Option.bind_none, Bool.not_eq_true', decide_eq_false_iff_not, Bool.and_eq_true, Bool.or_eq_true, Option.some.injEq, Int.not_lt, Int.not_le, lp18_0, hlt]

attribute [local go_sem] okRef_o storable_o shaped_o cells_o fin_o pub_o shaped_t cells_t isAgg_t storable_t okRef_t pub_t

theorem frsnoc (ss : List Nat) (i : Nat) (h : i < ss.length) : (ss.take i).map (frN ss) ++ frN ss (ss.getD i 0) :: List.replicate (ss.length - (i + 1)) 0 = (ss.take (i + 1)).map (frN ss) ++ List.replicate (ss.length - (i + 1)) 0 := by
  rw [List.take_succ, List.getElem?_eq_getElem h, List.map_append]
  simp [List.getD_eq_getElem?_getD, h]
set_option maxHeartbeats 1000000 in
theorem loop18_1 (ss : List Nat) (hss : ∀ x ∈ ss, x < 256) (hk : ss.length ≤ 9) (i : Nat) (F : List Nat) (hok : i ≤ ss.length ∧ F = (ss.take i).map (frN ss) ++ List.replicate (ss.length - i) 0) (env : Env) (st : St)
    (hg : gcAV true 3 0 (canon env [6, 8, 29, 30, 31]) st = ([(6, .rsl 0 0 ss.length ss.length 1 true), (8, .ptr 2 0), (29, .rsl 0 0 ss.length ss.length 1 true), (30, J ss.length), (31, J i)], ⟨[ss.map u8, F.map u16, [.rsl 1 0 ss.length ss.length 1 true]], []⟩)) :
    ∃ x_1 en s, lim (headed pure (run L) true [6, 8, 29, 30, 31] lp18_1 3 0) env st = some (x_1, en, s) ∧ (x_1 = .exit 0 ∧ en.get 6 = .rsl 0 0 ss.length ss.length 1 true ∧ en.get 8 = .ptr 2 0 ∧ s = ⟨[ss.map u8, (ss.map (frN ss)).map u16, [.rsl 1 0 ss.length ss.length 1 true]], []⟩) := by
  refine loop_wp (α := Nat × List Nat) (fun ⟨i, F⟩ => ss.length - i) (fun ⟨i, F⟩ => i ≤ ss.length ∧ F = (ss.take i).map (frN ss) ++ List.replicate (ss.length - i) 0) (fun ⟨i, F⟩ => ([(6, .rsl 0 0 ss.length ss.length 1 true), (8, .ptr 2 0), (29, .rsl 0 0 ss.length ss.length 1 true), (30, J ss.length), (31, J i)], ⟨[ss.map u8, F.map u16, [.rsl 1 0 ss.length ss.length 1 true]], []⟩)) (fun ⟨i, F⟩ x_1 en s => x_1 = .exit 0 ∧ en.get 6 = .rsl 0 0 ss.length ss.length 1 true ∧ en.get 8 = .ptr 2 0 ∧ s = ⟨[ss.map u8, (ss.map (frN ss)).map u16, [.rsl 1 0 ss.length ss.length 1 true]], []⟩) (fun ⟨i, F⟩ hok => ?_) ⟨i, F⟩ hok env st hg
  simp only at hok
  obtain ⟨h1, h2⟩ := hok
  dsimp only at h1 h2 ⊢
  by_cases h : i < ss.length
  · have hs := succ64 i (by omega)
    have hlt : ((i : Int) < (ss.length : Int)) = True := eq_true (by omega)
    have hg := slice8 ss i h
    have hb : ss.getD i 0 < 256 := by
      rw [List.getD_eq_getElem?_getD, List.getElem?_eq_getElem h]; exact hss _ (List.getElem_mem h)
    have hsn := frsnoc ss i h
    have hA : ((ss.take i).map (frN ss)).length = i := by rw [List.length_map, List.length_take]; omega
    have hF : F = (ss.take i).map (frN ss) ++ 0 :: List.replicate (ss.length - (i + 1)) 0 := by
      rw [h2, show ss.length - i = (ss.length - (i + 1)) + 1 by omega, List.replicate_succ]
    have hil : (i + 1 ≤ ss.length) = True := eq_true (by omega)
    have hin : ((i : Int).toNat < ss.length) = True := eq_true (by omega)
    generalize ss.getD i 0 = a at *
    generalize (ss.take i).map (frN ss) = A at *
    have hZ : (List.replicate (ss.length - (i + 1)) 0).length = ss.length - (i + 1) := by simp
    generalize hZe : List.replicate (ss.length - (i + 1)) 0 = Z at *
    subst hF
    subst hA
    simp only [go_sem, reduceIte, Nat.reduceEqDiff, Nat.reduceAdd, Nat.reduceSub, Nat.reduceLeDiff, Nat.reduceLT, reduceCtorEq, Int.reduceLT, Int.reduceLE, Int.reduceEq, Int.reduceBEq, Int.reduceSub, Int.reduceAdd, Int.reduceMul, Int.reduceNeg, Int.reduceToNat, Nat.reduceMul, Nat.reduceBEq, index_rsl_if, setm, make_ints, condK_dec, wantK_dec, not_dec, and_dec, or_dec, seqK_ite, seqK_none, blockK_ite, blockK_none, opsK_ite, opsK_none, stepK_ite, stepK_none, bodyK_ite, bodyK_none, resK_ite, resK_none, leaveK_ite, leaveK_none, only_ite, only_none, bind_ite, gives_some, gives_none, gives_ite, then_normal, then_ret, then_exit, then_none, then_ite, Option.bind_none, Bool.not_eq_true', decide_eq_false_iff_not, Bool.and_eq_true, Bool.or_eq_true, Option.some.injEq, Int.not_lt, Int.not_le, lp18_1, hlt, hs, hg, hil, hin, Int.natCast_nonneg, List.length_map]
    generalize hg : lim (headed pure (run L) true _ lp18_0 _ _) _ _ = o
    obtain ⟨x, en, s, rfl, h2⟩ : ∃ x en s, o = some (x, en, s) ∧ _ := by rw [← hg]; exact loop18_0 ss hss hk A Z (by omega) a hb 0 0 ⟨by omega, rfl⟩ _ _ (by simp only [go_sem, reduceIte, Nat.reduceEqDiff, Nat.reduceAdd, Nat.reduceSub, Nat.reduceLeDiff, Nat.reduceLT, reduceCtorEq, Int.reduceLT, Int.reduceLE, Int.reduceEq, Int.reduceBEq, Int.reduceSub, Int.reduceAdd, Int.reduceMul, Int.reduceNeg, Int.reduceToNat, Nat.reduceMul, Nat.reduceBEq, okRefs8, renCells8, okRefs16, renCells16, Int.natCast_zero] <;> rfl)
    clear hg
    obtain ⟨rfl, e6, e8, e29, e30, e31, rfl⟩ := h2
    simp only [go_sem, reduceIte, Nat.reduceEqDiff, Nat.reduceAdd, Nat.reduceSub, Nat.reduceLeDiff, Nat.reduceLT, reduceCtorEq, Int.reduceLT, Int.reduceLE, Int.reduceEq, Int.reduceBEq, Int.reduceSub, Int.reduceAdd, Int.reduceMul, Int.reduceNeg, Int.reduceToNat, Nat.reduceMul, Nat.reduceBEq, index_rsl_if, setm, make_ints, condK_dec, wantK_dec, not_dec, and_dec, or_dec, seqK_ite, seqK_none, blockK_ite, blockK_none, opsK_ite, opsK_none, stepK_ite, stepK_none, bodyK_ite, bodyK_none, resK_ite, resK_none, leaveK_ite, leaveK_none, only_ite, only_none, bind_ite, gives_some, gives_none, gives_ite, then_normal, then_ret, then_exit, then_none, then_ite, Option.bind_none, Bool.not_eq_true', decide_eq_false_iff_not, Bool.and_eq_true, Bool.or_eq_true, Option.some.injEq, Int.not_lt, Int.not_le, lp18_1, e6, e8, e29, e30, e31, hs]
    refine ⟨(A.length + 1, A ++ frN ss a :: Z), by simp only [go_sem, reduceIte, Nat.reduceEqDiff, Nat.reduceAdd, Nat.reduceSub, Nat.reduceLeDiff, Nat.reduceLT, reduceCtorEq, Int.reduceLT, Int.reduceLE, Int.reduceEq, Int.reduceBEq, Int.reduceSub, Int.reduceAdd, Int.reduceMul, Int.reduceNeg, Int.reduceToNat, Nat.reduceMul, Nat.reduceBEq, ren1_locm, loc_tips, locT_eq, e6, e8, e29, e30, e31, okRefs8, renCells8, okRefs16, renCells16] <;> rfl, ?_, ?_, fun x en s hq => ?_⟩
    · dsimp only; exact ⟨by omega, by rw [hZe]; exact hsn⟩
    · dsimp only; omega
    · exact hq
  · have e : i = ss.length := by omega
    subst e
    rw [List.take_length, Nat.sub_self, List.replicate_zero, List.append_nil] at h2
    subst h2
    have hlt : ((ss.length : Int) < (ss.length : Int)) = False := eq_false (by omega)
    simp only [go_sem, reduceIte, Nat.reduceEqDiff, Nat.reduceAdd, Nat.reduceSub, Nat.reduceLeDiff, Nat.reduceLT, reduceCtorEq, Int.reduceLT, Int.reduceLE, Int.reduceEq, Int.reduceBEq, Int.reduceSub, Int.reduceAdd, Int.reduceMul, Int.reduceNeg, Int.reduceToNat, Nat.reduceMul, Nat.reduceBEq, index_rsl_if, setm, make_ints, condK_dec, wantK_dec, not_dec, and_dec, or_dec, seqK_ite, seqK_none, blockK_ite, blockK_none, opsK_ite, opsK_none, stepK_ite, stepK_none, bodyK_ite, bodyK_none, resK_ite, resK_none, leaveK_ite, leaveK_none, only_ite, only_none, bind_ite, gives_some, gives_none, gives_ite, then_normal, then_ret, then_exit, then_none, then_ite, Option.bind_none, Bool.not_eq_true', decide_eq_false_iff_not, Bool.and_eq_true, Bool.or_eq_true, Option.some.injEq, Int.not_lt, Int.not_le, lp18_1, hlt]

/-! ### the most that agree -/
def wiN (m f : Nat) : Bool := decide (m &&& (65535 - f) = 0)
theorem df16 (a b : Nat) (ha : a < 65536) (hb : b < 65536) : binAV .andNot none (u16 a) (u16 b) = some (u16 (a &&& (65535 - b))) := by
  have e : (BitVec.ofInt IntKind.u16.bits (a : Int) &&& ~~~BitVec.ofInt IntKind.u16.bits (b : Int)).toNat = a &&& (65535 - b) := by
    show (BitVec.ofInt 16 (a : Int) &&& ~~~BitVec.ofInt 16 (b : Int)).toNat = a &&& (65535 - b)
    rw [BitVec.toNat_and, BitVec.toNat_not, BitVec.toNat_ofInt, BitVec.toNat_ofInt]
    have ea : ((a : Int) % ((2 ^ 16 : Nat) : Int)).toNat = a := by omega
    have eb : ((b : Int) % ((2 ^ 16 : Nat) : Int)).toNat = b := by omega
    rw [ea, eb]
  show some (AV.v (.int .u16 (IntKind.u16.wrap ((BitVec.ofInt IntKind.u16.bits (a : Int) &&& ~~~BitVec.ofInt IntKind.u16.bits (b : Int)).toNat : Int)))) = _
  rw [e, wrap16 _ (Nat.lt_of_le_of_lt Nat.and_le_left ha)]
theorem wiN_iff {m f : Nat} (hm : m < 65536) (hf : f < 65536) : wiN m f = true ↔ ∀ x, m.testBit x = true → f.testBit x = true := by
  unfold wiN
  have hb : ∀ x, (m &&& (65535 - f)).testBit x = (m.testBit x && (decide (x < 16) && !f.testBit x)) := fun x => by
    rw [Nat.testBit_and, show 65535 - f = 2 ^ 16 - (f + 1) from by omega, Nat.testBit_two_pow_sub_succ hf]
  rw [decide_eq_true_iff]
  constructor
  · intro h x hx
    have := congrArg (fun y => y.testBit x) h
    simp only [hb, hx, Nat.zero_testBit, Bool.true_and] at this
    have h16 : x < 16 := by
      apply Nat.lt_of_not_le; intro h9
      rw [Nat.testBit_lt_two_pow (Nat.lt_of_lt_of_le hm (Nat.pow_le_pow_right (n := 2) (by decide) h9))] at hx; cases hx
    simpa [h16] using this
  · intro h
    apply Nat.eq_of_testBit_eq; intro x
    rw [hb, Nat.zero_testBit]
    cases hx : m.testBit x
    · rfl
    · rw [h x hx]; simp
theorem c77 (m f : Nat) (hm : m < 65536) (hf : f < 65536) (st : St) : run L 77 [E16 m, E16 f] st = some (B (wiN m f), st) := by
  rw [run_pure (fn := ir77) rfl rfl]
  have h := df16 m f hm hf
  have e : wiN m f = decide (m &&& (65535 - f) = 0) := rfl
  rw [e]
  by_cases p : m &&& (65535 - f) = 0 <;> simp only [ir77, go_sem, reduceIte, Nat.reduceEqDiff, Nat.reduceAdd, Nat.reduceSub, Nat.reduceLeDiff, Nat.reduceLT, reduceCtorEq, Int.reduceLT, Int.reduceLE, Int.reduceEq, Int.reduceBEq, Int.reduceSub, Int.reduceAdd, Int.reduceMul, Int.reduceNeg, Int.reduceToNat, Nat.reduceMul, Nat.reduceBEq, h, nat0, p]
theorem c76 (S0 : List AV) (F : List Nat) (hF : ∀ f ∈ F, f < 65536) (m : Nat) (hm : m < 65536) (i : Int) (hi : 0 ≤ i ∧ i < (F.length : Int)) :
    run L 76 [I i, .ptr 3 0, .ptr 2 0] ⟨[S0, F.map u16, [.rsl 1 0 F.length F.length 1 true], [u16 m]], []⟩ = some (B (!wiN m (F.getD i.toNat 0)), ⟨[S0, F.map u16, [.rsl 1 0 F.length F.length 1 true], [u16 m]], []⟩) := by
  rw [run_shared (fn := ir76) rfl rfl]
  obtain ⟨i, rfl⟩ := Int.eq_ofNat_of_zero_le hi.1
  rw [Int.toNat_natCast]
  have hlt : ((i : Int) < (F.length : Int)) = True := eq_true (by omega)
  have hil : (i + 1 ≤ F.length) = True := eq_true (by omega)
  have hin : ((i : Int).toNat < F.length) = True := eq_true (by omega)
  have hg := slice16 F i (by omega)
  have hf : F.getD i 0 < 65536 := by
    rw [List.getD_eq_getElem?_getD, List.getElem?_eq_getElem (by omega)]; exact hF _ (List.getElem_mem _)
  generalize F.getD i 0 = f at *
  have h77 := fun st => c77 m f hm hf st
  cases hh : wiN m f <;> rw [hh] at h77 <;> simp only [ir76, go_sem, reduceIte, Nat.reduceEqDiff, Nat.reduceAdd, Nat.reduceSub, Nat.reduceLeDiff, Nat.reduceLT, reduceCtorEq, Int.reduceLT, Int.reduceLE, Int.reduceEq, Int.reduceBEq, Int.reduceSub, Int.reduceAdd, Int.reduceMul, Int.reduceNeg, Int.reduceToNat, Nat.reduceMul, Nat.reduceBEq, index_rsl_if, setm, make_ints, condK_dec, wantK_dec, not_dec, and_dec, or_dec, seqK_ite, seqK_none, blockK_ite, blockK_none, opsK_ite, opsK_none, stepK_ite, stepK_none, bodyK_ite, bodyK_none, resK_ite, resK_none, leaveK_ite, leaveK_none, only_ite, only_none, bind_ite, gives_some, gives_none, gives_ite, then_normal, then_ret, then_exit, then_none, then_ite, Option.bind_none, Bool.not_eq_true', decide_eq_false_iff_not, Bool.and_eq_true, Bool.or_eq_true, Option.some.injEq, Int.not_lt, Int.not_le, hlt, hil, hin, hg, h77, Int.natCast_nonneg, List.length_map]

attribute [local go_sem] okRef_o storable_o shaped_o cells_o fin_o pub_o shaped_t cells_t isAgg_t storable_t okRef_t pub_t

def stepM (F : List Nat) (best : List Int) (m : Nat) : List Int :=
  if (memb m).length < best.length then best
  else if (memb m).any (fun i => !wiN m (F.getD i.toNat 0)) = true then best
  else if best.length < (memb m).length then memb m
  else if lexLt (memb m) best = true then memb m else best
def mostF (F : List Nat) (k : Nat) : List Int := (List.range' 0 (2 ^ k)).foldl (stepM F) []
theorem stepM_len (F : List Nat) (best : List Int) (m : Nat) (h : best.length ≤ 9) : (stepM F best m).length ≤ 9 := by
  have := memb_len m
  unfold stepM; split
  · exact h
  · split
    · exact h
    · split
      · exact this
      · split
        · exact this
        · exact h

set_option maxHeartbeats 2000000 in
theorem loop18_2 (S0 : List AV) (hS1 : ∀ n, okRefs n S0 = true) (hS2 : ∀ n T acc, renCells n T acc S0 = (S0, acc)) (F : List Nat) (hF : ∀ f ∈ F, f < 65536) (hk : F.length ≤ 9) (m : Nat) (best : List Int) (hok : m ≤ 2 ^ F.length ∧ best.length ≤ 9) (env : Env) (st : St)
    (hg : gcAV true 3 0 (canon env [8, 13, 60, 61]) st = ([(8, .ptr 2 0), (13, tAV best), (60, J (2 ^ F.length)), (61, J m)], ⟨[S0, F.map u16, [.rsl 1 0 F.length F.length 1 true]], []⟩)) :
    ∃ x_1 en s, lim (headed pure (run L) true [8, 13, 60, 61] lp18_2 3 0) env st = some (x_1, en, s) ∧ (x_1 = .exit 4 ∧ en.get 13 = tAV ((List.range' m (2 ^ F.length - m)).foldl (stepM F) best)) := by
  refine loop_wp (α := Nat × List Int) (fun ⟨m, best⟩ => 2 ^ F.length - m) (fun ⟨m, best⟩ => m ≤ 2 ^ F.length ∧ best.length ≤ 9) (fun ⟨m, best⟩ => ([(8, .ptr 2 0), (13, tAV best), (60, J (2 ^ F.length)), (61, J m)], ⟨[S0, F.map u16, [.rsl 1 0 F.length F.length 1 true]], []⟩)) (fun ⟨m, best⟩ x_1 en s => x_1 = .exit 4 ∧ en.get 13 = tAV ((List.range' m (2 ^ F.length - m)).foldl (stepM F) best)) (fun ⟨m, best⟩ hok => ?_) ⟨m, best⟩ hok env st hg
  simp only at hok
  obtain ⟨h1, h2⟩ := hok
  dsimp only at h1 h2 ⊢
  have hN : 2 ^ F.length ≤ 512 := Nat.le_trans (Nat.pow_le_pow_right (by omega) hk) (by decide)
  have hmr : m < 2 ^ F.length → ∀ a ∈ memb m, 0 ≤ a ∧ a < (F.length : Int) := by
    intro hm a ha
    obtain ⟨i, rfl, hi⟩ := (memb_mem (by omega) a).1 ha
    have : i < F.length := by
      apply Nat.lt_of_not_le; intro h9
      rw [tb_lt hm i h9] at hi; cases hi
    omega
  generalize 2 ^ F.length = N at *
  by_cases h : m < N
  · have hs := succ64 m (by omega)
    have hlt : ((m : Int) < (N : Int)) = True := eq_true (by omega)
    have hr : List.range' m (N - m) = m :: List.range' (m + 1) (N - (m + 1)) := by
      rw [show N - m = (N - (m + 1)) + 1 by omega, List.range'_succ]
    rw [hr, List.foldl_cons]
    have hml := memb_len m
    have hmr := hmr h
    have hw := wrap16 m (by omega)
    have h74 := fun st => c74 m (by omega) st
    have hsl := stepM_len F best m h2
    have he : stepM F best m = if (memb m).length < best.length then best else if (memb m).any (fun i => !wiN m (F.getD i.toNat 0)) = true then best else if best.length < (memb m).length then memb m else if lexLt (memb m) best = true then memb m else best := rfl
    have h75 := c75 ⟨[S0, F.map u16, [.rsl 1 0 F.length F.length 1 true], [u16 m]], []⟩ 76 rfl [.ptr 3 0, .ptr 2 0] (tAV (memb m)) (memb m) (by omega) (lenm_sl I true _) (fun i h => idx_sl I true _ i h) (fun i => !wiN m (F.getD i.toNat 0)) (fun x hx => c76 S0 F hF m (by omega) x (hmr x hx))
    have hlo : lenAV (tAV (memb m)) = some (J (memb m).length) := lenm_sl I true _
    have hlb : lenAV (tAV best) = some (J best.length) := lenm_sl I true _
    have h42 := fun st => c42 true true (memb m) best (by omega) st
    have h42' : ∀ st, run L 42 [tAV (memb m), tAV best] st = some (I (cmpN (memb m) best), st) := h42
    have hcl := cmpN_lt (memb m) best
    generalize memb m = own at *
    rw [he] at hsl ⊢
    by_cases p1 : own.length < best.length
    · have q1 : ((own.length : Int) < (best.length : Int)) = True := eq_true (by omega)
      rw [if_pos p1]
      simp only [go_sem, reduceIte, Nat.reduceEqDiff, Nat.reduceAdd, Nat.reduceSub, Nat.reduceLeDiff, Nat.reduceLT, reduceCtorEq, Int.reduceLT, Int.reduceLE, Int.reduceEq, Int.reduceBEq, Int.reduceSub, Int.reduceAdd, Int.reduceMul, Int.reduceNeg, Int.reduceToNat, Nat.reduceMul, Nat.reduceBEq, index_rsl_if, setm, make_ints, condK_dec, wantK_dec, not_dec, and_dec, or_dec, seqK_ite, seqK_none, blockK_ite, blockK_none, opsK_ite, opsK_none, stepK_ite, stepK_none, bodyK_ite, bodyK_none, resK_ite, resK_none, leaveK_ite, leaveK_none, only_ite, only_none, bind_ite, gives_some, gives_none, gives_ite, then_normal, then_ret, then_exit, then_none, then_ite, Option.bind_none, Bool.not_eq_true', decide_eq_false_iff_not, Bool.and_eq_true, Bool.or_eq_true, Option.some.injEq, Int.not_lt, Int.not_le, lp18_2, hlt, hs, hw, h74, hlo, hlb, q1]
      refine ⟨(m + 1, best), by simp only [go_sem, reduceIte, Nat.reduceEqDiff, Nat.reduceAdd, Nat.reduceSub, Nat.reduceLeDiff, Nat.reduceLT, reduceCtorEq, Int.reduceLT, Int.reduceLE, Int.reduceEq, Int.reduceBEq, Int.reduceSub, Int.reduceAdd, Int.reduceMul, Int.reduceNeg, Int.reduceToNat, Nat.reduceMul, Nat.reduceBEq, ren1_locm, loc_tips, locT_eq, hS1, hS2, okRefs16, renCells16, ren1_t] <;> rfl, ?_, ?_, fun x en s hq => ?_⟩
      · dsimp only; exact ⟨by omega, h2⟩
      · dsimp only; omega
      · exact hq
    · have q1 : ((own.length : Int) < (best.length : Int)) = False := eq_false (by omega)
      rw [if_neg p1] at hsl ⊢
      cases p2 : own.any (fun i => !wiN m (F.getD i.toNat 0)) with
      | true =>
        rw [p2] at h75
        rw [if_pos rfl]
        simp only [go_sem, reduceIte, Nat.reduceEqDiff, Nat.reduceAdd, Nat.reduceSub, Nat.reduceLeDiff, Nat.reduceLT, reduceCtorEq, Int.reduceLT, Int.reduceLE, Int.reduceEq, Int.reduceBEq, Int.reduceSub, Int.reduceAdd, Int.reduceMul, Int.reduceNeg, Int.reduceToNat, Nat.reduceMul, Nat.reduceBEq, index_rsl_if, setm, make_ints, condK_dec, wantK_dec, not_dec, and_dec, or_dec, seqK_ite, seqK_none, blockK_ite, blockK_none, opsK_ite, opsK_none, stepK_ite, stepK_none, bodyK_ite, bodyK_none, resK_ite, resK_none, leaveK_ite, leaveK_none, only_ite, only_none, bind_ite, gives_some, gives_none, gives_ite, then_normal, then_ret, then_exit, then_none, then_ite, Option.bind_none, Bool.not_eq_true', decide_eq_false_iff_not, Bool.and_eq_true, Bool.or_eq_true, Option.some.injEq, Int.not_lt, Int.not_le, lp18_2, hlt, hs, hw, h74, hlo, hlb, q1, h75]
        refine ⟨(m + 1, best), by simp only [go_sem, reduceIte, Nat.reduceEqDiff, Nat.reduceAdd, Nat.reduceSub, Nat.reduceLeDiff, Nat.reduceLT, reduceCtorEq, Int.reduceLT, Int.reduceLE, Int.reduceEq, Int.reduceBEq, Int.reduceSub, Int.reduceAdd, Int.reduceMul, Int.reduceNeg, Int.reduceToNat, Nat.reduceMul, Nat.reduceBEq, ren1_locm, loc_tips, locT_eq, hS1, hS2, okRefs16, renCells16, ren1_t] <;> rfl, ?_, ?_, fun x en s hq => ?_⟩
        · dsimp only; exact ⟨by omega, h2⟩
        · dsimp only; omega
        · exact hq
      | false =>
        rw [p2] at h75 hsl
        rw [if_neg (by simp)] at hsl ⊢
        by_cases p3 : best.length < own.length
        · have q3 : ((best.length : Int) < (own.length : Int)) = True := eq_true (by omega)
          rw [if_pos p3] at hsl ⊢
          simp only [go_sem, reduceIte, Nat.reduceEqDiff, Nat.reduceAdd, Nat.reduceSub, Nat.reduceLeDiff, Nat.reduceLT, reduceCtorEq, Int.reduceLT, Int.reduceLE, Int.reduceEq, Int.reduceBEq, Int.reduceSub, Int.reduceAdd, Int.reduceMul, Int.reduceNeg, Int.reduceToNat, Nat.reduceMul, Nat.reduceBEq, index_rsl_if, setm, make_ints, condK_dec, wantK_dec, not_dec, and_dec, or_dec, seqK_ite, seqK_none, blockK_ite, blockK_none, opsK_ite, opsK_none, stepK_ite, stepK_none, bodyK_ite, bodyK_none, resK_ite, resK_none, leaveK_ite, leaveK_none, only_ite, only_none, bind_ite, gives_some, gives_none, gives_ite, then_normal, then_ret, then_exit, then_none, then_ite, Option.bind_none, Bool.not_eq_true', decide_eq_false_iff_not, Bool.and_eq_true, Bool.or_eq_true, Option.some.injEq, Int.not_lt, Int.not_le, lp18_2, hlt, hs, hw, h74, hlo, hlb, q1, h75, q3]
          refine ⟨(m + 1, own), by simp only [go_sem, reduceIte, Nat.reduceEqDiff, Nat.reduceAdd, Nat.reduceSub, Nat.reduceLeDiff, Nat.reduceLT, reduceCtorEq, Int.reduceLT, Int.reduceLE, Int.reduceEq, Int.reduceBEq, Int.reduceSub, Int.reduceAdd, Int.reduceMul, Int.reduceNeg, Int.reduceToNat, Nat.reduceMul, Nat.reduceBEq, ren1_locm, loc_tips, locT_eq, hS1, hS2, okRefs16, renCells16, ren1_t] <;> rfl, ?_, ?_, fun x en s hq => ?_⟩
          · dsimp only; exact ⟨by omega, hsl⟩
          · dsimp only; omega
          · exact hq
        · have q3 : ((best.length : Int) < (own.length : Int)) = False := eq_false (by omega)
          rw [if_neg p3] at hsl ⊢
          cases p4 : lexLt own best with
          | true =>
            rw [p4] at hcl hsl
            rw [if_pos rfl] at hsl ⊢
            have q4 : (cmpN own best < 0) = True := eq_true (of_decide_eq_true hcl)
            simp only [go_sem, reduceIte, Nat.reduceEqDiff, Nat.reduceAdd, Nat.reduceSub, Nat.reduceLeDiff, Nat.reduceLT, reduceCtorEq, Int.reduceLT, Int.reduceLE, Int.reduceEq, Int.reduceBEq, Int.reduceSub, Int.reduceAdd, Int.reduceMul, Int.reduceNeg, Int.reduceToNat, Nat.reduceMul, Nat.reduceBEq, index_rsl_if, setm, make_ints, condK_dec, wantK_dec, not_dec, and_dec, or_dec, seqK_ite, seqK_none, blockK_ite, blockK_none, opsK_ite, opsK_none, stepK_ite, stepK_none, bodyK_ite, bodyK_none, resK_ite, resK_none, leaveK_ite, leaveK_none, only_ite, only_none, bind_ite, gives_some, gives_none, gives_ite, then_normal, then_ret, then_exit, then_none, then_ite, Option.bind_none, Bool.not_eq_true', decide_eq_false_iff_not, Bool.and_eq_true, Bool.or_eq_true, Option.some.injEq, Int.not_lt, Int.not_le, lp18_2, hlt, hs, hw, h74, hlo, hlb, q1, h75, q3, h42', q4]
            refine ⟨(m + 1, own), by simp only [go_sem, reduceIte, Nat.reduceEqDiff, Nat.reduceAdd, Nat.reduceSub, Nat.reduceLeDiff, Nat.reduceLT, reduceCtorEq, Int.reduceLT, Int.reduceLE, Int.reduceEq, Int.reduceBEq, Int.reduceSub, Int.reduceAdd, Int.reduceMul, Int.reduceNeg, Int.reduceToNat, Nat.reduceMul, Nat.reduceBEq, ren1_locm, loc_tips, locT_eq, hS1, hS2, okRefs16, renCells16, ren1_t] <;> rfl, ?_, ?_, fun x en s hq => ?_⟩
            · dsimp only; exact ⟨by omega, hsl⟩
            · dsimp only; omega
            · exact hq
          | false =>
            rw [p4] at hcl hsl
            rw [if_neg (by simp)] at hsl ⊢
            have q4 : (cmpN own best < 0) = False := eq_false (of_decide_eq_false hcl)
            simp only [go_sem, reduceIte, Nat.reduceEqDiff, Nat.reduceAdd, Nat.reduceSub, Nat.reduceLeDiff, Nat.reduceLT, reduceCtorEq, Int.reduceLT, Int.reduceLE, Int.reduceEq, Int.reduceBEq, Int.reduceSub, Int.reduceAdd, Int.reduceMul, Int.reduceNeg, Int.reduceToNat, Nat.reduceMul, Nat.reduceBEq, index_rsl_if, setm, make_ints, condK_dec, wantK_dec, not_dec, and_dec, or_dec, seqK_ite, seqK_none, blockK_ite, blockK_none, opsK_ite, opsK_none, stepK_ite, stepK_none, bodyK_ite, bodyK_none, resK_ite, resK_none, leaveK_ite, leaveK_none, only_ite, only_none, bind_ite, gives_some, gives_none, gives_ite, then_normal, then_ret, then_exit, then_none, then_ite, Option.bind_none, Bool.not_eq_true', decide_eq_false_iff_not, Bool.and_eq_true, Bool.or_eq_true, Option.some.injEq, Int.not_lt, Int.not_le, lp18_2, hlt, hs, hw, h74, hlo, hlb, q1, h75, q3, h42', q4]
            refine ⟨(m + 1, best), by simp only [go_sem, reduceIte, Nat.reduceEqDiff, Nat.reduceAdd, Nat.reduceSub, Nat.reduceLeDiff, Nat.reduceLT, reduceCtorEq, Int.reduceLT, Int.reduceLE, Int.reduceEq, Int.reduceBEq, Int.reduceSub, Int.reduceAdd, Int.reduceMul, Int.reduceNeg, Int.reduceToNat, Nat.reduceMul, Nat.reduceBEq, ren1_locm, loc_tips, locT_eq, hS1, hS2, okRefs16, renCells16, ren1_t] <;> rfl, ?_, ?_, fun x en s hq => ?_⟩
            · dsimp only; exact ⟨by omega, hsl⟩
            · dsimp only; omega
            · exact hq
  · have hr : N - m = 0 := by omega
    have hlt : ((m : Int) < (N : Int)) = False := eq_false (by omega)
    rw [hr]
    simp only [go_sem, reduceIte, Nat.reduceEqDiff, Nat.reduceAdd, Nat.reduceSub, Nat.reduceLeDiff, Nat.reduceLT, reduceCtorEq, Int.reduceLT, Int.reduceLE, Int.reduceEq, Int.reduceBEq, Int.reduceSub, Int.reduceAdd, Int.reduceMul, Int.reduceNeg, Int.reduceToNat, Nat.reduceMul, Nat.reduceBEq, index_rsl_if, setm, make_ints, condK_dec, wantK_dec, not_dec, and_dec, or_dec, seqK_ite, seqK_none, blockK_ite, blockK_none, opsK_ite, opsK_none, stepK_ite, stepK_none, bodyK_ite, bodyK_none, resK_ite, resK_none, leaveK_ite, leaveK_none, only_ite, only_none, bind_ite, gives_some, gives_none, gives_ite, then_normal, then_ret, then_exit, then_none, then_ite, Option.bind_none, Bool.not_eq_true', decide_eq_false_iff_not, Bool.and_eq_true, Bool.or_eq_true, Option.some.injEq, Int.not_lt, Int.not_le, lp18_2, hlt]
    rfl

attribute [local go_sem] okRef_o storable_o shaped_o cells_o fin_o pub_o shaped_t cells_t isAgg_t storable_t okRef_t pub_t

theorem fin_t (st : St) (l : List Int) : fin st (tAV l) = tAV l := fin_sl st 1 true _
def mostL (ss : List Nat) : List Int := mostF (ss.map (frN ss)) ss.length
theorem shVs_8 (n : Nat) : ∀ xs : List Nat, shVs n (xs.map u8) = xs.map u8
  | [] => rfl
  | x :: r => by simp only [List.map_cons, shVs, shV, shVs_8 n r]
theorem all18a : (List.range 7).map (fun i => callAV L 400 18 [J (2 + i), .v (.slice none 0 0)] ⟨[], []⟩) = (List.range 7).map (fun _ => some (.tup [tAV [], I 0], (⟨[], []⟩ : St))) := by kernel_rfl
theorem all18b : (List.range 7).map (fun i => callAV L 400 18 [J (2 + i), .lst .any 1 []] ⟨[], []⟩) = (List.range 7).map (fun _ => some (.tup [tAV [], I 0], (⟨[], []⟩ : St))) := by kernel_rfl
theorem c18z (n : Nat) (h2 : 2 ≤ n) (hn : n ≤ 8) (nl : Bool) (st : St) : run L 18 [J n, sl 1 nl []] st = some (.tup [tAV [], I 0], st) := by
  obtain ⟨i, rfl⟩ : ∃ i, n = 2 + i := ⟨n - 2, by omega⟩
  cases nl
  · exact run_any' (fn := ir18) rfl rfl (callAV_run L 400 _ _ _ _ (all_of all18b i (by omega))) st
  · exact run_any' (fn := ir18) rfl rfl (callAV_run L 400 _ _ _ _ (all_of all18a i (by omega))) st
theorem shl_i (p : Nat) (h : p < 62) : binAV .shl none (.v (.int .i64 1)) (.v (.int .i64 (p : Int))) = some (J (2 ^ p)) := by
  show (if (p : Int) < 0 then none else some (AV.v (.int .i64 (IntKind.i64.wrap (1 * (2 ^ (min (Int.toNat (p : Int)) 64))))))) = _
  rw [if_neg (by omega), Int.toNat_natCast, show min p 64 = p by omega]
  have e2 : (1 : Int) * ((2 : Int) ^ p) = ((2 ^ p : Nat) : Int) := by simp
  rw [e2]
  have h1 : 2 ^ p < 2 ^ 62 := Nat.pow_lt_pow_right (by omega) h
  generalize 2 ^ p = q at *
  rw [wrap64] <;> omega
theorem c18 (n : Nat) (h2 : 2 ≤ n) (hn : n ≤ 8) (nl : Bool) (X : List Nat) (hX : ∀ v ∈ X, v < 2 ^ n ∧ v ≠ 0 ∧ v ≠ 2 ^ n - 1) (hnd : (X.map (smlN n)).Nodup) (hl : X.length ≤ 9) (st : St) :
    run L 18 [J n, sl 1 nl (X.map tM)] st = some (.tup [tAV (mostL (X.map (smlN n))), I 0], st) := by
  by_cases h0 : X = []
  · subst h0
    exact c18z n h2 hn nl st
  rw [run_pure (fn := ir18) rfl rfl]
  have h70 := c70 n h2 hn nl X hX hnd (by omega)
  have hss : ∀ x ∈ X.map (smlN n), x < 256 := by
    intro x hx
    rw [List.mem_map] at hx
    obtain ⟨v, hv, rfl⟩ := hx
    exact Nat.lt_of_lt_of_le (smlN_lt (hX v hv).1) (Nat.pow_le_pow_right (n := 2) (by decide) hn)
  have hk : (X.map (smlN n)).length ≤ 9 := by rw [List.length_map]; exact hl
  have hne : X.map (smlN n) ≠ [] := by simpa using h0
  have hXl : X.length = (X.map (smlN n)).length := by rw [List.length_map]
  have hm : mostL (X.map (smlN n)) = mostF ((X.map (smlN n)).map (frN (X.map (smlN n)))) (X.map (smlN n)).length := rfl
  rw [hm]
  rw [kA_ne hne, kS_ne hne] at h70
  generalize X.map (smlN n) = ss at *
  have hsv := shVs_8 0 ss
  have hmk : ∀ S T, makeAV 1 true [.v (.int .u16 0)] ⟨S, T⟩ (J ss.length) (J ss.length) = some (.rsl S.length 0 ss.length ss.length 1 true, ⟨S ++ [(List.replicate ss.length 0).map u16], T⟩) := by
    intro S T
    simp only [makeAV, natOf]
    have : ss.length ≤ maxGrow := by unfold maxGrow; omega
    simp [this]
  have hsh := shl_i ss.length (by omega)
  have hF : ∀ f ∈ ss.map (frN ss), f < 65536 := by
    intro f hf
    rw [List.mem_map] at hf
    obtain ⟨a, _, rfl⟩ := hf
    exact Nat.lt_of_lt_of_le (frTo_lt ss a ss.length) (Nat.le_trans (Nat.pow_le_pow_right (by omega) hk) (by decide))
  have hFl : (ss.map (frN ss)).length = ss.length := by simp
  simp only [ir18, go_sem, reduceIte, Nat.reduceEqDiff, Nat.reduceAdd, Nat.reduceSub, Nat.reduceLeDiff, Nat.reduceLT, reduceCtorEq, Int.reduceLT, Int.reduceLE, Int.reduceEq, Int.reduceBEq, Int.reduceSub, Int.reduceAdd, Int.reduceMul, Int.reduceNeg, Int.reduceToNat, Nat.reduceMul, Nat.reduceBEq, h70, show pure 70 = false from rfl, shStore, shV, shVs, hsv, hmk, List.length_map]
  generalize hg : lim (headed pure (run L) true _ lp18_1 _ _) _ _ = o
  obtain ⟨x, en, s, rfl, h2⟩ : ∃ x en s, o = some (x, en, s) ∧ _ := by rw [← hg]; exact loop18_1 ss hss hk 0 (List.replicate ss.length 0) ⟨by omega, by simp⟩ _ _ (by simp only [go_sem, reduceIte, Nat.reduceEqDiff, Nat.reduceAdd, Nat.reduceSub, Nat.reduceLeDiff, Nat.reduceLT, reduceCtorEq, Int.reduceLT, Int.reduceLE, Int.reduceEq, Int.reduceBEq, Int.reduceSub, Int.reduceAdd, Int.reduceMul, Int.reduceNeg, Int.reduceToNat, Nat.reduceMul, Nat.reduceBEq, okRefs8, renCells8, okRefs16, renCells16, Int.natCast_zero] <;> rfl)
  clear hg
  obtain ⟨rfl, e6, e8, rfl⟩ := h2
  simp only [go_sem, reduceIte, Nat.reduceEqDiff, Nat.reduceAdd, Nat.reduceSub, Nat.reduceLeDiff, Nat.reduceLT, reduceCtorEq, Int.reduceLT, Int.reduceLE, Int.reduceEq, Int.reduceBEq, Int.reduceSub, Int.reduceAdd, Int.reduceMul, Int.reduceNeg, Int.reduceToNat, Nat.reduceMul, Nat.reduceBEq, e6, e8, hsh]
  generalize hFe : ss.map (frN ss) = F at *
  rw [← hFl]
  generalize hg : lim (headed pure (run L) true _ lp18_2 _ _) _ _ = o
  obtain ⟨x, en, s, rfl, h2⟩ : ∃ x en s, o = some (x, en, s) ∧ _ := by rw [← hg]; exact loop18_2 (ss.map u8) (fun n => okRefs8 n ss) (fun n T acc => renCells8 n T acc ss) F hF (by omega) 0 [] ⟨Nat.zero_le _, by simp⟩ _ _ (by simp only [go_sem, reduceIte, Nat.reduceEqDiff, Nat.reduceAdd, Nat.reduceSub, Nat.reduceLeDiff, Nat.reduceLT, reduceCtorEq, Int.reduceLT, Int.reduceLE, Int.reduceEq, Int.reduceBEq, Int.reduceSub, Int.reduceAdd, Int.reduceMul, Int.reduceNeg, Int.reduceToNat, Nat.reduceMul, Nat.reduceBEq, e8, okRefs8, renCells8, okRefs16, renCells16, Int.natCast_zero, hFl, show AV.v (.slice none 0 0) = tAV [] from rfl, ren1_t] <;> rfl)
  clear hg
  obtain ⟨rfl, e13⟩ := h2
  simp only [go_sem, reduceIte, Nat.reduceEqDiff, Nat.reduceAdd, Nat.reduceSub, Nat.reduceLeDiff, Nat.reduceLT, reduceCtorEq, Int.reduceLT, Int.reduceLE, Int.reduceEq, Int.reduceBEq, Int.reduceSub, Int.reduceAdd, Int.reduceMul, Int.reduceNeg, Int.reduceToNat, Nat.reduceMul, Nat.reduceBEq, e13, fin_tup, fins, mostF, fin_t, Nat.sub_zero]


/-! ### divisions by numbers: what is known of them -/
structure Sides (n : Nat) (ss : List Nat) : Prop where
  lt : ∀ s ∈ ss, s < 2 ^ n
  ne : ∀ s ∈ ss, s ≠ 0
  even : ∀ s ∈ ss, s.testBit 0 = false
  nd : ss.Nodup
theorem smN_bit {n : Nat} (hn : n ≤ 8) (x i : Nat) : (smN n x).testBit i = (x.testBit i && decide (i < n) && decide (0 < i)) := by
  unfold smN
  rw [dfN_bit (by omega), Nat.testBit_and, full_bit]
  have h1 : (1 : Nat).testBit i = decide (i = 0) := by
    have := Nat.testBit_two_pow (n := 0) (m := i)
    simp only [Nat.pow_zero] at this
    rw [this]; simp only [eq_comm]
  rw [h1]
  by_cases h : i < n
  · by_cases h0 : i = 0
    · subst h0; simp
    · simp [h, h0, show i < 8 by omega, show 0 < i by omega]
  · simp [h]
theorem smN_small {n : Nat} (hn : n ≤ 8) (x : Nat) : smN n x < 2 ^ n := by
  have hp : 0 < 2 ^ n := Nat.two_pow_pos n
  have h1 : smN n x ≤ x &&& (2 ^ n - 1) := Nat.and_le_left
  have h2 : x &&& (2 ^ n - 1) ≤ 2 ^ n - 1 := Nat.and_le_right
  omega
theorem mkS_ok {n : Nat} (hn : n ≤ 8) (g : Nat) {out : List Nat} (h : Sides n out) (x : Nat) : Sides n (mkS n g out x) := by
  unfold mkS
  split
  · exact h
  · next h0 =>
    split
    · exact h
    · next h1 =>
      split
      · exact h
      · refine ⟨?_, ?_, ?_, ?_⟩
        · intro s hs
          rcases List.mem_append.1 hs with hs | hs
          · exact h.lt s hs
          · rw [List.mem_singleton] at hs; subst hs; exact smN_small hn x
        · intro s hs
          rcases List.mem_append.1 hs with hs | hs
          · exact h.ne s hs
          · rw [List.mem_singleton] at hs; subst hs; exact h0
        · intro s hs
          rcases List.mem_append.1 hs with hs | hs
          · exact h.even s hs
          · rw [List.mem_singleton] at hs; subst hs; rw [smN_bit hn]; simp
        · rw [List.nodup_append]
          refine ⟨h.nd, by simp, fun a ha b hb e => ?_⟩
          rw [List.mem_singleton] at hb; subst hb; subst e
          exact h1 ha
theorem fold_ok {n : Nat} (hn : n ≤ 8) (g : Nat) : ∀ (zs out : List Nat), Sides n out → Sides n (zs.foldl (mkS n g) out) ∧ (zs.foldl (mkS n g) out).length ≤ out.length + zs.length
  | [], out, h => ⟨h, by simp⟩
  | z :: r, out, h => by
    have ih := fold_ok hn g r _ (mkS_ok hn g h z)
    have := mkS_len n g out z
    rw [List.foldl_cons]
    refine ⟨ih.1, ?_⟩
    rw [List.length_cons]
    omega
theorem made_ok {n : Nat} (hn : n ≤ 8) (g : Nat) (zs : List Nat) (k : Nat) : Sides n (madeS n g zs k) ∧ (madeS n g zs k).length ≤ k := by
  have h := fold_ok hn g (zs.take k) [] ⟨by simp, by simp, by simp, List.nodup_nil⟩
  refine ⟨h.1, ?_⟩
  have h2 := h.2
  rw [List.length_nil, List.length_take] at h2
  unfold madeS
  omega
theorem Sides.sub {n : Nat} {ss ts : List Nat} (h : Sides n ss) (hs : ts.Sublist ss) : Sides n ts :=
  ⟨fun s m => h.lt s (hs.subset m), fun s m => h.ne s (hs.subset m), fun s m => h.even s (hs.subset m), h.nd.sublist hs⟩

/-! ### the sides that are told are these divisions -/
theorem sml_fl {n : Nat} (hn : 1 ≤ n) (w i : Nat) {s : Nat} (he : s.testBit 0 = false) : smlN n (flN n w i s) = s := by
  unfold flN smlN
  have hf : (2 ^ n - 1).testBit 0 = true := by rw [full_bit]; exact decide_eq_true (by omega)
  split
  · rw [if_pos (by rw [Nat.testBit_xor, he, hf]; rfl), Nat.xor_assoc, Nat.xor_self, Nat.xor_zero]
  · rw [if_neg (by rw [he]; simp)]
theorem told_sml {n : Nat} (hn : 1 ≤ n) (w : Nat) : ∀ (i : Nat) (ss : List Nat), (∀ s ∈ ss, s.testBit 0 = false) → (toldL n w i ss).map (smlN n) = ss
  | _, [], _ => rfl
  | i, s :: r, h => by
    simp only [toldL, List.map_cons]
    rw [sml_fl hn w i (h s (by simp)), told_sml hn w (i + 1) r (fun t ht => h t (by simp [ht]))]
theorem xor_full {n s : Nat} (hs : s ≠ 2 ^ n - 1) : s ^^^ (2 ^ n - 1) ≠ 0 := by
  intro h
  apply hs
  apply Nat.eq_of_testBit_eq; intro i
  have := congrArg (fun x => x.testBit i) h
  simp only [Nat.testBit_xor, Nat.zero_testBit] at this
  cases hv : s.testBit i <;> cases hq : (2 ^ n - 1).testBit i <;> simp_all
theorem told_good {n : Nat} (hn : 1 ≤ n) (w : Nat) : ∀ (i : Nat) (ss : List Nat), (∀ s ∈ ss, s < 2 ^ n ∧ s ≠ 0 ∧ s.testBit 0 = false) → ∀ v ∈ toldL n w i ss, v < 2 ^ n ∧ v ≠ 0 ∧ v ≠ 2 ^ n - 1
  | _, [], _, v, hv => by simp [toldL] at hv
  | i, s :: r, h, v, hv => by
    simp only [toldL, List.mem_cons] at hv
    rcases hv with rfl | hv
    · obtain ⟨h1, h2, h3⟩ := h s (by simp)
      have hf : (2 ^ n - 1).testBit 0 = true := by rw [full_bit]; exact decide_eq_true (by omega)
      have hsf : s ≠ 2 ^ n - 1 := fun e => by rw [e, hf] at h3; cases h3
      have hp : 0 < 2 ^ n := Nat.two_pow_pos n
      unfold flN; split
      · refine ⟨Nat.xor_lt_two_pow h1 (by omega), xor_full hsf, fun e => h2 ?_⟩
        have : (s ^^^ (2 ^ n - 1)) ^^^ (2 ^ n - 1) = (2 ^ n - 1) ^^^ (2 ^ n - 1) := by rw [e]
        rwa [Nat.xor_assoc, Nat.xor_self, Nat.xor_zero] at this
      · exact ⟨h1, h2, hsf⟩
    · exact told_good hn w (i + 1) r (fun t ht => h t (by simp [ht])) v hv
theorem told_len (n w : Nat) : ∀ (i : Nat) (ss : List Nat), (toldL n w i ss).length = ss.length
  | _, [] => rfl
  | i, s :: r => by simp only [toldL, List.length_cons, told_len n w (i + 1) r]

/-! ### sets that agree -/
def okN (ss : List Nat) (m : Nat) : Prop := ∀ i x : Nat, m.testBit i = true → m.testBit x = true → agN (ss.getD i 0) (ss.getD x 0) = true
theorem any_ok {ss : List Nat} (hk : ss.length ≤ 9) {m : Nat} (hm : m < 2 ^ ss.length) : (memb m).any (fun i => !wiN m ((ss.map (frN ss)).getD i.toNat 0)) = false ↔ okN ss m := by
  have h512 : m < 512 := Nat.lt_of_lt_of_le hm (Nat.le_trans (Nat.pow_le_pow_right (by omega) hk) (by decide))
  have hlt : ∀ i, m.testBit i = true → i < ss.length := by
    intro i hi
    apply Nat.lt_of_not_le; intro h9
    rw [tb_lt hm i h9] at hi; cases hi
  have hget : ∀ i, i < ss.length → (ss.map (frN ss)).getD i 0 = frN ss (ss.getD i 0) := by
    intro i hi
    simp [List.getD_eq_getElem?_getD, hi]
  have hfl : ∀ a, frN ss a < 65536 := fun a => Nat.lt_of_lt_of_le (frTo_lt ss a ss.length) (Nat.le_trans (Nat.pow_le_pow_right (by omega) hk) (by decide))
  rw [List.any_eq_false]
  constructor
  · intro h i x hi hx
    have h1 := h i ((memb_mem h512 _).2 ⟨i, rfl, hi⟩)
    rw [Int.toNat_natCast, hget i (hlt i hi)] at h1
    have h2 : wiN m (frN ss (ss.getD i 0)) = true := by simpa using h1
    have h3 := (wiN_iff (by omega) (hfl _)).1 h2 x hx
    unfold frN at h3
    rw [frTo_bit] at h3
    simp only [Bool.and_eq_true] at h3
    exact h3.2
  · intro h a ha
    obtain ⟨i, rfl, hi⟩ := (memb_mem h512 a).1 ha
    rw [Int.toNat_natCast, hget i (hlt i hi)]
    have : wiN m (frN ss (ss.getD i 0)) = true := by
      rw [wiN_iff (by omega) (hfl _)]
      intro x hx
      unfold frN
      rw [frTo_bit]
      simp only [Bool.and_eq_true, decide_eq_true_eq]
      exact ⟨hlt x hx, h i x hi hx⟩
    rw [this]; simp
theorem fold_ge (F : List Nat) : ∀ (ms : List Nat) (best : List Int), best.length ≤ (ms.foldl (stepM F) best).length ∧ ∀ m ∈ ms, (memb m).any (fun i => !wiN m (F.getD i.toNat 0)) = false → (memb m).length ≤ (ms.foldl (stepM F) best).length
  | [], best => ⟨Nat.le_refl _, by simp⟩
  | m :: r, best => by
    have ih := fold_ge F r (stepM F best m)
    have h1 : best.length ≤ (stepM F best m).length := by
      unfold stepM
      split
      · exact Nat.le_refl _
      · split
        · exact Nat.le_refl _
        · split
          · omega
          · split
            · omega
            · exact Nat.le_refl _
    rw [List.foldl_cons]
    refine ⟨Nat.le_trans h1 ih.1, fun x hx hok => ?_⟩
    rw [List.mem_cons] at hx
    rcases hx with rfl | hx
    · refine Nat.le_trans ?_ ih.1
      unfold stepM
      split
      · omega
      · rw [if_neg (by rw [hok]; simp)]
        split
        · exact Nat.le_refl _
        · split
          · exact Nat.le_refl _
          · omega
    · exact ih.2 x hx hok
theorem fold_in (F : List Nat) : ∀ (ms : List Nat) (best : List Int), ms.foldl (stepM F) best = best ∨ ∃ m ∈ ms, (memb m).any (fun i => !wiN m (F.getD i.toNat 0)) = false ∧ ms.foldl (stepM F) best = memb m
  | [], best => .inl rfl
  | m :: r, best => by
    rw [List.foldl_cons]
    have hs : stepM F best m = best ∨ ((memb m).any (fun i => !wiN m (F.getD i.toNat 0)) = false ∧ stepM F best m = memb m) := by
      unfold stepM
      split
      · exact .inl rfl
      · split
        · exact .inl rfl
        · next h =>
          have h' : (memb m).any (fun i => !wiN m (F.getD i.toNat 0)) = false := by simpa using h
          split
          · exact .inr ⟨h', rfl⟩
          · split
            · exact .inr ⟨h', rfl⟩
            · exact .inl rfl
    rcases fold_in F r (stepM F best m) with h | ⟨x, hx, h1, h2⟩
    · rw [h]
      rcases hs with hs | ⟨h1, h2⟩
      · exact .inl hs
      · exact .inr ⟨m, by simp, h1, h2⟩
    · exact .inr ⟨x, by simp [hx], h1, h2⟩
theorem most_ge {ss : List Nat} (hk : ss.length ≤ 9) {m : Nat} (hm : m < 2 ^ ss.length) (h : okN ss m) : (memb m).length ≤ (mostL ss).length :=
  (fold_ge (ss.map (frN ss)) (List.range' 0 (2 ^ ss.length)) []).2 m (by rw [List.mem_range']; exact ⟨m, hm, by omega⟩) ((any_ok hk hm).2 h)
theorem most_in {ss : List Nat} (hk : ss.length ≤ 9) : mostL ss = [] ∨ ∃ m, m < 2 ^ ss.length ∧ okN ss m ∧ mostL ss = memb m := by
  rcases fold_in (ss.map (frN ss)) (List.range' 0 (2 ^ ss.length)) [] with h | ⟨m, hm, h1, h2⟩
  · exact .inl h
  · rw [List.mem_range'] at hm
    obtain ⟨i, hi, rfl⟩ := hm
    have hm2 : 0 + 1 * i < 2 ^ ss.length := by omega
    exact .inr ⟨_, hm2, (any_ok hk hm2).1 h1, h2⟩
theorem memb_cut_all : ((List.range 9).all fun k => (List.range (2 ^ (k + 1))).all fun m => decide ((memb m).length ≤ (memb (m % 2 ^ k)).length + 1)) = true := by kernel_rfl
theorem memb_cut {k m : Nat} (hk : k < 9) (hm : m < 2 ^ (k + 1)) : (memb m).length ≤ (memb (m % 2 ^ k)).length + 1 := by
  have h := List.all_eq_true.1 memb_cut_all k (List.mem_range.2 hk)
  exact of_decide_eq_true (List.all_eq_true.1 h m (List.mem_range.2 hm))
theorem getD_drop (ss : List Nat) (i : Nat) (h : i < ss.length - 1) : (ss.dropLast).getD i 0 = ss.getD i 0 := by
  rw [List.getD_eq_getElem?_getD, List.getD_eq_getElem?_getD, List.getElem?_dropLast, if_pos h]
/-- With one division less there are as many, or one less. -/
theorem most_less {ss : List Nat} (hk : ss.length ≤ 9) (hp : 0 < ss.length) : (mostL ss.dropLast).length ≤ (mostL ss).length ∧ (mostL ss).length ≤ (mostL ss.dropLast).length + 1 := by
  have hl : ss.dropLast.length = ss.length - 1 := List.length_dropLast
  have hpow : 2 ^ (ss.length - 1) < 2 ^ ss.length := Nat.pow_lt_pow_right (by omega) (by omega)
  have hbit : ∀ {m}, m < 2 ^ (ss.length - 1) → ∀ i, m.testBit i = true → i < ss.length - 1 := by
    intro m hm i hi
    apply Nat.lt_of_not_le; intro h9
    rw [tb_lt hm i h9] at hi; cases hi
  constructor
  · rcases most_in (ss := ss.dropLast) (by omega) with h | ⟨m, hm, h1, h2⟩
    · rw [h]; simp
    · rw [h2]
      rw [hl] at hm
      refine most_ge hk (by omega) (fun i x hi hx => ?_)
      have := h1 i x hi hx
      rwa [getD_drop ss i (hbit hm i hi), getD_drop ss x (hbit hm x hx)] at this
  · rcases most_in hk with h | ⟨m, hm, h1, h2⟩
    · rw [h]; simp
    · rw [h2]
      have hc := memb_cut (k := ss.length - 1) (m := m) (by omega) (by rw [show ss.length - 1 + 1 = ss.length by omega]; exact hm)
      have hm2 : m % 2 ^ (ss.length - 1) < 2 ^ (ss.length - 1) := Nat.mod_lt _ (Nat.two_pow_pos _)
      refine Nat.le_trans hc (Nat.add_le_add_right (most_ge (ss := ss.dropLast) (by omega) (by rw [hl]; exact hm2) (fun i x hi hx => ?_)) 1)
      rw [getD_drop ss i (hbit hm2 i hi), getD_drop ss x (hbit hm2 x hx)]
      rw [Nat.testBit_mod_two_pow] at hi hx
      simp only [Bool.and_eq_true] at hi hx
      exact h1 i x hi.2 hx.2

attribute [local go_sem] okRef_o storable_o shaped_o cells_o fin_o pub_o shaped_t cells_t isAgg_t storable_t okRef_t pub_t

def agI (ss : List Nat) (a b : Int) : Bool := agN (ss.getD a.toNat 0) (ss.getD b.toNat 0)
theorem slice_t (l : List Int) (i : Nat) (h : i < l.length) : sliceAV 1 (tAV l) none (some (.v (.int .i64 (i : Int)))) none = some (sl 1 false ((l.take i).map I)) := by
  have e : tAV l = .lst .any 1 (l.map I) := by
    unfold tAV; exact sl_ne (by intro h2; simp at h2; subst h2; simp at h)
  rw [e]
  simp [sliceAV, natOr, natOf, tagSlice, sl, List.map_take]
  omega
set_option maxHeartbeats 1000000 in
theorem loop6_0 (n : Nat) (nl : Bool) (ss : List Nat) (hss : ∀ s ∈ ss, s < 256) (LL : List Nat) (want own : List Int) (N m : Nat) (i : Nat) (hi : i ≤ own.length) (hol : own.length ≤ 9) (hor : ∀ b ∈ own, 0 ≤ b ∧ b < (ss.length : Int)) (x : Nat) (hx : x < ss.length) (C : List AV) (hC1 : ∀ n, okRefs n C = true) (hC2 : ∀ n T acc, renCells n T acc C = (C, acc)) (j : Nat) (g : Bool) (hok : j ≤ i) (env : Env) (st : St)
    (hg : gcAV true 1 0 (canon env [3, 4, 5, 6, 8, 9, 11, 33, 34, 39, 40, 41, 48, 49, 50]) st = ([(3, J n), (4, sl 1 nl (ss.map U)), (5, sl 1 true (LL.map tM)), (6, tAV want), (8, tAV own), (9, B g), (11, J x), (33, U N), (34, U m), (39, tAV own), (40, J own.length), (41, J i), (48, sl 1 false ((own.take i).map I)), (49, J i), (50, J j)], ⟨[C], []⟩)) :
    ∃ x_1 en s, lim (headed pure (run L) true [3, 4, 5, 6, 8, 9, 11, 33, 34, 39, 40, 41, 48, 49, 50] lp6_0 1 0) env st = some (x_1, en, s) ∧ (x_1 = .exit 4 ∧ en.get 3 = J n ∧ en.get 4 = sl 1 nl (ss.map U) ∧ en.get 5 = sl 1 true (LL.map tM) ∧ en.get 6 = tAV want ∧ en.get 8 = tAV own ∧ en.get 9 = B (g && ((own.take i).drop j).all (agI ss x)) ∧ en.get 33 = U N ∧ en.get 34 = U m ∧ en.get 39 = tAV own ∧ en.get 40 = J own.length ∧ en.get 41 = J i ∧ s = ⟨[C], []⟩) := by
  refine loop_wp (α := Nat × Bool) (fun ⟨j, g⟩ => i - j) (fun ⟨j, g⟩ => j ≤ i) (fun ⟨j, g⟩ => ([(3, J n), (4, sl 1 nl (ss.map U)), (5, sl 1 true (LL.map tM)), (6, tAV want), (8, tAV own), (9, B g), (11, J x), (33, U N), (34, U m), (39, tAV own), (40, J own.length), (41, J i), (48, sl 1 false ((own.take i).map I)), (49, J i), (50, J j)], ⟨[C], []⟩)) (fun ⟨j, g⟩ x_1 en s => x_1 = .exit 4 ∧ en.get 3 = J n ∧ en.get 4 = sl 1 nl (ss.map U) ∧ en.get 5 = sl 1 true (LL.map tM) ∧ en.get 6 = tAV want ∧ en.get 8 = tAV own ∧ en.get 9 = B (g && ((own.take i).drop j).all (agI ss x)) ∧ en.get 33 = U N ∧ en.get 34 = U m ∧ en.get 39 = tAV own ∧ en.get 40 = J own.length ∧ en.get 41 = J i ∧ s = ⟨[C], []⟩) (fun ⟨j, g⟩ hok => ?_) ⟨j, g⟩ hok env st hg
  simp only at hok
  dsimp only at hok ⊢
  have hpl : (own.take i).length = i := by rw [List.length_take]; omega
  have hpr : ∀ b ∈ own.take i, 0 ≤ b ∧ b < (ss.length : Int) := fun b hb => hor b (List.mem_of_mem_take hb)
  generalize own.take i = pre at *
  by_cases h : j < i
  · have hs := succ64 j (by omega)
    have hlt : ((j : Int) < (i : Int)) = True := eq_true (by omega)
    have hxj := index_ints false pre j (by omega)
    have hd : pre.drop j = pre[j] :: pre.drop (j + 1) := List.drop_eq_getElem_cons (by omega)
    have hb := hpr pre[j] (List.getElem_mem (by omega))
    rw [hd, List.all_cons]
    generalize pre[j]'(by omega) = b at *
    obtain ⟨y, rfl⟩ := Int.eq_ofNat_of_zero_le hb.1
    have hy : y < ss.length := by omega
    have h1 := idx_sl U nl ss x hx
    have h2 := idx_sl U nl ss y hy
    have hg1 : ss.getD x 0 = ss[x] := by rw [List.getD_eq_getElem?_getD, List.getElem?_eq_getElem hx]; rfl
    have hg2 : ss.getD y 0 = ss[y] := by rw [List.getD_eq_getElem?_getD, List.getElem?_eq_getElem hy]; rfl
    have h41 := fun st => c41 ss[x] ss[y] (hss _ (List.getElem_mem hx)) (hss _ (List.getElem_mem hy)) st
    have hag : agI ss (x : Int) (y : Int) = agN ss[x] ss[y] := by
      unfold agI; rw [Int.toNat_natCast, Int.toNat_natCast, hg1, hg2]
    rw [hag]
    generalize agN ss[x] ss[y] = q at *
    cases g with
    | true =>
      simp only [go_sem, reduceIte, Nat.reduceEqDiff, Nat.reduceAdd, Nat.reduceSub, Nat.reduceLeDiff, Nat.reduceLT, reduceCtorEq, Int.reduceLT, Int.reduceLE, Int.reduceEq, Int.reduceBEq, Int.reduceSub, Int.reduceAdd, Int.reduceMul, Int.reduceNeg, Int.reduceToNat, Nat.reduceMul, Nat.reduceBEq, index_rsl_if, setm, make_ints, condK_dec, wantK_dec, not_dec, and_dec, or_dec, seqK_ite, seqK_none, blockK_ite, blockK_none, opsK_ite, opsK_none, stepK_ite, stepK_none, bodyK_ite, bodyK_none, resK_ite, resK_none, leaveK_ite, leaveK_none, only_ite, only_none, bind_ite, gives_some, gives_none, gives_ite, then_normal, then_ret, then_exit, then_none, then_ite, Option.bind_none, Bool.not_eq_true', decide_eq_false_iff_not, Bool.and_eq_true, Bool.or_eq_true, Option.some.injEq, Int.not_lt, Int.not_le, lp6_0, hlt, hs, hxj, h1, h2, h41]
      refine ⟨(j + 1, q), by simp only [go_sem, reduceIte, Nat.reduceEqDiff, Nat.reduceAdd, Nat.reduceSub, Nat.reduceLeDiff, Nat.reduceLT, reduceCtorEq, Int.reduceLT, Int.reduceLE, Int.reduceEq, Int.reduceBEq, Int.reduceSub, Int.reduceAdd, Int.reduceMul, Int.reduceNeg, Int.reduceToNat, Nat.reduceMul, Nat.reduceBEq, ren1_locm, loc_tips, locT_eq, hC1, hC2, ren1_t] <;> rfl, ?_, ?_, fun x en s hq => ?_⟩
      · dsimp only; omega
      · dsimp only; omega
      · exact hq
    | false =>
      simp only [go_sem, reduceIte, Nat.reduceEqDiff, Nat.reduceAdd, Nat.reduceSub, Nat.reduceLeDiff, Nat.reduceLT, reduceCtorEq, Int.reduceLT, Int.reduceLE, Int.reduceEq, Int.reduceBEq, Int.reduceSub, Int.reduceAdd, Int.reduceMul, Int.reduceNeg, Int.reduceToNat, Nat.reduceMul, Nat.reduceBEq, index_rsl_if, setm, make_ints, condK_dec, wantK_dec, not_dec, and_dec, or_dec, seqK_ite, seqK_none, blockK_ite, blockK_none, opsK_ite, opsK_none, stepK_ite, stepK_none, bodyK_ite, bodyK_none, resK_ite, resK_none, leaveK_ite, leaveK_none, only_ite, only_none, bind_ite, gives_some, gives_none, gives_ite, then_normal, then_ret, then_exit, then_none, then_ite, Option.bind_none, Bool.not_eq_true', decide_eq_false_iff_not, Bool.and_eq_true, Bool.or_eq_true, Option.some.injEq, Int.not_lt, Int.not_le, lp6_0, hlt, hs, hxj]
      refine ⟨(j + 1, false), by simp only [go_sem, reduceIte, Nat.reduceEqDiff, Nat.reduceAdd, Nat.reduceSub, Nat.reduceLeDiff, Nat.reduceLT, reduceCtorEq, Int.reduceLT, Int.reduceLE, Int.reduceEq, Int.reduceBEq, Int.reduceSub, Int.reduceAdd, Int.reduceMul, Int.reduceNeg, Int.reduceToNat, Nat.reduceMul, Nat.reduceBEq, ren1_locm, loc_tips, locT_eq, hC1, hC2, ren1_t] <;> rfl, ?_, ?_, fun x en s hq => ?_⟩
      · dsimp only; omega
      · dsimp only; omega
      · simp only [Bool.false_and] at hq ⊢; exact hq
  · have hd : pre.drop j = [] := List.drop_eq_nil_of_le (by omega)
    have hlt : ((j : Int) < (i : Int)) = False := eq_false (by omega)
    rw [hd, List.all_nil, Bool.and_true]
    simp only [go_sem, reduceIte, Nat.reduceEqDiff, Nat.reduceAdd, Nat.reduceSub, Nat.reduceLeDiff, Nat.reduceLT, reduceCtorEq, Int.reduceLT, Int.reduceLE, Int.reduceEq, Int.reduceBEq, Int.reduceSub, Int.reduceAdd, Int.reduceMul, Int.reduceNeg, Int.reduceToNat, Nat.reduceMul, Nat.reduceBEq, index_rsl_if, setm, make_ints, condK_dec, wantK_dec, not_dec, and_dec, or_dec, seqK_ite, seqK_none, blockK_ite, blockK_none, opsK_ite, opsK_none, stepK_ite, stepK_none, bodyK_ite, bodyK_none, resK_ite, resK_none, leaveK_ite, leaveK_none, only_ite, only_none, bind_ite, gives_some, gives_none, gives_ite, then_normal, then_ret, then_exit, then_none, then_ite, Option.bind_none, Bool.not_eq_true', decide_eq_false_iff_not, Bool.and_eq_true, Bool.or_eq_true, Option.some.injEq, Int.not_lt, Int.not_le, lp6_0, hlt]

def goodTo (ss : List Nat) (own : List Int) : Nat → Bool
  | 0 => true
  | i + 1 => goodTo ss own i && (own.take i).all (agI ss (own.getD i 0))
set_option maxHeartbeats 1000000 in
theorem loop6_1 (n : Nat) (nl : Bool) (ss : List Nat) (hss : ∀ s ∈ ss, s < 256) (LL : List Nat) (want own : List Int) (N m : Nat) (hol : own.length ≤ 9) (hor : ∀ b ∈ own, 0 ≤ b ∧ b < (ss.length : Int)) (C : List AV) (hC1 : ∀ n, okRefs n C = true) (hC2 : ∀ n T acc, renCells n T acc C = (C, acc)) (i : Nat) (g : Bool) (hok : i ≤ own.length ∧ g = goodTo ss own i) (env : Env) (st : St)
    (hg : gcAV true 1 0 (canon env [3, 4, 5, 6, 8, 9, 33, 34, 39, 40, 41]) st = ([(3, J n), (4, sl 1 nl (ss.map U)), (5, sl 1 true (LL.map tM)), (6, tAV want), (8, tAV own), (9, B g), (33, U N), (34, U m), (39, tAV own), (40, J own.length), (41, J i)], ⟨[C], []⟩)) :
    ∃ x_1 en s, lim (headed pure (run L) true [3, 4, 5, 6, 8, 9, 33, 34, 39, 40, 41] lp6_1 1 0) env st = some (x_1, en, s) ∧ (x_1 = .exit 2 ∧ en.get 3 = J n ∧ en.get 4 = sl 1 nl (ss.map U) ∧ en.get 5 = sl 1 true (LL.map tM) ∧ en.get 6 = tAV want ∧ en.get 8 = tAV own ∧ en.get 9 = B (goodTo ss own own.length) ∧ en.get 33 = U N ∧ en.get 34 = U m ∧ s = ⟨[C], []⟩) := by
  refine loop_wp (α := Nat × Bool) (fun ⟨i, g⟩ => own.length - i) (fun ⟨i, g⟩ => i ≤ own.length ∧ g = goodTo ss own i) (fun ⟨i, g⟩ => ([(3, J n), (4, sl 1 nl (ss.map U)), (5, sl 1 true (LL.map tM)), (6, tAV want), (8, tAV own), (9, B g), (33, U N), (34, U m), (39, tAV own), (40, J own.length), (41, J i)], ⟨[C], []⟩)) (fun ⟨i, g⟩ x_1 en s => x_1 = .exit 2 ∧ en.get 3 = J n ∧ en.get 4 = sl 1 nl (ss.map U) ∧ en.get 5 = sl 1 true (LL.map tM) ∧ en.get 6 = tAV want ∧ en.get 8 = tAV own ∧ en.get 9 = B (goodTo ss own own.length) ∧ en.get 33 = U N ∧ en.get 34 = U m ∧ s = ⟨[C], []⟩) (fun ⟨i, g⟩ hok => ?_) ⟨i, g⟩ hok env st hg
  simp only at hok
  obtain ⟨h1, h2⟩ := hok
  dsimp only at h1 h2 ⊢
  by_cases h : i < own.length
  · have hs := succ64 i (by omega)
    have hlt : ((i : Int) < (own.length : Int)) = True := eq_true (by omega)
    have hxi : indexSAV 1 (tAV own) (.v (.int .i64 (i : Int))) = some (.eptr (I own[i]) 0) := index_ints true own i h
    have hb := hor own[i] (List.getElem_mem h)
    have hsl := slice_t own i h
    have hgd : own.getD i 0 = own[i] := by rw [List.getD_eq_getElem?_getD, List.getElem?_eq_getElem h]; rfl
    have hgt : goodTo ss own (i + 1) = (g && (own.take i).all (agI ss (own.getD i 0))) := by rw [h2]; rfl
    rw [hgd] at hgt
    generalize own[i] = b at *
    obtain ⟨x, rfl⟩ := Int.eq_ofNat_of_zero_le hb.1
    have hlen : lenAV (sl 1 false ((own.take i).map I)) = some (J i) := by
      rw [lenm_sl I false, List.length_take, Nat.min_eq_left (by omega)]
    simp only [go_sem, reduceIte, Nat.reduceEqDiff, Nat.reduceAdd, Nat.reduceSub, Nat.reduceLeDiff, Nat.reduceLT, reduceCtorEq, Int.reduceLT, Int.reduceLE, Int.reduceEq, Int.reduceBEq, Int.reduceSub, Int.reduceAdd, Int.reduceMul, Int.reduceNeg, Int.reduceToNat, Nat.reduceMul, Nat.reduceBEq, index_rsl_if, setm, make_ints, condK_dec, wantK_dec, not_dec, and_dec, or_dec, seqK_ite, seqK_none, blockK_ite, blockK_none, opsK_ite, opsK_none, stepK_ite, stepK_none, bodyK_ite, bodyK_none, resK_ite, resK_none, leaveK_ite, leaveK_none, only_ite, only_none, bind_ite, gives_some, gives_none, gives_ite, then_normal, then_ret, then_exit, then_none, then_ite, Option.bind_none, Bool.not_eq_true', decide_eq_false_iff_not, Bool.and_eq_true, Bool.or_eq_true, Option.some.injEq, Int.not_lt, Int.not_le, lp6_1, hlt, hs, hxi, hsl, hlen]
    generalize hg : lim (headed pure (run L) true _ lp6_0 _ _) _ _ = o
    obtain ⟨x, en, s, rfl, h2⟩ : ∃ x en s, o = some (x, en, s) ∧ _ := by rw [← hg]; exact loop6_0 n nl ss hss LL want own N m i (by omega) hol hor x (by omega) C hC1 hC2 0 g (by omega) _ _ (by simp only [go_sem, reduceIte, Nat.reduceEqDiff, Nat.reduceAdd, Nat.reduceSub, Nat.reduceLeDiff, Nat.reduceLT, reduceCtorEq, Int.reduceLT, Int.reduceLE, Int.reduceEq, Int.reduceBEq, Int.reduceSub, Int.reduceAdd, Int.reduceMul, Int.reduceNeg, Int.reduceToNat, Nat.reduceMul, Nat.reduceBEq, hC1, hC2, ren1_t, Int.natCast_zero] <;> rfl)
    clear hg
    rw [List.drop_zero, ← hgt] at h2
    obtain ⟨rfl, e3, e4, e5, e6, e8, e9, e33, e34, e39, e40, e41, rfl⟩ := h2
    simp only [go_sem, reduceIte, Nat.reduceEqDiff, Nat.reduceAdd, Nat.reduceSub, Nat.reduceLeDiff, Nat.reduceLT, reduceCtorEq, Int.reduceLT, Int.reduceLE, Int.reduceEq, Int.reduceBEq, Int.reduceSub, Int.reduceAdd, Int.reduceMul, Int.reduceNeg, Int.reduceToNat, Nat.reduceMul, Nat.reduceBEq, index_rsl_if, setm, make_ints, condK_dec, wantK_dec, not_dec, and_dec, or_dec, seqK_ite, seqK_none, blockK_ite, blockK_none, opsK_ite, opsK_none, stepK_ite, stepK_none, bodyK_ite, bodyK_none, resK_ite, resK_none, leaveK_ite, leaveK_none, only_ite, only_none, bind_ite, gives_some, gives_none, gives_ite, then_normal, then_ret, then_exit, then_none, then_ite, Option.bind_none, Bool.not_eq_true', decide_eq_false_iff_not, Bool.and_eq_true, Bool.or_eq_true, Option.some.injEq, Int.not_lt, Int.not_le, lp6_1, e3, e4, e5, e6, e8, e9, e33, e34, e39, e40, e41, hs]
    refine ⟨(i + 1, goodTo ss own (i + 1)), by simp only [go_sem, reduceIte, Nat.reduceEqDiff, Nat.reduceAdd, Nat.reduceSub, Nat.reduceLeDiff, Nat.reduceLT, reduceCtorEq, Int.reduceLT, Int.reduceLE, Int.reduceEq, Int.reduceBEq, Int.reduceSub, Int.reduceAdd, Int.reduceMul, Int.reduceNeg, Int.reduceToNat, Nat.reduceMul, Nat.reduceBEq, ren1_locm, loc_tips, locT_eq, e3, e4, e5, e6, e8, e9, e33, e34, e39, e40, e41, hC1, hC2, ren1_t] <;> rfl, ?_, ?_, fun x en s hq => ?_⟩
    · dsimp only; exact ⟨by omega, rfl⟩
    · dsimp only; omega
    · exact hq
  · have e : i = own.length := by omega
    subst e
    subst h2
    have hlt : ((own.length : Int) < (own.length : Int)) = False := eq_false (by omega)
    simp only [go_sem, reduceIte, Nat.reduceEqDiff, Nat.reduceAdd, Nat.reduceSub, Nat.reduceLeDiff, Nat.reduceLT, reduceCtorEq, Int.reduceLT, Int.reduceLE, Int.reduceEq, Int.reduceBEq, Int.reduceSub, Int.reduceAdd, Int.reduceMul, Int.reduceNeg, Int.reduceToNat, Nat.reduceMul, Nat.reduceBEq, index_rsl_if, setm, make_ints, condK_dec, wantK_dec, not_dec, and_dec, or_dec, seqK_ite, seqK_none, blockK_ite, blockK_none, opsK_ite, opsK_none, stepK_ite, stepK_none, bodyK_ite, bodyK_none, resK_ite, resK_none, leaveK_ite, leaveK_none, only_ite, only_none, bind_ite, gives_some, gives_none, gives_ite, then_normal, then_ret, then_exit, then_none, then_ite, Option.bind_none, Bool.not_eq_true', decide_eq_false_iff_not, Bool.and_eq_true, Bool.or_eq_true, Option.some.injEq, Int.not_lt, Int.not_le, lp6_1, hlt]

end Go.Proofs.YtdnmhlfjafjkbaaGreatDoor.Vm
