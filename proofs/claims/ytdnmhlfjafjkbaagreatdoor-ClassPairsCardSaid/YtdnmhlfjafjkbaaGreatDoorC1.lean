/- What is proved: what each function of this program computes, as equations on the evaluator. No condition. -/
import Derived.Test.YtdnmhlfjafjkbaaGreatDoorLib
import Derived.Test.YtdnmhlfjafjkbaaGreatDoorSy
import Derived.KernelRfl
import Derived.WalkKit
import Derived.ProofKit
import Derived.OpenShut
set_option linter.all false
namespace Go.Proofs.YtdnmhlfjafjkbaaGreatDoor.Vm
open Go Go.Ev
set_option maxRecDepth 100000
attribute [local go_sem] cells_any storable_any ren1_any shaped_ptr cells_ptr storable_ptr ren1_ptr shaped_eptr cells_eptr storable_eptr ren1_eptr shaped_rsl cells_rsl storable_rsl ren1_rsl shaped_int cells_int storable_int ren1_int shaped_bool cells_bool storable_bool ren1_bool shaped_nils cells_nils storable_nils ren1_nils shaped_lst cells_lst storable_lst shaped_fn cells_fn storable_fn ren1_fn shaped_ifc cells_ifc storable_ifc ren1_ifc shaped_agg cells_agg storable_agg ren1_agg shaped_tup cells_tup storable_tup ren1_tup shaped_nif cells_nif storable_nif ren1_nif ren1_lany ren1_lfull ren1_lown len_lst len_rsl len_nil load_ptr load_eptr isRsl_lst isRsl_nil isRsl_rsl elems_nil elems_lst elems_sl isRsl_sl body_eq bodyK_normal bodyK_ret resK_some leaveK_some only_some code_skip code_exit code_ret code_ops code_seq code_cond code_block seqK_normal seqK_ret seqK_exit condK_true condK_false blockK_normal blockK_ret blockK_exit opsK_some ops_nil ops_cons wantK_true wantK_false stepK_some pubs pub pub_sl params okRef_loc storable_loc shaped_loc cells_loc isRsl_loc elems_loc len_loc untips untip untip_sl wantedAV setElems withO isAgg_v isAgg_agg isAgg_lst isAgg_ptr isAgg_fn isAgg_ifc isAgg_rsl isAgg_sl isAgg_loc List.replicate_succ List.replicate_zero opAV valAV aval avals ofVal Env.get setD canon gcAV renAll renEnv renStore renCells ren1_sl cutSt okEnv okStore okRefs okRef okRef_sl bin_int bin_bool bin_lst bin_rsl bin_nil bin_agg cellsEq cellEq isShift intOp boolOp min_int max_int beq_int bne resAV tupAV leave_eq fin_sl fin_loc fins fin_v fin_lst fin_agg fin_tup fin_fn storeAV readCells putCells cells_sl shaped_sl storable_sl fieldAddrAV len_sl goI List.getElem?_cons_zero List.getElem?_cons_succ List.getElem?_nil Option.bind_some Option.map_some List.length_cons List.length_nil List.all_cons List.all_nil Bool.and_true Bool.true_and Bool.and_false Bool.false_and and_true true_and and_false false_and Bool.false_eq_true List.set_cons_zero List.set_cons_succ List.append_nil List.nil_append List.cons_append List.take_zero List.take_succ_cons List.take_nil List.drop_zero List.drop_succ_cons List.map_cons List.map_nil decide_true decide_false beq_self_eq_true Bool.not_true Bool.not_false or_true true_or or_false false_or Nat.zero_add Nat.add_zero Nat.le_refl Nat.lt_irrefl decide_eq_true_eq eq_self_iff_true not_true_eq_false not_false_eq_true List.getD_cons_zero code_loop Nat.zero_le Nat.not_lt_zero Bool.true_beq Bool.false_beq beq_true beq_false ge_iff_le gt_iff_lt keepR keepT ownTop Lpure pus Option.map_none assert_ifc assert_nil idxA_ptr idxA_eptr idxV_agg Int.cast_ofNat_Int Nat.mul_one Nat.zero_mul Int.toNat_natCast Int.toNat_zero setParts withO2 hasKey eqnil_sl nenil_sl eqnil_loc nenil_loc map_nil_iff okRefs_ints renCells_ints

theorem succ64 (i : Nat) (h : i < 1000000) : IntKind.i64.wrap ((i : Int) + 1) = ((i + 1 : Nat) : Int) := by
  rw [wrap64] <;> omega
theorem index_ints (nl : Bool) (l : List Int) (i : Nat) (h : i < l.length) : indexSAV 1 (sl 1 nl (l.map I)) (.v (.int .i64 i)) = some (.eptr (I l[i]) 0) := by
  rw [index_sl _ _ _ _ _ (by omega) (by simpa using h)]
  simp
abbrev J (n : Nat) : AV := I (n : Int)
abbrev U (n : Nat) : AV := .v (.int .u64 n)
theorem wrapU (n : Nat) (h : n < 2 ^ 64) : IntKind.u64.wrap (n : Int) = n := by
  simp [IntKind.wrap, IntKind.bits, IntKind.signed]; omega
theorem shrU (m p : Nat) (h : p < 64) : Int.fdiv (m : Int) (2 ^ min p 64) = ((m >>> p : Nat) : Int) := by
  have e : min p 64 = p := by omega
  have e2 : ((2 : Int) ^ p) = ((2 ^ p : Nat) : Int) := by simp
  rw [e, e2, Int.fdiv_eq_ediv_of_nonneg _ (Int.natCast_nonneg _), Nat.shiftRight_eq_div_pow]
  simp
theorem and_one (n : Nat) : binAV .and none (.v (.int .u64 (n : Int))) (.v (.int .u64 1)) = some (.v (.int .u64 ((n % 2 : Nat) : Int))) := by
  have h : (BitVec.ofInt 64 (n : Int) &&& BitVec.ofInt 64 1).toNat = n % 2 := by
    rw [BitVec.toNat_and]
    have : (BitVec.ofInt 64 1).toNat = 1 := by decide
    rw [this, Nat.and_one_is_mod, BitVec.ofInt_natCast, BitVec.toNat_ofNat]
    omega
  show some (AV.v (.int .u64 (IntKind.u64.wrap ((BitVec.ofInt 64 (n : Int) &&& BitVec.ofInt 64 1).toNat : Int)))) = _
  rw [h, wrapU _ (by omega)]
theorem shr_u (m p : Nat) : binAV .shr none (.v (.int .u64 (m : Int))) (.v (.int .i64 (p : Int))) = some (.v (.int .u64 ((m >>> min p 64 : Nat) : Int))) := by
  have e := shrU m (min p 64)
  show (if (p : Int) < 0 then none else some (AV.v (.int .u64 (Int.fdiv (m : Int) (2 ^ min (Int.toNat (p : Int)) 64))))) = _
  rw [if_neg (by omega), Int.toNat_natCast]
  have e2 : ((2 : Int) ^ (min p 64)) = ((2 ^ (min p 64) : Nat) : Int) := by simp
  rw [e2, Int.fdiv_eq_ediv_of_nonneg _ (Int.natCast_nonneg _), Nat.shiftRight_eq_div_pow]
  simp
theorem min64 (p : Nat) (h : p < 64) : min p 64 = p := by omega
theorem run_any' {f : FuncId} {fn : IF} (hf : L.fns f = some fn) (hp : L.pure f = true) {args : List AV} {st0 st1 : St} {r : AV} (h : run L f args st0 = some (r, st1)) (st : St) : run L f args st = some (r, st) := by
  rw [run_pure hf hp] at h ⊢
  unfold leaveK at h ⊢
  split at h
  · simp only [leave, Option.some.injEq, Prod.mk.injEq] at h ⊢
    exact ⟨h.1, trivial⟩
  · simp at h
theorem all_of {α : Type} {f g : Nat → α} {k : Nat} (h : (List.range k).map f = (List.range k).map g) (m : Nat) (hm : m < k) : f m = g m := by
  have := congrArg (fun l : List α => l[m]?) h
  simpa [hm] using this
def sh1 (p : Nat) : Nat := 2 ^ min p 64 % 2 ^ 64
theorem sh1_eq (p : Nat) (h : p < 64) : sh1 p = 2 ^ p := by
  unfold sh1; rw [show min p 64 = p by omega]
  exact Nat.mod_eq_of_lt (Nat.pow_lt_pow_right (by omega) h)
theorem shl_one (p : Nat) : binAV .shl none (.v (.int .u64 1)) (.v (.int .i64 (p : Int))) = some (.v (.int .u64 ((sh1 p : Nat) : Int))) := by
  show (if (p : Int) < 0 then none else some (AV.v (.int .u64 (IntKind.u64.wrap (1 * (2 ^ (min (Int.toNat (p : Int)) 64)))))) ) = _
  rw [if_neg (by omega), Int.toNat_natCast]
  have e2 : (1 : Int) * ((2 : Int) ^ (min p 64)) = ((2 ^ (min p 64) : Nat) : Int) := by simp
  rw [e2]
  simp only [sh1, IntKind.wrap, IntKind.bits, IntKind.signed]
  simp
theorem succU (m : Nat) (h : m < 1000000) : IntKind.u64.wrap ((m : Int) + 1) = ((m + 1 : Nat) : Int) := by
  have := wrapU (m + 1) (by omega)
  simpa using this
def andN (a b : Nat) : Nat := a % 2 ^ 64 &&& b % 2 ^ 64
theorem and_u (a b : Nat) : binAV .and none (.v (.int .u64 (a : Int))) (.v (.int .u64 (b : Int))) = some (.v (.int .u64 ((andN a b : Nat) : Int))) := by
  have h : (BitVec.ofInt 64 (a : Int) &&& BitVec.ofInt 64 (b : Int)).toNat = andN a b := by
    rw [BitVec.toNat_and]; simp [BitVec.ofInt_natCast, andN]
  show some (AV.v (.int .u64 (IntKind.u64.wrap ((BitVec.ofInt 64 (a : Int) &&& BitVec.ofInt 64 (b : Int)).toNat : Int)))) = _
  rw [h, wrapU]
  unfold andN
  exact Nat.lt_of_le_of_lt Nat.and_le_left (Nat.mod_lt _ (by decide))
theorem andN_eq (a b : Nat) (ha : a < 512) (hb : b < 512) : andN a b = a &&& b := by
  unfold andN; rw [Nat.mod_eq_of_lt (by omega), Nat.mod_eq_of_lt (by omega)]
def tAV (l : List Int) : AV := sl 1 true (l.map I)
theorem shaped_t (l : List Int) : (tAV l).shaped = true := by unfold tAV sl; split <;> rfl
theorem cells_t (l : List Int) : (tAV l).cells = [tAV l] := by unfold tAV sl; split <;> rfl
theorem isAgg_t (l : List Int) : Ev.isAgg (tAV l) = false := by unfold tAV sl; split <;> rfl
theorem storable_t (l : List Int) : storable (tAV l) = true := by unfold tAV sl; split <;> rfl
theorem okRef_t (n : Nat) (l : List Int) : okRef n (tAV l) = true := by unfold tAV sl; split <;> rfl
theorem pub_t (l : List Int) : pub (tAV l) = tAV l := pub_sl _ _ _


/-! ### a local list that grows -/
def oA (xs : List AV) : AV := loc 1 0 xs
def oT (xs : List AV) : List Nat := locT 0 xs
def oAcc (xs : List AV) : List (Nat × Nat) := if xs.length = 0 then [] else [(0, xs.length)]
theorem okRef_o (n : Nat) (o : List AV) : okRef n (oA o) = true := okRef_loc _ _ _ _
theorem storable_o (o : List AV) : storable (oA o) = true := storable_loc _ _ _
theorem shaped_o (o : List AV) : (oA o).shaped = true := shaped_loc _ _ _
theorem cells_o (o : List AV) : (oA o).cells = [oA o] := cells_loc _ _ _
theorem ren1_o (o : List AV) : ren1 0 (oT o) [] (oA o) = (oA o, oAcc o) := ren1_loc (k := 0) 1 o
theorem oAcc_snd (o : List AV) : (oAcc o).map (fun x => x.2) = oT o := by
  unfold oAcc oT locT; split <;> rfl
theorem fin_o (st : St) (o : List AV) : fin st (oA o) = sl 1 true o := fin_loc st 1 0 _
theorem pub_o (o : List AV) : pub (oA o) = sl 1 true o := pub_loc 1 0 _
theorem append_o (o : List AV) (y : AV) (s : List (List AV)) (h : o.length < 1000) : appendAV 1 (oA o) [y] ⟨s, oT o⟩ = some (oA (o ++ [y]), ⟨s, oT (o ++ [y])⟩) :=
  append_loc (z := 1) (k := 0) y s (by omega) (by unfold maxGrow; omega)
theorem o_start : .v (.slice none 0 0) = oA [] := rfl
theorem oT_nil : oT [] = [] := rfl
theorem len_o (o : List AV) : lenAV (oA o) = some (J o.length) := len_loc _ _ _
attribute [local go_sem] okRef_o storable_o shaped_o cells_o fin_o pub_o

/-! ### sets and their lists -/
abbrev u8 (n : Nat) : AV := .v (.int .u8 n)
abbrev u16 (n : Nat) : AV := .v (.int .u16 n)
abbrev E8 (n : Nat) : AV := .agg [u8 n]
def memb (m : Nat) : List Int := ((List.range 9).filter m.testBit).map fun (i : Nat) => (i : Int)
def tzN (m : Nat) : Nat := ((List.range 9).find? m.testBit).getD 64

theorem all108 : (List.range 512).map (fun m => callAV L 400 108 [U m] ⟨[], []⟩) = (List.range 512).map (fun m => some (J (tzN m), (⟨[], []⟩ : St))) := by kernel_rfl
theorem all106 : (List.range 256).map (fun m => callAV L 400 106 [E8 m, J 0] ⟨[], []⟩) = (List.range 256).map (fun m => some (B (m.testBit 0), (⟨[], []⟩ : St))) := by kernel_rfl
theorem c108 (m : Nat) (h : m < 512) (st : St) : run L 108 [U m] st = some (J (tzN m), st) := run_any' (fn := ir108) rfl rfl (callAV_run L 400 _ _ _ _ (all_of all108 m h)) st
theorem c106 (m : Nat) (h : m < 256) (st : St) : run L 106 [E8 m, J 0] st = some (B (m.testBit 0), st) := run_any' (fn := ir106) rfl rfl (callAV_run L 400 _ _ _ _ (all_of all106 m h)) st
theorem memb_all : (List.range 512).map (fun m => decide (m = 0 ∨ memb m = (tzN m : Int) :: memb (m &&& (m - 1)))) = (List.range 512).map (fun _ => true) := by kernel_rfl
theorem memb_step (m : Nat) (h : m < 512) (h0 : m ≠ 0) : memb m = (tzN m : Int) :: memb (m &&& (m - 1)) := by
  have := all_of memb_all m h
  simp only [decide_eq_true_eq, h0, false_or] at this
  exact this
theorem drop_lt (m : Nat) (h0 : m ≠ 0) : m &&& (m - 1) < m := Nat.lt_of_le_of_lt Nat.and_le_right (by omega)
theorem subU (m : Nat) (h : m < 512) (h0 : m ≠ 0) : IntKind.u64.wrap ((m : Int) - 1) = ((m - 1 : Nat) : Int) := by
  have := wrapU (m - 1) (by omega)
  rw [← this]; congr 1; omega
theorem and_d (a b : Nat) (ha : a < 512) (hb : b < 512) : binAV .and none (.v (.int .u64 (a : Int))) (.v (.int .u64 (b : Int))) = some (.v (.int .u64 ((a &&& b : Nat) : Int))) := by
  rw [and_u, andN_eq a b ha hb]

theorem loop40  (m : Nat) (o : List Int) (hok : m < 512 ∧ o.length + (memb m).length ≤ 9) (env : Env) (st : St)
    (hg : gcAV true 0 0 (canon env [0, 3]) st = ([(0, U m), (3, oA (o.map I))], ⟨[], oT (o.map I)⟩)) :
    ∃ x_1 en s, lim (headed pure (run L) true [0, 3] lp40_0 0 0) env st = some (x_1, en, s) ∧ (x_1 = .exit 0 ∧ en.get 3 = oA ((o ++ memb m).map I) ∧ s = ⟨[], oT ((o ++ memb m).map I)⟩) := by
  refine loop_wp (α := Nat × List Int) (fun ⟨m, o⟩ => m) (fun ⟨m, o⟩ => m < 512 ∧ o.length + (memb m).length ≤ 9) (fun ⟨m, o⟩ => ([(0, U m), (3, oA (o.map I))], ⟨[], oT (o.map I)⟩)) (fun ⟨m, o⟩ x_1 en s => x_1 = .exit 0 ∧ en.get 3 = oA ((o ++ memb m).map I) ∧ s = ⟨[], oT ((o ++ memb m).map I)⟩) (fun ⟨m, o⟩ hok => ?_) ⟨m, o⟩ hok env st hg
  simp only at hok
  obtain ⟨h1, h2⟩ := hok
  dsimp only at h1 h2 ⊢
  by_cases h : m = 0
  · have e : memb 0 = [] := by decide
    subst h
    rw [e, List.append_nil]
    simp only [go_sem, reduceIte, Nat.reduceEqDiff, Nat.reduceAdd, Nat.reduceSub, Nat.reduceLeDiff, Nat.reduceLT, reduceCtorEq, Int.reduceLT, Int.reduceLE, Int.reduceEq, Int.reduceBEq, Int.reduceSub, Int.reduceAdd, Int.reduceMul, Int.reduceNeg, Int.reduceToNat, Nat.reduceMul, Nat.reduceBEq, index_rsl_if, setm, make_ints, condK_dec, wantK_dec, not_dec, and_dec, or_dec, seqK_ite, seqK_none, blockK_ite, blockK_none, opsK_ite, opsK_none, stepK_ite, stepK_none, bodyK_ite, bodyK_none, resK_ite, resK_none, leaveK_ite, leaveK_none, only_ite, only_none, bind_ite, gives_some, gives_none, gives_ite, then_normal, then_ret, then_exit, then_none, then_ite, Option.bind_none, Bool.not_eq_true', decide_eq_false_iff_not, Bool.and_eq_true, Bool.or_eq_true, Option.some.injEq, Int.not_lt, Int.not_le, lp40_0, Int.natCast_zero]
  · have hne : ((m : Int) = 0) = False := eq_false (by omega)
    have ht := fun st => c108 m h1 st
    have hm := memb_step m h1 h
    have hlt := drop_lt m h
    have hs := subU m h1 h
    have ha := and_d m (m - 1) h1 (by omega)
    rw [hm] at h2 ⊢
    rw [List.length_cons] at h2
    have happ := fun S => append_o (o.map I) (J (tzN m)) S (by rw [List.length_map]; omega)
    simp only [go_sem, reduceIte, Nat.reduceEqDiff, Nat.reduceAdd, Nat.reduceSub, Nat.reduceLeDiff, Nat.reduceLT, reduceCtorEq, Int.reduceLT, Int.reduceLE, Int.reduceEq, Int.reduceBEq, Int.reduceSub, Int.reduceAdd, Int.reduceMul, Int.reduceNeg, Int.reduceToNat, Nat.reduceMul, Nat.reduceBEq, index_rsl_if, setm, make_ints, condK_dec, wantK_dec, not_dec, and_dec, or_dec, seqK_ite, seqK_none, blockK_ite, blockK_none, opsK_ite, opsK_none, stepK_ite, stepK_none, bodyK_ite, bodyK_none, resK_ite, resK_none, leaveK_ite, leaveK_none, only_ite, only_none, bind_ite, gives_some, gives_none, gives_ite, then_normal, then_ret, then_exit, then_none, then_ite, Option.bind_none, Bool.not_eq_true', decide_eq_false_iff_not, Bool.and_eq_true, Bool.or_eq_true, Option.some.injEq, Int.not_lt, Int.not_le, lp40_0, hne, ht, hs, ha, happ]
    refine ⟨(m &&& (m - 1), o ++ [(tzN m : Int)]), by simp only [go_sem, reduceIte, Nat.reduceEqDiff, Nat.reduceAdd, Nat.reduceSub, Nat.reduceLeDiff, Nat.reduceLT, reduceCtorEq, Int.reduceLT, Int.reduceLE, Int.reduceEq, Int.reduceBEq, Int.reduceSub, Int.reduceAdd, Int.reduceMul, Int.reduceNeg, Int.reduceToNat, Nat.reduceMul, Nat.reduceBEq, ren1_locm, loc_tips, locT_eq, ren1_o, oAcc_snd, List.map_append] <;> rfl, ?_, ?_, fun x en s hq => ?_⟩
    · dsimp only; exact ⟨by omega, by rw [List.length_append, List.length_singleton]; omega⟩
    · dsimp only; exact hlt
    · simp only [List.append_assoc, List.singleton_append] at hq; exact hq

theorem loop94 (m0 : Nat) (m : Nat) (o : List Int) (hok : m < 512 ∧ o.length + (memb m).length ≤ 9) (env : Env) (st : St)
    (hg : gcAV true 1 0 (canon env [3, 4]) st = ([(3, oA (o.map I)), (4, U m)], ⟨[[u8 m0]], oT (o.map I)⟩)) :
    ∃ x_1 en s, lim (headed pure (run L) true [3, 4] lp94_0 1 0) env st = some (x_1, en, s) ∧ (x_1 = .exit 0 ∧ en.get 3 = oA ((o ++ memb m).map I) ∧ s = ⟨[[u8 m0]], oT ((o ++ memb m).map I)⟩) := by
  refine loop_wp (α := Nat × List Int) (fun ⟨m, o⟩ => m) (fun ⟨m, o⟩ => m < 512 ∧ o.length + (memb m).length ≤ 9) (fun ⟨m, o⟩ => ([(3, oA (o.map I)), (4, U m)], ⟨[[u8 m0]], oT (o.map I)⟩)) (fun ⟨m, o⟩ x_1 en s => x_1 = .exit 0 ∧ en.get 3 = oA ((o ++ memb m).map I) ∧ s = ⟨[[u8 m0]], oT ((o ++ memb m).map I)⟩) (fun ⟨m, o⟩ hok => ?_) ⟨m, o⟩ hok env st hg
  simp only at hok
  obtain ⟨h1, h2⟩ := hok
  dsimp only at h1 h2 ⊢
  by_cases h : m = 0
  · have e : memb 0 = [] := by decide
    subst h
    rw [e, List.append_nil]
    simp only [go_sem, reduceIte, Nat.reduceEqDiff, Nat.reduceAdd, Nat.reduceSub, Nat.reduceLeDiff, Nat.reduceLT, reduceCtorEq, Int.reduceLT, Int.reduceLE, Int.reduceEq, Int.reduceBEq, Int.reduceSub, Int.reduceAdd, Int.reduceMul, Int.reduceNeg, Int.reduceToNat, Nat.reduceMul, Nat.reduceBEq, index_rsl_if, setm, make_ints, condK_dec, wantK_dec, not_dec, and_dec, or_dec, seqK_ite, seqK_none, blockK_ite, blockK_none, opsK_ite, opsK_none, stepK_ite, stepK_none, bodyK_ite, bodyK_none, resK_ite, resK_none, leaveK_ite, leaveK_none, only_ite, only_none, bind_ite, gives_some, gives_none, gives_ite, then_normal, then_ret, then_exit, then_none, then_ite, Option.bind_none, Bool.not_eq_true', decide_eq_false_iff_not, Bool.and_eq_true, Bool.or_eq_true, Option.some.injEq, Int.not_lt, Int.not_le, lp94_0, Int.natCast_zero]
  · have hne : ((m : Int) = 0) = False := eq_false (by omega)
    have ht := fun st => c108 m h1 st
    have hm := memb_step m h1 h
    have hlt := drop_lt m h
    have hs := subU m h1 h
    have ha := and_d m (m - 1) h1 (by omega)
    rw [hm] at h2 ⊢
    rw [List.length_cons] at h2
    have happ := fun S => append_o (o.map I) (J (tzN m)) S (by rw [List.length_map]; omega)
    simp only [go_sem, reduceIte, Nat.reduceEqDiff, Nat.reduceAdd, Nat.reduceSub, Nat.reduceLeDiff, Nat.reduceLT, reduceCtorEq, Int.reduceLT, Int.reduceLE, Int.reduceEq, Int.reduceBEq, Int.reduceSub, Int.reduceAdd, Int.reduceMul, Int.reduceNeg, Int.reduceToNat, Nat.reduceMul, Nat.reduceBEq, index_rsl_if, setm, make_ints, condK_dec, wantK_dec, not_dec, and_dec, or_dec, seqK_ite, seqK_none, blockK_ite, blockK_none, opsK_ite, opsK_none, stepK_ite, stepK_none, bodyK_ite, bodyK_none, resK_ite, resK_none, leaveK_ite, leaveK_none, only_ite, only_none, bind_ite, gives_some, gives_none, gives_ite, then_normal, then_ret, then_exit, then_none, then_ite, Option.bind_none, Bool.not_eq_true', decide_eq_false_iff_not, Bool.and_eq_true, Bool.or_eq_true, Option.some.injEq, Int.not_lt, Int.not_le, lp94_0, hne, ht, hs, ha, happ]
    refine ⟨(m &&& (m - 1), o ++ [(tzN m : Int)]), by simp only [go_sem, reduceIte, Nat.reduceEqDiff, Nat.reduceAdd, Nat.reduceSub, Nat.reduceLeDiff, Nat.reduceLT, reduceCtorEq, Int.reduceLT, Int.reduceLE, Int.reduceEq, Int.reduceBEq, Int.reduceSub, Int.reduceAdd, Int.reduceMul, Int.reduceNeg, Int.reduceToNat, Nat.reduceMul, Nat.reduceBEq, ren1_locm, loc_tips, locT_eq, ren1_o, oAcc_snd, List.map_append] <;> rfl, ?_, ?_, fun x en s hq => ?_⟩
    · dsimp only; exact ⟨by omega, by rw [List.length_append, List.length_singleton]; omega⟩
    · dsimp only; exact hlt
    · simp only [List.append_assoc, List.singleton_append] at hq; exact hq

theorem memb_len (m : Nat) : (memb m).length ≤ 9 := by
  unfold memb; rw [List.length_map]
  exact Nat.le_trans (List.length_filter_le _ _) (by simp)
theorem c40 (m : Nat) (h : m < 512) (st : St) : run L 40 [U m] st = some (tAV (memb m), st) := by
  rw [run_pure (fn := ir40) rfl rfl]
  have hl := memb_len m
  simp only [ir40, go_sem, reduceIte, Nat.reduceEqDiff, Nat.reduceAdd, Nat.reduceSub, Nat.reduceLeDiff, Nat.reduceLT, reduceCtorEq, Int.reduceLT, Int.reduceLE, Int.reduceEq, Int.reduceBEq, Int.reduceSub, Int.reduceAdd, Int.reduceMul, Int.reduceNeg, Int.reduceToNat, Nat.reduceMul, Nat.reduceBEq]
  generalize hg : lim (headed pure (run L) true _ lp40_0 _ _) _ _ = o
  obtain ⟨x, en, s, rfl, h2⟩ : ∃ x en s, o = some (x, en, s) ∧ _ := by rw [← hg]; exact loop40 m [] ⟨h, by simpa using hl⟩ _ _ (by simp only [go_sem, reduceIte, Nat.reduceEqDiff, Nat.reduceAdd, Nat.reduceSub, Nat.reduceLeDiff, Nat.reduceLT, reduceCtorEq, Int.reduceLT, Int.reduceLE, Int.reduceEq, Int.reduceBEq, Int.reduceSub, Int.reduceAdd, Int.reduceMul, Int.reduceNeg, Int.reduceToNat, Nat.reduceMul, Nat.reduceBEq, List.map_nil, ← o_start, oT_nil] <;> rfl)
  clear hg
  obtain ⟨rfl, h3, rfl⟩ := h2
  simp only [go_sem, reduceIte, Nat.reduceEqDiff, Nat.reduceAdd, Nat.reduceSub, Nat.reduceLeDiff, Nat.reduceLT, reduceCtorEq, Int.reduceLT, Int.reduceLE, Int.reduceEq, Int.reduceBEq, Int.reduceSub, Int.reduceAdd, Int.reduceMul, Int.reduceNeg, Int.reduceToNat, Nat.reduceMul, Nat.reduceBEq, h3]
  rfl
theorem c94 (m : Nat) (h : m < 256) (st : St) : run L 94 [E8 m] st = some (tAV (memb m), st) := by
  rw [run_pure (fn := ir94) rfl rfl]
  have hl := memb_len m
  have hw := wrapU m (by omega)
  simp only [ir94, go_sem, reduceIte, Nat.reduceEqDiff, Nat.reduceAdd, Nat.reduceSub, Nat.reduceLeDiff, Nat.reduceLT, reduceCtorEq, Int.reduceLT, Int.reduceLE, Int.reduceEq, Int.reduceBEq, Int.reduceSub, Int.reduceAdd, Int.reduceMul, Int.reduceNeg, Int.reduceToNat, Nat.reduceMul, Nat.reduceBEq, hw]
  generalize hg : lim (headed pure (run L) true _ lp94_0 _ _) _ _ = o
  obtain ⟨x, en, s, rfl, h2⟩ : ∃ x en s, o = some (x, en, s) ∧ _ := by rw [← hg]; exact loop94 m m [] ⟨by omega, by simpa using hl⟩ _ _ (by simp only [go_sem, reduceIte, Nat.reduceEqDiff, Nat.reduceAdd, Nat.reduceSub, Nat.reduceLeDiff, Nat.reduceLT, reduceCtorEq, Int.reduceLT, Int.reduceLE, Int.reduceEq, Int.reduceBEq, Int.reduceSub, Int.reduceAdd, Int.reduceMul, Int.reduceNeg, Int.reduceToNat, Nat.reduceMul, Nat.reduceBEq, List.map_nil, ← o_start, oT_nil] <;> rfl)
  clear hg
  obtain ⟨rfl, h3, rfl⟩ := h2
  simp only [go_sem, reduceIte, Nat.reduceEqDiff, Nat.reduceAdd, Nat.reduceSub, Nat.reduceLeDiff, Nat.reduceLT, reduceCtorEq, Int.reduceLT, Int.reduceLE, Int.reduceEq, Int.reduceBEq, Int.reduceSub, Int.reduceAdd, Int.reduceMul, Int.reduceNeg, Int.reduceToNat, Nat.reduceMul, Nat.reduceBEq, h3]
  rfl


/-! ### do two sides agree? -/
def dfN (a b : Nat) : Nat := a &&& (255 - b)
theorem dfN_bit {a b : Nat} (hb : b < 256) (i : Nat) : (dfN a b).testBit i = (a.testBit i && (decide (i < 8) && !b.testBit i)) := by
  unfold dfN
  rw [Nat.testBit_and, show 255 - b = 2 ^ 8 - (b + 1) from by omega, Nat.testBit_two_pow_sub_succ hb]
theorem dfN_lt {a b : Nat} (ha : a < 256) : dfN a b < 256 := Nat.lt_of_le_of_lt Nat.and_le_left ha
def agN (a b : Nat) : Bool := decide (a &&& b = 0) || decide (dfN a b = 0) || decide (dfN b a = 0)
theorem agN_comm (a b : Nat) : agN a b = agN b a := by
  unfold agN; rw [Nat.and_comm, Bool.or_assoc, Bool.or_assoc]
  congr 1; exact Bool.or_comm _ _
theorem dfN_self {a : Nat} (h : a < 256) : dfN a a = 0 := by
  apply Nat.eq_of_testBit_eq; intro i
  rw [dfN_bit h]; cases a.testBit i <;> simp
theorem agN_self {a : Nat} (h : a < 256) : agN a a = true := by
  unfold agN; rw [dfN_self h]; simp
theorem df_nat (w : Nat) (hw : 8 ≤ w) (a b : Nat) (ha : a < 256) (hb : b < 256) : (BitVec.ofInt w (a : Int) &&& ~~~BitVec.ofInt w (b : Int)).toNat = dfN a b := by
  have hp : 256 ≤ 2 ^ w := Nat.pow_le_pow_right (n := 2) (by decide) hw
  rw [BitVec.toNat_and, BitVec.toNat_not, BitVec.toNat_ofInt, BitVec.toNat_ofInt]
  have ea : ((a : Int) % ((2 ^ w : Nat) : Int)).toNat = a := by rw [← Int.natCast_emod, Int.toNat_natCast]; exact Nat.mod_eq_of_lt (by omega)
  have eb : ((b : Int) % ((2 ^ w : Nat) : Int)).toNat = b := by rw [← Int.natCast_emod, Int.toNat_natCast]; exact Nat.mod_eq_of_lt (by omega)
  rw [ea, eb]
  apply Nat.eq_of_testBit_eq
  intro i
  rw [dfN_bit hb, Nat.testBit_and, show 2 ^ w - 1 - b = 2 ^ w - (b + 1) from by omega, Nat.testBit_two_pow_sub_succ (by omega : b < 2 ^ w)]
  by_cases h : i < 8
  · simp [h, show i < w by omega]
  · have : a.testBit i = false := Nat.testBit_lt_two_pow (Nat.lt_of_lt_of_le ha (Nat.pow_le_pow_right (n := 2) (by decide) (Nat.le_of_not_lt h)))
    rw [this]; simp
theorem wrap8 (n : Nat) (h : n < 256) : IntKind.u8.wrap (n : Int) = n := by
  simp [IntKind.wrap, IntKind.bits, IntKind.signed]; omega
theorem wrap16 (n : Nat) (h : n < 65536) : IntKind.u16.wrap (n : Int) = n := by
  simp [IntKind.wrap, IntKind.bits, IntKind.signed]; omega
theorem dfU (a b : Nat) (ha : a < 256) (hb : b < 256) : binAV .andNot none (.v (.int .u64 (a : Int))) (.v (.int .u64 (b : Int))) = some (.v (.int .u64 ((dfN a b : Nat) : Int))) := by
  show some (AV.v (.int .u64 (IntKind.u64.wrap ((BitVec.ofInt IntKind.u64.bits (a : Int) &&& ~~~BitVec.ofInt IntKind.u64.bits (b : Int)).toNat : Int)))) = _
  rw [df_nat _ (by decide) a b ha hb, wrapU _ (by have := dfN_lt (a := a) (b := b) ha; omega)]
theorem df8 (a b : Nat) (ha : a < 256) (hb : b < 256) : binAV .andNot none (.v (.int .u8 (a : Int))) (.v (.int .u8 (b : Int))) = some (.v (.int .u8 ((dfN a b : Nat) : Int))) := by
  show some (AV.v (.int .u8 (IntKind.u8.wrap ((BitVec.ofInt IntKind.u8.bits (a : Int) &&& ~~~BitVec.ofInt IntKind.u8.bits (b : Int)).toNat : Int)))) = _
  rw [df_nat _ (by decide) a b ha hb, wrap8 _ (dfN_lt ha)]
theorem and8 (a b : Nat) (ha : a < 256) (hb : b < 256) : binAV .and none (.v (.int .u8 (a : Int))) (.v (.int .u8 (b : Int))) = some (.v (.int .u8 ((a &&& b : Nat) : Int))) := by
  have h : (BitVec.ofInt 8 (a : Int) &&& BitVec.ofInt 8 (b : Int)).toNat = a &&& b := by
    rw [BitVec.toNat_and]; simp [BitVec.ofInt_natCast, Nat.mod_eq_of_lt ha, Nat.mod_eq_of_lt hb]
  show some (AV.v (.int .u8 (IntKind.u8.wrap ((BitVec.ofInt 8 (a : Int) &&& BitVec.ofInt 8 (b : Int)).toNat : Int)))) = _
  rw [h, wrap8 _ (Nat.lt_of_le_of_lt Nat.and_le_left ha)]
theorem or8 (a b : Nat) (ha : a < 256) (hb : b < 256) : binAV .or none (.v (.int .u8 (a : Int))) (.v (.int .u8 (b : Int))) = some (.v (.int .u8 ((a ||| b : Nat) : Int))) := by
  have h : (BitVec.ofInt 8 (a : Int) ||| BitVec.ofInt 8 (b : Int)).toNat = a ||| b := by
    rw [BitVec.toNat_or]; simp [BitVec.ofInt_natCast, Nat.mod_eq_of_lt ha, Nat.mod_eq_of_lt hb]
  show some (AV.v (.int .u8 (IntKind.u8.wrap ((BitVec.ofInt 8 (a : Int) ||| BitVec.ofInt 8 (b : Int)).toNat : Int)))) = _
  rw [h, wrap8 _ (Nat.or_lt_two_pow (n := 8) ha hb)]
theorem shl8 (p : Nat) (h : p < 8) : binAV .shl none (.v (.int .u8 1)) (.v (.int .i64 (p : Int))) = some (.v (.int .u8 ((2 ^ p : Nat) : Int))) := by
  show (if (p : Int) < 0 then none else some (AV.v (.int .u8 (IntKind.u8.wrap (1 * (2 ^ (min (Int.toNat (p : Int)) 8)))))) ) = _
  rw [if_neg (by omega), Int.toNat_natCast, show min p 8 = p by omega]
  have e2 : (1 : Int) * ((2 : Int) ^ p) = ((2 ^ p : Nat) : Int) := by simp
  rw [e2, wrap8 _ (Nat.pow_lt_pow_right (by omega) h)]
theorem nat0 (n : Nat) : ((n : Int) = 0) = (n = 0) := propext (by omega)

theorem c41 (a b : Nat) (ha : a < 256) (hb : b < 256) (st : St) : run L 41 [U a, U b] st = some (B (agN a b), st) := by
  rw [run_pure (fn := ir41) rfl rfl]
  have h1 := and_d a b (by omega) (by omega)
  have h2 := dfU a b ha hb
  have h3 := dfU b a hb ha
  have e : agN a b = (decide (a &&& b = 0) || decide (dfN a b = 0) || decide (dfN b a = 0)) := rfl
  rw [e]
  by_cases p1 : a &&& b = 0 <;> by_cases p2 : dfN a b = 0 <;> by_cases p3 : dfN b a = 0 <;>
    simp only [ir41, go_sem, reduceIte, Nat.reduceEqDiff, Nat.reduceAdd, Nat.reduceSub, Nat.reduceLeDiff, Nat.reduceLT, reduceCtorEq, Int.reduceLT, Int.reduceLE, Int.reduceEq, Int.reduceBEq, Int.reduceSub, Int.reduceAdd, Int.reduceMul, Int.reduceNeg, Int.reduceToNat, Nat.reduceMul, Nat.reduceBEq, h1, h2, h3, nat0, p1, p2, p3, Bool.or_true, Bool.or_false, Bool.true_or, Bool.false_or]
theorem c127 (a b : Nat) (ha : a < 256) (hb : b < 256) (st : St) : run L 127 [E8 a, E8 b] st = some (B (decide (dfN a b = 0)), st) := by
  rw [run_pure (fn := ir127) rfl rfl]
  have h2 := df8 a b ha hb
  by_cases p2 : dfN a b = 0 <;> simp only [ir127, go_sem, reduceIte, Nat.reduceEqDiff, Nat.reduceAdd, Nat.reduceSub, Nat.reduceLeDiff, Nat.reduceLT, reduceCtorEq, Int.reduceLT, Int.reduceLE, Int.reduceEq, Int.reduceBEq, Int.reduceSub, Int.reduceAdd, Int.reduceMul, Int.reduceNeg, Int.reduceToNat, Nat.reduceMul, Nat.reduceBEq, h2, nat0, p2]
theorem c73 (a b : Nat) (ha : a < 256) (hb : b < 256) (st : St) : run L 73 [E8 a, E8 b] st = some (B (agN a b), st) := by
  rw [run_pure (fn := ir73) rfl rfl]
  have h1 := and8 a b ha hb
  have h2 := fun st => c127 a b ha hb st
  have h3 := fun st => c127 b a hb ha st
  have e : agN a b = (decide (a &&& b = 0) || decide (dfN a b = 0) || decide (dfN b a = 0)) := rfl
  rw [e]
  by_cases p1 : a &&& b = 0 <;> by_cases p2 : dfN a b = 0 <;> by_cases p3 : dfN b a = 0 <;>
    simp only [ir73, go_sem, reduceIte, Nat.reduceEqDiff, Nat.reduceAdd, Nat.reduceSub, Nat.reduceLeDiff, Nat.reduceLT, reduceCtorEq, Int.reduceLT, Int.reduceLE, Int.reduceEq, Int.reduceBEq, Int.reduceSub, Int.reduceAdd, Int.reduceMul, Int.reduceNeg, Int.reduceToNat, Nat.reduceMul, Nat.reduceBEq, h1, h2, h3, nat0, p1, p2, p3, Bool.or_true, Bool.or_false, Bool.true_or, Bool.false_or]

/-! ### a list as a set -/
def orL (l : List Int) (acc : Nat) : Nat := l.foldl (fun b a => b ||| 2 ^ a.toNat) acc
theorem orL_all : (List.range 256).map (fun m => orL (memb m) 0) = (List.range 256).map (fun m => m) := by kernel_rfl
theorem orL_memb (m : Nat) (h : m < 256) : orL (memb m) 0 = m := all_of orL_all m h
theorem loop105 (nl : Bool) (l : List Int) (hlen : l.length < 1000000) (hl : ∀ a ∈ l, 0 ≤ a ∧ a < 8) (i : Nat) (b : Nat) (hok : i ≤ l.length ∧ b < 256) (env : Env) (st : St)
    (hg : gcAV true 2 0 (canon env [2, 3, 6, 7, 8]) st = ([(2, .ptr 0 0), (3, .ptr 1 0), (6, sl 1 nl (l.map I)), (7, J l.length), (8, J i)], ⟨[[u8 0], [u8 b]], []⟩)) :
    ∃ x_1 en s, lim (headed pure (run L) true [2, 3, 6, 7, 8] lp105_0 2 0) env st = some (x_1, en, s) ∧ (x_1 = .exit 0 ∧ en.get 2 = .ptr 0 0 ∧ en.get 3 = .ptr 1 0 ∧ s = ⟨[[u8 0], [u8 (orL (l.drop i) b)]], []⟩) := by
  refine loop_wp (α := Nat × Nat) (fun ⟨i, b⟩ => l.length - i) (fun ⟨i, b⟩ => i ≤ l.length ∧ b < 256) (fun ⟨i, b⟩ => ([(2, .ptr 0 0), (3, .ptr 1 0), (6, sl 1 nl (l.map I)), (7, J l.length), (8, J i)], ⟨[[u8 0], [u8 b]], []⟩)) (fun ⟨i, b⟩ x_1 en s => x_1 = .exit 0 ∧ en.get 2 = .ptr 0 0 ∧ en.get 3 = .ptr 1 0 ∧ s = ⟨[[u8 0], [u8 (orL (l.drop i) b)]], []⟩) (fun ⟨i, b⟩ hok => ?_) ⟨i, b⟩ hok env st hg
  simp only at hok
  obtain ⟨h1, h2⟩ := hok
  dsimp only at h1 h2 ⊢
  by_cases h : i < l.length
  · have hx := index_ints nl l i h
    have hs := succ64 i (by omega)
    have hd : l.drop i = l[i] :: l.drop (i + 1) := List.drop_eq_getElem_cons h
    have ha := hl l[i] (List.getElem_mem h)
    have hlt : ((i : Int) < (l.length : Int)) = True := eq_true (by omega)
    rw [hd]
    generalize l[i] = a at *
    obtain ⟨p, rfl⟩ := Int.eq_ofNat_of_zero_le ha.1
    have h3 := shl8 p (by omega)
    have hp : 2 ^ p < 256 := Nat.pow_lt_pow_right (n := 8) (by omega) (by omega)
    have h4 := or8 b (2 ^ p) h2 hp
    have e : orL ((p : Int) :: l.drop (i + 1)) b = orL (l.drop (i + 1)) (b ||| 2 ^ p) := by simp [orL]
    rw [e]
    simp only [go_sem, reduceIte, Nat.reduceEqDiff, Nat.reduceAdd, Nat.reduceSub, Nat.reduceLeDiff, Nat.reduceLT, reduceCtorEq, Int.reduceLT, Int.reduceLE, Int.reduceEq, Int.reduceBEq, Int.reduceSub, Int.reduceAdd, Int.reduceMul, Int.reduceNeg, Int.reduceToNat, Nat.reduceMul, Nat.reduceBEq, index_rsl_if, setm, make_ints, condK_dec, wantK_dec, not_dec, and_dec, or_dec, seqK_ite, seqK_none, blockK_ite, blockK_none, opsK_ite, opsK_none, stepK_ite, stepK_none, bodyK_ite, bodyK_none, resK_ite, resK_none, leaveK_ite, leaveK_none, only_ite, only_none, bind_ite, gives_some, gives_none, gives_ite, then_normal, then_ret, then_exit, then_none, then_ite, Option.bind_none, Bool.not_eq_true', decide_eq_false_iff_not, Bool.and_eq_true, Bool.or_eq_true, Option.some.injEq, Int.not_lt, Int.not_le, lp105_0, hx, hlt, hs, h3, h4]
    refine ⟨(i + 1, Nat.lor b (2 ^ p)), by simp only [go_sem, reduceIte, Nat.reduceEqDiff, Nat.reduceAdd, Nat.reduceSub, Nat.reduceLeDiff, Nat.reduceLT, reduceCtorEq, Int.reduceLT, Int.reduceLE, Int.reduceEq, Int.reduceBEq, Int.reduceSub, Int.reduceAdd, Int.reduceMul, Int.reduceNeg, Int.reduceToNat, Nat.reduceMul, Nat.reduceBEq, ren1_locm, loc_tips, locT_eq] <;> rfl, ?_, ?_, fun x en s hq => ?_⟩
    · dsimp only; exact ⟨by omega, Nat.or_lt_two_pow (n := 8) h2 hp⟩
    · dsimp only; omega
    · exact hq
  · have hd : l.drop i = [] := List.drop_eq_nil_of_le (by omega)
    have hlt : ((i : Int) < (l.length : Int)) = False := eq_false (by omega)
    rw [hd]
    simp only [go_sem, reduceIte, Nat.reduceEqDiff, Nat.reduceAdd, Nat.reduceSub, Nat.reduceLeDiff, Nat.reduceLT, reduceCtorEq, Int.reduceLT, Int.reduceLE, Int.reduceEq, Int.reduceBEq, Int.reduceSub, Int.reduceAdd, Int.reduceMul, Int.reduceNeg, Int.reduceToNat, Nat.reduceMul, Nat.reduceBEq, index_rsl_if, setm, make_ints, condK_dec, wantK_dec, not_dec, and_dec, or_dec, seqK_ite, seqK_none, blockK_ite, blockK_none, opsK_ite, opsK_none, stepK_ite, stepK_none, bodyK_ite, bodyK_none, resK_ite, resK_none, leaveK_ite, leaveK_none, only_ite, only_none, bind_ite, gives_some, gives_none, gives_ite, then_normal, then_ret, then_exit, then_none, then_ite, Option.bind_none, Bool.not_eq_true', decide_eq_false_iff_not, Bool.and_eq_true, Bool.or_eq_true, Option.some.injEq, Int.not_lt, Int.not_le, lp105_0, hlt]
    rfl

theorem c105g (nl : Bool) (l : List Int) (hlen : l.length < 1000000) (hl : ∀ a ∈ l, 0 ≤ a ∧ a < 8) (st : St) : run L 105 [sl 1 nl (l.map I)] st = some (E8 (orL l 0), st) := by
  rw [run_pure (fn := ir105) rfl rfl]
  simp only [ir105, go_sem, reduceIte, Nat.reduceEqDiff, Nat.reduceAdd, Nat.reduceSub, Nat.reduceLeDiff, Nat.reduceLT, reduceCtorEq, Int.reduceLT, Int.reduceLE, Int.reduceEq, Int.reduceBEq, Int.reduceSub, Int.reduceAdd, Int.reduceMul, Int.reduceNeg, Int.reduceToNat, Nat.reduceMul, Nat.reduceBEq, List.length_map]
  generalize hg : lim (headed pure (run L) true _ lp105_0 _ _) _ _ = o
  obtain ⟨x, en, s, rfl, h2⟩ : ∃ x en s, o = some (x, en, s) ∧ _ := by rw [← hg]; exact loop105 nl l hlen hl 0 0 ⟨by omega, by omega⟩ _ _ (by simp only [go_sem, reduceIte, Nat.reduceEqDiff, Nat.reduceAdd, Nat.reduceSub, Nat.reduceLeDiff, Nat.reduceLT, reduceCtorEq, Int.reduceLT, Int.reduceLE, Int.reduceEq, Int.reduceBEq, Int.reduceSub, Int.reduceAdd, Int.reduceMul, Int.reduceNeg, Int.reduceToNat, Nat.reduceMul, Nat.reduceBEq] <;> rfl)
  clear hg
  rw [List.drop_zero] at h2
  obtain ⟨rfl, h3, h4, rfl⟩ := h2
  simp only [go_sem, reduceIte, Nat.reduceEqDiff, Nat.reduceAdd, Nat.reduceSub, Nat.reduceLeDiff, Nat.reduceLT, reduceCtorEq, Int.reduceLT, Int.reduceLE, Int.reduceEq, Int.reduceBEq, Int.reduceSub, Int.reduceAdd, Int.reduceMul, Int.reduceNeg, Int.reduceToNat, Nat.reduceMul, Nat.reduceBEq, h3, h4]
theorem memb_lt {m : Nat} (h : m < 256) : ∀ a ∈ memb m, 0 ≤ a ∧ a < 8 := by
  intro a ha
  unfold memb at ha
  rw [List.mem_map] at ha
  obtain ⟨i, hi, rfl⟩ := ha
  rw [List.mem_filter] at hi
  have : i < 8 := by
    by_cases h8 : i < 8
    · exact h8
    · have := Nat.testBit_lt_two_pow (Nat.lt_of_lt_of_le h (Nat.pow_le_pow_right (n := 2) (by decide) (Nat.le_of_not_lt h8)) : m < 2 ^ i)
      rw [this] at hi; simp at hi
  omega
theorem c105 (m : Nat) (h : m < 256) (st : St) : run L 105 [tAV (memb m)] st = some (E8 m, st) := by
  have := memb_len m
  have e := c105g true (memb m) (by omega) (memb_lt h) st
  rw [orL_memb m h] at e
  exact e


/-! ### the first one of a list with a property -/
def idxF {α : Type} (p : α → Bool) (xs : List α) : Int := match xs.findIdx? p with | some j => (j : Int) | none => -1
theorem idxF_any {α : Type} (p : α → Bool) (xs : List α) : decide (0 ≤ idxF p xs) = xs.any p := by
  unfold idxF
  cases h : xs.findIdx? p with
  | none =>
    have : xs.any p = false := by
      rw [List.any_eq_false]
      intro x hx
      have := List.findIdx?_eq_none_iff.1 h x hx
      simp [this]
    rw [this]; rfl
  | some j =>
    have : xs.any p = true := by
      rw [List.findIdx?_eq_some_iff_getElem] at h
      obtain ⟨h1, h2, _⟩ := h
      rw [List.any_eq_true]
      exact ⟨xs[j], List.getElem_mem h1, h2⟩
    rw [this]; simp
theorem idx_sl {α : Type} (f : α → AV) (nl : Bool) (xs : List α) (i : Nat) (h : i < xs.length) : indexSAV 1 (sl 1 nl (xs.map f)) (J i) = some (.eptr (f xs[i]) 0) := by
  rw [index_sl _ _ _ _ _ (by omega) (by simpa using h)]
  simp
theorem idx_o {α : Type} (f : α → AV) (xs : List α) (i : Nat) (h : i < xs.length) : indexSAV 1 (oA (xs.map f)) (J i) = some (.eptr (f xs[i]) 0) := by
  unfold oA
  rw [index_loc _ _ _ _ _ (by omega) (by simpa using h)]
  simp
theorem lenm_sl {α : Type} (f : α → AV) (nl : Bool) (xs : List α) : lenAV (sl 1 nl (xs.map f)) = some (J xs.length) := by rw [len_sl, List.length_map]
theorem lenm_o {α : Type} (f : α → AV) (xs : List α) : lenAV (oA (xs.map f)) = some (J xs.length) := by rw [len_o, List.length_map]

theorem loop117 (st0 : St) (k : Nat) (hk : pure k = false) (caps : List AV) (X : AV) (xs : List Nat) (hlen : xs.length < 1000000) (hX : lenAV X = some (J xs.length)) (hI : ∀ i (h : i < xs.length), indexSAV 1 X (J i) = some (.eptr (U xs[i]) 0)) (p : Nat → Bool) (hc : ∀ x ∈ xs, run L k (U x :: caps) st0 = some (B (p x), st0)) (lo hi : Nat) (i : Nat) (hok : i ≤ xs.length) (env : Env) (st : St)
    (hg : gcAV false lo hi (canon env [0, 1, 7, 8]) st = ([(0, X), (1, .fn (.func k) [] caps), (7, J xs.length), (8, J i)], st0)) :
    ∃ x_1 en s, lim (headed pure (run L) false [0, 1, 7, 8] lp117_0 lo hi) env st = some (x_1, en, s) ∧ (s = st0 ∧ ((x_1 = .exit 0 ∧ (xs.drop i).findIdx? p = none) ∨ (x_1 = .ret ∧ ∃ j : Nat, (xs.drop i).findIdx? p = some j ∧ en.get 4 = J (i + j)))) := by
  refine loop_wp (α := Nat) (fun i => xs.length - i) (fun i => i ≤ xs.length) (fun i => ([(0, X), (1, .fn (.func k) [] caps), (7, J xs.length), (8, J i)], st0)) (fun i x_1 en s => s = st0 ∧ ((x_1 = .exit 0 ∧ (xs.drop i).findIdx? p = none) ∨ (x_1 = .ret ∧ ∃ j : Nat, (xs.drop i).findIdx? p = some j ∧ en.get 4 = J (i + j)))) (fun i hok => ?_) i hok env st hg
  by_cases h : i < xs.length
  · have hx := hI i h
    have hs := succ64 i (by omega)
    have hd : xs.drop i = xs[i] :: xs.drop (i + 1) := List.drop_eq_getElem_cons h
    have hcall := hc xs[i] (List.getElem_mem h)
    have hlt : ((i : Int) < (xs.length : Int)) = True := eq_true (by omega)
    rw [hd, List.findIdx?_cons]
    generalize xs[i] = a at *
    cases hp : p a with
    | true =>
      rw [hp] at hcall
      simp only [go_sem, reduceIte, Nat.reduceEqDiff, Nat.reduceAdd, Nat.reduceSub, Nat.reduceLeDiff, Nat.reduceLT, reduceCtorEq, Int.reduceLT, Int.reduceLE, Int.reduceEq, Int.reduceBEq, Int.reduceSub, Int.reduceAdd, Int.reduceMul, Int.reduceNeg, Int.reduceToNat, Nat.reduceMul, Nat.reduceBEq, index_rsl_if, setm, make_ints, condK_dec, wantK_dec, not_dec, and_dec, or_dec, seqK_ite, seqK_none, blockK_ite, blockK_none, opsK_ite, opsK_none, stepK_ite, stepK_none, bodyK_ite, bodyK_none, resK_ite, resK_none, leaveK_ite, leaveK_none, only_ite, only_none, bind_ite, gives_some, gives_none, gives_ite, then_normal, then_ret, then_exit, then_none, then_ite, Option.bind_none, Bool.not_eq_true', decide_eq_false_iff_not, Bool.and_eq_true, Bool.or_eq_true, Option.some.injEq, Int.not_lt, Int.not_le, lp117_0, hx, hlt, hk, hcall]
      exact ⟨0, rfl, rfl⟩
    | false =>
      rw [hp] at hcall
      simp only [go_sem, reduceIte, Nat.reduceEqDiff, Nat.reduceAdd, Nat.reduceSub, Nat.reduceLeDiff, Nat.reduceLT, reduceCtorEq, Int.reduceLT, Int.reduceLE, Int.reduceEq, Int.reduceBEq, Int.reduceSub, Int.reduceAdd, Int.reduceMul, Int.reduceNeg, Int.reduceToNat, Nat.reduceMul, Nat.reduceBEq, index_rsl_if, setm, make_ints, condK_dec, wantK_dec, not_dec, and_dec, or_dec, seqK_ite, seqK_none, blockK_ite, blockK_none, opsK_ite, opsK_none, stepK_ite, stepK_none, bodyK_ite, bodyK_none, resK_ite, resK_none, leaveK_ite, leaveK_none, only_ite, only_none, bind_ite, gives_some, gives_none, gives_ite, then_normal, then_ret, then_exit, then_none, then_ite, Option.bind_none, Bool.not_eq_true', decide_eq_false_iff_not, Bool.and_eq_true, Bool.or_eq_true, Option.some.injEq, Int.not_lt, Int.not_le, lp117_0, hx, hlt, hk, hcall, hs]
      refine ⟨i + 1, by simp only [go_sem, reduceIte, Nat.reduceEqDiff, Nat.reduceAdd, Nat.reduceSub, Nat.reduceLeDiff, Nat.reduceLT, reduceCtorEq, Int.reduceLT, Int.reduceLE, Int.reduceEq, Int.reduceBEq, Int.reduceSub, Int.reduceAdd, Int.reduceMul, Int.reduceNeg, Int.reduceToNat, Nat.reduceMul, Nat.reduceBEq, ren1_locm, loc_tips, locT_eq] <;> rfl, ?_, ?_, fun x en s hq => ?_⟩
      · omega
      · omega
      · obtain ⟨rfl, hq⟩ := hq
        refine ⟨rfl, ?_⟩
        rcases hq with ⟨rfl, hq⟩ | ⟨rfl, j, hq, hj⟩
        · left; rw [hq]; exact ⟨rfl, rfl⟩
        · right; refine ⟨rfl, j + 1, by rw [hq]; rfl, ?_⟩
          rw [hj, show i + 1 + j = i + (j + 1) by omega]
  · have hd : xs.drop i = [] := List.drop_eq_nil_of_le (by omega)
    have hlt : ((i : Int) < (xs.length : Int)) = False := eq_false (by omega)
    rw [hd]
    simp only [go_sem, reduceIte, Nat.reduceEqDiff, Nat.reduceAdd, Nat.reduceSub, Nat.reduceLeDiff, Nat.reduceLT, reduceCtorEq, Int.reduceLT, Int.reduceLE, Int.reduceEq, Int.reduceBEq, Int.reduceSub, Int.reduceAdd, Int.reduceMul, Int.reduceNeg, Int.reduceToNat, Nat.reduceMul, Nat.reduceBEq, index_rsl_if, setm, make_ints, condK_dec, wantK_dec, not_dec, and_dec, or_dec, seqK_ite, seqK_none, blockK_ite, blockK_none, opsK_ite, opsK_none, stepK_ite, stepK_none, bodyK_ite, bodyK_none, resK_ite, resK_none, leaveK_ite, leaveK_none, only_ite, only_none, bind_ite, gives_some, gives_none, gives_ite, then_normal, then_ret, then_exit, then_none, then_ite, Option.bind_none, Bool.not_eq_true', decide_eq_false_iff_not, Bool.and_eq_true, Bool.or_eq_true, Option.some.injEq, Int.not_lt, Int.not_le, lp117_0, hlt]
    trivial

theorem c117 (st0 : St) (k : Nat) (hk : pure k = false) (caps : List AV) (X : AV) (xs : List Nat) (hlen : xs.length < 1000000) (hX : lenAV X = some (J xs.length)) (hI : ∀ i (h : i < xs.length), indexSAV 1 X (J i) = some (.eptr (U xs[i]) 0)) (p : Nat → Bool) (hc : ∀ x ∈ xs, run L k (U x :: caps) st0 = some (B (p x), st0)) :
    run L 117 [X, .fn (.func k) [] caps] st0 = some (I (idxF p xs), st0) := by
  rw [run_shared (fn := ir117) rfl rfl]
  simp only [ir117, go_sem, reduceIte, Nat.reduceEqDiff, Nat.reduceAdd, Nat.reduceSub, Nat.reduceLeDiff, Nat.reduceLT, reduceCtorEq, Int.reduceLT, Int.reduceLE, Int.reduceEq, Int.reduceBEq, Int.reduceSub, Int.reduceAdd, Int.reduceMul, Int.reduceNeg, Int.reduceToNat, Nat.reduceMul, Nat.reduceBEq, hX]
  generalize hg : lim (headed pure (run L) false _ lp117_0 _ _) _ _ = o
  obtain ⟨x, en, s, rfl, h2⟩ : ∃ x en s, o = some (x, en, s) ∧ _ := by rw [← hg]; exact loop117 st0 k hk caps X xs hlen hX hI p hc _ _ 0 (by omega) _ _ (by simp only [go_sem, reduceIte, Nat.reduceEqDiff, Nat.reduceAdd, Nat.reduceSub, Nat.reduceLeDiff, Nat.reduceLT, reduceCtorEq, Int.reduceLT, Int.reduceLE, Int.reduceEq, Int.reduceBEq, Int.reduceSub, Int.reduceAdd, Int.reduceMul, Int.reduceNeg, Int.reduceToNat, Nat.reduceMul, Nat.reduceBEq] <;> rfl)
  clear hg
  rw [List.drop_zero] at h2
  obtain ⟨rfl, h2⟩ := h2
  unfold idxF
  rcases h2 with ⟨rfl, h2⟩ | ⟨rfl, j, h2, h3⟩
  · rw [h2]
    simp only [go_sem, reduceIte, Nat.reduceEqDiff, Nat.reduceAdd, Nat.reduceSub, Nat.reduceLeDiff, Nat.reduceLT, reduceCtorEq, Int.reduceLT, Int.reduceLE, Int.reduceEq, Int.reduceBEq, Int.reduceSub, Int.reduceAdd, Int.reduceMul, Int.reduceNeg, Int.reduceToNat, Nat.reduceMul, Nat.reduceBEq]
  · rw [h2]
    rw [Nat.zero_add] at h3
    simp only [go_sem, reduceIte, Nat.reduceEqDiff, Nat.reduceAdd, Nat.reduceSub, Nat.reduceLeDiff, Nat.reduceLT, reduceCtorEq, Int.reduceLT, Int.reduceLE, Int.reduceEq, Int.reduceBEq, Int.reduceSub, Int.reduceAdd, Int.reduceMul, Int.reduceNeg, Int.reduceToNat, Nat.reduceMul, Nat.reduceBEq, h3]
theorem c56 (st0 : St) (k : Nat) (hk : pure k = false) (caps : List AV) (X : AV) (xs : List Nat) (hlen : xs.length < 1000000) (hX : lenAV X = some (J xs.length)) (hI : ∀ i (h : i < xs.length), indexSAV 1 X (J i) = some (.eptr (U xs[i]) 0)) (p : Nat → Bool) (hc : ∀ x ∈ xs, run L k (U x :: caps) st0 = some (B (p x), st0)) :
    run L 56 [X, .fn (.func k) [] caps] st0 = some (B (xs.any p), st0) := by
  have h := c117 st0 k hk caps X xs hlen hX hI p hc
  rw [run_shared (fn := ir56) rfl rfl]
  simp only [ir56, go_sem, reduceIte, Nat.reduceEqDiff, Nat.reduceAdd, Nat.reduceSub, Nat.reduceLeDiff, Nat.reduceLT, reduceCtorEq, Int.reduceLT, Int.reduceLE, Int.reduceEq, Int.reduceBEq, Int.reduceSub, Int.reduceAdd, Int.reduceMul, Int.reduceNeg, Int.reduceToNat, Nat.reduceMul, Nat.reduceBEq, h, idxF_any]

theorem loop116 (nl : Bool) (xs : List Nat) (hlen : xs.length < 1000000) (a : Nat) (i : Nat) (hok : i ≤ xs.length) (env : Env) (st : St)
    (hg : gcAV true 0 0 (canon env [0, 1, 7, 8]) st = ([(0, sl 1 nl (xs.map U)), (1, U a), (7, J xs.length), (8, J i)], ⟨[], []⟩)) :
    ∃ x_1 en s, lim (headed pure (run L) true [0, 1, 7, 8] lp116_0 0 0) env st = some (x_1, en, s) ∧ (if a ∈ xs.drop i then x_1 = .ret ∧ ∃ j : Nat, en.get 4 = J j else x_1 = .exit 0) := by
  refine loop_wp (α := Nat) (fun i => xs.length - i) (fun i => i ≤ xs.length) (fun i => ([(0, sl 1 nl (xs.map U)), (1, U a), (7, J xs.length), (8, J i)], ⟨[], []⟩)) (fun i x_1 en s => if a ∈ xs.drop i then x_1 = .ret ∧ ∃ j : Nat, en.get 4 = J j else x_1 = .exit 0) (fun i hok => ?_) i hok env st hg
  by_cases h : i < xs.length
  · have hx := idx_sl U nl xs i h
    have hs := succ64 i (by omega)
    have hd : xs.drop i = xs[i] :: xs.drop (i + 1) := List.drop_eq_getElem_cons h
    have hlt : ((i : Int) < (xs.length : Int)) = True := eq_true (by omega)
    rw [hd]
    generalize xs[i] = b at *
    by_cases p : a = b
    · have e : ((a : Int) = (b : Int)) = True := eq_true (by omega)
      simp only [go_sem, reduceIte, Nat.reduceEqDiff, Nat.reduceAdd, Nat.reduceSub, Nat.reduceLeDiff, Nat.reduceLT, reduceCtorEq, Int.reduceLT, Int.reduceLE, Int.reduceEq, Int.reduceBEq, Int.reduceSub, Int.reduceAdd, Int.reduceMul, Int.reduceNeg, Int.reduceToNat, Nat.reduceMul, Nat.reduceBEq, index_rsl_if, setm, make_ints, condK_dec, wantK_dec, not_dec, and_dec, or_dec, seqK_ite, seqK_none, blockK_ite, blockK_none, opsK_ite, opsK_none, stepK_ite, stepK_none, bodyK_ite, bodyK_none, resK_ite, resK_none, leaveK_ite, leaveK_none, only_ite, only_none, bind_ite, gives_some, gives_none, gives_ite, then_normal, then_ret, then_exit, then_none, then_ite, Option.bind_none, Bool.not_eq_true', decide_eq_false_iff_not, Bool.and_eq_true, Bool.or_eq_true, Option.some.injEq, Int.not_lt, Int.not_le, lp116_0, hx, hlt, e]
      rw [if_pos (by simp [p])]; exact ⟨i, rfl⟩
    · have e : ((a : Int) = (b : Int)) = False := eq_false (by omega)
      simp only [go_sem, reduceIte, Nat.reduceEqDiff, Nat.reduceAdd, Nat.reduceSub, Nat.reduceLeDiff, Nat.reduceLT, reduceCtorEq, Int.reduceLT, Int.reduceLE, Int.reduceEq, Int.reduceBEq, Int.reduceSub, Int.reduceAdd, Int.reduceMul, Int.reduceNeg, Int.reduceToNat, Nat.reduceMul, Nat.reduceBEq, index_rsl_if, setm, make_ints, condK_dec, wantK_dec, not_dec, and_dec, or_dec, seqK_ite, seqK_none, blockK_ite, blockK_none, opsK_ite, opsK_none, stepK_ite, stepK_none, bodyK_ite, bodyK_none, resK_ite, resK_none, leaveK_ite, leaveK_none, only_ite, only_none, bind_ite, gives_some, gives_none, gives_ite, then_normal, then_ret, then_exit, then_none, then_ite, Option.bind_none, Bool.not_eq_true', decide_eq_false_iff_not, Bool.and_eq_true, Bool.or_eq_true, Option.some.injEq, Int.not_lt, Int.not_le, lp116_0, hx, hlt, e, hs]
      refine ⟨i + 1, by simp only [go_sem, reduceIte, Nat.reduceEqDiff, Nat.reduceAdd, Nat.reduceSub, Nat.reduceLeDiff, Nat.reduceLT, reduceCtorEq, Int.reduceLT, Int.reduceLE, Int.reduceEq, Int.reduceBEq, Int.reduceSub, Int.reduceAdd, Int.reduceMul, Int.reduceNeg, Int.reduceToNat, Nat.reduceMul, Nat.reduceBEq, ren1_locm, loc_tips, locT_eq] <;> rfl, ?_, ?_, fun x en s hq => ?_⟩
      · omega
      · omega
      · simp only [List.mem_cons, p, false_or]; exact hq
  · have hd : xs.drop i = [] := List.drop_eq_nil_of_le (by omega)
    have hlt : ((i : Int) < (xs.length : Int)) = False := eq_false (by omega)
    simp only [go_sem, reduceIte, Nat.reduceEqDiff, Nat.reduceAdd, Nat.reduceSub, Nat.reduceLeDiff, Nat.reduceLT, reduceCtorEq, Int.reduceLT, Int.reduceLE, Int.reduceEq, Int.reduceBEq, Int.reduceSub, Int.reduceAdd, Int.reduceMul, Int.reduceNeg, Int.reduceToNat, Nat.reduceMul, Nat.reduceBEq, index_rsl_if, setm, make_ints, condK_dec, wantK_dec, not_dec, and_dec, or_dec, seqK_ite, seqK_none, blockK_ite, blockK_none, opsK_ite, opsK_none, stepK_ite, stepK_none, bodyK_ite, bodyK_none, resK_ite, resK_none, leaveK_ite, leaveK_none, only_ite, only_none, bind_ite, gives_some, gives_none, gives_ite, then_normal, then_ret, then_exit, then_none, then_ite, Option.bind_none, Bool.not_eq_true', decide_eq_false_iff_not, Bool.and_eq_true, Bool.or_eq_true, Option.some.injEq, Int.not_lt, Int.not_le, lp116_0, hlt]
    rw [hd]; simp

theorem c55 (nl : Bool) (xs : List Nat) (hlen : xs.length < 1000000) (a : Nat) (st : St) : run L 55 [sl 1 nl (xs.map U), U a] st = some (B (decide (a ∈ xs)), st) := by
  have h116 : ∀ st, ∃ k : Int, run L 116 [sl 1 nl (xs.map U), U a] st = some (I k, st) ∧ (0 ≤ k ↔ a ∈ xs) := by
    intro st
    rw [run_pure (fn := ir116) rfl rfl]
    simp only [ir116, go_sem, reduceIte, Nat.reduceEqDiff, Nat.reduceAdd, Nat.reduceSub, Nat.reduceLeDiff, Nat.reduceLT, reduceCtorEq, Int.reduceLT, Int.reduceLE, Int.reduceEq, Int.reduceBEq, Int.reduceSub, Int.reduceAdd, Int.reduceMul, Int.reduceNeg, Int.reduceToNat, Nat.reduceMul, Nat.reduceBEq, List.length_map]
    generalize hg : lim (headed pure (run L) true _ lp116_0 _ _) _ _ = o
    obtain ⟨x, en, s, rfl, h2⟩ : ∃ x en s, o = some (x, en, s) ∧ _ := by rw [← hg]; exact loop116 nl xs hlen a 0 (by omega) _ _ (by simp only [go_sem, reduceIte, Nat.reduceEqDiff, Nat.reduceAdd, Nat.reduceSub, Nat.reduceLeDiff, Nat.reduceLT, reduceCtorEq, Int.reduceLT, Int.reduceLE, Int.reduceEq, Int.reduceBEq, Int.reduceSub, Int.reduceAdd, Int.reduceMul, Int.reduceNeg, Int.reduceToNat, Nat.reduceMul, Nat.reduceBEq] <;> rfl)
    clear hg
    rw [List.drop_zero] at h2
    by_cases h : a ∈ xs
    · rw [if_pos h] at h2
      obtain ⟨rfl, k, h3⟩ := h2
      exact ⟨k, by simp only [go_sem, reduceIte, Nat.reduceEqDiff, Nat.reduceAdd, Nat.reduceSub, Nat.reduceLeDiff, Nat.reduceLT, reduceCtorEq, Int.reduceLT, Int.reduceLE, Int.reduceEq, Int.reduceBEq, Int.reduceSub, Int.reduceAdd, Int.reduceMul, Int.reduceNeg, Int.reduceToNat, Nat.reduceMul, Nat.reduceBEq, h3], by simp [h]⟩
    · rw [if_neg h] at h2
      subst h2
      exact ⟨-1, by simp only [go_sem, reduceIte, Nat.reduceEqDiff, Nat.reduceAdd, Nat.reduceSub, Nat.reduceLeDiff, Nat.reduceLT, reduceCtorEq, Int.reduceLT, Int.reduceLE, Int.reduceEq, Int.reduceBEq, Int.reduceSub, Int.reduceAdd, Int.reduceMul, Int.reduceNeg, Int.reduceToNat, Nat.reduceMul, Nat.reduceBEq], by simp [h]⟩
  rw [run_pure (fn := ir55) rfl rfl]
  obtain ⟨k, h1, h2⟩ := h116 ⟨[], []⟩
  simp only [ir55, go_sem, reduceIte, Nat.reduceEqDiff, Nat.reduceAdd, Nat.reduceSub, Nat.reduceLeDiff, Nat.reduceLT, reduceCtorEq, Int.reduceLT, Int.reduceLE, Int.reduceEq, Int.reduceBEq, Int.reduceSub, Int.reduceAdd, Int.reduceMul, Int.reduceNeg, Int.reduceToNat, Nat.reduceMul, Nat.reduceBEq, h1, h2]

theorem loop160 (nl : Bool) (xs : List Nat) (hlen : xs.length < 1000000) (a : Nat) (i : Nat) (hok : i ≤ xs.length) (env : Env) (st : St)
    (hg : gcAV true 1 0 (canon env [0, 3, 7, 8]) st = ([(0, sl 1 nl (xs.map E8)), (3, .ptr 0 0), (7, J xs.length), (8, J i)], ⟨[[u8 a]], []⟩)) :
    ∃ x_1 en s, lim (headed pure (run L) true [0, 3, 7, 8] lp160_0 1 0) env st = some (x_1, en, s) ∧ (if a ∈ xs.drop i then x_1 = .ret ∧ ∃ j : Nat, en.get 4 = J j else x_1 = .exit 0) := by
  refine loop_wp (α := Nat) (fun i => xs.length - i) (fun i => i ≤ xs.length) (fun i => ([(0, sl 1 nl (xs.map E8)), (3, .ptr 0 0), (7, J xs.length), (8, J i)], ⟨[[u8 a]], []⟩)) (fun i x_1 en s => if a ∈ xs.drop i then x_1 = .ret ∧ ∃ j : Nat, en.get 4 = J j else x_1 = .exit 0) (fun i hok => ?_) i hok env st hg
  by_cases h : i < xs.length
  · have hx := idx_sl E8 nl xs i h
    have hs := succ64 i (by omega)
    have hd : xs.drop i = xs[i] :: xs.drop (i + 1) := List.drop_eq_getElem_cons h
    have hlt : ((i : Int) < (xs.length : Int)) = True := eq_true (by omega)
    rw [hd]
    generalize xs[i] = b at *
    by_cases p : a = b
    · have e : ((a : Int) = (b : Int)) = True := eq_true (by omega)
      simp only [go_sem, reduceIte, Nat.reduceEqDiff, Nat.reduceAdd, Nat.reduceSub, Nat.reduceLeDiff, Nat.reduceLT, reduceCtorEq, Int.reduceLT, Int.reduceLE, Int.reduceEq, Int.reduceBEq, Int.reduceSub, Int.reduceAdd, Int.reduceMul, Int.reduceNeg, Int.reduceToNat, Nat.reduceMul, Nat.reduceBEq, index_rsl_if, setm, make_ints, condK_dec, wantK_dec, not_dec, and_dec, or_dec, seqK_ite, seqK_none, blockK_ite, blockK_none, opsK_ite, opsK_none, stepK_ite, stepK_none, bodyK_ite, bodyK_none, resK_ite, resK_none, leaveK_ite, leaveK_none, only_ite, only_none, bind_ite, gives_some, gives_none, gives_ite, then_normal, then_ret, then_exit, then_none, then_ite, Option.bind_none, Bool.not_eq_true', decide_eq_false_iff_not, Bool.and_eq_true, Bool.or_eq_true, Option.some.injEq, Int.not_lt, Int.not_le, lp160_0, hx, hlt, e]
      rw [if_pos (by simp [p])]; exact ⟨i, rfl⟩
    · have e : ((a : Int) = (b : Int)) = False := eq_false (by omega)
      simp only [go_sem, reduceIte, Nat.reduceEqDiff, Nat.reduceAdd, Nat.reduceSub, Nat.reduceLeDiff, Nat.reduceLT, reduceCtorEq, Int.reduceLT, Int.reduceLE, Int.reduceEq, Int.reduceBEq, Int.reduceSub, Int.reduceAdd, Int.reduceMul, Int.reduceNeg, Int.reduceToNat, Nat.reduceMul, Nat.reduceBEq, index_rsl_if, setm, make_ints, condK_dec, wantK_dec, not_dec, and_dec, or_dec, seqK_ite, seqK_none, blockK_ite, blockK_none, opsK_ite, opsK_none, stepK_ite, stepK_none, bodyK_ite, bodyK_none, resK_ite, resK_none, leaveK_ite, leaveK_none, only_ite, only_none, bind_ite, gives_some, gives_none, gives_ite, then_normal, then_ret, then_exit, then_none, then_ite, Option.bind_none, Bool.not_eq_true', decide_eq_false_iff_not, Bool.and_eq_true, Bool.or_eq_true, Option.some.injEq, Int.not_lt, Int.not_le, lp160_0, hx, hlt, e, hs]
      refine ⟨i + 1, by simp only [go_sem, reduceIte, Nat.reduceEqDiff, Nat.reduceAdd, Nat.reduceSub, Nat.reduceLeDiff, Nat.reduceLT, reduceCtorEq, Int.reduceLT, Int.reduceLE, Int.reduceEq, Int.reduceBEq, Int.reduceSub, Int.reduceAdd, Int.reduceMul, Int.reduceNeg, Int.reduceToNat, Nat.reduceMul, Nat.reduceBEq, ren1_locm, loc_tips, locT_eq] <;> rfl, ?_, ?_, fun x en s hq => ?_⟩
      · omega
      · omega
      · simp only [List.mem_cons, p, false_or]; exact hq
  · have hd : xs.drop i = [] := List.drop_eq_nil_of_le (by omega)
    have hlt : ((i : Int) < (xs.length : Int)) = False := eq_false (by omega)
    simp only [go_sem, reduceIte, Nat.reduceEqDiff, Nat.reduceAdd, Nat.reduceSub, Nat.reduceLeDiff, Nat.reduceLT, reduceCtorEq, Int.reduceLT, Int.reduceLE, Int.reduceEq, Int.reduceBEq, Int.reduceSub, Int.reduceAdd, Int.reduceMul, Int.reduceNeg, Int.reduceToNat, Nat.reduceMul, Nat.reduceBEq, index_rsl_if, setm, make_ints, condK_dec, wantK_dec, not_dec, and_dec, or_dec, seqK_ite, seqK_none, blockK_ite, blockK_none, opsK_ite, opsK_none, stepK_ite, stepK_none, bodyK_ite, bodyK_none, resK_ite, resK_none, leaveK_ite, leaveK_none, only_ite, only_none, bind_ite, gives_some, gives_none, gives_ite, then_normal, then_ret, then_exit, then_none, then_ite, Option.bind_none, Bool.not_eq_true', decide_eq_false_iff_not, Bool.and_eq_true, Bool.or_eq_true, Option.some.injEq, Int.not_lt, Int.not_le, lp160_0, hlt]
    rw [hd]; simp

theorem c122 (nl : Bool) (xs : List Nat) (hlen : xs.length < 1000000) (a : Nat) (st : St) : run L 122 [sl 1 nl (xs.map E8), E8 a] st = some (B (decide (a ∈ xs)), st) := by
  have h116 : ∀ st, ∃ k : Int, run L 160 [sl 1 nl (xs.map E8), E8 a] st = some (I k, st) ∧ (0 ≤ k ↔ a ∈ xs) := by
    intro st
    rw [run_pure (fn := ir160) rfl rfl]
    simp only [ir160, go_sem, reduceIte, Nat.reduceEqDiff, Nat.reduceAdd, Nat.reduceSub, Nat.reduceLeDiff, Nat.reduceLT, reduceCtorEq, Int.reduceLT, Int.reduceLE, Int.reduceEq, Int.reduceBEq, Int.reduceSub, Int.reduceAdd, Int.reduceMul, Int.reduceNeg, Int.reduceToNat, Nat.reduceMul, Nat.reduceBEq, List.length_map]
    generalize hg : lim (headed pure (run L) true _ lp160_0 _ _) _ _ = o
    obtain ⟨x, en, s, rfl, h2⟩ : ∃ x en s, o = some (x, en, s) ∧ _ := by rw [← hg]; exact loop160 nl xs hlen a 0 (by omega) _ _ (by simp only [go_sem, reduceIte, Nat.reduceEqDiff, Nat.reduceAdd, Nat.reduceSub, Nat.reduceLeDiff, Nat.reduceLT, reduceCtorEq, Int.reduceLT, Int.reduceLE, Int.reduceEq, Int.reduceBEq, Int.reduceSub, Int.reduceAdd, Int.reduceMul, Int.reduceNeg, Int.reduceToNat, Nat.reduceMul, Nat.reduceBEq] <;> rfl)
    clear hg
    rw [List.drop_zero] at h2
    by_cases h : a ∈ xs
    · rw [if_pos h] at h2
      obtain ⟨rfl, k, h3⟩ := h2
      exact ⟨k, by simp only [go_sem, reduceIte, Nat.reduceEqDiff, Nat.reduceAdd, Nat.reduceSub, Nat.reduceLeDiff, Nat.reduceLT, reduceCtorEq, Int.reduceLT, Int.reduceLE, Int.reduceEq, Int.reduceBEq, Int.reduceSub, Int.reduceAdd, Int.reduceMul, Int.reduceNeg, Int.reduceToNat, Nat.reduceMul, Nat.reduceBEq, h3], by simp [h]⟩
    · rw [if_neg h] at h2
      subst h2
      exact ⟨-1, by simp only [go_sem, reduceIte, Nat.reduceEqDiff, Nat.reduceAdd, Nat.reduceSub, Nat.reduceLeDiff, Nat.reduceLT, reduceCtorEq, Int.reduceLT, Int.reduceLE, Int.reduceEq, Int.reduceBEq, Int.reduceSub, Int.reduceAdd, Int.reduceMul, Int.reduceNeg, Int.reduceToNat, Nat.reduceMul, Nat.reduceBEq], by simp [h]⟩
  rw [run_pure (fn := ir122) rfl rfl]
  obtain ⟨k, h1, h2⟩ := h116 ⟨[[u8 a]], []⟩
  simp only [ir122, go_sem, reduceIte, Nat.reduceEqDiff, Nat.reduceAdd, Nat.reduceSub, Nat.reduceLeDiff, Nat.reduceLT, reduceCtorEq, Int.reduceLT, Int.reduceLE, Int.reduceEq, Int.reduceBEq, Int.reduceSub, Int.reduceAdd, Int.reduceMul, Int.reduceNeg, Int.reduceToNat, Nat.reduceMul, Nat.reduceBEq, h1, h2]

attribute [local go_sem] okRef_o storable_o shaped_o cells_o fin_o pub_o

theorem run_args {f : FuncId} {fn : IF} (hf : L.fns f = some fn) (hp : L.pure f = true) {args args' : List AV} (st : St) (h : pubs args = pubs args') : run L f args st = run L f args' st := by
  rw [run_pure hf hp, run_pure hf hp, h]
/-! ### divisions by numbers -/
theorem c107 (C : List AV) (T : List Nat) (a b : Nat) (ha : a < 256) (hb : b < 256) : run L 107 [U a, .ptr 1 0] ⟨[C, [U b]], T⟩ = some (B (!agN a b), ⟨[C, [U b]], T⟩) := by
  rw [run_shared (fn := ir107) rfl rfl]
  have h := fun st => c41 a b ha hb st
  cases hh : agN a b <;> rw [hh] at h <;> simp only [ir107, go_sem, reduceIte, Nat.reduceEqDiff, Nat.reduceAdd, Nat.reduceSub, Nat.reduceLeDiff, Nat.reduceLT, reduceCtorEq, Int.reduceLT, Int.reduceLE, Int.reduceEq, Int.reduceBEq, Int.reduceSub, Int.reduceAdd, Int.reduceMul, Int.reduceNeg, Int.reduceToNat, Nat.reduceMul, Nat.reduceBEq, h]
def cutC (a g : Nat) (zs : List Nat) (m w : Nat) : List AV := u8 a :: u8 g :: (zs.map u8 ++ [u8 m, u16 w])
theorem lenC (a g : Nat) (zs : List Nat) (hz : zs.length = 13) (m w : Nat) : (cutC a g zs m w).length = 17 := by simp [cutC, hz]
theorem cut0 (a g : Nat) (zs : List Nat) (m w : Nat) : (cutC a g zs m w)[0]? = some (u8 a) := rfl
theorem cut1 (a g : Nat) (zs : List Nat) (m w : Nat) : (cutC a g zs m w)[1]? = some (u8 g) := rfl
theorem cutZ (a g : Nat) (zs : List Nat) (hz : zs.length = 13) (m w : Nat) (i : Nat) (h : i < 13) : (cutC a g zs m w)[2 + i]? = some (u8 (zs.getD i 0)) := by
  rw [show 2 + i = i + 1 + 1 by omega]
  simp only [cutC, List.getElem?_cons_succ]
  rw [List.getElem?_append_left (by simpa [hz] using h), List.getElem?_map, List.getElem?_eq_getElem (by omega)]
  simp [List.getD_eq_getElem?_getD, show i < zs.length by omega]
theorem cut15 (a g : Nat) (zs : List Nat) (hz : zs.length = 13) (m w : Nat) : (cutC a g zs m w)[15]? = some (u8 m) := by
  simp only [cutC, List.getElem?_cons_succ]
  rw [List.getElem?_append_right (by simp [hz])]; simp [hz]
theorem cut16 (a g : Nat) (zs : List Nat) (hz : zs.length = 13) (m w : Nat) : (cutC a g zs m w)[16]? = some (u16 w) := by
  simp only [cutC, List.getElem?_cons_succ]
  rw [List.getElem?_append_right (by simp [hz])]; simp [hz]
/-- A side as it is taken: without the first article. -/
def smN (n x : Nat) : Nat := dfN (x &&& (2 ^ n - 1)) 1
def mkS (n g : Nat) (out : List Nat) (x : Nat) : List Nat :=
  if smN n x = 0 then out else if smN n x ∈ out then out else if g % 2 = 1 ∧ out.any (fun o => !agN o (smN n x)) = true then out else out ++ [smN n x]
def madeS (n g : Nat) (zs : List Nat) (k : Nat) : List Nat := (zs.take k).foldl (mkS n g) []
theorem smN_lt {n : Nat} (hn : n ≤ 8) (x : Nat) : smN n x < 256 := by
  have h : 2 ^ n ≤ 256 := Nat.pow_le_pow_right (n := 2) (by decide) hn
  have hp : 0 < 2 ^ n := Nat.two_pow_pos n
  exact dfN_lt (Nat.lt_of_le_of_lt Nat.and_le_right (by omega))
theorem mkS_len (n g : Nat) (out : List Nat) (x : Nat) : (mkS n g out x).length ≤ out.length + 1 := by
  unfold mkS; split
  · omega
  · split
    · omega
    · split <;> simp
theorem mkS_lt {n : Nat} (hn : n ≤ 8) (g : Nat) (out : List Nat) (h : ∀ y ∈ out, y < 256) (x : Nat) : ∀ y ∈ mkS n g out x, y < 256 := by
  unfold mkS; split
  · exact h
  · split
    · exact h
    · split
      · exact h
      · intro y hy
        rcases List.mem_append.1 hy with hy | hy
        · exact h y hy
        · rw [List.mem_singleton] at hy; subst hy; exact smN_lt hn x
theorem remJ (a b : Nat) (hb : b ≠ 0) : binAV .rem none (J a) (J b) = some (J (a % b)) := by
  show (if (b : Int) = 0 then none else some (AV.v (.int .i64 (Int.tmod (a : Int) (b : Int))))) = _
  rw [if_neg (by omega)]; rfl
theorem rem8 (a b : Nat) (hb : b ≠ 0) : binAV .rem none (u8 a) (u8 b) = some (u8 (a % b)) := by
  show (if (b : Int) = 0 then none else some (AV.v (.int .u8 (Int.tmod (a : Int) (b : Int))))) = _
  rw [if_neg (by omega)]; rfl
theorem shlU (n : Nat) (h : n ≤ 8) : binAV .shl none (.v (.int .u64 1)) (.v (.int .i64 (n : Int))) = some (U (2 ^ n)) := by
  rw [shl_one, sh1_eq n (by omega)]
theorem fullU (n : Nat) (h : n ≤ 8) : IntKind.u64.wrap (((2 ^ n : Nat) : Int) - 1) = ((2 ^ n - 1 : Nat) : Int) := by
  have h1 : 2 ^ n ≤ 256 := Nat.pow_le_pow_right (n := 2) (by decide) h
  have hp : 0 < 2 ^ n := Nat.two_pow_pos n
  generalize 2 ^ n = q at *
  have := wrapU (q - 1) (by omega)
  rw [← this]; congr 1; omega
theorem okRefsC (k a g : Nat) (zs : List Nat) (m w : Nat) : okRefs k (cutC a g zs m w) = true := by
  have h : ∀ xs : List Nat, okRefs k (xs.map u8 ++ [u8 m, u16 w]) = true := by
    intro xs
    induction xs with
    | nil => rfl
    | cons x r ih => simp only [List.map_cons, List.cons_append, okRefs, okRef, ih, Bool.true_and]
  simp only [cutC, okRefs, okRef, h, Bool.true_and]
theorem renCellsC (k : Nat) (T : List Nat) (acc : List (Nat × Nat)) (a g : Nat) (zs : List Nat) (m w : Nat) : renCells k T acc (cutC a g zs m w) = (cutC a g zs m w, acc) := by
  have h : ∀ (xs : List Nat) acc, renCells k T acc (xs.map u8 ++ [u8 m, u16 w]) = (xs.map u8 ++ [u8 m, u16 w], acc) := by
    intro xs
    induction xs with
    | nil => intro acc; rfl
    | cons x r ih => intro acc; simp only [List.map_cons, List.cons_append, renCells, ren1, ih]
  simp only [cutC, renCells, ren1, h]

set_option maxHeartbeats 1000000 in
theorem loop38 (n : Nat) (hn : n ≤ 8) (a g : Nat) (zs : List Nat) (hz : zs.length = 13) (hzs : ∀ z ∈ zs, z < 256) (m w k : Nat) (hk : k ≤ 13) (i : Nat) (o : List Nat) (hok : i ≤ k ∧ o.length ≤ i ∧ ∀ y ∈ o, y < 256) (env : Env) (st : St)
    (hg : gcAV true 1 0 (canon env [2, 6, 7, 23, 24, 25]) st = ([(2, .ptr 0 0), (6, J n), (7, oA (o.map U)), (23, .rsl 0 2 k 13 1 false), (24, J k), (25, J i)], ⟨[cutC a g zs m w], oT (o.map U)⟩)) :
    ∃ x_1 en s, lim (headed pure (run L) true [2, 6, 7, 23, 24, 25] lp38_0 1 0) env st = some (x_1, en, s) ∧ (x_1 = .exit 0 ∧ en.get 6 = J n ∧ en.get 7 = oA ((((zs.take k).drop i).foldl (mkS n g) o).map U)) := by
  refine loop_wp (α := Nat × List Nat) (fun ⟨i, o⟩ => k - i) (fun ⟨i, o⟩ => i ≤ k ∧ o.length ≤ i ∧ ∀ y ∈ o, y < 256) (fun ⟨i, o⟩ => ([(2, .ptr 0 0), (6, J n), (7, oA (o.map U)), (23, .rsl 0 2 k 13 1 false), (24, J k), (25, J i)], ⟨[cutC a g zs m w], oT (o.map U)⟩)) (fun ⟨i, o⟩ x_1 en s => x_1 = .exit 0 ∧ en.get 6 = J n ∧ en.get 7 = oA ((((zs.take k).drop i).foldl (mkS n g) o).map U)) (fun ⟨i, o⟩ hok => ?_) ⟨i, o⟩ hok env st hg
  simp only at hok
  obtain ⟨h1, h2, h3⟩ := hok
  dsimp only at h1 h2 h3 ⊢
  by_cases h : i < k
  · have hs := succ64 i (by omega)
    have hlt : ((i : Int) < (k : Int)) = True := eq_true (by omega)
    have hd : (zs.take k).drop i = zs.getD i 0 :: (zs.take k).drop (i + 1) := by
      rw [List.drop_eq_getElem_cons (by rw [List.length_take]; omega)]
      congr 1
      rw [List.getElem_take]; simp [List.getD_eq_getElem?_getD, show i < zs.length by omega]
    have hz2 := cutZ a g zs hz m w i (by omega)
    have hg1 := cut1 a g zs m w
    have hx : zs.getD i 0 < 256 := by
      rw [List.getD_eq_getElem?_getD, List.getElem?_eq_getElem (by omega)]
      exact hzs _ (List.getElem_mem _)
    rw [hd, List.foldl_cons]
    generalize zs.getD i 0 = x at *
    have hsm := smN_lt hn x
    have hl := mkS_len n g o x
    have hl2 := mkS_lt hn g o h3 x
    have hw := wrapU x (by omega)
    have hsh := shlU n hn
    have hfu := fullU n hn
    have h2n : 2 ^ n ≤ 256 := Nat.pow_le_pow_right (n := 2) (by decide) hn
    have hp : 0 < 2 ^ n := Nat.two_pow_pos n
    have ha := and_d x (2 ^ n - 1) (by omega) (by omega)
    have hb : binAV .andNot none (U (x &&& (2 ^ n - 1))) (.v (.int .u64 1)) = some (U (dfN (x &&& (2 ^ n - 1)) 1)) := dfU (x &&& (2 ^ n - 1)) 1 (Nat.lt_of_le_of_lt Nat.and_le_left (by omega)) (by omega)
    have he : mkS n g o x = if smN n x = 0 then o else if smN n x ∈ o then o else if g % 2 = 1 ∧ o.any (fun y => !agN y (smN n x)) = true then o else o ++ [smN n x] := rfl
    have hse : dfN (x &&& (2 ^ n - 1)) 1 = smN n x := rfl
    rw [hse] at hb
    rw [he] at hl hl2 ⊢
    generalize smN n x = v at *
    have h55 : ∀ st, run L 55 [oA (o.map U), U v] st = some (B (decide (v ∈ o)), st) := fun st => by
      have := c55 true o (by omega) v st
      rw [← this]
      exact run_args (fn := ir55) rfl rfl st (by simp only [pubs, pub_o, pub_sl])
    have h56 := c56 ⟨[cutC a g zs m w, [U v]], oT (o.map U)⟩ 107 rfl [.ptr 1 0] (oA (o.map U)) o (by omega) (lenm_o U o) (fun i h => idx_o U o i h) (fun y => !agN y v) (fun y hy => c107 _ _ y v (h3 y hy) hsm)
    have happ := fun S => append_o (o.map U) (U v) S (by rw [List.length_map]; omega)
    have hr : binAV .rem none (u8 g) (.v (.int .u8 2)) = some (u8 (g % 2)) := rem8 g 2 (by omega)
    by_cases p1 : v = 0
    · subst p1
      rw [if_pos rfl]
      simp only [go_sem, reduceIte, Nat.reduceEqDiff, Nat.reduceAdd, Nat.reduceSub, Nat.reduceLeDiff, Nat.reduceLT, reduceCtorEq, Int.reduceLT, Int.reduceLE, Int.reduceEq, Int.reduceBEq, Int.reduceSub, Int.reduceAdd, Int.reduceMul, Int.reduceNeg, Int.reduceToNat, Nat.reduceMul, Nat.reduceBEq, index_rsl_if, setm, make_ints, condK_dec, wantK_dec, not_dec, and_dec, or_dec, seqK_ite, seqK_none, blockK_ite, blockK_none, opsK_ite, opsK_none, stepK_ite, stepK_none, bodyK_ite, bodyK_none, resK_ite, resK_none, leaveK_ite, leaveK_none, only_ite, only_none, bind_ite, gives_some, gives_none, gives_ite, then_normal, then_ret, then_exit, then_none, then_ite, Option.bind_none, Bool.not_eq_true', decide_eq_false_iff_not, Bool.and_eq_true, Bool.or_eq_true, Option.some.injEq, Int.not_lt, Int.not_le, lp38_0, hlt, Int.natCast_nonneg, hs, hz2, hw, hsh, hfu, ha, hb, Int.natCast_zero]
      refine ⟨(i + 1, o), by simp only [go_sem, reduceIte, Nat.reduceEqDiff, Nat.reduceAdd, Nat.reduceSub, Nat.reduceLeDiff, Nat.reduceLT, reduceCtorEq, Int.reduceLT, Int.reduceLE, Int.reduceEq, Int.reduceBEq, Int.reduceSub, Int.reduceAdd, Int.reduceMul, Int.reduceNeg, Int.reduceToNat, Nat.reduceMul, Nat.reduceBEq, ren1_locm, loc_tips, locT_eq, ren1_o, oAcc_snd, okRefsC, renCellsC] <;> rfl, ?_, ?_, fun x en s hq => ?_⟩
      · dsimp only; exact ⟨by omega, by omega, h3⟩
      · dsimp only; omega
      · exact hq
    · have q1 : ((v : Int) = 0) = False := eq_false (by omega)
      rw [if_neg p1] at hl hl2 ⊢
      by_cases p2 : v ∈ o
      · rw [if_pos p2]
        simp only [go_sem, reduceIte, Nat.reduceEqDiff, Nat.reduceAdd, Nat.reduceSub, Nat.reduceLeDiff, Nat.reduceLT, reduceCtorEq, Int.reduceLT, Int.reduceLE, Int.reduceEq, Int.reduceBEq, Int.reduceSub, Int.reduceAdd, Int.reduceMul, Int.reduceNeg, Int.reduceToNat, Nat.reduceMul, Nat.reduceBEq, index_rsl_if, setm, make_ints, condK_dec, wantK_dec, not_dec, and_dec, or_dec, seqK_ite, seqK_none, blockK_ite, blockK_none, opsK_ite, opsK_none, stepK_ite, stepK_none, bodyK_ite, bodyK_none, resK_ite, resK_none, leaveK_ite, leaveK_none, only_ite, only_none, bind_ite, gives_some, gives_none, gives_ite, then_normal, then_ret, then_exit, then_none, then_ite, Option.bind_none, Bool.not_eq_true', decide_eq_false_iff_not, Bool.and_eq_true, Bool.or_eq_true, Option.some.injEq, Int.not_lt, Int.not_le, lp38_0, hlt, Int.natCast_nonneg, hs, hz2, hw, hsh, hfu, ha, hb, q1, h55, p2]
        refine ⟨(i + 1, o), by simp only [go_sem, reduceIte, Nat.reduceEqDiff, Nat.reduceAdd, Nat.reduceSub, Nat.reduceLeDiff, Nat.reduceLT, reduceCtorEq, Int.reduceLT, Int.reduceLE, Int.reduceEq, Int.reduceBEq, Int.reduceSub, Int.reduceAdd, Int.reduceMul, Int.reduceNeg, Int.reduceToNat, Nat.reduceMul, Nat.reduceBEq, ren1_locm, loc_tips, locT_eq, ren1_o, oAcc_snd, okRefsC, renCellsC] <;> rfl, ?_, ?_, fun x en s hq => ?_⟩
        · dsimp only; exact ⟨by omega, by omega, h3⟩
        · dsimp only; omega
        · exact hq
      · rw [if_neg p2] at hl hl2 ⊢
        by_cases p3 : g % 2 = 1
        · have q3 : (((g % 2 : Nat) : Int) = 1) = True := eq_true (by omega)
          cases p4 : o.any (fun y => !agN y v) with
          | true =>
            rw [p4] at h56 hl hl2
            rw [if_pos ⟨p3, rfl⟩] at hl hl2 ⊢
            simp only [go_sem, reduceIte, Nat.reduceEqDiff, Nat.reduceAdd, Nat.reduceSub, Nat.reduceLeDiff, Nat.reduceLT, reduceCtorEq, Int.reduceLT, Int.reduceLE, Int.reduceEq, Int.reduceBEq, Int.reduceSub, Int.reduceAdd, Int.reduceMul, Int.reduceNeg, Int.reduceToNat, Nat.reduceMul, Nat.reduceBEq, index_rsl_if, setm, make_ints, condK_dec, wantK_dec, not_dec, and_dec, or_dec, seqK_ite, seqK_none, blockK_ite, blockK_none, opsK_ite, opsK_none, stepK_ite, stepK_none, bodyK_ite, bodyK_none, resK_ite, resK_none, leaveK_ite, leaveK_none, only_ite, only_none, bind_ite, gives_some, gives_none, gives_ite, then_normal, then_ret, then_exit, then_none, then_ite, Option.bind_none, Bool.not_eq_true', decide_eq_false_iff_not, Bool.and_eq_true, Bool.or_eq_true, Option.some.injEq, Int.not_lt, Int.not_le, lp38_0, hlt, Int.natCast_nonneg, hs, hz2, hg1, hw, hsh, hfu, ha, hb, q1, h55, p2, hr, q3, h56, Int.cast_ofNat_Int]
            refine ⟨(i + 1, o), by simp only [go_sem, reduceIte, Nat.reduceEqDiff, Nat.reduceAdd, Nat.reduceSub, Nat.reduceLeDiff, Nat.reduceLT, reduceCtorEq, Int.reduceLT, Int.reduceLE, Int.reduceEq, Int.reduceBEq, Int.reduceSub, Int.reduceAdd, Int.reduceMul, Int.reduceNeg, Int.reduceToNat, Nat.reduceMul, Nat.reduceBEq, ren1_locm, loc_tips, locT_eq, ren1_o, oAcc_snd, okRefsC, renCellsC] <;> rfl, ?_, ?_, fun x en s hq => ?_⟩
            · dsimp only; exact ⟨by omega, by omega, h3⟩
            · dsimp only; omega
            · exact hq
          | false =>
            rw [p4] at h56 hl hl2
            rw [if_neg (by simp)] at hl hl2 ⊢
            simp only [go_sem, reduceIte, Nat.reduceEqDiff, Nat.reduceAdd, Nat.reduceSub, Nat.reduceLeDiff, Nat.reduceLT, reduceCtorEq, Int.reduceLT, Int.reduceLE, Int.reduceEq, Int.reduceBEq, Int.reduceSub, Int.reduceAdd, Int.reduceMul, Int.reduceNeg, Int.reduceToNat, Nat.reduceMul, Nat.reduceBEq, index_rsl_if, setm, make_ints, condK_dec, wantK_dec, not_dec, and_dec, or_dec, seqK_ite, seqK_none, blockK_ite, blockK_none, opsK_ite, opsK_none, stepK_ite, stepK_none, bodyK_ite, bodyK_none, resK_ite, resK_none, leaveK_ite, leaveK_none, only_ite, only_none, bind_ite, gives_some, gives_none, gives_ite, then_normal, then_ret, then_exit, then_none, then_ite, Option.bind_none, Bool.not_eq_true', decide_eq_false_iff_not, Bool.and_eq_true, Bool.or_eq_true, Option.some.injEq, Int.not_lt, Int.not_le, lp38_0, hlt, Int.natCast_nonneg, hs, hz2, hg1, hw, hsh, hfu, ha, hb, q1, h55, p2, hr, q3, h56, happ]
            refine ⟨(i + 1, o ++ [v]), by simp only [go_sem, reduceIte, Nat.reduceEqDiff, Nat.reduceAdd, Nat.reduceSub, Nat.reduceLeDiff, Nat.reduceLT, reduceCtorEq, Int.reduceLT, Int.reduceLE, Int.reduceEq, Int.reduceBEq, Int.reduceSub, Int.reduceAdd, Int.reduceMul, Int.reduceNeg, Int.reduceToNat, Nat.reduceMul, Nat.reduceBEq, ren1_locm, loc_tips, locT_eq, ren1_o, oAcc_snd, okRefsC, renCellsC, List.map_append] <;> rfl, ?_, ?_, fun x en s hq => ?_⟩
            · dsimp only; exact ⟨by omega, by omega, hl2⟩
            · dsimp only; omega
            · exact hq
        · have q3 : (((g % 2 : Nat) : Int) = 1) = False := eq_false (by omega)
          rw [if_neg (fun hh => p3 hh.1)] at hl hl2 ⊢
          simp only [go_sem, reduceIte, Nat.reduceEqDiff, Nat.reduceAdd, Nat.reduceSub, Nat.reduceLeDiff, Nat.reduceLT, reduceCtorEq, Int.reduceLT, Int.reduceLE, Int.reduceEq, Int.reduceBEq, Int.reduceSub, Int.reduceAdd, Int.reduceMul, Int.reduceNeg, Int.reduceToNat, Nat.reduceMul, Nat.reduceBEq, index_rsl_if, setm, make_ints, condK_dec, wantK_dec, not_dec, and_dec, or_dec, seqK_ite, seqK_none, blockK_ite, blockK_none, opsK_ite, opsK_none, stepK_ite, stepK_none, bodyK_ite, bodyK_none, resK_ite, resK_none, leaveK_ite, leaveK_none, only_ite, only_none, bind_ite, gives_some, gives_none, gives_ite, then_normal, then_ret, then_exit, then_none, then_ite, Option.bind_none, Bool.not_eq_true', decide_eq_false_iff_not, Bool.and_eq_true, Bool.or_eq_true, Option.some.injEq, Int.not_lt, Int.not_le, lp38_0, hlt, Int.natCast_nonneg, hs, hz2, hg1, hw, hsh, hfu, ha, hb, q1, h55, p2, hr, q3, happ]
          refine ⟨(i + 1, o ++ [v]), by simp only [go_sem, reduceIte, Nat.reduceEqDiff, Nat.reduceAdd, Nat.reduceSub, Nat.reduceLeDiff, Nat.reduceLT, reduceCtorEq, Int.reduceLT, Int.reduceLE, Int.reduceEq, Int.reduceBEq, Int.reduceSub, Int.reduceAdd, Int.reduceMul, Int.reduceNeg, Int.reduceToNat, Nat.reduceMul, Nat.reduceBEq, ren1_locm, loc_tips, locT_eq, ren1_o, oAcc_snd, okRefsC, renCellsC, List.map_append] <;> rfl, ?_, ?_, fun x en s hq => ?_⟩
          · dsimp only; exact ⟨by omega, by omega, hl2⟩
          · dsimp only; omega
          · exact hq
  · have hd : (zs.take k).drop i = [] := List.drop_eq_nil_of_le (by rw [List.length_take]; omega)
    have hlt : ((i : Int) < (k : Int)) = False := eq_false (by omega)
    rw [hd]
    simp only [go_sem, reduceIte, Nat.reduceEqDiff, Nat.reduceAdd, Nat.reduceSub, Nat.reduceLeDiff, Nat.reduceLT, reduceCtorEq, Int.reduceLT, Int.reduceLE, Int.reduceEq, Int.reduceBEq, Int.reduceSub, Int.reduceAdd, Int.reduceMul, Int.reduceNeg, Int.reduceToNat, Nat.reduceMul, Nat.reduceBEq, index_rsl_if, setm, make_ints, condK_dec, wantK_dec, not_dec, and_dec, or_dec, seqK_ite, seqK_none, blockK_ite, blockK_none, opsK_ite, opsK_none, stepK_ite, stepK_none, bodyK_ite, bodyK_none, resK_ite, resK_none, leaveK_ite, leaveK_none, only_ite, only_none, bind_ite, gives_some, gives_none, gives_ite, then_normal, then_ret, then_exit, then_none, then_ite, Option.bind_none, Bool.not_eq_true', decide_eq_false_iff_not, Bool.and_eq_true, Bool.or_eq_true, Option.some.injEq, Int.not_lt, Int.not_le, lp38_0, hlt]
    trivial

attribute [local go_sem] okRef_o storable_o shaped_o cells_o fin_o pub_o shaped_t cells_t isAgg_t storable_t okRef_t pub_t

def cutAV (a g : Nat) (zs : List Nat) (m w : Nat) : AV := .agg (cutC a g zs m w)
theorem w64 (a : Nat) (h : a < 1000000) : IntKind.i64.wrap (a : Int) = a := by rw [wrap64] <;> omega
theorem pubsC (a g : Nat) (zs : List Nat) (m w : Nat) : pubs (cutC a g zs m w) = cutC a g zs m w := by
  have h : ∀ xs : List Nat, pubs (xs.map u8 ++ [u8 m, u16 w]) = xs.map u8 ++ [u8 m, u16 w] := by
    intro xs
    induction xs with
    | nil => rfl
    | cons x r ih => simp only [List.map_cons, List.cons_append, pubs, pub, ih]
  simp only [cutC, pubs, pub, h]
theorem storableC (a g : Nat) (zs : List Nat) (m w : Nat) : (cutC a g zs m w).all storable = true := by
  simp only [cutC, List.all_cons, List.all_append, List.all_map, storable, List.all_nil, Bool.and_true, Bool.true_and]
  rw [List.all_eq_true]; intro x _; rfl
theorem c38 (a g : Nat) (ha : a < 256) (zs : List Nat) (hz : zs.length = 13) (hzs : ∀ z ∈ zs, z < 256) (m w : Nat) (hm : m < 256) (M d : Nat) (hM : (M = 6 ∧ d = 5) ∨ (M = 7 ∧ d = 6) ∨ (M = 8 ∧ d = 7)) (st : St) :
    run L 38 [cutAV a g zs m w, J M] st = some (.tup [J (2 + a % d), sl 1 true ((madeS (2 + a % d) g zs (m % 14)).map U)], st) := by
  rw [run_pure (fn := ir38) rfl rfl]
  have h0 := cut0 a g zs m w
  have h15 := cut15 a g zs hz m w
  have hw := w64 a (by omega)
  have hwm := w64 m (by omega)
  have hd : 0 < d ∧ d < 8 := by omega
  have hmd : IntKind.i64.wrap ((M : Int) - 1) = (d : Int) := by
    rw [← w64 d (by omega)]; congr 1; omega
  have hr := remJ a d (by omega)
  have hlt := Nat.mod_lt a hd.1
  have hn : IntKind.i64.wrap (2 + ((a % d : Nat) : Int)) = ((2 + a % d : Nat) : Int) := by
    rw [← w64 (2 + a % d) (by omega)]; congr 1
  have hrm : binAV .rem none (J m) (I 14) = some (J (m % 14)) := remJ m 14 (by omega)
  have hk : m % 14 ≤ 13 := by omega
  have hl : (cutC a g zs m w).length = 17 := lenC a g zs hz m w
  have e : madeS (2 + a % d) g zs (m % 14) = (((zs.take (m % 14)).drop 0).foldl (mkS (2 + a % d) g) []) := rfl
  rw [e]
  generalize m % 14 = k at *
  generalize a % d = q at *
  have hsl : sliceaAV 13 1 false (.ptr 0 2) none (some (.v (.int .i64 (k : Int)))) none = some (.rsl 0 2 k 13 1 false) := by
    simp only [sliceaAV, natOr, natOf]
    simp; omega
  have hun : cutAV a g zs m w = .agg (cutC a g zs m w) := rfl
  simp only [ir38, hun, go_sem, reduceIte, Nat.reduceEqDiff, Nat.reduceAdd, Nat.reduceSub, Nat.reduceLeDiff, Nat.reduceLT, reduceCtorEq, Int.reduceLT, Int.reduceLE, Int.reduceEq, Int.reduceBEq, Int.reduceSub, Int.reduceAdd, Int.reduceMul, Int.reduceNeg, Int.reduceToNat, Nat.reduceMul, Nat.reduceBEq, okRefsC, renCellsC, pubsC, storableC, h0, h15, hw, hwm, hmd, hr, hn, hrm, hsl, hl]
  generalize hg : lim (headed pure (run L) true _ lp38_0 _ _) _ _ = o
  obtain ⟨x, en, s, rfl, h2⟩ : ∃ x en s, o = some (x, en, s) ∧ _ := by rw [← hg]; exact loop38 (2 + q) (by omega) a g zs hz hzs m w k hk 0 [] ⟨by omega, by simp, by simp⟩ _ _ (by simp only [go_sem, reduceIte, Nat.reduceEqDiff, Nat.reduceAdd, Nat.reduceSub, Nat.reduceLeDiff, Nat.reduceLT, reduceCtorEq, Int.reduceLT, Int.reduceLE, Int.reduceEq, Int.reduceBEq, Int.reduceSub, Int.reduceAdd, Int.reduceMul, Int.reduceNeg, Int.reduceToNat, Nat.reduceMul, Nat.reduceBEq, List.map_nil, ← o_start, oT_nil, okRefsC, renCellsC, Int.natCast_zero] <;> rfl)
  clear hg
  obtain ⟨rfl, h6, h7⟩ := h2
  simp only [go_sem, reduceIte, Nat.reduceEqDiff, Nat.reduceAdd, Nat.reduceSub, Nat.reduceLeDiff, Nat.reduceLT, reduceCtorEq, Int.reduceLT, Int.reduceLE, Int.reduceEq, Int.reduceBEq, Int.reduceSub, Int.reduceAdd, Int.reduceMul, Int.reduceNeg, Int.reduceToNat, Nat.reduceMul, Nat.reduceBEq, h6, h7]

/-! ### the divisions told by their sides -/
def flN (n w i s : Nat) : Nat := if w.testBit i = true then s ^^^ (2 ^ n - 1) else s
def toldL (n w : Nat) : Nat → List Nat → List Nat
  | _, [] => []
  | i, s :: r => flN n w i s :: toldL n w (i + 1) r
theorem flN_lt {n : Nat} (hn : n ≤ 8) (w i s : Nat) (h : s < 256) : flN n w i s < 256 := by
  have h1 : 2 ^ n ≤ 256 := Nat.pow_le_pow_right (n := 2) (by decide) hn
  have hp : 0 < 2 ^ n := Nat.two_pow_pos n
  unfold flN; split
  · exact Nat.xor_lt_two_pow (n := 8) h (by omega)
  · exact h
theorem xorU (a b : Nat) (ha : a < 256) (hb : b < 256) : binAV .xor none (U a) (U b) = some (U (a ^^^ b)) := by
  have h : (BitVec.ofInt 64 (a : Int) ^^^ BitVec.ofInt 64 (b : Int)).toNat = a ^^^ b := by
    rw [BitVec.toNat_xor]; simp [BitVec.ofInt_natCast, Nat.mod_eq_of_lt (show a < 2 ^ 64 by omega), Nat.mod_eq_of_lt (show b < 2 ^ 64 by omega)]
  show some (AV.v (.int .u64 (IntKind.u64.wrap ((BitVec.ofInt 64 (a : Int) ^^^ BitVec.ofInt 64 (b : Int)).toNat : Int)))) = _
  rw [h, wrapU _ (by have := Nat.xor_lt_two_pow (n := 8) ha hb; omega)]
theorem shr16 (w i : Nat) (h : i ≤ 16) : binAV .shr none (u16 w) (.v (.int .i64 (i : Int))) = some (u16 (w >>> i)) := by
  show (if (i : Int) < 0 then none else some (AV.v (.int .u16 (Int.fdiv (w : Int) (2 ^ min (Int.toNat (i : Int)) 16))))) = _
  rw [if_neg (by omega), Int.toNat_natCast, show min i 16 = i by omega]
  have e2 : ((2 : Int) ^ i) = ((2 ^ i : Nat) : Int) := by simp
  rw [e2, Int.fdiv_eq_ediv_of_nonneg _ (Int.natCast_nonneg _), Nat.shiftRight_eq_div_pow]
  simp
theorem and16_1 (n : Nat) : binAV .and none (u16 n) (.v (.int .u16 1)) = some (u16 (n % 2)) := by
  have h : (BitVec.ofInt 16 (n : Int) &&& BitVec.ofInt 16 1).toNat = n % 2 := by
    rw [BitVec.toNat_and]
    have : (BitVec.ofInt 16 1).toNat = 1 := by decide
    rw [this, Nat.and_one_is_mod, BitVec.ofInt_natCast, BitVec.toNat_ofNat]
    omega
  show some (AV.v (.int .u16 (IntKind.u16.wrap ((BitVec.ofInt 16 (n : Int) &&& BitVec.ofInt 16 1).toNat : Int)))) = _
  rw [h, wrap16 _ (by omega)]
theorem bit_one (m p : Nat) : ((((m >>> p) % 2 : Nat) : Int) = 1) = (m.testBit p = true) := by
  rw [Nat.testBit_eq_decide_div_mod_eq, Nat.shiftRight_eq_div_pow]
  generalize m / 2 ^ p = k
  have : k % 2 < 2 := Nat.mod_lt _ (by omega)
  rw [decide_eq_true_iff]
  exact propext (by omega)
abbrev tM (m : Nat) : AV := tAV (memb m)

set_option maxHeartbeats 1000000 in
theorem loop39 (n : Nat) (hn : n ≤ 8) (a g : Nat) (zs : List Nat) (hz : zs.length = 13) (m w : Nat) (nl : Bool) (ss : List Nat) (hss : ∀ s ∈ ss, s < 256) (hsl : ss.length ≤ 16) (i : Nat) (X : List Nat) (hok : i ≤ ss.length ∧ X.length ≤ i) (env : Env) (st : St)
    (hg : gcAV true 1 0 (canon env [1, 3, 7, 10, 11, 12]) st = ([(1, J n), (3, .ptr 0 0), (7, oA (X.map tM)), (10, sl 1 nl (ss.map U)), (11, J ss.length), (12, J i)], ⟨[cutC a g zs m w], oT (X.map tM)⟩)) :
    ∃ x_1 en s, lim (headed pure (run L) true [1, 3, 7, 10, 11, 12] lp39_0 1 0) env st = some (x_1, en, s) ∧ (x_1 = .exit 0 ∧ en.get 7 = oA ((X ++ toldL n w i (ss.drop i)).map tM)) := by
  refine loop_wp (α := Nat × List Nat) (fun ⟨i, X⟩ => ss.length - i) (fun ⟨i, X⟩ => i ≤ ss.length ∧ X.length ≤ i) (fun ⟨i, X⟩ => ([(1, J n), (3, .ptr 0 0), (7, oA (X.map tM)), (10, sl 1 nl (ss.map U)), (11, J ss.length), (12, J i)], ⟨[cutC a g zs m w], oT (X.map tM)⟩)) (fun ⟨i, X⟩ x_1 en s => x_1 = .exit 0 ∧ en.get 7 = oA ((X ++ toldL n w i (ss.drop i)).map tM)) (fun ⟨i, X⟩ hok => ?_) ⟨i, X⟩ hok env st hg
  simp only at hok
  obtain ⟨h1, h2⟩ := hok
  dsimp only at h1 h2 ⊢
  by_cases h : i < ss.length
  · have hs := succ64 i (by omega)
    have hx := idx_sl U nl ss i h
    have hlt : ((i : Int) < (ss.length : Int)) = True := eq_true (by omega)
    have hd : ss.drop i = ss[i] :: ss.drop (i + 1) := List.drop_eq_getElem_cons h
    have hb := hss ss[i] (List.getElem_mem h)
    rw [hd]
    generalize ss[i] = s at *
    have ht : toldL n w i (s :: ss.drop (i + 1)) = flN n w i s :: toldL n w (i + 1) (ss.drop (i + 1)) := rfl
    rw [ht]
    have h16 := cut16 a g zs hz m w
    have hsr := shr16 w i (by omega)
    have ha1 := and16_1 (w >>> i)
    have hsh := shlU n hn
    have hfu := fullU n hn
    have h2n : 2 ^ n ≤ 256 := Nat.pow_le_pow_right (n := 2) (by decide) hn
    have hp : 0 < 2 ^ n := Nat.two_pow_pos n
    have hxo := xorU s (2 ^ n - 1) hb (by omega)
    have hf := flN_lt hn w i s hb
    have happ := fun v S => append_o (X.map tM) (tM v) S (by rw [List.length_map]; omega)
    have e : flN n w i s = if w.testBit i = true then s ^^^ (2 ^ n - 1) else s := rfl
    by_cases p : w.testBit i = true
    · rw [if_pos p] at e
      rw [e] at hf ⊢
      have h40 := fun st => c40 (s ^^^ (2 ^ n - 1)) (by omega) st
      generalize s ^^^ (2 ^ n - 1) = v at *
      simp only [go_sem, reduceIte, Nat.reduceEqDiff, Nat.reduceAdd, Nat.reduceSub, Nat.reduceLeDiff, Nat.reduceLT, reduceCtorEq, Int.reduceLT, Int.reduceLE, Int.reduceEq, Int.reduceBEq, Int.reduceSub, Int.reduceAdd, Int.reduceMul, Int.reduceNeg, Int.reduceToNat, Nat.reduceMul, Nat.reduceBEq, index_rsl_if, setm, make_ints, condK_dec, wantK_dec, not_dec, and_dec, or_dec, seqK_ite, seqK_none, blockK_ite, blockK_none, opsK_ite, opsK_none, stepK_ite, stepK_none, bodyK_ite, bodyK_none, resK_ite, resK_none, leaveK_ite, leaveK_none, only_ite, only_none, bind_ite, gives_some, gives_none, gives_ite, then_normal, then_ret, then_exit, then_none, then_ite, Option.bind_none, Bool.not_eq_true', decide_eq_false_iff_not, Bool.and_eq_true, Bool.or_eq_true, Option.some.injEq, Int.not_lt, Int.not_le, lp39_0, hlt, Int.natCast_nonneg, hs, hx, h16, hsr, ha1, bit_one, p, hsh, hfu, hxo, h40, happ]
      refine ⟨(i + 1, X ++ [v]), by simp only [go_sem, reduceIte, Nat.reduceEqDiff, Nat.reduceAdd, Nat.reduceSub, Nat.reduceLeDiff, Nat.reduceLT, reduceCtorEq, Int.reduceLT, Int.reduceLE, Int.reduceEq, Int.reduceBEq, Int.reduceSub, Int.reduceAdd, Int.reduceMul, Int.reduceNeg, Int.reduceToNat, Nat.reduceMul, Nat.reduceBEq, ren1_locm, loc_tips, locT_eq, ren1_o, oAcc_snd, okRefsC, renCellsC, List.map_append] <;> rfl, ?_, ?_, fun x en s hq => ?_⟩
      · dsimp only; exact ⟨by omega, by rw [List.length_append, List.length_singleton]; omega⟩
      · dsimp only; omega
      · simp only [List.append_assoc, List.singleton_append] at hq; exact hq
    · rw [if_neg p] at e
      rw [e] at hf ⊢
      have h40 := fun st => c40 s (by omega) st
      simp only [go_sem, reduceIte, Nat.reduceEqDiff, Nat.reduceAdd, Nat.reduceSub, Nat.reduceLeDiff, Nat.reduceLT, reduceCtorEq, Int.reduceLT, Int.reduceLE, Int.reduceEq, Int.reduceBEq, Int.reduceSub, Int.reduceAdd, Int.reduceMul, Int.reduceNeg, Int.reduceToNat, Nat.reduceMul, Nat.reduceBEq, index_rsl_if, setm, make_ints, condK_dec, wantK_dec, not_dec, and_dec, or_dec, seqK_ite, seqK_none, blockK_ite, blockK_none, opsK_ite, opsK_none, stepK_ite, stepK_none, bodyK_ite, bodyK_none, resK_ite, resK_none, leaveK_ite, leaveK_none, only_ite, only_none, bind_ite, gives_some, gives_none, gives_ite, then_normal, then_ret, then_exit, then_none, then_ite, Option.bind_none, Bool.not_eq_true', decide_eq_false_iff_not, Bool.and_eq_true, Bool.or_eq_true, Option.some.injEq, Int.not_lt, Int.not_le, lp39_0, hlt, Int.natCast_nonneg, hs, hx, h16, hsr, ha1, bit_one, p, h40, happ]
      refine ⟨(i + 1, X ++ [s]), by simp only [go_sem, reduceIte, Nat.reduceEqDiff, Nat.reduceAdd, Nat.reduceSub, Nat.reduceLeDiff, Nat.reduceLT, reduceCtorEq, Int.reduceLT, Int.reduceLE, Int.reduceEq, Int.reduceBEq, Int.reduceSub, Int.reduceAdd, Int.reduceMul, Int.reduceNeg, Int.reduceToNat, Nat.reduceMul, Nat.reduceBEq, ren1_locm, loc_tips, locT_eq, ren1_o, oAcc_snd, okRefsC, renCellsC, List.map_append] <;> rfl, ?_, ?_, fun x en s hq => ?_⟩
      · dsimp only; exact ⟨by omega, by rw [List.length_append, List.length_singleton]; omega⟩
      · dsimp only; omega
      · simp only [List.append_assoc, List.singleton_append] at hq; exact hq
  · have hd : ss.drop i = [] := List.drop_eq_nil_of_le (by omega)
    have hlt : ((i : Int) < (ss.length : Int)) = False := eq_false (by omega)
    rw [hd]
    have e : toldL n w i [] = [] := rfl
    rw [e, List.append_nil]
    simp only [go_sem, reduceIte, Nat.reduceEqDiff, Nat.reduceAdd, Nat.reduceSub, Nat.reduceLeDiff, Nat.reduceLT, reduceCtorEq, Int.reduceLT, Int.reduceLE, Int.reduceEq, Int.reduceBEq, Int.reduceSub, Int.reduceAdd, Int.reduceMul, Int.reduceNeg, Int.reduceToNat, Nat.reduceMul, Nat.reduceBEq, index_rsl_if, setm, make_ints, condK_dec, wantK_dec, not_dec, and_dec, or_dec, seqK_ite, seqK_none, blockK_ite, blockK_none, opsK_ite, opsK_none, stepK_ite, stepK_none, bodyK_ite, bodyK_none, resK_ite, resK_none, leaveK_ite, leaveK_none, only_ite, only_none, bind_ite, gives_some, gives_none, gives_ite, then_normal, then_ret, then_exit, then_none, then_ite, Option.bind_none, Bool.not_eq_true', decide_eq_false_iff_not, Bool.and_eq_true, Bool.or_eq_true, Option.some.injEq, Int.not_lt, Int.not_le, lp39_0, hlt]

theorem c39 (n : Nat) (hn : n ≤ 8) (a g : Nat) (zs : List Nat) (hz : zs.length = 13) (m w : Nat) (nl : Bool) (ss : List Nat) (hss : ∀ s ∈ ss, s < 256) (hsl : ss.length ≤ 16) (st : St) :
    run L 39 [cutAV a g zs m w, J n, sl 1 nl (ss.map U)] st = some (sl 1 true ((toldL n w 0 ss).map tM), st) := by
  rw [run_pure (fn := ir39) rfl rfl]
  have hun : cutAV a g zs m w = .agg (cutC a g zs m w) := rfl
  have hl : (cutC a g zs m w).length = 17 := lenC a g zs hz m w
  simp only [ir39, hun, go_sem, reduceIte, Nat.reduceEqDiff, Nat.reduceAdd, Nat.reduceSub, Nat.reduceLeDiff, Nat.reduceLT, reduceCtorEq, Int.reduceLT, Int.reduceLE, Int.reduceEq, Int.reduceBEq, Int.reduceSub, Int.reduceAdd, Int.reduceMul, Int.reduceNeg, Int.reduceToNat, Nat.reduceMul, Nat.reduceBEq, okRefsC, renCellsC, pubsC, storableC, hl, List.length_map]
  generalize hg : lim (headed pure (run L) true _ lp39_0 _ _) _ _ = o
  obtain ⟨x, en, s, rfl, h2⟩ : ∃ x en s, o = some (x, en, s) ∧ _ := by rw [← hg]; exact loop39 n hn a g zs hz m w nl ss hss hsl 0 [] ⟨by omega, by simp⟩ _ _ (by simp only [go_sem, reduceIte, Nat.reduceEqDiff, Nat.reduceAdd, Nat.reduceSub, Nat.reduceLeDiff, Nat.reduceLT, reduceCtorEq, Int.reduceLT, Int.reduceLE, Int.reduceEq, Int.reduceBEq, Int.reduceSub, Int.reduceAdd, Int.reduceMul, Int.reduceNeg, Int.reduceToNat, Nat.reduceMul, Nat.reduceBEq, List.map_nil, ← o_start, oT_nil, okRefsC, renCellsC, Int.natCast_zero] <;> rfl)
  clear hg
  obtain ⟨rfl, h7⟩ := h2
  rw [List.drop_zero, List.nil_append] at h7
  simp only [go_sem, reduceIte, Nat.reduceEqDiff, Nat.reduceAdd, Nat.reduceSub, Nat.reduceLeDiff, Nat.reduceLT, reduceCtorEq, Int.reduceLT, Int.reduceLE, Int.reduceEq, Int.reduceBEq, Int.reduceSub, Int.reduceAdd, Int.reduceMul, Int.reduceNeg, Int.reduceToNat, Nat.reduceMul, Nat.reduceBEq, h7]

attribute [local go_sem] okRef_o storable_o shaped_o cells_o fin_o pub_o shaped_t cells_t isAgg_t storable_t okRef_t pub_t

theorem refsV_sl (n : Nat) (acc : List Nat) (z : Nat) (nl : Bool) (xs : List AV) : refsV n acc (sl z nl xs) = acc := by
  cases xs with
  | nil => cases nl <;> rfl
  | cons x r => rw [sl_ne (by simp)]; simp only [refsV]
theorem mapL_sl (n : Nat) (M : List Nat) (z : Nat) (nl : Bool) (xs : List AV) : mapL n M (sl z nl xs) = sl z nl xs := by
  cases xs with
  | nil => cases nl <;> rfl
  | cons x r => rw [sl_ne (by simp)]; simp only [mapL]
theorem refsL_kind (n : Nat) {β : Type} (f : β → Value) : ∀ (xs : List β) (acc : List Nat), refsL n acc (xs.map fun b => .v (f b)) = acc
  | [], acc => rfl
  | x :: r, acc => by simp only [List.map_cons, refsL, refsV, refsL_kind n f r]
theorem mapLs_kind (n : Nat) (M : List Nat) {β : Type} (f : β → Value) : ∀ (xs : List β), mapLs n M (xs.map fun b => .v (f b)) = xs.map fun b => .v (f b)
  | [] => rfl
  | x :: r => by simp only [List.map_cons, mapLs, mapL, mapLs_kind n M f r]
theorem refsL_8 (n : Nat) (xs : List Nat) (acc : List Nat) : refsL n acc (xs.map u8) = acc := refsL_kind n (fun (n : Nat) => Value.int .u8 (n : Int)) xs acc
theorem mapLs_8 (n : Nat) (M : List Nat) (xs : List Nat) : mapLs n M (xs.map u8) = xs.map u8 := mapLs_kind n M (fun (n : Nat) => Value.int .u8 (n : Int)) xs
theorem okRefs8 (n : Nat) (xs : List Nat) : okRefs n (xs.map u8) = true := okRefs_map u8 n (fun _ => rfl) xs
theorem renCells8 (n : Nat) (tips : List Nat) (acc : List (Nat × Nat)) (xs : List Nat) : renCells n tips acc (xs.map u8) = (xs.map u8, acc) := renCells_map u8 n tips (fun _ _ => rfl) xs acc
/-! ### sides that are opened -/
def smlN (n v : Nat) : Nat := if v.testBit 0 = true then v ^^^ (2 ^ n - 1) else v
def kA (ss : List Nat) : AV := if ss = [] then .v (.slice none 0 0) else .rsl 0 0 ss.length ss.length 1 true
def kS (ss : List Nat) : List (List AV) := if ss = [] then [] else [ss.map u8]
theorem kA_ne {X : List Nat} (h : X ≠ []) : kA X = .rsl 0 0 X.length X.length 1 true := by unfold kA; rw [if_neg h]
theorem kS_ne {X : List Nat} (h : X ≠ []) : kS X = [X.map u8] := by unfold kS; rw [if_neg h]
theorem kA_one (l : Nat) : kA [l] = .rsl 0 0 1 1 1 true := rfl
theorem kS_one (l : Nat) : kS [l] = [[u8 l]] := rfl
theorem kA_snoc (X : List Nat) (l : Nat) : kA (X ++ [l]) = .rsl 0 0 (X.length + 1) (X.length + 1) 1 true := by rw [kA_ne (by simp)]; simp
theorem kS_snoc (X : List Nat) (l : Nat) : kS (X ++ [l]) = [(X ++ [l]).map u8] := kS_ne (by simp)
theorem happ_nil (v : Nat) (S : List (List AV)) (T : List Nat) : appendmAV 1 true (.v (.slice none 0 0)) [E8 v] ⟨S, T⟩ = some (.rsl S.length 0 1 1 1 true, ⟨S ++ [[u8 v]], T⟩) := by
  simp [appendmAV, newM, maxGrow, flatAV, cells_agg]
theorem happ_at (b : List AV) (X : List Nat) (v : Nat) (T : List Nat) (h : 1 ≤ X.length) (h2 : X.length ≤ 1000) : appendmAV 1 true (.rsl 0 0 X.length X.length 1 true) [E8 v] ⟨[X.map u8, b], T⟩ = some (.rsl 2 0 (X.length + 1) (X.length + 1) 1 true, ⟨[[], b, (X ++ [v]).map u8], T⟩) := by
  have htk : (X.map u8).take X.length = X.map u8 := List.take_of_length_le (by simp)
  simp only [appendmAV, List.getElem?_cons_succ, List.getElem?_cons_zero, List.length_cons, List.length_nil, List.length_map, Nat.mul_one, htk]
  rw [if_pos ⟨trivial, trivial, Nat.le_refl _, by omega, by omega⟩, if_neg (by omega), if_pos ⟨trivial, by unfold maxGrow; omega, by omega⟩]
  simp [flatAV, cells_agg]
theorem groupE : ∀ (X : List Nat), group true 1 X.length (X.map u8) = X.map E8
  | [] => rfl
  | x :: r => by
    have ih := groupE r
    simp only [List.length_cons, List.map_cons, group, if_true, List.take_succ_cons, List.take_zero, List.drop_succ_cons, List.drop_zero, ih]
theorem pubs8 (X : List Nat) : pubs (X.map u8) = X.map u8 := pubs_map u8 (fun _ => rfl) X
theorem frz_nil (v : Nat) (st : St) : frzArgs (rslsOf [.v (.slice none 0 0), E8 v]) [.v (.slice none 0 0), E8 v] st = ([.v (.slice none 0 0), E8 v], st) := rfl
theorem frz_at {X : List Nat} (h : X ≠ []) (v : Nat) (b : List AV) (T : List Nat) : ∃ S, frzArgs (rslsOf [.rsl 0 0 X.length X.length 1 true, E8 v]) [.rsl 0 0 X.length X.length 1 true, E8 v] ⟨[X.map u8, b], T⟩ = ([sl 1 true (X.map E8), E8 v], ⟨S, T⟩) := by
  obtain ⟨x, r, rfl⟩ : ∃ x r, X = x :: r := by cases X with | nil => exact absurd rfl h | cons x r => exact ⟨x, r, rfl⟩
  have hg := groupE (x :: r)
  have hp := pubs8 (x :: r)
  have hsl : sl 1 true ((x :: r).map E8) = .lst .any 1 ((x :: r).map E8) := sl_ne (by simp)
  simp only [rslsOf, List.filterMap_cons, List.filterMap_nil, List.append_nil, frzArgs, List.map_cons, List.map_nil, frzA, frzL, List.getElem?_cons_zero]
  have e1 : frzV 0 (u8 x :: List.map u8 r) (.rsl 0 0 (x :: r).length (x :: r).length 1 true) = .lst .any 1 ((x :: r).map E8) := by
    have hg2 : group true 1 (x :: r).length (pubs (List.drop 0 (u8 x :: List.map u8 r))) = (x :: r).map E8 := by
      rw [List.drop_zero, show (u8 x :: List.map u8 r) = (x :: r).map u8 from rfl, hp, hg]
    simp only [frzV, hg2]
    simp
  have e2 : frzV 0 (u8 x :: List.map u8 r) (E8 v) = E8 v := by simp only [frzV, frzVs]
  rw [e1, e2]
  exact ⟨_, by rw [show sl 1 true (E8 x :: List.map E8 r) = _ from hsl]⟩
theorem plainR_v (x : Value) : plainR (.v x) = true := rfl

theorem ren1_t (n : Nat) (tips : List Nat) (l : List Int) (acc : List (Nat × Nat)) : ren1 n tips acc (tAV l) = (tAV l, acc) := by
  unfold tAV
  cases l with
  | nil => rfl
  | cons a r => rw [sl_ne (by simp)]; simp [ren1]
theorem loop70_0n (n : Nat) (l : List Int) (hlen : l.length < 1000) (hr : ∀ a ∈ l, 0 ≤ a ∧ a < (n : Int)) (ho : ∀ i (h : i + 1 < l.length), l[i] < l[i + 1]) (nl : Bool) (X : List Nat) (f : Int) (k : Nat) (i : Nat) (hok : i ≤ l.length) (env : Env) (st : St)
    (hg : gcAV true 0 0 (canon env [0, 6, 7, 9, 27, 28, 29, 36, 37, 38]) st = ([(0, J n), (6, .v (.int .u8 f)), (7, .v (.slice none 0 0)), (9, tAV l), (27, sl 1 nl (X.map tM)), (28, J X.length), (29, J k), (36, tAV l), (37, J l.length), (38, J i)], ⟨[], []⟩)) :
    ∃ x_1 en s, lim (headed pure (run L) true [0, 6, 7, 9, 27, 28, 29, 36, 37, 38] lp70_0 0 0) env st = some (x_1, en, s) ∧ (x_1 = .exit 3 ∧ s = ⟨[], []⟩ ∧ en.get 0 = J n ∧ en.get 6 = .v (.int .u8 f) ∧ en.get 7 = .v (.slice none 0 0) ∧ en.get 9 = tAV l ∧ en.get 27 = sl 1 nl (X.map tM) ∧ en.get 28 = J X.length ∧ en.get 29 = J k ∧ en.get 3000000 = .any) := by
  refine loop_wp (α := Nat) (fun i => l.length - i) (fun i => i ≤ l.length) (fun i => ([(0, J n), (6, .v (.int .u8 f)), (7, .v (.slice none 0 0)), (9, tAV l), (27, sl 1 nl (X.map tM)), (28, J X.length), (29, J k), (36, tAV l), (37, J l.length), (38, J i)], ⟨[], []⟩)) (fun i x_1 en s => x_1 = .exit 3 ∧ s = ⟨[], []⟩ ∧ en.get 0 = J n ∧ en.get 6 = .v (.int .u8 f) ∧ en.get 7 = .v (.slice none 0 0) ∧ en.get 9 = tAV l ∧ en.get 27 = sl 1 nl (X.map tM) ∧ en.get 28 = J X.length ∧ en.get 29 = J k ∧ en.get 3000000 = .any) (fun i hok => ?_) i hok env st hg
  by_cases h : i < l.length
  · have hs := succ64 i (by omega)
    have hx : indexSAV 1 (tAV l) (.v (.int .i64 (i : Int))) = some (.eptr (I l[i]) 0) := index_ints true l i h
    have hlt : ((i : Int) < (l.length : Int)) = True := eq_true (by omega)
    have hb := hr l[i] (List.getElem_mem h)
    have q1 : (l[i] < 0) = False := eq_false (by omega)
    have q2 : ((n : Int) ≤ l[i]) = False := eq_false (by omega)
    by_cases h0 : 0 < i
    · have q3 : ((0 : Int) < (i : Int)) = True := eq_true (by omega)
      have hm : IntKind.i64.wrap ((i : Int) - 1) = ((i - 1 : Nat) : Int) := by
        rw [← w64 (i - 1) (by omega)]; congr 1; omega
      have hx2 : indexSAV 1 (tAV l) (.v (.int .i64 ((i - 1 : Nat) : Int))) = some (.eptr (I (l[i - 1]'(by omega))) 0) := index_ints true l (i - 1) (by omega)
      have ho1 : l[i - 1]'(by omega) < l[i] := by
        have := ho (i - 1) (by omega)
        simp only [show i - 1 + 1 = i by omega] at this
        exact this
      generalize l[i - 1]'(by omega) = b at *
      have q4 : (l[i] ≤ b) = False := eq_false (by omega)
      generalize l[i] = a at *
      simp only [go_sem, reduceIte, Nat.reduceEqDiff, Nat.reduceAdd, Nat.reduceSub, Nat.reduceLeDiff, Nat.reduceLT, reduceCtorEq, Int.reduceLT, Int.reduceLE, Int.reduceEq, Int.reduceBEq, Int.reduceSub, Int.reduceAdd, Int.reduceMul, Int.reduceNeg, Int.reduceToNat, Nat.reduceMul, Nat.reduceBEq, index_rsl_if, setm, make_ints, condK_dec, wantK_dec, not_dec, and_dec, or_dec, seqK_ite, seqK_none, blockK_ite, blockK_none, opsK_ite, opsK_none, stepK_ite, stepK_none, bodyK_ite, bodyK_none, resK_ite, resK_none, leaveK_ite, leaveK_none, only_ite, only_none, bind_ite, gives_some, gives_none, gives_ite, then_normal, then_ret, then_exit, then_none, then_ite, Option.bind_none, Bool.not_eq_true', decide_eq_false_iff_not, Bool.and_eq_true, Bool.or_eq_true, Option.some.injEq, Int.not_lt, Int.not_le, lp70_0, hlt, hs, hx, q1, q2, q3, hm, hx2, q4]
      refine ⟨i + 1, by simp only [go_sem, reduceIte, Nat.reduceEqDiff, Nat.reduceAdd, Nat.reduceSub, Nat.reduceLeDiff, Nat.reduceLT, reduceCtorEq, Int.reduceLT, Int.reduceLE, Int.reduceEq, Int.reduceBEq, Int.reduceSub, Int.reduceAdd, Int.reduceMul, Int.reduceNeg, Int.reduceToNat, Nat.reduceMul, Nat.reduceBEq, ren1_locm, loc_tips, locT_eq, ren1_t] <;> rfl, ?_, ?_, fun x en s hq => ?_⟩
      · omega
      · omega
      · exact hq
    · have q3 : ((0 : Int) < (i : Int)) = False := eq_false (by omega)
      generalize l[i] = a at *
      simp only [go_sem, reduceIte, Nat.reduceEqDiff, Nat.reduceAdd, Nat.reduceSub, Nat.reduceLeDiff, Nat.reduceLT, reduceCtorEq, Int.reduceLT, Int.reduceLE, Int.reduceEq, Int.reduceBEq, Int.reduceSub, Int.reduceAdd, Int.reduceMul, Int.reduceNeg, Int.reduceToNat, Nat.reduceMul, Nat.reduceBEq, index_rsl_if, setm, make_ints, condK_dec, wantK_dec, not_dec, and_dec, or_dec, seqK_ite, seqK_none, blockK_ite, blockK_none, opsK_ite, opsK_none, stepK_ite, stepK_none, bodyK_ite, bodyK_none, resK_ite, resK_none, leaveK_ite, leaveK_none, only_ite, only_none, bind_ite, gives_some, gives_none, gives_ite, then_normal, then_ret, then_exit, then_none, then_ite, Option.bind_none, Bool.not_eq_true', decide_eq_false_iff_not, Bool.and_eq_true, Bool.or_eq_true, Option.some.injEq, Int.not_lt, Int.not_le, lp70_0, hlt, hs, hx, q1, q2, q3]
      refine ⟨i + 1, by simp only [go_sem, reduceIte, Nat.reduceEqDiff, Nat.reduceAdd, Nat.reduceSub, Nat.reduceLeDiff, Nat.reduceLT, reduceCtorEq, Int.reduceLT, Int.reduceLE, Int.reduceEq, Int.reduceBEq, Int.reduceSub, Int.reduceAdd, Int.reduceMul, Int.reduceNeg, Int.reduceToNat, Nat.reduceMul, Nat.reduceBEq, ren1_locm, loc_tips, locT_eq, ren1_t] <;> rfl, ?_, ?_, fun x en s hq => ?_⟩
      · omega
      · omega
      · exact hq
  · have hlt : ((i : Int) < (l.length : Int)) = False := eq_false (by omega)
    simp only [go_sem, reduceIte, Nat.reduceEqDiff, Nat.reduceAdd, Nat.reduceSub, Nat.reduceLeDiff, Nat.reduceLT, reduceCtorEq, Int.reduceLT, Int.reduceLE, Int.reduceEq, Int.reduceBEq, Int.reduceSub, Int.reduceAdd, Int.reduceMul, Int.reduceNeg, Int.reduceToNat, Nat.reduceMul, Nat.reduceBEq, index_rsl_if, setm, make_ints, condK_dec, wantK_dec, not_dec, and_dec, or_dec, seqK_ite, seqK_none, blockK_ite, blockK_none, opsK_ite, opsK_none, stepK_ite, stepK_none, bodyK_ite, bodyK_none, resK_ite, resK_none, leaveK_ite, leaveK_none, only_ite, only_none, bind_ite, gives_some, gives_none, gives_ite, then_normal, then_ret, then_exit, then_none, then_ite, Option.bind_none, Bool.not_eq_true', decide_eq_false_iff_not, Bool.and_eq_true, Bool.or_eq_true, Option.some.injEq, Int.not_lt, Int.not_le, lp70_0, hlt]

theorem loop70_0c (n : Nat) (l : List Int) (hlen : l.length < 1000) (hr : ∀ a ∈ l, 0 ≤ a ∧ a < (n : Int)) (ho : ∀ i (h : i + 1 < l.length), l[i] < l[i + 1]) (nl : Bool) (X : List Nat) (f : Int) (ss : List Nat) (k : Nat) (i : Nat) (hok : i ≤ l.length) (env : Env) (st : St)
    (hg : gcAV true 1 0 (canon env [0, 6, 7, 9, 27, 28, 29, 36, 37, 38]) st = ([(0, J n), (6, .v (.int .u8 f)), (7, .rsl 0 0 ss.length ss.length 1 true), (9, tAV l), (27, sl 1 nl (X.map tM)), (28, J X.length), (29, J k), (36, tAV l), (37, J l.length), (38, J i)], ⟨[ss.map u8], []⟩)) :
    ∃ x_1 en s, lim (headed pure (run L) true [0, 6, 7, 9, 27, 28, 29, 36, 37, 38] lp70_0 1 0) env st = some (x_1, en, s) ∧ (x_1 = .exit 3 ∧ s = ⟨[ss.map u8], []⟩ ∧ en.get 0 = J n ∧ en.get 6 = .v (.int .u8 f) ∧ en.get 7 = .rsl 0 0 ss.length ss.length 1 true ∧ en.get 9 = tAV l ∧ en.get 27 = sl 1 nl (X.map tM) ∧ en.get 28 = J X.length ∧ en.get 29 = J k ∧ en.get 3000000 = .any) := by
  refine loop_wp (α := Nat) (fun i => l.length - i) (fun i => i ≤ l.length) (fun i => ([(0, J n), (6, .v (.int .u8 f)), (7, .rsl 0 0 ss.length ss.length 1 true), (9, tAV l), (27, sl 1 nl (X.map tM)), (28, J X.length), (29, J k), (36, tAV l), (37, J l.length), (38, J i)], ⟨[ss.map u8], []⟩)) (fun i x_1 en s => x_1 = .exit 3 ∧ s = ⟨[ss.map u8], []⟩ ∧ en.get 0 = J n ∧ en.get 6 = .v (.int .u8 f) ∧ en.get 7 = .rsl 0 0 ss.length ss.length 1 true ∧ en.get 9 = tAV l ∧ en.get 27 = sl 1 nl (X.map tM) ∧ en.get 28 = J X.length ∧ en.get 29 = J k ∧ en.get 3000000 = .any) (fun i hok => ?_) i hok env st hg
  by_cases h : i < l.length
  · have hs := succ64 i (by omega)
    have hx : indexSAV 1 (tAV l) (.v (.int .i64 (i : Int))) = some (.eptr (I l[i]) 0) := index_ints true l i h
    have hlt : ((i : Int) < (l.length : Int)) = True := eq_true (by omega)
    have hb := hr l[i] (List.getElem_mem h)
    have q1 : (l[i] < 0) = False := eq_false (by omega)
    have q2 : ((n : Int) ≤ l[i]) = False := eq_false (by omega)
    by_cases h0 : 0 < i
    · have q3 : ((0 : Int) < (i : Int)) = True := eq_true (by omega)
      have hm : IntKind.i64.wrap ((i : Int) - 1) = ((i - 1 : Nat) : Int) := by
        rw [← w64 (i - 1) (by omega)]; congr 1; omega
      have hx2 : indexSAV 1 (tAV l) (.v (.int .i64 ((i - 1 : Nat) : Int))) = some (.eptr (I (l[i - 1]'(by omega))) 0) := index_ints true l (i - 1) (by omega)
      have ho1 : l[i - 1]'(by omega) < l[i] := by
        have := ho (i - 1) (by omega)
        simp only [show i - 1 + 1 = i by omega] at this
        exact this
      generalize l[i - 1]'(by omega) = b at *
      have q4 : (l[i] ≤ b) = False := eq_false (by omega)
      generalize l[i] = a at *
      simp only [go_sem, reduceIte, Nat.reduceEqDiff, Nat.reduceAdd, Nat.reduceSub, Nat.reduceLeDiff, Nat.reduceLT, reduceCtorEq, Int.reduceLT, Int.reduceLE, Int.reduceEq, Int.reduceBEq, Int.reduceSub, Int.reduceAdd, Int.reduceMul, Int.reduceNeg, Int.reduceToNat, Nat.reduceMul, Nat.reduceBEq, index_rsl_if, setm, make_ints, condK_dec, wantK_dec, not_dec, and_dec, or_dec, seqK_ite, seqK_none, blockK_ite, blockK_none, opsK_ite, opsK_none, stepK_ite, stepK_none, bodyK_ite, bodyK_none, resK_ite, resK_none, leaveK_ite, leaveK_none, only_ite, only_none, bind_ite, gives_some, gives_none, gives_ite, then_normal, then_ret, then_exit, then_none, then_ite, Option.bind_none, Bool.not_eq_true', decide_eq_false_iff_not, Bool.and_eq_true, Bool.or_eq_true, Option.some.injEq, Int.not_lt, Int.not_le, lp70_0, hlt, hs, hx, q1, q2, q3, hm, hx2, q4]
      refine ⟨i + 1, by simp only [go_sem, reduceIte, Nat.reduceEqDiff, Nat.reduceAdd, Nat.reduceSub, Nat.reduceLeDiff, Nat.reduceLT, reduceCtorEq, Int.reduceLT, Int.reduceLE, Int.reduceEq, Int.reduceBEq, Int.reduceSub, Int.reduceAdd, Int.reduceMul, Int.reduceNeg, Int.reduceToNat, Nat.reduceMul, Nat.reduceBEq, ren1_locm, loc_tips, locT_eq, okRefs8, renCells8, ren1_t] <;> rfl, ?_, ?_, fun x en s hq => ?_⟩
      · omega
      · omega
      · exact hq
    · have q3 : ((0 : Int) < (i : Int)) = False := eq_false (by omega)
      generalize l[i] = a at *
      simp only [go_sem, reduceIte, Nat.reduceEqDiff, Nat.reduceAdd, Nat.reduceSub, Nat.reduceLeDiff, Nat.reduceLT, reduceCtorEq, Int.reduceLT, Int.reduceLE, Int.reduceEq, Int.reduceBEq, Int.reduceSub, Int.reduceAdd, Int.reduceMul, Int.reduceNeg, Int.reduceToNat, Nat.reduceMul, Nat.reduceBEq, index_rsl_if, setm, make_ints, condK_dec, wantK_dec, not_dec, and_dec, or_dec, seqK_ite, seqK_none, blockK_ite, blockK_none, opsK_ite, opsK_none, stepK_ite, stepK_none, bodyK_ite, bodyK_none, resK_ite, resK_none, leaveK_ite, leaveK_none, only_ite, only_none, bind_ite, gives_some, gives_none, gives_ite, then_normal, then_ret, then_exit, then_none, then_ite, Option.bind_none, Bool.not_eq_true', decide_eq_false_iff_not, Bool.and_eq_true, Bool.or_eq_true, Option.some.injEq, Int.not_lt, Int.not_le, lp70_0, hlt, hs, hx, q1, q2, q3]
      refine ⟨i + 1, by simp only [go_sem, reduceIte, Nat.reduceEqDiff, Nat.reduceAdd, Nat.reduceSub, Nat.reduceLeDiff, Nat.reduceLT, reduceCtorEq, Int.reduceLT, Int.reduceLE, Int.reduceEq, Int.reduceBEq, Int.reduceSub, Int.reduceAdd, Int.reduceMul, Int.reduceNeg, Int.reduceToNat, Nat.reduceMul, Nat.reduceBEq, ren1_locm, loc_tips, locT_eq, okRefs8, renCells8, ren1_t] <;> rfl, ?_, ?_, fun x en s hq => ?_⟩
      · omega
      · omega
      · exact hq
  · have hlt : ((i : Int) < (l.length : Int)) = False := eq_false (by omega)
    simp only [go_sem, reduceIte, Nat.reduceEqDiff, Nat.reduceAdd, Nat.reduceSub, Nat.reduceLeDiff, Nat.reduceLT, reduceCtorEq, Int.reduceLT, Int.reduceLE, Int.reduceEq, Int.reduceBEq, Int.reduceSub, Int.reduceAdd, Int.reduceMul, Int.reduceNeg, Int.reduceToNat, Nat.reduceMul, Nat.reduceBEq, index_rsl_if, setm, make_ints, condK_dec, wantK_dec, not_dec, and_dec, or_dec, seqK_ite, seqK_none, blockK_ite, blockK_none, opsK_ite, opsK_none, stepK_ite, stepK_none, bodyK_ite, bodyK_none, resK_ite, resK_none, leaveK_ite, leaveK_none, only_ite, only_none, bind_ite, gives_some, gives_none, gives_ite, then_normal, then_ret, then_exit, then_none, then_ite, Option.bind_none, Bool.not_eq_true', decide_eq_false_iff_not, Bool.and_eq_true, Bool.or_eq_true, Option.some.injEq, Int.not_lt, Int.not_le, lp70_0, hlt]

attribute [local go_sem] okRef_o storable_o shaped_o cells_o fin_o pub_o shaped_t cells_t isAgg_t storable_t okRef_t pub_t

theorem tb_lt {n v : Nat} (hv : v < 2 ^ n) (i : Nat) (h : n ≤ i) : v.testBit i = false := Nat.testBit_lt_two_pow (Nat.lt_of_lt_of_le hv (Nat.pow_le_pow_right (by decide) h))
theorem full_bit (n i : Nat) : (2 ^ n - 1).testBit i = decide (i < n) := by
  rw [show 2 ^ n - 1 = 2 ^ n - (0 + 1) from rfl, Nat.testBit_two_pow_sub_succ (Nat.two_pow_pos n)]; simp
theorem smlN_lt {n v : Nat} (hv : v < 2 ^ n) : smlN n v < 2 ^ n := by
  have hp : 0 < 2 ^ n := Nat.two_pow_pos n
  unfold smlN; split
  · exact Nat.xor_lt_two_pow hv (by omega)
  · exact hv
theorem smlN_ne {n v : Nat} (h0 : v ≠ 0) (hf : v ≠ 2 ^ n - 1) : smlN n v ≠ 0 := by
  unfold smlN; split
  · intro h
    apply hf
    apply Nat.eq_of_testBit_eq; intro i
    have := congrArg (fun x => x.testBit i) h
    simp only [Nat.testBit_xor, Nat.zero_testBit] at this
    cases hv : v.testBit i <;> cases hq : (2 ^ n - 1).testBit i <;> simp_all
  · exact h0
theorem memb_mem {m : Nat} (hm : m < 512) (a : Int) : a ∈ memb m ↔ ∃ i : Nat, a = i ∧ m.testBit i = true := by
  unfold memb
  rw [List.mem_map]
  constructor
  · rintro ⟨i, hi, rfl⟩
    rw [List.mem_filter] at hi
    exact ⟨i, rfl, hi.2⟩
  · rintro ⟨i, rfl, h⟩
    refine ⟨i, List.mem_filter.2 ⟨List.mem_range.2 ?_, h⟩, rfl⟩
    apply Nat.lt_of_not_le; intro h9
    rw [Nat.testBit_lt_two_pow (Nat.lt_of_lt_of_le hm (Nat.pow_le_pow_right (n := 2) (by decide) h9))] at h
    cases h
theorem memb_range {n v : Nat} (hn : n ≤ 8) (hv : v < 2 ^ n) : ∀ a ∈ memb v, 0 ≤ a ∧ a < (n : Int) := by
  intro a ha
  have h2n : 2 ^ n ≤ 256 := Nat.pow_le_pow_right (n := 2) (by decide) hn
  obtain ⟨i, rfl, hi⟩ := (memb_mem (by omega) a).1 ha
  have : i < n := by
    apply Nat.lt_of_not_le; intro h9
    rw [tb_lt hv i h9] at hi; cases hi
  omega
theorem memb_asc (m : Nat) : (memb m).Pairwise (· < ·) := by
  unfold memb
  rw [List.pairwise_map]
  exact ((List.pairwise_lt_range (n := 9)).sublist List.filter_sublist).imp (fun h => by omega)
theorem memb_step2 (m : Nat) (i : Nat) (h : i + 1 < (memb m).length) : (memb m)[i] < (memb m)[i + 1] := List.pairwise_iff_getElem.1 (memb_asc m) i (i + 1) (by omega) h (by omega)
theorem memb_pos {m : Nat} (hm : m < 512) (h : m ≠ 0) : (memb m).length ≠ 0 := by
  rw [memb_step m hm h]; simp
theorem xor8 (a b : Nat) (ha : a < 256) (hb : b < 256) : binAV .xor none (u8 a) (u8 b) = some (u8 (a ^^^ b)) := by
  have h : (BitVec.ofInt 8 (a : Int) ^^^ BitVec.ofInt 8 (b : Int)).toNat = a ^^^ b := by
    rw [BitVec.toNat_xor]; simp [BitVec.ofInt_natCast, Nat.mod_eq_of_lt ha, Nat.mod_eq_of_lt hb]
  show some (AV.v (.int .u8 (IntKind.u8.wrap ((BitVec.ofInt 8 (a : Int) ^^^ BitVec.ofInt 8 (b : Int)).toNat : Int)))) = _
  rw [h, wrap8 _ (Nat.xor_lt_two_pow (n := 8) ha hb)]

set_option maxHeartbeats 2000000 in
theorem loop70_1 (n : Nat) (hn : n ≤ 8) (nl : Bool) (X : List Nat) (hX : ∀ v ∈ X, v < 2 ^ n ∧ v ≠ 0 ∧ v ≠ 2 ^ n - 1) (hnd : (X.map (smlN n)).Nodup) (hl : X.length ≤ 13) (i : Nat) (ss : List Nat) (hok : i ≤ X.length ∧ ss = (X.take i).map (smlN n)) (env : Env) (st : St)
    (hg : gcAV true 0 0 (canon env [0, 6, 7, 27, 28, 29, 3000000]) st = ([(0, J n), (6, u8 (2 ^ n - 1)), (7, kA ss), (27, sl 1 nl (X.map tM)), (28, J X.length), (29, J i), (3000000, .any)], ⟨kS ss, []⟩)) :
    ∃ x_1 en s, lim (headed pure (run L) true [0, 6, 7, 27, 28, 29, 3000000] lp70_1 0 0) env st = some (x_1, en, s) ∧ (x_1 = .exit 1 ∧ en.get 7 = kA (X.map (smlN n)) ∧ s = ⟨kS (X.map (smlN n)), []⟩) := by
  refine loop_wp (α := Nat × List Nat) (fun ⟨i, ss⟩ => X.length - i) (fun ⟨i, ss⟩ => i ≤ X.length ∧ ss = (X.take i).map (smlN n)) (fun ⟨i, ss⟩ => ([(0, J n), (6, u8 (2 ^ n - 1)), (7, kA ss), (27, sl 1 nl (X.map tM)), (28, J X.length), (29, J i), (3000000, .any)], ⟨kS ss, []⟩)) (fun ⟨i, ss⟩ x_1 en s => x_1 = .exit 1 ∧ en.get 7 = kA (X.map (smlN n)) ∧ s = ⟨kS (X.map (smlN n)), []⟩) (fun ⟨i, ss⟩ hok => ?_) ⟨i, ss⟩ hok env st hg
  simp only at hok
  obtain ⟨h1, h2⟩ := hok
  dsimp only at h1 h2 ⊢
  by_cases h : i < X.length
  · have hs := succ64 i (by omega)
    have hx := idx_sl tM nl X i h
    have hlt : ((i : Int) < (X.length : Int)) = True := eq_true (by omega)
    have hv := hX X[i] (List.getElem_mem h)
    have hT : (X.take (i + 1)).map (smlN n) = ss ++ [smlN n X[i]] := by
      rw [h2, List.take_succ, List.getElem?_eq_getElem h, List.map_append]; rfl
    have hln : ss.length = i := by rw [h2, List.length_map, List.length_take]; omega
    have hni : smlN n X[i] ∉ ss := by
      have hnd2 : ((X.take (i + 1)).map (smlN n)).Nodup := hnd.sublist ((List.take_sublist _ _).map _)
      rw [hT, List.nodup_append] at hnd2
      intro hm
      exact hnd2.2.2 _ hm _ (List.mem_singleton.2 rfl) rfl
    clear h2
    generalize X[i] = v at *
    have h2n : 2 ^ n ≤ 256 := Nat.pow_le_pow_right (n := 2) (by decide) hn
    have hp : 0 < 2 ^ n := Nat.two_pow_pos n
    have hll : lenAV (tM v) = some (J (memb v).length) := lenm_sl I true (memb v)
    have hl0 : (((memb v).length : Int) = 0) = False := eq_false (by have := memb_pos (m := v) (by omega) hv.2.1; omega)
    have hml := memb_len v
    have hr := memb_range hn hv.1
    have ho := memb_step2 v
    have h105 := fun st => c105 v (by omega) st
    have h106 : ∀ st, run L 106 [E8 v, I 0] st = some (B (v.testBit 0), st) := fun st => c106 v (by omega) st
    have hxo := xor8 v (2 ^ n - 1) (by omega) (by omega)
    have hsl := smlN_lt hv.1
    have hsn := smlN_ne hv.2.1 hv.2.2
    have hsd : smlN n v = if v.testBit 0 = true then v ^^^ (2 ^ n - 1) else v := rfl
    have h122 := fun st => c122 true ss (by omega) (smlN n v) st
    rw [decide_eq_false hni] at h122
    by_cases he : ss = []
    · subst he
      have eA : kA [] = .v (.slice none 0 0) := rfl
      have eS : kS [] = [] := rfl
      rw [eA, eS]
      rw [show sl 1 true (([] : List Nat).map E8) = AV.v (.slice none 0 0) from rfl] at h122
      simp only [go_sem, reduceIte, Nat.reduceEqDiff, Nat.reduceAdd, Nat.reduceSub, Nat.reduceLeDiff, Nat.reduceLT, reduceCtorEq, Int.reduceLT, Int.reduceLE, Int.reduceEq, Int.reduceBEq, Int.reduceSub, Int.reduceAdd, Int.reduceMul, Int.reduceNeg, Int.reduceToNat, Nat.reduceMul, Nat.reduceBEq, index_rsl_if, setm, make_ints, condK_dec, wantK_dec, not_dec, and_dec, or_dec, seqK_ite, seqK_none, blockK_ite, blockK_none, opsK_ite, opsK_none, stepK_ite, stepK_none, bodyK_ite, bodyK_none, resK_ite, resK_none, leaveK_ite, leaveK_none, only_ite, only_none, bind_ite, gives_some, gives_none, gives_ite, then_normal, then_ret, then_exit, then_none, then_ite, Option.bind_none, Bool.not_eq_true', decide_eq_false_iff_not, Bool.and_eq_true, Bool.or_eq_true, Option.some.injEq, Int.not_lt, Int.not_le, lp70_1, hlt, hx, hll, hl0]
      generalize hg : lim (headed pure (run L) true _ lp70_0 _ _) _ _ = o
      obtain ⟨x, en, s, rfl, h2⟩ : ∃ x en s, o = some (x, en, s) ∧ _ := by rw [← hg]; exact loop70_0n n (memb v) (by omega) hr ho nl X ((2 ^ n - 1 : Nat) : Int) i 0 (by omega) _ _ (by simp only [go_sem, reduceIte, Nat.reduceEqDiff, Nat.reduceAdd, Nat.reduceSub, Nat.reduceLeDiff, Nat.reduceLT, reduceCtorEq, Int.reduceLT, Int.reduceLE, Int.reduceEq, Int.reduceBEq, Int.reduceSub, Int.reduceAdd, Int.reduceMul, Int.reduceNeg, Int.reduceToNat, Nat.reduceMul, Nat.reduceBEq, Int.natCast_zero, ren1_t] <;> rfl)
      clear hg
      obtain ⟨rfl, rfl, e0, e6, e7, e9, e27, e28, e29, e30⟩ := h2
      have hfr := fun st => frz_nil (smlN n v) st
      have happ := happ_nil (smlN n v) [[u8 (smlN n v)]] []
      cases hb : v.testBit 0 with
      | true =>
        rw [hb] at h106
        rw [hb, if_pos rfl] at hsd
        rw [← hsd] at hxo
        generalize smlN n v = w at *
        have hz : ((w : Int) = 0) = False := eq_false (by omega)
        simp only [go_sem, reduceIte, Nat.reduceEqDiff, Nat.reduceAdd, Nat.reduceSub, Nat.reduceLeDiff, Nat.reduceLT, reduceCtorEq, Int.reduceLT, Int.reduceLE, Int.reduceEq, Int.reduceBEq, Int.reduceSub, Int.reduceAdd, Int.reduceMul, Int.reduceNeg, Int.reduceToNat, Nat.reduceMul, Nat.reduceBEq, index_rsl_if, setm, make_ints, condK_dec, wantK_dec, not_dec, and_dec, or_dec, seqK_ite, seqK_none, blockK_ite, blockK_none, opsK_ite, opsK_none, stepK_ite, stepK_none, bodyK_ite, bodyK_none, resK_ite, resK_none, leaveK_ite, leaveK_none, only_ite, only_none, bind_ite, gives_some, gives_none, gives_ite, then_normal, then_ret, then_exit, then_none, then_ite, Option.bind_none, Bool.not_eq_true', decide_eq_false_iff_not, Bool.and_eq_true, Bool.or_eq_true, Option.some.injEq, Int.not_lt, Int.not_le, lp70_1, e0, e6, e7, e9, e27, e28, e29, h105, h106, hxo, hz, hfr, h122, plainR_v, happ, hs]
        refine ⟨(i + 1, [w]), by simp only [go_sem, reduceIte, Nat.reduceEqDiff, Nat.reduceAdd, Nat.reduceSub, Nat.reduceLeDiff, Nat.reduceLT, reduceCtorEq, Int.reduceLT, Int.reduceLE, Int.reduceEq, Int.reduceBEq, Int.reduceSub, Int.reduceAdd, Int.reduceMul, Int.reduceNeg, Int.reduceToNat, Nat.reduceMul, Nat.reduceBEq, ren1_locm, loc_tips, locT_eq, e0, e6, e7, e27, e28, e29, e30, kA_one, kS_one, compact, compactW, refsEnv, refsV, refsL, refsStore, refsAt, mapEnv, mapL, mapLs, newName, posOf, mapStore, pickStore, namesOk, refsV_sl, mapL_sl, List.contains_nil, List.contains_cons, Option.getD_some, hasKey] <;> rfl, ?_, ?_, fun x en s hq => ?_⟩
        · dsimp only; exact ⟨by omega, by rw [hT]; rfl⟩
        · dsimp only; omega
        · exact hq
      | false =>
        rw [hb] at h106
        rw [hb, if_neg (by simp)] at hsd
        generalize smlN n v = w at *
        subst hsd
        have hz : ((w : Int) = 0) = False := eq_false (by omega)
        simp only [go_sem, reduceIte, Nat.reduceEqDiff, Nat.reduceAdd, Nat.reduceSub, Nat.reduceLeDiff, Nat.reduceLT, reduceCtorEq, Int.reduceLT, Int.reduceLE, Int.reduceEq, Int.reduceBEq, Int.reduceSub, Int.reduceAdd, Int.reduceMul, Int.reduceNeg, Int.reduceToNat, Nat.reduceMul, Nat.reduceBEq, index_rsl_if, setm, make_ints, condK_dec, wantK_dec, not_dec, and_dec, or_dec, seqK_ite, seqK_none, blockK_ite, blockK_none, opsK_ite, opsK_none, stepK_ite, stepK_none, bodyK_ite, bodyK_none, resK_ite, resK_none, leaveK_ite, leaveK_none, only_ite, only_none, bind_ite, gives_some, gives_none, gives_ite, then_normal, then_ret, then_exit, then_none, then_ite, Option.bind_none, Bool.not_eq_true', decide_eq_false_iff_not, Bool.and_eq_true, Bool.or_eq_true, Option.some.injEq, Int.not_lt, Int.not_le, lp70_1, e0, e6, e7, e9, e27, e28, e29, h105, h106, hz, hfr, h122, plainR_v, happ, hs]
        refine ⟨(i + 1, [w]), by simp only [go_sem, reduceIte, Nat.reduceEqDiff, Nat.reduceAdd, Nat.reduceSub, Nat.reduceLeDiff, Nat.reduceLT, reduceCtorEq, Int.reduceLT, Int.reduceLE, Int.reduceEq, Int.reduceBEq, Int.reduceSub, Int.reduceAdd, Int.reduceMul, Int.reduceNeg, Int.reduceToNat, Nat.reduceMul, Nat.reduceBEq, ren1_locm, loc_tips, locT_eq, e0, e6, e7, e27, e28, e29, e30, kA_one, kS_one, compact, compactW, refsEnv, refsV, refsL, refsStore, refsAt, mapEnv, mapL, mapLs, newName, posOf, mapStore, pickStore, namesOk, refsV_sl, mapL_sl, List.contains_nil, List.contains_cons, Option.getD_some, hasKey] <;> rfl, ?_, ?_, fun x en s hq => ?_⟩
        · dsimp only; exact ⟨by omega, by rw [hT]; rfl⟩
        · dsimp only; omega
        · exact hq
    · have eA := kA_ne he
      have eS := kS_ne he
      have hpos : 1 ≤ ss.length := List.length_pos_iff.2 he
      rw [eA, eS]
      simp only [go_sem, reduceIte, Nat.reduceEqDiff, Nat.reduceAdd, Nat.reduceSub, Nat.reduceLeDiff, Nat.reduceLT, reduceCtorEq, Int.reduceLT, Int.reduceLE, Int.reduceEq, Int.reduceBEq, Int.reduceSub, Int.reduceAdd, Int.reduceMul, Int.reduceNeg, Int.reduceToNat, Nat.reduceMul, Nat.reduceBEq, index_rsl_if, setm, make_ints, condK_dec, wantK_dec, not_dec, and_dec, or_dec, seqK_ite, seqK_none, blockK_ite, blockK_none, opsK_ite, opsK_none, stepK_ite, stepK_none, bodyK_ite, bodyK_none, resK_ite, resK_none, leaveK_ite, leaveK_none, only_ite, only_none, bind_ite, gives_some, gives_none, gives_ite, then_normal, then_ret, then_exit, then_none, then_ite, Option.bind_none, Bool.not_eq_true', decide_eq_false_iff_not, Bool.and_eq_true, Bool.or_eq_true, Option.some.injEq, Int.not_lt, Int.not_le, lp70_1, hlt, hx, hll, hl0]
      generalize hg : lim (headed pure (run L) true _ lp70_0 _ _) _ _ = o
      obtain ⟨x, en, s, rfl, h2⟩ : ∃ x en s, o = some (x, en, s) ∧ _ := by rw [← hg]; exact loop70_0c n (memb v) (by omega) hr ho nl X ((2 ^ n - 1 : Nat) : Int) ss i 0 (by omega) _ _ (by simp only [go_sem, reduceIte, Nat.reduceEqDiff, Nat.reduceAdd, Nat.reduceSub, Nat.reduceLeDiff, Nat.reduceLT, reduceCtorEq, Int.reduceLT, Int.reduceLE, Int.reduceEq, Int.reduceBEq, Int.reduceSub, Int.reduceAdd, Int.reduceMul, Int.reduceNeg, Int.reduceToNat, Nat.reduceMul, Nat.reduceBEq, Int.natCast_zero, okRefs8, renCells8, ren1_t] <;> rfl)
      clear hg
      obtain ⟨rfl, rfl, e0, e6, e7, e9, e27, e28, e29, e30⟩ := h2
      obtain ⟨S2, hfr⟩ := frz_at he (smlN n v) [u8 (smlN n v)] []
      have happ := happ_at [u8 (smlN n v)] ss (smlN n v) [] hpos (by omega)
      cases hb : v.testBit 0 with
      | true =>
        rw [hb] at h106
        rw [hb, if_pos rfl] at hsd
        rw [← hsd] at hxo
        generalize smlN n v = w at *
        have hz : ((w : Int) = 0) = False := eq_false (by omega)
        simp only [go_sem, reduceIte, Nat.reduceEqDiff, Nat.reduceAdd, Nat.reduceSub, Nat.reduceLeDiff, Nat.reduceLT, reduceCtorEq, Int.reduceLT, Int.reduceLE, Int.reduceEq, Int.reduceBEq, Int.reduceSub, Int.reduceAdd, Int.reduceMul, Int.reduceNeg, Int.reduceToNat, Nat.reduceMul, Nat.reduceBEq, index_rsl_if, setm, make_ints, condK_dec, wantK_dec, not_dec, and_dec, or_dec, seqK_ite, seqK_none, blockK_ite, blockK_none, opsK_ite, opsK_none, stepK_ite, stepK_none, bodyK_ite, bodyK_none, resK_ite, resK_none, leaveK_ite, leaveK_none, only_ite, only_none, bind_ite, gives_some, gives_none, gives_ite, then_normal, then_ret, then_exit, then_none, then_ite, Option.bind_none, Bool.not_eq_true', decide_eq_false_iff_not, Bool.and_eq_true, Bool.or_eq_true, Option.some.injEq, Int.not_lt, Int.not_le, lp70_1, e0, e6, e7, e9, e27, e28, e29, h105, h106, hxo, hz, hfr, h122, plainR_v, happ, hs]
        refine ⟨(i + 1, ss ++ [w]), by simp only [go_sem, reduceIte, Nat.reduceEqDiff, Nat.reduceAdd, Nat.reduceSub, Nat.reduceLeDiff, Nat.reduceLT, reduceCtorEq, Int.reduceLT, Int.reduceLE, Int.reduceEq, Int.reduceBEq, Int.reduceSub, Int.reduceAdd, Int.reduceMul, Int.reduceNeg, Int.reduceToNat, Nat.reduceMul, Nat.reduceBEq, ren1_locm, loc_tips, locT_eq, e0, e6, e7, e27, e28, e29, e30, kA_snoc, kS_snoc, refsL_8, mapLs_8, okRefs8, renCells8, compact, compactW, refsEnv, refsV, refsL, refsStore, refsAt, mapEnv, mapL, mapLs, newName, posOf, mapStore, pickStore, namesOk, refsV_sl, mapL_sl, List.contains_nil, List.contains_cons, Option.getD_some, hasKey] <;> rfl, ?_, ?_, fun x en s hq => ?_⟩
        · dsimp only; exact ⟨by omega, by rw [hT]⟩
        · dsimp only; omega
        · exact hq
      | false =>
        rw [hb] at h106
        rw [hb, if_neg (by simp)] at hsd
        generalize smlN n v = w at *
        subst hsd
        have hz : ((w : Int) = 0) = False := eq_false (by omega)
        simp only [go_sem, reduceIte, Nat.reduceEqDiff, Nat.reduceAdd, Nat.reduceSub, Nat.reduceLeDiff, Nat.reduceLT, reduceCtorEq, Int.reduceLT, Int.reduceLE, Int.reduceEq, Int.reduceBEq, Int.reduceSub, Int.reduceAdd, Int.reduceMul, Int.reduceNeg, Int.reduceToNat, Nat.reduceMul, Nat.reduceBEq, index_rsl_if, setm, make_ints, condK_dec, wantK_dec, not_dec, and_dec, or_dec, seqK_ite, seqK_none, blockK_ite, blockK_none, opsK_ite, opsK_none, stepK_ite, stepK_none, bodyK_ite, bodyK_none, resK_ite, resK_none, leaveK_ite, leaveK_none, only_ite, only_none, bind_ite, gives_some, gives_none, gives_ite, then_normal, then_ret, then_exit, then_none, then_ite, Option.bind_none, Bool.not_eq_true', decide_eq_false_iff_not, Bool.and_eq_true, Bool.or_eq_true, Option.some.injEq, Int.not_lt, Int.not_le, lp70_1, e0, e6, e7, e9, e27, e28, e29, h105, h106, hz, hfr, h122, plainR_v, happ, hs]
        refine ⟨(i + 1, ss ++ [w]), by simp only [go_sem, reduceIte, Nat.reduceEqDiff, Nat.reduceAdd, Nat.reduceSub, Nat.reduceLeDiff, Nat.reduceLT, reduceCtorEq, Int.reduceLT, Int.reduceLE, Int.reduceEq, Int.reduceBEq, Int.reduceSub, Int.reduceAdd, Int.reduceMul, Int.reduceNeg, Int.reduceToNat, Nat.reduceMul, Nat.reduceBEq, ren1_locm, loc_tips, locT_eq, e0, e6, e7, e27, e28, e29, e30, kA_snoc, kS_snoc, refsL_8, mapLs_8, okRefs8, renCells8, compact, compactW, refsEnv, refsV, refsL, refsStore, refsAt, mapEnv, mapL, mapLs, newName, posOf, mapStore, pickStore, namesOk, refsV_sl, mapL_sl, List.contains_nil, List.contains_cons, Option.getD_some, hasKey] <;> rfl, ?_, ?_, fun x en s hq => ?_⟩
        · dsimp only; exact ⟨by omega, by rw [hT]⟩
        · dsimp only; omega
        · exact hq
  · have e : X.take i = X := List.take_of_length_le (by omega)
    rw [e] at h2
    subst h2
    have hlt : ((i : Int) < (X.length : Int)) = False := eq_false (by omega)
    simp only [go_sem, reduceIte, Nat.reduceEqDiff, Nat.reduceAdd, Nat.reduceSub, Nat.reduceLeDiff, Nat.reduceLT, reduceCtorEq, Int.reduceLT, Int.reduceLE, Int.reduceEq, Int.reduceBEq, Int.reduceSub, Int.reduceAdd, Int.reduceMul, Int.reduceNeg, Int.reduceToNat, Nat.reduceMul, Nat.reduceBEq, index_rsl_if, setm, make_ints, condK_dec, wantK_dec, not_dec, and_dec, or_dec, seqK_ite, seqK_none, blockK_ite, blockK_none, opsK_ite, opsK_none, stepK_ite, stepK_none, bodyK_ite, bodyK_none, resK_ite, resK_none, leaveK_ite, leaveK_none, only_ite, only_none, bind_ite, gives_some, gives_none, gives_ite, then_normal, then_ret, then_exit, then_none, then_ite, Option.bind_none, Bool.not_eq_true', decide_eq_false_iff_not, Bool.and_eq_true, Bool.or_eq_true, Option.some.injEq, Int.not_lt, Int.not_le, lp70_1, hlt]

theorem shl8n (n : Nat) (h : n ≤ 8) : ∃ r : Int, binAV .shl none (.v (.int .u8 1)) (.v (.int .i64 (n : Int))) = some (.v (.int .u8 r)) ∧ IntKind.u8.wrap (r - 1) = ((2 ^ n - 1 : Nat) : Int) := by
  refine ⟨IntKind.u8.wrap (1 * 2 ^ n), ?_, ?_⟩
  · show (if (n : Int) < 0 then none else some (AV.v (.int .u8 (IntKind.u8.wrap (1 * (2 ^ (min (Int.toNat (n : Int)) 8)))))) ) = _
    rw [if_neg (by omega), Int.toNat_natCast, show min n 8 = n by omega]
  · have hk : ∀ k : Fin 9, IntKind.u8.wrap (IntKind.u8.wrap (1 * 2 ^ k.val) - 1) = ((2 ^ k.val - 1 : Nat) : Int) := by decide
    exact hk ⟨n, by omega⟩
theorem c70 (n : Nat) (h2 : 2 ≤ n) (hn : n ≤ 8) (nl : Bool) (X : List Nat) (hX : ∀ v ∈ X, v < 2 ^ n ∧ v ≠ 0 ∧ v ≠ 2 ^ n - 1) (hnd : (X.map (smlN n)).Nodup) (hl : X.length ≤ 13) :
    run L 70 [J n, sl 1 nl (X.map tM)] ⟨[], []⟩ = some (.tup [kA (X.map (smlN n)), I 0], ⟨kS (X.map (smlN n)), []⟩) := by
  rw [run_shared (fn := ir70) rfl rfl]
  have q1 : ((n : Int) < 2) = False := eq_false (by omega)
  have q2 : ((8 : Int) < (n : Int)) = False := eq_false (by omega)
  have q3 : ((13 : Int) < (X.length : Int)) = False := eq_false (by omega)
  obtain ⟨r, hsh, hsu⟩ := shl8n n hn
  simp only [ir70, go_sem, reduceIte, Nat.reduceEqDiff, Nat.reduceAdd, Nat.reduceSub, Nat.reduceLeDiff, Nat.reduceLT, reduceCtorEq, Int.reduceLT, Int.reduceLE, Int.reduceEq, Int.reduceBEq, Int.reduceSub, Int.reduceAdd, Int.reduceMul, Int.reduceNeg, Int.reduceToNat, Nat.reduceMul, Nat.reduceBEq, List.length_map, q1, q2, q3, hsh, hsu]
  generalize hg : lim (headed pure (run L) true _ lp70_1 _ _) _ _ = o
  obtain ⟨x, en, s, rfl, h2⟩ : ∃ x en s, o = some (x, en, s) ∧ _ := by rw [← hg]; exact loop70_1 n hn nl X hX hnd hl 0 [] ⟨by omega, by simp⟩ _ _ (by simp only [go_sem, reduceIte, Nat.reduceEqDiff, Nat.reduceAdd, Nat.reduceSub, Nat.reduceLeDiff, Nat.reduceLT, reduceCtorEq, Int.reduceLT, Int.reduceLE, Int.reduceEq, Int.reduceBEq, Int.reduceSub, Int.reduceAdd, Int.reduceMul, Int.reduceNeg, Int.reduceToNat, Nat.reduceMul, Nat.reduceBEq, Int.natCast_zero, kA, kS, compact, compactW, refsEnv, refsV, refsL, refsStore, refsAt, mapEnv, mapL, mapLs, newName, posOf, mapStore, pickStore, namesOk, refsV_sl, mapL_sl, List.contains_nil, List.contains_cons, Option.getD_some, hasKey] <;> rfl)
  clear hg
  obtain ⟨rfl, e7, rfl⟩ := h2
  simp only [go_sem, reduceIte, Nat.reduceEqDiff, Nat.reduceAdd, Nat.reduceSub, Nat.reduceLeDiff, Nat.reduceLT, reduceCtorEq, Int.reduceLT, Int.reduceLE, Int.reduceEq, Int.reduceBEq, Int.reduceSub, Int.reduceAdd, Int.reduceMul, Int.reduceNeg, Int.reduceToNat, Nat.reduceMul, Nat.reduceBEq, e7]

attribute [local go_sem] okRef_o storable_o shaped_o cells_o fin_o pub_o shaped_t cells_t isAgg_t storable_t okRef_t pub_t

/-! ### friends -/
theorem slice8 (ss : List Nat) (j : Nat) (h : j < ss.length) : ((ss.map u8).drop j).take 1 = [u8 (ss.getD j 0)] := by
  rw [List.drop_eq_getElem_cons (by simpa using h), List.take_succ_cons, List.take_zero, List.getElem_map]
  simp [List.getD_eq_getElem?_getD, h]

attribute [local go_sem] okRef_o storable_o shaped_o cells_o fin_o pub_o shaped_t cells_t isAgg_t storable_t okRef_t pub_t

theorem shVs_8 (n : Nat) : ∀ xs : List Nat, shVs n (xs.map u8) = xs.map u8
  | [] => rfl
  | x :: r => by simp only [List.map_cons, shVs, shV, shVs_8 n r]


/-! ### divisions by numbers: what is known of them -/
structure Sides (n : Nat) (ss : List Nat) : Prop where
  lt : ∀ s ∈ ss, s < 2 ^ n
  ne : ∀ s ∈ ss, s ≠ 0
  even : ∀ s ∈ ss, s.testBit 0 = false
  nd : ss.Nodup
theorem smN_bit {n : Nat} (hn : n ≤ 8) (x i : Nat) : (smN n x).testBit i = (x.testBit i && decide (i < n) && decide (0 < i)) := by
  unfold smN
  rw [dfN_bit (by omega), Nat.testBit_and, full_bit]
  have h1 : (1 : Nat).testBit i = decide (i = 0) := by
    have := Nat.testBit_two_pow (n := 0) (m := i)
    simp only [Nat.pow_zero] at this
    rw [this]; simp only [eq_comm]
  rw [h1]
  by_cases h : i < n
  · by_cases h0 : i = 0
    · subst h0; simp
    · simp [h, h0, show i < 8 by omega, show 0 < i by omega]
  · simp [h]
theorem smN_small {n : Nat} (hn : n ≤ 8) (x : Nat) : smN n x < 2 ^ n := by
  have hp : 0 < 2 ^ n := Nat.two_pow_pos n
  have h1 : smN n x ≤ x &&& (2 ^ n - 1) := Nat.and_le_left
  have h2 : x &&& (2 ^ n - 1) ≤ 2 ^ n - 1 := Nat.and_le_right
  omega
theorem mkS_ok {n : Nat} (hn : n ≤ 8) (g : Nat) {out : List Nat} (h : Sides n out) (x : Nat) : Sides n (mkS n g out x) := by
  unfold mkS
  split
  · exact h
  · next h0 =>
    split
    · exact h
    · next h1 =>
      split
      · exact h
      · refine ⟨?_, ?_, ?_, ?_⟩
        · intro s hs
          rcases List.mem_append.1 hs with hs | hs
          · exact h.lt s hs
          · rw [List.mem_singleton] at hs; subst hs; exact smN_small hn x
        · intro s hs
          rcases List.mem_append.1 hs with hs | hs
          · exact h.ne s hs
          · rw [List.mem_singleton] at hs; subst hs; exact h0
        · intro s hs
          rcases List.mem_append.1 hs with hs | hs
          · exact h.even s hs
          · rw [List.mem_singleton] at hs; subst hs; rw [smN_bit hn]; simp
        · rw [List.nodup_append]
          refine ⟨h.nd, by simp, fun a ha b hb e => ?_⟩
          rw [List.mem_singleton] at hb; subst hb; subst e
          exact h1 ha
theorem fold_ok {n : Nat} (hn : n ≤ 8) (g : Nat) : ∀ (zs out : List Nat), Sides n out → Sides n (zs.foldl (mkS n g) out) ∧ (zs.foldl (mkS n g) out).length ≤ out.length + zs.length
  | [], out, h => ⟨h, by simp⟩
  | z :: r, out, h => by
    have ih := fold_ok hn g r _ (mkS_ok hn g h z)
    have := mkS_len n g out z
    rw [List.foldl_cons]
    refine ⟨ih.1, ?_⟩
    rw [List.length_cons]
    omega
theorem made_ok {n : Nat} (hn : n ≤ 8) (g : Nat) (zs : List Nat) (k : Nat) : Sides n (madeS n g zs k) ∧ (madeS n g zs k).length ≤ k := by
  have h := fold_ok hn g (zs.take k) [] ⟨by simp, by simp, by simp, List.nodup_nil⟩
  refine ⟨h.1, ?_⟩
  have h2 := h.2
  rw [List.length_nil, List.length_take] at h2
  unfold madeS
  omega
/-! ### the sides that are told are these divisions -/
theorem sml_fl {n : Nat} (hn : 1 ≤ n) (w i : Nat) {s : Nat} (he : s.testBit 0 = false) : smlN n (flN n w i s) = s := by
  unfold flN smlN
  have hf : (2 ^ n - 1).testBit 0 = true := by rw [full_bit]; exact decide_eq_true (by omega)
  split
  · rw [if_pos (by rw [Nat.testBit_xor, he, hf]; rfl), Nat.xor_assoc, Nat.xor_self, Nat.xor_zero]
  · rw [if_neg (by rw [he]; simp)]
theorem told_sml {n : Nat} (hn : 1 ≤ n) (w : Nat) : ∀ (i : Nat) (ss : List Nat), (∀ s ∈ ss, s.testBit 0 = false) → (toldL n w i ss).map (smlN n) = ss
  | _, [], _ => rfl
  | i, s :: r, h => by
    simp only [toldL, List.map_cons]
    rw [sml_fl hn w i (h s (by simp)), told_sml hn w (i + 1) r (fun t ht => h t (by simp [ht]))]
theorem xor_full {n s : Nat} (hs : s ≠ 2 ^ n - 1) : s ^^^ (2 ^ n - 1) ≠ 0 := by
  intro h
  apply hs
  apply Nat.eq_of_testBit_eq; intro i
  have := congrArg (fun x => x.testBit i) h
  simp only [Nat.testBit_xor, Nat.zero_testBit] at this
  cases hv : s.testBit i <;> cases hq : (2 ^ n - 1).testBit i <;> simp_all
theorem told_good {n : Nat} (hn : 1 ≤ n) (w : Nat) : ∀ (i : Nat) (ss : List Nat), (∀ s ∈ ss, s < 2 ^ n ∧ s ≠ 0 ∧ s.testBit 0 = false) → ∀ v ∈ toldL n w i ss, v < 2 ^ n ∧ v ≠ 0 ∧ v ≠ 2 ^ n - 1
  | _, [], _, v, hv => by simp [toldL] at hv
  | i, s :: r, h, v, hv => by
    simp only [toldL, List.mem_cons] at hv
    rcases hv with rfl | hv
    · obtain ⟨h1, h2, h3⟩ := h s (by simp)
      have hf : (2 ^ n - 1).testBit 0 = true := by rw [full_bit]; exact decide_eq_true (by omega)
      have hsf : s ≠ 2 ^ n - 1 := fun e => by rw [e, hf] at h3; cases h3
      have hp : 0 < 2 ^ n := Nat.two_pow_pos n
      unfold flN; split
      · refine ⟨Nat.xor_lt_two_pow h1 (by omega), xor_full hsf, fun e => h2 ?_⟩
        have : (s ^^^ (2 ^ n - 1)) ^^^ (2 ^ n - 1) = (2 ^ n - 1) ^^^ (2 ^ n - 1) := by rw [e]
        rwa [Nat.xor_assoc, Nat.xor_self, Nat.xor_zero] at this
      · exact ⟨h1, h2, hsf⟩
    · exact told_good hn w (i + 1) r (fun t ht => h t (by simp [ht])) v hv
theorem told_len (n w : Nat) : ∀ (i : Nat) (ss : List Nat), (toldL n w i ss).length = ss.length
  | _, [] => rfl
  | i, s :: r => by simp only [toldL, List.length_cons, told_len n w (i + 1) r]

/-! ### sets that agree -/
end Go.Proofs.YtdnmhlfjafjkbaaGreatDoor.Vm

namespace Go.Proofs.YtdnmhlfjafjkbaaGreatDoor.Vm
open Go Go.Ev Go.ChangeShapes Go.WideShapes Go.ChangeAt Go.RowKit
set_option maxRecDepth 100000
attribute [local go_sem] cells_any storable_any ren1_any shaped_ptr cells_ptr storable_ptr ren1_ptr shaped_eptr cells_eptr storable_eptr ren1_eptr shaped_rsl cells_rsl storable_rsl ren1_rsl shaped_int cells_int storable_int ren1_int shaped_bool cells_bool storable_bool ren1_bool shaped_nils cells_nils storable_nils ren1_nils shaped_lst cells_lst storable_lst shaped_fn cells_fn storable_fn ren1_fn shaped_ifc cells_ifc storable_ifc ren1_ifc shaped_agg cells_agg storable_agg ren1_agg shaped_tup cells_tup storable_tup ren1_tup shaped_nif cells_nif storable_nif ren1_nif ren1_lany ren1_lfull ren1_lown len_lst len_rsl len_nil load_ptr load_eptr isRsl_lst isRsl_nil isRsl_rsl elems_nil elems_lst elems_sl isRsl_sl body_eq bodyK_normal bodyK_ret resK_some leaveK_some only_some code_skip code_exit code_ret code_ops code_seq code_cond code_block seqK_normal seqK_ret seqK_exit condK_true condK_false blockK_normal blockK_ret blockK_exit opsK_some ops_nil ops_cons wantK_true wantK_false stepK_some pubs pub pub_sl params okRef_loc storable_loc shaped_loc cells_loc isRsl_loc elems_loc len_loc untips untip untip_sl wantedAV setElems withO isAgg_v isAgg_agg isAgg_lst isAgg_ptr isAgg_fn isAgg_ifc isAgg_rsl isAgg_sl isAgg_loc List.replicate_succ List.replicate_zero opAV valAV aval avals ofVal Env.get setD canon gcAV renAll renEnv renStore renCells ren1_sl cutSt okEnv okStore okRefs okRef okRef_sl bin_int bin_bool bin_lst bin_rsl bin_nil bin_agg cellsEq cellEq isShift intOp boolOp min_int max_int beq_int bne resAV tupAV leave_eq fin_sl fin_loc fins fin_v fin_lst fin_agg fin_tup fin_fn storeAV readCells putCells cells_sl shaped_sl storable_sl fieldAddrAV len_sl goI List.getElem?_cons_zero List.getElem?_cons_succ List.getElem?_nil Option.bind_some Option.map_some List.length_cons List.length_nil List.all_cons List.all_nil Bool.and_true Bool.true_and Bool.and_false Bool.false_and and_true true_and and_false false_and Bool.false_eq_true List.set_cons_zero List.set_cons_succ List.append_nil List.nil_append List.cons_append List.take_zero List.take_succ_cons List.take_nil List.drop_zero List.drop_succ_cons List.map_cons List.map_nil decide_true decide_false beq_self_eq_true Bool.not_true Bool.not_false or_true true_or or_false false_or Nat.zero_add Nat.add_zero Nat.le_refl Nat.lt_irrefl decide_eq_true_eq eq_self_iff_true not_true_eq_false not_false_eq_true List.getD_cons_zero code_loop Nat.zero_le Nat.not_lt_zero Bool.true_beq Bool.false_beq beq_true beq_false ge_iff_le gt_iff_lt keepR keepT ownTop Lpure pus Option.map_none assert_ifc assert_nil idxA_ptr idxA_eptr idxV_agg Int.cast_ofNat_Int Nat.mul_one Nat.zero_mul Int.toNat_natCast Int.toNat_zero setParts withO2 hasKey eqnil_sl nenil_sl eqnil_loc nenil_loc map_nil_iff okRefs_ints renCells_ints

theorem cells5 : Tryz.prog.cellsOf 5 = 1 := by kernel_rfl
theorem cells55 : Tryz.prog.cellsOf 55 = 13 := by kernel_rfl
theorem cells56 : Tryz.prog.cellsOf 56 = 1 := by kernel_rfl
theorem cells58 : Tryz.prog.cellsOf 58 = 17 := by kernel_rfl
theorem one_byte {d : Nat} {bs : List AV} (h : Sh Tryz.prog (d + 1) 5 bs) : ∃ n : Nat, bs = [u8 n] ∧ n < 256 := by
  simp only [Sh, Tryz.underlying5] at h
  obtain ⟨n, h1, h2⟩ := h
  have hb := bounds_u8 h2
  obtain ⟨k, rfl⟩ := Int.eq_ofNat_of_zero_le hb.1
  exact ⟨k, h1, by omega⟩
theorem one_word {d : Nat} {bs : List AV} (h : Sh Tryz.prog (d + 1) 56 bs) : ∃ n : Nat, bs = [u16 n] ∧ n < 65536 := by
  simp only [Sh, Tryz.underlying56] at h
  obtain ⟨n, h1, h2⟩ := h
  have hb := bounds_u16 h2
  obtain ⟨k, rfl⟩ := Int.eq_ofNat_of_zero_le hb.1
  exact ⟨k, h1, by omega⟩
/-- So many bytes. -/
theorem all_bytes : ∀ (k : Nat) (bs : List AV), bs.length = k → (∀ i, i < k → ∃ n : Nat, (bs.drop i).take 1 = [u8 n] ∧ n < 256) → ∃ zs : List Nat, bs = zs.map u8 ∧ zs.length = k ∧ ∀ n ∈ zs, n < 256
  | 0, bs, hl, _ => ⟨[], by simpa using hl, rfl, by simp⟩
  | k + 1, b :: bs, hl, h => by
    obtain ⟨n, h1, h2⟩ := h 0 (by omega)
    simp only [List.drop_zero, List.take_succ_cons, List.take_zero, List.cons.injEq, and_true] at h1
    obtain ⟨zs, g1, g2, g3⟩ := all_bytes k bs (by simpa using hl) (fun i hi => by
      obtain ⟨x, q1, q2⟩ := h (i + 1) (by omega)
      exact ⟨x, by simpa using q1, q2⟩)
    refine ⟨n :: zs, by rw [List.map_cons, ← h1, ← g1], by simp [g2], fun x hx => ?_⟩
    rw [List.mem_cons] at hx
    rcases hx with rfl | hx
    · exact h2
    · exact g3 x hx
theorem sh_13 {d : Nat} {bs : List AV} (h : Sh Tryz.prog (d + 2) 55 bs) : ∃ zs : List Nat, bs = zs.map u8 ∧ zs.length = 13 ∧ ∀ n ∈ zs, n < 256 := by
  unfold Sh at h
  simp only [Tryz.underlying55, cells55, cells5] at h
  refine all_bytes 13 bs (by omega) (fun i hi => ?_)
  have := h.2 i hi
  rw [Nat.mul_one] at this
  exact one_byte this
/-- Divisions by numbers. -/
theorem sh_cut {c : AV} (h : ShV Tryz.prog 8 58 c) : ∃ (a g : Nat) (zs : List Nat) (m w : Nat), c = cutAV a g zs m w ∧ a < 256 ∧ g < 256 ∧ zs.length = 13 ∧ (∀ z ∈ zs, z < 256) ∧ m < 256 ∧ w < 65536 := by
  unfold ShV at h
  rw [if_pos (by unfold aggB; rw [Tryz.underlying58])] at h
  obtain ⟨cs, rfl, hs⟩ := h
  unfold Sh at hs
  simp only [Tryz.underlying58, cells58] at hs
  obtain ⟨h1, h2⟩ := hs
  have f0 := h2 0 _ rfl
  have f1 := h2 1 _ rfl
  have f2 := h2 2 _ rfl
  have f3 := h2 3 _ rfl
  have f4 := h2 4 _ rfl
  simp only [List.getElem_toArray, List.getElem_cons_zero, List.getElem_cons_succ, cells5, cells55, cells56] at f0 f1 f2 f3 f4
  obtain ⟨a, e0, l0⟩ := one_byte f0
  obtain ⟨g, e1, l1⟩ := one_byte f1
  obtain ⟨zs, e2, l2, b2⟩ := sh_13 f2
  obtain ⟨m, e3, l3⟩ := one_byte f3
  obtain ⟨w, e4, l4⟩ := one_word f4
  refine ⟨a, g, zs, m, w, ?_, l0, l1, l2, b2, l3, l4⟩
  have t4 : (cs.drop 16).take 1 = cs.drop 16 := List.take_of_length_le (by simp [h1])
  have sp : ∀ (i z : Nat), (cs.drop i).take z ++ cs.drop (i + z) = cs.drop i := fun i z => by
    have := List.take_append_drop z (cs.drop i)
    rwa [List.drop_drop] at this
  have s0 := sp 0 1
  have s1 := sp 1 1
  have s2 := sp 2 13
  have s3 := sp 15 1
  simp only [Nat.zero_add, Nat.reduceAdd] at s0 s1 s2 s3
  show AV.agg cs = AV.agg (cutC a g zs m w)
  congr 1
  rw [show cs = cs.drop 0 from rfl, ← s0, ← s1, ← s2, ← s3, ← t4, e0, e1, e2, e3, e4]
  rfl
theorem sh_byte {a : AV} (h : ShV Tryz.prog 8 5 a) : ∃ n : Nat, a = u8 n ∧ n < 256 := by
  unfold ShV at h
  rw [if_neg (by unfold aggB; rw [Tryz.underlying5]; simp)] at h
  obtain ⟨n, h1, h2⟩ := one_byte h
  simp only [List.cons.injEq, and_true] at h1
  exact ⟨n, h1, h2⟩
end Go.Proofs.YtdnmhlfjafjkbaaGreatDoor.Vm

namespace Go.Proofs.YtdnmhlfjafjkbaaGreatDoor.Vm
open Go Go.Ev
set_option maxRecDepth 100000
attribute [local go_sem] cells_any storable_any ren1_any shaped_ptr cells_ptr storable_ptr ren1_ptr shaped_eptr cells_eptr storable_eptr ren1_eptr shaped_rsl cells_rsl storable_rsl ren1_rsl shaped_int cells_int storable_int ren1_int shaped_bool cells_bool storable_bool ren1_bool shaped_nils cells_nils storable_nils ren1_nils shaped_lst cells_lst storable_lst shaped_fn cells_fn storable_fn ren1_fn shaped_ifc cells_ifc storable_ifc ren1_ifc shaped_agg cells_agg storable_agg ren1_agg shaped_tup cells_tup storable_tup ren1_tup shaped_nif cells_nif storable_nif ren1_nif ren1_lany ren1_lfull ren1_lown len_lst len_rsl len_nil load_ptr load_eptr isRsl_lst isRsl_nil isRsl_rsl elems_nil elems_lst elems_sl isRsl_sl body_eq bodyK_normal bodyK_ret resK_some leaveK_some only_some code_skip code_exit code_ret code_ops code_seq code_cond code_block seqK_normal seqK_ret seqK_exit condK_true condK_false blockK_normal blockK_ret blockK_exit opsK_some ops_nil ops_cons wantK_true wantK_false stepK_some pubs pub pub_sl params okRef_loc storable_loc shaped_loc cells_loc isRsl_loc elems_loc len_loc untips untip untip_sl wantedAV setElems withO isAgg_v isAgg_agg isAgg_lst isAgg_ptr isAgg_fn isAgg_ifc isAgg_rsl isAgg_sl isAgg_loc List.replicate_succ List.replicate_zero opAV valAV aval avals ofVal Env.get setD canon gcAV renAll renEnv renStore renCells ren1_sl cutSt okEnv okStore okRefs okRef okRef_sl bin_int bin_bool bin_lst bin_rsl bin_nil bin_agg cellsEq cellEq isShift intOp boolOp min_int max_int beq_int bne resAV tupAV leave_eq fin_sl fin_loc fins fin_v fin_lst fin_agg fin_tup fin_fn storeAV readCells putCells cells_sl shaped_sl storable_sl fieldAddrAV len_sl goI List.getElem?_cons_zero List.getElem?_cons_succ List.getElem?_nil Option.bind_some Option.map_some List.length_cons List.length_nil List.all_cons List.all_nil Bool.and_true Bool.true_and Bool.and_false Bool.false_and and_true true_and and_false false_and Bool.false_eq_true List.set_cons_zero List.set_cons_succ List.append_nil List.nil_append List.cons_append List.take_zero List.take_succ_cons List.take_nil List.drop_zero List.drop_succ_cons List.map_cons List.map_nil decide_true decide_false beq_self_eq_true Bool.not_true Bool.not_false or_true true_or or_false false_or Nat.zero_add Nat.add_zero Nat.le_refl Nat.lt_irrefl decide_eq_true_eq eq_self_iff_true not_true_eq_false not_false_eq_true List.getD_cons_zero code_loop Nat.zero_le Nat.not_lt_zero Bool.true_beq Bool.false_beq beq_true beq_false ge_iff_le gt_iff_lt keepR keepT ownTop Lpure pus Option.map_none assert_ifc assert_nil idxA_ptr idxA_eptr idxV_agg Int.cast_ofNat_Int Nat.mul_one Nat.zero_mul Int.toNat_natCast Int.toNat_zero setParts withO2 hasKey eqnil_sl nenil_sl eqnil_loc nenil_loc map_nil_iff okRefs_ints renCells_ints
attribute [local go_sem] okRef_o storable_o shaped_o cells_o fin_o pub_o shaped_t cells_t isAgg_t storable_t okRef_t pub_t

theorem all58 : (List.range 256).map (fun m => callAV L 400 58 [U m] ⟨[], []⟩) = (List.range 256).map (fun m => some (J (memb m).length, (⟨[], []⟩ : St))) := by kernel_rfl
theorem all93 : (List.range 256).map (fun m => callAV L 400 93 [u8 m] ⟨[], []⟩) = (List.range 256).map (fun m => some (J (memb m).length, (⟨[], []⟩ : St))) := by kernel_rfl
theorem c58 (m : Nat) (h : m < 256) (st : St) : run L 58 [U m] st = some (J (memb m).length, st) := run_any' (fn := ir58) rfl rfl (callAV_run L 400 _ _ _ _ (all_of all58 m h)) st
theorem c93 (m : Nat) (h : m < 256) (st : St) : run L 93 [u8 m] st = some (J (memb m).length, st) := run_any' (fn := ir93) rfl rfl (callAV_run L 400 _ _ _ _ (all_of all93 m h)) st
def indexOf (a : Int) : List Int → Nat → Int
  | [], _ => -1
  | b :: r, i => if a = b then (i : Int) else indexOf a r (i + 1)
theorem loop59 (nl : Bool) (l : List Int) (hlen : l.length < 1000000) (a : Int) (i : Nat) (hok : i ≤ l.length) (env : Env) (st : St)
    (hg : gcAV true 0 0 (canon env [0, 1, 7, 8]) st = ([(0, sl 1 nl (l.map I)), (1, I a), (7, I l.length), (8, I i)], ⟨[], []⟩)) :
    ∃ x_1 en s, lim (headed pure (run L) true [0, 1, 7, 8] lp59_0 0 0) env st = some (x_1, en, s) ∧ (if a ∈ l.drop i then x_1 = .ret ∧ en.get 4 = I (indexOf a (l.drop i) i) else x_1 = .exit 0) := by
  refine loop_wp (α := Nat) (fun i => l.length - i) (fun i => i ≤ l.length) (fun i => ([(0, sl 1 nl (l.map I)), (1, I a), (7, I l.length), (8, I i)], ⟨[], []⟩)) (fun i x_1 en s => if a ∈ l.drop i then x_1 = .ret ∧ en.get 4 = I (indexOf a (l.drop i) i) else x_1 = .exit 0) (fun i hok => ?_) i hok env st hg
  by_cases h : i < l.length
  · have hx := index_ints nl l i h
    have hs := succ64 i (by omega)
    have hd : l.drop i = l[i] :: l.drop (i + 1) := List.drop_eq_getElem_cons h
    have hlt : ((i : Int) < (l.length : Int)) = True := eq_true (by omega)
    rw [hd]
    generalize l[i] = b at *
    by_cases p : a = b
    · simp only [go_sem, reduceIte, Nat.reduceEqDiff, Nat.reduceAdd, Nat.reduceSub, Nat.reduceLeDiff, Nat.reduceLT, reduceCtorEq, Int.reduceLT, Int.reduceLE, Int.reduceEq, Int.reduceBEq, Int.reduceSub, Int.reduceAdd, Int.reduceMul, Int.reduceNeg, Int.reduceToNat, Nat.reduceMul, Nat.reduceBEq, index_rsl_if, setm, make_ints, condK_dec, wantK_dec, not_dec, and_dec, or_dec, seqK_ite, seqK_none, blockK_ite, blockK_none, opsK_ite, opsK_none, stepK_ite, stepK_none, bodyK_ite, bodyK_none, resK_ite, resK_none, leaveK_ite, leaveK_none, only_ite, only_none, bind_ite, gives_some, gives_none, gives_ite, then_normal, then_ret, then_exit, then_none, then_ite, Option.bind_none, Bool.not_eq_true', decide_eq_false_iff_not, Bool.and_eq_true, Bool.or_eq_true, Option.some.injEq, Int.not_lt, Int.not_le, lp59_0, hx, hlt, p]
      rw [if_pos (by simp)]; simp [indexOf]
    · have e : indexOf a (b :: l.drop (i + 1)) i = indexOf a (l.drop (i + 1)) (i + 1) := by simp only [indexOf]; rw [if_neg p]
      simp only [go_sem, reduceIte, Nat.reduceEqDiff, Nat.reduceAdd, Nat.reduceSub, Nat.reduceLeDiff, Nat.reduceLT, reduceCtorEq, Int.reduceLT, Int.reduceLE, Int.reduceEq, Int.reduceBEq, Int.reduceSub, Int.reduceAdd, Int.reduceMul, Int.reduceNeg, Int.reduceToNat, Nat.reduceMul, Nat.reduceBEq, index_rsl_if, setm, make_ints, condK_dec, wantK_dec, not_dec, and_dec, or_dec, seqK_ite, seqK_none, blockK_ite, blockK_none, opsK_ite, opsK_none, stepK_ite, stepK_none, bodyK_ite, bodyK_none, resK_ite, resK_none, leaveK_ite, leaveK_none, only_ite, only_none, bind_ite, gives_some, gives_none, gives_ite, then_normal, then_ret, then_exit, then_none, then_ite, Option.bind_none, Bool.not_eq_true', decide_eq_false_iff_not, Bool.and_eq_true, Bool.or_eq_true, Option.some.injEq, Int.not_lt, Int.not_le, lp59_0, hx, hlt, p, hs]
      refine ⟨i + 1, by simp only [go_sem, reduceIte, Nat.reduceEqDiff, Nat.reduceAdd, Nat.reduceSub, Nat.reduceLeDiff, Nat.reduceLT, reduceCtorEq, Int.reduceLT, Int.reduceLE, Int.reduceEq, Int.reduceBEq, Int.reduceSub, Int.reduceAdd, Int.reduceMul, Int.reduceNeg, Int.reduceToNat, Nat.reduceMul, Nat.reduceBEq, ren1_locm, loc_tips, locT_eq] <;> rfl, ?_, ?_, fun x en s hq => ?_⟩
      · omega
      · omega
      · rw [e]; simp only [List.mem_cons, p, false_or]; exact hq
  · have hd : l.drop i = [] := List.drop_eq_nil_of_le (by omega)
    have hlt : ((i : Int) < (l.length : Int)) = False := eq_false (by omega)
    simp only [go_sem, reduceIte, Nat.reduceEqDiff, Nat.reduceAdd, Nat.reduceSub, Nat.reduceLeDiff, Nat.reduceLT, reduceCtorEq, Int.reduceLT, Int.reduceLE, Int.reduceEq, Int.reduceBEq, Int.reduceSub, Int.reduceAdd, Int.reduceMul, Int.reduceNeg, Int.reduceToNat, Nat.reduceMul, Nat.reduceBEq, index_rsl_if, setm, make_ints, condK_dec, wantK_dec, not_dec, and_dec, or_dec, seqK_ite, seqK_none, blockK_ite, blockK_none, opsK_ite, opsK_none, stepK_ite, stepK_none, bodyK_ite, bodyK_none, resK_ite, resK_none, leaveK_ite, leaveK_none, only_ite, only_none, bind_ite, gives_some, gives_none, gives_ite, then_normal, then_ret, then_exit, then_none, then_ite, Option.bind_none, Bool.not_eq_true', decide_eq_false_iff_not, Bool.and_eq_true, Bool.or_eq_true, Option.some.injEq, Int.not_lt, Int.not_le, lp59_0, hlt]
    rw [hd]; simp

theorem c59 (nl : Bool) (l : List Int) (hlen : l.length < 1000000) (a : Int) (st : St) : run L 59 [sl 1 nl (l.map I), I a] st = some (I (indexOf a l 0), st) := by
  rw [run_pure (fn := ir59) rfl rfl]
  simp only [ir59, go_sem, reduceIte, Nat.reduceEqDiff, Nat.reduceAdd, Nat.reduceSub, Nat.reduceLeDiff, Nat.reduceLT, reduceCtorEq, Int.reduceLT, Int.reduceLE, Int.reduceEq, Int.reduceBEq, Int.reduceSub, Int.reduceAdd, Int.reduceMul, Int.reduceNeg, Int.reduceToNat, Nat.reduceMul, Nat.reduceBEq, List.length_map]
  generalize hg : lim (headed pure (run L) true _ lp59_0 _ _) _ _ = o
  obtain ⟨x, en, s, rfl, h2⟩ : ∃ x en s, o = some (x, en, s) ∧ _ := by rw [← hg]; exact loop59 nl l hlen a 0 (by omega) _ _ (by simp only [go_sem, reduceIte, Nat.reduceEqDiff, Nat.reduceAdd, Nat.reduceSub, Nat.reduceLeDiff, Nat.reduceLT, reduceCtorEq, Int.reduceLT, Int.reduceLE, Int.reduceEq, Int.reduceBEq, Int.reduceSub, Int.reduceAdd, Int.reduceMul, Int.reduceNeg, Int.reduceToNat, Nat.reduceMul, Nat.reduceBEq] <;> rfl)
  clear hg
  rw [List.drop_zero] at h2
  by_cases h : a ∈ l
  · rw [if_pos h] at h2
    obtain ⟨rfl, h3⟩ := h2
    simp only [go_sem, reduceIte, Nat.reduceEqDiff, Nat.reduceAdd, Nat.reduceSub, Nat.reduceLeDiff, Nat.reduceLT, reduceCtorEq, Int.reduceLT, Int.reduceLE, Int.reduceEq, Int.reduceBEq, Int.reduceSub, Int.reduceAdd, Int.reduceMul, Int.reduceNeg, Int.reduceToNat, Nat.reduceMul, Nat.reduceBEq, h3]
  · rw [if_neg h] at h2
    subst h2
    have e : indexOf a l 0 = -1 := by
      have : ∀ (l : List Int) (i : Nat), a ∉ l → indexOf a l i = -1 := by
        intro l
        induction l with
        | nil => intro i _; rfl
        | cons b r ih =>
          intro i hn
          simp only [List.mem_cons, not_or] at hn
          simp only [indexOf]; rw [if_neg hn.1]; exact ih _ hn.2
      exact this l 0 h
    simp only [go_sem, reduceIte, Nat.reduceEqDiff, Nat.reduceAdd, Nat.reduceSub, Nat.reduceLeDiff, Nat.reduceLT, reduceCtorEq, Int.reduceLT, Int.reduceLE, Int.reduceEq, Int.reduceBEq, Int.reduceSub, Int.reduceAdd, Int.reduceMul, Int.reduceNeg, Int.reduceToNat, Nat.reduceMul, Nat.reduceBEq, e]

theorem shr8 (m i : Nat) (h : i ≤ 8) : binAV .shr none (u8 m) (.v (.int .i64 (i : Int))) = some (u8 (m >>> i)) := by
  show (if (i : Int) < 0 then none else some (AV.v (.int .u8 (Int.fdiv (m : Int) (2 ^ min (Int.toNat (i : Int)) 8))))) = _
  rw [if_neg (by omega), Int.toNat_natCast, show min i 8 = i by omega]
  have e2 : ((2 : Int) ^ i) = ((2 ^ i : Nat) : Int) := by simp
  rw [e2, Int.fdiv_eq_ediv_of_nonneg _ (Int.natCast_nonneg _), Nat.shiftRight_eq_div_pow]
  simp
theorem and8_1 (n : Nat) : binAV .and none (u8 n) (.v (.int .u8 1)) = some (u8 (n % 2)) := by
  have h : (BitVec.ofInt 8 (n : Int) &&& BitVec.ofInt 8 1).toNat = n % 2 := by
    rw [BitVec.toNat_and]
    have : (BitVec.ofInt 8 1).toNat = 1 := by decide
    rw [this, Nat.and_one_is_mod, BitVec.ofInt_natCast, BitVec.toNat_ofNat]
    omega
  show some (AV.v (.int .u8 (IntKind.u8.wrap ((BitVec.ofInt 8 (n : Int) &&& BitVec.ofInt 8 1).toNat : Int)))) = _
  rw [h, wrap8 _ (by omega)]
theorem c106g (m i : Nat) (hi : i ≤ 8) (st : St) : run L 106 [E8 m, J i] st = some (B (m.testBit i), st) := by
  rw [run_pure (fn := ir106) rfl rfl]
  have h1 := shr8 m i hi
  have h2 := and8_1 (m >>> i)
  cases hb : m.testBit i <;> simp only [ir106, go_sem, reduceIte, Nat.reduceEqDiff, Nat.reduceAdd, Nat.reduceSub, Nat.reduceLeDiff, Nat.reduceLT, reduceCtorEq, Int.reduceLT, Int.reduceLE, Int.reduceEq, Int.reduceBEq, Int.reduceSub, Int.reduceAdd, Int.reduceMul, Int.reduceNeg, Int.reduceToNat, Nat.reduceMul, Nat.reduceBEq, h1, h2, bit_one, hb]

/-! ### the first two that do not agree -/
def clP : List Nat → Nat → Option (Nat × Nat)
  | [], _ => none
  | a :: r, i => match r.findIdx? (fun b => !agN a b) with
    | some j => some (i, i + 1 + j)
    | none => clP r (i + 1)
theorem c124 (T : List Nat) (G : List (List AV)) (a b : Nat) (ha : a < 256) (hb : b < 256) : ∃ G', run L 124 [E8 b, .ptr 0 0] ⟨[u8 a] :: G, T⟩ = some (B (!agN a b), ⟨[u8 a] :: G', T⟩) := by
  rw [run_shared (fn := ir124) rfl rfl]
  have h := fun st => c73 a b ha hb st
  have hg1 : ([u8 a] :: (G ++ [[u8 b]]))[(([u8 a] :: G).length)]? = some [u8 b] := by
    rw [List.length_cons, List.getElem?_cons_succ, List.getElem?_append_right (Nat.le_refl _)]; simp
  rw [List.length_cons] at hg1
  refine ⟨G ++ [[u8 b]], ?_⟩
  cases hh : agN a b <;> rw [hh] at h <;> simp only [ir124, go_sem, reduceIte, Nat.reduceEqDiff, Nat.reduceAdd, Nat.reduceSub, Nat.reduceLeDiff, Nat.reduceLT, reduceCtorEq, Int.reduceLT, Int.reduceLE, Int.reduceEq, Int.reduceBEq, Int.reduceSub, Int.reduceAdd, Int.reduceMul, Int.reduceNeg, Int.reduceToNat, Nat.reduceMul, Nat.reduceBEq, h, hg1]
theorem loop123i (Inv : St → Prop) (k : Nat) (hk : pure k = false) (caps : List AV) (X : AV) (xs : List Nat) (hlen : xs.length < 1000000) (hX : lenAV X = some (J xs.length)) (hI : ∀ i (h : i < xs.length), indexSAV 1 X (J i) = some (.eptr (E8 xs[i]) 0)) (p : Nat → Bool) (hc : ∀ x ∈ xs, ∀ st, Inv st → ∃ st', run L k (E8 x :: caps) st = some (B (p x), st') ∧ Inv st') (lo hi : Nat) (i : Nat) (st0 : St) (hok : i ≤ xs.length ∧ Inv st0) (env : Env) (st : St)
    (hg : gcAV false lo hi (canon env [0, 1, 7, 8]) st = ([(0, X), (1, .fn (.func k) [] caps), (7, J xs.length), (8, J i)], st0)) :
    ∃ x_1 en s, lim (headed pure (run L) false [0, 1, 7, 8] lp123_0 lo hi) env st = some (x_1, en, s) ∧ (Inv s ∧ ((x_1 = .exit 0 ∧ (xs.drop i).findIdx? p = none) ∨ (x_1 = .ret ∧ ∃ j : Nat, (xs.drop i).findIdx? p = some j ∧ en.get 4 = J (i + j)))) := by
  refine loop_wp (α := Nat × St) (fun ⟨i, st0⟩ => xs.length - i) (fun ⟨i, st0⟩ => i ≤ xs.length ∧ Inv st0) (fun ⟨i, st0⟩ => ([(0, X), (1, .fn (.func k) [] caps), (7, J xs.length), (8, J i)], st0)) (fun ⟨i, st0⟩ x_1 en s => Inv s ∧ ((x_1 = .exit 0 ∧ (xs.drop i).findIdx? p = none) ∨ (x_1 = .ret ∧ ∃ j : Nat, (xs.drop i).findIdx? p = some j ∧ en.get 4 = J (i + j)))) (fun ⟨i, st0⟩ hok => ?_) ⟨i, st0⟩ hok env st hg
  simp only at hok
  obtain ⟨h1, h2⟩ := hok
  dsimp only at h1 h2 ⊢
  by_cases h : i < xs.length
  · have hx := hI i h
    have hs := succ64 i (by omega)
    have hd : xs.drop i = xs[i] :: xs.drop (i + 1) := List.drop_eq_getElem_cons h
    obtain ⟨st1, hcall, hinv⟩ := hc xs[i] (List.getElem_mem h) st0 h2
    have hlt : ((i : Int) < (xs.length : Int)) = True := eq_true (by omega)
    rw [hd, List.findIdx?_cons]
    generalize xs[i] = a at *
    cases hp : p a with
    | true =>
      rw [hp] at hcall
      simp only [go_sem, reduceIte, Nat.reduceEqDiff, Nat.reduceAdd, Nat.reduceSub, Nat.reduceLeDiff, Nat.reduceLT, reduceCtorEq, Int.reduceLT, Int.reduceLE, Int.reduceEq, Int.reduceBEq, Int.reduceSub, Int.reduceAdd, Int.reduceMul, Int.reduceNeg, Int.reduceToNat, Nat.reduceMul, Nat.reduceBEq, index_rsl_if, setm, make_ints, condK_dec, wantK_dec, not_dec, and_dec, or_dec, seqK_ite, seqK_none, blockK_ite, blockK_none, opsK_ite, opsK_none, stepK_ite, stepK_none, bodyK_ite, bodyK_none, resK_ite, resK_none, leaveK_ite, leaveK_none, only_ite, only_none, bind_ite, gives_some, gives_none, gives_ite, then_normal, then_ret, then_exit, then_none, then_ite, Option.bind_none, Bool.not_eq_true', decide_eq_false_iff_not, Bool.and_eq_true, Bool.or_eq_true, Option.some.injEq, Int.not_lt, Int.not_le, lp123_0, hx, hlt, hk, hcall]
      exact ⟨hinv, 0, rfl, rfl⟩
    | false =>
      rw [hp] at hcall
      simp only [go_sem, reduceIte, Nat.reduceEqDiff, Nat.reduceAdd, Nat.reduceSub, Nat.reduceLeDiff, Nat.reduceLT, reduceCtorEq, Int.reduceLT, Int.reduceLE, Int.reduceEq, Int.reduceBEq, Int.reduceSub, Int.reduceAdd, Int.reduceMul, Int.reduceNeg, Int.reduceToNat, Nat.reduceMul, Nat.reduceBEq, index_rsl_if, setm, make_ints, condK_dec, wantK_dec, not_dec, and_dec, or_dec, seqK_ite, seqK_none, blockK_ite, blockK_none, opsK_ite, opsK_none, stepK_ite, stepK_none, bodyK_ite, bodyK_none, resK_ite, resK_none, leaveK_ite, leaveK_none, only_ite, only_none, bind_ite, gives_some, gives_none, gives_ite, then_normal, then_ret, then_exit, then_none, then_ite, Option.bind_none, Bool.not_eq_true', decide_eq_false_iff_not, Bool.and_eq_true, Bool.or_eq_true, Option.some.injEq, Int.not_lt, Int.not_le, lp123_0, hx, hlt, hk, hcall, hs]
      refine ⟨(i + 1, st1), by simp only [go_sem, reduceIte, Nat.reduceEqDiff, Nat.reduceAdd, Nat.reduceSub, Nat.reduceLeDiff, Nat.reduceLT, reduceCtorEq, Int.reduceLT, Int.reduceLE, Int.reduceEq, Int.reduceBEq, Int.reduceSub, Int.reduceAdd, Int.reduceMul, Int.reduceNeg, Int.reduceToNat, Nat.reduceMul, Nat.reduceBEq, ren1_locm, loc_tips, locT_eq] <;> rfl, ?_, ?_, fun x en s hq => ?_⟩
      · dsimp only; exact ⟨by omega, hinv⟩
      · dsimp only; omega
      · obtain ⟨hq0, hq⟩ := hq
        refine ⟨hq0, ?_⟩
        rcases hq with ⟨rfl, hq⟩ | ⟨rfl, j, hq, hj⟩
        · left; rw [hq]; exact ⟨rfl, rfl⟩
        · right; refine ⟨rfl, j + 1, by rw [hq]; rfl, ?_⟩
          rw [hj, show i + 1 + j = i + (j + 1) by omega]
  · have hd : xs.drop i = [] := List.drop_eq_nil_of_le (by omega)
    have hlt : ((i : Int) < (xs.length : Int)) = False := eq_false (by omega)
    rw [hd]
    simp only [go_sem, reduceIte, Nat.reduceEqDiff, Nat.reduceAdd, Nat.reduceSub, Nat.reduceLeDiff, Nat.reduceLT, reduceCtorEq, Int.reduceLT, Int.reduceLE, Int.reduceEq, Int.reduceBEq, Int.reduceSub, Int.reduceAdd, Int.reduceMul, Int.reduceNeg, Int.reduceToNat, Nat.reduceMul, Nat.reduceBEq, index_rsl_if, setm, make_ints, condK_dec, wantK_dec, not_dec, and_dec, or_dec, seqK_ite, seqK_none, blockK_ite, blockK_none, opsK_ite, opsK_none, stepK_ite, stepK_none, bodyK_ite, bodyK_none, resK_ite, resK_none, leaveK_ite, leaveK_none, only_ite, only_none, bind_ite, gives_some, gives_none, gives_ite, then_normal, then_ret, then_exit, then_none, then_ite, Option.bind_none, Bool.not_eq_true', decide_eq_false_iff_not, Bool.and_eq_true, Bool.or_eq_true, Option.some.injEq, Int.not_lt, Int.not_le, lp123_0, hlt]
    exact ⟨h2, rfl⟩

theorem c123i (Inv : St → Prop) (k : Nat) (hk : pure k = false) (caps : List AV) (X : AV) (xs : List Nat) (hlen : xs.length < 1000000) (hX : lenAV X = some (J xs.length)) (hI : ∀ i (h : i < xs.length), indexSAV 1 X (J i) = some (.eptr (E8 xs[i]) 0)) (p : Nat → Bool) (hc : ∀ x ∈ xs, ∀ st, Inv st → ∃ st', run L k (E8 x :: caps) st = some (B (p x), st') ∧ Inv st') (st0 : St) (h0 : Inv st0) :
    ∃ st', run L 123 [X, .fn (.func k) [] caps] st0 = some (I (idxF p xs), st') ∧ Inv st' := by
  rw [run_shared (fn := ir123) rfl rfl]
  simp only [ir123, go_sem, reduceIte, Nat.reduceEqDiff, Nat.reduceAdd, Nat.reduceSub, Nat.reduceLeDiff, Nat.reduceLT, reduceCtorEq, Int.reduceLT, Int.reduceLE, Int.reduceEq, Int.reduceBEq, Int.reduceSub, Int.reduceAdd, Int.reduceMul, Int.reduceNeg, Int.reduceToNat, Nat.reduceMul, Nat.reduceBEq, hX]
  generalize hg : lim (headed pure (run L) false _ lp123_0 _ _) _ _ = o
  obtain ⟨x, en, s, rfl, h2⟩ : ∃ x en s, o = some (x, en, s) ∧ _ := by rw [← hg]; exact loop123i Inv k hk caps X xs hlen hX hI p hc _ _ 0 st0 ⟨by omega, h0⟩ _ _ (by simp only [go_sem, reduceIte, Nat.reduceEqDiff, Nat.reduceAdd, Nat.reduceSub, Nat.reduceLeDiff, Nat.reduceLT, reduceCtorEq, Int.reduceLT, Int.reduceLE, Int.reduceEq, Int.reduceBEq, Int.reduceSub, Int.reduceAdd, Int.reduceMul, Int.reduceNeg, Int.reduceToNat, Nat.reduceMul, Nat.reduceBEq] <;> rfl)
  clear hg
  rw [List.drop_zero] at h2
  obtain ⟨hi, h2⟩ := h2
  refine ⟨s, ?_, hi⟩
  unfold idxF
  rcases h2 with ⟨rfl, h2⟩ | ⟨rfl, j, h2, h3⟩
  · rw [h2]
    simp only [go_sem, reduceIte, Nat.reduceEqDiff, Nat.reduceAdd, Nat.reduceSub, Nat.reduceLeDiff, Nat.reduceLT, reduceCtorEq, Int.reduceLT, Int.reduceLE, Int.reduceEq, Int.reduceBEq, Int.reduceSub, Int.reduceAdd, Int.reduceMul, Int.reduceNeg, Int.reduceToNat, Nat.reduceMul, Nat.reduceBEq]
  · rw [h2]
    rw [Nat.zero_add] at h3
    simp only [go_sem, reduceIte, Nat.reduceEqDiff, Nat.reduceAdd, Nat.reduceSub, Nat.reduceLeDiff, Nat.reduceLT, reduceCtorEq, Int.reduceLT, Int.reduceLE, Int.reduceEq, Int.reduceBEq, Int.reduceSub, Int.reduceAdd, Int.reduceMul, Int.reduceNeg, Int.reduceToNat, Nat.reduceMul, Nat.reduceBEq, h3]
theorem drop_m {α : Type} (f : α → AV) (nl : Bool) (l : List α) (i : Nat) (h : i < l.length) : sliceAV 1 (sl 1 nl (l.map f)) (some (.v (.int .i64 ((i + 1 : Nat) : Int)))) none none = some (sl 1 false ((l.drop (i + 1)).map f)) := by
  have e : sl 1 nl (l.map f) = .lst .any 1 (l.map f) := sl_ne (by intro h2; simp at h2; subst h2; simp at h)
  rw [e]
  have h1 : (l.drop (i + 1)).length = l.length - (i + 1) := List.length_drop
  have h0 : (0 : Int) ≤ ((i + 1 : Nat) : Int) := by omega
  simp only [sliceAV, natOr, natOf, tagSlice, sl, List.map_drop, List.length_map, if_pos h0, Int.toNat_natCast]
  rw [List.take_of_length_le (by simp : (l.map f).length ≤ l.length)]
  simp
  omega
theorem loop71 (nl : Bool) (ss : List Nat) (hss : ∀ s ∈ ss, s < 256) (hk : ss.length ≤ 13) (i : Nat) (hok : i ≤ ss.length) (env : Env) (st : St)
    (hg : gcAV true 0 0 (canon env [0, 8, 9, 10]) st = ([(0, sl 1 nl (ss.map E8)), (8, sl 1 nl (ss.map E8)), (9, J ss.length), (10, J i)], ⟨[], []⟩)) :
    ∃ x_1 en s, lim (headed pure (run L) true [0, 8, 9, 10] lp71_0 0 0) env st = some (x_1, en, s) ∧ ((clP (ss.drop i) i = none ∧ x_1 = .exit 0) ∨ (∃ a b, clP (ss.drop i) i = some (a, b) ∧ x_1 = .ret ∧ en.get 2 = J a ∧ en.get 3 = J b ∧ en.get 4 = B true)) := by
  refine loop_wp (α := Nat) (fun i => ss.length - i) (fun i => i ≤ ss.length) (fun i => ([(0, sl 1 nl (ss.map E8)), (8, sl 1 nl (ss.map E8)), (9, J ss.length), (10, J i)], ⟨[], []⟩)) (fun i x_1 en s => (clP (ss.drop i) i = none ∧ x_1 = .exit 0) ∨ (∃ a b, clP (ss.drop i) i = some (a, b) ∧ x_1 = .ret ∧ en.get 2 = J a ∧ en.get 3 = J b ∧ en.get 4 = B true)) (fun i hok => ?_) i hok env st hg
  by_cases h : i < ss.length
  · have hs := succ64 i (by omega)
    have hlt : ((i : Int) < (ss.length : Int)) = True := eq_true (by omega)
    have hx := idx_sl E8 nl ss i h
    have hdr := drop_m E8 nl ss i h
    have hd : ss.drop i = ss[i] :: ss.drop (i + 1) := List.drop_eq_getElem_cons h
    have ha := hss ss[i] (List.getElem_mem h)
    rw [hd]
    generalize ss[i] = a at *
    have hdl : (ss.drop (i + 1)).length = ss.length - (i + 1) := List.length_drop
    have hdm : ∀ s ∈ ss.drop (i + 1), s < 256 := fun s hs => hss s (List.mem_of_mem_drop hs)
    have hcl : clP (a :: ss.drop (i + 1)) i = match (ss.drop (i + 1)).findIdx? (fun b => !agN a b) with | some j => some (i, i + 1 + j) | none => clP (ss.drop (i + 1)) (i + 1) := rfl
    obtain ⟨st1, h123, G1, hG1⟩ := c123i (fun st => ∃ G, st = ⟨[u8 a] :: G, []⟩) 124 rfl [.ptr 0 0] (sl 1 false ((ss.drop (i + 1)).map E8)) (ss.drop (i + 1)) (by omega) (lenm_sl E8 false _) (fun j h => idx_sl E8 false _ j h) (fun b => !agN a b) (fun b hb st hst => by
      obtain ⟨G, rfl⟩ := hst
      obtain ⟨G', h⟩ := c124 [] G a b ha (hdm b hb)
      exact ⟨_, h, G', rfl⟩) ⟨[[u8 a]], []⟩ ⟨[], rfl⟩
    subst hG1
    unfold idxF at h123
    have hjl : ∀ j, (ss.drop (i + 1)).findIdx? (fun b => !agN a b) = some j → j < ss.length := by
      intro j hj
      rw [List.findIdx?_eq_some_iff_getElem] at hj
      obtain ⟨h1, _⟩ := hj
      omega
    rw [hcl]
    generalize (ss.drop (i + 1)).findIdx? (fun b => !agN a b) = fi at *
    cases fi with
    | some j =>
      have hj := hjl j rfl
      have hs2 : IntKind.i64.wrap (((i + 1 : Nat) : Int) + (j : Int)) = ((i + 1 + j : Nat) : Int) := by
        rw [← w64 (i + 1 + j) (by omega)]; congr 1
      have hj0 : ((0 : Int) ≤ (j : Int)) = True := eq_true (by omega)
      simp only [go_sem, reduceIte, Nat.reduceEqDiff, Nat.reduceAdd, Nat.reduceSub, Nat.reduceLeDiff, Nat.reduceLT, reduceCtorEq, Int.reduceLT, Int.reduceLE, Int.reduceEq, Int.reduceBEq, Int.reduceSub, Int.reduceAdd, Int.reduceMul, Int.reduceNeg, Int.reduceToNat, Nat.reduceMul, Nat.reduceBEq, index_rsl_if, setm, make_ints, condK_dec, wantK_dec, not_dec, and_dec, or_dec, seqK_ite, seqK_none, blockK_ite, blockK_none, opsK_ite, opsK_none, stepK_ite, stepK_none, bodyK_ite, bodyK_none, resK_ite, resK_none, leaveK_ite, leaveK_none, only_ite, only_none, bind_ite, gives_some, gives_none, gives_ite, then_normal, then_ret, then_exit, then_none, then_ite, Option.bind_none, Bool.not_eq_true', decide_eq_false_iff_not, Bool.and_eq_true, Bool.or_eq_true, Option.some.injEq, Int.not_lt, Int.not_le, lp71_0, hlt, hs, hx, hdr, h123, hs2, hj0]
      exact ⟨i, i + 1 + j, rfl, rfl, rfl⟩
    | none =>
      have hj0 : ((0 : Int) ≤ (-1 : Int)) = False := eq_false (by omega)
      simp only [go_sem, reduceIte, Nat.reduceEqDiff, Nat.reduceAdd, Nat.reduceSub, Nat.reduceLeDiff, Nat.reduceLT, reduceCtorEq, Int.reduceLT, Int.reduceLE, Int.reduceEq, Int.reduceBEq, Int.reduceSub, Int.reduceAdd, Int.reduceMul, Int.reduceNeg, Int.reduceToNat, Nat.reduceMul, Nat.reduceBEq, index_rsl_if, setm, make_ints, condK_dec, wantK_dec, not_dec, and_dec, or_dec, seqK_ite, seqK_none, blockK_ite, blockK_none, opsK_ite, opsK_none, stepK_ite, stepK_none, bodyK_ite, bodyK_none, resK_ite, resK_none, leaveK_ite, leaveK_none, only_ite, only_none, bind_ite, gives_some, gives_none, gives_ite, then_normal, then_ret, then_exit, then_none, then_ite, Option.bind_none, Bool.not_eq_true', decide_eq_false_iff_not, Bool.and_eq_true, Bool.or_eq_true, Option.some.injEq, Int.not_lt, Int.not_le, lp71_0, hlt, hs, hx, hdr, h123, hj0]
      refine ⟨i + 1, by simp only [go_sem, reduceIte, Nat.reduceEqDiff, Nat.reduceAdd, Nat.reduceSub, Nat.reduceLeDiff, Nat.reduceLT, reduceCtorEq, Int.reduceLT, Int.reduceLE, Int.reduceEq, Int.reduceBEq, Int.reduceSub, Int.reduceAdd, Int.reduceMul, Int.reduceNeg, Int.reduceToNat, Nat.reduceMul, Nat.reduceBEq, ren1_locm, loc_tips, locT_eq] <;> rfl, ?_, ?_, fun x en s hq => ?_⟩
      · omega
      · omega
      · exact hq
  · have hd : ss.drop i = [] := List.drop_eq_nil_of_le (by omega)
    have hlt : ((i : Int) < (ss.length : Int)) = False := eq_false (by omega)
    rw [hd]
    simp only [go_sem, reduceIte, Nat.reduceEqDiff, Nat.reduceAdd, Nat.reduceSub, Nat.reduceLeDiff, Nat.reduceLT, reduceCtorEq, Int.reduceLT, Int.reduceLE, Int.reduceEq, Int.reduceBEq, Int.reduceSub, Int.reduceAdd, Int.reduceMul, Int.reduceNeg, Int.reduceToNat, Nat.reduceMul, Nat.reduceBEq, index_rsl_if, setm, make_ints, condK_dec, wantK_dec, not_dec, and_dec, or_dec, seqK_ite, seqK_none, blockK_ite, blockK_none, opsK_ite, opsK_none, stepK_ite, stepK_none, bodyK_ite, bodyK_none, resK_ite, resK_none, leaveK_ite, leaveK_none, only_ite, only_none, bind_ite, gives_some, gives_none, gives_ite, then_normal, then_ret, then_exit, then_none, then_ite, Option.bind_none, Bool.not_eq_true', decide_eq_false_iff_not, Bool.and_eq_true, Bool.or_eq_true, Option.some.injEq, Int.not_lt, Int.not_le, lp71_0, hlt]
    exact Or.inl rfl

def clA : Option (Nat × Nat) → AV
  | some (a, b) => .tup [J a, J b, B true]
  | none => .tup [I 0, I 0, B false]
theorem c71 (nl : Bool) (ss : List Nat) (hss : ∀ s ∈ ss, s < 256) (hk : ss.length ≤ 13) (st : St) : run L 71 [sl 1 nl (ss.map E8)] st = some (clA (clP ss 0), st) := by
  rw [run_pure (fn := ir71) rfl rfl]
  simp only [ir71, go_sem, reduceIte, Nat.reduceEqDiff, Nat.reduceAdd, Nat.reduceSub, Nat.reduceLeDiff, Nat.reduceLT, reduceCtorEq, Int.reduceLT, Int.reduceLE, Int.reduceEq, Int.reduceBEq, Int.reduceSub, Int.reduceAdd, Int.reduceMul, Int.reduceNeg, Int.reduceToNat, Nat.reduceMul, Nat.reduceBEq, List.length_map]
  generalize hg : lim (headed pure (run L) true _ lp71_0 _ _) _ _ = o
  obtain ⟨x, en, s, rfl, h2⟩ : ∃ x en s, o = some (x, en, s) ∧ _ := by rw [← hg]; exact loop71 nl ss hss hk 0 (by omega) _ _ (by simp only [go_sem, reduceIte, Nat.reduceEqDiff, Nat.reduceAdd, Nat.reduceSub, Nat.reduceLeDiff, Nat.reduceLT, reduceCtorEq, Int.reduceLT, Int.reduceLE, Int.reduceEq, Int.reduceBEq, Int.reduceSub, Int.reduceAdd, Int.reduceMul, Int.reduceNeg, Int.reduceToNat, Nat.reduceMul, Nat.reduceBEq, Int.natCast_zero] <;> rfl)
  clear hg
  rw [List.drop_zero] at h2
  rcases h2 with ⟨h2, rfl⟩ | ⟨a, b, h2, rfl, e2, e3, e4⟩
  · rw [h2]
    simp only [go_sem, reduceIte, Nat.reduceEqDiff, Nat.reduceAdd, Nat.reduceSub, Nat.reduceLeDiff, Nat.reduceLT, reduceCtorEq, Int.reduceLT, Int.reduceLE, Int.reduceEq, Int.reduceBEq, Int.reduceSub, Int.reduceAdd, Int.reduceMul, Int.reduceNeg, Int.reduceToNat, Nat.reduceMul, Nat.reduceBEq]
    rfl
  · rw [h2]
    simp only [go_sem, reduceIte, Nat.reduceEqDiff, Nat.reduceAdd, Nat.reduceSub, Nat.reduceLeDiff, Nat.reduceLT, reduceCtorEq, Int.reduceLT, Int.reduceLE, Int.reduceEq, Int.reduceBEq, Int.reduceSub, Int.reduceAdd, Int.reduceMul, Int.reduceNeg, Int.reduceToNat, Nat.reduceMul, Nat.reduceBEq, e2, e3, e4]
    rfl

theorem loop49_0 (nl : Bool) (ss : List Nat) (hss : ∀ s ∈ ss, s < 256) (hk : ss.length ≤ 16) (i : Nat) (hi : i < ss.length) (a : Nat) (ha : a < 256) (r : List Nat) (hrl : r.length ≤ 16) (hr : ∀ s ∈ r, s < 256) (j : Nat) (hok : j ≤ r.length) (env : Env) (st : St)
    (hg : gcAV true 0 0 (canon env [0, 5, 6, 9, 10, 11, 19, 20, 21]) st = ([(0, sl 1 nl (ss.map U)), (5, J i), (6, U a), (9, sl 1 nl (ss.map U)), (10, J ss.length), (11, J i), (19, sl 1 false (r.map U)), (20, J r.length), (21, J j)], ⟨[], []⟩)) :
    ∃ x_1 en s, lim (headed pure (run L) true [0, 5, 6, 9, 10, 11, 19, 20, 21] lp49_0 0 0) env st = some (x_1, en, s) ∧ ((∃ d, (r.drop j).findIdx? (fun b => !agN a b) = some d ∧ x_1 = .ret ∧ en.get 2 = J i ∧ en.get 3 = J (i + 1 + (j + d)) ∧ en.get 4 = B true) ∨ ((r.drop j).findIdx? (fun b => !agN a b) = none ∧ x_1 = .exit 2 ∧ en.get 0 = sl 1 nl (ss.map U) ∧ en.get 9 = sl 1 nl (ss.map U) ∧ en.get 10 = J ss.length ∧ en.get 11 = J i ∧ s = ⟨[], []⟩)) := by
  refine loop_wp (α := Nat) (fun j => r.length - j) (fun j => j ≤ r.length) (fun j => ([(0, sl 1 nl (ss.map U)), (5, J i), (6, U a), (9, sl 1 nl (ss.map U)), (10, J ss.length), (11, J i), (19, sl 1 false (r.map U)), (20, J r.length), (21, J j)], ⟨[], []⟩)) (fun j x_1 en s => (∃ d, (r.drop j).findIdx? (fun b => !agN a b) = some d ∧ x_1 = .ret ∧ en.get 2 = J i ∧ en.get 3 = J (i + 1 + (j + d)) ∧ en.get 4 = B true) ∨ ((r.drop j).findIdx? (fun b => !agN a b) = none ∧ x_1 = .exit 2 ∧ en.get 0 = sl 1 nl (ss.map U) ∧ en.get 9 = sl 1 nl (ss.map U) ∧ en.get 10 = J ss.length ∧ en.get 11 = J i ∧ s = ⟨[], []⟩)) (fun j hok => ?_) j hok env st hg
  by_cases h : j < r.length
  · have hs := succ64 j (by omega)
    have hlt : ((j : Int) < (r.length : Int)) = True := eq_true (by omega)
    have hx := idx_sl U false r j h
    have hd : r.drop j = r[j] :: r.drop (j + 1) := List.drop_eq_getElem_cons h
    have hb := hr r[j] (List.getElem_mem h)
    rw [hd, List.findIdx?_cons]
    generalize r[j] = b at *
    have h41 := fun st => c41 a b ha hb st
    have hs1 := succ64 i (by omega)
    have hs2 : IntKind.i64.wrap (((i + 1 : Nat) : Int) + (j : Int)) = ((i + 1 + j : Nat) : Int) := by
      rw [← w64 (i + 1 + j) (by omega)]; congr 1
    cases hc : agN a b with
    | false =>
      rw [hc] at h41
      simp only [go_sem, reduceIte, Nat.reduceEqDiff, Nat.reduceAdd, Nat.reduceSub, Nat.reduceLeDiff, Nat.reduceLT, reduceCtorEq, Int.reduceLT, Int.reduceLE, Int.reduceEq, Int.reduceBEq, Int.reduceSub, Int.reduceAdd, Int.reduceMul, Int.reduceNeg, Int.reduceToNat, Nat.reduceMul, Nat.reduceBEq, index_rsl_if, setm, make_ints, condK_dec, wantK_dec, not_dec, and_dec, or_dec, seqK_ite, seqK_none, blockK_ite, blockK_none, opsK_ite, opsK_none, stepK_ite, stepK_none, bodyK_ite, bodyK_none, resK_ite, resK_none, leaveK_ite, leaveK_none, only_ite, only_none, bind_ite, gives_some, gives_none, gives_ite, then_normal, then_ret, then_exit, then_none, then_ite, Option.bind_none, Bool.not_eq_true', decide_eq_false_iff_not, Bool.and_eq_true, Bool.or_eq_true, Option.some.injEq, Int.not_lt, Int.not_le, lp49_0, hlt, hx, h41, hs1, hs2]
      exact ⟨0, rfl, rfl⟩
    | true =>
      rw [hc] at h41
      simp only [go_sem, reduceIte, Nat.reduceEqDiff, Nat.reduceAdd, Nat.reduceSub, Nat.reduceLeDiff, Nat.reduceLT, reduceCtorEq, Int.reduceLT, Int.reduceLE, Int.reduceEq, Int.reduceBEq, Int.reduceSub, Int.reduceAdd, Int.reduceMul, Int.reduceNeg, Int.reduceToNat, Nat.reduceMul, Nat.reduceBEq, index_rsl_if, setm, make_ints, condK_dec, wantK_dec, not_dec, and_dec, or_dec, seqK_ite, seqK_none, blockK_ite, blockK_none, opsK_ite, opsK_none, stepK_ite, stepK_none, bodyK_ite, bodyK_none, resK_ite, resK_none, leaveK_ite, leaveK_none, only_ite, only_none, bind_ite, gives_some, gives_none, gives_ite, then_normal, then_ret, then_exit, then_none, then_ite, Option.bind_none, Bool.not_eq_true', decide_eq_false_iff_not, Bool.and_eq_true, Bool.or_eq_true, Option.some.injEq, Int.not_lt, Int.not_le, lp49_0, hlt, hx, h41, hs]
      refine ⟨j + 1, by simp only [go_sem, reduceIte, Nat.reduceEqDiff, Nat.reduceAdd, Nat.reduceSub, Nat.reduceLeDiff, Nat.reduceLT, reduceCtorEq, Int.reduceLT, Int.reduceLE, Int.reduceEq, Int.reduceBEq, Int.reduceSub, Int.reduceAdd, Int.reduceMul, Int.reduceNeg, Int.reduceToNat, Nat.reduceMul, Nat.reduceBEq, ren1_locm, loc_tips, locT_eq] <;> rfl, ?_, ?_, fun x en s hq => ?_⟩
      · omega
      · omega
      · rcases hq with ⟨d, h1, rfl, h2, h3, h4⟩ | ⟨h1, hq⟩
        · left; refine ⟨d + 1, by rw [h1]; rfl, rfl, h2, ?_, h4⟩
          rw [h3, show i + 1 + (j + 1 + d) = i + 1 + (j + (d + 1)) by omega]
        · right; exact ⟨by rw [h1]; rfl, hq⟩
  · have hd : r.drop j = [] := List.drop_eq_nil_of_le (by omega)
    have hlt : ((j : Int) < (r.length : Int)) = False := eq_false (by omega)
    rw [hd]
    simp only [go_sem, reduceIte, Nat.reduceEqDiff, Nat.reduceAdd, Nat.reduceSub, Nat.reduceLeDiff, Nat.reduceLT, reduceCtorEq, Int.reduceLT, Int.reduceLE, Int.reduceEq, Int.reduceBEq, Int.reduceSub, Int.reduceAdd, Int.reduceMul, Int.reduceNeg, Int.reduceToNat, Nat.reduceMul, Nat.reduceBEq, index_rsl_if, setm, make_ints, condK_dec, wantK_dec, not_dec, and_dec, or_dec, seqK_ite, seqK_none, blockK_ite, blockK_none, opsK_ite, opsK_none, stepK_ite, stepK_none, bodyK_ite, bodyK_none, resK_ite, resK_none, leaveK_ite, leaveK_none, only_ite, only_none, bind_ite, gives_some, gives_none, gives_ite, then_normal, then_ret, then_exit, then_none, then_ite, Option.bind_none, Bool.not_eq_true', decide_eq_false_iff_not, Bool.and_eq_true, Bool.or_eq_true, Option.some.injEq, Int.not_lt, Int.not_le, lp49_0, hlt]
    exact Or.inr rfl

theorem loop49_1 (nl : Bool) (ss : List Nat) (hss : ∀ s ∈ ss, s < 256) (hk : ss.length ≤ 13) (i : Nat) (hok : i ≤ ss.length) (env : Env) (st : St)
    (hg : gcAV true 0 0 (canon env [0, 9, 10, 11]) st = ([(0, sl 1 nl (ss.map U)), (9, sl 1 nl (ss.map U)), (10, J ss.length), (11, J i)], ⟨[], []⟩)) :
    ∃ x_1 en s, lim (headed pure (run L) true [0, 9, 10, 11] lp49_1 0 0) env st = some (x_1, en, s) ∧ ((clP (ss.drop i) i = none ∧ x_1 = .exit 0) ∨ (∃ a b, clP (ss.drop i) i = some (a, b) ∧ x_1 = .ret ∧ en.get 2 = J a ∧ en.get 3 = J b ∧ en.get 4 = B true)) := by
  refine loop_wp (α := Nat) (fun i => ss.length - i) (fun i => i ≤ ss.length) (fun i => ([(0, sl 1 nl (ss.map U)), (9, sl 1 nl (ss.map U)), (10, J ss.length), (11, J i)], ⟨[], []⟩)) (fun i x_1 en s => (clP (ss.drop i) i = none ∧ x_1 = .exit 0) ∨ (∃ a b, clP (ss.drop i) i = some (a, b) ∧ x_1 = .ret ∧ en.get 2 = J a ∧ en.get 3 = J b ∧ en.get 4 = B true)) (fun i hok => ?_) i hok env st hg
  by_cases h : i < ss.length
  · have hs := succ64 i (by omega)
    have hlt : ((i : Int) < (ss.length : Int)) = True := eq_true (by omega)
    have hx := idx_sl U nl ss i h
    have hdr := drop_m U nl ss i h
    have hd : ss.drop i = ss[i] :: ss.drop (i + 1) := List.drop_eq_getElem_cons h
    have ha := hss ss[i] (List.getElem_mem h)
    rw [hd]
    generalize ss[i] = a at *
    have hdl : (ss.drop (i + 1)).length = ss.length - (i + 1) := List.length_drop
    have hdm : ∀ s ∈ ss.drop (i + 1), s < 256 := fun s hs => hss s (List.mem_of_mem_drop hs)
    have hcl : clP (a :: ss.drop (i + 1)) i = match (ss.drop (i + 1)).findIdx? (fun b => !agN a b) with | some j => some (i, i + 1 + j) | none => clP (ss.drop (i + 1)) (i + 1) := rfl
    have hln : lenAV (sl 1 false ((ss.drop (i + 1)).map U)) = some (J (ss.drop (i + 1)).length) := lenm_sl U false _
    simp only [go_sem, reduceIte, Nat.reduceEqDiff, Nat.reduceAdd, Nat.reduceSub, Nat.reduceLeDiff, Nat.reduceLT, reduceCtorEq, Int.reduceLT, Int.reduceLE, Int.reduceEq, Int.reduceBEq, Int.reduceSub, Int.reduceAdd, Int.reduceMul, Int.reduceNeg, Int.reduceToNat, Nat.reduceMul, Nat.reduceBEq, index_rsl_if, setm, make_ints, condK_dec, wantK_dec, not_dec, and_dec, or_dec, seqK_ite, seqK_none, blockK_ite, blockK_none, opsK_ite, opsK_none, stepK_ite, stepK_none, bodyK_ite, bodyK_none, resK_ite, resK_none, leaveK_ite, leaveK_none, only_ite, only_none, bind_ite, gives_some, gives_none, gives_ite, then_normal, then_ret, then_exit, then_none, then_ite, Option.bind_none, Bool.not_eq_true', decide_eq_false_iff_not, Bool.and_eq_true, Bool.or_eq_true, Option.some.injEq, Int.not_lt, Int.not_le, lp49_1, hlt, hs, hx, hdr, hln]
    generalize hg : lim (headed pure (run L) true _ lp49_0 _ _) _ _ = o
    obtain ⟨x, en, s, rfl, h2⟩ : ∃ x en s, o = some (x, en, s) ∧ _ := by rw [← hg]; exact loop49_0 nl ss hss (by omega) i h a ha (ss.drop (i + 1)) (by omega) hdm 0 (by omega) _ _ (by simp only [go_sem, reduceIte, Nat.reduceEqDiff, Nat.reduceAdd, Nat.reduceSub, Nat.reduceLeDiff, Nat.reduceLT, reduceCtorEq, Int.reduceLT, Int.reduceLE, Int.reduceEq, Int.reduceBEq, Int.reduceSub, Int.reduceAdd, Int.reduceMul, Int.reduceNeg, Int.reduceToNat, Nat.reduceMul, Nat.reduceBEq, Int.natCast_zero] <;> rfl)
    clear hg
    rw [List.drop_zero] at h2
    rw [hcl]
    rcases h2 with ⟨d, h1, rfl, e2, e3, e4⟩ | ⟨h1, rfl, e0, e9, e10, e11, rfl⟩
    · rw [h1]
      simp only [go_sem, reduceIte, Nat.reduceEqDiff, Nat.reduceAdd, Nat.reduceSub, Nat.reduceLeDiff, Nat.reduceLT, reduceCtorEq, Int.reduceLT, Int.reduceLE, Int.reduceEq, Int.reduceBEq, Int.reduceSub, Int.reduceAdd, Int.reduceMul, Int.reduceNeg, Int.reduceToNat, Nat.reduceMul, Nat.reduceBEq, index_rsl_if, setm, make_ints, condK_dec, wantK_dec, not_dec, and_dec, or_dec, seqK_ite, seqK_none, blockK_ite, blockK_none, opsK_ite, opsK_none, stepK_ite, stepK_none, bodyK_ite, bodyK_none, resK_ite, resK_none, leaveK_ite, leaveK_none, only_ite, only_none, bind_ite, gives_some, gives_none, gives_ite, then_normal, then_ret, then_exit, then_none, then_ite, Option.bind_none, Bool.not_eq_true', decide_eq_false_iff_not, Bool.and_eq_true, Bool.or_eq_true, Option.some.injEq, Int.not_lt, Int.not_le, lp49_1, e2, e3, e4]
      exact ⟨i, i + 1 + d, rfl, rfl, rfl⟩
    · rw [h1]
      simp only [go_sem, reduceIte, Nat.reduceEqDiff, Nat.reduceAdd, Nat.reduceSub, Nat.reduceLeDiff, Nat.reduceLT, reduceCtorEq, Int.reduceLT, Int.reduceLE, Int.reduceEq, Int.reduceBEq, Int.reduceSub, Int.reduceAdd, Int.reduceMul, Int.reduceNeg, Int.reduceToNat, Nat.reduceMul, Nat.reduceBEq, index_rsl_if, setm, make_ints, condK_dec, wantK_dec, not_dec, and_dec, or_dec, seqK_ite, seqK_none, blockK_ite, blockK_none, opsK_ite, opsK_none, stepK_ite, stepK_none, bodyK_ite, bodyK_none, resK_ite, resK_none, leaveK_ite, leaveK_none, only_ite, only_none, bind_ite, gives_some, gives_none, gives_ite, then_normal, then_ret, then_exit, then_none, then_ite, Option.bind_none, Bool.not_eq_true', decide_eq_false_iff_not, Bool.and_eq_true, Bool.or_eq_true, Option.some.injEq, Int.not_lt, Int.not_le, lp49_1, e0, e9, e10, e11, hs]
      refine ⟨i + 1, by simp only [go_sem, reduceIte, Nat.reduceEqDiff, Nat.reduceAdd, Nat.reduceSub, Nat.reduceLeDiff, Nat.reduceLT, reduceCtorEq, Int.reduceLT, Int.reduceLE, Int.reduceEq, Int.reduceBEq, Int.reduceSub, Int.reduceAdd, Int.reduceMul, Int.reduceNeg, Int.reduceToNat, Nat.reduceMul, Nat.reduceBEq, ren1_locm, loc_tips, locT_eq, e0, e9, e10, e11] <;> rfl, ?_, ?_, fun x en s hq => ?_⟩
      · omega
      · omega
      · exact hq
  · have hd : ss.drop i = [] := List.drop_eq_nil_of_le (by omega)
    have hlt : ((i : Int) < (ss.length : Int)) = False := eq_false (by omega)
    rw [hd]
    simp only [go_sem, reduceIte, Nat.reduceEqDiff, Nat.reduceAdd, Nat.reduceSub, Nat.reduceLeDiff, Nat.reduceLT, reduceCtorEq, Int.reduceLT, Int.reduceLE, Int.reduceEq, Int.reduceBEq, Int.reduceSub, Int.reduceAdd, Int.reduceMul, Int.reduceNeg, Int.reduceToNat, Nat.reduceMul, Nat.reduceBEq, index_rsl_if, setm, make_ints, condK_dec, wantK_dec, not_dec, and_dec, or_dec, seqK_ite, seqK_none, blockK_ite, blockK_none, opsK_ite, opsK_none, stepK_ite, stepK_none, bodyK_ite, bodyK_none, resK_ite, resK_none, leaveK_ite, leaveK_none, only_ite, only_none, bind_ite, gives_some, gives_none, gives_ite, then_normal, then_ret, then_exit, then_none, then_ite, Option.bind_none, Bool.not_eq_true', decide_eq_false_iff_not, Bool.and_eq_true, Bool.or_eq_true, Option.some.injEq, Int.not_lt, Int.not_le, lp49_1, hlt]
    exact Or.inl rfl

theorem c49 (nl : Bool) (ss : List Nat) (hss : ∀ s ∈ ss, s < 256) (hk : ss.length ≤ 13) (st : St) : run L 49 [sl 1 nl (ss.map U)] st = some (clA (clP ss 0), st) := by
  rw [run_pure (fn := ir49) rfl rfl]
  simp only [ir49, go_sem, reduceIte, Nat.reduceEqDiff, Nat.reduceAdd, Nat.reduceSub, Nat.reduceLeDiff, Nat.reduceLT, reduceCtorEq, Int.reduceLT, Int.reduceLE, Int.reduceEq, Int.reduceBEq, Int.reduceSub, Int.reduceAdd, Int.reduceMul, Int.reduceNeg, Int.reduceToNat, Nat.reduceMul, Nat.reduceBEq, List.length_map]
  generalize hg : lim (headed pure (run L) true _ lp49_1 _ _) _ _ = o
  obtain ⟨x, en, s, rfl, h2⟩ : ∃ x en s, o = some (x, en, s) ∧ _ := by rw [← hg]; exact loop49_1 nl ss hss hk 0 (by omega) _ _ (by simp only [go_sem, reduceIte, Nat.reduceEqDiff, Nat.reduceAdd, Nat.reduceSub, Nat.reduceLeDiff, Nat.reduceLT, reduceCtorEq, Int.reduceLT, Int.reduceLE, Int.reduceEq, Int.reduceBEq, Int.reduceSub, Int.reduceAdd, Int.reduceMul, Int.reduceNeg, Int.reduceToNat, Nat.reduceMul, Nat.reduceBEq, Int.natCast_zero] <;> rfl)
  clear hg
  rw [List.drop_zero] at h2
  rcases h2 with ⟨h2, rfl⟩ | ⟨a, b, h2, rfl, e2, e3, e4⟩
  · rw [h2]
    simp only [go_sem, reduceIte, Nat.reduceEqDiff, Nat.reduceAdd, Nat.reduceSub, Nat.reduceLeDiff, Nat.reduceLT, reduceCtorEq, Int.reduceLT, Int.reduceLE, Int.reduceEq, Int.reduceBEq, Int.reduceSub, Int.reduceAdd, Int.reduceMul, Int.reduceNeg, Int.reduceToNat, Nat.reduceMul, Nat.reduceBEq]
    rfl
  · rw [h2]
    simp only [go_sem, reduceIte, Nat.reduceEqDiff, Nat.reduceAdd, Nat.reduceSub, Nat.reduceLeDiff, Nat.reduceLT, reduceCtorEq, Int.reduceLT, Int.reduceLE, Int.reduceEq, Int.reduceBEq, Int.reduceSub, Int.reduceAdd, Int.reduceMul, Int.reduceNeg, Int.reduceToNat, Nat.reduceMul, Nat.reduceBEq, e2, e3, e4]
    rfl

attribute [local go_sem] okRef_o storable_o shaped_o cells_o fin_o pub_o shaped_t cells_t isAgg_t storable_t okRef_t pub_t

theorem frz1_nil (st : St) : frzArgs (rslsOf [.v (.slice none 0 0)]) [.v (.slice none 0 0)] st = ([.v (.slice none 0 0)], st) := rfl
theorem frz1_at {X : List Nat} (h : X ≠ []) (T : List Nat) : ∃ S, frzArgs (rslsOf [.rsl 0 0 X.length X.length 1 true]) [.rsl 0 0 X.length X.length 1 true] ⟨[X.map u8], T⟩ = ([sl 1 true (X.map E8)], ⟨S, T⟩) := by
  obtain ⟨x, r, rfl⟩ : ∃ x r, X = x :: r := by cases X with | nil => exact absurd rfl h | cons x r => exact ⟨x, r, rfl⟩
  have hg := groupE (x :: r)
  have hp := pubs8 (x :: r)
  have hsl : sl 1 true ((x :: r).map E8) = .lst .any 1 ((x :: r).map E8) := sl_ne (by simp)
  simp only [rslsOf, List.append_nil, frzArgs, List.map_cons, List.map_nil, frzA, frzL, List.getElem?_cons_zero]
  have e1 : frzV 0 (u8 x :: List.map u8 r) (.rsl 0 0 (x :: r).length (x :: r).length 1 true) = .lst .any 1 ((x :: r).map E8) := by
    have hg2 : group true 1 (x :: r).length (pubs (List.drop 0 (u8 x :: List.map u8 r))) = (x :: r).map E8 := by
      rw [List.drop_zero, show (u8 x :: List.map u8 r) = (x :: r).map u8 from rfl, hp, hg]
    simp only [frzV, hg2]
    simp
  rw [e1]
  exact ⟨_, by rw [show sl 1 true (E8 x :: List.map E8 r) = _ from hsl]⟩
theorem plain_clA (o : Option (Nat × Nat)) : plainR (clA o) = true := by
  cases o with
  | none => rfl
  | some p => rfl
def whyA : Option (Nat × Nat) → AV
  | some (a, b) => .tup [J a, J b, I 0]
  | none => .tup [I 0, I 0, I 13]
theorem c16 (n : Nat) (h2 : 2 ≤ n) (hn : n ≤ 8) (nl : Bool) (X : List Nat) (hX : ∀ v ∈ X, v < 2 ^ n ∧ v ≠ 0 ∧ v ≠ 2 ^ n - 1) (hnd : (X.map (smlN n)).Nodup) (hl : X.length ≤ 13) (st : St) :
    run L 16 [J n, sl 1 nl (X.map tM)] st = some (whyA (clP (X.map (smlN n)) 0), st) := by
  rw [run_pure (fn := ir16) rfl rfl]
  have h70 := c70 n h2 hn nl X hX hnd (by omega)
  have hss : ∀ x ∈ X.map (smlN n), x < 256 := by
    intro x hx
    rw [List.mem_map] at hx
    obtain ⟨v, hv, rfl⟩ := hx
    exact Nat.lt_of_lt_of_le (smlN_lt (hX v hv).1) (Nat.pow_le_pow_right (n := 2) (by decide) hn)
  have hk : (X.map (smlN n)).length ≤ 13 := by rw [List.length_map]; exact hl
  have h71 := fun st => c71 true (X.map (smlN n)) hss hk st
  have hpl := plain_clA (clP (X.map (smlN n)) 0)
  generalize X.map (smlN n) = ss at *
  by_cases he : ss = []
  · subst he
    have eA : kA [] = .v (.slice none 0 0) := rfl
    have eS : kS [] = [] := rfl
    rw [eA, eS] at h70
    rw [show sl 1 true (([] : List Nat).map E8) = AV.v (.slice none 0 0) from rfl, show clA (clP [] 0) = .tup [I 0, I 0, B false] from rfl] at h71
    rw [show clA (clP [] 0) = .tup [I 0, I 0, B false] from rfl] at hpl
    simp only [ir16, go_sem, reduceIte, Nat.reduceEqDiff, Nat.reduceAdd, Nat.reduceSub, Nat.reduceLeDiff, Nat.reduceLT, reduceCtorEq, Int.reduceLT, Int.reduceLE, Int.reduceEq, Int.reduceBEq, Int.reduceSub, Int.reduceAdd, Int.reduceMul, Int.reduceNeg, Int.reduceToNat, Nat.reduceMul, Nat.reduceBEq, h70, show pure 70 = false from rfl, show pure 71 = true from rfl, shStore, shV, shVs, frz1_nil, h71, hpl]
    rfl
  · rw [kA_ne he, kS_ne he] at h70
    have hsv := shVs_8 0 ss
    obtain ⟨S2, hfr⟩ := frz1_at he []
    cases hc : clP ss 0 with
    | none =>
      rw [hc, show clA none = .tup [I 0, I 0, B false] from rfl] at h71 hpl
      simp only [ir16, go_sem, reduceIte, Nat.reduceEqDiff, Nat.reduceAdd, Nat.reduceSub, Nat.reduceLeDiff, Nat.reduceLT, reduceCtorEq, Int.reduceLT, Int.reduceLE, Int.reduceEq, Int.reduceBEq, Int.reduceSub, Int.reduceAdd, Int.reduceMul, Int.reduceNeg, Int.reduceToNat, Nat.reduceMul, Nat.reduceBEq, h70, show pure 70 = false from rfl, show pure 71 = true from rfl, shStore, shV, shVs, hsv, hfr, h71, hpl]
      rfl
    | some p =>
      obtain ⟨a, b⟩ := p
      rw [hc, show clA (some (a, b)) = .tup [J a, J b, B true] from rfl] at h71 hpl
      simp only [ir16, go_sem, reduceIte, Nat.reduceEqDiff, Nat.reduceAdd, Nat.reduceSub, Nat.reduceLeDiff, Nat.reduceLT, reduceCtorEq, Int.reduceLT, Int.reduceLE, Int.reduceEq, Int.reduceBEq, Int.reduceSub, Int.reduceAdd, Int.reduceMul, Int.reduceNeg, Int.reduceToNat, Nat.reduceMul, Nat.reduceBEq, h70, show pure 70 = false from rfl, show pure 71 = true from rfl, shStore, shV, shVs, hsv, hfr, h71, hpl]
      rfl

attribute [local go_sem] okRef_o storable_o shaped_o cells_o fin_o pub_o shaped_t cells_t isAgg_t storable_t okRef_t pub_t

/-! ### how four are parted -/
def pP (four p : Nat) : Nat := if p.testBit ((memb four).getD 0 0).toNat = true then p else dfN four p
def pI (four p : Nat) : Int := indexOf ((memb (pP four p)).getD 1 0) (memb four) 0
def qN (four s : Nat) : Option Nat := if (memb (s &&& four)).length = 2 then some (pI four (s &&& four)).toNat else none
def pOk (four p : Nat) : Bool := decide (p &&& four ≠ p) || (decide ((memb p).length ≠ 2) || (decide ((memb (pP four p)).length = 2) && (decide (1 ≤ pI four p) && decide (pI four p ≤ 3))))
theorem pOk_all : ((List.range 256).all fun four => decide ((memb four).length ≠ 4) || (List.range 256).all fun p => pOk four p) = true := by kernel_rfl
theorem pOk_at {four p : Nat} (hf : four < 256) (h4 : (memb four).length = 4) (hp : p < 256) (hs : p &&& four = p) (h2 : (memb p).length = 2) : (memb (pP four p)).length = 2 ∧ 1 ≤ pI four p ∧ pI four p ≤ 3 := by
  have h := List.all_eq_true.1 pOk_all four (List.mem_range.2 hf)
  rw [decide_eq_false (by simp [h4]), Bool.false_or] at h
  have h := List.all_eq_true.1 h p (List.mem_range.2 hp)
  unfold pOk at h
  rw [decide_eq_false (by simp [hs]), decide_eq_false (by simp [h2]), Bool.false_or, Bool.false_or] at h
  simp only [Bool.and_eq_true, decide_eq_true_eq] at h
  exact h
theorem qN_lt {four s : Nat} (hf : four < 256) (h4 : (memb four).length = 4) {k : Nat} (h : qN four s = some k) : 1 ≤ k ∧ k ≤ 3 := by
  unfold qN at h
  split at h
  · next h2 =>
    have hp : s &&& four < 256 := Nat.lt_of_le_of_lt Nat.and_le_right hf
    have hs : (s &&& four) &&& four = s &&& four := by rw [Nat.and_assoc, Nat.and_self]
    have := pOk_at hf h4 hp hs h2
    simp only [Option.some.injEq] at h
    omega
  · cases h
theorem xor_sub {four p : Nat} (hf : four < 256) (hp : p < 256) (hs : p &&& four = p) : p ^^^ four = dfN four p := by
  apply Nat.eq_of_testBit_eq; intro i
  rw [dfN_bit hp, Nat.testBit_xor]
  have h := congrArg (fun x => x.testBit i) hs
  simp only [Nat.testBit_and] at h
  have h8 : four.testBit i = true → i < 8 := by
    intro h1
    apply Nat.lt_of_not_le; intro h9
    rw [tb_lt (n := 8) hf i h9] at h1; cases h1
  cases hpb : p.testBit i <;> cases hfb : four.testBit i <;> simp_all
/-- The partner of the first one, as long as there are not two. -/
def runF (four : Nat) : List Nat → Nat → Option Nat
  | [], found => some found
  | s :: r, found => match qN four s with
    | none => runF four r found
    | some k => if found ≠ 0 ∧ found ≠ k then none else runF four r k

theorem loop36_0n (n : Nat) (l : List Int) (hlen : l.length < 1000) (hr : ∀ a ∈ l, 0 ≤ a ∧ a < (n : Int)) (ho : ∀ i (h : i + 1 < l.length), l[i] < l[i + 1]) (ss : List Nat) (i : Nat) (hok : i ≤ l.length) (env : Env) (st : St)
    (hg : gcAV true 0 0 (canon env [0, 2, 8, 31, 32, 33]) st = ([(0, J n), (2, tAV l), (8, .v (.slice none 0 0)), (31, tAV l), (32, J l.length), (33, J i)], ⟨[], []⟩)) :
    ∃ x_1 en s, lim (headed pure (run L) true [0, 2, 8, 31, 32, 33] lp36_0 0 0) env st = some (x_1, en, s) ∧ (x_1 = .exit 1 ∧ s = ⟨[], []⟩ ∧ en.get 2 = tAV l ∧ en.get 8 = .v (.slice none 0 0)) := by
  refine loop_wp (α := Nat) (fun i => l.length - i) (fun i => i ≤ l.length) (fun i => ([(0, J n), (2, tAV l), (8, .v (.slice none 0 0)), (31, tAV l), (32, J l.length), (33, J i)], ⟨[], []⟩)) (fun i x_1 en s => x_1 = .exit 1 ∧ s = ⟨[], []⟩ ∧ en.get 2 = tAV l ∧ en.get 8 = .v (.slice none 0 0)) (fun i hok => ?_) i hok env st hg
  by_cases h : i < l.length
  · have hs := succ64 i (by omega)
    have hx : indexSAV 1 (tAV l) (.v (.int .i64 (i : Int))) = some (.eptr (I l[i]) 0) := index_ints true l i h
    have hlt : ((i : Int) < (l.length : Int)) = True := eq_true (by omega)
    have hb := hr l[i] (List.getElem_mem h)
    have q1 : (l[i] < 0) = False := eq_false (by omega)
    have q2 : ((n : Int) ≤ l[i]) = False := eq_false (by omega)
    by_cases h0 : 0 < i
    · have q3 : ((0 : Int) < (i : Int)) = True := eq_true (by omega)
      have hm : IntKind.i64.wrap ((i : Int) - 1) = ((i - 1 : Nat) : Int) := by
        rw [← w64 (i - 1) (by omega)]; congr 1; omega
      have hx2 : indexSAV 1 (tAV l) (.v (.int .i64 ((i - 1 : Nat) : Int))) = some (.eptr (I (l[i - 1]'(by omega))) 0) := index_ints true l (i - 1) (by omega)
      have ho1 : l[i - 1]'(by omega) < l[i] := by
        have := ho (i - 1) (by omega)
        simp only [show i - 1 + 1 = i by omega] at this
        exact this
      generalize l[i - 1]'(by omega) = b at *
      have q4 : (l[i] ≤ b) = False := eq_false (by omega)
      generalize l[i] = a at *
      simp only [go_sem, reduceIte, Nat.reduceEqDiff, Nat.reduceAdd, Nat.reduceSub, Nat.reduceLeDiff, Nat.reduceLT, reduceCtorEq, Int.reduceLT, Int.reduceLE, Int.reduceEq, Int.reduceBEq, Int.reduceSub, Int.reduceAdd, Int.reduceMul, Int.reduceNeg, Int.reduceToNat, Nat.reduceMul, Nat.reduceBEq, index_rsl_if, setm, make_ints, condK_dec, wantK_dec, not_dec, and_dec, or_dec, seqK_ite, seqK_none, blockK_ite, blockK_none, opsK_ite, opsK_none, stepK_ite, stepK_none, bodyK_ite, bodyK_none, resK_ite, resK_none, leaveK_ite, leaveK_none, only_ite, only_none, bind_ite, gives_some, gives_none, gives_ite, then_normal, then_ret, then_exit, then_none, then_ite, Option.bind_none, Bool.not_eq_true', decide_eq_false_iff_not, Bool.and_eq_true, Bool.or_eq_true, Option.some.injEq, Int.not_lt, Int.not_le, lp36_0, hlt, hs, hx, q1, q2, q3, hm, hx2, q4]
      refine ⟨i + 1, by simp only [go_sem, reduceIte, Nat.reduceEqDiff, Nat.reduceAdd, Nat.reduceSub, Nat.reduceLeDiff, Nat.reduceLT, reduceCtorEq, Int.reduceLT, Int.reduceLE, Int.reduceEq, Int.reduceBEq, Int.reduceSub, Int.reduceAdd, Int.reduceMul, Int.reduceNeg, Int.reduceToNat, Nat.reduceMul, Nat.reduceBEq, ren1_locm, loc_tips, locT_eq, ren1_t] <;> rfl, ?_, ?_, fun x en s hq => ?_⟩
      · omega
      · omega
      · exact hq
    · have q3 : ((0 : Int) < (i : Int)) = False := eq_false (by omega)
      generalize l[i] = a at *
      simp only [go_sem, reduceIte, Nat.reduceEqDiff, Nat.reduceAdd, Nat.reduceSub, Nat.reduceLeDiff, Nat.reduceLT, reduceCtorEq, Int.reduceLT, Int.reduceLE, Int.reduceEq, Int.reduceBEq, Int.reduceSub, Int.reduceAdd, Int.reduceMul, Int.reduceNeg, Int.reduceToNat, Nat.reduceMul, Nat.reduceBEq, index_rsl_if, setm, make_ints, condK_dec, wantK_dec, not_dec, and_dec, or_dec, seqK_ite, seqK_none, blockK_ite, blockK_none, opsK_ite, opsK_none, stepK_ite, stepK_none, bodyK_ite, bodyK_none, resK_ite, resK_none, leaveK_ite, leaveK_none, only_ite, only_none, bind_ite, gives_some, gives_none, gives_ite, then_normal, then_ret, then_exit, then_none, then_ite, Option.bind_none, Bool.not_eq_true', decide_eq_false_iff_not, Bool.and_eq_true, Bool.or_eq_true, Option.some.injEq, Int.not_lt, Int.not_le, lp36_0, hlt, hs, hx, q1, q2, q3]
      refine ⟨i + 1, by simp only [go_sem, reduceIte, Nat.reduceEqDiff, Nat.reduceAdd, Nat.reduceSub, Nat.reduceLeDiff, Nat.reduceLT, reduceCtorEq, Int.reduceLT, Int.reduceLE, Int.reduceEq, Int.reduceBEq, Int.reduceSub, Int.reduceAdd, Int.reduceMul, Int.reduceNeg, Int.reduceToNat, Nat.reduceMul, Nat.reduceBEq, ren1_locm, loc_tips, locT_eq, ren1_t] <;> rfl, ?_, ?_, fun x en s hq => ?_⟩
      · omega
      · omega
      · exact hq
  · have hlt : ((i : Int) < (l.length : Int)) = False := eq_false (by omega)
    simp only [go_sem, reduceIte, Nat.reduceEqDiff, Nat.reduceAdd, Nat.reduceSub, Nat.reduceLeDiff, Nat.reduceLT, reduceCtorEq, Int.reduceLT, Int.reduceLE, Int.reduceEq, Int.reduceBEq, Int.reduceSub, Int.reduceAdd, Int.reduceMul, Int.reduceNeg, Int.reduceToNat, Nat.reduceMul, Nat.reduceBEq, index_rsl_if, setm, make_ints, condK_dec, wantK_dec, not_dec, and_dec, or_dec, seqK_ite, seqK_none, blockK_ite, blockK_none, opsK_ite, opsK_none, stepK_ite, stepK_none, bodyK_ite, bodyK_none, resK_ite, resK_none, leaveK_ite, leaveK_none, only_ite, only_none, bind_ite, gives_some, gives_none, gives_ite, then_normal, then_ret, then_exit, then_none, then_ite, Option.bind_none, Bool.not_eq_true', decide_eq_false_iff_not, Bool.and_eq_true, Bool.or_eq_true, Option.some.injEq, Int.not_lt, Int.not_le, lp36_0, hlt]

theorem loop36_0c (n : Nat) (l : List Int) (hlen : l.length < 1000) (hr : ∀ a ∈ l, 0 ≤ a ∧ a < (n : Int)) (ho : ∀ i (h : i + 1 < l.length), l[i] < l[i + 1]) (ss : List Nat) (i : Nat) (hok : i ≤ l.length) (env : Env) (st : St)
    (hg : gcAV true 1 0 (canon env [0, 2, 8, 31, 32, 33]) st = ([(0, J n), (2, tAV l), (8, .rsl 0 0 ss.length ss.length 1 true), (31, tAV l), (32, J l.length), (33, J i)], ⟨[ss.map u8], []⟩)) :
    ∃ x_1 en s, lim (headed pure (run L) true [0, 2, 8, 31, 32, 33] lp36_0 1 0) env st = some (x_1, en, s) ∧ (x_1 = .exit 1 ∧ s = ⟨[ss.map u8], []⟩ ∧ en.get 2 = tAV l ∧ en.get 8 = .rsl 0 0 ss.length ss.length 1 true) := by
  refine loop_wp (α := Nat) (fun i => l.length - i) (fun i => i ≤ l.length) (fun i => ([(0, J n), (2, tAV l), (8, .rsl 0 0 ss.length ss.length 1 true), (31, tAV l), (32, J l.length), (33, J i)], ⟨[ss.map u8], []⟩)) (fun i x_1 en s => x_1 = .exit 1 ∧ s = ⟨[ss.map u8], []⟩ ∧ en.get 2 = tAV l ∧ en.get 8 = .rsl 0 0 ss.length ss.length 1 true) (fun i hok => ?_) i hok env st hg
  by_cases h : i < l.length
  · have hs := succ64 i (by omega)
    have hx : indexSAV 1 (tAV l) (.v (.int .i64 (i : Int))) = some (.eptr (I l[i]) 0) := index_ints true l i h
    have hlt : ((i : Int) < (l.length : Int)) = True := eq_true (by omega)
    have hb := hr l[i] (List.getElem_mem h)
    have q1 : (l[i] < 0) = False := eq_false (by omega)
    have q2 : ((n : Int) ≤ l[i]) = False := eq_false (by omega)
    by_cases h0 : 0 < i
    · have q3 : ((0 : Int) < (i : Int)) = True := eq_true (by omega)
      have hm : IntKind.i64.wrap ((i : Int) - 1) = ((i - 1 : Nat) : Int) := by
        rw [← w64 (i - 1) (by omega)]; congr 1; omega
      have hx2 : indexSAV 1 (tAV l) (.v (.int .i64 ((i - 1 : Nat) : Int))) = some (.eptr (I (l[i - 1]'(by omega))) 0) := index_ints true l (i - 1) (by omega)
      have ho1 : l[i - 1]'(by omega) < l[i] := by
        have := ho (i - 1) (by omega)
        simp only [show i - 1 + 1 = i by omega] at this
        exact this
      generalize l[i - 1]'(by omega) = b at *
      have q4 : (l[i] ≤ b) = False := eq_false (by omega)
      generalize l[i] = a at *
      simp only [go_sem, reduceIte, Nat.reduceEqDiff, Nat.reduceAdd, Nat.reduceSub, Nat.reduceLeDiff, Nat.reduceLT, reduceCtorEq, Int.reduceLT, Int.reduceLE, Int.reduceEq, Int.reduceBEq, Int.reduceSub, Int.reduceAdd, Int.reduceMul, Int.reduceNeg, Int.reduceToNat, Nat.reduceMul, Nat.reduceBEq, index_rsl_if, setm, make_ints, condK_dec, wantK_dec, not_dec, and_dec, or_dec, seqK_ite, seqK_none, blockK_ite, blockK_none, opsK_ite, opsK_none, stepK_ite, stepK_none, bodyK_ite, bodyK_none, resK_ite, resK_none, leaveK_ite, leaveK_none, only_ite, only_none, bind_ite, gives_some, gives_none, gives_ite, then_normal, then_ret, then_exit, then_none, then_ite, Option.bind_none, Bool.not_eq_true', decide_eq_false_iff_not, Bool.and_eq_true, Bool.or_eq_true, Option.some.injEq, Int.not_lt, Int.not_le, lp36_0, hlt, hs, hx, q1, q2, q3, hm, hx2, q4]
      refine ⟨i + 1, by simp only [go_sem, reduceIte, Nat.reduceEqDiff, Nat.reduceAdd, Nat.reduceSub, Nat.reduceLeDiff, Nat.reduceLT, reduceCtorEq, Int.reduceLT, Int.reduceLE, Int.reduceEq, Int.reduceBEq, Int.reduceSub, Int.reduceAdd, Int.reduceMul, Int.reduceNeg, Int.reduceToNat, Nat.reduceMul, Nat.reduceBEq, ren1_locm, loc_tips, locT_eq, ren1_t, okRefs8, renCells8] <;> rfl, ?_, ?_, fun x en s hq => ?_⟩
      · omega
      · omega
      · exact hq
    · have q3 : ((0 : Int) < (i : Int)) = False := eq_false (by omega)
      generalize l[i] = a at *
      simp only [go_sem, reduceIte, Nat.reduceEqDiff, Nat.reduceAdd, Nat.reduceSub, Nat.reduceLeDiff, Nat.reduceLT, reduceCtorEq, Int.reduceLT, Int.reduceLE, Int.reduceEq, Int.reduceBEq, Int.reduceSub, Int.reduceAdd, Int.reduceMul, Int.reduceNeg, Int.reduceToNat, Nat.reduceMul, Nat.reduceBEq, index_rsl_if, setm, make_ints, condK_dec, wantK_dec, not_dec, and_dec, or_dec, seqK_ite, seqK_none, blockK_ite, blockK_none, opsK_ite, opsK_none, stepK_ite, stepK_none, bodyK_ite, bodyK_none, resK_ite, resK_none, leaveK_ite, leaveK_none, only_ite, only_none, bind_ite, gives_some, gives_none, gives_ite, then_normal, then_ret, then_exit, then_none, then_ite, Option.bind_none, Bool.not_eq_true', decide_eq_false_iff_not, Bool.and_eq_true, Bool.or_eq_true, Option.some.injEq, Int.not_lt, Int.not_le, lp36_0, hlt, hs, hx, q1, q2, q3]
      refine ⟨i + 1, by simp only [go_sem, reduceIte, Nat.reduceEqDiff, Nat.reduceAdd, Nat.reduceSub, Nat.reduceLeDiff, Nat.reduceLT, reduceCtorEq, Int.reduceLT, Int.reduceLE, Int.reduceEq, Int.reduceBEq, Int.reduceSub, Int.reduceAdd, Int.reduceMul, Int.reduceNeg, Int.reduceToNat, Nat.reduceMul, Nat.reduceBEq, ren1_locm, loc_tips, locT_eq, ren1_t, okRefs8, renCells8] <;> rfl, ?_, ?_, fun x en s hq => ?_⟩
      · omega
      · omega
      · exact hq
  · have hlt : ((i : Int) < (l.length : Int)) = False := eq_false (by omega)
    simp only [go_sem, reduceIte, Nat.reduceEqDiff, Nat.reduceAdd, Nat.reduceSub, Nat.reduceLeDiff, Nat.reduceLT, reduceCtorEq, Int.reduceLT, Int.reduceLE, Int.reduceEq, Int.reduceBEq, Int.reduceSub, Int.reduceAdd, Int.reduceMul, Int.reduceNeg, Int.reduceToNat, Nat.reduceMul, Nat.reduceBEq, index_rsl_if, setm, make_ints, condK_dec, wantK_dec, not_dec, and_dec, or_dec, seqK_ite, seqK_none, blockK_ite, blockK_none, opsK_ite, opsK_none, stepK_ite, stepK_none, bodyK_ite, bodyK_none, resK_ite, resK_none, leaveK_ite, leaveK_none, only_ite, only_none, bind_ite, gives_some, gives_none, gives_ite, then_normal, then_ret, then_exit, then_none, then_ite, Option.bind_none, Bool.not_eq_true', decide_eq_false_iff_not, Bool.and_eq_true, Bool.or_eq_true, Option.some.injEq, Int.not_lt, Int.not_le, lp36_0, hlt]

set_option maxHeartbeats 2000000 in
theorem loop36_1 (four : Nat) (hf : four < 256) (h4 : (memb four).length = 4) (ss : List Nat) (hss : ∀ x ∈ ss, x < 256) (hk : ss.length ≤ 13) (i : Nat) (found : Nat) (hok : i ≤ ss.length ∧ found ≤ 3) (env : Env) (st : St)
    (hg : gcAV true 2 0 (canon env [2, 12, 13, 61, 62, 63]) st = ([(2, tM four), (12, .ptr 1 0), (13, J found), (61, .rsl 0 0 ss.length ss.length 1 true), (62, J ss.length), (63, J i)], ⟨[ss.map u8, [u8 four]], []⟩)) :
    ∃ x_1 en s, lim (headed pure (run L) true [2, 12, 13, 61, 62, 63] lp36_1 2 0) env st = some (x_1, en, s) ∧ ((runF four (ss.drop i) found = none ∧ x_1 = .ret ∧ en.get 6 = I 0 ∧ en.get 7 = I 12) ∨ (∃ k, runF four (ss.drop i) found = some k ∧ x_1 = .exit 4 ∧ en.get 13 = J k)) := by
  refine loop_wp (α := Nat × Nat) (fun ⟨i, found⟩ => ss.length - i) (fun ⟨i, found⟩ => i ≤ ss.length ∧ found ≤ 3) (fun ⟨i, found⟩ => ([(2, tM four), (12, .ptr 1 0), (13, J found), (61, .rsl 0 0 ss.length ss.length 1 true), (62, J ss.length), (63, J i)], ⟨[ss.map u8, [u8 four]], []⟩)) (fun ⟨i, found⟩ x_1 en s => (runF four (ss.drop i) found = none ∧ x_1 = .ret ∧ en.get 6 = I 0 ∧ en.get 7 = I 12) ∨ (∃ k, runF four (ss.drop i) found = some k ∧ x_1 = .exit 4 ∧ en.get 13 = J k)) (fun ⟨i, found⟩ hok => ?_) ⟨i, found⟩ hok env st hg
  simp only at hok
  obtain ⟨h1, h2⟩ := hok
  dsimp only at h1 h2 ⊢
  by_cases h : i < ss.length
  · have hs := succ64 i (by omega)
    have hlt : ((i : Int) < (ss.length : Int)) = True := eq_true (by omega)
    have hd : ss.drop i = ss.getD i 0 :: ss.drop (i + 1) := by
      rw [List.drop_eq_getElem_cons h]; simp [List.getD_eq_getElem?_getD, h]
    have hb : ss.getD i 0 < 256 := by
      rw [List.getD_eq_getElem?_getD, List.getElem?_eq_getElem h]; exact hss _ (List.getElem_mem h)
    have hg := slice8 ss i h
    have hil : (i + 1 ≤ ss.length) = True := eq_true (by omega)
    have hin : ((i : Int).toNat < ss.length) = True := eq_true (by omega)
    rw [hd]
    generalize ss.getD i 0 = v at *
    have hp : v &&& four < 256 := Nat.lt_of_le_of_lt Nat.and_le_right hf
    have hsub : (v &&& four) &&& four = v &&& four := by rw [Nat.and_assoc, Nat.and_self]
    have ha := and8 v four hb hf
    have hxs := xor_sub hf hp hsub
    have hxo := xor8 (v &&& four) four hp hf
    have hru : runF four (v :: ss.drop (i + 1)) found = match qN four v with | none => runF four (ss.drop (i + 1)) found | some k => if found ≠ 0 ∧ found ≠ k then none else runF four (ss.drop (i + 1)) k := rfl
    have hqn : qN four v = if (memb (v &&& four)).length = 2 then some (pI four (v &&& four)).toNat else none := rfl
    have hpk := fun hl => pOk_at hf h4 hp hsub hl
    rw [hxs] at hxo
    rw [hru]
    generalize v &&& four = p at *
    have h93 := fun st => c93 p hp st
    by_cases q2 : (memb p).length = 2
    · have e2 : (((memb p).length : Int) = 2) = True := eq_true (by omega)
      obtain ⟨k1, k2, k3⟩ := hpk q2
      rw [if_pos q2] at hqn
      rw [hqn]
      have hf0 : indexSAV 1 (tM four) (.v (.int .i64 0)) = some (.eptr (I ((memb four).getD 0 0)) 0) := by
        have := index_ints true (memb four) 0 (by omega)
        rw [show (memb four).getD 0 0 = (memb four)[0]'(by omega) by rw [List.getD_eq_getElem?_getD, List.getElem?_eq_getElem (by omega)]; rfl]
        exact this
      have hf0r := memb_lt hf ((memb four).getD 0 0) (by rw [List.getD_eq_getElem?_getD, List.getElem?_eq_getElem (by omega)]; exact List.getElem_mem _)
      have hpp : pP four p = if p.testBit ((memb four).getD 0 0).toNat = true then p else dfN four p := rfl
      have hpi : pI four p = indexOf ((memb (pP four p)).getD 1 0) (memb four) 0 := rfl
      obtain ⟨f0, hf0e⟩ := Int.eq_ofNat_of_zero_le hf0r.1
      rw [hf0e] at hf0 hpp hf0r
      rw [Int.toNat_natCast] at hpp
      have h106 := fun st => c106g p f0 (by omega) st
      have hppl : pP four p < 256 := by rw [hpp]; split; exact hp; exact dfN_lt hf
      have h94 := fun st => c94 (pP four p) hppl st
      have hi1 : indexSAV 1 (tAV (memb (pP four p))) (.v (.int .i64 1)) = some (.eptr (I ((memb (pP four p)).getD 1 0)) 0) := by
        have := index_ints true (memb (pP four p)) 1 (by omega)
        rw [show (memb (pP four p)).getD 1 0 = (memb (pP four p))[1]'(by omega) by rw [List.getD_eq_getElem?_getD, List.getElem?_eq_getElem (by omega)]; rfl]
        exact this
      have h59 : ∀ st, run L 59 [tAV (memb four), I ((memb (pP four p)).getD 1 0)] st = some (I (pI four p), st) := fun st => c59 true (memb four) (by omega) _ st
      obtain ⟨k, hke⟩ := Int.eq_ofNat_of_zero_le (show 0 ≤ pI four p by omega)
      rw [hke] at h59 k2 k3
      rw [hke, Int.toNat_natCast]
      dsimp only
      generalize pP four p = pp at *
      by_cases z1 : found = 0
      · subst z1
        simp only [ne_eq, not_true_eq_false, false_and, if_false]
        have y1 : (((0 : Nat) : Int) = 0) = True := eq_true (by omega)
        cases hc : p.testBit f0 with
        | true =>
          rw [hc] at h106 hpp
          rw [if_pos rfl] at hpp
          subst hpp
          simp only [go_sem, reduceIte, Nat.reduceEqDiff, Nat.reduceAdd, Nat.reduceSub, Nat.reduceLeDiff, Nat.reduceLT, reduceCtorEq, Int.reduceLT, Int.reduceLE, Int.reduceEq, Int.reduceBEq, Int.reduceSub, Int.reduceAdd, Int.reduceMul, Int.reduceNeg, Int.reduceToNat, Nat.reduceMul, Nat.reduceBEq, index_rsl_if, setm, make_ints, condK_dec, wantK_dec, not_dec, and_dec, or_dec, seqK_ite, seqK_none, blockK_ite, blockK_none, opsK_ite, opsK_none, stepK_ite, stepK_none, bodyK_ite, bodyK_none, resK_ite, resK_none, leaveK_ite, leaveK_none, only_ite, only_none, bind_ite, gives_some, gives_none, gives_ite, then_normal, then_ret, then_exit, then_none, then_ite, Option.bind_none, Bool.not_eq_true', decide_eq_false_iff_not, Bool.and_eq_true, Bool.or_eq_true, Option.some.injEq, Int.not_lt, Int.not_le, lp36_1, hlt, hs, hil, hin, hg, ha, h93, e2, hf0, h106, h94, hi1, h59, y1, Int.natCast_nonneg, List.length_map]
          refine ⟨(i + 1, k), by simp only [go_sem, reduceIte, Nat.reduceEqDiff, Nat.reduceAdd, Nat.reduceSub, Nat.reduceLeDiff, Nat.reduceLT, reduceCtorEq, Int.reduceLT, Int.reduceLE, Int.reduceEq, Int.reduceBEq, Int.reduceSub, Int.reduceAdd, Int.reduceMul, Int.reduceNeg, Int.reduceToNat, Nat.reduceMul, Nat.reduceBEq, ren1_locm, loc_tips, locT_eq, ren1_t, okRefs8, renCells8] <;> rfl, ?_, ?_, fun x en s hq => ?_⟩
          · dsimp only; exact ⟨by omega, by omega⟩
          · dsimp only; omega
          · exact hq
        | false =>
          rw [hc] at h106 hpp
          rw [if_neg (by simp)] at hpp
          rw [← hpp] at hxo
          simp only [go_sem, reduceIte, Nat.reduceEqDiff, Nat.reduceAdd, Nat.reduceSub, Nat.reduceLeDiff, Nat.reduceLT, reduceCtorEq, Int.reduceLT, Int.reduceLE, Int.reduceEq, Int.reduceBEq, Int.reduceSub, Int.reduceAdd, Int.reduceMul, Int.reduceNeg, Int.reduceToNat, Nat.reduceMul, Nat.reduceBEq, index_rsl_if, setm, make_ints, condK_dec, wantK_dec, not_dec, and_dec, or_dec, seqK_ite, seqK_none, blockK_ite, blockK_none, opsK_ite, opsK_none, stepK_ite, stepK_none, bodyK_ite, bodyK_none, resK_ite, resK_none, leaveK_ite, leaveK_none, only_ite, only_none, bind_ite, gives_some, gives_none, gives_ite, then_normal, then_ret, then_exit, then_none, then_ite, Option.bind_none, Bool.not_eq_true', decide_eq_false_iff_not, Bool.and_eq_true, Bool.or_eq_true, Option.some.injEq, Int.not_lt, Int.not_le, lp36_1, hlt, hs, hil, hin, hg, ha, h93, e2, hf0, h106, hxo, h94, hi1, h59, y1, Int.natCast_nonneg, List.length_map]
          refine ⟨(i + 1, k), by simp only [go_sem, reduceIte, Nat.reduceEqDiff, Nat.reduceAdd, Nat.reduceSub, Nat.reduceLeDiff, Nat.reduceLT, reduceCtorEq, Int.reduceLT, Int.reduceLE, Int.reduceEq, Int.reduceBEq, Int.reduceSub, Int.reduceAdd, Int.reduceMul, Int.reduceNeg, Int.reduceToNat, Nat.reduceMul, Nat.reduceBEq, ren1_locm, loc_tips, locT_eq, ren1_t, okRefs8, renCells8] <;> rfl, ?_, ?_, fun x en s hq => ?_⟩
          · dsimp only; exact ⟨by omega, by omega⟩
          · dsimp only; omega
          · exact hq
      · have y1 : ((found : Int) = 0) = False := eq_false (by omega)
        by_cases z2 : found = k
        · have y2 : ((found : Int) = (k : Int)) = True := eq_true (by omega)
          rw [if_neg (fun hh => hh.2 z2)]
          cases hc : p.testBit f0 with
          | true =>
            rw [hc] at h106 hpp
            rw [if_pos rfl] at hpp
            subst hpp
            simp only [go_sem, reduceIte, Nat.reduceEqDiff, Nat.reduceAdd, Nat.reduceSub, Nat.reduceLeDiff, Nat.reduceLT, reduceCtorEq, Int.reduceLT, Int.reduceLE, Int.reduceEq, Int.reduceBEq, Int.reduceSub, Int.reduceAdd, Int.reduceMul, Int.reduceNeg, Int.reduceToNat, Nat.reduceMul, Nat.reduceBEq, index_rsl_if, setm, make_ints, condK_dec, wantK_dec, not_dec, and_dec, or_dec, seqK_ite, seqK_none, blockK_ite, blockK_none, opsK_ite, opsK_none, stepK_ite, stepK_none, bodyK_ite, bodyK_none, resK_ite, resK_none, leaveK_ite, leaveK_none, only_ite, only_none, bind_ite, gives_some, gives_none, gives_ite, then_normal, then_ret, then_exit, then_none, then_ite, Option.bind_none, Bool.not_eq_true', decide_eq_false_iff_not, Bool.and_eq_true, Bool.or_eq_true, Option.some.injEq, Int.not_lt, Int.not_le, lp36_1, hlt, hs, hil, hin, hg, ha, h93, e2, hf0, h106, h94, hi1, h59, y1, y2, Int.natCast_nonneg, List.length_map]
            refine ⟨(i + 1, k), by simp only [go_sem, reduceIte, Nat.reduceEqDiff, Nat.reduceAdd, Nat.reduceSub, Nat.reduceLeDiff, Nat.reduceLT, reduceCtorEq, Int.reduceLT, Int.reduceLE, Int.reduceEq, Int.reduceBEq, Int.reduceSub, Int.reduceAdd, Int.reduceMul, Int.reduceNeg, Int.reduceToNat, Nat.reduceMul, Nat.reduceBEq, ren1_locm, loc_tips, locT_eq, ren1_t, okRefs8, renCells8] <;> rfl, ?_, ?_, fun x en s hq => ?_⟩
            · dsimp only; exact ⟨by omega, by omega⟩
            · dsimp only; omega
            · exact hq
          | false =>
            rw [hc] at h106 hpp
            rw [if_neg (by simp)] at hpp
            rw [← hpp] at hxo
            simp only [go_sem, reduceIte, Nat.reduceEqDiff, Nat.reduceAdd, Nat.reduceSub, Nat.reduceLeDiff, Nat.reduceLT, reduceCtorEq, Int.reduceLT, Int.reduceLE, Int.reduceEq, Int.reduceBEq, Int.reduceSub, Int.reduceAdd, Int.reduceMul, Int.reduceNeg, Int.reduceToNat, Nat.reduceMul, Nat.reduceBEq, index_rsl_if, setm, make_ints, condK_dec, wantK_dec, not_dec, and_dec, or_dec, seqK_ite, seqK_none, blockK_ite, blockK_none, opsK_ite, opsK_none, stepK_ite, stepK_none, bodyK_ite, bodyK_none, resK_ite, resK_none, leaveK_ite, leaveK_none, only_ite, only_none, bind_ite, gives_some, gives_none, gives_ite, then_normal, then_ret, then_exit, then_none, then_ite, Option.bind_none, Bool.not_eq_true', decide_eq_false_iff_not, Bool.and_eq_true, Bool.or_eq_true, Option.some.injEq, Int.not_lt, Int.not_le, lp36_1, hlt, hs, hil, hin, hg, ha, h93, e2, hf0, h106, hxo, h94, hi1, h59, y1, y2, Int.natCast_nonneg, List.length_map]
            refine ⟨(i + 1, k), by simp only [go_sem, reduceIte, Nat.reduceEqDiff, Nat.reduceAdd, Nat.reduceSub, Nat.reduceLeDiff, Nat.reduceLT, reduceCtorEq, Int.reduceLT, Int.reduceLE, Int.reduceEq, Int.reduceBEq, Int.reduceSub, Int.reduceAdd, Int.reduceMul, Int.reduceNeg, Int.reduceToNat, Nat.reduceMul, Nat.reduceBEq, ren1_locm, loc_tips, locT_eq, ren1_t, okRefs8, renCells8] <;> rfl, ?_, ?_, fun x en s hq => ?_⟩
            · dsimp only; exact ⟨by omega, by omega⟩
            · dsimp only; omega
            · exact hq
        · have y2 : ((found : Int) = (k : Int)) = False := eq_false (by omega)
          rw [if_pos ⟨z1, z2⟩]
          cases hc : p.testBit f0 with
          | true =>
            rw [hc] at h106 hpp
            rw [if_pos rfl] at hpp
            subst hpp
            simp only [go_sem, reduceIte, Nat.reduceEqDiff, Nat.reduceAdd, Nat.reduceSub, Nat.reduceLeDiff, Nat.reduceLT, reduceCtorEq, Int.reduceLT, Int.reduceLE, Int.reduceEq, Int.reduceBEq, Int.reduceSub, Int.reduceAdd, Int.reduceMul, Int.reduceNeg, Int.reduceToNat, Nat.reduceMul, Nat.reduceBEq, index_rsl_if, setm, make_ints, condK_dec, wantK_dec, not_dec, and_dec, or_dec, seqK_ite, seqK_none, blockK_ite, blockK_none, opsK_ite, opsK_none, stepK_ite, stepK_none, bodyK_ite, bodyK_none, resK_ite, resK_none, leaveK_ite, leaveK_none, only_ite, only_none, bind_ite, gives_some, gives_none, gives_ite, then_normal, then_ret, then_exit, then_none, then_ite, Option.bind_none, Bool.not_eq_true', decide_eq_false_iff_not, Bool.and_eq_true, Bool.or_eq_true, Option.some.injEq, Int.not_lt, Int.not_le, lp36_1, hlt, hs, hil, hin, hg, ha, h93, e2, hf0, h106, h94, hi1, h59, y1, y2, Int.natCast_nonneg, List.length_map]
          | false =>
            rw [hc] at h106 hpp
            rw [if_neg (by simp)] at hpp
            rw [← hpp] at hxo
            simp only [go_sem, reduceIte, Nat.reduceEqDiff, Nat.reduceAdd, Nat.reduceSub, Nat.reduceLeDiff, Nat.reduceLT, reduceCtorEq, Int.reduceLT, Int.reduceLE, Int.reduceEq, Int.reduceBEq, Int.reduceSub, Int.reduceAdd, Int.reduceMul, Int.reduceNeg, Int.reduceToNat, Nat.reduceMul, Nat.reduceBEq, index_rsl_if, setm, make_ints, condK_dec, wantK_dec, not_dec, and_dec, or_dec, seqK_ite, seqK_none, blockK_ite, blockK_none, opsK_ite, opsK_none, stepK_ite, stepK_none, bodyK_ite, bodyK_none, resK_ite, resK_none, leaveK_ite, leaveK_none, only_ite, only_none, bind_ite, gives_some, gives_none, gives_ite, then_normal, then_ret, then_exit, then_none, then_ite, Option.bind_none, Bool.not_eq_true', decide_eq_false_iff_not, Bool.and_eq_true, Bool.or_eq_true, Option.some.injEq, Int.not_lt, Int.not_le, lp36_1, hlt, hs, hil, hin, hg, ha, h93, e2, hf0, h106, hxo, h94, hi1, h59, y1, y2, Int.natCast_nonneg, List.length_map]
    · have e2 : (((memb p).length : Int) = 2) = False := eq_false (by omega)
      rw [if_neg q2] at hqn
      rw [hqn]
      simp only [go_sem, reduceIte, Nat.reduceEqDiff, Nat.reduceAdd, Nat.reduceSub, Nat.reduceLeDiff, Nat.reduceLT, reduceCtorEq, Int.reduceLT, Int.reduceLE, Int.reduceEq, Int.reduceBEq, Int.reduceSub, Int.reduceAdd, Int.reduceMul, Int.reduceNeg, Int.reduceToNat, Nat.reduceMul, Nat.reduceBEq, index_rsl_if, setm, make_ints, condK_dec, wantK_dec, not_dec, and_dec, or_dec, seqK_ite, seqK_none, blockK_ite, blockK_none, opsK_ite, opsK_none, stepK_ite, stepK_none, bodyK_ite, bodyK_none, resK_ite, resK_none, leaveK_ite, leaveK_none, only_ite, only_none, bind_ite, gives_some, gives_none, gives_ite, then_normal, then_ret, then_exit, then_none, then_ite, Option.bind_none, Bool.not_eq_true', decide_eq_false_iff_not, Bool.and_eq_true, Bool.or_eq_true, Option.some.injEq, Int.not_lt, Int.not_le, lp36_1, hlt, hs, hil, hin, hg, ha, h93, e2, Int.natCast_nonneg, List.length_map]
      refine ⟨(i + 1, found), by simp only [go_sem, reduceIte, Nat.reduceEqDiff, Nat.reduceAdd, Nat.reduceSub, Nat.reduceLeDiff, Nat.reduceLT, reduceCtorEq, Int.reduceLT, Int.reduceLE, Int.reduceEq, Int.reduceBEq, Int.reduceSub, Int.reduceAdd, Int.reduceMul, Int.reduceNeg, Int.reduceToNat, Nat.reduceMul, Nat.reduceBEq, ren1_locm, loc_tips, locT_eq, ren1_t, okRefs8, renCells8] <;> rfl, ?_, ?_, fun x en s hq => ?_⟩
      · dsimp only; exact ⟨by omega, h2⟩
      · dsimp only; omega
      · exact hq
  · have hd : ss.drop i = [] := List.drop_eq_nil_of_le (by omega)
    have hlt : ((i : Int) < (ss.length : Int)) = False := eq_false (by omega)
    rw [hd]
    simp only [go_sem, reduceIte, Nat.reduceEqDiff, Nat.reduceAdd, Nat.reduceSub, Nat.reduceLeDiff, Nat.reduceLT, reduceCtorEq, Int.reduceLT, Int.reduceLE, Int.reduceEq, Int.reduceBEq, Int.reduceSub, Int.reduceAdd, Int.reduceMul, Int.reduceNeg, Int.reduceToNat, Nat.reduceMul, Nat.reduceBEq, index_rsl_if, setm, make_ints, condK_dec, wantK_dec, not_dec, and_dec, or_dec, seqK_ite, seqK_none, blockK_ite, blockK_none, opsK_ite, opsK_none, stepK_ite, stepK_none, bodyK_ite, bodyK_none, resK_ite, resK_none, leaveK_ite, leaveK_none, only_ite, only_none, bind_ite, gives_some, gives_none, gives_ite, then_normal, then_ret, then_exit, then_none, then_ite, Option.bind_none, Bool.not_eq_true', decide_eq_false_iff_not, Bool.and_eq_true, Bool.or_eq_true, Option.some.injEq, Int.not_lt, Int.not_le, lp36_1, hlt]
    exact ⟨found, rfl, rfl⟩

attribute [local go_sem] okRef_o storable_o shaped_o cells_o fin_o pub_o shaped_t cells_t isAgg_t storable_t okRef_t pub_t

def pairA : Option Nat → AV
  | some k => .tup [J k, I 0]
  | none => .tup [I 0, I 12]
theorem loop36_1n (four : Nat) (i : Nat) (hok : i = 0) (env : Env) (st : St)
    (hg : gcAV true 1 0 (canon env [2, 12, 13, 61, 62, 63]) st = ([(2, tM four), (12, .ptr 0 0), (13, I 0), (61, .v (.slice none 0 0)), (62, I 0), (63, J i)], ⟨[[u8 four]], []⟩)) :
    ∃ x_1 en s, lim (headed pure (run L) true [2, 12, 13, 61, 62, 63] lp36_1 1 0) env st = some (x_1, en, s) ∧ (x_1 = .exit 4 ∧ en.get 13 = I 0) := by
  refine loop_wp (α := Nat) (fun i => i) (fun i => i = 0) (fun i => ([(2, tM four), (12, .ptr 0 0), (13, I 0), (61, .v (.slice none 0 0)), (62, I 0), (63, J i)], ⟨[[u8 four]], []⟩)) (fun i x_1 en s => x_1 = .exit 4 ∧ en.get 13 = I 0) (fun i hok => ?_) i hok env st hg
  subst hok
  have hlt : (((0 : Nat) : Int) < 0) = False := eq_false (by omega)
  simp only [go_sem, reduceIte, Nat.reduceEqDiff, Nat.reduceAdd, Nat.reduceSub, Nat.reduceLeDiff, Nat.reduceLT, reduceCtorEq, Int.reduceLT, Int.reduceLE, Int.reduceEq, Int.reduceBEq, Int.reduceSub, Int.reduceAdd, Int.reduceMul, Int.reduceNeg, Int.reduceToNat, Nat.reduceMul, Nat.reduceBEq, index_rsl_if, setm, make_ints, condK_dec, wantK_dec, not_dec, and_dec, or_dec, seqK_ite, seqK_none, blockK_ite, blockK_none, opsK_ite, opsK_none, stepK_ite, stepK_none, bodyK_ite, bodyK_none, resK_ite, resK_none, leaveK_ite, leaveK_none, only_ite, only_none, bind_ite, gives_some, gives_none, gives_ite, then_normal, then_ret, then_exit, then_none, then_ite, Option.bind_none, Bool.not_eq_true', decide_eq_false_iff_not, Bool.and_eq_true, Bool.or_eq_true, Option.some.injEq, Int.not_lt, Int.not_le, lp36_1, hlt]

theorem c36 (n : Nat) (h2 : 2 ≤ n) (hn : n ≤ 8) (nl : Bool) (X : List Nat) (hX : ∀ v ∈ X, v < 2 ^ n ∧ v ≠ 0 ∧ v ≠ 2 ^ n - 1) (hnd : (X.map (smlN n)).Nodup) (hl : X.length ≤ 13) (four : Nat) (hf : four < 2 ^ n) (h4 : (memb four).length = 4) (st : St) :
    run L 36 [J n, sl 1 nl (X.map tM), tM four] st = some (pairA (runF four (X.map (smlN n)) 0), st) := by
  rw [run_pure (fn := ir36) rfl rfl]
  have h2n : 2 ^ n ≤ 256 := Nat.pow_le_pow_right (n := 2) (by decide) hn
  have h70 := c70 n h2 hn nl X hX hnd (by omega)
  have hss : ∀ x ∈ X.map (smlN n), x < 256 := by
    intro x hx
    rw [List.mem_map] at hx
    obtain ⟨v, hv, rfl⟩ := hx
    exact Nat.lt_of_lt_of_le (smlN_lt (hX v hv).1) h2n
  have hk : (X.map (smlN n)).length ≤ 13 := by rw [List.length_map]; exact hl
  have hr := memb_range hn hf
  have ho := memb_step2 four
  have h105 := fun st => c105 four (by omega) st
  have hlf : lenAV (tM four) = some (J 4) := by rw [← h4]; exact lenm_sl I true _
  have hlf' : lenAV (tM four) = some (I 4) := hlf
  generalize X.map (smlN n) = ss at *
  by_cases he : ss = []
  · subst he
    have eA : kA [] = .v (.slice none 0 0) := rfl
    have eS : kS [] = [] := rfl
    rw [eA, eS] at h70
    simp only [ir36, go_sem, reduceIte, Nat.reduceEqDiff, Nat.reduceAdd, Nat.reduceSub, Nat.reduceLeDiff, Nat.reduceLT, reduceCtorEq, Int.reduceLT, Int.reduceLE, Int.reduceEq, Int.reduceBEq, Int.reduceSub, Int.reduceAdd, Int.reduceMul, Int.reduceNeg, Int.reduceToNat, Nat.reduceMul, Nat.reduceBEq, h70, show pure 70 = false from rfl, shStore, shV, shVs, hlf']
    generalize hg : lim (headed pure (run L) true _ lp36_0 _ _) _ _ = o
    obtain ⟨x, en, s, rfl, h2⟩ : ∃ x en s, o = some (x, en, s) ∧ _ := by rw [← hg]; exact loop36_0n n (memb four) (by omega) hr ho [] 0 (by omega) _ _ (by simp only [go_sem, reduceIte, Nat.reduceEqDiff, Nat.reduceAdd, Nat.reduceSub, Nat.reduceLeDiff, Nat.reduceLT, reduceCtorEq, Int.reduceLT, Int.reduceLE, Int.reduceEq, Int.reduceBEq, Int.reduceSub, Int.reduceAdd, Int.reduceMul, Int.reduceNeg, Int.reduceToNat, Nat.reduceMul, Nat.reduceBEq, Int.natCast_zero, ren1_t, h4, show ((4 : Nat) : Int) = 4 from rfl] <;> rfl)
    clear hg
    obtain ⟨rfl, rfl, e2, e8⟩ := h2
    simp only [go_sem, reduceIte, Nat.reduceEqDiff, Nat.reduceAdd, Nat.reduceSub, Nat.reduceLeDiff, Nat.reduceLT, reduceCtorEq, Int.reduceLT, Int.reduceLE, Int.reduceEq, Int.reduceBEq, Int.reduceSub, Int.reduceAdd, Int.reduceMul, Int.reduceNeg, Int.reduceToNat, Nat.reduceMul, Nat.reduceBEq, e2, e8, h105]
    generalize hg : lim (headed pure (run L) true _ lp36_1 _ _) _ _ = o
    obtain ⟨x, en, s, rfl, h2⟩ : ∃ x en s, o = some (x, en, s) ∧ _ := by rw [← hg]; exact loop36_1n four 0 rfl _ _ (by simp only [go_sem, reduceIte, Nat.reduceEqDiff, Nat.reduceAdd, Nat.reduceSub, Nat.reduceLeDiff, Nat.reduceLT, reduceCtorEq, Int.reduceLT, Int.reduceLE, Int.reduceEq, Int.reduceBEq, Int.reduceSub, Int.reduceAdd, Int.reduceMul, Int.reduceNeg, Int.reduceToNat, Nat.reduceMul, Nat.reduceBEq, e2, e8, Int.natCast_zero, ren1_t] <;> rfl)
    clear hg
    obtain ⟨rfl, e13⟩ := h2
    simp only [go_sem, reduceIte, Nat.reduceEqDiff, Nat.reduceAdd, Nat.reduceSub, Nat.reduceLeDiff, Nat.reduceLT, reduceCtorEq, Int.reduceLT, Int.reduceLE, Int.reduceEq, Int.reduceBEq, Int.reduceSub, Int.reduceAdd, Int.reduceMul, Int.reduceNeg, Int.reduceToNat, Nat.reduceMul, Nat.reduceBEq, e13]
    rfl
  · rw [kA_ne he, kS_ne he] at h70
    have hsv := shVs_8 0 ss
    simp only [ir36, go_sem, reduceIte, Nat.reduceEqDiff, Nat.reduceAdd, Nat.reduceSub, Nat.reduceLeDiff, Nat.reduceLT, reduceCtorEq, Int.reduceLT, Int.reduceLE, Int.reduceEq, Int.reduceBEq, Int.reduceSub, Int.reduceAdd, Int.reduceMul, Int.reduceNeg, Int.reduceToNat, Nat.reduceMul, Nat.reduceBEq, h70, show pure 70 = false from rfl, shStore, shV, shVs, hsv, hlf', okRefs8, renCells8]
    generalize hg : lim (headed pure (run L) true _ lp36_0 _ _) _ _ = o
    obtain ⟨x, en, s, rfl, h2⟩ : ∃ x en s, o = some (x, en, s) ∧ _ := by rw [← hg]; exact loop36_0c n (memb four) (by omega) hr ho ss 0 (by omega) _ _ (by simp only [go_sem, reduceIte, Nat.reduceEqDiff, Nat.reduceAdd, Nat.reduceSub, Nat.reduceLeDiff, Nat.reduceLT, reduceCtorEq, Int.reduceLT, Int.reduceLE, Int.reduceEq, Int.reduceBEq, Int.reduceSub, Int.reduceAdd, Int.reduceMul, Int.reduceNeg, Int.reduceToNat, Nat.reduceMul, Nat.reduceBEq, Int.natCast_zero, ren1_t, h4, show ((4 : Nat) : Int) = 4 from rfl, okRefs8, renCells8] <;> rfl)
    clear hg
    obtain ⟨rfl, rfl, e2, e8⟩ := h2
    simp only [go_sem, reduceIte, Nat.reduceEqDiff, Nat.reduceAdd, Nat.reduceSub, Nat.reduceLeDiff, Nat.reduceLT, reduceCtorEq, Int.reduceLT, Int.reduceLE, Int.reduceEq, Int.reduceBEq, Int.reduceSub, Int.reduceAdd, Int.reduceMul, Int.reduceNeg, Int.reduceToNat, Nat.reduceMul, Nat.reduceBEq, e2, e8, h105]
    generalize hg : lim (headed pure (run L) true _ lp36_1 _ _) _ _ = o
    obtain ⟨x, en, s, rfl, h2⟩ : ∃ x en s, o = some (x, en, s) ∧ _ := by rw [← hg]; exact loop36_1 four (by omega) h4 ss hss hk 0 0 ⟨by omega, by omega⟩ _ _ (by simp only [go_sem, reduceIte, Nat.reduceEqDiff, Nat.reduceAdd, Nat.reduceSub, Nat.reduceLeDiff, Nat.reduceLT, reduceCtorEq, Int.reduceLT, Int.reduceLE, Int.reduceEq, Int.reduceBEq, Int.reduceSub, Int.reduceAdd, Int.reduceMul, Int.reduceNeg, Int.reduceToNat, Nat.reduceMul, Nat.reduceBEq, e2, e8, Int.natCast_zero, ren1_t, okRefs8, renCells8] <;> rfl)
    clear hg
    rw [List.drop_zero] at h2
    rcases h2 with ⟨h2, rfl, e6, e7⟩ | ⟨k, h2, rfl, e13⟩
    · rw [h2]
      simp only [go_sem, reduceIte, Nat.reduceEqDiff, Nat.reduceAdd, Nat.reduceSub, Nat.reduceLeDiff, Nat.reduceLT, reduceCtorEq, Int.reduceLT, Int.reduceLE, Int.reduceEq, Int.reduceBEq, Int.reduceSub, Int.reduceAdd, Int.reduceMul, Int.reduceNeg, Int.reduceToNat, Nat.reduceMul, Nat.reduceBEq, e6, e7]
      rfl
    · rw [h2]
      simp only [go_sem, reduceIte, Nat.reduceEqDiff, Nat.reduceAdd, Nat.reduceSub, Nat.reduceLeDiff, Nat.reduceLT, reduceCtorEq, Int.reduceLT, Int.reduceLE, Int.reduceEq, Int.reduceBEq, Int.reduceSub, Int.reduceAdd, Int.reduceMul, Int.reduceNeg, Int.reduceToNat, Nat.reduceMul, Nat.reduceBEq, e13]
      rfl
end Go.Proofs.YtdnmhlfjafjkbaaGreatDoor.Vm
