/- What is proved: what each function of this program computes, as equations on the evaluator. No condition. -/
import Derived.Test.YtdnjagnechibhaaGreatDoorLib
import Derived.Test.YtdnjagnechibhaaGreatDoorSy
import Derived.WalkKit
import Derived.ProofKit
import Derived.OpenShut
import Derived.KernelRfl
import Derived.Test.YtdnjagnechibhaaGreatDoorT0p
set_option linter.all false
namespace Go.Proofs.YtdnjagnechibhaaGreatDoor.Vm
open Go Go.Ev
set_option maxRecDepth 100000
attribute [local go_sem] cells_any storable_any ren1_any shaped_ptr cells_ptr storable_ptr ren1_ptr shaped_eptr cells_eptr storable_eptr ren1_eptr shaped_rsl cells_rsl storable_rsl ren1_rsl shaped_int cells_int storable_int ren1_int shaped_bool cells_bool storable_bool ren1_bool shaped_nils cells_nils storable_nils ren1_nils shaped_lst cells_lst storable_lst shaped_fn cells_fn storable_fn ren1_fn shaped_ifc cells_ifc storable_ifc ren1_ifc shaped_agg cells_agg storable_agg ren1_agg shaped_tup cells_tup storable_tup ren1_tup shaped_nif cells_nif storable_nif ren1_nif ren1_lany ren1_lfull ren1_lown len_lst len_rsl len_nil load_ptr load_eptr isRsl_lst isRsl_nil isRsl_rsl elems_nil elems_lst elems_sl isRsl_sl body_eq bodyK_normal bodyK_ret resK_some leaveK_some only_some code_skip code_exit code_ret code_ops code_seq code_cond code_block seqK_normal seqK_ret seqK_exit condK_true condK_false blockK_normal blockK_ret blockK_exit opsK_some ops_nil ops_cons wantK_true wantK_false stepK_some pubs pub pub_sl params okRef_loc storable_loc shaped_loc cells_loc isRsl_loc elems_loc len_loc untips untip untip_sl wantedAV setElems withO isAgg_v isAgg_agg isAgg_lst isAgg_ptr isAgg_fn isAgg_ifc isAgg_rsl isAgg_sl isAgg_loc List.replicate_succ List.replicate_zero opAV valAV aval avals ofVal Env.get setD canon gcAV renAll renEnv renStore renCells ren1_sl cutSt okEnv okStore okRefs okRef okRef_sl bin_int bin_bool bin_lst bin_rsl bin_nil bin_agg cellsEq cellEq isShift intOp boolOp min_int max_int beq_int bne resAV tupAV leave_eq fin_sl fin_loc fins fin_v fin_lst fin_agg fin_tup fin_fn storeAV readCells putCells cells_sl shaped_sl storable_sl fieldAddrAV len_sl goI List.getElem?_cons_zero List.getElem?_cons_succ List.getElem?_nil Option.bind_some Option.map_some List.length_cons List.length_nil List.all_cons List.all_nil Bool.and_true Bool.true_and Bool.and_false Bool.false_and and_true true_and and_false false_and Bool.false_eq_true List.set_cons_zero List.set_cons_succ List.append_nil List.nil_append List.cons_append List.take_zero List.take_succ_cons List.take_nil List.drop_zero List.drop_succ_cons List.map_cons List.map_nil decide_true decide_false beq_self_eq_true Bool.not_true Bool.not_false or_true true_or or_false false_or Nat.zero_add Nat.add_zero Nat.le_refl Nat.lt_irrefl decide_eq_true_eq eq_self_iff_true not_true_eq_false not_false_eq_true List.getD_cons_zero code_loop Nat.zero_le Nat.not_lt_zero Bool.true_beq Bool.false_beq beq_true beq_false ge_iff_le gt_iff_lt keepR keepT ownTop Lpure pus Option.map_none assert_ifc assert_nil idxA_ptr idxA_eptr idxV_agg Int.cast_ofNat_Int Nat.mul_one Nat.zero_mul Int.toNat_natCast Int.toNat_zero setParts withO2 hasKey eqnil_sl nenil_sl eqnil_loc nenil_loc map_nil_iff elemsM_nil elemsM_lst elemsM_sl elemsM_loc elemsM_rsl elemsM_agg setElemsR pubR_v pubR_rsl pubE_v pubE_rsl okRefs_ints renCells_ints

theorem succ64 (i : Nat) (h : i < 1000000) : IntKind.i64.wrap ((i : Int) + 1) = ((i + 1 : Nat) : Int) := by
  rw [wrap64] <;> omega


abbrev two (p : Int × Int) : AV := .tup [I p.1, I p.2]


/-! ### a list of numbers that grows in a struct -/
def liAV (k : Nat) (o : List Int) : AV := loc 1 k (o.map I)
theorem okRef_li (n k : Nat) (o : List Int) : okRef n (liAV k o) = true := okRef_loc _ _ _ _
theorem storable_li (k : Nat) (o : List Int) : storable (liAV k o) = true := storable_loc _ _ _
theorem shaped_li (k : Nat) (o : List Int) : (liAV k o).shaped = true := shaped_loc _ _ _
theorem cells_li (k : Nat) (o : List Int) : (liAV k o).cells = [liAV k o] := cells_loc _ _ _
theorem fin_li1 (st : St) (o : List Int) : fin st (liAV 1 o) = sl 1 false (o.map I) := fin_loc st 1 1 _
theorem fin_li0 (st : St) (o : List Int) : fin st (liAV 0 o) = sl 1 true (o.map I) := fin_loc st 1 0 _
theorem pub_li1 (o : List Int) : pub (liAV 1 o) = sl 1 false (o.map I) := pub_loc 1 1 _
theorem pub_li0 (o : List Int) : pub (liAV 0 o) = sl 1 true (o.map I) := pub_loc 1 0 _
attribute [local go_sem] okRef_li storable_li shaped_li cells_li fin_li1 fin_li0 pub_li1 pub_li0

/-! ### a text -/
theorem index_ints (nl : Bool) (xs : List Int) (i : Nat) (h : i < xs.length) : indexSAV 1 (sl 1 nl (xs.map I)) (.v (.int .i64 i)) = some (.eptr (.v (.int .i64 xs[i])) 0) := by
  rw [index_sl _ _ _ _ _ (by omega) (by simpa using h)]
  simp

attribute [local go_sem] okRef_li storable_li shaped_li cells_li fin_li1 fin_li0 pub_li1 pub_li0

/-! ### bytes -/
abbrev B8 (n : Int) : AV := .v (.int .u8 n)
def Byte (n : Int) : Prop := 0 ≤ n ∧ n ≤ 255
theorem okRefsB (n : Nat) (xs : List Int) : okRefs n (xs.map B8) = true := okRefs_map B8 n (fun _ => rfl) xs
theorem renCellsB (n : Nat) (tips : List Nat) (acc : List (Nat × Nat)) (xs : List Int) : renCells n tips acc (xs.map B8) = (xs.map B8, acc) := renCells_map B8 n tips (fun _ _ => rfl) xs acc
theorem pubsB (xs : List Int) : pubs (xs.map B8) = xs.map B8 := pubs_map B8 (fun _ => rfl) xs
theorem storableB (xs : List Int) : (xs.map B8).all storable = true := by
  rw [List.all_eq_true]; intro x hx; rw [List.mem_map] at hx; obtain ⟨n, _, rfl⟩ := hx; rfl
theorem mod_range (a b : Int) (hb : 0 < b) : 0 ≤ a % b ∧ a % b < b := ⟨Int.emod_nonneg a (by omega), Int.emod_lt_of_pos a hb⟩
/-! ### two lists that are the same -/
/-! ### a text by numbers -/
end Go.Proofs.YtdnjagnechibhaaGreatDoor.Vm

namespace Go.Proofs.YtdnjagnechibhaaGreatDoor.Vm
open Go Go.Ev Go.ChangeShapes Go.WideShapes Go.ChangeAt Go.RowKit
set_option maxRecDepth 100000
attribute [local go_sem] cells_any storable_any ren1_any shaped_ptr cells_ptr storable_ptr ren1_ptr shaped_eptr cells_eptr storable_eptr ren1_eptr shaped_rsl cells_rsl storable_rsl ren1_rsl shaped_int cells_int storable_int ren1_int shaped_bool cells_bool storable_bool ren1_bool shaped_nils cells_nils storable_nils ren1_nils shaped_lst cells_lst storable_lst shaped_fn cells_fn storable_fn ren1_fn shaped_ifc cells_ifc storable_ifc ren1_ifc shaped_agg cells_agg storable_agg ren1_agg shaped_tup cells_tup storable_tup ren1_tup shaped_nif cells_nif storable_nif ren1_nif ren1_lany ren1_lfull ren1_lown len_lst len_rsl len_nil load_ptr load_eptr isRsl_lst isRsl_nil isRsl_rsl elems_nil elems_lst elems_sl isRsl_sl body_eq bodyK_normal bodyK_ret resK_some leaveK_some only_some code_skip code_exit code_ret code_ops code_seq code_cond code_block seqK_normal seqK_ret seqK_exit condK_true condK_false blockK_normal blockK_ret blockK_exit opsK_some ops_nil ops_cons wantK_true wantK_false stepK_some pubs pub pub_sl params okRef_loc storable_loc shaped_loc cells_loc isRsl_loc elems_loc len_loc untips untip untip_sl wantedAV setElems withO isAgg_v isAgg_agg isAgg_lst isAgg_ptr isAgg_fn isAgg_ifc isAgg_rsl isAgg_sl isAgg_loc List.replicate_succ List.replicate_zero opAV valAV aval avals ofVal Env.get setD canon gcAV renAll renEnv renStore renCells ren1_sl cutSt okEnv okStore okRefs okRef okRef_sl bin_int bin_bool bin_lst bin_rsl bin_nil bin_agg cellsEq cellEq isShift intOp boolOp min_int max_int beq_int bne resAV tupAV leave_eq fin_sl fin_loc fins fin_v fin_lst fin_agg fin_tup fin_fn storeAV readCells putCells cells_sl shaped_sl storable_sl fieldAddrAV len_sl goI List.getElem?_cons_zero List.getElem?_cons_succ List.getElem?_nil Option.bind_some Option.map_some List.length_cons List.length_nil List.all_cons List.all_nil Bool.and_true Bool.true_and Bool.and_false Bool.false_and and_true true_and and_false false_and Bool.false_eq_true List.set_cons_zero List.set_cons_succ List.append_nil List.nil_append List.cons_append List.take_zero List.take_succ_cons List.take_nil List.drop_zero List.drop_succ_cons List.map_cons List.map_nil decide_true decide_false beq_self_eq_true Bool.not_true Bool.not_false or_true true_or or_false false_or Nat.zero_add Nat.add_zero Nat.le_refl Nat.lt_irrefl decide_eq_true_eq eq_self_iff_true not_true_eq_false not_false_eq_true List.getD_cons_zero code_loop Nat.zero_le Nat.not_lt_zero Bool.true_beq Bool.false_beq beq_true beq_false ge_iff_le gt_iff_lt keepR keepT ownTop Lpure pus Option.map_none assert_ifc assert_nil idxA_ptr idxA_eptr idxV_agg Int.cast_ofNat_Int Nat.mul_one Nat.zero_mul Int.toNat_natCast Int.toNat_zero setParts withO2 hasKey eqnil_sl nenil_sl eqnil_loc nenil_loc map_nil_iff elemsM_nil elemsM_lst elemsM_sl elemsM_loc elemsM_rsl elemsM_agg setElemsR pubR_v pubR_rsl pubE_v pubE_rsl okRefs_ints renCells_ints

theorem cells5 : Tryz.prog.cellsOf 5 = 1 := by kernel_rfl
theorem one_byte {d : Nat} {bs : List AV} (h : Sh Tryz.prog (d + 1) 5 bs) : ∃ n : Int, bs = [B8 n] ∧ Byte n := by
  simp only [Sh, Tryz.underlying5] at h
  obtain ⟨n, h1, h2⟩ := h
  have hb := bounds_u8 h2
  exact ⟨n, h1, by unfold Byte; omega⟩
/-- So many bytes. -/
theorem all_bytes : ∀ (k : Nat) (bs : List AV), bs.length = k → (∀ i, i < k → ∃ n : Int, (bs.drop i).take 1 = [B8 n] ∧ Byte n) → ∃ zs : List Int, bs = zs.map B8 ∧ zs.length = k ∧ ∀ n ∈ zs, Byte n
  | 0, bs, hl, _ => ⟨[], by simpa using hl, rfl, by simp⟩
  | k + 1, b :: bs, hl, h => by
    obtain ⟨n, h1, h2⟩ := h 0 (by omega)
    simp only [List.drop_zero, List.take_succ_cons, List.take_zero, List.cons.injEq, and_true] at h1
    obtain ⟨zs, g1, g2, g3⟩ := all_bytes k bs (by simpa using hl) (fun i hi => by
      obtain ⟨x, q1, q2⟩ := h (i + 1) (by omega)
      exact ⟨x, by simpa using q1, q2⟩)
    refine ⟨n :: zs, by rw [List.map_cons, ← h1, ← g1], by simp [g2], fun x hx => ?_⟩
    rw [List.mem_cons] at hx
    rcases hx with rfl | hx
    · exact h2
    · exact g3 x hx
theorem sh_byte {a : AV} (h : ShV Tryz.prog 8 5 a) : ∃ n : Int, a = B8 n ∧ Byte n := by
  unfold ShV at h
  rw [if_neg (by unfold aggB; rw [Tryz.underlying5]; simp)] at h
  obtain ⟨n, h1, h2⟩ := one_byte h
  simp only [List.cons.injEq, and_true] at h1
  exact ⟨n, h1, h2⟩
end Go.Proofs.YtdnjagnechibhaaGreatDoor.Vm

namespace Go.Proofs.YtdnjagnechibhaaGreatDoor.Vm
open Go Go.Ev
set_option maxRecDepth 100000
attribute [local go_sem] cells_any storable_any ren1_any shaped_ptr cells_ptr storable_ptr ren1_ptr shaped_eptr cells_eptr storable_eptr ren1_eptr shaped_rsl cells_rsl storable_rsl ren1_rsl shaped_int cells_int storable_int ren1_int shaped_bool cells_bool storable_bool ren1_bool shaped_nils cells_nils storable_nils ren1_nils shaped_lst cells_lst storable_lst shaped_fn cells_fn storable_fn ren1_fn shaped_ifc cells_ifc storable_ifc ren1_ifc shaped_agg cells_agg storable_agg ren1_agg shaped_tup cells_tup storable_tup ren1_tup shaped_nif cells_nif storable_nif ren1_nif ren1_lany ren1_lfull ren1_lown len_lst len_rsl len_nil load_ptr load_eptr isRsl_lst isRsl_nil isRsl_rsl elems_nil elems_lst elems_sl isRsl_sl body_eq bodyK_normal bodyK_ret resK_some leaveK_some only_some code_skip code_exit code_ret code_ops code_seq code_cond code_block seqK_normal seqK_ret seqK_exit condK_true condK_false blockK_normal blockK_ret blockK_exit opsK_some ops_nil ops_cons wantK_true wantK_false stepK_some pubs pub pub_sl params okRef_loc storable_loc shaped_loc cells_loc isRsl_loc elems_loc len_loc untips untip untip_sl wantedAV setElems withO isAgg_v isAgg_agg isAgg_lst isAgg_ptr isAgg_fn isAgg_ifc isAgg_rsl isAgg_sl isAgg_loc List.replicate_succ List.replicate_zero opAV valAV aval avals ofVal Env.get setD canon gcAV renAll renEnv renStore renCells ren1_sl cutSt okEnv okStore okRefs okRef okRef_sl bin_int bin_bool bin_lst bin_rsl bin_nil bin_agg cellsEq cellEq isShift intOp boolOp min_int max_int beq_int bne resAV tupAV leave_eq fin_sl fin_loc fins fin_v fin_lst fin_agg fin_tup fin_fn storeAV readCells putCells cells_sl shaped_sl storable_sl fieldAddrAV len_sl goI List.getElem?_cons_zero List.getElem?_cons_succ List.getElem?_nil Option.bind_some Option.map_some List.length_cons List.length_nil List.all_cons List.all_nil Bool.and_true Bool.true_and Bool.and_false Bool.false_and and_true true_and and_false false_and Bool.false_eq_true List.set_cons_zero List.set_cons_succ List.append_nil List.nil_append List.cons_append List.take_zero List.take_succ_cons List.take_nil List.drop_zero List.drop_succ_cons List.map_cons List.map_nil decide_true decide_false beq_self_eq_true Bool.not_true Bool.not_false or_true true_or or_false false_or Nat.zero_add Nat.add_zero Nat.le_refl Nat.lt_irrefl decide_eq_true_eq eq_self_iff_true not_true_eq_false not_false_eq_true List.getD_cons_zero code_loop Nat.zero_le Nat.not_lt_zero Bool.true_beq Bool.false_beq beq_true beq_false ge_iff_le gt_iff_lt keepR keepT ownTop Lpure pus Option.map_none assert_ifc assert_nil idxA_ptr idxA_eptr idxV_agg Int.cast_ofNat_Int Nat.mul_one Nat.zero_mul Int.toNat_natCast Int.toNat_zero setParts withO2 hasKey eqnil_sl nenil_sl eqnil_loc nenil_loc map_nil_iff elemsM_nil elemsM_lst elemsM_sl elemsM_loc elemsM_rsl elemsM_agg setElemsR pubR_v pubR_rsl pubE_v pubE_rsl okRefs_ints renCells_ints

/-! ### checks -/
theorem run_args {f : FuncId} {fn : IF} (hf : L.fns f = some fn) (hp : L.pure f = true) {args args' : List AV} (st : St) (h : pubs args = pubs args') : run L f args st = run L f args' st := by
  rw [run_pure hf hp, run_pure hf hp, h]
/-! ### two coins -/
theorem run_anyE {f : FuncId} {fn : IF} (hf : L.fns f = some fn) (hp : L.pure f = true) {args : List AV} {st0 st1 : St} {r : AV} (h : run L f args st0 = some (r, st1)) (st : St) : run L f args st = some (r, st) := by
  rw [run_pure hf hp] at h ⊢
  unfold leaveK at h ⊢
  split at h
  · simp only [leave, Option.some.injEq, Prod.mk.injEq] at h ⊢
    exact ⟨h.1, trivial⟩
  · exact absurd h (by simp)


/-! ### where a number is -/
def indexOf (a : Int) : List Int → Nat → Int
  | [], _ => -1
  | b :: r, i => if a = b then (i : Int) else indexOf a r (i + 1)
theorem loop69 (nl : Bool) (l : List Int) (hlen : l.length < 1000000) (a : Int) (i : Nat) (hok : i ≤ l.length) (env : Env) (st : St)
    (hg : gcAV true 0 0 (canon env [0, 1, 7, 8]) st = ([(0, sl 1 nl (l.map I)), (1, I a), (7, I l.length), (8, I i)], ⟨[], []⟩)) :
    ∃ x_1 en s, lim (headed pure (run L) true [0, 1, 7, 8] lp69_0 0 0) env st = some (x_1, en, s) ∧ (if a ∈ l.drop i then x_1 = .ret ∧ en.get 4 = I (indexOf a (l.drop i) i) else x_1 = .exit 0) := by
  refine loop_wp (α := Nat) (fun i => l.length - i) (fun i => i ≤ l.length) (fun i => ([(0, sl 1 nl (l.map I)), (1, I a), (7, I l.length), (8, I i)], ⟨[], []⟩)) (fun i x_1 en s => if a ∈ l.drop i then x_1 = .ret ∧ en.get 4 = I (indexOf a (l.drop i) i) else x_1 = .exit 0) (fun i hok => ?_) i hok env st hg
  by_cases h : i < l.length
  · have hx := index_ints nl l i h
    have hs := succ64 i (by omega)
    have hd : l.drop i = l[i] :: l.drop (i + 1) := List.drop_eq_getElem_cons h
    have hlt : ((i : Int) < (l.length : Int)) = True := eq_true (by omega)
    rw [hd]
    generalize l[i] = b at *
    by_cases p : a = b
    · simp only [go_sem, reduceIte, Nat.reduceEqDiff, Nat.reduceAdd, Nat.reduceSub, Nat.reduceLeDiff, Nat.reduceLT, reduceCtorEq, Int.reduceLT, Int.reduceLE, Int.reduceEq, Int.reduceBEq, Int.reduceSub, Int.reduceAdd, Int.reduceMul, Int.reduceNeg, Int.reduceToNat, Nat.reduceMul, Nat.reduceBEq, index_rsl_if, setm, make_ints, condK_dec, wantK_dec, not_dec, and_dec, or_dec, seqK_ite, seqK_none, blockK_ite, blockK_none, opsK_ite, opsK_none, stepK_ite, stepK_none, bodyK_ite, bodyK_none, resK_ite, resK_none, leaveK_ite, leaveK_none, only_ite, only_none, bind_ite, gives_some, gives_none, gives_ite, then_normal, then_ret, then_exit, then_none, then_ite, Option.bind_none, Bool.not_eq_true', decide_eq_false_iff_not, Bool.and_eq_true, Bool.or_eq_true, Option.some.injEq, Int.not_lt, Int.not_le, lp69_0, hx, hlt, p]
      rw [if_pos (by simp)]; simp [indexOf]
    · have e : indexOf a (b :: l.drop (i + 1)) i = indexOf a (l.drop (i + 1)) (i + 1) := by simp only [indexOf]; rw [if_neg p]
      simp only [go_sem, reduceIte, Nat.reduceEqDiff, Nat.reduceAdd, Nat.reduceSub, Nat.reduceLeDiff, Nat.reduceLT, reduceCtorEq, Int.reduceLT, Int.reduceLE, Int.reduceEq, Int.reduceBEq, Int.reduceSub, Int.reduceAdd, Int.reduceMul, Int.reduceNeg, Int.reduceToNat, Nat.reduceMul, Nat.reduceBEq, index_rsl_if, setm, make_ints, condK_dec, wantK_dec, not_dec, and_dec, or_dec, seqK_ite, seqK_none, blockK_ite, blockK_none, opsK_ite, opsK_none, stepK_ite, stepK_none, bodyK_ite, bodyK_none, resK_ite, resK_none, leaveK_ite, leaveK_none, only_ite, only_none, bind_ite, gives_some, gives_none, gives_ite, then_normal, then_ret, then_exit, then_none, then_ite, Option.bind_none, Bool.not_eq_true', decide_eq_false_iff_not, Bool.and_eq_true, Bool.or_eq_true, Option.some.injEq, Int.not_lt, Int.not_le, lp69_0, hx, hlt, p, hs]
      refine ⟨i + 1, by simp only [go_sem, reduceIte, Nat.reduceEqDiff, Nat.reduceAdd, Nat.reduceSub, Nat.reduceLeDiff, Nat.reduceLT, reduceCtorEq, Int.reduceLT, Int.reduceLE, Int.reduceEq, Int.reduceBEq, Int.reduceSub, Int.reduceAdd, Int.reduceMul, Int.reduceNeg, Int.reduceToNat, Nat.reduceMul, Nat.reduceBEq, ren1_locm, loc_tips, locT_eq] <;> rfl, ?_, ?_, fun x en s hq => ?_⟩
      · omega
      · omega
      · rw [e]; simp only [List.mem_cons, p, false_or]; exact hq
  · have hd : l.drop i = [] := List.drop_eq_nil_of_le (by omega)
    have hlt : ((i : Int) < (l.length : Int)) = False := eq_false (by omega)
    simp only [go_sem, reduceIte, Nat.reduceEqDiff, Nat.reduceAdd, Nat.reduceSub, Nat.reduceLeDiff, Nat.reduceLT, reduceCtorEq, Int.reduceLT, Int.reduceLE, Int.reduceEq, Int.reduceBEq, Int.reduceSub, Int.reduceAdd, Int.reduceMul, Int.reduceNeg, Int.reduceToNat, Nat.reduceMul, Nat.reduceBEq, index_rsl_if, setm, make_ints, condK_dec, wantK_dec, not_dec, and_dec, or_dec, seqK_ite, seqK_none, blockK_ite, blockK_none, opsK_ite, opsK_none, stepK_ite, stepK_none, bodyK_ite, bodyK_none, resK_ite, resK_none, leaveK_ite, leaveK_none, only_ite, only_none, bind_ite, gives_some, gives_none, gives_ite, then_normal, then_ret, then_exit, then_none, then_ite, Option.bind_none, Bool.not_eq_true', decide_eq_false_iff_not, Bool.and_eq_true, Bool.or_eq_true, Option.some.injEq, Int.not_lt, Int.not_le, lp69_0, hlt]
    rw [hd]; simp

theorem indexOf_not (a : Int) : ∀ (l : List Int) (i : Nat), a ∉ l → indexOf a l i = -1
  | [], i, _ => rfl
  | b :: r, i, hn => by
    simp only [List.mem_cons, not_or] at hn
    simp only [indexOf]; rw [if_neg hn.1]; exact indexOf_not a r _ hn.2
theorem indexOf_ge (a : Int) : ∀ (l : List Int) (i : Nat), a ∈ l → 0 ≤ indexOf a l i
  | [], i, h => by simp at h
  | b :: r, i, h => by
    simp only [indexOf]
    split
    · omega
    · next hn => exact indexOf_ge a r _ (by rcases List.mem_cons.1 h with h | h; · exact absurd h hn
                                            · exact h)
theorem c69 (nl : Bool) (l : List Int) (hlen : l.length < 1000000) (a : Int) (st : St) : run L 69 [sl 1 nl (l.map I), I a] st = some (I (indexOf a l 0), st) := by
  rw [run_pure (fn := ir69) rfl rfl]
  simp only [ir69, go_sem, reduceIte, Nat.reduceEqDiff, Nat.reduceAdd, Nat.reduceSub, Nat.reduceLeDiff, Nat.reduceLT, reduceCtorEq, Int.reduceLT, Int.reduceLE, Int.reduceEq, Int.reduceBEq, Int.reduceSub, Int.reduceAdd, Int.reduceMul, Int.reduceNeg, Int.reduceToNat, Nat.reduceMul, Nat.reduceBEq, List.length_map]
  generalize hg : lim (headed pure (run L) true _ lp69_0 _ _) _ _ = o
  obtain ⟨x, en, s, rfl, h2⟩ : ∃ x en s, o = some (x, en, s) ∧ _ := by rw [← hg]; exact loop69 nl l hlen a 0 (by omega) _ _ (by simp only [go_sem, reduceIte, Nat.reduceEqDiff, Nat.reduceAdd, Nat.reduceSub, Nat.reduceLeDiff, Nat.reduceLT, reduceCtorEq, Int.reduceLT, Int.reduceLE, Int.reduceEq, Int.reduceBEq, Int.reduceSub, Int.reduceAdd, Int.reduceMul, Int.reduceNeg, Int.reduceToNat, Nat.reduceMul, Nat.reduceBEq] <;> rfl)
  clear hg
  rw [List.drop_zero] at h2
  by_cases h : a ∈ l
  · rw [if_pos h] at h2
    obtain ⟨rfl, h3⟩ := h2
    simp only [go_sem, reduceIte, Nat.reduceEqDiff, Nat.reduceAdd, Nat.reduceSub, Nat.reduceLeDiff, Nat.reduceLT, reduceCtorEq, Int.reduceLT, Int.reduceLE, Int.reduceEq, Int.reduceBEq, Int.reduceSub, Int.reduceAdd, Int.reduceMul, Int.reduceNeg, Int.reduceToNat, Nat.reduceMul, Nat.reduceBEq, h3]
  · rw [if_neg h] at h2
    subst h2
    simp only [go_sem, reduceIte, Nat.reduceEqDiff, Nat.reduceAdd, Nat.reduceSub, Nat.reduceLeDiff, Nat.reduceLT, reduceCtorEq, Int.reduceLT, Int.reduceLE, Int.reduceEq, Int.reduceBEq, Int.reduceSub, Int.reduceAdd, Int.reduceMul, Int.reduceNeg, Int.reduceToNat, Nat.reduceMul, Nat.reduceBEq, indexOf_not a l 0 h]
theorem c21 (nl : Bool) (l : List Int) (hlen : l.length < 1000000) (a : Int) (st : St) : run L 21 [sl 1 nl (l.map I), I a] st = some (B (decide (a ∈ l)), st) := by
  rw [run_pure (fn := ir21) rfl rfl]
  have h69 := fun st => c69 nl l hlen a st
  by_cases h : a ∈ l
  · have q : (0 ≤ indexOf a l 0) = True := eq_true (indexOf_ge a l 0 h)
    simp only [ir21, go_sem, reduceIte, Nat.reduceEqDiff, Nat.reduceAdd, Nat.reduceSub, Nat.reduceLeDiff, Nat.reduceLT, reduceCtorEq, Int.reduceLT, Int.reduceLE, Int.reduceEq, Int.reduceBEq, Int.reduceSub, Int.reduceAdd, Int.reduceMul, Int.reduceNeg, Int.reduceToNat, Nat.reduceMul, Nat.reduceBEq, h69, q, h]
  · have e := indexOf_not a l 0 h
    rw [e] at h69
    simp only [ir21, go_sem, reduceIte, Nat.reduceEqDiff, Nat.reduceAdd, Nat.reduceSub, Nat.reduceLeDiff, Nat.reduceLT, reduceCtorEq, Int.reduceLT, Int.reduceLE, Int.reduceEq, Int.reduceBEq, Int.reduceSub, Int.reduceAdd, Int.reduceMul, Int.reduceNeg, Int.reduceToNat, Nat.reduceMul, Nat.reduceBEq, h69, h]

/-! ### the check of a table -/
end Go.Proofs.YtdnjagnechibhaaGreatDoor.Vm

namespace Go.Proofs.YtdnjagnechibhaaGreatDoor.Vm
open Go Go.Ev
set_option maxRecDepth 100001

/-! ### lists that grow beside one another: each has a tip of some name, or is nil -/
def tipX (z : Nat) (o : Option Nat) (xs : List AV) : AV := match o with | none => .v (.slice none 0 0) | some i => .lst (.own i xs.length) z xs
def tipOk (o : Option Nat) (n : Nat) (T : List Nat) : Prop := match o with | none => n = 0 | some i => T[i]? = some n ∧ 0 < n
def apI (o : Option Nat) (T : List Nat) : Option Nat := match o with | none => some T.length | some i => some i
def apT (o : Option Nat) (T : List Nat) (n : Nat) : List Nat := match o with | none => T ++ [n] | some i => T.set i n
def reI (hi : Nat) (acc : List (Nat × Nat)) (o : Option Nat) : Option Nat := match o with | none => none | some i => if i < hi then some i else some (hi + acc.length)
def reA (hi : Nat) (acc : List (Nat × Nat)) (o : Option Nat) (n : Nat) : List (Nat × Nat) := match o with | none => acc | some i => if i < hi then acc else acc ++ [(i, n)]
theorem okRef_tip (n z : Nat) (o : Option Nat) (xs : List AV) : okRef n (tipX z o xs) = true := by cases o <;> rfl
theorem storable_tip (z : Nat) (o : Option Nat) (xs : List AV) : storable (tipX z o xs) = true := by cases o <;> rfl
theorem shaped_tip (z : Nat) (o : Option Nat) (xs : List AV) : (tipX z o xs).shaped = true := by cases o <;> rfl
theorem cells_tip (z : Nat) (o : Option Nat) (xs : List AV) : (tipX z o xs).cells = [tipX z o xs] := by cases o <;> rfl
theorem isAgg_tip (z : Nat) (o : Option Nat) (xs : List AV) : Go.Ev.isAgg (tipX z o xs) = false := by cases o <;> rfl
theorem append_tip (z : Nat) (o : Option Nat) (xs : List AV) (y : AV) (S : List (List AV)) (T : List Nat) (h : tipOk o xs.length T) (hm : xs.length < 1000000) :
    appendAV z (tipX z o xs) [y] ⟨S, T⟩ = some (tipX z (apI o T) (xs ++ [y]), ⟨S, apT o T (xs.length + 1)⟩) := by
  have hg : xs.length + 1 ≤ maxGrow := by unfold maxGrow; omega
  cases o with
  | none =>
    have : xs = [] := List.eq_nil_of_length_eq_zero h
    subst this
    have : 1 ≤ maxGrow := by unfold maxGrow; omega
    simp [tipX, appendAV, apI, apT, this]
  | some i => simp [tipX, appendAV, apI, apT, hg, h.1]
theorem append_tipm {β : Type} (z : Nat) (f : β → AV) (o : Option Nat) (xs : List β) (y : β) (S : List (List AV)) (T : List Nat) (h : tipOk o xs.length T) (hm : xs.length < 1000000) :
    appendAV z (tipX z o (xs.map f)) [f y] ⟨S, T⟩ = some (tipX z (apI o T) ((xs ++ [y]).map f), ⟨S, apT o T (xs.length + 1)⟩) := by
  rw [append_tip z o (xs.map f) (f y) S T (by simpa using h) (by simpa using hm)]
  simp
theorem apOk (o : Option Nat) (n : Nat) (T : List Nat) (m : Nat) (h : tipOk o n T) (hm : 0 < m) : tipOk (apI o T) m (apT o T m) := by
  cases o with
  | none => simp [apI, apT, tipOk, hm]
  | some i =>
    have : i < T.length := (List.getElem?_eq_some_iff.1 h.1).1
    simp [apI, apT, tipOk, this, hm]
/-- What renaming does: the first one of a list with a tip that is not old. -/
theorem ren1_tip (hi z : Nat) (T : List Nat) (acc : List (Nat × Nat)) (o : Option Nat) (xs : List AV) (h : tipOk o xs.length T) (hf : ∀ i, o = some i → hi ≤ i → ∀ p ∈ acc, p.1 ≠ i) :
    ren1 hi T acc (tipX z o xs) = (tipX z (reI hi acc o) xs, reA hi acc o xs.length) := by
  cases o with
  | none => rfl
  | some i =>
    simp only [tipX, ren1, reI, reA]
    by_cases q : i < hi
    · simp [q]
    · rw [if_neg q, if_neg q, if_neg q, if_pos]
      refine ⟨h.1, ?_⟩
      rw [List.all_eq_true]
      intro p hp
      simpa using hf i rfl (by omega) p hp
theorem ren1_tipm {β : Type} (hi z : Nat) (T : List Nat) (acc : List (Nat × Nat)) (f : β → AV) (o : Option Nat) (xs : List β) (h : tipOk o xs.length T) (hf : ∀ i, o = some i → hi ≤ i → ∀ p ∈ acc, p.1 ≠ i) :
    ren1 hi T acc (tipX z o (xs.map f)) = (tipX z (reI hi acc o) (xs.map f), reA hi acc o xs.length) := by
  rw [ren1_tip hi z T acc o (xs.map f) (by simpa using h) hf, List.length_map]
theorem reOk (hi : Nat) (T : List Nat) (acc acc' : List (Nat × Nat)) (o : Option Nat) (n : Nat) (h : tipOk o n T) (hl : hi ≤ T.length) (hp : reA hi acc o n <+: acc') : tipOk (reI hi acc o) n (T.take hi ++ acc'.map fun x => x.2) := by
  cases o with
  | none => exact h
  | some i =>
    simp only [reI]
    have htl : (T.take hi).length = hi := by rw [List.length_take]; omega
    by_cases q : i < hi
    · rw [if_pos q]
      refine ⟨?_, h.2⟩
      rw [List.getElem?_append_left (by omega), List.getElem?_take_of_lt q]
      exact h.1
    · rw [if_neg q]
      refine ⟨?_, h.2⟩
      rw [List.getElem?_append_right (by omega), htl, Nat.add_sub_cancel_left]
      simp only [reA, if_neg q] at hp
      obtain ⟨r, hr⟩ := hp
      rw [← hr]
      simp
theorem tipX_some (z i : Nat) (xs : List AV) : tipX z (some i) xs = .lst (.own i xs.length) z xs := rfl

/-! ### a store that renaming and cutting leave alone -/
end Go.Proofs.YtdnjagnechibhaaGreatDoor.Vm

namespace Go.Proofs.YtdnjagnechibhaaGreatDoor.Vm
open Go Go.Ev
set_option maxRecDepth 100000
attribute [local go_sem] cells_any storable_any ren1_any shaped_ptr cells_ptr storable_ptr ren1_ptr shaped_eptr cells_eptr storable_eptr ren1_eptr shaped_rsl cells_rsl storable_rsl ren1_rsl shaped_int cells_int storable_int ren1_int shaped_bool cells_bool storable_bool ren1_bool shaped_nils cells_nils storable_nils ren1_nils shaped_lst cells_lst storable_lst shaped_fn cells_fn storable_fn ren1_fn shaped_ifc cells_ifc storable_ifc ren1_ifc shaped_agg cells_agg storable_agg ren1_agg shaped_tup cells_tup storable_tup ren1_tup shaped_nif cells_nif storable_nif ren1_nif ren1_lany ren1_lfull ren1_lown len_lst len_rsl len_nil load_ptr load_eptr isRsl_lst isRsl_nil isRsl_rsl elems_nil elems_lst elems_sl isRsl_sl body_eq bodyK_normal bodyK_ret resK_some leaveK_some only_some code_skip code_exit code_ret code_ops code_seq code_cond code_block seqK_normal seqK_ret seqK_exit condK_true condK_false blockK_normal blockK_ret blockK_exit opsK_some ops_nil ops_cons wantK_true wantK_false stepK_some pubs pub pub_sl params okRef_loc storable_loc shaped_loc cells_loc isRsl_loc elems_loc len_loc untips untip untip_sl wantedAV setElems withO isAgg_v isAgg_agg isAgg_lst isAgg_ptr isAgg_fn isAgg_ifc isAgg_rsl isAgg_sl isAgg_loc List.replicate_succ List.replicate_zero opAV valAV aval avals ofVal Env.get setD canon gcAV renAll renEnv renStore renCells ren1_sl cutSt okEnv okStore okRefs okRef okRef_sl bin_int bin_bool bin_lst bin_rsl bin_nil bin_agg cellsEq cellEq isShift intOp boolOp min_int max_int beq_int bne resAV tupAV leave_eq fin_sl fin_loc fins fin_v fin_lst fin_agg fin_tup fin_fn storeAV readCells putCells cells_sl shaped_sl storable_sl fieldAddrAV len_sl goI List.getElem?_cons_zero List.getElem?_cons_succ List.getElem?_nil Option.bind_some Option.map_some List.length_cons List.length_nil List.all_cons List.all_nil Bool.and_true Bool.true_and Bool.and_false Bool.false_and and_true true_and and_false false_and Bool.false_eq_true List.set_cons_zero List.set_cons_succ List.append_nil List.nil_append List.cons_append List.take_zero List.take_succ_cons List.take_nil List.drop_zero List.drop_succ_cons List.map_cons List.map_nil decide_true decide_false beq_self_eq_true Bool.not_true Bool.not_false or_true true_or or_false false_or Nat.zero_add Nat.add_zero Nat.le_refl Nat.lt_irrefl decide_eq_true_eq eq_self_iff_true not_true_eq_false not_false_eq_true List.getD_cons_zero code_loop Nat.zero_le Nat.not_lt_zero Bool.true_beq Bool.false_beq beq_true beq_false ge_iff_le gt_iff_lt keepR keepT ownTop Lpure pus Option.map_none assert_ifc assert_nil idxA_ptr idxA_eptr idxV_agg Int.cast_ofNat_Int Nat.mul_one Nat.zero_mul Int.toNat_natCast Int.toNat_zero setParts withO2 hasKey eqnil_sl nenil_sl eqnil_loc nenil_loc map_nil_iff elemsM_nil elemsM_lst elemsM_sl elemsM_loc elemsM_rsl elemsM_agg setElemsR pubR_v pubR_rsl pubE_v pubE_rsl okRefs_ints renCells_ints
attribute [local go_sem] okRef_tip storable_tip shaped_tip cells_tip isAgg_tip

theorem fin_tip (st : St) (z : Nat) (o : Option Nat) (xs : List AV) {T : List Nat} (h : tipOk o xs.length T) : fin st (tipX z o xs) = sl z true xs := by
  cases o with
  | none =>
    have : xs = [] := List.eq_nil_of_length_eq_zero h
    subst this; simp [tipX, fin]; rfl
  | some i =>
    have : xs ≠ [] := by rintro rfl; exact absurd h.2 (by simp)
    rw [sl_ne this]; simp [tipX, fin]
end Go.Proofs.YtdnjagnechibhaaGreatDoor.Vm

namespace Go.Proofs.YtdnjagnechibhaaGreatDoor.Vm
open Go Go.Ev
set_option maxRecDepth 100001

/-! ### two folds by numbers, and their piles -/
abbrev stA (bs : List UInt8) : AV := .v (.string ⟨bs.toArray⟩)
/-- The letters of two folds, o or u. -/
def foldB (k : Nat) : List UInt8 := [if k % 2 = 0 then 111 else 117, if k / 2 % 2 = 0 then 111 else 117]
def turnB (l : List UInt8) : List UInt8 := l.map fun c => if c = 111 then 117 else 111
def pileN (k : Nat) : List Int := if k % 2 = 0 then (if k / 2 % 2 = 0 then [1, 2, 3, 0] else [3, 0, 1, 2]) else (if k / 2 % 2 = 0 then [2, 1, 0, 3] else [0, 3, 2, 1])
theorem trall {α : Type} {f g : Nat → α} {k : Nat} (h : (List.range k).map f = (List.range k).map g) (m : Nat) (hm : m < k) : f m = g m := by
  have := congrArg (fun l => l[m]?) h
  simpa [hm] using this
theorem all23 : (List.range 256).map (fun (b : Nat) => callAV L 100 23 [.v (.int .u8 2), .v (.int .u8 (b : Int)), I 2] ⟨[], []⟩) = (List.range 256).map (fun b => some (stA (foldB b), (⟨[], []⟩ : St))) := by kernel_rfl
theorem all25 : (List.range 4).map (fun (k : Nat) => callAV L 200 25 [stA (foldB k)] ⟨[], []⟩) = (List.range 4).map (fun k => some (.tup [.lst .any 1 ((pileN k).map I), I 0], (⟨[], []⟩ : St))) := by kernel_rfl
theorem all25t : (List.range 4).map (fun (k : Nat) => callAV L 200 25 [stA (turnB (foldB k))] ⟨[], []⟩) = (List.range 4).map (fun k => some (.tup [.lst .any 1 ((pileN k).reverse.map I), I 0], (⟨[], []⟩ : St))) := by kernel_rfl
theorem c23 (b : Nat) (hb : b < 256) (st : St) : run L 23 [.v (.int .u8 2), .v (.int .u8 (b : Int)), I 2] st = some (stA (foldB b), st) :=
  run_anyE (fn := ir23) rfl rfl (callAV_run L 100 _ _ _ _ (trall all23 b hb)) st
theorem foldB_mod (b : Nat) : foldB b = foldB (b % 4) := by
  unfold foldB
  rw [show b % 4 % 2 = b % 2 by omega, show b % 4 / 2 % 2 = b / 2 % 2 by omega]
theorem pileN_mod (b : Nat) : pileN b = pileN (b % 4) := by
  unfold pileN
  rw [show b % 4 % 2 = b % 2 by omega, show b % 4 / 2 % 2 = b / 2 % 2 by omega]
theorem c25 (b : Nat) (st : St) : run L 25 [stA (foldB b)] st = some (.tup [.lst .any 1 ((pileN b).map I), I 0], st) := by
  rw [foldB_mod, pileN_mod]
  exact run_anyE (fn := ir25) rfl rfl (callAV_run L 200 _ _ _ _ (trall all25 (b % 4) (Nat.mod_lt _ (by omega)))) st
theorem c25t (b : Nat) (st : St) : run L 25 [stA (turnB (foldB b))] st = some (.tup [.lst .any 1 ((pileN b).reverse.map I), I 0], st) := by
  rw [foldB_mod, pileN_mod]
  exact run_anyE (fn := ir25) rfl rfl (callAV_run L 200 _ _ _ _ (trall all25t (b % 4) (Nat.mod_lt _ (by omega)))) st

/-! ### the time of four sheets -/
abbrev spA (p : Int × Int) : AV := .agg [I p.1, I p.2]
end Go.Proofs.YtdnjagnechibhaaGreatDoor.Vm

namespace Go.Proofs.YtdnjagnechibhaaGreatDoor.Vm
open Go Go.Ev
set_option maxRecDepth 100001

def tot (xs : List Int) : Int := xs.foldl (fun n x => IntKind.i64.wrap (n + x)) 0
def sumP (l : List (Int × Int)) (p : Nat) : Int := IntKind.i64.wrap (tot ((l.take (p + 1)).map (·.1)) + tot ((l.drop p).map (·.2)))
def grt (m : Int) (xs : List Int) : Int := xs.foldl (fun m x => if x > m then x else m) m
theorem t78 (a b c d e f g h : Int) : callAV L 100 78 [.lst .any 2 [spA (a, b), spA (c, d), spA (e, f), spA (g, h)]] ⟨[], []⟩ = some (I (grt (sumP [(a, b), (c, d), (e, f), (g, h)] 0) [sumP [(a, b), (c, d), (e, f), (g, h)] 1, sumP [(a, b), (c, d), (e, f), (g, h)] 2, sumP [(a, b), (c, d), (e, f), (g, h)] 3]), ⟨[], []⟩) := by kernel_rfl
end Go.Proofs.YtdnjagnechibhaaGreatDoor.Vm

namespace Go.Proofs.YtdnjagnechibhaaGreatDoor.Vm
open Go Go.Ev
set_option maxRecDepth 100000
attribute [local go_sem] cells_any storable_any ren1_any shaped_ptr cells_ptr storable_ptr ren1_ptr shaped_eptr cells_eptr storable_eptr ren1_eptr shaped_rsl cells_rsl storable_rsl ren1_rsl shaped_int cells_int storable_int ren1_int shaped_bool cells_bool storable_bool ren1_bool shaped_nils cells_nils storable_nils ren1_nils shaped_lst cells_lst storable_lst shaped_fn cells_fn storable_fn ren1_fn shaped_ifc cells_ifc storable_ifc ren1_ifc shaped_agg cells_agg storable_agg ren1_agg shaped_tup cells_tup storable_tup ren1_tup shaped_nif cells_nif storable_nif ren1_nif ren1_lany ren1_lfull ren1_lown len_lst len_rsl len_nil load_ptr load_eptr isRsl_lst isRsl_nil isRsl_rsl elems_nil elems_lst elems_sl isRsl_sl body_eq bodyK_normal bodyK_ret resK_some leaveK_some only_some code_skip code_exit code_ret code_ops code_seq code_cond code_block seqK_normal seqK_ret seqK_exit condK_true condK_false blockK_normal blockK_ret blockK_exit opsK_some ops_nil ops_cons wantK_true wantK_false stepK_some pubs pub pub_sl params okRef_loc storable_loc shaped_loc cells_loc isRsl_loc elems_loc len_loc untips untip untip_sl wantedAV setElems withO isAgg_v isAgg_agg isAgg_lst isAgg_ptr isAgg_fn isAgg_ifc isAgg_rsl isAgg_sl isAgg_loc List.replicate_succ List.replicate_zero opAV valAV aval avals ofVal Env.get setD canon gcAV renAll renEnv renStore renCells ren1_sl cutSt okEnv okStore okRefs okRef okRef_sl bin_int bin_bool bin_lst bin_rsl bin_nil bin_agg cellsEq cellEq isShift intOp boolOp min_int max_int beq_int bne resAV tupAV leave_eq fin_sl fin_loc fins fin_v fin_lst fin_agg fin_tup fin_fn storeAV readCells putCells cells_sl shaped_sl storable_sl fieldAddrAV len_sl goI List.getElem?_cons_zero List.getElem?_cons_succ List.getElem?_nil Option.bind_some Option.map_some List.length_cons List.length_nil List.all_cons List.all_nil Bool.and_true Bool.true_and Bool.and_false Bool.false_and and_true true_and and_false false_and Bool.false_eq_true List.set_cons_zero List.set_cons_succ List.append_nil List.nil_append List.cons_append List.take_zero List.take_succ_cons List.take_nil List.drop_zero List.drop_succ_cons List.map_cons List.map_nil decide_true decide_false beq_self_eq_true Bool.not_true Bool.not_false or_true true_or or_false false_or Nat.zero_add Nat.add_zero Nat.le_refl Nat.lt_irrefl decide_eq_true_eq eq_self_iff_true not_true_eq_false not_false_eq_true List.getD_cons_zero code_loop Nat.zero_le Nat.not_lt_zero Bool.true_beq Bool.false_beq beq_true beq_false ge_iff_le gt_iff_lt keepR keepT ownTop Lpure pus Option.map_none assert_ifc assert_nil idxA_ptr idxA_eptr idxV_agg Int.cast_ofNat_Int Nat.mul_one Nat.zero_mul Int.toNat_natCast Int.toNat_zero setParts withO2 hasKey eqnil_sl nenil_sl eqnil_loc nenil_loc map_nil_iff elemsM_nil elemsM_lst elemsM_sl elemsM_loc elemsM_rsl elemsM_agg setElemsR pubR_v pubR_rsl pubE_v pubE_rsl okRefs_ints renCells_ints
attribute [local go_sem] okRef_tip storable_tip shaped_tip cells_tip isAgg_tip

/-! ### sheets are checked, and put in an order -/
def SpOk (l : List (Int × Int)) : Prop := ∀ p ∈ l, (0 ≤ p.1 ∧ p.1 ≤ 50) ∧ 0 ≤ p.2 ∧ p.2 ≤ 50
abbrev spL (l : List (Int × Int)) : AV := .lst .any 2 (l.map spA)
theorem index_sp (l : List (Int × Int)) (i : Nat) (h : i < l.length) : indexSAV 2 (spL l) (.v (.int .i64 i)) = some (.eptr (.agg [I l[i].1, I l[i].2]) 0) := by
  simp [indexSAV, h]
theorem getD_of {α : Type} (l : List α) (d : α) (i : Nat) (h : i < l.length) : l[i] = l.getD i d := by simp [List.getD_eq_getElem?_getD, h]
theorem loop75 (l : List (Int × Int)) (hlen : l.length ≤ 7) (hl : SpOk l) (i : Nat) (hok : i ≤ l.length) (env : Env) (st : St)
    (hg : gcAV true 0 0 (canon env [13, 14, 15]) st = ([(13, spL l), (14, I l.length), (15, I i)], ⟨[], []⟩)) :
    ∃ x_1 en s, lim (headed pure (run L) true [13, 14, 15] lp75_0 0 0) env st = some (x_1, en, s) ∧ (x_1 = .exit 1 ∧ s = ⟨[], []⟩) := by
  refine loop_wp (α := Nat) (fun i => l.length - i) (fun i => i ≤ l.length) (fun i => ([(13, spL l), (14, I l.length), (15, I i)], ⟨[], []⟩)) (fun i x_1 en s => x_1 = .exit 1 ∧ s = ⟨[], []⟩) (fun i hok => ?_) i hok env st hg
  by_cases h : i < l.length
  · have hs := succ64 i (by omega)
    have hlt : ((i : Int) < (l.length : Int)) = True := eq_true (by omega)
    have hx := index_sp l i h
    have hb := hl l[i] (List.getElem_mem h)
    generalize l[i] = p at *
    obtain ⟨a, b⟩ := p
    dsimp only at hx hb
    have n1 : (min a b < 0) = False := eq_false (by omega)
    have n2 : ((50 : Int) < max a b) = False := eq_false (by omega)
    simp only [go_sem, reduceIte, Nat.reduceEqDiff, Nat.reduceAdd, Nat.reduceSub, Nat.reduceLeDiff, Nat.reduceLT, reduceCtorEq, Int.reduceLT, Int.reduceLE, Int.reduceEq, Int.reduceBEq, Int.reduceSub, Int.reduceAdd, Int.reduceMul, Int.reduceNeg, Int.reduceToNat, Nat.reduceMul, Nat.reduceBEq, index_rsl_if, setm, make_ints, condK_dec, wantK_dec, not_dec, and_dec, or_dec, seqK_ite, seqK_none, blockK_ite, blockK_none, opsK_ite, opsK_none, stepK_ite, stepK_none, bodyK_ite, bodyK_none, resK_ite, resK_none, leaveK_ite, leaveK_none, only_ite, only_none, bind_ite, gives_some, gives_none, gives_ite, then_normal, then_ret, then_exit, then_none, then_ite, Option.bind_none, Bool.not_eq_true', decide_eq_false_iff_not, Bool.and_eq_true, Bool.or_eq_true, Option.some.injEq, Int.not_lt, Int.not_le, lp75_0, hlt, hs, hx, n1, n2]
    refine ⟨i + 1, by simp only [go_sem, reduceIte, Nat.reduceEqDiff, Nat.reduceAdd, Nat.reduceSub, Nat.reduceLeDiff, Nat.reduceLT, reduceCtorEq, Int.reduceLT, Int.reduceLE, Int.reduceEq, Int.reduceBEq, Int.reduceSub, Int.reduceAdd, Int.reduceMul, Int.reduceNeg, Int.reduceToNat, Nat.reduceMul, Nat.reduceBEq, ren1_locm, loc_tips, locT_eq] <;> rfl, ?_, ?_, fun x en s hq => ?_⟩
    all_goals first | exact hq | omega
  · have hlt : ((i : Int) < (l.length : Int)) = False := eq_false (by omega)
    simp only [go_sem, reduceIte, Nat.reduceEqDiff, Nat.reduceAdd, Nat.reduceSub, Nat.reduceLeDiff, Nat.reduceLT, reduceCtorEq, Int.reduceLT, Int.reduceLE, Int.reduceEq, Int.reduceBEq, Int.reduceSub, Int.reduceAdd, Int.reduceMul, Int.reduceNeg, Int.reduceToNat, Nat.reduceMul, Nat.reduceBEq, index_rsl_if, setm, make_ints, condK_dec, wantK_dec, not_dec, and_dec, or_dec, seqK_ite, seqK_none, blockK_ite, blockK_none, opsK_ite, opsK_none, stepK_ite, stepK_none, bodyK_ite, bodyK_none, resK_ite, resK_none, leaveK_ite, leaveK_none, only_ite, only_none, bind_ite, gives_some, gives_none, gives_ite, then_normal, then_ret, then_exit, then_none, then_ite, Option.bind_none, Bool.not_eq_true', decide_eq_false_iff_not, Bool.and_eq_true, Bool.or_eq_true, Option.some.injEq, Int.not_lt, Int.not_le, lp75_0, hlt]

theorem c75 (l : List (Int × Int)) (h1 : 1 ≤ l.length) (hlen : l.length ≤ 7) (hl : SpOk l) (st : St) : run L 75 [spL l] st = some (I 0, st) := by
  rw [run_pure (fn := ir75) rfl rfl]
  have p : ((l.length : Int) = 0) = False := eq_false (by omega)
  have q : ((7 : Int) < (l.length : Int)) = False := eq_false (by omega)
  simp only [ir75, go_sem, reduceIte, Nat.reduceEqDiff, Nat.reduceAdd, Nat.reduceSub, Nat.reduceLeDiff, Nat.reduceLT, reduceCtorEq, Int.reduceLT, Int.reduceLE, Int.reduceEq, Int.reduceBEq, Int.reduceSub, Int.reduceAdd, Int.reduceMul, Int.reduceNeg, Int.reduceToNat, Nat.reduceMul, Nat.reduceBEq, List.length_map, p, q]
  generalize hg : lim (headed pure (run L) true _ lp75_0 _ _) _ _ = o
  obtain ⟨x, en, s, rfl, h2⟩ : ∃ x en s, o = some (x, en, s) ∧ _ := by rw [← hg]; exact loop75 l hlen hl 0 (Nat.zero_le _) _ _ (by simp only [go_sem, reduceIte, Nat.reduceEqDiff, Nat.reduceAdd, Nat.reduceSub, Nat.reduceLeDiff, Nat.reduceLT, reduceCtorEq, Int.reduceLT, Int.reduceLE, Int.reduceEq, Int.reduceBEq, Int.reduceSub, Int.reduceAdd, Int.reduceMul, Int.reduceNeg, Int.reduceToNat, Nat.reduceMul, Nat.reduceBEq, Int.natCast_zero] <;> rfl)
  clear hg
  obtain ⟨rfl, rfl⟩ := h2
  simp only [go_sem, reduceIte, Nat.reduceEqDiff, Nat.reduceAdd, Nat.reduceSub, Nat.reduceLeDiff, Nat.reduceLT, reduceCtorEq, Int.reduceLT, Int.reduceLE, Int.reduceEq, Int.reduceBEq, Int.reduceSub, Int.reduceAdd, Int.reduceMul, Int.reduceNeg, Int.reduceToNat, Nat.reduceMul, Nat.reduceBEq]
def putL (l : List (Int × Int)) (os : List Int) : List (Int × Int) := os.map fun o => l.getD o.toNat (0, 0)
theorem sl_false (z : Nat) (xs : List AV) : sl z false xs = .lst .any z xs := by simp [sl]
set_option maxHeartbeats 1000000 in
theorem loop77 (l : List (Int × Int)) (n : Nat) (hn : l.length = n) (hn7 : n ≤ 7) (os : List Int) (hos : os.length = n) (hor : ∀ x ∈ os, 0 ≤ x ∧ x < (n : Int)) (hnd : os.Nodup) (i : Nat) (o : Option Nat) (T : List Nat) (hok : i ≤ n ∧ tipOk o i T) (env : Env) (st : St)
    (hg : gcAV true 0 0 (canon env [0, 1, 7, 22, 23, 24]) st = ([(0, spL l), (1, .lst .any 1 (os.map I)), (7, tipX 2 o ((putL l (os.take i)).map spA)), (22, .lst .any 1 (os.map I)), (23, I n), (24, I i)], ⟨[], T⟩)) :
    ∃ x_1 en s, lim (headed pure (run L) true [0, 1, 7, 22, 23, 24] lp77_0 0 0) env st = some (x_1, en, s) ∧ (x_1 = .exit 1 ∧ ∃ o T, en.get 7 = tipX 2 o ((putL l os).map spA) ∧ tipOk o n T ∧ s = ⟨[], T⟩) := by
  refine loop_wp (α := Nat × Option Nat × List Nat) (fun ⟨i, o, T⟩ => n - i) (fun ⟨i, o, T⟩ => i ≤ n ∧ tipOk o i T) (fun ⟨i, o, T⟩ => ([(0, spL l), (1, .lst .any 1 (os.map I)), (7, tipX 2 o ((putL l (os.take i)).map spA)), (22, .lst .any 1 (os.map I)), (23, I n), (24, I i)], ⟨[], T⟩)) (fun ⟨i, o, T⟩ x_1 en s => x_1 = .exit 1 ∧ ∃ o T, en.get 7 = tipX 2 o ((putL l os).map spA) ∧ tipOk o n T ∧ s = ⟨[], T⟩) (fun ⟨i, o, T⟩ hok => ?_) ⟨i, o, T⟩ hok env st hg
  simp only at hok
  obtain ⟨h1, k1⟩ := hok
  dsimp only at h1 k1 ⊢
  by_cases h : i < n
  · have hs := succ64 i (by omega)
    have hlt : ((i : Int) < (n : Int)) = True := eq_true (by omega)
    have hx : indexSAV 1 (.lst .any 1 (os.map I)) (.v (.int .i64 i)) = some (.eptr (I (os[i]'(by omega))) 0) := by simp [indexSAV, show i < os.length by omega]
    have htl : os.take (i + 1) = os.take i ++ [os[i]'(by omega)] := List.take_succ_eq_append_getElem (by omega)
    have hxr := hor (os[i]'(by omega)) (List.getElem_mem _)
    have hxd : os[i]'(by omega) ∉ os.take i := fun hm => by
      have := hnd.sublist (List.take_sublist (i + 1) os)
      rw [htl, List.nodup_append] at this
      exact this.2.2 _ hm _ (List.mem_singleton.2 rfl) rfl
    generalize os[i]'(by omega) = x at *
    obtain ⟨c, rfl⟩ : ∃ c : Nat, x = (c : Int) := ⟨x.toNat, by omega⟩
    have hy := index_sp l c (by omega)
    have hput : putL l (os.take (i + 1)) = putL l (os.take i) ++ [l[c]'(by omega)] := by
      unfold putL
      rw [htl, List.map_append]
      congr 1
      simp only [List.map_cons, List.map_nil, Int.toNat_natCast]
      rw [getD_of l (0, 0) c (by omega)]
    have hpl : (putL l (os.take i)).length = i := by simp [putL]; omega
    have hpl2 : (putL l (os.take (i + 1))).length = i + 1 := by simp [putL]; omega
    have hsl : sliceAV 1 (.lst .any 1 (os.map I)) none (some (I i)) none = some (.lst .any 1 ((os.take i).map I)) := by
      simp [sliceAV, natOr, natOf, tagSlice, show i ≤ os.length by omega, List.map_take]
    have h21 := fun st => c21 false (os.take i) (by simp; omega) (c : Int) st
    simp only [sl_false, decide_eq_false hxd] at h21
    have n1 : ((c : Int) < 0) = False := eq_false (by omega)
    have n2 : ((n : Int) ≤ (c : Int)) = False := eq_false (by omega)
    generalize l[c]'(by omega) = p at *
    obtain ⟨a, b⟩ := p
    dsimp only at hy
    have happ := fun S => append_tipm 2 spA o (putL l (os.take i)) (a, b) S T (by rw [hpl]; exact k1) (by omega)
    rw [← hput, hpl] at happ
    have a1 := apOk o i T (i + 1) k1 (by omega)
    have hr := ren1_tipm 0 2 (apT o T (i + 1)) [] spA (apI o T) (putL l (os.take (i + 1))) (by rw [hpl2]; exact a1) (fun _ _ _ p hp => by simp at hp)
    have hre := reOk 0 (apT o T (i + 1)) [] _ (apI o T) (i + 1) a1 (Nat.zero_le _) (List.prefix_refl _)
    rw [hpl2] at hr
    simp only [go_sem, reduceIte, Nat.reduceEqDiff, Nat.reduceAdd, Nat.reduceSub, Nat.reduceLeDiff, Nat.reduceLT, reduceCtorEq, Int.reduceLT, Int.reduceLE, Int.reduceEq, Int.reduceBEq, Int.reduceSub, Int.reduceAdd, Int.reduceMul, Int.reduceNeg, Int.reduceToNat, Nat.reduceMul, Nat.reduceBEq, index_rsl_if, setm, make_ints, condK_dec, wantK_dec, not_dec, and_dec, or_dec, seqK_ite, seqK_none, blockK_ite, blockK_none, opsK_ite, opsK_none, stepK_ite, stepK_none, bodyK_ite, bodyK_none, resK_ite, resK_none, leaveK_ite, leaveK_none, only_ite, only_none, bind_ite, gives_some, gives_none, gives_ite, then_normal, then_ret, then_exit, then_none, then_ite, Option.bind_none, Bool.not_eq_true', decide_eq_false_iff_not, Bool.and_eq_true, Bool.or_eq_true, Option.some.injEq, Int.not_lt, Int.not_le, lp77_0, hlt, hs, hx, n1, n2, hsl, h21, hy, happ, hn, List.length_map]
    refine ⟨(i + 1, reI 0 [] (apI o T), List.take 0 (apT o T (i + 1)) ++ (reA 0 [] (apI o T) (i + 1)).map fun x => x.2), by simp only [go_sem, reduceIte, Nat.reduceEqDiff, Nat.reduceAdd, Nat.reduceSub, Nat.reduceLeDiff, Nat.reduceLT, reduceCtorEq, Int.reduceLT, Int.reduceLE, Int.reduceEq, Int.reduceBEq, Int.reduceSub, Int.reduceAdd, Int.reduceMul, Int.reduceNeg, Int.reduceToNat, Nat.reduceMul, Nat.reduceBEq, ren1_locm, loc_tips, locT_eq, hr] <;> rfl, ?_, ?_, fun x en s hq => ?_⟩
    · dsimp only; exact ⟨by omega, hre⟩
    · dsimp only; omega
    · exact hq
  · have hlt : ((i : Int) < (n : Int)) = False := eq_false (by omega)
    obtain rfl : i = n := by omega
    have ht : os.take i = os := List.take_of_length_le (by omega)
    simp only [go_sem, reduceIte, Nat.reduceEqDiff, Nat.reduceAdd, Nat.reduceSub, Nat.reduceLeDiff, Nat.reduceLT, reduceCtorEq, Int.reduceLT, Int.reduceLE, Int.reduceEq, Int.reduceBEq, Int.reduceSub, Int.reduceAdd, Int.reduceMul, Int.reduceNeg, Int.reduceToNat, Nat.reduceMul, Nat.reduceBEq, index_rsl_if, setm, make_ints, condK_dec, wantK_dec, not_dec, and_dec, or_dec, seqK_ite, seqK_none, blockK_ite, blockK_none, opsK_ite, opsK_none, stepK_ite, stepK_none, bodyK_ite, bodyK_none, resK_ite, resK_none, leaveK_ite, leaveK_none, only_ite, only_none, bind_ite, gives_some, gives_none, gives_ite, then_normal, then_ret, then_exit, then_none, then_ite, Option.bind_none, Bool.not_eq_true', decide_eq_false_iff_not, Bool.and_eq_true, Bool.or_eq_true, Option.some.injEq, Int.not_lt, Int.not_le, lp77_0, hlt, ht]
    exact ⟨o, T, rfl, k1, rfl⟩

theorem c77 (l : List (Int × Int)) (n : Nat) (hn : l.length = n) (hn7 : 1 ≤ n ∧ n ≤ 7) (hl : SpOk l) (os : List Int) (hos : os.length = n) (hor : ∀ x ∈ os, 0 ≤ x ∧ x < (n : Int)) (hnd : os.Nodup) (st : St) :
    run L 77 [spL l, .lst .any 1 (os.map I)] st = some (.tup [sl 2 true ((putL l os).map spA), I 0], st) := by
  rw [run_pure (fn := ir77) rfl rfl]
  have h75 := fun st => c75 l (by omega) (by omega) hl st
  have hpl : (putL l os).length = n := by simp [putL, hos]
  simp only [ir77, go_sem, reduceIte, Nat.reduceEqDiff, Nat.reduceAdd, Nat.reduceSub, Nat.reduceLeDiff, Nat.reduceLT, reduceCtorEq, Int.reduceLT, Int.reduceLE, Int.reduceEq, Int.reduceBEq, Int.reduceSub, Int.reduceAdd, Int.reduceMul, Int.reduceNeg, Int.reduceToNat, Nat.reduceMul, Nat.reduceBEq, h75, List.length_map, hn, hos]
  generalize hg : lim (headed pure (run L) true _ lp77_0 _ _) _ _ = o
  obtain ⟨x, en, s, rfl, h2⟩ : ∃ x en s, o = some (x, en, s) ∧ _ := by rw [← hg]; exact loop77 l n hn hn7.2 os hos hor hnd 0 none [] ⟨Nat.zero_le _, rfl⟩ _ _ (by simp only [go_sem, reduceIte, Nat.reduceEqDiff, Nat.reduceAdd, Nat.reduceSub, Nat.reduceLeDiff, Nat.reduceLT, reduceCtorEq, Int.reduceLT, Int.reduceLE, Int.reduceEq, Int.reduceBEq, Int.reduceSub, Int.reduceAdd, Int.reduceMul, Int.reduceNeg, Int.reduceToNat, Nat.reduceMul, Nat.reduceBEq, Int.natCast_zero] <;> rfl)
  clear hg
  obtain ⟨rfl, o, T, g7, ho, rfl⟩ := h2
  have hf := fin_tip ⟨[], T⟩ 2 o ((putL l os).map spA) (T := T) (by rw [List.length_map, hpl]; exact ho)
  simp only [go_sem, reduceIte, Nat.reduceEqDiff, Nat.reduceAdd, Nat.reduceSub, Nat.reduceLeDiff, Nat.reduceLT, reduceCtorEq, Int.reduceLT, Int.reduceLE, Int.reduceEq, Int.reduceBEq, Int.reduceSub, Int.reduceAdd, Int.reduceMul, Int.reduceNeg, Int.reduceToNat, Nat.reduceMul, Nat.reduceBEq, g7, hf]


def timeOf (l : List (Int × Int)) : Int := grt (sumP l 0) [sumP l 1, sumP l 2, sumP l 3]
theorem len4 {α : Type} {l : List α} (h : l.length = 4) : ∃ a b c d, l = [a, b, c, d] := by
  match l, h with
  | [a, b, c, d], _ => exact ⟨a, b, c, d, rfl⟩
theorem c78 (l : List (Int × Int)) (hl : l.length = 4) (st : St) : run L 78 [sl 2 true (l.map spA)] st = some (I (timeOf l), st) := by
  obtain ⟨⟨a, b⟩, ⟨c, d⟩, ⟨e, f⟩, ⟨g, h⟩, rfl⟩ := len4 hl
  exact run_anyE (fn := ir78) rfl rfl (callAV_run L 100 _ _ _ _ (t78 a b c d e f g h)) st
theorem c29 (l : List (Int × Int)) (hn : l.length = 4) (hl : SpOk l) (g : Tag) (os : List Int) (hos : os.length = 4) (hor : ∀ x ∈ os, 0 ≤ x ∧ x < 4) (hnd : os.Nodup) (st : St) :
    run L 29 [spL l, .lst g 1 (os.map I)] st = some (.tup [I (timeOf (putL l os)), I 0], st) := by
  have key : ∀ st, run L 29 [spL l, .lst .any 1 (os.map I)] st = some (.tup [I (timeOf (putL l os)), I 0], st) := fun st => by
    rw [run_pure (fn := ir29) rfl rfl]
    have h77 := fun st => c77 l 4 hn ⟨by omega, by omega⟩ hl os hos hor hnd st
    have h78 := fun st => c78 (putL l os) (by simp [putL, hos]) st
    simp only [ir29, go_sem, reduceIte, Nat.reduceEqDiff, Nat.reduceAdd, Nat.reduceSub, Nat.reduceLeDiff, Nat.reduceLT, reduceCtorEq, Int.reduceLT, Int.reduceLE, Int.reduceEq, Int.reduceBEq, Int.reduceSub, Int.reduceAdd, Int.reduceMul, Int.reduceNeg, Int.reduceToNat, Nat.reduceMul, Nat.reduceBEq, h77, h78]
  exact (run_args (fn := ir29) (args := [spL l, .lst g 1 (os.map I)]) (args' := [spL l, .lst .any 1 (os.map I)]) rfl rfl st (by cases g <;> rfl)).trans (key st)

/-! ### plain: the opposite pile of turned sheets -/
def trnL (l : List (Int × Int)) : List (Int × Int) := (l.map fun p => (p.2, p.1)).reverse
theorem tot_sum : ∀ (xs : List Int) (n : Int), (∀ x ∈ xs, 0 ≤ x ∧ x ≤ 50) → xs.length ≤ 100 → 0 ≤ n → n ≤ 100000 → xs.foldl (fun n x => IntKind.i64.wrap (n + x)) n = n + xs.sum
  | [], n, _, _, _, _ => by simp
  | x :: r, n, h, hl, h0, h1 => by
    have hx := h x (by simp)
    have hw := wrap64 (n + x) (by omega) (by omega)
    rw [List.foldl_cons, hw]
    simp only [List.length_cons] at hl
    have key : ∀ (r : List Int) (n k : Int), (∀ x ∈ r, 0 ≤ x ∧ x ≤ 50) → 0 ≤ n → n + 50 * (r.length : Int) ≤ 1000000 → r.foldl (fun n x => IntKind.i64.wrap (n + x)) n = n + r.sum := fun r => by
      induction r with
      | nil => intro n _ _ _ _; simp
      | cons y r ih =>
        intro n k h h0 h1
        have hy := h y (by simp)
        simp only [List.length_cons, Int.natCast_add, Int.natCast_one] at h1
        have hw := wrap64 (n + y) (by omega) (by omega)
        rw [List.foldl_cons, hw, ih (n + y) k (fun x hx => h x (by simp [hx])) (by omega) (by omega), List.sum_cons]; omega
    rw [key r (n + x) 0 (fun y hy => h y (by simp [hy])) (by omega) (by omega), List.sum_cons]; omega
theorem grt_max (m a b c : Int) : grt m [a, b, c] = max (max (max m a) b) c := by
  simp only [grt, List.foldl_cons, List.foldl_nil]
  (repeat' split) <;> omega
set_option maxHeartbeats 1000000 in
theorem time4 {a b c d e f g h : Int} (hl : SpOk [(a, b), (c, d), (e, f), (g, h)]) : timeOf [(a, b), (c, d), (e, f), (g, h)] = max (max (max (a + (b + d + f + h)) (a + c + (d + f + h))) (a + c + e + (f + h))) (a + c + e + g + h) := by
  have h1 := hl (a, b) (by simp)
  have h2 := hl (c, d) (by simp)
  have h3 := hl (e, f) (by simp)
  have h4 := hl (g, h) (by simp)
  dsimp only at h1 h2 h3 h4
  have hs : ∀ p, p < 4 → sumP [(a, b), (c, d), (e, f), (g, h)] p = ((([(a, b), (c, d), (e, f), (g, h)] : List (Int × Int)).take (p + 1)).map (·.1)).sum + ((([(a, b), (c, d), (e, f), (g, h)] : List (Int × Int)).drop p).map (·.2)).sum := fun p hp => by
    unfold sumP tot
    rw [tot_sum _ 0 (fun x hx => by
      obtain ⟨q, hq, rfl⟩ := List.mem_map.1 hx
      exact (hl q (List.mem_of_mem_take hq)).1) (by simp; omega) (Int.le_refl _) (by omega),
      tot_sum _ 0 (fun x hx => by
      obtain ⟨q, hq, rfl⟩ := List.mem_map.1 hx
      exact (hl q (List.mem_of_mem_drop hq)).2) (by simp; omega) (Int.le_refl _) (by omega)]
    rcases (show p = 0 ∨ p = 1 ∨ p = 2 ∨ p = 3 by omega) with rfl | rfl | rfl | rfl
    all_goals
      simp only [List.take_succ_cons, List.take_zero, List.drop_zero, List.drop_succ_cons, List.map_cons, List.map_nil, List.sum_cons, List.sum_nil]
      rw [wrap64] <;> omega
  have s0 : sumP [(a, b), (c, d), (e, f), (g, h)] 0 = a + (b + d + f + h) := by rw [hs 0 (by omega)]; simp only [List.take_succ_cons, List.take_zero, List.drop_zero, List.map_cons, List.map_nil, List.sum_cons, List.sum_nil]; omega
  have s1 : sumP [(a, b), (c, d), (e, f), (g, h)] 1 = a + c + (d + f + h) := by rw [hs 1 (by omega)]; simp only [List.take_succ_cons, List.take_zero, List.drop_zero, List.drop_succ_cons, List.map_cons, List.map_nil, List.sum_cons, List.sum_nil]; omega
  have s2 : sumP [(a, b), (c, d), (e, f), (g, h)] 2 = a + c + e + (f + h) := by rw [hs 2 (by omega)]; simp only [List.take_succ_cons, List.take_zero, List.drop_zero, List.drop_succ_cons, List.map_cons, List.map_nil, List.sum_cons, List.sum_nil]; omega
  have s3 : sumP [(a, b), (c, d), (e, f), (g, h)] 3 = a + c + e + g + h := by rw [hs 3 (by omega)]; simp only [List.take_succ_cons, List.take_zero, List.drop_zero, List.drop_succ_cons, List.map_cons, List.map_nil, List.sum_cons, List.sum_nil]; omega
  unfold timeOf
  rw [grt_max, s0, s1, s2, s3]
def SpO (p : Int × Int) : Prop := (0 ≤ p.1 ∧ p.1 ≤ 50) ∧ 0 ≤ p.2 ∧ p.2 ≤ 50
theorem sp4 {p q r s : Int × Int} (a : SpO p) (b : SpO q) (c : SpO r) (d : SpO s) : SpOk [p, q, r, s] := fun x hx => by
  simp only [List.mem_cons, List.not_mem_nil, or_false] at hx
  rcases hx with rfl | rfl | rfl | rfl <;> assumption
theorem rev4 {a b c d e f g h : Int} (h1 : SpO (a, b)) (h2 : SpO (c, d)) (h3 : SpO (e, f)) (h4 : SpO (g, h)) : timeOf [(h, g), (f, e), (d, c), (b, a)] = timeOf [(a, b), (c, d), (e, f), (g, h)] := by
  have sw : ∀ {x y : Int}, SpO (x, y) → SpO (y, x) := fun h => ⟨h.2, h.1⟩
  rw [time4 (sp4 h1 h2 h3 h4), time4 (sp4 (sw h4) (sw h3) (sw h2) (sw h1))]
  have e1 : h + (g + e + c + a) = a + c + e + g + h := by omega
  have e2 : h + f + (e + c + a) = a + c + e + (f + h) := by omega
  have e3 : h + f + d + (c + a) = a + c + (d + f + h) := by omega
  have e4 : h + f + d + b + a = a + (b + d + f + h) := by omega
  rw [e1, e2, e3, e4]
  generalize a + c + e + g + h = s1
  generalize a + c + e + (f + h) = s2
  generalize a + c + (d + f + h) = s3
  generalize a + (b + d + f + h) = s4
  omega
theorem turn_time (l : List (Int × Int)) (hn : l.length = 4) (hl : SpOk l) (k : Nat) : timeOf (putL (trnL l) ((pileN k).reverse.map fun x => 3 - x)) = timeOf (putL l (pileN k)) := by
  obtain ⟨⟨a, b⟩, ⟨c, d⟩, ⟨e, f⟩, ⟨g, h⟩, rfl⟩ := len4 hn
  have h1 : SpO (a, b) := hl (a, b) (by simp)
  have h2 : SpO (c, d) := hl (c, d) (by simp)
  have h3 : SpO (e, f) := hl (e, f) (by simp)
  have h4 : SpO (g, h) := hl (g, h) (by simp)
  unfold pileN
  split <;> split
  · exact rev4 h2 h3 h4 h1
  · exact rev4 h4 h1 h2 h3
  · exact rev4 h3 h2 h1 h4
  · exact rev4 h1 h4 h3 h2
theorem pile_ok (k : Nat) : (pileN k).length = 4 ∧ (∀ x ∈ pileN k, 0 ≤ x ∧ x < 4) ∧ (pileN k).Nodup := by
  unfold pileN
  split <;> split <;> decide
theorem other_ok (k : Nat) : ((pileN k).reverse.map fun x => 3 - x).length = 4 ∧ (∀ x ∈ (pileN k).reverse.map fun x => 3 - x, 0 ≤ x ∧ x < 4) ∧ ((pileN k).reverse.map fun x => 3 - x).Nodup := by
  unfold pileN
  split <;> split <;> decide
theorem trn_ok {l : List (Int × Int)} (hl : SpOk l) : SpOk (trnL l) := fun p hp => by
  unfold trnL at hp
  rw [List.mem_reverse, List.mem_map] at hp
  obtain ⟨q, hq, rfl⟩ := hp
  exact ⟨(hl q hq).2, (hl q hq).1⟩
theorem trn_len (l : List (Int × Int)) : (trnL l).length = l.length := by simp [trnL]

attribute [local go_sem] okRef_tip storable_tip shaped_tip cells_tip isAgg_tip

/-! ### sheets by numbers -/
def frm (tp : Int) (zs : List Int) (i : Nat) : List (Int × Int) := (List.range i).map fun j => (zs.getD (j * 2) 0 % (tp + 1), zs.getD (j * 2 + 1) 0 % (tp + 1))
theorem frm_len (tp : Int) (zs : List Int) (i : Nat) : (frm tp zs i).length = i := by simp [frm]
theorem frm_succ (tp : Int) (zs : List Int) (i : Nat) : frm tp zs (i + 1) = frm tp zs i ++ [(zs.getD (i * 2) 0 % (tp + 1), zs.getD (i * 2 + 1) 0 % (tp + 1))] := by simp [frm, List.range_succ]
theorem frm_ok2 (tp : Int) (h : 1 ≤ tp ∧ tp ≤ 50) (zs : List Int) (i : Nat) : SpOk (frm tp zs i) := fun p hp => by
  obtain ⟨j, _, rfl⟩ := List.mem_map.1 hp
  have h1 := mod_range (zs.getD (j * 2) 0) (tp + 1) (by omega)
  have h2 := mod_range (zs.getD (j * 2 + 1) 0) (tp + 1) (by omega)
  dsimp only
  omega
theorem byte_at {zs : List Int} (h : ∀ n ∈ zs, Byte n) (i : Nat) : Byte (zs.getD i 0) := by
  rw [List.getD_eq_getElem?_getD]
  by_cases hi : i < zs.length
  · rw [List.getElem?_eq_getElem hi]; exact h _ (List.getElem_mem hi)
  · rw [List.getElem?_eq_none (by omega)]; exact ⟨by simp, by simp⟩
theorem pair_at {zs : List Int} (hz : zs.length = 16) (i : Nat) (h : i < 4) : ((zs.map B8).drop (i * 2)).take 2 = [B8 (zs.getD (i * 2) 0), B8 (zs.getD (i * 2 + 1) 0)] := by
  have h1 : i * 2 < zs.length := by omega
  have h2 : i * 2 + 1 < zs.length := by omega
  have hd : zs.drop (i * 2) = zs[i * 2] :: zs[i * 2 + 1] :: zs.drop (i * 2 + 1 + 1) := by
    rw [List.drop_eq_getElem_cons h1, List.drop_eq_getElem_cons h2]
  rw [← List.map_drop, hd, getD_of zs 0 (i * 2) h1, getD_of zs 0 (i * 2 + 1) h2]
  rfl
theorem loop24 (tp : Int) (htp : 1 ≤ tp ∧ tp ≤ 50) (zs : List Int) (hz : zs.length = 16) (hzb : ∀ x ∈ zs, Byte x) (i : Nat) (o : Option Nat) (T : List Nat) (hok : i ≤ 4 ∧ tipOk o i T) (env : Env) (st : St)
    (hg : gcAV true 1 0 (canon env [1, 7, 11, 12, 13]) st = ([(1, I tp), (7, tipX 2 o ((frm tp zs i).map spA)), (11, .rsl 0 0 4 8 2 true), (12, I 4), (13, I i)], ⟨[zs.map B8], T⟩)) :
    ∃ x_1 en s, lim (headed pure (run L) true [1, 7, 11, 12, 13] lp24_0 1 0) env st = some (x_1, en, s) ∧ (x_1 = .exit 0 ∧ ∃ o T, en.get 7 = tipX 2 o ((frm tp zs 4).map spA) ∧ tipOk o 4 T ∧ s = ⟨[zs.map B8], T⟩) := by
  refine loop_wp (α := Nat × Option Nat × List Nat) (fun ⟨i, o, T⟩ => 4 - i) (fun ⟨i, o, T⟩ => i ≤ 4 ∧ tipOk o i T) (fun ⟨i, o, T⟩ => ([(1, I tp), (7, tipX 2 o ((frm tp zs i).map spA)), (11, .rsl 0 0 4 8 2 true), (12, I 4), (13, I i)], ⟨[zs.map B8], T⟩)) (fun ⟨i, o, T⟩ x_1 en s => x_1 = .exit 0 ∧ ∃ o T, en.get 7 = tipX 2 o ((frm tp zs 4).map spA) ∧ tipOk o 4 T ∧ s = ⟨[zs.map B8], T⟩) (fun ⟨i, o, T⟩ hok => ?_) ⟨i, o, T⟩ hok env st hg
  simp only at hok
  obtain ⟨h1, k1⟩ := hok
  dsimp only at h1 k1 ⊢
  by_cases h : i < 4
  · have hs := succ64 i (by omega)
    have hlt : ((i : Int) < 4) = True := eq_true (by omega)
    have hi0 : ((0 : Int) ≤ (i : Int)) = True := eq_true (by omega)
    have hb1 : (i * 2 + 2 ≤ 16) = True := eq_true (by omega)
    have hl16 : (zs.map B8).length = 16 := by simpa using hz
    have hpair := pair_at hz i h
    have ba := byte_at hzb (i * 2)
    have bb := byte_at hzb (i * 2 + 1)
    have hf := frm_succ tp zs i
    have hfl := frm_len tp zs i
    have hfl2 := frm_len tp zs (i + 1)
    generalize zs.getD (i * 2) 0 = a at *
    generalize zs.getD (i * 2 + 1) 0 = b at *
    unfold Byte at ba bb
    have wa := wrap64 a (by omega) (by omega)
    have wb := wrap64 b (by omega) (by omega)
    have wt := wrap64 (tp + 1) (by omega) (by omega)
    have zt : (tp + 1 = 0) = False := eq_false (by omega)
    have ta : a.tmod (tp + 1) = a % (tp + 1) := Int.tmod_eq_emod_of_nonneg ba.1
    have tb : b.tmod (tp + 1) = b % (tp + 1) := Int.tmod_eq_emod_of_nonneg bb.1
    have happ := fun S => append_tipm 2 spA o (frm tp zs i) (a % (tp + 1), b % (tp + 1)) S T (by rw [hfl]; exact k1) (by omega)
    rw [← hf, hfl] at happ
    have a1 := apOk o i T (i + 1) k1 (by omega)
    have hr := ren1_tipm 0 2 (apT o T (i + 1)) [] spA (apI o T) (frm tp zs (i + 1)) (by rw [hfl2]; exact a1) (fun _ _ _ p hp => by simp at hp)
    have hre := reOk 0 (apT o T (i + 1)) [] _ (apI o T) (i + 1) a1 (Nat.zero_le _) (List.prefix_refl _)
    rw [hfl2] at hr
    simp only [go_sem, reduceIte, Nat.reduceEqDiff, Nat.reduceAdd, Nat.reduceSub, Nat.reduceLeDiff, Nat.reduceLT, reduceCtorEq, Int.reduceLT, Int.reduceLE, Int.reduceEq, Int.reduceBEq, Int.reduceSub, Int.reduceAdd, Int.reduceMul, Int.reduceNeg, Int.reduceToNat, Nat.reduceMul, Nat.reduceBEq, index_rsl_if, setm, make_ints, condK_dec, wantK_dec, not_dec, and_dec, or_dec, seqK_ite, seqK_none, blockK_ite, blockK_none, opsK_ite, opsK_none, stepK_ite, stepK_none, bodyK_ite, bodyK_none, resK_ite, resK_none, leaveK_ite, leaveK_none, only_ite, only_none, bind_ite, gives_some, gives_none, gives_ite, then_normal, then_ret, then_exit, then_none, then_ite, Option.bind_none, Bool.not_eq_true', decide_eq_false_iff_not, Bool.and_eq_true, Bool.or_eq_true, Option.some.injEq, Int.not_lt, Int.not_le, lp24_0, hlt, hs, hi0, hb1, hl16, hpair, wa, wb, wt, zt, ta, tb, happ, Int.natCast_nonneg]
    refine ⟨(i + 1, reI 0 [] (apI o T), List.take 0 (apT o T (i + 1)) ++ (reA 0 [] (apI o T) (i + 1)).map fun x => x.2), by simp only [go_sem, reduceIte, Nat.reduceEqDiff, Nat.reduceAdd, Nat.reduceSub, Nat.reduceLeDiff, Nat.reduceLT, reduceCtorEq, Int.reduceLT, Int.reduceLE, Int.reduceEq, Int.reduceBEq, Int.reduceSub, Int.reduceAdd, Int.reduceMul, Int.reduceNeg, Int.reduceToNat, Nat.reduceMul, Nat.reduceBEq, ren1_locm, loc_tips, locT_eq, hr, okRefsB, renCellsB] <;> rfl, ?_, ?_, fun x en s hq => ?_⟩
    · dsimp only; exact ⟨by omega, hre⟩
    · dsimp only; omega
    · exact hq
  · have hlt : ((i : Int) < 4) = False := eq_false (by omega)
    obtain rfl : i = 4 := by omega
    simp only [go_sem, reduceIte, Nat.reduceEqDiff, Nat.reduceAdd, Nat.reduceSub, Nat.reduceLeDiff, Nat.reduceLT, reduceCtorEq, Int.reduceLT, Int.reduceLE, Int.reduceEq, Int.reduceBEq, Int.reduceSub, Int.reduceAdd, Int.reduceMul, Int.reduceNeg, Int.reduceToNat, Nat.reduceMul, Nat.reduceBEq, index_rsl_if, setm, make_ints, condK_dec, wantK_dec, not_dec, and_dec, or_dec, seqK_ite, seqK_none, blockK_ite, blockK_none, opsK_ite, opsK_none, stepK_ite, stepK_none, bodyK_ite, bodyK_none, resK_ite, resK_none, leaveK_ite, leaveK_none, only_ite, only_none, bind_ite, gives_some, gives_none, gives_ite, then_normal, then_ret, then_exit, then_none, then_ite, Option.bind_none, Bool.not_eq_true', decide_eq_false_iff_not, Bool.and_eq_true, Bool.or_eq_true, Option.some.injEq, Int.not_lt, Int.not_le, lp24_0, hlt]
    exact ⟨o, T, rfl, k1, rfl⟩

theorem c24 (tp : Int) (htp : 1 ≤ tp ∧ tp ≤ 50) (zs : List Int) (hz : zs.length = 16) (hzb : ∀ x ∈ zs, Byte x) (st : St) :
    run L 24 [I 4, I tp, .agg (zs.map B8)] st = some (spL (frm tp zs 4), st) := by
  rw [run_pure (fn := ir24) rfl rfl]
  have hpb := pubsB zs
  have hst := storableB zs
  have hl16 : (zs.map B8).length = 16 := by simpa using hz
  have hsl : sliceaAV 8 2 true (.ptr 0 0) none (some (I 4)) none = some (.rsl 0 0 4 8 2 true) := rfl
  simp only [ir24, go_sem, reduceIte, Nat.reduceEqDiff, Nat.reduceAdd, Nat.reduceSub, Nat.reduceLeDiff, Nat.reduceLT, reduceCtorEq, Int.reduceLT, Int.reduceLE, Int.reduceEq, Int.reduceBEq, Int.reduceSub, Int.reduceAdd, Int.reduceMul, Int.reduceNeg, Int.reduceToNat, Nat.reduceMul, Nat.reduceBEq, hpb, hst, hl16, hsl]
  generalize hg : lim (headed pure (run L) true _ lp24_0 _ _) _ _ = o
  obtain ⟨x, en, s, rfl, h2⟩ : ∃ x en s, o = some (x, en, s) ∧ _ := by rw [← hg]; exact loop24 tp htp zs hz hzb 0 none [] ⟨Nat.zero_le _, rfl⟩ _ _ (by simp only [go_sem, reduceIte, Nat.reduceEqDiff, Nat.reduceAdd, Nat.reduceSub, Nat.reduceLeDiff, Nat.reduceLT, reduceCtorEq, Int.reduceLT, Int.reduceLE, Int.reduceEq, Int.reduceBEq, Int.reduceSub, Int.reduceAdd, Int.reduceMul, Int.reduceNeg, Int.reduceToNat, Nat.reduceMul, Nat.reduceBEq, Int.natCast_zero, okRefsB, renCellsB] <;> rfl)
  clear hg
  obtain ⟨rfl, o, T, g7, ho, rfl⟩ := h2
  have hf := fin_tip ⟨[zs.map B8], T⟩ 2 o ((frm tp zs 4).map spA) (T := T) (by rw [List.length_map, frm_len]; exact ho)
  rw [sl_ne (by intro e; have := congrArg List.length e; simp [frm_len] at this)] at hf
  simp only [go_sem, reduceIte, Nat.reduceEqDiff, Nat.reduceAdd, Nat.reduceSub, Nat.reduceLeDiff, Nat.reduceLT, reduceCtorEq, Int.reduceLT, Int.reduceLE, Int.reduceEq, Int.reduceBEq, Int.reduceSub, Int.reduceAdd, Int.reduceMul, Int.reduceNeg, Int.reduceToNat, Nat.reduceMul, Nat.reduceBEq, g7, hf]

/-! ### a replacer -/
def rplC (t : Nat) : List AV := [.v (.int .u32 0), .v (.int .i32 0), .v (.int .u32 0), .v .nilIface, .lst (.own t 4) 1 [.v (.string ⟨#[111]⟩), .v (.string ⟨#[117]⟩), .v (.string ⟨#[117]⟩), .v (.string ⟨#[111]⟩)]]
theorem c26 (g : Tag) (S : List (List AV)) (T : List Nat) : run L 26 [.lst g 1 [.v (.string ⟨#[111]⟩), .v (.string ⟨#[117]⟩), .v (.string ⟨#[117]⟩), .v (.string ⟨#[111]⟩)]] ⟨S, T⟩ = some (.ptr S.length 0, ⟨S ++ [rplC T.length], T ++ [4]⟩) := by
  rw [run_shared (fn := ir26) rfl rfl]
  have happ : ∀ S T, appendAV 1 (.v (.slice none 0 0)) [.v (.string ⟨#[111]⟩), .v (.string ⟨#[117]⟩), .v (.string ⟨#[117]⟩), .v (.string ⟨#[111]⟩)] ⟨S, T⟩ = some (.lst (.own T.length 4) 1 [.v (.string ⟨#[111]⟩), .v (.string ⟨#[117]⟩), .v (.string ⟨#[117]⟩), .v (.string ⟨#[111]⟩)], ⟨S, T ++ [4]⟩) := fun S T => by
    have : 4 ≤ maxGrow := by unfold maxGrow; omega
    simp [appendAV, this]
  have hm : (4 : Int).tmod 2 = 0 := rfl
  simp only [ir26, go_sem, reduceIte, Nat.reduceEqDiff, Nat.reduceAdd, Nat.reduceSub, Nat.reduceLeDiff, Nat.reduceLT, reduceCtorEq, Int.reduceLT, Int.reduceLE, Int.reduceEq, Int.reduceBEq, Int.reduceSub, Int.reduceAdd, Int.reduceMul, Int.reduceNeg, Int.reduceToNat, Nat.reduceMul, Nat.reduceBEq, happ, hm]
  rfl

attribute [local go_sem] okRef_tip storable_tip shaped_tip cells_tip isAgg_tip

set_option maxHeartbeats 1000000 in
theorem loop5 (l1 l2 : List (Int × Int)) (ps qs : List Int) (zs : List Int) (hq4 : qs.length = 4) (hqr : ∀ x ∈ qs, 0 ≤ x ∧ x < 4) (i : Nat) (o : Option Nat) (T : List Nat) (hok : i ≤ 4 ∧ tipOk o i T ∧ 1 ≤ T.length) (env : Env) (st : St)
    (hg : gcAV true 3 1 (canon env [8, 9, 13, 15, 71, 72, 73]) st = ([(8, spL l1), (9, .lst .any 1 (ps.map I)), (13, spL l2), (15, tipX 1 o (((qs.take i).map fun x => 3 - x).map I)), (71, .lst .any 1 (qs.map I)), (72, I 4), (73, I i)], ⟨[zs.map B8, [], []], T⟩)) :
    ∃ x_1 en s, lim (headed pure (run L) true [8, 9, 13, 15, 71, 72, 73] lp5_0 3 1) env st = some (x_1, en, s) ∧ (x_1 = .exit 0 ∧ ∃ o T, en.get 8 = spL l1 ∧ en.get 9 = .lst .any 1 (ps.map I) ∧ en.get 13 = spL l2 ∧ en.get 15 = tipX 1 o ((qs.map fun x => 3 - x).map I) ∧ tipOk o 4 T ∧ s = ⟨[zs.map B8, [], []], T⟩) := by
  refine loop_wp (α := Nat × Option Nat × List Nat) (fun ⟨i, o, T⟩ => 4 - i) (fun ⟨i, o, T⟩ => i ≤ 4 ∧ tipOk o i T ∧ 1 ≤ T.length) (fun ⟨i, o, T⟩ => ([(8, spL l1), (9, .lst .any 1 (ps.map I)), (13, spL l2), (15, tipX 1 o (((qs.take i).map fun x => 3 - x).map I)), (71, .lst .any 1 (qs.map I)), (72, I 4), (73, I i)], ⟨[zs.map B8, [], []], T⟩)) (fun ⟨i, o, T⟩ x_1 en s => x_1 = .exit 0 ∧ ∃ o T, en.get 8 = spL l1 ∧ en.get 9 = .lst .any 1 (ps.map I) ∧ en.get 13 = spL l2 ∧ en.get 15 = tipX 1 o ((qs.map fun x => 3 - x).map I) ∧ tipOk o 4 T ∧ s = ⟨[zs.map B8, [], []], T⟩) (fun ⟨i, o, T⟩ hok => ?_) ⟨i, o, T⟩ hok env st hg
  simp only at hok
  obtain ⟨h1, k1, k2⟩ := hok
  dsimp only at h1 k1 k2 ⊢
  by_cases h : i < 4
  · have hs := succ64 i (by omega)
    have hlt : ((i : Int) < 4) = True := eq_true (by omega)
    have hx : indexSAV 1 (.lst .any 1 (qs.map I)) (.v (.int .i64 i)) = some (.eptr (I (qs[i]'(by omega))) 0) := by simp [indexSAV, show i < qs.length by omega]
    have htl : qs.take (i + 1) = qs.take i ++ [qs[i]'(by omega)] := List.take_succ_eq_append_getElem (by omega)
    have hxr := hqr (qs[i]'(by omega)) (List.getElem_mem _)
    generalize qs[i]'(by omega) = x at *
    have hw := wrap64 (3 - x) (by omega) (by omega)
    have hput : ((qs.take (i + 1)).map fun x => 3 - x) = ((qs.take i).map fun x => 3 - x) ++ [3 - x] := by rw [htl, List.map_append]; rfl
    have hpl : ((qs.take i).map fun x => 3 - x).length = i := by simp; omega
    have hpl2 : ((qs.take (i + 1)).map fun x => 3 - x).length = i + 1 := by simp; omega
    have happ := fun S => append_tipm 1 I o ((qs.take i).map fun x => 3 - x) (3 - x) S T (by rw [hpl]; exact k1) (by omega)
    rw [← hput, hpl] at happ
    have a1 := apOk o i T (i + 1) k1 (by omega)
    have hr := ren1_tipm 1 1 (apT o T (i + 1)) [] I (apI o T) ((qs.take (i + 1)).map fun x => 3 - x) (by rw [hpl2]; exact a1) (fun _ _ _ p hp => by simp at hp)
    have hl1 : 1 ≤ (apT o T (i + 1)).length := by cases o <;> simp [apT] <;> omega
    have hre := reOk 1 (apT o T (i + 1)) [] _ (apI o T) (i + 1) a1 hl1 (List.prefix_refl _)
    rw [hpl2] at hr
    simp only [go_sem, reduceIte, Nat.reduceEqDiff, Nat.reduceAdd, Nat.reduceSub, Nat.reduceLeDiff, Nat.reduceLT, reduceCtorEq, Int.reduceLT, Int.reduceLE, Int.reduceEq, Int.reduceBEq, Int.reduceSub, Int.reduceAdd, Int.reduceMul, Int.reduceNeg, Int.reduceToNat, Nat.reduceMul, Nat.reduceBEq, index_rsl_if, setm, make_ints, condK_dec, wantK_dec, not_dec, and_dec, or_dec, seqK_ite, seqK_none, blockK_ite, blockK_none, opsK_ite, opsK_none, stepK_ite, stepK_none, bodyK_ite, bodyK_none, resK_ite, resK_none, leaveK_ite, leaveK_none, only_ite, only_none, bind_ite, gives_some, gives_none, gives_ite, then_normal, then_ret, then_exit, then_none, then_ite, Option.bind_none, Bool.not_eq_true', decide_eq_false_iff_not, Bool.and_eq_true, Bool.or_eq_true, Option.some.injEq, Int.not_lt, Int.not_le, lp5_0, hlt, hs, hx, hw, happ]
    refine ⟨(i + 1, reI 1 [] (apI o T), List.take 1 (apT o T (i + 1)) ++ (reA 1 [] (apI o T) (i + 1)).map fun x => x.2), by simp only [go_sem, reduceIte, Nat.reduceEqDiff, Nat.reduceAdd, Nat.reduceSub, Nat.reduceLeDiff, Nat.reduceLT, reduceCtorEq, Int.reduceLT, Int.reduceLE, Int.reduceEq, Int.reduceBEq, Int.reduceSub, Int.reduceAdd, Int.reduceMul, Int.reduceNeg, Int.reduceToNat, Nat.reduceMul, Nat.reduceBEq, ren1_locm, loc_tips, locT_eq, hr, okRefsB, renCellsB] <;> rfl, ?_, ?_, fun x en s hq => ?_⟩
    · dsimp only
      refine ⟨by omega, hre, ?_⟩
      rw [List.length_append, List.length_take]; omega
    · dsimp only; omega
    · exact hq
  · have hlt : ((i : Int) < 4) = False := eq_false (by omega)
    obtain rfl : i = 4 := by omega
    have ht : qs.take 4 = qs := List.take_of_length_le (by omega)
    simp only [go_sem, reduceIte, Nat.reduceEqDiff, Nat.reduceAdd, Nat.reduceSub, Nat.reduceLeDiff, Nat.reduceLT, reduceCtorEq, Int.reduceLT, Int.reduceLE, Int.reduceEq, Int.reduceBEq, Int.reduceSub, Int.reduceAdd, Int.reduceMul, Int.reduceNeg, Int.reduceToNat, Nat.reduceMul, Nat.reduceBEq, index_rsl_if, setm, make_ints, condK_dec, wantK_dec, not_dec, and_dec, or_dec, seqK_ite, seqK_none, blockK_ite, blockK_none, opsK_ite, opsK_none, stepK_ite, stepK_none, bodyK_ite, bodyK_none, resK_ite, resK_none, leaveK_ite, leaveK_none, only_ite, only_none, bind_ite, gives_some, gives_none, gives_ite, then_normal, then_ret, then_exit, then_none, then_ite, Option.bind_none, Bool.not_eq_true', decide_eq_false_iff_not, Bool.and_eq_true, Bool.or_eq_true, Option.some.injEq, Int.not_lt, Int.not_le, lp5_0, hlt, ht]
    refine ⟨o, T, ?_⟩
    simp [k1]

theorem p27f : pure 27 = false := rfl
theorem p28f : pure 28 = false := rfl
theorem str_shaped (b : ByteArray) : (AV.v (.string b)).shaped = true := rfl
theorem str_cells (b : ByteArray) : (AV.v (.string b)).cells = [.v (.string b)] := rfl
theorem str_storable (b : ByteArray) : storable (.v (.string b)) = true := rfl
theorem quo50 (t : Int) (h : Byte t) : 1 ≤ 1 + t % 50 ∧ 1 + t % 50 ≤ 50 := by
  have := mod_range t 50 (by omega); omega
set_option maxHeartbeats 4000000 in
theorem c5x (h28 : ∀ l : List (Int × Int), l.length = 4 → SpOk l → ∀ st, run L 28 [spL l] st = some (.tup [spL (trnL l), I 0], st))
    (h27 : ∀ (b : Nat) (zs : List Int), zs.length = 16 → run L 27 [.ptr 1 0, stA (foldB b)] ⟨[zs.map B8, rplC 0], [4]⟩ = some (stA (turnB (foldB b)), ⟨[zs.map B8, [], []], [4]⟩))
    (b : Int) (hb : Byte b) (t : Int) (ht : Byte t) (zs : List Int) (hz : zs.length = 16) (hzb : ∀ x ∈ zs, Byte x) (st : St) :
    run L 5 [B8 b, B8 t, .agg (zs.map B8)] st = some (.v (.bool true), st) := by
  rw [run_pure (fn := ir5) rfl rfl]
  obtain ⟨k, rfl⟩ : ∃ k : Nat, b = (k : Int) := ⟨b.toNat, by unfold Byte at hb; omega⟩
  have hk : k < 256 := by unfold Byte at hb; omega
  have hq := quo50 t ht
  have wt := wrap64 t (by unfold Byte at ht; omega) (by unfold Byte at ht; omega)
  have wm : t.tmod 50 = t % 50 := Int.tmod_eq_emod_of_nonneg (by unfold Byte at ht; omega)
  have wp := wrap64 (1 + t % 50) (by omega) (by omega)
  have wq := wrap64 (t % 50) (by omega) (by omega)
  generalize htp : 1 + t % 50 = tp at *
  have h23 := fun st => c23 k hk st
  have h24 := fun st => c24 tp hq zs hz hzb st
  have h25 := fun st => c25 k st
  have h25t := fun st => c25t k st
  have h26 : run L 26 [.lst .full 1 [.v (.string ⟨#[111]⟩), .v (.string ⟨#[117]⟩), .v (.string ⟨#[117]⟩), .v (.string ⟨#[111]⟩)]] ⟨[zs.map B8], []⟩ = some (.ptr 1 0, ⟨[zs.map B8, rplC 0], [4]⟩) := c26 .full [zs.map B8] []
  have h27' := h27 k zs hz
  have hfl := frm_len tp zs 4
  have hfo := frm_ok2 tp hq zs 4
  have h28' := fun st => h28 (frm tp zs 4) hfl hfo st
  obtain ⟨p1, p2, p3⟩ := pile_ok k
  obtain ⟨q1, q2, q3⟩ := other_ok k
  have hpr : (pileN k).reverse.length = 4 := by rw [List.length_reverse]; exact p1
  have h29 := fun st => c29 (frm tp zs 4) hfl hfo .any (pileN k) p1 p2 p3 st
  have h29t := fun g st => c29 (trnL (frm tp zs 4)) (by rw [trn_len]; exact hfl) (trn_ok hfo) g _ q1 q2 q3 st
  have htt := turn_time (frm tp zs 4) hfl hfo k
  have hpb := pubsB zs
  have hst := storableB zs
  have hl16 : (zs.map B8).length = 16 := by simpa using hz
  have h16 : List.take 16 (zs.map B8) = zs.map B8 := List.take_of_length_le (by omega)
  have htl : (trnL (frm tp zs 4)).length = 4 := by rw [trn_len]; exact hfl
  simp only [ir5, go_sem, reduceIte, Nat.reduceEqDiff, Nat.reduceAdd, Nat.reduceSub, Nat.reduceLeDiff, Nat.reduceLT, reduceCtorEq, Int.reduceLT, Int.reduceLE, Int.reduceEq, Int.reduceBEq, Int.reduceSub, Int.reduceAdd, Int.reduceMul, Int.reduceNeg, Int.reduceToNat, Nat.reduceMul, Nat.reduceBEq, hpb, hst, hl16, h16, str_shaped, str_cells, str_storable, p27f, p28f, wt, wm, wp, wq, htp, h23, h24, h25, h25t, h26, h27', h28', hfl, htl, hpr, p1, List.length_map]
  generalize hg : lim (headed pure (run L) true _ lp5_0 _ _) _ _ = o
  obtain ⟨x, en, s, rfl, h2⟩ : ∃ x en s, o = some (x, en, s) ∧ _ := by rw [← hg]; exact loop5 (frm tp zs 4) (trnL (frm tp zs 4)) (pileN k) (pileN k).reverse zs hpr (fun x hx => p2 x (List.mem_reverse.1 hx)) 0 none [4] ⟨Nat.zero_le _, rfl, by simp⟩ _ _ (by simp only [go_sem, reduceIte, Nat.reduceEqDiff, Nat.reduceAdd, Nat.reduceSub, Nat.reduceLeDiff, Nat.reduceLT, reduceCtorEq, Int.reduceLT, Int.reduceLE, Int.reduceEq, Int.reduceBEq, Int.reduceSub, Int.reduceAdd, Int.reduceMul, Int.reduceNeg, Int.reduceToNat, Nat.reduceMul, Nat.reduceBEq, Int.natCast_zero, okRefsB, renCellsB] <;> rfl)
  clear hg
  obtain ⟨rfl, o, T, g8, g9, g13, g15, ho, rfl⟩ := h2
  obtain ⟨j, rfl⟩ : ∃ j, o = some j := by
    cases o with
    | none => simp [tipOk] at ho
    | some j => exact ⟨j, rfl⟩
  have h30 := c30
  simp only [go_sem, reduceIte, Nat.reduceEqDiff, Nat.reduceAdd, Nat.reduceSub, Nat.reduceLeDiff, Nat.reduceLT, reduceCtorEq, Int.reduceLT, Int.reduceLE, Int.reduceEq, Int.reduceBEq, Int.reduceSub, Int.reduceAdd, Int.reduceMul, Int.reduceNeg, Int.reduceToNat, Nat.reduceMul, Nat.reduceBEq, g8, g9, g13, g15, tipX_some, h29, h29t, htt, h30]
end Go.Proofs.YtdnjagnechibhaaGreatDoor.Vm

namespace Go.Proofs.YtdnjagnechibhaaGreatDoor.Vm
open Go Go.Ev Go.ChangeShapes Go.WideShapes Go.ChangeAt Go.RowKit
set_option maxRecDepth 100000
attribute [local go_sem] cells_any storable_any ren1_any shaped_ptr cells_ptr storable_ptr ren1_ptr shaped_eptr cells_eptr storable_eptr ren1_eptr shaped_rsl cells_rsl storable_rsl ren1_rsl shaped_int cells_int storable_int ren1_int shaped_bool cells_bool storable_bool ren1_bool shaped_nils cells_nils storable_nils ren1_nils shaped_lst cells_lst storable_lst shaped_fn cells_fn storable_fn ren1_fn shaped_ifc cells_ifc storable_ifc ren1_ifc shaped_agg cells_agg storable_agg ren1_agg shaped_tup cells_tup storable_tup ren1_tup shaped_nif cells_nif storable_nif ren1_nif ren1_lany ren1_lfull ren1_lown len_lst len_rsl len_nil load_ptr load_eptr isRsl_lst isRsl_nil isRsl_rsl elems_nil elems_lst elems_sl isRsl_sl body_eq bodyK_normal bodyK_ret resK_some leaveK_some only_some code_skip code_exit code_ret code_ops code_seq code_cond code_block seqK_normal seqK_ret seqK_exit condK_true condK_false blockK_normal blockK_ret blockK_exit opsK_some ops_nil ops_cons wantK_true wantK_false stepK_some pubs pub pub_sl params okRef_loc storable_loc shaped_loc cells_loc isRsl_loc elems_loc len_loc untips untip untip_sl wantedAV setElems withO isAgg_v isAgg_agg isAgg_lst isAgg_ptr isAgg_fn isAgg_ifc isAgg_rsl isAgg_sl isAgg_loc List.replicate_succ List.replicate_zero opAV valAV aval avals ofVal Env.get setD canon gcAV renAll renEnv renStore renCells ren1_sl cutSt okEnv okStore okRefs okRef okRef_sl bin_int bin_bool bin_lst bin_rsl bin_nil bin_agg cellsEq cellEq isShift intOp boolOp min_int max_int beq_int bne resAV tupAV leave_eq fin_sl fin_loc fins fin_v fin_lst fin_agg fin_tup fin_fn storeAV readCells putCells cells_sl shaped_sl storable_sl fieldAddrAV len_sl goI List.getElem?_cons_zero List.getElem?_cons_succ List.getElem?_nil Option.bind_some Option.map_some List.length_cons List.length_nil List.all_cons List.all_nil Bool.and_true Bool.true_and Bool.and_false Bool.false_and and_true true_and and_false false_and Bool.false_eq_true List.set_cons_zero List.set_cons_succ List.append_nil List.nil_append List.cons_append List.take_zero List.take_succ_cons List.take_nil List.drop_zero List.drop_succ_cons List.map_cons List.map_nil decide_true decide_false beq_self_eq_true Bool.not_true Bool.not_false or_true true_or or_false false_or Nat.zero_add Nat.add_zero Nat.le_refl Nat.lt_irrefl decide_eq_true_eq eq_self_iff_true not_true_eq_false not_false_eq_true List.getD_cons_zero code_loop Nat.zero_le Nat.not_lt_zero Bool.true_beq Bool.false_beq beq_true beq_false ge_iff_le gt_iff_lt keepR keepT ownTop Lpure pus Option.map_none assert_ifc assert_nil idxA_ptr idxA_eptr idxV_agg Int.cast_ofNat_Int Nat.mul_one Nat.zero_mul Int.toNat_natCast Int.toNat_zero setParts withO2 hasKey eqnil_sl nenil_sl eqnil_loc nenil_loc map_nil_iff elemsM_nil elemsM_lst elemsM_sl elemsM_loc elemsM_rsl elemsM_agg setElemsR pubR_v pubR_rsl pubE_v pubE_rsl okRefs_ints renCells_ints

theorem cells52 : Tryz.prog.cellsOf 52 = 2 := by kernel_rfl
theorem cells53 : Tryz.prog.cellsOf 53 = 16 := by kernel_rfl
theorem sh_pairs {a : AV} (h : ShV Tryz.prog 8 53 a) : ∃ zs : List Int, a = .agg (zs.map B8) ∧ zs.length = 16 ∧ ∀ n ∈ zs, Byte n := by
  unfold ShV at h
  rw [if_pos (by unfold aggB; rw [Tryz.underlying53])] at h
  obtain ⟨cs, rfl, hs⟩ := h
  unfold Sh at hs
  simp only [Tryz.underlying53, cells53, cells52] at hs
  have hl : cs.length = 16 := by omega
  obtain ⟨zs, h1, h2, h3⟩ := all_bytes 16 cs hl (fun i hi => by
    have h4 := hs.2 (i / 2) (by omega)
    unfold Sh at h4
    simp only [Tryz.underlying52, cells52, cells5] at h4
    have h5 := h4.2 (i % 2) (by omega)
    obtain ⟨n, g1, g2⟩ := one_byte h5
    refine ⟨n, ?_, g2⟩
    rw [← g1, Nat.mul_one]
    apply List.ext_getElem?
    intro j
    simp only [List.getElem?_take, List.getElem?_drop]
    by_cases hj : j < 1
    · obtain rfl : j = 0 := by omega
      rw [if_pos (by omega), if_pos (by omega), if_pos (by omega)]
      congr 1
      omega
    · rw [if_neg hj, if_neg hj])
  exact ⟨zs, by rw [h1], h2, h3⟩
end Go.Proofs.YtdnjagnechibhaaGreatDoor.Vm
