/- What is proved: what functions of this program answer, by the evaluator. No condition. -/
import Derived.Test.YtdnjagnechibhaaGreatDoorC1
import Derived.KernelRfl
set_option linter.all false
namespace Go.Proofs.YtdnjagnechibhaaGreatDoor.Vm.Q
open Go Go.Ev Go.Proofs.YtdnjagnechibhaaGreatDoor.Vm
set_option maxRecDepth 100000
attribute [local go_sem] cells_any storable_any ren1_any shaped_ptr cells_ptr storable_ptr ren1_ptr shaped_eptr cells_eptr storable_eptr ren1_eptr shaped_rsl cells_rsl storable_rsl ren1_rsl shaped_int cells_int storable_int ren1_int shaped_bool cells_bool storable_bool ren1_bool shaped_nils cells_nils storable_nils ren1_nils shaped_lst cells_lst storable_lst shaped_fn cells_fn storable_fn ren1_fn shaped_ifc cells_ifc storable_ifc ren1_ifc shaped_agg cells_agg storable_agg ren1_agg shaped_tup cells_tup storable_tup ren1_tup shaped_nif cells_nif storable_nif ren1_nif ren1_lany ren1_lfull ren1_lown len_lst len_rsl len_nil load_ptr load_eptr isRsl_lst isRsl_nil isRsl_rsl elems_nil elems_lst elems_sl isRsl_sl body_eq bodyK_normal bodyK_ret resK_some leaveK_some only_some code_skip code_exit code_ret code_ops code_seq code_cond code_block seqK_normal seqK_ret seqK_exit condK_true condK_false blockK_normal blockK_ret blockK_exit opsK_some ops_nil ops_cons wantK_true wantK_false stepK_some pubs pub pub_sl params okRef_loc storable_loc shaped_loc cells_loc isRsl_loc elems_loc len_loc untips untip untip_sl wantedAV setElems withO isAgg_v isAgg_agg isAgg_lst isAgg_ptr isAgg_fn isAgg_ifc isAgg_rsl isAgg_sl isAgg_loc List.replicate_succ List.replicate_zero opAV valAV aval avals ofVal Env.get setD canon gcAV renAll renEnv renStore renCells ren1_sl cutSt okEnv okStore okRefs okRef okRef_sl bin_int bin_bool bin_lst bin_rsl bin_nil bin_agg cellsEq cellEq isShift intOp boolOp min_int max_int beq_int bne resAV tupAV leave_eq fin_sl fin_loc fins fin_v fin_lst fin_agg fin_tup fin_fn storeAV readCells putCells cells_sl shaped_sl storable_sl fieldAddrAV len_sl goI List.getElem?_cons_zero List.getElem?_cons_succ List.getElem?_nil Option.bind_some Option.map_some List.length_cons List.length_nil List.all_cons List.all_nil Bool.and_true Bool.true_and Bool.and_false Bool.false_and and_true true_and and_false false_and Bool.false_eq_true List.set_cons_zero List.set_cons_succ List.append_nil List.nil_append List.cons_append List.take_zero List.take_succ_cons List.take_nil List.drop_zero List.drop_succ_cons List.map_cons List.map_nil decide_true decide_false beq_self_eq_true Bool.not_true Bool.not_false or_true true_or or_false false_or Nat.zero_add Nat.add_zero Nat.le_refl Nat.lt_irrefl decide_eq_true_eq eq_self_iff_true not_true_eq_false not_false_eq_true List.getD_cons_zero code_loop Nat.zero_le Nat.not_lt_zero Bool.true_beq Bool.false_beq beq_true beq_false ge_iff_le gt_iff_lt keepR keepT ownTop Lpure pus Option.map_none assert_ifc assert_nil idxA_ptr idxA_eptr idxV_agg Int.cast_ofNat_Int Nat.mul_one Nat.zero_mul Int.toNat_natCast Int.toNat_zero setParts withO2 hasKey eqnil_sl nenil_sl eqnil_loc nenil_loc map_nil_iff elemsM_nil elemsM_lst elemsM_sl elemsM_loc elemsM_rsl elemsM_agg setElemsR pubR_v pubR_rsl pubE_v pubE_rsl okRefs_ints renCells_ints
attribute [local go_sem] okRef_tip storable_tip shaped_tip cells_tip isAgg_tip

/-! ### a library of the three functions that the primitives call -/
def fns : FuncId → Option IF := fun f => if f = 75 then some ir75 else if f = 74 then some ir74 else if f = 134 then some ir134 else none
def L : Lib := { fns := fns, pure := Vm.pure }
theorem Lpure : L.pure = Vm.pure := rfl
attribute [local go_sem] Q.Lpure
theorem loop75 (l : List (Int × Int)) (hlen : l.length ≤ 7) (hl : SpOk l) (i : Nat) (hok : i ≤ l.length) (env : Env) (st : St)
    (hg : gcAV true 0 0 (canon env [13, 14, 15]) st = ([(13, spL l), (14, I l.length), (15, I i)], ⟨[], []⟩)) :
    ∃ x_1 en s, lim (headed pure (run L) true [13, 14, 15] lp75_0 0 0) env st = some (x_1, en, s) ∧ (x_1 = .exit 1 ∧ s = ⟨[], []⟩) := by
  refine loop_wp (α := Nat) (fun i => l.length - i) (fun i => i ≤ l.length) (fun i => ([(13, spL l), (14, I l.length), (15, I i)], ⟨[], []⟩)) (fun i x_1 en s => x_1 = .exit 1 ∧ s = ⟨[], []⟩) (fun i hok => ?_) i hok env st hg
  by_cases h : i < l.length
  · have hs := succ64 i (by omega)
    have hlt : ((i : Int) < (l.length : Int)) = True := eq_true (by omega)
    have hx := index_sp l i h
    have hb := hl l[i] (List.getElem_mem h)
    generalize l[i] = p at *
    obtain ⟨a, b⟩ := p
    dsimp only at hx hb
    have n1 : (min a b < 0) = False := eq_false (by omega)
    have n2 : ((50 : Int) < max a b) = False := eq_false (by omega)
    simp only [go_sem, reduceIte, Nat.reduceEqDiff, Nat.reduceAdd, Nat.reduceSub, Nat.reduceLeDiff, Nat.reduceLT, reduceCtorEq, Int.reduceLT, Int.reduceLE, Int.reduceEq, Int.reduceBEq, Int.reduceSub, Int.reduceAdd, Int.reduceMul, Int.reduceNeg, Int.reduceToNat, Nat.reduceMul, Nat.reduceBEq, index_rsl_if, setm, make_ints, condK_dec, wantK_dec, not_dec, and_dec, or_dec, seqK_ite, seqK_none, blockK_ite, blockK_none, opsK_ite, opsK_none, stepK_ite, stepK_none, bodyK_ite, bodyK_none, resK_ite, resK_none, leaveK_ite, leaveK_none, only_ite, only_none, bind_ite, gives_some, gives_none, gives_ite, then_normal, then_ret, then_exit, then_none, then_ite, Option.bind_none, Bool.not_eq_true', decide_eq_false_iff_not, Bool.and_eq_true, Bool.or_eq_true, Option.some.injEq, Int.not_lt, Int.not_le, lp75_0, hlt, hs, hx, n1, n2]
    refine ⟨i + 1, by simp only [go_sem, reduceIte, Nat.reduceEqDiff, Nat.reduceAdd, Nat.reduceSub, Nat.reduceLeDiff, Nat.reduceLT, reduceCtorEq, Int.reduceLT, Int.reduceLE, Int.reduceEq, Int.reduceBEq, Int.reduceSub, Int.reduceAdd, Int.reduceMul, Int.reduceNeg, Int.reduceToNat, Nat.reduceMul, Nat.reduceBEq, ren1_locm, loc_tips, locT_eq] <;> rfl, ?_, ?_, fun x en s hq => ?_⟩
    all_goals first | exact hq | omega
  · have hlt : ((i : Int) < (l.length : Int)) = False := eq_false (by omega)
    simp only [go_sem, reduceIte, Nat.reduceEqDiff, Nat.reduceAdd, Nat.reduceSub, Nat.reduceLeDiff, Nat.reduceLT, reduceCtorEq, Int.reduceLT, Int.reduceLE, Int.reduceEq, Int.reduceBEq, Int.reduceSub, Int.reduceAdd, Int.reduceMul, Int.reduceNeg, Int.reduceToNat, Nat.reduceMul, Nat.reduceBEq, index_rsl_if, setm, make_ints, condK_dec, wantK_dec, not_dec, and_dec, or_dec, seqK_ite, seqK_none, blockK_ite, blockK_none, opsK_ite, opsK_none, stepK_ite, stepK_none, bodyK_ite, bodyK_none, resK_ite, resK_none, leaveK_ite, leaveK_none, only_ite, only_none, bind_ite, gives_some, gives_none, gives_ite, then_normal, then_ret, then_exit, then_none, then_ite, Option.bind_none, Bool.not_eq_true', decide_eq_false_iff_not, Bool.and_eq_true, Bool.or_eq_true, Option.some.injEq, Int.not_lt, Int.not_le, lp75_0, hlt]

theorem c75 (l : List (Int × Int)) (h1 : 1 ≤ l.length) (hlen : l.length ≤ 7) (hl : SpOk l) (st : St) : run L 75 [spL l] st = some (I 0, st) := by
  rw [run_pure (fn := ir75) rfl rfl]
  have p : ((l.length : Int) = 0) = False := eq_false (by omega)
  have q : ((7 : Int) < (l.length : Int)) = False := eq_false (by omega)
  simp only [ir75, go_sem, reduceIte, Nat.reduceEqDiff, Nat.reduceAdd, Nat.reduceSub, Nat.reduceLeDiff, Nat.reduceLT, reduceCtorEq, Int.reduceLT, Int.reduceLE, Int.reduceEq, Int.reduceBEq, Int.reduceSub, Int.reduceAdd, Int.reduceMul, Int.reduceNeg, Int.reduceToNat, Nat.reduceMul, Nat.reduceBEq, List.length_map, p, q]
  generalize hg : lim (headed pure (run L) true _ lp75_0 _ _) _ _ = o
  obtain ⟨x, en, s, rfl, h2⟩ : ∃ x en s, o = some (x, en, s) ∧ _ := by rw [← hg]; exact loop75 l hlen hl 0 (Nat.zero_le _) _ _ (by simp only [go_sem, reduceIte, Nat.reduceEqDiff, Nat.reduceAdd, Nat.reduceSub, Nat.reduceLeDiff, Nat.reduceLT, reduceCtorEq, Int.reduceLT, Int.reduceLE, Int.reduceEq, Int.reduceBEq, Int.reduceSub, Int.reduceAdd, Int.reduceMul, Int.reduceNeg, Int.reduceToNat, Nat.reduceMul, Nat.reduceBEq, Int.natCast_zero] <;> rfl)
  clear hg
  obtain ⟨rfl, rfl⟩ := h2
  simp only [go_sem, reduceIte, Nat.reduceEqDiff, Nat.reduceAdd, Nat.reduceSub, Nat.reduceLeDiff, Nat.reduceLT, reduceCtorEq, Int.reduceLT, Int.reduceLE, Int.reduceEq, Int.reduceBEq, Int.reduceSub, Int.reduceAdd, Int.reduceMul, Int.reduceNeg, Int.reduceToNat, Nat.reduceMul, Nat.reduceBEq]

abbrev R0 (t : Nat) (d : Int) : List AV := [.v (.int .u32 0), .v (.int .i32 d), .v (.int .u32 0), .v .nilIface, .lst (.own t 4) 1 [.v (.string ⟨#[111]⟩), .v (.string ⟨#[117]⟩), .v (.string ⟨#[117]⟩), .v (.string ⟨#[111]⟩)]]
abbrev R1 : List AV := [.v (.int .u32 0), .v (.int .i32 1), .v (.int .u32 0), .ifc 242 (.ptr 2 0), .v (.slice none 0 0)]
def tabB : List AV := (List.range 256).map fun (i : Nat) => .v (.int .u8 (if i = 111 then 117 else if i = 117 then 111 else (i : Int)))
theorem c74 (z0 z1 z2 z3 z4 z5 z6 z7 z8 z9 za zb zc zd ze zf : Int) : callAV L 400 74 [.ptr 1 0] ⟨[[B8 z0, B8 z1, B8 z2, B8 z3, B8 z4, B8 z5, B8 z6, B8 z7, B8 z8, B8 z9, B8 za, B8 zb, B8 zc, B8 zd, B8 ze, B8 zf], R0 0 1], [4]⟩ = some (.tup [], ⟨[[B8 z0, B8 z1, B8 z2, B8 z3, B8 z4, B8 z5, B8 z6, B8 z7, B8 z8, B8 z9, B8 za, B8 zb, B8 zc, B8 zd, B8 ze, B8 zf], R1, tabB], [4]⟩) := by kernel_rfl
end Go.Proofs.YtdnjagnechibhaaGreatDoor.Vm.Q
