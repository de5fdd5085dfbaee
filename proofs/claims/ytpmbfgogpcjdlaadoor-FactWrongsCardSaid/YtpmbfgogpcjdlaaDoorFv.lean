/- What is proved: what functions of this program answer, by the evaluator. No condition. -/
import Derived.Test.YtpmbfgogpcjdlaaDoorF1
import Derived.WalkKit
import Derived.ProofKit
import Derived.OpenShut
set_option linter.all false
namespace Go.Proofs.YtpmbfgogpcjdlaaDoor.Vm
open Go Go.Ev Go.ChangeShapes Go.WideShapes Go.ChangeAt Go.RowKit
set_option maxRecDepth 100000
attribute [local go_sem] cells_any storable_any ren1_any shaped_ptr cells_ptr storable_ptr ren1_ptr shaped_eptr cells_eptr storable_eptr ren1_eptr shaped_rsl cells_rsl storable_rsl ren1_rsl shaped_int cells_int storable_int ren1_int shaped_bool cells_bool storable_bool ren1_bool shaped_nils cells_nils storable_nils ren1_nils shaped_lst cells_lst storable_lst shaped_fn cells_fn storable_fn ren1_fn shaped_ifc cells_ifc storable_ifc ren1_ifc shaped_agg cells_agg storable_agg ren1_agg shaped_tup cells_tup storable_tup ren1_tup shaped_nif cells_nif storable_nif ren1_nif ren1_lany ren1_lfull ren1_lown len_lst len_rsl len_nil load_ptr load_eptr isRsl_lst isRsl_nil isRsl_rsl elems_nil elems_lst elems_sl isRsl_sl body_eq bodyK_normal bodyK_ret resK_some leaveK_some only_some code_skip code_exit code_ret code_ops code_seq code_cond code_block seqK_normal seqK_ret seqK_exit condK_true condK_false blockK_normal blockK_ret blockK_exit opsK_some ops_nil ops_cons wantK_true wantK_false stepK_some pubs pub pub_sl params okRef_loc storable_loc shaped_loc cells_loc isRsl_loc elems_loc len_loc untips untip untip_sl wantedAV setElems withO isAgg_v isAgg_agg isAgg_lst isAgg_ptr isAgg_fn isAgg_ifc isAgg_rsl isAgg_sl isAgg_loc List.replicate_succ List.replicate_zero opAV valAV aval avals ofVal Env.get setD canon gcAV renAll renEnv renStore renCells ren1_sl cutSt okEnv okStore okRefs okRef okRef_sl bin_int bin_bool bin_lst bin_rsl bin_nil bin_agg cellsEq cellEq isShift intOp boolOp min_int max_int beq_int bne resAV tupAV leave_eq fin_sl fin_loc fins fin_v fin_lst fin_agg fin_tup fin_fn storeAV readCells putCells cells_sl shaped_sl storable_sl fieldAddrAV len_sl goI List.getElem?_cons_zero List.getElem?_cons_succ List.getElem?_nil Option.bind_some Option.map_some List.length_cons List.length_nil List.all_cons List.all_nil Bool.and_true Bool.true_and Bool.and_false Bool.false_and and_true true_and and_false false_and Bool.false_eq_true List.set_cons_zero List.set_cons_succ List.append_nil List.nil_append List.cons_append List.take_zero List.take_succ_cons List.take_nil List.drop_zero List.drop_succ_cons List.map_cons List.map_nil decide_true decide_false beq_self_eq_true Bool.not_true Bool.not_false or_true true_or or_false false_or Nat.zero_add Nat.add_zero Nat.le_refl Nat.lt_irrefl decide_eq_true_eq eq_self_iff_true not_true_eq_false not_false_eq_true List.getD_cons_zero code_loop Nat.zero_le Nat.not_lt_zero Bool.true_beq Bool.false_beq beq_true beq_false ge_iff_le gt_iff_lt Lpure pus Option.map_none assert_ifc assert_nil idxA_ptr idxA_eptr idxV_agg Int.cast_ofNat_Int Nat.mul_one Nat.zero_mul Int.toNat_natCast Int.toNat_zero setParts withO2 hasKey eqnil_sl nenil_sl eqnil_loc nenil_loc map_nil_iff okRefs_ints renCells_ints

/-- A list of numbers. -/
theorem sh_ints {d : Nat} {t e : TypeId} {a : AV} (ht : Tryd.prog.underlying t = some (.slice e)) (he : Tryd.prog.underlying e = some (.int .i64)) (hc : Tryd.prog.cellsOf e = 1) (h : Sh Tryd.prog (d + 2) t [a]) :
    ∃ (nl : Bool) (zs : List Int), a = sl 1 nl (zs.map I) ∧ (zs.length : Int) ≤ maxLen ∧ ∀ n ∈ zs, (Lit.int .i64 n).wf = true := by
  rcases sh_slice ht h with rfl | ⟨xs, rfl, hl, hx⟩
  · exact ⟨true, [], rfl, by simp, by simp⟩
  · obtain ⟨zs, rfl, h2, h3⟩ := map_of_forall (f := I) (R := fun n => (Lit.int .i64 n).wf = true) xs (fun x hm => sh_int he (hx x hm))
    exact ⟨false, zs, by rw [hc, ← sl_false], by simp at hl; omega, h3⟩
/-- A list of pairs. -/
theorem sh_pair {d : Nat} {t : TypeId} {a : AV} (hag : aggB Tryd.prog t = true) (h : ∀ cs, Sh Tryd.prog d t cs → ∃ x y, cs = [I x, I y] ∧ (Lit.int .i64 x).wf = true ∧ (Lit.int .i64 y).wf = true) (ha : ShV Tryd.prog d t a) :
    ∃ p : Int × Int, a = prAV p ∧ (Lit.int .i64 p.1).wf = true ∧ (Lit.int .i64 p.2).wf = true := by
  unfold ShV at ha
  rw [if_pos hag] at ha
  obtain ⟨cs, rfl, hs⟩ := ha
  obtain ⟨x, y, rfl, h1, h2⟩ := h cs hs
  exact ⟨(x, y), rfl, h1, h2⟩
theorem sh_pairs {d : Nat} {t e : TypeId} {a : AV} (ht : Tryd.prog.underlying t = some (.slice e)) (hag : aggB Tryd.prog e = true) (hc : Tryd.prog.cellsOf e = 2)
    (hp : ∀ cs, Sh Tryd.prog d e cs → ∃ x y, cs = [I x, I y] ∧ (Lit.int .i64 x).wf = true ∧ (Lit.int .i64 y).wf = true) (h : Sh Tryd.prog (d + 1) t [a]) :
    ∃ (nl : Bool) (ps : List (Int × Int)), a = sl 2 nl (ps.map prAV) ∧ (ps.length : Int) ≤ maxLen ∧ ∀ p ∈ ps, (Lit.int .i64 p.1).wf = true ∧ (Lit.int .i64 p.2).wf = true := by
  rcases sh_slice ht h with rfl | ⟨xs, rfl, hl, hx⟩
  · exact ⟨true, [], rfl, by simp, by simp⟩
  · obtain ⟨zs, rfl, h2, h3⟩ := map_of_forall (f := prAV) (R := fun p => (Lit.int .i64 p.1).wf = true ∧ (Lit.int .i64 p.2).wf = true) xs (fun x hm => sh_pair hag hp (hx x hm))
    exact ⟨false, zs, by rw [hc, ← sl_false], by simp at hl; omega, h3⟩
theorem len_two {α : Type} {l : List α} (h : l.length = 2) : ∃ a b, l = [a, b] := by
  match l, h with
  | [a, b], _ => exact ⟨a, b, rfl⟩

theorem cells3 : Tryd.prog.cellsOf 3 = 1 := by kernel_rfl
theorem cells22 : Tryd.prog.cellsOf 22 = 1 := by kernel_rfl
theorem cells24 : Tryd.prog.cellsOf 24 = 2 := by kernel_rfl
theorem cells63 : Tryd.prog.cellsOf 63 = 2 := by kernel_rfl

theorem one_int {d : Nat} {a : AV} (h : Sh Tryd.prog (d + 1) 3 [a]) : ∃ n, a = I n ∧ (Lit.int .i64 n).wf = true := by
  simp only [Sh, Tryd.underlying3, List.cons.injEq, and_true] at h
  exact h
theorem sh_two {d : Nat} (cs : List AV) (h : Sh Tryd.prog (d + 2) 63 cs) : ∃ x y, cs = [I x, I y] ∧ (Lit.int .i64 x).wf = true ∧ (Lit.int .i64 y).wf = true := by
  unfold Sh at h
  simp only [Tryd.underlying63, cells63, cells3] at h
  obtain ⟨h1, h2⟩ := h
  obtain ⟨a, b, rfl⟩ := len_two h1
  have f0 := h2 0 (by omega)
  have f1 := h2 1 (by omega)
  simp only [Nat.zero_mul, Nat.one_mul, List.drop_zero, List.take_succ_cons, List.take_zero, List.drop_succ_cons] at f0 f1
  obtain ⟨x, rfl, hx⟩ := one_int f0
  obtain ⟨y, rfl, hy⟩ := one_int f1
  exact ⟨x, y, rfl, hx, hy⟩

/-- A book. -/
theorem sh_book {a : AV} (h : ShV Tryd.prog 8 24 a) : ∃ (nl : Bool) (n : Int) (ps : List (Int × Int)), a = bkAV nl n ps ∧ (ps.length : Int) ≤ maxLen ∧ (∀ p ∈ ps, (Lit.int .i64 p.1).wf = true ∧ (Lit.int .i64 p.2).wf = true) ∧ (Lit.int .i64 n).wf = true := by
  unfold ShV at h
  rw [if_pos (by unfold aggB; rw [Tryd.underlying24])] at h
  obtain ⟨cs, rfl, hs⟩ := h
  unfold Sh at hs
  simp only [Tryd.underlying24, cells24] at hs
  obtain ⟨h1, h2⟩ := hs
  obtain ⟨a, b, rfl⟩ := len_two h1
  have f0 := h2 0 _ rfl
  have f1 := h2 1 _ rfl
  simp only [List.getElem_toArray, List.getElem_cons_zero, List.getElem_cons_succ, cells3, cells22, List.drop_zero, List.take_succ_cons, List.take_zero, List.drop_succ_cons] at f0 f1
  obtain ⟨x, rfl, hx⟩ := one_int f0
  obtain ⟨nl, ps, rfl, hl, hp⟩ := sh_pairs Tryd.underlying22 (by unfold aggB; rw [Tryd.underlying63]) cells63 (fun cs h => sh_two cs h) f1
  exact ⟨nl, x, ps, rfl, hl, hp, hx⟩
theorem sh_list {a : AV} (h : ShV Tryd.prog 8 25 a) : ∃ (nl : Bool) (zs : List Int), a = sl 1 nl (zs.map I) ∧ (zs.length : Int) ≤ maxLen ∧ ∀ n ∈ zs, (Lit.int .i64 n).wf = true := by
  unfold ShV at h
  rw [if_neg (by unfold aggB; rw [Tryd.underlying25]; simp)] at h
  exact sh_ints Tryd.underlying25 Tryd.underlying3 cells3 h
end Go.Proofs.YtpmbfgogpcjdlaaDoor.Vm
