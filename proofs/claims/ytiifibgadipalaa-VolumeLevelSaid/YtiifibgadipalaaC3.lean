/- What is proved: what each function of this program computes, as equations on the evaluator. No condition. -/
import Derived.Test.YtiifibgadipalaaC2
set_option linter.all false
namespace Go.Proofs.Ytiifibgadipalaa.Vm
open Go Go.Ev
set_option maxRecDepth 100000
attribute [local go_sem] cells_any storable_any ren1_any shaped_ptr cells_ptr storable_ptr ren1_ptr shaped_eptr cells_eptr storable_eptr ren1_eptr shaped_rsl cells_rsl storable_rsl ren1_rsl shaped_int cells_int storable_int ren1_int shaped_bool cells_bool storable_bool ren1_bool shaped_nils cells_nils storable_nils ren1_nils shaped_lst cells_lst storable_lst shaped_fn cells_fn storable_fn ren1_fn shaped_ifc cells_ifc storable_ifc ren1_ifc shaped_agg cells_agg storable_agg ren1_agg shaped_tup cells_tup storable_tup ren1_tup shaped_nif cells_nif storable_nif ren1_nif ren1_lany ren1_lfull ren1_lown len_lst len_rsl len_nil load_ptr load_eptr isRsl_lst isRsl_nil isRsl_rsl elems_nil elems_lst elems_sl isRsl_sl body_eq bodyK_normal bodyK_ret resK_some leaveK_some only_some code_skip code_exit code_ret code_ops code_seq code_cond code_block seqK_normal seqK_ret seqK_exit condK_true condK_false blockK_normal blockK_ret blockK_exit opsK_some ops_nil ops_cons wantK_true wantK_false stepK_some pubs pub pub_sl params okRef_loc storable_loc shaped_loc cells_loc isRsl_loc elems_loc len_loc untips untip untip_sl wantedAV setElems withO isAgg_v isAgg_agg isAgg_lst isAgg_ptr isAgg_fn isAgg_ifc isAgg_rsl isAgg_sl isAgg_loc List.replicate_succ List.replicate_zero opAV valAV aval avals ofVal Env.get setD canon gcAV renAll renEnv renStore renCells ren1_sl cutSt okEnv okStore okRefs okRef okRef_sl bin_int bin_bool bin_lst bin_rsl bin_nil bin_agg cellsEq cellEq isShift intOp boolOp min_int max_int beq_int bne resAV tupAV leave_eq fin_sl fin_loc fins fin_v fin_lst fin_agg fin_tup fin_fn storeAV readCells putCells cells_sl shaped_sl storable_sl fieldAddrAV len_sl goI List.getElem?_cons_zero List.getElem?_cons_succ List.getElem?_nil Option.bind_some Option.map_some List.length_cons List.length_nil List.all_cons List.all_nil Bool.and_true Bool.true_and Bool.and_false Bool.false_and and_true true_and and_false false_and Bool.false_eq_true List.set_cons_zero List.set_cons_succ List.append_nil List.nil_append List.cons_append List.take_zero List.take_succ_cons List.take_nil List.drop_zero List.drop_succ_cons List.map_cons List.map_nil decide_true decide_false beq_self_eq_true Bool.not_true Bool.not_false or_true true_or or_false false_or Nat.zero_add Nat.add_zero Nat.le_refl Nat.lt_irrefl decide_eq_true_eq eq_self_iff_true not_true_eq_false not_false_eq_true List.getD_cons_zero code_loop Nat.zero_le Nat.not_lt_zero Bool.true_beq Bool.false_beq beq_true beq_false ge_iff_le gt_iff_lt Lpure pus Option.map_none assert_ifc assert_nil idxA_ptr idxA_eptr idxV_agg Int.cast_ofNat_Int Nat.mul_one Nat.zero_mul Int.toNat_natCast Int.toNat_zero setParts withO2 eqnil_sl nenil_sl eqnil_loc nenil_loc map_nil_iff okRefs_ints renCells_ints

theorem cells5 : Try.prog.cellsOf 5 = 1 := by kernel_rfl
theorem cells60 : Try.prog.cellsOf 60 = 12 := by kernel_rfl
theorem cells62 : Try.prog.cellsOf 62 = 27 := by kernel_rfl

theorem one_byte {d : Nat} {bs : List AV} (h : Sh Try.prog (d + 1) 5 bs) : ∃ n, bs = [U n] ∧ Byte n := by
  simp only [Sh, Try.underlying5] at h
  obtain ⟨n, h1, h2⟩ := h
  exact ⟨n, h1, bounds_u8 h2⟩
theorem all_bytes : ∀ (bs : List AV), (∀ i, i < bs.length → ∃ n, (bs.drop i).take 1 = [U n] ∧ Byte n) → ∃ zs : List Int, bs = zs.map U ∧ zs.length = bs.length ∧ ∀ n ∈ zs, Byte n
  | [], _ => ⟨[], rfl, rfl, by simp⟩
  | b :: r, h => by
    obtain ⟨n, h1, h2⟩ := h 0 (by simp)
    simp only [List.drop_zero, List.take_succ_cons, List.take_zero, List.cons.injEq, and_true] at h1
    obtain ⟨zs, h3, h4, h5⟩ := all_bytes r fun i hi => by
      obtain ⟨n, q1, q2⟩ := h (i + 1) (by simp; omega)
      exact ⟨n, by simpa using q1, q2⟩
    exact ⟨n :: zs, by simp [h1, ← h3], by simp [h4], by simp; exact ⟨h2, h5⟩⟩
theorem sh_bytes {d : Nat} {bs : List AV} (h : Sh Try.prog (d + 2) 60 bs) : ∃ zs : List Int, bs = zs.map U ∧ zs.length = 12 ∧ ∀ n ∈ zs, Byte n := by
  unfold Sh at h
  simp only [Try.underlying60, cells60, cells5, Nat.mul_one] at h
  obtain ⟨h1, h2⟩ := h
  obtain ⟨zs, h3, h4, h5⟩ := all_bytes bs fun i hi => one_byte (h2 i (by omega))
  exact ⟨zs, h3, by omega, h5⟩

/-- A book by numbers. -/
theorem sh_shelf {a : AV} (h : ShV Try.prog 8 62 a) : ∃ s : Shelf, a = s.av ∧ s.ok := by
  unfold ShV at h
  rw [if_pos (by unfold aggB; rw [Try.underlying62])] at h
  obtain ⟨cs, rfl, hs⟩ := h
  unfold Sh at hs
  simp only [Try.underlying62, cells62] at hs
  obtain ⟨h1, h2⟩ := hs
  have f0 := h2 0 _ rfl
  have f1 := h2 1 _ rfl
  have f2 := h2 2 _ rfl
  have f3 := h2 3 _ rfl
  have f4 := h2 4 _ rfl
  simp only [List.getElem_toArray, List.getElem_cons_zero, List.getElem_cons_succ, cells5, cells60] at f0 f1 f2 f3 f4
  obtain ⟨a, e0, b0⟩ := one_byte f0
  obtain ⟨b, e1, b1⟩ := one_byte f1
  obtain ⟨c, e2, b2⟩ := one_byte f2
  obtain ⟨ls, e3, b3, c3⟩ := sh_bytes f3
  obtain ⟨ms, e4, b4, c4⟩ := sh_bytes f4
  refine ⟨⟨a, b, c, ls, ms⟩, ?_, b0, b1, b2, b3, b4, c3, c4⟩
  have hcs : cs = (cs.drop 0).take 1 ++ ((cs.drop 1).take 1 ++ ((cs.drop 2).take 1 ++ ((cs.drop 3).take 12 ++ (cs.drop 15).take 12))) := by
    have s5 : (cs.drop 15).take 12 = cs.drop 15 := List.take_of_length_le (by simp [h1])
    have s4 : (cs.drop 3).take 12 ++ cs.drop 15 = cs.drop 3 := by
      have := List.take_append_drop 12 (cs.drop 3)
      rw [List.drop_drop] at this
      exact this
    have s3 : (cs.drop 2).take 1 ++ cs.drop 3 = cs.drop 2 := by
      have := List.take_append_drop 1 (cs.drop 2)
      rw [List.drop_drop] at this
      exact this
    have s2 : (cs.drop 1).take 1 ++ cs.drop 2 = cs.drop 1 := by
      have := List.take_append_drop 1 (cs.drop 1)
      rw [List.drop_drop] at this
      exact this
    have s1 : (cs.drop 0).take 1 ++ cs.drop 1 = cs := by
      have := List.take_append_drop 1 cs
      simpa using this
    rw [s5, s4, s3, s2, s1]
  show AV.agg cs = AV.agg (Shelf.cells ⟨a, b, c, ls, ms⟩)
  rw [hcs, e0, e1, e2, e3, e4]
  rfl
end Go.Proofs.Ytiifibgadipalaa.Vm
