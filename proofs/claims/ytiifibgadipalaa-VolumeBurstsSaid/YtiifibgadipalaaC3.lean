/- What is proved: what each function of this program computes, as equations on the evaluator. No condition. -/
import Derived.Test.YtiifibgadipalaaC2
set_option linter.all false
namespace Go.Proofs.Ytiifibgadipalaa.Vm
open Go Go.Ev
set_option maxRecDepth 100000
attribute [local go_sem] cells_any storable_any ren1_any shaped_ptr cells_ptr storable_ptr ren1_ptr shaped_eptr cells_eptr storable_eptr ren1_eptr shaped_rsl cells_rsl storable_rsl ren1_rsl shaped_int cells_int storable_int ren1_int shaped_bool cells_bool storable_bool ren1_bool shaped_nils cells_nils storable_nils ren1_nils shaped_lst cells_lst storable_lst shaped_fn cells_fn storable_fn ren1_fn shaped_ifc cells_ifc storable_ifc ren1_ifc shaped_agg cells_agg storable_agg ren1_agg shaped_tup cells_tup storable_tup ren1_tup shaped_nif cells_nif storable_nif ren1_nif ren1_lany ren1_lfull ren1_lown len_lst len_rsl len_nil load_ptr load_eptr isRsl_lst isRsl_nil isRsl_rsl elems_nil elems_lst elems_sl isRsl_sl body_eq bodyK_normal bodyK_ret resK_some leaveK_some only_some code_skip code_exit code_ret code_ops code_seq code_cond code_block seqK_normal seqK_ret seqK_exit condK_true condK_false blockK_normal blockK_ret blockK_exit opsK_some ops_nil ops_cons wantK_true wantK_false stepK_some pubs pub pub_sl params okRef_loc storable_loc shaped_loc cells_loc isRsl_loc elems_loc len_loc untips untip untip_sl wantedAV setElems withO isAgg_v isAgg_agg isAgg_lst isAgg_ptr isAgg_fn isAgg_ifc isAgg_rsl isAgg_sl isAgg_loc List.replicate_succ List.replicate_zero opAV valAV aval avals ofVal Env.get setD canon gcAV renAll renEnv renStore renCells ren1_sl cutSt okEnv okStore okRefs okRef okRef_sl bin_int bin_bool bin_lst bin_rsl bin_nil bin_agg cellsEq cellEq isShift intOp boolOp min_int max_int beq_int bne resAV tupAV leave_eq fin_sl fin_loc fins fin_v fin_lst fin_agg fin_tup fin_fn storeAV readCells putCells cells_sl shaped_sl storable_sl fieldAddrAV len_sl goI List.getElem?_cons_zero List.getElem?_cons_succ List.getElem?_nil Option.bind_some Option.map_some List.length_cons List.length_nil List.all_cons List.all_nil Bool.and_true Bool.true_and Bool.and_false Bool.false_and and_true true_and and_false false_and Bool.false_eq_true List.set_cons_zero List.set_cons_succ List.append_nil List.nil_append List.cons_append List.take_zero List.take_succ_cons List.take_nil List.drop_zero List.drop_succ_cons List.map_cons List.map_nil decide_true decide_false beq_self_eq_true Bool.not_true Bool.not_false or_true true_or or_false false_or Nat.zero_add Nat.add_zero Nat.le_refl Nat.lt_irrefl decide_eq_true_eq eq_self_iff_true not_true_eq_false not_false_eq_true List.getD_cons_zero code_loop Nat.zero_le Nat.not_lt_zero Bool.true_beq Bool.false_beq beq_true beq_false ge_iff_le gt_iff_lt Lpure pus Option.map_none assert_ifc assert_nil idxA_ptr idxA_eptr idxV_agg Int.cast_ofNat_Int Nat.mul_one Nat.zero_mul Int.toNat_natCast Int.toNat_zero setParts withO2 eqnil_sl nenil_sl eqnil_loc nenil_loc map_nil_iff okRefs_ints renCells_ints

theorem check_other {arts : List (Int × Int)} {room floor : Int} (hc : check arts room floor = 0) (r f : Int) (h1 : 1 ≤ r) (h2 : r ≤ 100) (h3 : 0 ≤ f) (h4 : f ≤ r) : check arts r f = 0 := by
  unfold check at hc ⊢
  split at hc
  · omega
  · next h3 =>
    rw [if_neg h3]
    split at hc
    · omega
    · next h4 =>
      rw [if_neg h4]
      split at hc
      · next h5 => rw [if_pos h5, if_neg (by omega)]
      · next h5 => exact absurd hc h5

set_option maxHeartbeats 4000000 in
theorem c10 (s0 : Shelf) (hs : s0.ok) (steps : List Int) (hst : steps.length = 12) (hby : ∀ n ∈ steps, Byte n) (st : St) : run L 10 [s0.av, .agg (steps.map U)] st = some (B true, st) := by
  rw [run_pure (fn := ir10) rfl rfl]
  have h45 := fun st => c45 s0 hs 12 30 (by omega) (by omega) (by omega) (by omega) st
  have hck0 := made_check (s := s0) (many := 12) (lines := 30) (by omega) (by omega) (by omega) (by omega)
  have hbm := byte_getD' hs.2.2.2.2.2.2 0
  have h15 : s0.cells[15]? = some (U (s0.more.getD 0 0)) := shelf_more hs 0 (by omega)
  generalize s0.more.getD 0 0 = k at *
  generalize madeArts s0 12 30 = arts at *
  generalize madeRoom s0 12 30 = R at *
  generalize madeFloor s0 12 30 = F at *
  obtain ⟨_, _, _, q1, q2, q3, q4⟩ := check_zero hck0
  have w1 := wrap64 k (by omega) (by omega)
  have r1 := mod_range k 60 (by omega)
  have t1 : k.tmod 60 = k % 60 := Int.tmod_eq_emod_of_nonneg (by omega)
  have w2 := wrap64 (R - k % 60) (by omega) (by omega)
  have hck := check_other hck0 (max 1 (R - k % 60)) (min F (max 1 (R - k % 60))) (by omega) (by omega) (by omega) (by omega)
  have hst2 : (steps.map U).all storable = true := by simp [storable_int]
  have hpubs : pubs (steps.map U) = steps.map U := pubs_map U (fun _ => rfl) _
  have p60 : (60 : Int) ≠ 0 := by omega
  have x12 : (0 : Int) < 12 := by omega
  generalize hroom : max 1 (R - k % 60) = room at *
  generalize hfloor : min F room = floor at *
  obtain ⟨g1, g2, g3, g4⟩ := mosts_ok hck
  simp only [ir10, go_sem, reduceIte, Nat.reduceEqDiff, Nat.reduceAdd, Nat.reduceSub, Nat.reduceLeDiff, Nat.reduceLT, reduceCtorEq, Int.reduceLT, Int.reduceLE, Int.reduceEq, Int.reduceBEq, Int.reduceSub, Int.reduceAdd, Int.reduceMul, Int.reduceNeg, Int.reduceToNat, Nat.reduceMul, Nat.reduceBEq, pubs_shelf, shelf_storable, shelf_len hs, shelf_take hs, h45, hst2, hpubs, h15, w1, t1, w2, p60, x12, hroom, hfloor, List.length_map]
  generalize hg : lim (headed pure (run L) true _ lp10_0 _ _) _ _ = o
  obtain ⟨x, en, s, rfl, h2⟩ : ∃ x en s, o = some (x, en, s) ∧ _ := by rw [← hg]; exact loop10_0 s0 steps hst hby arts room floor g4 0 [] ⟨by omega, by simp, rfl, rfl⟩ _ _ (by simp only [go_sem, reduceIte, Nat.reduceEqDiff, Nat.reduceAdd, Nat.reduceSub, Nat.reduceLeDiff, Nat.reduceLT, reduceCtorEq, Int.reduceLT, Int.reduceLE, Int.reduceEq, Int.reduceBEq, Int.reduceSub, Int.reduceAdd, Int.reduceMul, Int.reduceNeg, Int.reduceToNat, Nat.reduceMul, Nat.reduceBEq, okRefs_shelf, renCells_shelf, okRefs_map U _ (fun _ => rfl), renCells_map U _ _ (fun _ _ => rfl), loc_start, locT] <;> rfl)
  clear hg
  obtain ⟨rfl, k3, k5, k6, ends, e1, e2, e3, k7, rfl⟩ := h2
  have hpos : 0 < ends.length := by
    rcases Nat.eq_zero_or_pos ends.length with h | h
    · have : ends = [] := List.eq_nil_of_length_eq_zero h
      subst this; simp [endOf] at e3; omega
    · exact h
  have hloc : loc 1 0 (ends.map I) = eAV ends := by
    unfold loc eAV
    rw [if_neg (by simp only [List.length_map]; omega), List.length_map]
  have hlocT : locT 0 (ends.map I) = [ends.length] := by
    unfold locT
    rw [if_neg (by simp only [List.length_map]; omega), List.length_map]
  rw [hloc] at k7
  rw [hlocT]
  have hce : cutErr arts room floor ends = 0 := by unfold cutErr; rw [if_pos hck, if_pos e2, if_pos (by rw [endOf_begin]; exact e3)]
  have h49 := fun st => c49 true false arts room floor hck ends (by omega) e2 st
  have h19 := fun st => c19 true false arts room floor ends (by omega) st
  have h21 := fun st => c21 true false arts room floor ends (by omega) st
  have h27 := fun st => c27 true false arts room floor ends (by omega) st
  have h29 := fun st => c29 true false arts room floor ends (by omega) st
  have h23 : ∀ st, run L 23 [bookAV true arts room floor, eAV ends, I arts.length] st = some (two (0, 2), st) := by
    intro st
    rw [arg3 (fn := ir23) rfl rfl, c23 true false arts room floor ends (by omega) arts.length st]
    unfold limitV
    rw [if_pos hce, if_pos (.inr (Int.le_refl _))]
  have hall := firstV_range (mosts arts) (fun n => decide (n > room)) 0 0 ends
  have hall2 := firstV_range (leasts arts) (fun n => decide (n > room)) 0 0 ends
  unfold mayV at h19
  unfold mustV at h21
  unfold safeErr at h29
  unfold holdsErr at h27 h29
  simp only [if_pos hce] at h19 h21 h27 h29
  have hshort : ∀ st, run L 19 [bookAV true arts room floor, .lst .any 1 ((ends.map I).take (ends.length - 1))] st = some (two (0, 5), st) := by
    intro st
    have h := c19 true false arts room floor (ends.take (ends.length - 1)) (by simp; omega) st
    have hv : mayV arts room floor (ends.take (ends.length - 1)) = (0, 5) := by
      have hlast : ends = ends.take (ends.length - 1) ++ [ends[ends.length - 1]'(by omega)] := by
        have := List.take_append_getElem (l := ends) (i := ends.length - 1) (by omega)
        rw [this, show ends.length - 1 + 1 = ends.length by omega, List.take_length]
      have hpre : ∀ (c : List Int) (b e : Int), loopErr arts.length b (c ++ [e]) = 0 → loopErr arts.length b c = 0 ∧ endOf b c < e := by
        intro c
        induction c with
        | nil => intro b e h; obtain ⟨_, _, h3, _⟩ := loopErr_cons h; exact ⟨rfl, h3⟩
        | cons x r ih =>
          intro b e h
          obtain ⟨h1, h2, h3, h4⟩ := loopErr_cons h
          obtain ⟨h5, h6⟩ := ih x e h4
          refine ⟨?_, h6⟩
          simp only [loopErr]
          rw [if_neg (by omega), if_neg (by omega)]
          exact h5
      have e2' := e2
      rw [hlast] at e2'
      obtain ⟨h5, h6⟩ := hpre _ _ _ e2'
      have h7 : ends[ends.length - 1]'(by omega) = (arts.length : Int) := by
        have := endOf_snoc 0 (ends.take (ends.length - 1)) (ends[ends.length - 1]'(by omega))
        rw [← hlast, e3] at this
        exact this.symm
      have hne : cutErr arts room floor (ends.take (ends.length - 1)) = 5 := by
        unfold cutErr
        rw [if_pos hck, if_pos h5, if_neg (by rw [endOf_begin]; omega)]
      unfold mayV
      rw [hne, if_neg (by omega)]
    rw [hv] at h
    rw [← h, ← List.map_take, sl_false]
  have hslice : sliceAV 1 (eAV ends) none (some (.v (.int .i64 ((ends.length : Int) - 1)))) none = some (.lst .any 1 ((ends.map I).take (ends.length - 1))) := by
    have q2 : natOr (ends.map I).length (some (.v (.int .i64 ((ends.length : Int) - 1)))) = some (ends.length - 1) := by simp [natOr, natOf]; omega
    have q1 : natOr 0 none = some 0 := rfl
    simp only [sliceAV, if_true, q1, q2]
    rw [if_pos (by simp)]
    have : ¬ (ends.length - 1 = ends.length) := by omega
    simp [tagSlice, this]
  have hw9 : IntKind.i64.wrap ((ends.length : Int) - 1) = (ends.length : Int) - 1 := by rw [wrap64] <;> omega
  have hlen : lenAV (eAV ends) = some (I ends.length) := by simp [lenAV, goI]
  generalize hM : firstV (mosts arts) (fun n => decide (n > room)) 0 0 ends = M at *
  generalize hK : firstV (leasts arts) (fun n => decide (n > room)) 0 0 ends = K at *
  generalize hT : firstV (leasts arts) (fun n => decide (n < floor)) 0 0 ends = T at *
  have a49 := fun a st => arg2 (f := 49) (fn := ir49) rfl rfl a ends st
  have a19 := fun a st => arg2 (f := 19) (fn := ir19) rfl rfl a ends st
  have a21 := fun a st => arg2 (f := 21) (fn := ir21) rfl rfl a ends st
  have a27 := fun a st => arg2 (f := 27) (fn := ir27) rfl rfl a ends st
  have a29 := fun a st => arg2 (f := 29) (fn := ir29) rfl rfl a ends st
  have l1 : ends.getD 0 0 = ends[0] := by simp [List.getD_eq_getElem?_getD, List.getElem?_eq_getElem hpos]
  have l2 := (loopErr_zero e2 _ (List.getElem_mem hpos)).1
  have hm : (0 ≤ M) = True ∧ (M < 0) = False ∨ (0 ≤ M) = False ∧ (M < 0) = True := by
    by_cases h : 0 ≤ M
    · exact .inl ⟨eq_true h, eq_false (by omega)⟩
    · exact .inr ⟨eq_false h, eq_true (by omega)⟩
  have hk : (0 ≤ K) = True ∧ (K < 0) = False ∨ (0 ≤ K) = False ∧ (K < 0) = True := by
    by_cases h : 0 ≤ K
    · exact .inl ⟨eq_true h, eq_false (by omega)⟩
    · exact .inr ⟨eq_false h, eq_true (by omega)⟩
  have ht : (0 ≤ T) = True ∨ (0 ≤ T) = False := by
    by_cases h : 0 ≤ T
    · exact .inl (eq_true h)
    · exact .inr (eq_false h)
  rcases hm with ⟨m1, m2⟩ | ⟨m1, m2⟩ <;> rcases hk with ⟨n1, n2⟩ | ⟨n1, n2⟩ <;> rcases ht with t | t <;>
    (simp only [m1, m2, n1, n2, t, if_true, if_false, show ¬((15 : Int) = 0) by omega] at h19 h21 h27 h29 h49
     simp only [go_sem, reduceIte, Nat.reduceEqDiff, Nat.reduceAdd, Nat.reduceSub, Nat.reduceLeDiff, Nat.reduceLT, reduceCtorEq, Int.reduceLT, Int.reduceLE, Int.reduceEq, Int.reduceBEq, Int.reduceSub, Int.reduceAdd, Int.reduceMul, Int.reduceNeg, Int.reduceToNat, Nat.reduceMul, Nat.reduceBEq, k3, k5, k6, k7, a49, a19, a21, a27, a29, h49, h19, h21, h27, h29, m1, m2, n1, n2, List.length_map]
     generalize hg : lim (headed pure (run L) true _ lp10_1 _ _) _ _ = o
     obtain ⟨x, en, s, rfl, h2⟩ : ∃ x en s, o = some (x, en, s) ∧ _ := by rw [← hg]; exact loop10_1 s0 steps arts room floor hck ends e1 e2 e3 0 0 ⟨by omega, hpos, by simp [beginOf], by rw [l1]; omega⟩ _ _ (by simp only [go_sem, reduceIte, Nat.reduceEqDiff, Nat.reduceAdd, Nat.reduceSub, Nat.reduceLeDiff, Nat.reduceLT, reduceCtorEq, Int.reduceLT, Int.reduceLE, Int.reduceEq, Int.reduceBEq, Int.reduceSub, Int.reduceAdd, Int.reduceMul, Int.reduceNeg, Int.reduceToNat, Nat.reduceMul, Nat.reduceBEq, okRefs_shelf, renCells_shelf, okRefs_map U _ (fun _ => rfl), renCells_map U _ _ (fun _ _ => rfl), k3, k5, k6, k7, beginOf] <;> rfl)
     clear hg
     obtain ⟨rfl, j5, j6, j7, rfl⟩ := h2
     simp only [go_sem, reduceIte, Nat.reduceEqDiff, Nat.reduceAdd, Nat.reduceSub, Nat.reduceLeDiff, Nat.reduceLT, reduceCtorEq, Int.reduceLT, Int.reduceLE, Int.reduceEq, Int.reduceBEq, Int.reduceSub, Int.reduceAdd, Int.reduceMul, Int.reduceNeg, Int.reduceToNat, Nat.reduceMul, Nat.reduceBEq, j5, j6, j7, h23, hlen, hw9, hslice, hshort, c17])
end Go.Proofs.Ytiifibgadipalaa.Vm

namespace Go.Proofs.Ytiifibgadipalaa.Vm
open Go Go.Ev
set_option maxRecDepth 100000
attribute [local go_sem] cells_any storable_any ren1_any shaped_ptr cells_ptr storable_ptr ren1_ptr shaped_eptr cells_eptr storable_eptr ren1_eptr shaped_rsl cells_rsl storable_rsl ren1_rsl shaped_int cells_int storable_int ren1_int shaped_bool cells_bool storable_bool ren1_bool shaped_nils cells_nils storable_nils ren1_nils shaped_lst cells_lst storable_lst shaped_fn cells_fn storable_fn ren1_fn shaped_ifc cells_ifc storable_ifc ren1_ifc shaped_agg cells_agg storable_agg ren1_agg shaped_tup cells_tup storable_tup ren1_tup shaped_nif cells_nif storable_nif ren1_nif ren1_lany ren1_lfull ren1_lown len_lst len_rsl len_nil load_ptr load_eptr isRsl_lst isRsl_nil isRsl_rsl elems_nil elems_lst elems_sl isRsl_sl body_eq bodyK_normal bodyK_ret resK_some leaveK_some only_some code_skip code_exit code_ret code_ops code_seq code_cond code_block seqK_normal seqK_ret seqK_exit condK_true condK_false blockK_normal blockK_ret blockK_exit opsK_some ops_nil ops_cons wantK_true wantK_false stepK_some pubs pub pub_sl params okRef_loc storable_loc shaped_loc cells_loc isRsl_loc elems_loc len_loc untips untip untip_sl wantedAV setElems withO isAgg_v isAgg_agg isAgg_lst isAgg_ptr isAgg_fn isAgg_ifc isAgg_rsl isAgg_sl isAgg_loc List.replicate_succ List.replicate_zero opAV valAV aval avals ofVal Env.get setD canon gcAV renAll renEnv renStore renCells ren1_sl cutSt okEnv okStore okRefs okRef okRef_sl bin_int bin_bool bin_lst bin_rsl bin_nil bin_agg cellsEq cellEq isShift intOp boolOp min_int max_int beq_int bne resAV tupAV leave_eq fin_sl fin_loc fins fin_v fin_lst fin_agg fin_tup fin_fn storeAV readCells putCells cells_sl shaped_sl storable_sl fieldAddrAV len_sl goI List.getElem?_cons_zero List.getElem?_cons_succ List.getElem?_nil Option.bind_some Option.map_some List.length_cons List.length_nil List.all_cons List.all_nil Bool.and_true Bool.true_and Bool.and_false Bool.false_and and_true true_and and_false false_and Bool.false_eq_true List.set_cons_zero List.set_cons_succ List.append_nil List.nil_append List.cons_append List.take_zero List.take_succ_cons List.take_nil List.drop_zero List.drop_succ_cons List.map_cons List.map_nil decide_true decide_false beq_self_eq_true Bool.not_true Bool.not_false or_true true_or or_false false_or Nat.zero_add Nat.add_zero Nat.le_refl Nat.lt_irrefl decide_eq_true_eq eq_self_iff_true not_true_eq_false not_false_eq_true List.getD_cons_zero code_loop Nat.zero_le Nat.not_lt_zero Bool.true_beq Bool.false_beq beq_true beq_false ge_iff_le gt_iff_lt Lpure pus Option.map_none assert_ifc assert_nil idxA_ptr idxA_eptr idxV_agg Int.cast_ofNat_Int Nat.mul_one Nat.zero_mul Int.toNat_natCast Int.toNat_zero setParts withO2 eqnil_sl nenil_sl eqnil_loc nenil_loc map_nil_iff okRefs_ints renCells_ints
theorem sh_twelve {a : AV} (h : ShV Try.prog 8 60 a) : ∃ zs : List Int, a = .agg (zs.map U) ∧ zs.length = 12 ∧ ∀ n ∈ zs, Byte n := by
  unfold ShV at h
  rw [if_pos (by unfold aggB; rw [Try.underlying60])] at h
  obtain ⟨cs, rfl, hs⟩ := h
  obtain ⟨zs, rfl, h1, h2⟩ := sh_bytes hs
  exact ⟨zs, rfl, h1, h2⟩
end Go.Proofs.Ytiifibgadipalaa.Vm
