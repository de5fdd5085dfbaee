/- What is proved: what each function of this program computes, as equations on the evaluator. No condition. -/
import Derived.Test.YtpmbfgogpcjdlaaDoorC1
import Derived.Test.YtpmbfgogpcjdlaaDoorFkx
set_option linter.all false
namespace Go.Proofs.YtpmbfgogpcjdlaaDoor.Vm
open Go Go.Ev
set_option maxRecDepth 100000
attribute [local go_sem] cells_any storable_any ren1_any shaped_ptr cells_ptr storable_ptr ren1_ptr shaped_eptr cells_eptr storable_eptr ren1_eptr shaped_rsl cells_rsl storable_rsl ren1_rsl shaped_int cells_int storable_int ren1_int shaped_bool cells_bool storable_bool ren1_bool shaped_nils cells_nils storable_nils ren1_nils shaped_lst cells_lst storable_lst shaped_fn cells_fn storable_fn ren1_fn shaped_ifc cells_ifc storable_ifc ren1_ifc shaped_agg cells_agg storable_agg ren1_agg shaped_tup cells_tup storable_tup ren1_tup shaped_nif cells_nif storable_nif ren1_nif ren1_lany ren1_lfull ren1_lown len_lst len_rsl len_nil load_ptr load_eptr isRsl_lst isRsl_nil isRsl_rsl elems_nil elems_lst elems_sl isRsl_sl body_eq bodyK_normal bodyK_ret resK_some leaveK_some only_some code_skip code_exit code_ret code_ops code_seq code_cond code_block seqK_normal seqK_ret seqK_exit condK_true condK_false blockK_normal blockK_ret blockK_exit opsK_some ops_nil ops_cons wantK_true wantK_false stepK_some pubs pub pub_sl params okRef_loc storable_loc shaped_loc cells_loc isRsl_loc elems_loc len_loc untips untip untip_sl wantedAV setElems withO isAgg_v isAgg_agg isAgg_lst isAgg_ptr isAgg_fn isAgg_ifc isAgg_rsl isAgg_sl isAgg_loc List.replicate_succ List.replicate_zero opAV valAV aval avals ofVal Env.get setD canon gcAV renAll renEnv renStore renCells ren1_sl cutSt okEnv okStore okRefs okRef okRef_sl bin_int bin_bool bin_lst bin_rsl bin_nil bin_agg cellsEq cellEq isShift intOp boolOp min_int max_int beq_int bne resAV tupAV leave_eq fin_sl fin_loc fins fin_v fin_lst fin_agg fin_tup fin_fn storeAV readCells putCells cells_sl shaped_sl storable_sl fieldAddrAV len_sl goI List.getElem?_cons_zero List.getElem?_cons_succ List.getElem?_nil Option.bind_some Option.map_some List.length_cons List.length_nil List.all_cons List.all_nil Bool.and_true Bool.true_and Bool.and_false Bool.false_and and_true true_and and_false false_and Bool.false_eq_true List.set_cons_zero List.set_cons_succ List.append_nil List.nil_append List.cons_append List.take_zero List.take_succ_cons List.take_nil List.drop_zero List.drop_succ_cons List.map_cons List.map_nil decide_true decide_false beq_self_eq_true Bool.not_true Bool.not_false or_true true_or or_false false_or Nat.zero_add Nat.add_zero Nat.le_refl Nat.lt_irrefl decide_eq_true_eq eq_self_iff_true not_true_eq_false not_false_eq_true List.getD_cons_zero code_loop Nat.zero_le Nat.not_lt_zero Bool.true_beq Bool.false_beq beq_true beq_false ge_iff_le gt_iff_lt keepR keepT ownTop Lpure pus Option.map_none assert_ifc assert_nil idxA_ptr idxA_eptr idxV_agg Int.cast_ofNat_Int Nat.mul_one Nat.zero_mul Int.toNat_natCast Int.toNat_zero setParts withO2 hasKey eqnil_sl nenil_sl eqnil_loc nenil_loc map_nil_iff elemsM_nil elemsM_lst elemsM_sl elemsM_loc elemsM_rsl elemsM_agg setElemsR pubR_v pubR_rsl pubE_v pubE_rsl okRefs_ints renCells_ints

/-! ### a list from which one pair is taken out, in place -/
def dlL (o : List (Int × Int)) (i j : Nat) : List (Int × Int) := (o.eraseIdx i).take (j - 1) ++ o.drop (j - 1)
theorem dlL_start (o : List (Int × Int)) (i : Nat) (h : i < o.length) : dlL o i (i + 1) = o := by
  unfold dlL
  rw [Nat.add_sub_cancel, List.eraseIdx_eq_take_drop_succ, List.take_append_of_le_length (by rw [List.length_take]; omega), List.take_take, Nat.min_self, List.take_append_drop]
theorem er_len (o : List (Int × Int)) (i : Nat) (h : i < o.length) : (o.eraseIdx i).length = o.length - 1 := by
  rw [List.length_eraseIdx, if_pos h]
theorem dlL_len (o : List (Int × Int)) (i j : Nat) (h : i < j) (hj : j ≤ o.length) : (dlL o i j).length = o.length := by
  have := er_len o i (by omega)
  unfold dlL
  rw [List.length_append, List.length_take, List.length_drop]
  omega
theorem dlL_get (o : List (Int × Int)) (i j : Nat) (h : i < j) (hj : j < o.length) : (dlL o i j)[j]? = some o[j] := by
  have := er_len o i (by omega)
  unfold dlL
  rw [List.getElem?_append_right (by rw [List.length_take]; omega), List.length_take, List.getElem?_drop]
  rw [show j - 1 + (j - min (j - 1) (o.eraseIdx i).length) = j by omega]
  exact List.getElem?_eq_getElem hj
theorem dlL_step (o : List (Int × Int)) (i m : Nat) (h : i ≤ m) (hj : m + 1 < o.length) : (dlL o i (m + 1)).set m (o[m + 1].1, o[m + 1].2) = dlL o i (m + 1 + 1) := by
  have hl := er_len o i (by omega)
  have hd : o.drop m = o[m] :: o.drop (m + 1) := List.drop_eq_getElem_cons (by omega)
  have ht : (o.eraseIdx i).take (m + 1) = (o.eraseIdx i).take m ++ [(o.eraseIdx i)[m]'(by omega)] := List.take_succ_eq_append_getElem (by omega)
  have he : (o.eraseIdx i)[m]'(by omega) = o[m + 1] := List.getElem_eraseIdx_of_ge (by omega) h
  unfold dlL
  simp only [Nat.add_sub_cancel]
  rw [ht, he, hd, List.set_append_right _ _ (by rw [List.length_take]; omega), List.length_take, show m - min m (o.eraseIdx i).length = 0 by omega, List.set_cons_zero, List.append_assoc, List.singleton_append]
theorem dlL_end (o : List (Int × Int)) (i k : Nat) (h : i < k) (hk : o.length = k) : (dlL o i k).set (k - 1) (0, 0) = o.eraseIdx i ++ [(0, 0)] := by
  have hl := er_len o i (by omega)
  have hd : o.drop (k - 1) = o[k - 1] :: o.drop (k - 1 + 1) := List.drop_eq_getElem_cons (by omega)
  unfold dlL
  rw [hd, List.set_append_right _ _ (by rw [List.length_take]; omega), List.length_take, show k - 1 - min (k - 1) (o.eraseIdx i).length = 0 by omega, List.set_cons_zero, List.take_of_length_le (by omega), List.drop_eq_nil_of_le (by omega)]
theorem pubs_prC' : ∀ o : List (Int × Int), pubs (prC o) = prC o
  | [] => rfl
  | p :: r => by rw [prC_cons, pubs, pubs, pubs_prC' r]; rfl
theorem group_tk : ∀ (o : List (Int × Int)) (m : Nat), m ≤ o.length → group true 2 m (prC o) = (o.take m).map prAV
  | o, 0, _ => by rw [group, List.take_zero]; rfl
  | [], m + 1, h => by simp at h
  | p :: r, m + 1, h => by
    rw [prC_cons, List.take_succ_cons, List.map_cons, group, if_pos rfl]
    congr 1
    exact group_tk r m (by simpa using h)
/-- The first pairs of a block, written no more. -/
theorem frz_cut (l : Nat) (o : List (Int × Int)) (m k : Nat) (h : m ≤ o.length) (hk : m ≤ k) : frzV l (prC o) (.rsl l 0 m k 2 true) = sl 2 false ((o.take m).map prAV) := by
  simp only [frzV, List.drop_zero]
  rw [if_pos ⟨trivial, by rw [prC_len]; omega, .inl trivial, hk⟩, pubs_prC', group_tk o m h, sl_false]


/-! ### the place of a pair in a block -/
theorem c59 (u v : Int) (p : Int × Int) (b : Nat) (st : St) (hb : st.store[b]? = some [I p.1, I p.2]) : run L 59 [.agg [I u, I v], .ptr b 0] st = some (B (decide ((u, v) = p)), ⟨st.store ++ [[I u, I v]], st.tips⟩) := by
  rw [run_shared (fn := ir59) rfl rfl]
  have hl2 : (st.store ++ [[I u, I v]])[b]? = some [I p.1, I p.2] := by rw [List.getElem?_append_left (by have := List.getElem?_eq_some_iff.1 hb; exact this.1)]; exact hb
  have hn : (st.store ++ [[I u, I v]])[st.store.length]? = some [I u, I v] := by simp
  obtain ⟨x, y⟩ := p
  simp only at hb hl2 ⊢
  by_cases e1 : u = x
  · subst e1
    by_cases e2 : v = y
    · subst e2
      simp only [ir59, go_sem, reduceIte, Nat.reduceEqDiff, Nat.reduceAdd, Nat.reduceSub, Nat.reduceLeDiff, Nat.reduceLT, reduceCtorEq, Int.reduceLT, Int.reduceLE, Int.reduceEq, Int.reduceBEq, Int.reduceSub, Int.reduceAdd, Int.reduceMul, Int.reduceNeg, Int.reduceToNat, Nat.reduceMul, Nat.reduceBEq, loadAV, hl2, hn, Prod.mk.injEq]
    · simp only [ir59, go_sem, reduceIte, Nat.reduceEqDiff, Nat.reduceAdd, Nat.reduceSub, Nat.reduceLeDiff, Nat.reduceLT, reduceCtorEq, Int.reduceLT, Int.reduceLE, Int.reduceEq, Int.reduceBEq, Int.reduceSub, Int.reduceAdd, Int.reduceMul, Int.reduceNeg, Int.reduceToNat, Nat.reduceMul, Nat.reduceBEq, loadAV, hl2, hn, e2, Prod.mk.injEq]
  · simp only [ir59, go_sem, reduceIte, Nat.reduceEqDiff, Nat.reduceAdd, Nat.reduceSub, Nat.reduceLeDiff, Nat.reduceLT, reduceCtorEq, Int.reduceLT, Int.reduceLE, Int.reduceEq, Int.reduceBEq, Int.reduceSub, Int.reduceAdd, Int.reduceMul, Int.reduceNeg, Int.reduceToNat, Nat.reduceMul, Nat.reduceBEq, loadAV, hl2, hn, e1, Prod.mk.injEq]

theorem loop95x (S0 : List (List AV)) (T : List Nat) (l b : Nat) (o : List (Int × Int)) (hlen : o.length < 1000000) (hl : S0[l]? = some (prC o)) (p : Int × Int) (hb : S0[b]? = some [I p.1, I p.2]) (lo hi : Nat) (i : Nat) (junk : List (List AV)) (hok : i ≤ o.length) (env : Env) (st : St)
    (hg : gcAV false lo hi (canon env [0, 1, 7, 8]) st = ([(0, .rsl l 0 o.length o.length 2 true), (1, .fn (.func 59) [] [.ptr b 0]), (7, I o.length), (8, I i)], ⟨S0 ++ junk, T⟩)) :
    ∃ x_1 en s, lim (headed pure (run L) false [0, 1, 7, 8] lp95_0 lo hi) env st = some (x_1, en, s) ∧ ((∃ j, s = ⟨S0 ++ j, T⟩) ∧ ((x_1 = .exit 0 ∧ (o.drop i).findIdx? (fun q => decide (q = p)) = none) ∨ (x_1 = .ret ∧ ∃ k : Nat, (o.drop i).findIdx? (fun q => decide (q = p)) = some k ∧ en.get 4 = I ((i + k : Nat) : Int)))) := by
  refine loop_wp (α := Nat × List (List AV)) (fun ⟨i, junk⟩ => o.length - i) (fun ⟨i, junk⟩ => i ≤ o.length) (fun ⟨i, junk⟩ => ([(0, .rsl l 0 o.length o.length 2 true), (1, .fn (.func 59) [] [.ptr b 0]), (7, I o.length), (8, I i)], ⟨S0 ++ junk, T⟩)) (fun ⟨i, junk⟩ x_1 en s => (∃ j, s = ⟨S0 ++ j, T⟩) ∧ ((x_1 = .exit 0 ∧ (o.drop i).findIdx? (fun q => decide (q = p)) = none) ∨ (x_1 = .ret ∧ ∃ k : Nat, (o.drop i).findIdx? (fun q => decide (q = p)) = some k ∧ en.get 4 = I ((i + k : Nat) : Int)))) (fun ⟨i, junk⟩ hok => ?_) ⟨i, junk⟩ hok env st hg
  simp only at hok
  have hl2 : (S0 ++ junk)[l]? = some (prC o) := by rw [List.getElem?_append_left (List.getElem?_eq_some_iff.1 hl).1]; exact hl
  have hb2 : (S0 ++ junk)[b]? = some [I p.1, I p.2] := by rw [List.getElem?_append_left (List.getElem?_eq_some_iff.1 hb).1]; exact hb
  dsimp only
  by_cases h : i < o.length
  · have hs := succ64 i (by omega)
    have hd : o.drop i = o[i] :: o.drop (i + 1) := List.drop_eq_getElem_cons h
    have a1 := prC_at o i o[i] (List.getElem?_eq_getElem h)
    have hXl := prC_len o
    have hlt : ((i : Int) < (o.length : Int)) = True := eq_true (by omega)
    have b0 : ((0 : Int) ≤ (i : Int)) = True := eq_true (by omega)
    have b4 : (i * 2 + 2 ≤ o.length * 2) = True := eq_true (by omega)
    have h59 := c59 o[i].1 o[i].2 p b ⟨S0 ++ junk, T⟩ hb2
    rw [hd, List.findIdx?_cons]
    generalize o[i] = q at *
    obtain ⟨u, v⟩ := q
    simp only at a1 h59
    by_cases e : (u, v) = p
    · have he : decide ((u, v) = p) = true := decide_eq_true e
      rw [he] at h59
      simp only [he, if_true]
      simp only [go_sem, reduceIte, Nat.reduceEqDiff, Nat.reduceAdd, Nat.reduceSub, Nat.reduceLeDiff, Nat.reduceLT, reduceCtorEq, Int.reduceLT, Int.reduceLE, Int.reduceEq, Int.reduceBEq, Int.reduceSub, Int.reduceAdd, Int.reduceMul, Int.reduceNeg, Int.reduceToNat, Nat.reduceMul, Nat.reduceBEq, index_rsl_if, setm, make_ints, condK_dec, wantK_dec, not_dec, and_dec, or_dec, seqK_ite, seqK_none, blockK_ite, blockK_none, opsK_ite, opsK_none, stepK_ite, stepK_none, bodyK_ite, bodyK_none, resK_ite, resK_none, leaveK_ite, leaveK_none, only_ite, only_none, bind_ite, gives_some, gives_none, gives_ite, then_normal, then_ret, then_exit, then_none, then_ite, Option.bind_none, Bool.not_eq_true', decide_eq_false_iff_not, Bool.and_eq_true, Bool.or_eq_true, Option.some.injEq, Int.not_lt, Int.not_le, lp95_0, hl2, a1, hXl, hlt, b0, b4, h59, show pure 59 = false from rfl, List.append_assoc]
      exact ⟨⟨_, rfl⟩, 0, rfl, rfl⟩
    · have he : decide ((u, v) = p) = false := decide_eq_false e
      rw [he] at h59
      simp only [he]
      simp only [go_sem, reduceIte, Nat.reduceEqDiff, Nat.reduceAdd, Nat.reduceSub, Nat.reduceLeDiff, Nat.reduceLT, reduceCtorEq, Int.reduceLT, Int.reduceLE, Int.reduceEq, Int.reduceBEq, Int.reduceSub, Int.reduceAdd, Int.reduceMul, Int.reduceNeg, Int.reduceToNat, Nat.reduceMul, Nat.reduceBEq, index_rsl_if, setm, make_ints, condK_dec, wantK_dec, not_dec, and_dec, or_dec, seqK_ite, seqK_none, blockK_ite, blockK_none, opsK_ite, opsK_none, stepK_ite, stepK_none, bodyK_ite, bodyK_none, resK_ite, resK_none, leaveK_ite, leaveK_none, only_ite, only_none, bind_ite, gives_some, gives_none, gives_ite, then_normal, then_ret, then_exit, then_none, then_ite, Option.bind_none, Bool.not_eq_true', decide_eq_false_iff_not, Bool.and_eq_true, Bool.or_eq_true, Option.some.injEq, Int.not_lt, Int.not_le, lp95_0, hl2, a1, hXl, hlt, b0, b4, h59, hs, show pure 59 = false from rfl, List.append_assoc]
      refine ⟨(i + 1, junk ++ [[I u, I v]]), by simp only [go_sem, reduceIte, Nat.reduceEqDiff, Nat.reduceAdd, Nat.reduceSub, Nat.reduceLeDiff, Nat.reduceLT, reduceCtorEq, Int.reduceLT, Int.reduceLE, Int.reduceEq, Int.reduceBEq, Int.reduceSub, Int.reduceAdd, Int.reduceMul, Int.reduceNeg, Int.reduceToNat, Nat.reduceMul, Nat.reduceBEq, ren1_locm, loc_tips, locT_eq] <;> rfl, ?_, ?_, fun x en s hq => ?_⟩
      · dsimp only; omega
      · dsimp only; omega
      · obtain ⟨h1, hq⟩ := hq
        refine ⟨h1, ?_⟩
        rcases hq with ⟨rfl, hq⟩ | ⟨rfl, j, hq, hj⟩
        · left; rw [hq]; exact ⟨rfl, rfl⟩
        · right; refine ⟨rfl, j + 1, by rw [hq]; rfl, ?_⟩
          rw [hj, show i + 1 + j = i + (j + 1) by omega]
  · have hd : o.drop i = [] := List.drop_eq_nil_of_le (by omega)
    have hlt : ((i : Int) < (o.length : Int)) = False := eq_false (by omega)
    rw [hd]
    simp only [go_sem, reduceIte, Nat.reduceEqDiff, Nat.reduceAdd, Nat.reduceSub, Nat.reduceLeDiff, Nat.reduceLT, reduceCtorEq, Int.reduceLT, Int.reduceLE, Int.reduceEq, Int.reduceBEq, Int.reduceSub, Int.reduceAdd, Int.reduceMul, Int.reduceNeg, Int.reduceToNat, Nat.reduceMul, Nat.reduceBEq, index_rsl_if, setm, make_ints, condK_dec, wantK_dec, not_dec, and_dec, or_dec, seqK_ite, seqK_none, blockK_ite, blockK_none, opsK_ite, opsK_none, stepK_ite, stepK_none, bodyK_ite, bodyK_none, resK_ite, resK_none, leaveK_ite, leaveK_none, only_ite, only_none, bind_ite, gives_some, gives_none, gives_ite, then_normal, then_ret, then_exit, then_none, then_ite, Option.bind_none, Bool.not_eq_true', decide_eq_false_iff_not, Bool.and_eq_true, Bool.or_eq_true, Option.some.injEq, Int.not_lt, Int.not_le, lp95_0, hlt]
    exact ⟨⟨_, rfl⟩, rfl⟩

def idxP (p : Int × Int) (o : List (Int × Int)) : Int := match o.findIdx? (fun q => decide (q = p)) with
  | some i => (i : Int)
  | none => -1
theorem c95x (S0 : List (List AV)) (T : List Nat) (l b : Nat) (ps : List (Int × Int)) (hlen : ps.length < 1000000) (hl : S0[l]? = some (prC ps)) (p : Int × Int) (hb : S0[b]? = some [I p.1, I p.2]) :
    ∃ j, run L 95 [.rsl l 0 ps.length ps.length 2 true, .fn (.func 59) [] [.ptr b 0]] ⟨S0, T⟩ = some (I (idxP p ps), ⟨S0 ++ j, T⟩) := by
  rw [run_shared (fn := ir95) rfl rfl]
  simp only [ir95, go_sem, reduceIte, Nat.reduceEqDiff, Nat.reduceAdd, Nat.reduceSub, Nat.reduceLeDiff, Nat.reduceLT, reduceCtorEq, Int.reduceLT, Int.reduceLE, Int.reduceEq, Int.reduceBEq, Int.reduceSub, Int.reduceAdd, Int.reduceMul, Int.reduceNeg, Int.reduceToNat, Nat.reduceMul, Nat.reduceBEq]
  generalize hg : lim (headed pure (run L) false _ lp95_0 _ _) _ _ = o
  obtain ⟨x, en, s, rfl, h2⟩ : ∃ x en s, o = some (x, en, s) ∧ _ := by rw [← hg]; exact loop95x S0 T l b ps hlen hl p hb S0.length T.length 0 [] (by omega) _ _ (by simp only [go_sem, reduceIte, Nat.reduceEqDiff, Nat.reduceAdd, Nat.reduceSub, Nat.reduceLeDiff, Nat.reduceLT, reduceCtorEq, Int.reduceLT, Int.reduceLE, Int.reduceEq, Int.reduceBEq, Int.reduceSub, Int.reduceAdd, Int.reduceMul, Int.reduceNeg, Int.reduceToNat, Nat.reduceMul, Nat.reduceBEq, List.append_nil] <;> rfl)
  clear hg
  rw [List.drop_zero] at h2
  obtain ⟨⟨j, rfl⟩, h2⟩ := h2
  unfold idxP
  refine ⟨j, ?_⟩
  rcases h2 with ⟨rfl, h2⟩ | ⟨rfl, k, h2, h3⟩
  · rw [h2]
    simp only [go_sem, reduceIte, Nat.reduceEqDiff, Nat.reduceAdd, Nat.reduceSub, Nat.reduceLeDiff, Nat.reduceLT, reduceCtorEq, Int.reduceLT, Int.reduceLE, Int.reduceEq, Int.reduceBEq, Int.reduceSub, Int.reduceAdd, Int.reduceMul, Int.reduceNeg, Int.reduceToNat, Nat.reduceMul, Nat.reduceBEq]
  · rw [h2]
    rw [Nat.zero_add] at h3
    simp only [go_sem, reduceIte, Nat.reduceEqDiff, Nat.reduceAdd, Nat.reduceSub, Nat.reduceLeDiff, Nat.reduceLT, reduceCtorEq, Int.reduceLT, Int.reduceLE, Int.reduceEq, Int.reduceBEq, Int.reduceSub, Int.reduceAdd, Int.reduceMul, Int.reduceNeg, Int.reduceToNat, Nat.reduceMul, Nat.reduceBEq, h3]
theorem c95n (b : Nat) (st : St) : run L 95 [.v (.slice none 0 0), .fn (.func 59) [] [.ptr b 0]] st = some (I (-1), st) := by
  rw [run_shared (fn := ir95) rfl rfl]
  simp only [ir95, go_sem, reduceIte, Nat.reduceEqDiff, Nat.reduceAdd, Nat.reduceSub, Nat.reduceLeDiff, Nat.reduceLT, reduceCtorEq, Int.reduceLT, Int.reduceLE, Int.reduceEq, Int.reduceBEq, Int.reduceSub, Int.reduceAdd, Int.reduceMul, Int.reduceNeg, Int.reduceToNat, Nat.reduceMul, Nat.reduceBEq]
  generalize hg : lim (headed pure (run L) false _ lp95_0 _ _) _ _ = o
  obtain ⟨x, en, s, rfl, h2⟩ : ∃ x en s, o = some (x, en, s) ∧ (x = .exit 0 ∧ s = st) := by
    rw [← hg]
    refine loop_wp (α := Nat) (fun _ => 0) (fun _ => True) (fun _ => ([(0, .v (.slice none 0 0)), (1, .fn (.func 59) [] [.ptr b 0]), (7, I 0), (8, I 0)], st)) (fun _ x_1 en s => x_1 = .exit 0 ∧ s = st) (fun _ hok => ?_) 0 trivial _ _ (by simp only [go_sem, reduceIte, Nat.reduceEqDiff, Nat.reduceAdd, Nat.reduceSub, Nat.reduceLeDiff, Nat.reduceLT, reduceCtorEq, Int.reduceLT, Int.reduceLE, Int.reduceEq, Int.reduceBEq, Int.reduceSub, Int.reduceAdd, Int.reduceMul, Int.reduceNeg, Int.reduceToNat, Nat.reduceMul, Nat.reduceBEq] <;> rfl)
    have hlt : ((0 : Int) < 0) = False := eq_false (by omega)
    simp only [go_sem, reduceIte, Nat.reduceEqDiff, Nat.reduceAdd, Nat.reduceSub, Nat.reduceLeDiff, Nat.reduceLT, reduceCtorEq, Int.reduceLT, Int.reduceLE, Int.reduceEq, Int.reduceBEq, Int.reduceSub, Int.reduceAdd, Int.reduceMul, Int.reduceNeg, Int.reduceToNat, Nat.reduceMul, Nat.reduceBEq, index_rsl_if, setm, make_ints, condK_dec, wantK_dec, not_dec, and_dec, or_dec, seqK_ite, seqK_none, blockK_ite, blockK_none, opsK_ite, opsK_none, stepK_ite, stepK_none, bodyK_ite, bodyK_none, resK_ite, resK_none, leaveK_ite, leaveK_none, only_ite, only_none, bind_ite, gives_some, gives_none, gives_ite, then_normal, then_ret, then_exit, then_none, then_ite, Option.bind_none, Bool.not_eq_true', decide_eq_false_iff_not, Bool.and_eq_true, Bool.or_eq_true, Option.some.injEq, Int.not_lt, Int.not_le, lp95_0, hlt]
  clear hg
  obtain ⟨rfl, rfl⟩ := h2
  simp only [go_sem, reduceIte, Nat.reduceEqDiff, Nat.reduceAdd, Nat.reduceSub, Nat.reduceLeDiff, Nat.reduceLT, reduceCtorEq, Int.reduceLT, Int.reduceLE, Int.reduceEq, Int.reduceBEq, Int.reduceSub, Int.reduceAdd, Int.reduceMul, Int.reduceNeg, Int.reduceToNat, Nat.reduceMul, Nat.reduceBEq]


/-! ### DeleteFunc over a block of pairs -/
theorem slice_hi (l n m : Nat) (h : m ≤ n) : sliceAV 2 (.rsl l 0 n n 2 true) none (some (I m)) none = some (.rsl l 0 m n 2 true) := by
  simp only [sliceAV, natOr, natOf]
  rw [if_pos (by omega : (0 : Int) ≤ (m : Int))]
  simp only [Int.toNat_natCast]
  rw [if_pos ⟨trivial, by omega, h, Nat.le_refl _, by simp, .inr (.inr trivial)⟩]
  simp
theorem slice_hi2 (l n c m : Nat) (h : m ≤ n) (hc : n ≤ c) : sliceAV 2 (.rsl l 0 n c 2 true) none (some (I m)) none = some (.rsl l 0 m c 2 true) := by
  simp only [sliceAV, natOr, natOf]
  rw [if_pos (by omega : (0 : Int) ≤ (m : Int))]
  simp only [Int.toNat_natCast]
  rw [if_pos ⟨trivial, by omega, by omega, Nat.le_refl _, by simp, .inr (.inr trivial)⟩]
  simp
theorem slice_last (l m : Nat) : sliceAV 2 (.rsl l 0 (m + 1) (m + 1) 2 true) (some (I m)) none none = some (.rsl l (m * 2) 1 1 2 true) := by
  simp only [sliceAV, natOr, natOf]
  rw [if_pos (by omega : (0 : Int) ≤ (m : Int))]
  simp only [Int.toNat_natCast]
  rw [if_pos ⟨trivial, by omega, by omega, Nat.le_refl _, by simp, .inr (.inl (by omega))⟩, if_neg (by omega)]
  simp
theorem clear_last (S : List (List AV)) (T : List Nat) (l m : Nat) (o : List (Int × Int)) (h : S[l]? = some (prC o)) (hm : m + 1 = o.length) : clearAV 2 [I 0, I 0] ⟨S, T⟩ (.rsl l (m * 2) 1 1 2 true) = some ⟨S.set l (prC (o.set m (0, 0))), T⟩ := by
  have hl := prC_len o
  have hp := prC_put o m 0 0 (by omega)
  simp only [clearAV, if_true, if_neg (show ¬ (1 : Nat) = 0 by omega)]
  simp [storeAV, h, hl, AV.shaped, AV.cells, storable]
  exact ⟨by omega, by simp only [putCells, hp]⟩
theorem get_end {α : Type} (X : List α) (a b : α) : (X ++ [a, b])[X.length]? = some a := by simp
theorem get_end1 {α : Type} (X : List α) (a : α) : (X ++ [a])[X.length]? = some a := by simp
theorem set_end {α : Type} (X : List α) (a b : α) : (X ++ [a]).set X.length b = X ++ [b] := by simp
theorem get_in {α : Type} {X : List α} {l : Nat} {c : α} (h : X[l]? = some c) (Y : List α) : (X ++ Y)[l]? = some c := by
  rw [List.getElem?_append_left (List.getElem?_eq_some_iff.1 h).1]; exact h
theorem set_in {α : Type} {X : List α} {l : Nat} (h : l < X.length) (Y : List α) (c : α) : (X ++ Y).set l c = X.set l c ++ Y := List.set_append_left _ _ h

theorem loop58 (S0 : List (List AV)) (T : List Nat) (l b : Nat) (o : List (Int × Int)) (n i : Nat) (hn : o.length = n) (hn2 : n ≤ 1000) (hin : i < n) (hl : S0[l]? = some (prC o)) (p : Int × Int) (hlb : l ≠ b) (hb : S0[b]? = some [I p.1, I p.2]) (hne : ∀ (j : Nat) (q : Int × Int), i < j → o[j]? = some q → q ≠ p) (lo hi : Nat) (m : Nat) (junk : List (List AV)) (hok : i ≤ m ∧ m + 1 ≤ n) (env : Env) (st : St)
    (hg : gcAV false lo hi (canon env [0, 1, 5, 6]) st = ([(0, .rsl l 0 n n 2 true), (1, .fn (.func 59) [] [.ptr b 0]), (5, I m), (6, I (m + 1 : Nat))], ⟨S0.set l (prC (dlL o i (m + 1))) ++ junk, T⟩)) :
    ∃ x_1 en s, lim (headed pure (run L) false [0, 1, 5, 6] lp58_0 lo hi) env st = some (x_1, en, s) ∧ (x_1 = .exit 0 ∧ en.get 0 = .rsl l 0 n n 2 true ∧ en.get 5 = I (n - 1 : Nat) ∧ ∃ j, s = ⟨S0.set l (prC (dlL o i n)) ++ j, T⟩) := by
  refine loop_wp (α := Nat × List (List AV)) (fun ⟨m, junk⟩ => n - (m + 1)) (fun ⟨m, junk⟩ => i ≤ m ∧ m + 1 ≤ n) (fun ⟨m, junk⟩ => ([(0, .rsl l 0 n n 2 true), (1, .fn (.func 59) [] [.ptr b 0]), (5, I m), (6, I (m + 1 : Nat))], ⟨S0.set l (prC (dlL o i (m + 1))) ++ junk, T⟩)) (fun ⟨m, junk⟩ x_1 en s => x_1 = .exit 0 ∧ en.get 0 = .rsl l 0 n n 2 true ∧ en.get 5 = I (n - 1 : Nat) ∧ ∃ j, s = ⟨S0.set l (prC (dlL o i n)) ++ j, T⟩) (fun ⟨m, junk⟩ hok => ?_) ⟨m, junk⟩ hok env st hg
  simp only at hok
  obtain ⟨h1, h2⟩ := hok
  dsimp only at h1 h2 ⊢
  have hl0 : l < S0.length := (List.getElem?_eq_some_iff.1 hl).1
  by_cases h : m + 1 < n
  · have hs := succ64 m (by omega)
    have hs2 := succ64 (m + 1) (by omega)
    have hlt : (((m + 1 : Nat) : Int) < (n : Int)) = True := eq_true (by omega)
    have b0 : ((0 : Int) ≤ ((m + 1 : Nat) : Int)) = True := eq_true (by omega)
    have b1 : ((0 : Int) ≤ (m : Int)) = True := eq_true (by omega)
    have b2 : ((m : Int) < (n : Int)) = True := eq_true (by omega)
    have b4 : ((m + 1) * 2 + 2 ≤ n * 2) = True := eq_true (by omega)
    have b5 : (m * 2 + 2 ≤ n * 2) = True := eq_true (by omega)
    have hq := dlL_get o i (m + 1) (by omega) (by omega)
    have a1 := prC_at _ _ _ hq
    have hql := dlL_len o i (m + 1) (by omega) (by omega)
    have hXl := prC_len (dlL o i (m + 1))
    rw [hql, hn] at hXl
    have hst := dlL_step o i m h1 (by omega)
    have hpp := prC_put (dlL o i (m + 1)) m (o[m + 1]'(by omega)).1 (o[m + 1]'(by omega)).2 (by omega)
    rw [hst] at hpp
    have hqp := hne (m + 1) (o[m + 1]'(by omega)) (by omega) (List.getElem?_eq_getElem (by omega))
    have hXget : (S0.set l (prC (dlL o i (m + 1))) ++ junk)[l]? = some (prC (dlL o i (m + 1))) := get_in (List.getElem?_set_self hl0) _
    have hXb : (S0.set l (prC (dlL o i (m + 1))) ++ junk)[b]? = some [I p.1, I p.2] := get_in (by rw [List.getElem?_set_ne hlb]; exact hb) _
    have hXlen : l < (S0.set l (prC (dlL o i (m + 1))) ++ junk).length := by rw [List.length_append, List.length_set]; omega
    have hXs : ∀ Y c, (S0.set l (prC (dlL o i (m + 1))) ++ junk).set l c ++ Y = S0.set l c ++ (junk ++ Y) := fun Y c => by
      rw [set_in (by rw [List.length_set]; exact hl0), List.set_set, List.append_assoc]
    generalize S0.set l (prC (dlL o i (m + 1))) ++ junk = X at *
    generalize o[m + 1]'(by omega) = q at *
    obtain ⟨u, v⟩ := q
    simp only at a1 hpp
    have h59 := c59 u v p b ⟨X ++ [[I u, I v]], T⟩ (get_in hXb _)
    rw [decide_eq_false hqp] at h59
    simp only [List.append_assoc, List.cons_append, List.nil_append] at h59
    have g1 := get_in hXget [[I u, I v], [I u, I v]]
    have g2 := get_in hXget [[I 0, I 0]]
    have g3 := get_end X [I u, I v] [I u, I v]
    have g4 := get_end1 X [I u, I v]
    have g5 := get_end1 X [I 0, I 0]
    have s1 := set_end X [I 0, I 0] [I u, I v]
    have s2 := set_in hXlen [[I u, I v], [I u, I v]]
    generalize prC (dlL o i (m + 1)) = C at *
    generalize hC1 : prC (dlL o i (m + 1 + 1)) = C1 at *
    simp only [go_sem, reduceIte, Nat.reduceEqDiff, Nat.reduceAdd, Nat.reduceSub, Nat.reduceLeDiff, Nat.reduceLT, reduceCtorEq, Int.reduceLT, Int.reduceLE, Int.reduceEq, Int.reduceBEq, Int.reduceSub, Int.reduceAdd, Int.reduceMul, Int.reduceNeg, Int.reduceToNat, Nat.reduceMul, Nat.reduceBEq, index_rsl_if, setm, make_ints, condK_dec, wantK_dec, not_dec, and_dec, or_dec, seqK_ite, seqK_none, blockK_ite, blockK_none, opsK_ite, opsK_none, stepK_ite, stepK_none, bodyK_ite, bodyK_none, resK_ite, resK_none, leaveK_ite, leaveK_none, only_ite, only_none, bind_ite, gives_some, gives_none, gives_ite, then_normal, then_ret, then_exit, then_none, then_ite, Option.bind_none, Bool.not_eq_true', decide_eq_false_iff_not, Bool.and_eq_true, Bool.or_eq_true, Option.some.injEq, Int.not_lt, Int.not_le, lp58_0, hs, hs2, hlt, b0, b1, b2, b4, b5, a1, hXl, hXget, h59, g1, g2, g3, g4, g5, s1, s2, hpp, loadAV, storeAV, show pure 59 = false from rfl, List.append_assoc]
    refine ⟨(m + 1, junk ++ [[I u, I v], [I u, I v]]), by simp only [go_sem, reduceIte, Nat.reduceEqDiff, Nat.reduceAdd, Nat.reduceSub, Nat.reduceLeDiff, Nat.reduceLT, reduceCtorEq, Int.reduceLT, Int.reduceLE, Int.reduceEq, Int.reduceBEq, Int.reduceSub, Int.reduceAdd, Int.reduceMul, Int.reduceNeg, Int.reduceToNat, Nat.reduceMul, Nat.reduceBEq, ren1_locm, loc_tips, locT_eq, hXs, hC1] <;> rfl, ?_, ?_, fun x en s hq => ?_⟩
    · dsimp only; omega
    · dsimp only; omega
    · exact hq
  · obtain rfl : n = m + 1 := by omega
    have hlt : (((m + 1 : Nat) : Int) < ((m + 1 : Nat) : Int)) = False := eq_false (by omega)
    simp only [go_sem, reduceIte, Nat.reduceEqDiff, Nat.reduceAdd, Nat.reduceSub, Nat.reduceLeDiff, Nat.reduceLT, reduceCtorEq, Int.reduceLT, Int.reduceLE, Int.reduceEq, Int.reduceBEq, Int.reduceSub, Int.reduceAdd, Int.reduceMul, Int.reduceNeg, Int.reduceToNat, Nat.reduceMul, Nat.reduceBEq, index_rsl_if, setm, make_ints, condK_dec, wantK_dec, not_dec, and_dec, or_dec, seqK_ite, seqK_none, blockK_ite, blockK_none, opsK_ite, opsK_none, stepK_ite, stepK_none, bodyK_ite, bodyK_none, resK_ite, resK_none, leaveK_ite, leaveK_none, only_ite, only_none, bind_ite, gives_some, gives_none, gives_ite, then_normal, then_ret, then_exit, then_none, then_ite, Option.bind_none, Bool.not_eq_true', decide_eq_false_iff_not, Bool.and_eq_true, Bool.or_eq_true, Option.some.injEq, Int.not_lt, Int.not_le, lp58_0, hlt]
    exact ⟨by rw [Nat.add_sub_cancel], _, rfl⟩

theorem c58n (b : Nat) (st : St) : run L 58 [.v (.slice none 0 0), .fn (.func 59) [] [.ptr b 0]] st = some (.v (.slice none 0 0), st) := by
  rw [run_shared (fn := ir58) rfl rfl]
  have h95 := c95n b st
  simp only [ir58, go_sem, reduceIte, Nat.reduceEqDiff, Nat.reduceAdd, Nat.reduceSub, Nat.reduceLeDiff, Nat.reduceLT, reduceCtorEq, Int.reduceLT, Int.reduceLE, Int.reduceEq, Int.reduceBEq, Int.reduceSub, Int.reduceAdd, Int.reduceMul, Int.reduceNeg, Int.reduceToNat, Nat.reduceMul, Nat.reduceBEq, h95, show pure 95 = false from rfl]
theorem nodup_after {o : List (Int × Int)} (h : o.Nodup) {i j : Nat} {p q : Int × Int} (hij : i < j) (hi : o[i]? = some p) (hj : o[j]? = some q) : q ≠ p := by
  obtain ⟨h1, h2⟩ := List.getElem?_eq_some_iff.1 hi
  obtain ⟨h3, h4⟩ := List.getElem?_eq_some_iff.1 hj
  have := (List.pairwise_iff_getElem.1 h) i j h1 h3 hij
  rw [h2, h4] at this
  exact fun e => this e.symm
theorem c58x (S0 : List (List AV)) (T : List Nat) (l b : Nat) (ps : List (Int × Int)) (hn0 : 1 ≤ ps.length) (hn : ps.length ≤ 1000) (hl : S0[l]? = some (prC ps)) (p : Int × Int) (hlb : l ≠ b) (hb : S0[b]? = some [I p.1, I p.2]) (hnd : ps.Nodup) :
    ∃ j tl, (delP ps p ++ tl).length = ps.length ∧ run L 58 [.rsl l 0 ps.length ps.length 2 true, .fn (.func 59) [] [.ptr b 0]] ⟨S0, T⟩ = some (.rsl l 0 (delP ps p).length ps.length 2 true, ⟨S0.set l (prC (delP ps p ++ tl)) ++ j, T⟩) := by
  obtain ⟨j0, h95⟩ := c95x S0 T l b ps (by omega) hl p hb
  rw [run_shared (fn := ir58) rfl rfl]
  unfold delP
  unfold idxP at h95
  cases e : ps.findIdx? (fun q => decide (q = p)) with
  | none =>
    rw [e] at h95
    dsimp only at h95 ⊢
    refine ⟨j0, [], by rw [List.append_nil], ?_⟩
    rw [List.append_nil, set_same S0 l _ hl]
    simp only [ir58, go_sem, reduceIte, Nat.reduceEqDiff, Nat.reduceAdd, Nat.reduceSub, Nat.reduceLeDiff, Nat.reduceLT, reduceCtorEq, Int.reduceLT, Int.reduceLE, Int.reduceEq, Int.reduceBEq, Int.reduceSub, Int.reduceAdd, Int.reduceMul, Int.reduceNeg, Int.reduceToNat, Nat.reduceMul, Nat.reduceBEq, h95, show pure 95 = false from rfl]
  | some i =>
    rw [e] at h95
    dsimp only at h95 ⊢
    rw [List.findIdx?_eq_some_iff_getElem] at e
    obtain ⟨hi, hp, _⟩ := e
    rw [decide_eq_true_eq] at hp
    have hl0 : l < S0.length := (List.getElem?_eq_some_iff.1 hl).1
    obtain ⟨m, hm⟩ : ∃ m, ps.length = m + 1 := ⟨ps.length - 1, by omega⟩
    have he := er_len ps i hi
    have hne : ∀ (j : Nat) (q : Int × Int), i < j → ps[j]? = some q → q ≠ p := fun j q hij hj => nodup_after hnd hij (by rw [List.getElem?_eq_getElem hi, hp]) hj
    have hstart : S0.set l (prC (dlL ps i (i + 1))) = S0 := by rw [dlL_start ps i hi]; exact set_same S0 l _ hl
    have hlp := fun lo hi' => loop58 S0 T l b ps (m + 1) i hm (by omega) (by omega) hl p hlb hb hne lo hi'
    have hs := succ64 i (by omega)
    have hneg : ((i : Int) = -1) = False := eq_false (by omega)
    have hsl := slice_last l m
    have hsl2 := slice_hi l (m + 1) m (by omega)
    have hend := dlL_end ps i (m + 1) (by omega) hm
    rw [Nat.add_sub_cancel] at hend
    have hcl : ∀ j, clearAV 2 [I 0, I 0] ⟨S0.set l (prC (dlL ps i (m + 1))) ++ j, T⟩ (.rsl l (m * 2) 1 1 2 true) = some ⟨S0.set l (prC (ps.eraseIdx i ++ [(0, 0)])) ++ j, T⟩ := fun j => by
      rw [clear_last _ T l m (dlL ps i (m + 1)) (get_in (List.getElem?_set_self hl0) j) (by rw [dlL_len ps i (m + 1) (by omega) (by omega)]; omega), hend, set_in (by rw [List.length_set]; exact hl0), List.set_set]
    rw [hm] at h95 he
    rw [hm, he, Nat.add_sub_cancel]
    rw [show (⟨S0 ++ j0, T⟩ : St) = ⟨S0.set l (prC (dlL ps i (i + 1))) ++ j0, T⟩ by rw [hstart]] at h95
    have hlen : (ps.eraseIdx i ++ [((0 : Int), (0 : Int))]).length = m + 1 := by rw [List.length_append, he, List.length_singleton]; omega
    suffices hrun : ∃ j, _ = some (_, (⟨S0.set l (prC (ps.eraseIdx i ++ [(0, 0)])) ++ j, T⟩ : St)) by
      obtain ⟨j, hj⟩ := hrun
      exact ⟨j, _, hlen, hj⟩
    simp only [ir58, go_sem, reduceIte, Nat.reduceEqDiff, Nat.reduceAdd, Nat.reduceSub, Nat.reduceLeDiff, Nat.reduceLT, reduceCtorEq, Int.reduceLT, Int.reduceLE, Int.reduceEq, Int.reduceBEq, Int.reduceSub, Int.reduceAdd, Int.reduceMul, Int.reduceNeg, Int.reduceToNat, Nat.reduceMul, Nat.reduceBEq, h95, hneg, hs, show pure 95 = false from rfl]
    generalize hg : lim (headed pure (run L) false _ lp58_0 _ _) _ _ = o
    obtain ⟨x, en, s, rfl, h2⟩ : ∃ x en s, o = some (x, en, s) ∧ _ := by rw [← hg]; exact hlp _ _ i j0 ⟨by omega, by omega⟩ _ _ (by simp only [go_sem, reduceIte, Nat.reduceEqDiff, Nat.reduceAdd, Nat.reduceSub, Nat.reduceLeDiff, Nat.reduceLT, reduceCtorEq, Int.reduceLT, Int.reduceLE, Int.reduceEq, Int.reduceBEq, Int.reduceSub, Int.reduceAdd, Int.reduceMul, Int.reduceNeg, Int.reduceToNat, Nat.reduceMul, Nat.reduceBEq] <;> rfl)
    clear hg
    obtain ⟨rfl, e0, e5, j, rfl⟩ := h2
    rw [Nat.add_sub_cancel] at e5
    refine ⟨j, ?_⟩
    simp only [go_sem, reduceIte, Nat.reduceEqDiff, Nat.reduceAdd, Nat.reduceSub, Nat.reduceLeDiff, Nat.reduceLT, reduceCtorEq, Int.reduceLT, Int.reduceLE, Int.reduceEq, Int.reduceBEq, Int.reduceSub, Int.reduceAdd, Int.reduceMul, Int.reduceNeg, Int.reduceToNat, Nat.reduceMul, Nat.reduceBEq, e0, e5, hsl, hsl2, hcl]


/-! ### a book by numbers whose pairs may be written -/
theorem plainR_v (x : Value) : plainR (.v x) = true := rfl
theorem frz_prs {S : List (List AV)} {l : Nat} {o : List (Int × Int)} (h : o ≠ []) (hl : S[l]? = some (prC o)) (x y : Int) (T : List Nat) : ∃ S', frzArgs (rslsOf [.rsl l 0 o.length o.length 2 true, .agg [I x, I y]]) [.rsl l 0 o.length o.length 2 true, .agg [I x, I y]] ⟨S, T⟩ = ([sl 2 true (o.map prAV), .agg [I x, I y]], ⟨S', T⟩) := by
  have e1 := frz_cut l o o.length o.length (Nat.le_refl _) (Nat.le_refl _)
  rw [List.take_of_length_le (Nat.le_refl _)] at e1
  have hm : o.map prAV ≠ [] := by simpa using h
  rw [sl_ne hm] at e1 ⊢
  have e2 : ∀ cs, frzV l cs (.agg [I x, I y]) = .agg [I x, I y] := fun cs => by simp only [frzV, frzVs]
  have hne := prC_ne h
  generalize prC o = C at *
  cases C with
  | nil => exact absurd rfl hne
  | cons c cs =>
    simp only [rslsOf, List.filterMap_cons, List.filterMap_nil, List.append_nil, frzArgs, List.map_cons, List.map_nil, frzA, frzL, hl, e1, e2]
    exact ⟨_, rfl⟩
abbrev nilS : AV := .v (.slice none 0 0)

set_option maxHeartbeats 2000000 in
theorem loop44w (zs : List Int) (hzl : zs.length = 22) (hz : ∀ a ∈ zs, Byte a) (n : Int) (hn : 1 ≤ n ∧ n ≤ 7) (k : Nat) (hk : k ≤ 10) (i : Nat) (hok : i ≤ k) (env : Env) (st : St)
    (hg : gcAV true 3 0 (canon env [4, 5, 23, 24, 25, 3000000]) st = ([(4, .ptr 1 0), (5, .ptr 2 0), (23, .rsl 0 2 k 10 2 true), (24, I k), (25, I i), (3000000, .any)], ⟨[zs.map B8, [I 0, nilS], [I n, wpA 3 (madeTo n zs i)]] ++ wpS (madeTo n zs i), []⟩)) :
    ∃ x_1 en s, lim (headed pure (run L) true [4, 5, 23, 24, 25, 3000000] lp44_0 3 0) env st = some (x_1, en, s) ∧ (x_1 = .exit 0 ∧ en.get 4 = .ptr 1 0 ∧ en.get 5 = .ptr 2 0 ∧ s = ⟨[zs.map B8, [I 0, nilS], [I n, wpA 3 (madeTo n zs k)]] ++ wpS (madeTo n zs k), []⟩) := by
  refine loop_wp (α := Nat) (fun i => k - i) (fun i => i ≤ k) (fun i => ([(4, .ptr 1 0), (5, .ptr 2 0), (23, .rsl 0 2 k 10 2 true), (24, I k), (25, I i), (3000000, .any)], ⟨[zs.map B8, [I 0, nilS], [I n, wpA 3 (madeTo n zs i)]] ++ wpS (madeTo n zs i), []⟩)) (fun i x_1 en s => x_1 = .exit 0 ∧ en.get 4 = .ptr 1 0 ∧ en.get 5 = .ptr 2 0 ∧ s = ⟨[zs.map B8, [I 0, nilS], [I n, wpA 3 (madeTo n zs k)]] ++ wpS (madeTo n zs k), []⟩) (fun i hok => ?_) i hok env st hg
  have hQ : Inert (zs.map B8) := inert_map (fun a => Value.int .u8 a) zs
  by_cases h : i < k
  · have hs := succ64 i (by omega)
    have hlt : ((i : Int) < (k : Int)) = True := eq_true (by omega)
    have hi0 : ((0 : Int) ≤ (i : Int)) = True := eq_true (by omega)
    have hml := madeTo_len n zs i
    have hb1 : (2 + i * 2 + 2 ≤ 22) = True := eq_true (by omega)
    have hpair : ((zs.map B8).drop (2 + i * 2)).take 2 = [B8 (zs.getD (2 + i * 2) 0), B8 (zs.getD (3 + i * 2) 0)] := by
      have h1 : 2 + i * 2 < zs.length := by omega
      have h2 : 2 + i * 2 + 1 < zs.length := by omega
      have hd : zs.drop (2 + i * 2) = zs[2 + i * 2] :: zs[2 + i * 2 + 1] :: zs.drop (2 + i * 2 + 1 + 1) := by
        rw [List.drop_eq_getElem_cons h1, List.drop_eq_getElem_cons h2]
      have e1 : zs.getD (2 + i * 2) 0 = zs[2 + i * 2] := by rw [List.getD_eq_getElem?_getD, List.getElem?_eq_getElem h1]; rfl
      have e2 : zs.getD (3 + i * 2) 0 = zs[2 + i * 2 + 1] := by rw [show 3 + i * 2 = 2 + i * 2 + 1 by omega, List.getD_eq_getElem?_getD, List.getElem?_eq_getElem h2]; rfl
      rw [← List.map_drop, hd, e1, e2]
      rfl
    have ba := byte_getD hz (2 + i * 2)
    have bb := byte_getD hz (3 + i * 2)
    have hzm : (zs.map B8).length = 22 := by rw [List.length_map, hzl]
    have hsucc : madeTo n zs (i + 1) = mkStep n (madeTo n zs i) (zs.getD (2 + i * 2) 0) (zs.getD (3 + i * 2) 0) := rfl
    generalize zs.getD (2 + i * 2) 0 = a at *
    generalize zs.getD (3 + i * 2) 0 = b at *
    unfold Byte at ba bb
    have wa := wrap64 a (by omega) (by omega)
    have wb := wrap64 b (by omega) (by omega)
    have zn : (n = 0) = False := eq_false (by omega)
    have ta : a.tmod n = a % n := tmod8 (by omega)
    have tb : b.tmod n = b % n := tmod8 (by omega)
    have ra := mod_range a n (by omega)
    have rb := mod_range b n (by omega)
    generalize madeTo n zs i = out at *
    unfold mkStep at hsucc
    generalize hm1 : min (a % n) (b % n) = x at *
    generalize hm2 : max (a % n) (b % n) = y at *
    have hh76 := fun st => c76 true out (by omega) x y st
    generalize zs.map B8 = ZQ at *
    by_cases hX : out = []
    · have eA : wpA 3 out = nilS := by rw [hX]; rfl
      have eS : wpS out = [] := by rw [hX]; rfl
      have h76 : ∀ st, run L 76 [nilS, .agg [I x, I y]] st = some (B false, st) := fun st => by
        have := hh76 st
        rw [hX, show decide ((x, y) ∈ ([] : List (Int × Int))) = false by simp] at this
        exact this
      have hfr : ∀ st, frzArgs (rslsOf [nilS, .agg [I x, I y]]) [nilS, .agg [I x, I y]] st = ([nilS, .agg [I x, I y]], st) := fun _ => rfl
      by_cases p1 : x = y
      · rw [if_neg (by simp [p1])] at hsucc
        simp only [go_sem, reduceIte, Nat.reduceEqDiff, Nat.reduceAdd, Nat.reduceSub, Nat.reduceLeDiff, Nat.reduceLT, reduceCtorEq, Int.reduceLT, Int.reduceLE, Int.reduceEq, Int.reduceBEq, Int.reduceSub, Int.reduceAdd, Int.reduceMul, Int.reduceNeg, Int.reduceToNat, Nat.reduceMul, Nat.reduceBEq, index_rsl_if, setm, make_ints, condK_dec, wantK_dec, not_dec, and_dec, or_dec, seqK_ite, seqK_none, blockK_ite, blockK_none, opsK_ite, opsK_none, stepK_ite, stepK_none, bodyK_ite, bodyK_none, resK_ite, resK_none, leaveK_ite, leaveK_none, only_ite, only_none, bind_ite, gives_some, gives_none, gives_ite, then_normal, then_ret, then_exit, then_none, then_ite, Option.bind_none, Bool.not_eq_true', decide_eq_false_iff_not, Bool.and_eq_true, Bool.or_eq_true, Option.some.injEq, Int.not_lt, Int.not_le, lp44_0, hlt, hi0, hs, hb1, hpair, hzm, wa, wb, zn, ta, tb, hm1, hm2, p1, eA, eS]
        refine ⟨i + 1, by simp only [go_sem, reduceIte, Nat.reduceEqDiff, Nat.reduceAdd, Nat.reduceSub, Nat.reduceLeDiff, Nat.reduceLT, reduceCtorEq, Int.reduceLT, Int.reduceLE, Int.reduceEq, Int.reduceBEq, Int.reduceSub, Int.reduceAdd, Int.reduceMul, Int.reduceNeg, Int.reduceToNat, Nat.reduceMul, Nat.reduceBEq, ren1_locm, loc_tips, locT_eq, hsucc, eA, eS, hQ.1, hQ.2.1, hQ.2.2.1, hQ.2.2.2.1, compact, compactW, refsEnv, refsV, refsL, refsStore, refsAt, mapEnv, mapL, mapLs, newName, posOf, mapStore, pickStore, namesOk, refsV_sl, mapL_sl, List.contains_nil, List.contains_cons, Option.getD_some, hasKey] <;> rfl, ?_, ?_, fun x en s hq => ?_⟩
        · omega
        · omega
        · exact hq
      · have p2 : (x, y) ∉ out := by rw [hX]; simp
        rw [if_pos ⟨p1, p2⟩] at hsucc
        have hne2 : out ++ [(x, y)] ≠ [] := by simp
        have eA2 := wpA_ne (l := 3) hne2
        have eS2 := wpS_ne hne2
        have i2 := inert_prC (out ++ [(x, y)])
        have happ := fun S => wp_nil x y S []
        have eo : prC [(x, y)] = prC (out ++ [(x, y)]) := by rw [hX]; rfl
        have ol : (out ++ [(x, y)]).length = 1 := by rw [hX]; rfl
        rw [eo] at happ
        rw [ol] at eA2
        generalize prC (out ++ [(x, y)]) = C at *
        simp only [go_sem, reduceIte, Nat.reduceEqDiff, Nat.reduceAdd, Nat.reduceSub, Nat.reduceLeDiff, Nat.reduceLT, reduceCtorEq, Int.reduceLT, Int.reduceLE, Int.reduceEq, Int.reduceBEq, Int.reduceSub, Int.reduceAdd, Int.reduceMul, Int.reduceNeg, Int.reduceToNat, Nat.reduceMul, Nat.reduceBEq, index_rsl_if, setm, make_ints, condK_dec, wantK_dec, not_dec, and_dec, or_dec, seqK_ite, seqK_none, blockK_ite, blockK_none, opsK_ite, opsK_none, stepK_ite, stepK_none, bodyK_ite, bodyK_none, resK_ite, resK_none, leaveK_ite, leaveK_none, only_ite, only_none, bind_ite, gives_some, gives_none, gives_ite, then_normal, then_ret, then_exit, then_none, then_ite, Option.bind_none, Bool.not_eq_true', decide_eq_false_iff_not, Bool.and_eq_true, Bool.or_eq_true, Option.some.injEq, Int.not_lt, Int.not_le, lp44_0, hlt, hi0, hs, hb1, hpair, hzm, wa, wb, zn, ta, tb, hm1, hm2, p1, hfr, h76, plainR_v, happ, eA, eS]
        refine ⟨i + 1, by simp only [go_sem, reduceIte, Nat.reduceEqDiff, Nat.reduceAdd, Nat.reduceSub, Nat.reduceLeDiff, Nat.reduceLT, reduceCtorEq, Int.reduceLT, Int.reduceLE, Int.reduceEq, Int.reduceBEq, Int.reduceSub, Int.reduceAdd, Int.reduceMul, Int.reduceNeg, Int.reduceToNat, Nat.reduceMul, Nat.reduceBEq, ren1_locm, loc_tips, locT_eq, hsucc, eA2, eS2, hQ.1, hQ.2.1, hQ.2.2.1, hQ.2.2.2.1, i2.1, i2.2.1, i2.2.2.1, i2.2.2.2.1, compact, compactW, refsEnv, refsV, refsL, refsStore, refsAt, mapEnv, mapL, mapLs, newName, posOf, mapStore, pickStore, namesOk, refsV_sl, mapL_sl, List.contains_nil, List.contains_cons, Option.getD_some, hasKey] <;> rfl, ?_, ?_, fun x en s hq => ?_⟩
        · omega
        · omega
        · exact hq
    · have hpos : 1 ≤ out.length := List.length_pos_iff.2 hX
      have io := inert_prC out
      have eA := wpA_ne (l := 3) hX
      have eS := wpS_ne hX
      by_cases p1 : x = y
      · rw [if_neg (by simp [p1])] at hsucc
        generalize prC out = C0 at *
        simp only [go_sem, reduceIte, Nat.reduceEqDiff, Nat.reduceAdd, Nat.reduceSub, Nat.reduceLeDiff, Nat.reduceLT, reduceCtorEq, Int.reduceLT, Int.reduceLE, Int.reduceEq, Int.reduceBEq, Int.reduceSub, Int.reduceAdd, Int.reduceMul, Int.reduceNeg, Int.reduceToNat, Nat.reduceMul, Nat.reduceBEq, index_rsl_if, setm, make_ints, condK_dec, wantK_dec, not_dec, and_dec, or_dec, seqK_ite, seqK_none, blockK_ite, blockK_none, opsK_ite, opsK_none, stepK_ite, stepK_none, bodyK_ite, bodyK_none, resK_ite, resK_none, leaveK_ite, leaveK_none, only_ite, only_none, bind_ite, gives_some, gives_none, gives_ite, then_normal, then_ret, then_exit, then_none, then_ite, Option.bind_none, Bool.not_eq_true', decide_eq_false_iff_not, Bool.and_eq_true, Bool.or_eq_true, Option.some.injEq, Int.not_lt, Int.not_le, lp44_0, hlt, hi0, hs, hb1, hpair, hzm, wa, wb, zn, ta, tb, hm1, hm2, p1, eA, eS]
        refine ⟨i + 1, by simp only [go_sem, reduceIte, Nat.reduceEqDiff, Nat.reduceAdd, Nat.reduceSub, Nat.reduceLeDiff, Nat.reduceLT, reduceCtorEq, Int.reduceLT, Int.reduceLE, Int.reduceEq, Int.reduceBEq, Int.reduceSub, Int.reduceAdd, Int.reduceMul, Int.reduceNeg, Int.reduceToNat, Nat.reduceMul, Nat.reduceBEq, ren1_locm, loc_tips, locT_eq, hsucc, eA, eS, hQ.1, hQ.2.1, hQ.2.2.1, hQ.2.2.2.1, io.1, io.2.1, io.2.2.1, io.2.2.2.1, compact, compactW, refsEnv, refsV, refsL, refsStore, refsAt, mapEnv, mapL, mapLs, newName, posOf, mapStore, pickStore, namesOk, refsV_sl, mapL_sl, List.contains_nil, List.contains_cons, Option.getD_some, hasKey] <;> rfl, ?_, ?_, fun x en s hq => ?_⟩
        · omega
        · omega
        · exact hq
      · obtain ⟨S', hfr⟩ := frz_prs (S := [ZQ, [I 0, nilS], [I n, .rsl 3 0 out.length out.length 2 true], prC out, [B8 a, B8 b], [I x, I y]]) (l := 3) hX rfl x y []
        have h76 := hh76
        by_cases p2 : (x, y) ∈ out
        · rw [if_neg (by simp [p2])] at hsucc
          rw [decide_eq_true p2] at h76
          generalize prC out = C0 at *
          simp only [go_sem, reduceIte, Nat.reduceEqDiff, Nat.reduceAdd, Nat.reduceSub, Nat.reduceLeDiff, Nat.reduceLT, reduceCtorEq, Int.reduceLT, Int.reduceLE, Int.reduceEq, Int.reduceBEq, Int.reduceSub, Int.reduceAdd, Int.reduceMul, Int.reduceNeg, Int.reduceToNat, Nat.reduceMul, Nat.reduceBEq, index_rsl_if, setm, make_ints, condK_dec, wantK_dec, not_dec, and_dec, or_dec, seqK_ite, seqK_none, blockK_ite, blockK_none, opsK_ite, opsK_none, stepK_ite, stepK_none, bodyK_ite, bodyK_none, resK_ite, resK_none, leaveK_ite, leaveK_none, only_ite, only_none, bind_ite, gives_some, gives_none, gives_ite, then_normal, then_ret, then_exit, then_none, then_ite, Option.bind_none, Bool.not_eq_true', decide_eq_false_iff_not, Bool.and_eq_true, Bool.or_eq_true, Option.some.injEq, Int.not_lt, Int.not_le, lp44_0, hlt, hi0, hs, hb1, hpair, hzm, wa, wb, zn, ta, tb, hm1, hm2, p1, hfr, h76, plainR_v, eA, eS]
          refine ⟨i + 1, by simp only [go_sem, reduceIte, Nat.reduceEqDiff, Nat.reduceAdd, Nat.reduceSub, Nat.reduceLeDiff, Nat.reduceLT, reduceCtorEq, Int.reduceLT, Int.reduceLE, Int.reduceEq, Int.reduceBEq, Int.reduceSub, Int.reduceAdd, Int.reduceMul, Int.reduceNeg, Int.reduceToNat, Nat.reduceMul, Nat.reduceBEq, ren1_locm, loc_tips, locT_eq, hsucc, eA, eS, hQ.1, hQ.2.1, hQ.2.2.1, hQ.2.2.2.1, io.1, io.2.1, io.2.2.1, io.2.2.2.1, compact, compactW, refsEnv, refsV, refsL, refsStore, refsAt, mapEnv, mapL, mapLs, newName, posOf, mapStore, pickStore, namesOk, refsV_sl, mapL_sl, List.contains_nil, List.contains_cons, Option.getD_some, hasKey] <;> rfl, ?_, ?_, fun x en s hq => ?_⟩
          · omega
          · omega
          · exact hq
        · rw [if_pos ⟨p1, p2⟩] at hsucc
          rw [decide_eq_false p2] at h76
          have hne2 : out ++ [(x, y)] ≠ [] := by simp
          have eA2 := wpA_ne (l := 3) hne2
          have eS2 := wpS_ne hne2
          have i2 := inert_prC (out ++ [(x, y)])
          have hl2 : (out ++ [(x, y)]).length = out.length + 1 := by simp
          rw [hl2] at eA2
          have happ := fun D E F => wp_at [ZQ, D, E, prC out, F, [I x, I y]] [] 3 out x y rfl hpos (by omega)
          generalize prC (out ++ [(x, y)]) = C at *
          generalize prC out = C0 at *
          simp only [go_sem, reduceIte, Nat.reduceEqDiff, Nat.reduceAdd, Nat.reduceSub, Nat.reduceLeDiff, Nat.reduceLT, reduceCtorEq, Int.reduceLT, Int.reduceLE, Int.reduceEq, Int.reduceBEq, Int.reduceSub, Int.reduceAdd, Int.reduceMul, Int.reduceNeg, Int.reduceToNat, Nat.reduceMul, Nat.reduceBEq, index_rsl_if, setm, make_ints, condK_dec, wantK_dec, not_dec, and_dec, or_dec, seqK_ite, seqK_none, blockK_ite, blockK_none, opsK_ite, opsK_none, stepK_ite, stepK_none, bodyK_ite, bodyK_none, resK_ite, resK_none, leaveK_ite, leaveK_none, only_ite, only_none, bind_ite, gives_some, gives_none, gives_ite, then_normal, then_ret, then_exit, then_none, then_ite, Option.bind_none, Bool.not_eq_true', decide_eq_false_iff_not, Bool.and_eq_true, Bool.or_eq_true, Option.some.injEq, Int.not_lt, Int.not_le, lp44_0, hlt, hi0, hs, hb1, hpair, hzm, wa, wb, zn, ta, tb, hm1, hm2, p1, hfr, h76, plainR_v, happ, eA, eS]
          refine ⟨i + 1, by simp only [go_sem, reduceIte, Nat.reduceEqDiff, Nat.reduceAdd, Nat.reduceSub, Nat.reduceLeDiff, Nat.reduceLT, reduceCtorEq, Int.reduceLT, Int.reduceLE, Int.reduceEq, Int.reduceBEq, Int.reduceSub, Int.reduceAdd, Int.reduceMul, Int.reduceNeg, Int.reduceToNat, Nat.reduceMul, Nat.reduceBEq, ren1_locm, loc_tips, locT_eq, hsucc, eA2, eS2, hQ.1, hQ.2.1, hQ.2.2.1, hQ.2.2.2.1, i2.1, i2.2.1, i2.2.2.1, i2.2.2.2.1, io.1, io.2.1, io.2.2.1, io.2.2.2.1, compact, compactW, refsEnv, refsV, refsL, refsStore, refsAt, mapEnv, mapL, mapLs, newName, posOf, mapStore, pickStore, namesOk, refsV_sl, mapL_sl, List.contains_nil, List.contains_cons, Option.getD_some, hasKey] <;> rfl, ?_, ?_, fun x en s hq => ?_⟩
          · omega
          · omega
          · exact hq
  · obtain rfl : i = k := by omega
    simp only [go_sem, reduceIte, Nat.reduceEqDiff, Nat.reduceAdd, Nat.reduceSub, Nat.reduceLeDiff, Nat.reduceLT, reduceCtorEq, Int.reduceLT, Int.reduceLE, Int.reduceEq, Int.reduceBEq, Int.reduceSub, Int.reduceAdd, Int.reduceMul, Int.reduceNeg, Int.reduceToNat, Nat.reduceMul, Nat.reduceBEq, index_rsl_if, setm, make_ints, condK_dec, wantK_dec, not_dec, and_dec, or_dec, seqK_ite, seqK_none, blockK_ite, blockK_none, opsK_ite, opsK_none, stepK_ite, stepK_none, bodyK_ite, bodyK_none, resK_ite, resK_none, leaveK_ite, leaveK_none, only_ite, only_none, bind_ite, gives_some, gives_none, gives_ite, then_normal, then_ret, then_exit, then_none, then_ite, Option.bind_none, Bool.not_eq_true', decide_eq_false_iff_not, Bool.and_eq_true, Bool.or_eq_true, Option.some.injEq, Int.not_lt, Int.not_le, lp44_0, show ((i : Int) < (i : Int)) = False from eq_false (by omega)]

theorem c44w (zs : List Int) (hzl : zs.length = 22) (hz : ∀ a ∈ zs, Byte a) (least : Int) (hl : least = 1 ∨ least = 2) :
    run L 44 [qAV zs, I least] ⟨[], []⟩ = some (.agg [I (madeN least zs), wpA 3 (madeP least zs)], ⟨[zs.map B8, [I (madeN least zs), wpA 3 (madeP least zs)], [I (madeN least zs), wpA 3 (madeP least zs)]] ++ wpS (madeP least zs), []⟩) := by
  rw [run_shared (fn := ir44) rfl rfl]
  have hQ : Inert (zs.map B8) := inert_map (fun a => Value.int .u8 a) zs
  have b0 := byte_getD hz 0
  have b1 := byte_getD hz 1
  have g0 := getB zs 0 (by omega)
  have g1 := getB zs 1 (by omega)
  unfold madeP
  have hN : madeN least zs = least + zs.getD 0 0 % (8 - least) := rfl
  generalize zs.getD 0 0 = a at *
  generalize zs.getD 1 0 = b at *
  unfold Byte at b0 b1
  have ra := mod_range a (8 - least) (by omega)
  have rb := mod_range b 11 (by omega)
  have wa := wrap64 a (by omega) (by omega)
  have wb := wrap64 b (by omega) (by omega)
  have w8 := wrap64 (8 - least) (by omega) (by omega)
  have z8 : (8 - least = 0) = False := eq_false (by omega)
  have ta : a.tmod (8 - least) = a % (8 - least) := tmod8 (by omega)
  have tb : b.tmod 11 = b % 11 := tmod8 (by omega)
  have wn : IntKind.i64.wrap (least + a % (8 - least)) = madeN least zs := by rw [hN, wrap64] <;> omega
  have hn : 1 ≤ madeN least zs ∧ madeN least zs ≤ 7 := by omega
  obtain ⟨k, hk⟩ := Int.eq_ofNat_of_zero_le rb.1
  rw [hk, Int.toNat_natCast]
  have hk10 : k ≤ 10 := by omega
  have hsl : sliceaAV 10 2 true (.ptr 0 2) none (some (.v (.int .i64 (k : Int)))) none = some (.rsl 0 2 k 10 2 true) := by
    simp only [sliceaAV, natOr, natOf]
    simp; omega
  generalize madeN least zs = n at *
  simp only [ir44, go_sem, reduceIte, Nat.reduceEqDiff, Nat.reduceAdd, Nat.reduceSub, Nat.reduceLeDiff, Nat.reduceLT, reduceCtorEq, Int.reduceLT, Int.reduceLE, Int.reduceEq, Int.reduceBEq, Int.reduceSub, Int.reduceAdd, Int.reduceMul, Int.reduceNeg, Int.reduceToNat, Nat.reduceMul, Nat.reduceBEq, okRefsB, renCellsB, pubsB, storableB, g0, g1, wa, wb, w8, z8, ta, tb, hk, wn, hsl, hzl, List.length_map]
  generalize hg : lim (headed pure (run L) true _ lp44_0 _ _) _ _ = o
  obtain ⟨x, en, s, rfl, h2⟩ : ∃ x en s, o = some (x, en, s) ∧ _ := by rw [← hg]; exact loop44w zs hzl hz n hn k hk10 0 (by omega) _ _ (by simp only [go_sem, reduceIte, Nat.reduceEqDiff, Nat.reduceAdd, Nat.reduceSub, Nat.reduceLeDiff, Nat.reduceLT, reduceCtorEq, Int.reduceLT, Int.reduceLE, Int.reduceEq, Int.reduceBEq, Int.reduceSub, Int.reduceAdd, Int.reduceMul, Int.reduceNeg, Int.reduceToNat, Nat.reduceMul, Nat.reduceBEq, okRefsB, renCellsB, madeTo, hQ.1, hQ.2.1, hQ.2.2.1, hQ.2.2.2.1, compact, compactW, refsEnv, refsV, refsL, refsStore, refsAt, mapEnv, mapL, mapLs, newName, posOf, mapStore, pickStore, namesOk, refsV_sl, mapL_sl, List.contains_nil, List.contains_cons, Option.getD_some, hasKey, show wpA 3 [] = .v (.slice none 0 0) from rfl, show wpS [] = [] from rfl, List.append_nil, Int.natCast_zero] <;> rfl)
  clear hg
  obtain ⟨rfl, h4, h5, rfl⟩ := h2
  by_cases hX : madeTo n zs k = []
  · have eA : wpA 3 (madeTo n zs k) = .v (.slice none 0 0) := by rw [hX]; rfl
    simp only [go_sem, reduceIte, Nat.reduceEqDiff, Nat.reduceAdd, Nat.reduceSub, Nat.reduceLeDiff, Nat.reduceLT, reduceCtorEq, Int.reduceLT, Int.reduceLE, Int.reduceEq, Int.reduceBEq, Int.reduceSub, Int.reduceAdd, Int.reduceMul, Int.reduceNeg, Int.reduceToNat, Nat.reduceMul, Nat.reduceBEq, h4, h5, eA]
  · have eA := wpA_ne (l := 3) hX
    simp only [go_sem, reduceIte, Nat.reduceEqDiff, Nat.reduceAdd, Nat.reduceSub, Nat.reduceLeDiff, Nat.reduceLT, reduceCtorEq, Int.reduceLT, Int.reduceLE, Int.reduceEq, Int.reduceBEq, Int.reduceSub, Int.reduceAdd, Int.reduceMul, Int.reduceNeg, Int.reduceToNat, Nat.reduceMul, Nat.reduceBEq, h4, h5, eA]

theorem fkB : fieldAV 1 1 false kB = some (.lst .any 2 [.agg [I 0, I 1], .agg [I 0, I 2], .agg [I 1, I 2]]) := rfl
theorem kB_sh : kB.shaped = true := rfl
theorem kB_ce : kB.cells = [I 3, .lst .any 2 [.agg [I 0, I 1], .agg [I 0, I 2], .agg [I 1, I 2]]] := rfl
theorem fkA : fieldAV 1 1 false kA = some (.lst .any 2 [.agg [I 0, I 1], .agg [I 1, I 2]]) := rfl
set_option maxHeartbeats 4000000 in
theorem c16 (st : St) : run L 16 [] st = some (B true, st) := by
  rw [run_pure (fn := ir16) rfl rfl]
  simp (maxSteps := 5000000) only [ir16, go_sem, reduceIte, Nat.reduceEqDiff, Nat.reduceAdd, Nat.reduceSub, Nat.reduceLeDiff, Nat.reduceLT, reduceCtorEq, Int.reduceLT, Int.reduceLE, Int.reduceEq, Int.reduceBEq, Int.reduceSub, Int.reduceAdd, Int.reduceMul, Int.reduceNeg, Int.reduceToNat, Nat.reduceMul, Nat.reduceBEq, fkB, fkA, kB_sh, kB_ce, k17_3, k19_6, k26_28, k28_31, k32_37, k35_41, k37_44, k17_0, k17_1, k17_2, k19_4, k19_5, k21_7, k21_8, k21_9, k21_10, k21_11, k21_12, k21_13, k21_14, k21_15, k21_16, k21_17, k22_18, k22_19, k22_20, k22_21, k24_22, k24_23, k24_24, k24_25, k26_26, k26_27, k28_29, k28_30, k30_32, k30_33, k30_34, k30_35, k32_36, k34_38, k35_39, k35_40, k37_42, k37_43, k39_45, k39_46, k40_47, k42_48, k42_49, k42_50, k51_52, k52_53, k52_54, k52_55, k52_56, k52_57, k53_58, k53_59, k53_60, k53_61, k53_62, k53_63, k53_64, k53_65, k53_66, k53_67, k53_68, k53_69, k53_70, k53_71, k53_72, k53_73, k53_74, k53_75, k54_76]

def reg11 : IC := (.ops [⟨(some 61), none, .fieldAddr 0 (.tmp 7)⟩, ⟨(some 62), none, .load 1 false (.tmp 61)⟩, ⟨(some 63), none, .fieldAddr 1 (.tmp 7)⟩, ⟨(some 64), none, .load 1 false (.tmp 63)⟩, ⟨(some 65), none, .callk 60 [(.tmp 64)]⟩, ⟨(some 66), none, .load 2 true (.tmp 10)⟩, ⟨(some 67), none, .lit 2 true (.agg [(.v (.int .i64 0)), (.v (.int .i64 0))]) 1 [(0, (.tmp 66))]⟩, ⟨(some 68), none, .append 2 false (.tmp 65) (.tmp 67)⟩, ⟨(some 69), none, .build [(.v (.int .i64 0)), (.v (.slice none 0 0))] [(0, 1, (.tmp 62)), (1, 1, (.tmp 68))]⟩, ⟨(some 11), none, .alloc [(.v (.int .i64 0)), (.v (.slice none 0 0))]⟩, ⟨none, none, .store 2 (.tmp 11) (.tmp 69)⟩])
def end11 : IC := (.seq (.ops [⟨(some 71), none, .load 2 true (.tmp 7)⟩, ⟨(some 72), none, .call true 17 [(.tmp 71)]⟩, ⟨(some 70), none, .move (.tmp 72)⟩, ⟨(some 73), none, .extract 0 (.tmp 70)⟩, ⟨(some 74), none, .extract 1 (.tmp 70)⟩, ⟨(some 12), none, .move (.tmp 73)⟩, ⟨(some 13), none, .move (.tmp 74)⟩])
  (.seq (.ops [⟨(some 76), none, .load 2 true (.tmp 11)⟩, ⟨(some 77), none, .call true 17 [(.tmp 76)]⟩, ⟨(some 75), none, .move (.tmp 77)⟩, ⟨(some 78), none, .extract 0 (.tmp 75)⟩, ⟨(some 79), none, .extract 1 (.tmp 75)⟩, ⟨(some 14), none, .move (.tmp 78)⟩, ⟨(some 15), none, .move (.tmp 79)⟩])
  (.seq (.ops [⟨(some 81), none, .load 2 true (.tmp 7)⟩, ⟨(some 82), none, .call true 26 [(.tmp 81)]⟩, ⟨(some 80), none, .move (.tmp 82)⟩, ⟨(some 83), none, .extract 0 (.tmp 80)⟩, ⟨(some 84), none, .extract 1 (.tmp 80)⟩, ⟨(some 16), none, .move (.tmp 83)⟩, ⟨(some 17), none, .move (.tmp 84)⟩])
  (.seq (.ops [⟨(some 86), none, .load 2 true (.tmp 11)⟩, ⟨(some 87), none, .call true 26 [(.tmp 86)]⟩, ⟨(some 85), none, .move (.tmp 87)⟩, ⟨(some 88), none, .extract 0 (.tmp 85)⟩, ⟨(some 89), none, .extract 1 (.tmp 85)⟩, ⟨(some 18), none, .move (.tmp 88)⟩, ⟨(some 19), none, .move (.tmp 89)⟩])
  (.seq (.ops [⟨(some 90), none, .move (.tmp 16)⟩, ⟨(some 91), none, .fieldAddr 0 (.tmp 7)⟩, ⟨(some 92), none, .load 1 false (.tmp 91)⟩, ⟨(some 93), none, .call true 45 [(.tmp 90), (.tmp 92)]⟩, ⟨(some 94), none, .move (.tmp 18)⟩, ⟨(some 95), none, .fieldAddr 0 (.tmp 7)⟩, ⟨(some 96), none, .load 1 false (.tmp 95)⟩, ⟨(some 97), none, .call true 45 [(.tmp 94), (.tmp 96)]⟩, ⟨(some 20), none, .move (.tmp 93)⟩, ⟨(some 21), none, .move (.tmp 97)⟩])
  (.seq (.ops [⟨(some 98), none, .move (.tmp 13)⟩, ⟨(some 99), none, .bin .eql none (.tmp 98) (.const (.int .i64 0))⟩, ⟨(some 100), none, .move (.tmp 99)⟩, ⟨(some 101), (some (100, true)), .move (.tmp 15)⟩, ⟨(some 102), (some (100, true)), .bin .eql none (.tmp 101) (.const (.int .i64 0))⟩, ⟨(some 103), none, .pick (.tmp 100) (.tmp 102) (.const (.bool false))⟩, ⟨(some 104), none, .move (.tmp 103)⟩, ⟨(some 105), (some (104, true)), .move (.tmp 17)⟩, ⟨(some 106), (some (104, true)), .bin .eql none (.tmp 105) (.const (.int .i64 0))⟩, ⟨(some 107), none, .pick (.tmp 104) (.tmp 106) (.const (.bool false))⟩, ⟨(some 108), none, .move (.tmp 107)⟩, ⟨(some 109), (some (108, true)), .move (.tmp 19)⟩, ⟨(some 110), (some (108, true)), .bin .eql none (.tmp 109) (.const (.int .i64 0))⟩, ⟨(some 111), none, .pick (.tmp 108) (.tmp 110) (.const (.bool false))⟩, ⟨(some 112), none, .move (.tmp 111)⟩, ⟨(some 113), (some (112, true)), .move (.tmp 14)⟩, ⟨(some 114), (some (112, true)), .len (.tmp 113)⟩, ⟨(some 115), (some (112, true)), .move (.tmp 12)⟩, ⟨(some 116), (some (112, true)), .len (.tmp 115)⟩, ⟨(some 117), (some (112, true)), .bin .geq none (.tmp 114) (.tmp 116)⟩, ⟨(some 118), none, .pick (.tmp 112) (.tmp 117) (.const (.bool false))⟩, ⟨(some 119), none, .move (.tmp 118)⟩, ⟨(some 120), (some (119, true)), .move (.tmp 14)⟩, ⟨(some 121), (some (119, true)), .len (.tmp 120)⟩, ⟨(some 122), (some (119, true)), .move (.tmp 12)⟩, ⟨(some 123), (some (119, true)), .len (.tmp 122)⟩, ⟨(some 124), (some (119, true)), .bin .add none (.tmp 123) (.const (.int .i64 1))⟩, ⟨(some 125), (some (119, true)), .bin .leq none (.tmp 121) (.tmp 124)⟩, ⟨(some 126), none, .pick (.tmp 119) (.tmp 125) (.const (.bool false))⟩, ⟨(some 127), none, .move (.tmp 126)⟩, ⟨(some 128), (some (127, true)), .move (.tmp 20)⟩, ⟨(some 129), (some (127, true)), .bin .geq none (.tmp 128) (.const (.int .i64 0))⟩, ⟨(some 130), none, .pick (.tmp 127) (.tmp 129) (.const (.bool false))⟩, ⟨(some 131), none, .move (.tmp 130)⟩, ⟨(some 132), (some (131, true)), .move (.tmp 21)⟩, ⟨(some 133), (some (131, true)), .move (.tmp 20)⟩, ⟨(some 134), (some (131, true)), .bin .geq none (.tmp 132) (.tmp 133)⟩, ⟨(some 135), none, .pick (.tmp 131) (.tmp 134) (.const (.bool false))⟩, ⟨(some 136), none, .move (.tmp 135)⟩, ⟨(some 137), (some (136, true)), .move (.tmp 21)⟩, ⟨(some 138), (some (136, true)), .move (.tmp 20)⟩, ⟨(some 139), (some (136, true)), .bin .add none (.tmp 138) (.const (.int .i64 2))⟩, ⟨(some 140), (some (136, true)), .bin .leq none (.tmp 137) (.tmp 139)⟩, ⟨(some 141), none, .pick (.tmp 136) (.tmp 140) (.const (.bool false))⟩, ⟨(some 142), none, .move (.tmp 141)⟩, ⟨(some 143), (some (142, true)), .call true 16 []⟩, ⟨(some 144), none, .pick (.tmp 142) (.tmp 143) (.const (.bool false))⟩, ⟨(some 6), none, .move (.tmp 144)⟩])
  .ret))))))
theorem ir11_eq : ir11 = ⟨(.seq (.ops [⟨(some 3), none, .box (.tmp 0)⟩, ⟨(some 6), none, .move (.const (.bool false))⟩])
  (.seq (.ops [⟨(some 22), none, .load 22 true (.tmp 3)⟩, ⟨(some 23), none, .callk 44 [(.tmp 22), (.const (.int .i64 2))]⟩, ⟨(some 7), none, .alloc [(.v (.int .i64 0)), (.v (.slice none 0 0))]⟩, ⟨none, none, .store 2 (.tmp 7) (.tmp 23)⟩])
  (.seq (.ops [⟨(some 24), none, .move (.tmp 1)⟩, ⟨(some 25), none, .conv .i64 (.tmp 24)⟩, ⟨(some 26), none, .fieldAddr 0 (.tmp 7)⟩, ⟨(some 27), none, .load 1 false (.tmp 26)⟩, ⟨(some 28), none, .bin .rem none (.tmp 25) (.tmp 27)⟩, ⟨(some 8), none, .move (.tmp 28)⟩])
  (.seq (.ops [⟨(some 29), none, .move (.tmp 8)⟩, ⟨(some 30), none, .bin .add none (.tmp 29) (.const (.int .i64 1))⟩, ⟨(some 31), none, .move (.tmp 2)⟩, ⟨(some 32), none, .conv .i64 (.tmp 31)⟩, ⟨(some 33), none, .fieldAddr 0 (.tmp 7)⟩, ⟨(some 34), none, .load 1 false (.tmp 33)⟩, ⟨(some 35), none, .bin .sub none (.tmp 34) (.const (.int .i64 1))⟩, ⟨(some 36), none, .bin .rem none (.tmp 32) (.tmp 35)⟩, ⟨(some 37), none, .bin .add none (.tmp 30) (.tmp 36)⟩, ⟨(some 38), none, .fieldAddr 0 (.tmp 7)⟩, ⟨(some 39), none, .load 1 false (.tmp 38)⟩, ⟨(some 40), none, .bin .rem none (.tmp 37) (.tmp 39)⟩, ⟨(some 9), none, .move (.tmp 40)⟩])
  (.seq (.ops [⟨(some 41), none, .move (.tmp 8)⟩, ⟨(some 42), none, .move (.tmp 9)⟩, ⟨(some 43), none, .min (.tmp 41) (.tmp 42)⟩, ⟨(some 44), none, .move (.tmp 8)⟩, ⟨(some 45), none, .move (.tmp 9)⟩, ⟨(some 46), none, .max (.tmp 44) (.tmp 45)⟩, ⟨(some 47), none, .build [(.v (.int .i64 0)), (.v (.int .i64 0))] [(0, 1, (.tmp 43)), (1, 1, (.tmp 46))]⟩, ⟨(some 10), none, .alloc [(.v (.int .i64 0)), (.v (.int .i64 0))]⟩, ⟨none, none, .store 2 (.tmp 10) (.tmp 47)⟩])
  (.seq (.ops [⟨(some 48), none, .fieldAddr 1 (.tmp 7)⟩, ⟨(some 49), none, .load 1 false (.tmp 48)⟩, ⟨(some 50), none, .func (.func 59) [] [(.tmp 10)]⟩, ⟨(some 51), none, .call false 58 [(.tmp 49), (.tmp 50)]⟩, ⟨(some 52), none, .fieldAddr 1 (.tmp 7)⟩, ⟨none, none, .store 1 (.tmp 52) (.tmp 51)⟩])
  (.seq (.ops [⟨(some 53), none, .fieldAddr 1 (.tmp 7)⟩, ⟨(some 54), none, .load 1 false (.tmp 53)⟩, ⟨(some 55), none, .fieldAddr 1 (.tmp 7)⟩, ⟨(some 56), none, .load 1 false (.tmp 55)⟩, ⟨(some 57), none, .len (.tmp 56)⟩, ⟨(some 58), none, .min (.tmp 57) (.const (.int .i64 9))⟩, ⟨(some 59), none, .slice 2 (.tmp 54) none (some (.tmp 58)) none⟩, ⟨(some 60), none, .fieldAddr 1 (.tmp 7)⟩, ⟨none, none, .store 1 (.tmp 60) (.tmp 59)⟩])
  (.seq (.seq (.frz [7])
  reg11)
  end11)))))))), [(6, none)]⟩ := rfl

/-! ### a copy of a list of pairs, and what it gains -/
theorem c60n : run L 60 [.v (.slice none 0 0)] ⟨[], []⟩ = some (.v (.slice none 0 0), ⟨[], []⟩) := by
  rw [run_shared (fn := ir60) rfl rfl]
  simp only [ir60, go_sem, reduceIte, Nat.reduceEqDiff, Nat.reduceAdd, Nat.reduceSub, Nat.reduceLeDiff, Nat.reduceLT, reduceCtorEq, Int.reduceLT, Int.reduceLE, Int.reduceEq, Int.reduceBEq, Int.reduceSub, Int.reduceAdd, Int.reduceMul, Int.reduceNeg, Int.reduceToNat, Nat.reduceMul, Nat.reduceBEq]
theorem c60 (A : List (Int × Int)) (hl : A.length ≤ 1000) : run L 60 [.lst .any 2 (A.map prAV)] ⟨[], []⟩ = some (if A = [] then .lst .full 2 [] else .lst (.own 0 A.length) 2 (A.map prAV), ⟨[], if A = [] then [] else [A.length]⟩) := by
  rw [run_shared (fn := ir60) rfl rfl]
  have hm : A.length ≤ maxGrow := by unfold maxGrow; omega
  have hap : appendAV 2 (.lst .full 2 []) (A.map prAV) ⟨[], []⟩ = some (if A = [] then .lst .full 2 [] else .lst (.own 0 A.length) 2 (A.map prAV), ⟨[], if A = [] then [] else [A.length]⟩) := by
    cases A with
    | nil => rfl
    | cons x r =>
      rw [List.map_cons, if_neg (by simp), if_neg (by simp)]
      simp only [appendAV, if_true, List.length_nil, Nat.zero_add, List.length_cons, List.length_map] at hm ⊢
      rw [if_pos hm]; rfl
  simp only [ir60, go_sem, reduceIte, Nat.reduceEqDiff, Nat.reduceAdd, Nat.reduceSub, Nat.reduceLeDiff, Nat.reduceLT, reduceCtorEq, Int.reduceLT, Int.reduceLE, Int.reduceEq, Int.reduceBEq, Int.reduceSub, Int.reduceAdd, Int.reduceMul, Int.reduceNeg, Int.reduceToNat, Nat.reduceMul, Nat.reduceBEq, hap]
theorem clone_app (nl : Bool) (qs : List (Int × Int)) (p : Int × Int) (hl : qs.length ≤ 1000) : ∃ r1 st1 g T, run L 60 [sl 2 nl (qs.map prAV)] ⟨[], []⟩ = some (r1, st1) ∧ st1.store = [] ∧ (∀ S : List (List AV), appendAV 2 (keepR S.length 0 st1 r1) [prAV p] ⟨S, keepT st1 r1⟩ = some (.lst g 2 ((qs ++ [p]).map prAV), ⟨S, T⟩)) := by
  by_cases hc : nl = true ∧ qs = []
  · obtain ⟨rfl, rfl⟩ := hc
    exact ⟨_, _, .own 0 1, [1], c60n, rfl, fun S => rfl⟩
  · have hsl : sl 2 nl (qs.map prAV) = .lst .any 2 (qs.map prAV) := by
      unfold sl
      rw [if_neg (by simpa using hc)]
    rw [hsl]
    have h := c60 qs hl
    by_cases h0 : qs = []
    · subst h0
      exact ⟨_, _, .own 0 1, [1], h, rfl, fun S => rfl⟩
    · rw [if_neg h0, if_neg h0] at h
      have ho : ownTop ⟨[], [qs.length]⟩ (.lst (.own 0 qs.length) 2 (qs.map prAV)) = true := by
        simp [ownTop]
      have hk1 : ∀ n, keepR n 0 ⟨[], [qs.length]⟩ (.lst (.own 0 qs.length) 2 (qs.map prAV)) = .lst (.own 0 qs.length) 2 (qs.map prAV) := fun n => by
        simp only [keepR, ho, if_true]
      have hk2 : keepT ⟨[], [qs.length]⟩ (.lst (.own 0 qs.length) 2 (qs.map prAV)) = [qs.length] := by
        simp only [keepT, ho, if_true]
      refine ⟨_, _, .own 0 (qs.length + 1), [qs.length + 1], h, rfl, fun S => ?_⟩
      rw [hk1, hk2]
      have hg : qs.length + 1 ≤ maxGrow := by unfold maxGrow; omega
      simp only [appendAV, if_true, List.length_map, List.length_cons, List.length_nil, Nat.zero_add, hg]
      simp

/-- The other book. -/
theorem reg11_ok (env : Env) (X : List (List AV)) (bb pb : Nat) (n : Int) (nl : Bool) (qs : List (Int × Int)) (hl : qs.length ≤ 1000) (p : Int × Int) (h7 : env.get 7 = .ptr bb 0) (h10 : env.get 10 = .ptr pb 0) (hX7 : X[bb]? = some [I n, sl 2 nl (qs.map prAV)]) (hXp : X[pb]? = some [I p.1, I p.2]) :
    ∃ Y en g T, codeAV pure (run L) lim reg11 env ⟨X, []⟩ = some (.normal, en, ⟨Y ++ [[I n, .lst g 2 ((qs ++ [p]).map prAV)]], T⟩) ∧ Y[bb]? = some [I n, sl 2 nl (qs.map prAV)] ∧ en.get 7 = .ptr bb 0 ∧ en.get 11 = .ptr Y.length 0 := by
  obtain ⟨r1, st1, g, T, h60, hs1, happ⟩ := clone_app nl qs p hl
  obtain ⟨S1, T1⟩ := st1
  simp only at hs1
  subst hs1
  have hap := happ X
  have hpr : prAV p = .agg [I p.1, I p.2] := rfl
  rw [hpr] at hap
  simp only [keepR, keepT, ownTop] at hap
  have s1 := set_end X [I 0, .v (.slice none 0 0)] [I n, .lst g 2 ((qs ++ [p]).map prAV)]
  have g5 := get_end1 X [I 0, .v (.slice none 0 0)]
  refine ⟨X, ?_⟩
  simp only [reg11, go_sem, reduceIte, Nat.reduceEqDiff, Nat.reduceAdd, Nat.reduceSub, Nat.reduceLeDiff, Nat.reduceLT, reduceCtorEq, Int.reduceLT, Int.reduceLE, Int.reduceEq, Int.reduceBEq, Int.reduceSub, Int.reduceAdd, Int.reduceMul, Int.reduceNeg, Int.reduceToNat, Nat.reduceMul, Nat.reduceBEq, h7, h10, hX7, hXp, loadAV, storeAV, h60, hap, s1, g5, show pure 60 = false from rfl, shStore, List.append_nil]
  exact ⟨_, _, _, rfl, by simp only [go_sem, reduceIte, Nat.reduceEqDiff, Nat.reduceAdd, Nat.reduceSub, Nat.reduceLeDiff, Nat.reduceLT, reduceCtorEq, Int.reduceLT, Int.reduceLE, Int.reduceEq, Int.reduceBEq, Int.reduceSub, Int.reduceAdd, Int.reduceMul, Int.reduceNeg, Int.reduceToNat, Nat.reduceMul, Nat.reduceBEq, h7], by simp only [go_sem, reduceIte, Nat.reduceEqDiff, Nat.reduceAdd, Nat.reduceSub, Nat.reduceLeDiff, Nat.reduceLT, reduceCtorEq, Int.reduceLT, Int.reduceLE, Int.reduceEq, Int.reduceBEq, Int.reduceSub, Int.reduceAdd, Int.reduceMul, Int.reduceNeg, Int.reduceToNat, Nat.reduceMul, Nat.reduceBEq]⟩
theorem run_argsM {f : FuncId} {fn : IF} (hf : L.fns f = some fn) (hp : L.pure f = true) {args args' : List AV} (st : St) (h : pubs args = pubs args') : run L f args st = run L f args' st := by
  rw [run_pure hf hp, run_pure hf hp, h]
theorem end11_ok (env : Env) (X : List (List AV)) (T : List Nat) (bb cb : Nat) (n : Nat) (nl : Bool) (qs : List (Int × Int)) (p : Int × Int) (g : Tag) (h7 : env.get 7 = .ptr bb 0) (h11 : env.get 11 = .ptr cb 0) (hX7 : X[bb]? = some [I n, sl 2 nl (qs.map prAV)]) (hXc : X[cb]? = some [I n, .lst g 2 ((qs ++ [p]).map prAV)])
    (l m v w : List Int) (e1 : firstV (n : Int) qs = (l, 0)) (e2 : firstV (n : Int) (qs ++ [p]) = (m, 0)) (e3 : hv (n : Int) qs = (v, 0)) (e4 : hv (n : Int) (qs ++ [p]) = (w, 0))
    (f1 : l.length ≤ m.length) (f2 : m.length ≤ l.length + 1) (f3 : m.length ≤ 7) (v1 : v.length ≤ 7) (w1 : w.length ≤ 7) (t1 : totalV v n = sumL v) (t2 : totalV w n = sumL w) (z1 : 0 ≤ sumL v) (z2 : sumL v ≤ sumL w) (z3 : sumL w ≤ sumL v + 2) (z4 : sumL w ≤ 14) :
    ∃ en, codeAV pure (run L) lim end11 env ⟨X, T⟩ = some (.ret, en, ⟨X, T⟩) ∧ en.get 6 = B true := by
  have hne : (qs ++ [p]).map prAV ≠ [] := by simp
  have hp : pubs [.agg [I (n : Int), .lst g 2 ((qs ++ [p]).map prAV)]] = pubs [bkAV true (n : Int) (qs ++ [p])] := by
    have e : bkAV true (n : Int) (qs ++ [p]) = .agg [I (n : Int), .lst .any 2 ((qs ++ [p]).map prAV)] := by
      rw [← sl_ne (nl := true) hne]
    rw [e]
    simp only [pubs, pub]
  have h17a : ∀ st, run L 17 [.agg [I (n : Int), sl 2 nl (qs.map prAV)]] st = some (.tup [sl 1 true (l.map I), I 0], st) := fun st => by
    have := c17 nl (n : Int) qs st
    rw [e1] at this
    exact this
  have h17b : ∀ st, run L 17 [.agg [I (n : Int), .lst g 2 ((qs ++ [p]).map prAV)]] st = some (.tup [sl 1 true (m.map I), I 0], st) := fun st => by
    have := c17 true (n : Int) (qs ++ [p]) st
    rw [e2] at this
    rw [← this]
    exact run_argsM (fn := ir17) rfl rfl st hp
  have h26a : ∀ st, run L 26 [.agg [I (n : Int), sl 2 nl (qs.map prAV)]] st = some (.tup [sl 1 true (v.map I), I 0], st) := fun st => by
    have := c26 nl (n : Int) qs st
    rw [e3] at this
    exact this
  have h26b : ∀ st, run L 26 [.agg [I (n : Int), .lst g 2 ((qs ++ [p]).map prAV)]] st = some (.tup [sl 1 true (w.map I), I 0], st) := fun st => by
    have := c26 true (n : Int) (qs ++ [p]) st
    rw [e4] at this
    rw [← this]
    exact run_argsM (fn := ir26) rfl rfl st hp
  have k1 : ∀ st, run L 45 [sl 1 true (v.map I), I (n : Int)] st = some (I (sumL v), st) := fun st => by rw [c45 true v (by omega) n st, t1]
  have k2 : ∀ st, run L 45 [sl 1 true (w.map I), I (n : Int)] st = some (I (sumL w), st) := fun st => by rw [c45 true w (by omega) n st, t2]
  have q1 : ((l.length : Int) ≤ (m.length : Int)) = True := eq_true (by omega)
  have q2 := succ64 l.length (by omega)
  have q3 : ((m.length : Int) ≤ ((l.length + 1 : Nat) : Int)) = True := eq_true (by omega)
  have q4 : ((0 : Int) ≤ sumL v) = True := eq_true z1
  have q5 : (sumL v ≤ sumL w) = True := eq_true z2
  have q6 : IntKind.i64.wrap (sumL v + 2) = sumL v + 2 := wrap64 _ (by omega) (by omega)
  have q7 : (sumL w ≤ sumL v + 2) = True := eq_true z3
  clear e1 e2 e3 e4 t1 t2 hp
  generalize sumL v = sv at *
  generalize sumL w = sw at *
  simp only [end11, go_sem, reduceIte, Nat.reduceEqDiff, Nat.reduceAdd, Nat.reduceSub, Nat.reduceLeDiff, Nat.reduceLT, reduceCtorEq, Int.reduceLT, Int.reduceLE, Int.reduceEq, Int.reduceBEq, Int.reduceSub, Int.reduceAdd, Int.reduceMul, Int.reduceNeg, Int.reduceToNat, Nat.reduceMul, Nat.reduceBEq, h7, h11, hX7, hXc, loadAV, h17a, h17b, h26a, h26b, k1, k2, q1, q2, q3, q4, q5, q6, q7, c16, List.length_map]
  exact ⟨_, rfl, by simp only [go_sem, reduceIte, Nat.reduceEqDiff, Nat.reduceAdd, Nat.reduceSub, Nat.reduceLeDiff, Nat.reduceLT, reduceCtorEq, Int.reduceLT, Int.reduceLE, Int.reduceEq, Int.reduceBEq, Int.reduceSub, Int.reduceAdd, Int.reduceMul, Int.reduceNeg, Int.reduceToNat, Nat.reduceMul, Nat.reduceBEq]⟩


/-! ### FactMore -/
theorem shVs_B (n : Nat) (xs : List Int) : shVs n (xs.map B8) = xs.map B8 := by
  induction xs with
  | nil => simp only [List.map_nil, shVs]
  | cons x r ih => simp only [List.map_cons, shVs, shV, ih]
theorem shVs_pr (n : Nat) : ∀ ps : List (Int × Int), shVs n (prC ps) = prC ps
  | [] => by show shVs n [] = []; simp only [shVs]
  | p :: r => by rw [prC_cons]; simp only [shVs, shV, shVs_pr n r]
theorem slice_nil0 : sliceAV 2 (.v (.slice none 0 0)) none (some (I 0)) none = some (.v (.slice none 0 0)) := by
  simp only [sliceAV, natOr, natOf]
  simp
theorem frzL4 {A B C D F G C0 : List AV} {J : List (List AV)} (hne : C0 ≠ []) (env : Env) : frzL 4 env ⟨A :: B :: C :: D :: C0 :: F :: G :: J, []⟩ = (frzEnv 4 C0 env, ⟨frzVs 4 C0 A :: frzVs 4 C0 B :: frzVs 4 C0 C :: frzVs 4 C0 D :: [] :: frzVs 4 C0 F :: frzVs 4 C0 G :: frzStore 4 C0 J, []⟩) := by
  cases C0 with
  | nil => exact absurd rfl hne
  | cons c cs => rfl
theorem c11 (zs : List Int) (hzl : zs.length = 22) (hz : ∀ a ∈ zs, Byte a) (a b : Int) (ha : Byte a) (hb : Byte b) (st : St) : run L 11 [qAV zs, B8 a, B8 b] st = some (B true, st) := by
  rw [run_pure (fn := ir11) rfl rfl, ir11_eq]
  have h44 := c44w zs hzl hz 2 (.inr rfl)
  obtain ⟨n, hN, _, hn2, hn7, hlen, hps, _, hnd, _⟩ := made_ok (.inr rfl : (2 : Int) = 1 ∨ (2 : Int) = 2) zs
  rw [hN] at h44
  have hn2 : 2 ≤ n := by omega
  generalize madeP 2 zs = ps at *
  unfold Byte at ha hb
  have hpok := moreP_ok (n := (n : Int)) (a := a) (b := b) (by omega) ha.1 hb.1
  obtain ⟨l, m, v, w, e1, e2, e3, e4, f1, f2, f3, v1, w1, t1, t2, z1, z2, z3, z4⟩ := more_law hn2 hn7 (kept_len ps (moreP n a b)) (fun q hq => hps q ((kept_sub ps _).subset hq)) (hnd.sublist (kept_sub ps _)) hpok (kept_not hnd)
  have hend := fun env X T bb cb nl g h7 h11 hX7 hXc => end11_ok env X T bb cb n nl (keptQ ps (moreP n a b)) (moreP n a b) g h7 h11 hX7 hXc l m v w e1 e2 e3 e4 f1 f2 f3 (by omega) (by omega) t1 t2 z1 z2 z3 z4
  have hreg := fun env X bb pb nl => reg11_ok env X bb pb n nl (keptQ ps (moreP n a b)) (by have := kept_len ps (moreP n a b); omega) (moreP n a b)
  have htk : (zs.map B8).take 22 = zs.map B8 := List.take_of_length_le (by simp [hzl])
  have r1 := mod_range a n (by omega)
  have r2 := mod_range b (n - 1) (by omega)
  have wa := wrap64 a (by omega) (by omega)
  have wb := wrap64 b (by omega) (by omega)
  have zn : ((n : Int) = 0) = False := eq_false (by omega)
  have w3 : IntKind.i64.wrap ((n : Int) - 1) = (n : Int) - 1 := wrap64 _ (by omega) (by omega)
  have zn1 : ((n : Int) - 1 = 0) = False := eq_false (by omega)
  have ta : a.tmod (n : Int) = a % n := tmod8 (by omega)
  have tb : b.tmod ((n : Int) - 1) = b % (n - 1) := tmod8 (by omega)
  have w1' : IntKind.i64.wrap (a % (n : Int) + 1) = a % n + 1 := wrap64 _ (by omega) (by omega)
  have w2' : IntKind.i64.wrap (a % (n : Int) + 1 + b % ((n : Int) - 1)) = a % n + 1 + b % (n - 1) := wrap64 _ (by omega) (by omega)
  have ty : (a % (n : Int) + 1 + b % ((n : Int) - 1)).tmod (n : Int) = moreY n a b := tmod8 (by omega)
  have hm1 : min (a % (n : Int)) (moreY n a b) = (moreP n a b).1 := rfl
  have hm2 : max (a % (n : Int)) (moreY n a b) = (moreP n a b).2 := rfl
  have hQ : Inert (zs.map B8) := inert_map (fun a => Value.int .u8 a) zs
  have hkd : keptQ ps (moreP n a b) = (delP ps (moreP n a b)).take 9 := rfl
  generalize moreP n a b = p at *
  have hB := shVs_B 1 zs
  generalize hZ : zs.map B8 = Z at *
  have hqa : qAV zs = .agg Z := by rw [← hZ]
  have hzl2 : Z.length = 22 := by rw [← hZ, List.length_map, hzl]
  have hpubz : pubs Z = Z := by rw [← hZ]; exact pubsB zs
  have hstz : Z.all storable = true := by rw [← hZ]; exact storableB zs
  rw [hqa] at h44 ⊢
  by_cases hX : ps = []
  · have hk : keptQ ps p = [] := by rw [hkd, hX]; rfl
    have eA : wpA 3 ps = .v (.slice none 0 0) := by rw [hX]; rfl
    have eS : wpS ps = [] := by rw [hX]; rfl
    rw [eA, eS] at h44
    rw [hk] at hreg hend
    have h58 := fun st => c58n 5 st
    have hsl := slice_nil0
    have hm0 : min (0 : Int) 9 = 0 := by decide
    simp only [ir11, go_sem, reduceIte, Nat.reduceEqDiff, Nat.reduceAdd, Nat.reduceSub, Nat.reduceLeDiff, Nat.reduceLT, reduceCtorEq, Int.reduceLT, Int.reduceLE, Int.reduceEq, Int.reduceBEq, Int.reduceSub, Int.reduceAdd, Int.reduceMul, Int.reduceNeg, Int.reduceToNat, Nat.reduceMul, Nat.reduceBEq, htk, hzl2, hpubz, hstz, h44, keepR, keepT, shStore, shV, shVs, hB, wa, wb, zn, zn1, w3, ta, tb, w1', w2', ty, hm1, hm2, h58, hsl, hm0, show pure 44 = false from rfl, show pure 58 = false from rfl, code_frz, frzAV, frzW, frzD, frzT, frzLs, rslsOf, loadAV, storeAV]
    generalize hg : codeAV pure (run L) lim reg11 _ _ = o
    obtain ⟨Y, en, g, T, rfl, hY, g7, g11⟩ : ∃ Y en g T, o = some (.normal, en, (⟨Y ++ [[I n, .lst g 2 (([] ++ [p]).map prAV)]], T⟩ : St)) ∧ Y[4]? = some [I n, sl 2 true (([] : List (Int × Int)).map prAV)] ∧ en.get 7 = .ptr 4 0 ∧ en.get 11 = .ptr Y.length 0 := by
      rw [← hg]
      exact hreg _ _ 4 5 true (by simp only [go_sem, reduceIte, Nat.reduceEqDiff, Nat.reduceAdd, Nat.reduceSub, Nat.reduceLeDiff, Nat.reduceLT, reduceCtorEq, Int.reduceLT, Int.reduceLE, Int.reduceEq, Int.reduceBEq, Int.reduceSub, Int.reduceAdd, Int.reduceMul, Int.reduceNeg, Int.reduceToNat, Nat.reduceMul, Nat.reduceBEq]) (by simp only [go_sem, reduceIte, Nat.reduceEqDiff, Nat.reduceAdd, Nat.reduceSub, Nat.reduceLeDiff, Nat.reduceLT, reduceCtorEq, Int.reduceLT, Int.reduceLE, Int.reduceEq, Int.reduceBEq, Int.reduceSub, Int.reduceAdd, Int.reduceMul, Int.reduceNeg, Int.reduceToNat, Nat.reduceMul, Nat.reduceBEq]) rfl rfl
    clear hg
    obtain ⟨en2, he, h6⟩ := hend en _ T 4 Y.length true g g7 g11 (get_in hY _) (get_end1 _ _)
    simp only [List.nil_append, List.map_cons, List.map_nil] at he
    simp only [go_sem, reduceIte, Nat.reduceEqDiff, Nat.reduceAdd, Nat.reduceSub, Nat.reduceLeDiff, Nat.reduceLT, reduceCtorEq, Int.reduceLT, Int.reduceLE, Int.reduceEq, Int.reduceBEq, Int.reduceSub, Int.reduceAdd, Int.reduceMul, Int.reduceNeg, Int.reduceToNat, Nat.reduceMul, Nat.reduceBEq, he, h6]
  · have hpos : 1 ≤ ps.length := List.length_pos_iff.2 hX
    have eA := wpA_ne (l := 3) hX
    have eS := wpS_ne hX
    rw [eA, eS] at h44
    have hP := shVs_pr 1 ps
    obtain ⟨j, tl, hdl, h58⟩ := c58x [Z, Z, [I n, .rsl 4 0 ps.length ps.length 2 true], [I n, .rsl 4 0 ps.length ps.length 2 true], prC ps, [I n, .rsl 4 0 ps.length ps.length 2 true], [I p.1, I p.2]] [] 4 6 ps hpos (by omega) rfl p (by omega) rfl hnd
    simp only [List.set_cons_succ, List.set_cons_zero, List.cons_append, List.nil_append] at h58
    have hd1 : (delP ps p).length ≤ ps.length := (delP_sub ps p).length_le
    have hmin : min ((delP ps p).length : Int) 9 = ((min (delP ps p).length 9 : Nat) : Int) := by omega
    have hsl := slice_hi2 4 (delP ps p).length ps.length (min (delP ps p).length 9) (by omega) hd1
    have hz1 := frz_cut 4 (delP ps p ++ tl) ps.length ps.length (by omega) (Nat.le_refl _)
    have hz2 := frz_cut 4 (delP ps p ++ tl) (min (delP ps p).length 9) ps.length (by rw [hdl]; omega) (by omega)
    have hkt : (delP ps p ++ tl).take (min (delP ps p).length 9) = keptQ ps p := by
      rw [List.take_append_of_le_length (by omega), hkd]
      by_cases h9 : (delP ps p).length ≤ 9
      · rw [Nat.min_eq_left h9, List.take_of_length_le (Nat.le_refl _), List.take_of_length_le h9]
      · rw [Nat.min_eq_right (by omega)]
    rw [hkt] at hz2
    have hDne : delP ps p ++ tl ≠ [] := by intro e; rw [e] at hdl; simp at hdl; omega
    have hfz := fun A B C D F G E => frzL4 (A := A) (B := B) (C := C) (D := D) (F := F) (G := G) (J := j) (prC_ne hDne) E
    generalize prC (delP ps p ++ tl) = C0 at *
    generalize prC ps = C1 at *
    generalize min (delP ps p).length 9 = mm at *
    simp only [ir11, go_sem, reduceIte, Nat.reduceEqDiff, Nat.reduceAdd, Nat.reduceSub, Nat.reduceLeDiff, Nat.reduceLT, reduceCtorEq, Int.reduceLT, Int.reduceLE, Int.reduceEq, Int.reduceBEq, Int.reduceSub, Int.reduceAdd, Int.reduceMul, Int.reduceNeg, Int.reduceToNat, Nat.reduceMul, Nat.reduceBEq, htk, hzl2, hpubz, hstz, h44, keepR, keepT, shStore, shV, shVs, hB, hP, wa, wb, zn, zn1, w3, ta, tb, w1', w2', ty, hm1, hm2, h58, hsl, hmin, show pure 44 = false from rfl, show pure 58 = false from rfl, code_frz, frzAV, frzW, frzD, frzT, frzLs, rslsOf, hfz, hz1, hz2, frzEnv_get, frzVs, frzV_v, frzV_ptr, frzV_sl, hQ.2.2.2.2, loadAV, storeAV]
    generalize hg : codeAV pure (run L) lim reg11 _ _ = o
    obtain ⟨Y, en, g, T, rfl, hY, g7, g11⟩ : ∃ Y en g T, o = some (.normal, en, (⟨Y ++ [[I n, .lst g 2 ((keptQ ps p ++ [p]).map prAV)]], T⟩ : St)) ∧ Y[5]? = some [I n, sl 2 false ((keptQ ps p).map prAV)] ∧ en.get 7 = .ptr 5 0 ∧ en.get 11 = .ptr Y.length 0 := by
      rw [← hg]
      exact hreg _ _ 5 6 false (by simp only [go_sem, reduceIte, Nat.reduceEqDiff, Nat.reduceAdd, Nat.reduceSub, Nat.reduceLeDiff, Nat.reduceLT, reduceCtorEq, Int.reduceLT, Int.reduceLE, Int.reduceEq, Int.reduceBEq, Int.reduceSub, Int.reduceAdd, Int.reduceMul, Int.reduceNeg, Int.reduceToNat, Nat.reduceMul, Nat.reduceBEq, frzEnv_get, frzV_ptr]) (by simp only [go_sem, reduceIte, Nat.reduceEqDiff, Nat.reduceAdd, Nat.reduceSub, Nat.reduceLeDiff, Nat.reduceLT, reduceCtorEq, Int.reduceLT, Int.reduceLE, Int.reduceEq, Int.reduceBEq, Int.reduceSub, Int.reduceAdd, Int.reduceMul, Int.reduceNeg, Int.reduceToNat, Nat.reduceMul, Nat.reduceBEq, frzEnv_get, frzV_ptr]) rfl rfl
    clear hg
    obtain ⟨en2, he, h6⟩ := hend en _ T 5 Y.length false g g7 g11 (get_in hY _) (get_end1 _ _)
    simp only [go_sem, reduceIte, Nat.reduceEqDiff, Nat.reduceAdd, Nat.reduceSub, Nat.reduceLeDiff, Nat.reduceLT, reduceCtorEq, Int.reduceLT, Int.reduceLE, Int.reduceEq, Int.reduceBEq, Int.reduceSub, Int.reduceAdd, Int.reduceMul, Int.reduceNeg, Int.reduceToNat, Nat.reduceMul, Nat.reduceBEq, he, h6]
end Go.Proofs.YtpmbfgogpcjdlaaDoor.Vm
