/- What is proved: what each function of this program computes, as equations on the evaluator. No condition. -/
import Derived.Test.YtdnjagnechibhaaGreatDoorC1
import Derived.Test.YtdnjagnechibhaaGreatDoorT0
set_option linter.all false
namespace Go.Proofs.YtdnjagnechibhaaGreatDoor.Vm
open Go Go.Ev
set_option maxRecDepth 100000
attribute [local go_sem] cells_any storable_any ren1_any shaped_ptr cells_ptr storable_ptr ren1_ptr shaped_eptr cells_eptr storable_eptr ren1_eptr shaped_rsl cells_rsl storable_rsl ren1_rsl shaped_int cells_int storable_int ren1_int shaped_bool cells_bool storable_bool ren1_bool shaped_nils cells_nils storable_nils ren1_nils shaped_lst cells_lst storable_lst shaped_fn cells_fn storable_fn ren1_fn shaped_ifc cells_ifc storable_ifc ren1_ifc shaped_agg cells_agg storable_agg ren1_agg shaped_tup cells_tup storable_tup ren1_tup shaped_nif cells_nif storable_nif ren1_nif ren1_lany ren1_lfull ren1_lown len_lst len_rsl len_nil load_ptr load_eptr isRsl_lst isRsl_nil isRsl_rsl elems_nil elems_lst elems_sl isRsl_sl body_eq bodyK_normal bodyK_ret resK_some leaveK_some only_some code_skip code_exit code_ret code_ops code_seq code_cond code_block seqK_normal seqK_ret seqK_exit condK_true condK_false blockK_normal blockK_ret blockK_exit opsK_some ops_nil ops_cons wantK_true wantK_false stepK_some pubs pub pub_sl params okRef_loc storable_loc shaped_loc cells_loc isRsl_loc elems_loc len_loc untips untip untip_sl wantedAV setElems withO isAgg_v isAgg_agg isAgg_lst isAgg_ptr isAgg_fn isAgg_ifc isAgg_rsl isAgg_sl isAgg_loc List.replicate_succ List.replicate_zero opAV valAV aval avals ofVal Env.get setD canon gcAV renAll renEnv renStore renCells ren1_sl cutSt okEnv okStore okRefs okRef okRef_sl bin_int bin_bool bin_lst bin_rsl bin_nil bin_agg cellsEq cellEq isShift intOp boolOp min_int max_int beq_int bne resAV tupAV leave_eq fin_sl fin_loc fins fin_v fin_lst fin_agg fin_tup fin_fn storeAV readCells putCells cells_sl shaped_sl storable_sl fieldAddrAV len_sl goI List.getElem?_cons_zero List.getElem?_cons_succ List.getElem?_nil Option.bind_some Option.map_some List.length_cons List.length_nil List.all_cons List.all_nil Bool.and_true Bool.true_and Bool.and_false Bool.false_and and_true true_and and_false false_and Bool.false_eq_true List.set_cons_zero List.set_cons_succ List.append_nil List.nil_append List.cons_append List.take_zero List.take_succ_cons List.take_nil List.drop_zero List.drop_succ_cons List.map_cons List.map_nil decide_true decide_false beq_self_eq_true Bool.not_true Bool.not_false or_true true_or or_false false_or Nat.zero_add Nat.add_zero Nat.le_refl Nat.lt_irrefl decide_eq_true_eq eq_self_iff_true not_true_eq_false not_false_eq_true List.getD_cons_zero code_loop Nat.zero_le Nat.not_lt_zero Bool.true_beq Bool.false_beq beq_true beq_false ge_iff_le gt_iff_lt keepR keepT ownTop Lpure pus Option.map_none assert_ifc assert_nil idxA_ptr idxA_eptr idxV_agg Int.cast_ofNat_Int Nat.mul_one Nat.zero_mul Int.toNat_natCast Int.toNat_zero setParts withO2 hasKey eqnil_sl nenil_sl eqnil_loc nenil_loc map_nil_iff elemsM_nil elemsM_lst elemsM_sl elemsM_loc elemsM_rsl elemsM_agg setElemsR pubR_v pubR_rsl pubE_v pubE_rsl okRefs_ints renCells_ints
attribute [local go_sem] okRef_tip storable_tip shaped_tip cells_tip isAgg_tip

theorem c15z (st : St) : run L 15 [.lst .full 1 [I 0]] st = some (.lst .any 1 [I 0], st) := by
  have h := c15 false [0] st
  rw [sl_ne (by simp)] at h
  simp only [List.map_cons, List.map_nil] at h
  exact (run_args (fn := ir15) (args := [.lst .full 1 [I 0]]) (args' := [.lst .any 1 [I 0]]) rfl rfl st rfl).trans h
theorem frz_arg (S : List (List AV)) (T : List Nat) (k : Int) (i m : Nat) (hm : 1 ≤ m) (xs : List AV) :
    ∃ S2, frzArgs (rslsOf [I k, .lst (.own i m) 1 xs, .rsl S.length 0 m m 1 false]) [I k, .lst (.own i m) 1 xs, .rsl S.length 0 m m 1 false] ⟨S ++ [(List.replicate m (0 : Int)).map I], T⟩ = ([I k, .lst (.own i m) 1 xs, .lst .any 1 ((List.replicate m (0 : Int)).map I)], ⟨S2, T⟩) := by
  obtain ⟨j, rfl⟩ : ∃ j, m = j + 1 := ⟨m - 1, by omega⟩
  have hg : (S ++ [(List.replicate (j + 1) (0 : Int)).map I])[S.length]? = some (I 0 :: (List.replicate j (0 : Int)).map I) := by simp [List.replicate_succ]
  have hp : pubs (I 0 :: (List.replicate j (0 : Int)).map I) = (List.replicate (j + 1) (0 : Int)).map I := by
    rw [show I 0 :: (List.replicate j (0 : Int)).map I = (List.replicate (j + 1) (0 : Int)).map I by rw [List.replicate_succ]; rfl]
    exact pubs_map I (fun _ => rfl) _
  have hq : group false 1 (j + 1) ((List.replicate (j + 1) (0 : Int)).map I) = (List.replicate (j + 1) (0 : Int)).map I := by
    have := groupm_one I (fun _ => rfl) (List.replicate (j + 1) (0 : Int))
    simpa using this
  refine ⟨(frzStore S.length (I 0 :: (List.replicate j (0 : Int)).map I) (S ++ [(List.replicate (j + 1) (0 : Int)).map I])).set S.length [], ?_⟩
  simp only [rslsOf, frzArgs, List.map_cons, List.map_nil, frzA, hg, frzV, frzL]
  rw [if_pos ⟨trivial, by simp, .inr trivial, Nat.le_refl _⟩, List.drop_zero, hp, hq]
set_option maxHeartbeats 2000000 in
theorem c3n (n k : Nat) (hn : 1 ≤ n ∧ n ≤ 3) (hk : 1 ≤ k ∧ k ≤ 8) (a b : Int) (ha : Byte a) (hb : Byte b) (ea : 1 + a % 3 = (n : Int)) (eb : 1 + b % 8 = (k : Int)) (ns : List Nat) (h8 : ns.length = 8) (hbn : ∀ x ∈ ns, x ≤ 255) (st : St) :
    run L 3 [B8 a, B8 b, .agg ((ofN ns).map B8)] st = some (B true, st) := by
  rw [run_pure (fn := ir3) rfl rfl]
  unfold Byte at ha hb
  have wa := wrap64 a (by omega) (by omega)
  have wb := wrap64 b (by omega) (by omega)
  have ta := tmod8 (n := 3) ha.1
  have tb := tmod8 (n := 8) hb.1
  have wn := wrap64 (n : Int) (by omega) (by omega)
  have wk := wrap64 (k : Int) (by omega) (by omega)
  have hl8 : ((ofN ns).map B8).length = 8 := by simpa using h8
  have hpb := pubsB (ofN ns)
  have hst := storableB (ofN ns)
  have hmk : makeAV 1 false [nilS] ⟨[(ofN ns).map B8], []⟩ (I n) (I n) = some (.rsl 1 0 n n 1 false, ⟨zS0 (ofN ns) n 0, []⟩) := by
    have : n ≤ maxGrow := by unfold maxGrow; omega
    have e : (List.replicate n [nilS]).flatten = zO n 0 := by
      rcases (show n = 1 ∨ n = 2 ∨ n = 3 by omega) with rfl | rfl | rfl <;> rfl
    simp only [makeAV, natOf, Int.toNat_natCast, Int.natCast_nonneg, if_true, Nat.le_refl, true_and, if_pos this, e]
    rfl
  have hlen0 : (zS0 (ofN ns) n 0).length = 2 := rfl
  have htk0 : List.take 2 (zS0 (ofN ns) n 0) = zS0 (ofN ns) n 0 := rfl
  have hz0 : ∀ a ∈ zO n 0, Inert 2 0 a := fun a ha => by
    obtain ⟨x, hx, rfl⟩ := List.mem_map.1 ha
    rw [if_neg (by omega)]; exact ⟨rfl, fun _ _ => rfl⟩
  have hin0 : InertS 2 0 (zS0 (ofN ns) n 0) := fun cs hc => by
    simp only [zS0, List.replicate_zero, List.mem_cons, List.not_mem_nil, or_false] at hc
    rcases hc with rfl | rfl
    · exact inert_B _ _ _
    · exact hz0
  have hok0 := hin0.ok
  have hren0 := hin0.ren
  simp only [ir3, go_sem, reduceIte, Nat.reduceEqDiff, Nat.reduceAdd, Nat.reduceSub, Nat.reduceLeDiff, Nat.reduceLT, reduceCtorEq, Int.reduceLT, Int.reduceLE, Int.reduceEq, Int.reduceBEq, Int.reduceSub, Int.reduceAdd, Int.reduceMul, Int.reduceNeg, Int.reduceToNat, Nat.reduceMul, Nat.reduceBEq, wa, wb, ta, tb, ea, eb, wn, wk, hmk, hpb, hst]
  generalize hg : lim (headed pure (run L) true _ lp3_0 _ _) _ _ = o
  obtain ⟨x, en, s, rfl, h2⟩ : ∃ x en s, o = some (x, en, s) ∧ _ := by rw [← hg]; exact loop3_0 n k hn (ofN ns) 0 (Nat.zero_le _) _ _ (by simp only [go_sem, reduceIte, Nat.reduceEqDiff, Nat.reduceAdd, Nat.reduceSub, Nat.reduceLeDiff, Nat.reduceLT, reduceCtorEq, Int.reduceLT, Int.reduceLE, Int.reduceEq, Int.reduceBEq, Int.reduceSub, Int.reduceAdd, Int.reduceMul, Int.reduceNeg, Int.reduceToNat, Nat.reduceMul, Nat.reduceBEq, hlen0, htk0, hok0, hren0, Int.natCast_zero] <;> rfl)
  clear hg
  obtain ⟨rfl, f5, f7, f8, f9, rfl⟩ := h2
  have hz : zS0 (ofN ns) n n = zS (ofN ns) n (tabL n []) := by
    simp [zS0, zS, tabL, Function.comp_def, List.map_const']
  rw [hz]
  have hlenS : (zS (ofN ns) n (tabL n [])).length = 2 + n := by rw [zS_len]; simp [tabL]
  have htkS : List.take (2 + n) (zS (ofN ns) n (tabL n [])) = zS (ofN ns) n (tabL n []) := List.take_of_length_le (by omega)
  have hinS := inert_zS (2 + n) 0 (ofN ns) n (tabL n []) (Nat.le_refl _)
  have hokS := hinS.ok
  have hrenS := hinS.ren
  have h1lo : (1 < 2 + n) = True := eq_true (by omega)
  have h0lo : (0 < 2 + n) = True := eq_true (by omega)
  have hsl : sliceaAV 8 1 false (.ptr 0 0) none (some (I k)) none = some (.rsl 0 0 k 8 1 false) := by
    have : k ≤ 8 := hk.2
    simp [sliceaAV, natOr, natOf, this]
  simp only [go_sem, reduceIte, Nat.reduceEqDiff, Nat.reduceAdd, Nat.reduceSub, Nat.reduceLeDiff, Nat.reduceLT, reduceCtorEq, Int.reduceLT, Int.reduceLE, Int.reduceEq, Int.reduceBEq, Int.reduceSub, Int.reduceAdd, Int.reduceMul, Int.reduceNeg, Int.reduceToNat, Nat.reduceMul, Nat.reduceBEq, f5, f7, f8, f9, hsl]
  generalize hg : lim (headed pure (run L) true _ lp3_2 _ _) _ _ = o
  obtain ⟨x, en, s, rfl, h2⟩ : ∃ x en s, o = some (x, en, s) ∧ _ := by rw [← hg]; exact loop3_2 n k hn hk.2 ns h8 hbn _ hlenS 0 (Nat.zero_le _) _ _ (by simp only [go_sem, reduceIte, Nat.reduceEqDiff, Nat.reduceAdd, Nat.reduceSub, Nat.reduceLeDiff, Nat.reduceLT, reduceCtorEq, Int.reduceLT, Int.reduceLE, Int.reduceEq, Int.reduceBEq, Int.reduceSub, Int.reduceAdd, Int.reduceMul, Int.reduceNeg, Int.reduceToNat, Nat.reduceMul, Nat.reduceBEq, f7, f8, f9, hlenS, htkS, hokS, hrenS, h1lo, h0lo, Int.natCast_zero] <;> rfl)
  clear hg
  obtain ⟨rfl, f7, f8, f9, rfl⟩ := h2
  have hlt : (ns.take k).length = k := by rw [List.length_take]; omega
  have hT := tabL_ok n hn (ns.take k) (by omega)
  obtain ⟨ev1, ev2⟩ := tm_even n hn (ns.take k)
  obtain ⟨l1, l2, l3, l4⟩ := tm_law n hn (ns.take k) (by omega)
  rw [hlt] at ev1 ev2 l3
  generalize tabL n (ns.take k) = t at *
  obtain ⟨env', hfz, e9, ev⟩ := frz_table (ofN ns) n hn t hT.len hT.rows en f9
  have e7 := ev 7 _ f7
  have e8 := ev 8 _ f8
  have hnn : (n - 1) * (n - 1) ≤ 4 := by
    have : n - 1 ≤ 2 := by omega
    exact Nat.le_trans (Nat.mul_le_mul this this) (by decide)
  have h10 := fun st => c10 n t hT (k : Int) ev1 ev2 st
  have h11 := fun st => c11 n t hT (k : Int) ev1 ev2 (by omega) st
  generalize hsh : tmSplit 6 t = sh at *
  have z0 : ((sh.length : Int) = 0) = False := eq_false (by omega)
  have w1 : IntKind.i64.wrap ((n : Int) - 1) = ((n - 1 : Nat) : Int) := by rw [wrap64] <;> omega
  have w2 : IntKind.i64.wrap (((n - 1 : Nat) : Int) * ((n - 1 : Nat) : Int)) = (((n - 1) * (n - 1) : Nat) : Int) := by
    rw [← Int.natCast_mul, wrap64] <;> omega
  have w3 : IntKind.i64.wrap ((((n - 1) * (n - 1) : Nat) : Int) + 1) = (((n - 1) * (n - 1) + 1 : Nat) : Int) := succ64 _ (by omega)
  have z1 : (((((n - 1) * (n - 1) + 1 : Nat) : Int)) < (sh.length : Int)) = False := eq_false (by omega)
  generalize hS1 : (ofN ns).map B8 :: List.replicate (n + 1) [] = S1 at *
  have hin1 : InertS S1.length 0 S1 := by
    rw [← hS1]
    intro cs hc
    rw [List.mem_cons] at hc
    rcases hc with rfl | hc
    · exact inert_B _ _ _
    · have := List.eq_of_mem_replicate hc
      subst this
      intro a ha; simp at ha
  have hok1 := hin1.ok
  have hren1 := hin1.ren
  have htk1 : List.take S1.length S1 = S1 := List.take_length
  simp only [go_sem, reduceIte, Nat.reduceEqDiff, Nat.reduceAdd, Nat.reduceSub, Nat.reduceLeDiff, Nat.reduceLT, reduceCtorEq, Int.reduceLT, Int.reduceLE, Int.reduceEq, Int.reduceBEq, Int.reduceSub, Int.reduceAdd, Int.reduceMul, Int.reduceNeg, Int.reduceToNat, Nat.reduceMul, Nat.reduceBEq, code_frz, hfz, e7, e8, e9, h10, h11, len_sl, List.length_map, z0, w1, w2, w3, z1]
  generalize hg : lim (headed pure (run L) true _ lp3_3 _ _) _ _ = o
  obtain ⟨x, en, s, rfl, h2⟩ : ∃ x en s, o = some (x, en, s) ∧ _ := by rw [← hg]; exact loop3_3 (k : Int) sh (by omega) S1 _ rfl hin1 0 none [] ⟨Nat.zero_le _, rfl⟩ _ _ (by simp only [go_sem, reduceIte, Nat.reduceEqDiff, Nat.reduceAdd, Nat.reduceSub, Nat.reduceLeDiff, Nat.reduceLT, reduceCtorEq, Int.reduceLT, Int.reduceLE, Int.reduceEq, Int.reduceBEq, Int.reduceSub, Int.reduceAdd, Int.reduceMul, Int.reduceNeg, Int.reduceToNat, Nat.reduceMul, Nat.reduceBEq, e8, hok1, hren1, htk1, Int.natCast_zero] <;> rfl)
  clear hg
  obtain ⟨rfl, g8, o, T, g19, ho, rfl⟩ := h2
  have hm1 : 1 ≤ sh.length := l1
  obtain ⟨i, rfl⟩ : ∃ i, o = some i := by
    cases o with
    | none => exact absurd ho (by intro h; have : sh.length = 0 := h; omega)
    | some i => exact ⟨i, rfl⟩
  have hxl : (sh.map (·.2)).length = sh.length := List.length_map _
  have hx1 : ∀ x ∈ sh.map (·.2), 1 ≤ x := fun x hx => by
    obtain ⟨y, hy, rfl⟩ := List.mem_map.1 hx
    exact l4 y hy
  have hx2 : ∀ x ∈ sh.map (·.2), 1 ≤ x ∧ x ≤ (k : Int) := fun x hx => by
    refine ⟨hx1 x hx, ?_⟩
    obtain ⟨j, hj, rfl⟩ := List.getElem_of_mem hx
    have h0 : ∀ x ∈ sh.map (·.2), 0 ≤ x := fun x hx => by have := hx1 x hx; omega
    have a1 := sum_take_le h0 (j + 1)
    have a2 := sum_take_le h0 j
    rw [tn_sum_take _ j hj] at a1
    omega
  rw [tipX_some, List.length_map, hxl] at g19
  generalize hxs : sh.map (·.2) = xs at *
  have hne : xs.map I ≠ [] := by intro e; have := congrArg List.length e; simp at this; subst this; simp at hxl; omega
  have hnz : (List.replicate sh.length (0 : Int)).map I ≠ [] := by
    intro e; have := congrArg List.length e; rw [List.length_map, List.length_replicate, List.length_nil] at this; omega
  have h12 := fun st => c12t k (by omega) xs sh.length hxl hm1 (by omega) hx2 l3 st
  have h13 := fun st => c13 k (by omega) xs sh.length hxl hm1 (by omega) hx2 l3 st
  simp only [sl_ne hne] at h12
  simp only [sl_ne hne, sl_ne hnz] at h13
  have h12' : ∀ st, run L 12 [I k, .lst (.own i sh.length) 1 (xs.map I)] st = some (.tup [I 1, I 0], st) := fun st => (run_args (fn := ir12) (args := [I k, .lst (.own i sh.length) 1 (xs.map I)]) (args' := [I k, .lst .any 1 (xs.map I)]) rfl rfl st rfl).trans (h12 st)
  have h13' : ∀ st, run L 13 [I k, .lst (.own i sh.length) 1 (xs.map I), .lst .any 1 ((List.replicate sh.length (0 : Int)).map I)] st = some (.tup [.lst .any 1 [I 0], I 0], st) := fun st => (run_args (fn := ir13) (args := [I k, .lst (.own i sh.length) 1 (xs.map I), .lst .any 1 ((List.replicate sh.length (0 : Int)).map I)]) (args' := [I k, .lst .any 1 (xs.map I), .lst .any 1 ((List.replicate sh.length (0 : Int)).map I)]) rfl rfl st rfl).trans (h13 st)
  have hmk2 : makeAV 1 false [I 0] ⟨S1, T⟩ (I sh.length) (I sh.length) = some (.rsl S1.length 0 sh.length sh.length 1 false, ⟨S1 ++ [(List.replicate sh.length (0 : Int)).map I], T⟩) := by
    have hmg : (sh.length : Int) ≤ (maxGrow : Int) := by unfold maxGrow; omega
    rw [make_ints, if_pos ⟨Int.natCast_nonneg _, hmg⟩, Int.toNat_natCast]
  obtain ⟨S2, hfa⟩ := frz_arg S1 T k i sh.length hm1 (xs.map I)
  have h14 := fun st => c14e true true [0] (by simp) st
  have e0 : sl 1 true ([0].map I) = .lst .any 1 [I 0] := rfl
  rw [e0] at h14
  have h15 := c15z
  have h16 := c16
  simp only [go_sem, reduceIte, Nat.reduceEqDiff, Nat.reduceAdd, Nat.reduceSub, Nat.reduceLeDiff, Nat.reduceLT, reduceCtorEq, Int.reduceLT, Int.reduceLE, Int.reduceEq, Int.reduceBEq, Int.reduceSub, Int.reduceAdd, Int.reduceMul, Int.reduceNeg, Int.reduceToNat, Nat.reduceMul, Nat.reduceBEq, g8, g19, h12', hmk2, hfa, h13', h14, h15, h16, hxl, List.length_map]
theorem c3 (a b : Int) (ha : Byte a) (hb : Byte b) (zs : List Int) (hz : zs.length = 8) (hzb : ∀ x ∈ zs, Byte x) (st : St) : run L 3 [B8 a, B8 b, .agg (zs.map B8)] st = some (B true, st) := by
  have m1 := mod_range a 3 (by omega)
  have m2 := mod_range b 8 (by omega)
  obtain ⟨n, hn⟩ : ∃ n : Nat, 1 + a % 3 = (n : Int) := ⟨(1 + a % 3).toNat, by omega⟩
  obtain ⟨k, hk⟩ : ∃ k : Nat, 1 + b % 8 = (k : Int) := ⟨(1 + b % 8).toNat, by omega⟩
  have e : zs = ofN (zs.map Int.toNat) := by
    unfold ofN
    rw [List.map_map]
    apply List.ext_getElem
    · simp
    · intro i h1 h2
      have h := hzb zs[i] (List.getElem_mem _)
      unfold Byte at h
      simp only [List.getElem_map, Function.comp_apply]
      omega
  rw [e]
  exact c3n n k (by omega) (by omega) a b ha hb hn hk _ (by simpa using hz) (fun x hx => by
    obtain ⟨y, hy, rfl⟩ := List.mem_map.1 hx
    have h := hzb y hy
    unfold Byte at h
    omega) st
end Go.Proofs.YtdnjagnechibhaaGreatDoor.Vm
