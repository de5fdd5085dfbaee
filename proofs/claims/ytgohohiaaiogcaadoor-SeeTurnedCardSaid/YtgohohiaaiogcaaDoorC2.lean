/- What is proved: what each function of this program computes, as equations on the evaluator. No condition. -/
import Derived.Test.YtgohohiaaiogcaaDoorC1
import Derived.Test.YtgohohiaaiogcaaDoorS0
set_option linter.all false
namespace Go.Proofs.YtgohohiaaiogcaaDoor.Vm
open Go Go.Ev
set_option maxRecDepth 100000
attribute [local go_sem] cells_any storable_any ren1_any shaped_ptr cells_ptr storable_ptr ren1_ptr shaped_eptr cells_eptr storable_eptr ren1_eptr shaped_rsl cells_rsl storable_rsl ren1_rsl shaped_int cells_int storable_int ren1_int shaped_bool cells_bool storable_bool ren1_bool shaped_nils cells_nils storable_nils ren1_nils shaped_lst cells_lst storable_lst shaped_fn cells_fn storable_fn ren1_fn shaped_ifc cells_ifc storable_ifc ren1_ifc shaped_agg cells_agg storable_agg ren1_agg shaped_tup cells_tup storable_tup ren1_tup shaped_nif cells_nif storable_nif ren1_nif ren1_lany ren1_lfull ren1_lown len_lst len_rsl len_nil load_ptr load_eptr isRsl_lst isRsl_nil isRsl_rsl elems_nil elems_lst elems_sl isRsl_sl body_eq bodyK_normal bodyK_ret resK_some leaveK_some only_some code_skip code_exit code_ret code_ops code_seq code_cond code_block seqK_normal seqK_ret seqK_exit condK_true condK_false blockK_normal blockK_ret blockK_exit opsK_some ops_nil ops_cons wantK_true wantK_false stepK_some pubs pub pub_sl params okRef_loc storable_loc shaped_loc cells_loc isRsl_loc elems_loc len_loc untips untip untip_sl wantedAV setElems withO isAgg_v isAgg_agg isAgg_lst isAgg_ptr isAgg_fn isAgg_ifc isAgg_rsl isAgg_sl isAgg_loc List.replicate_succ List.replicate_zero opAV valAV aval avals ofVal Env.get setD canon gcAV renAll renEnv renStore renCells ren1_sl cutSt okEnv okStore okRefs okRef okRef_sl bin_int bin_bool bin_lst bin_rsl bin_nil bin_agg cellsEq cellEq isShift intOp boolOp min_int max_int beq_int bne resAV tupAV leave_eq fin_sl fin_loc fins fin_v fin_lst fin_agg fin_tup fin_fn storeAV readCells putCells cells_sl shaped_sl storable_sl fieldAddrAV len_sl goI List.getElem?_cons_zero List.getElem?_cons_succ List.getElem?_nil Option.bind_some Option.map_some List.length_cons List.length_nil List.all_cons List.all_nil Bool.and_true Bool.true_and Bool.and_false Bool.false_and and_true true_and and_false false_and Bool.false_eq_true List.set_cons_zero List.set_cons_succ List.append_nil List.nil_append List.cons_append List.take_zero List.take_succ_cons List.take_nil List.drop_zero List.drop_succ_cons List.map_cons List.map_nil decide_true decide_false beq_self_eq_true Bool.not_true Bool.not_false or_true true_or or_false false_or Nat.zero_add Nat.add_zero Nat.le_refl Nat.lt_irrefl decide_eq_true_eq eq_self_iff_true not_true_eq_false not_false_eq_true List.getD_cons_zero code_loop Nat.zero_le Nat.not_lt_zero Bool.true_beq Bool.false_beq beq_true beq_false ge_iff_le gt_iff_lt keepR keepT ownTop Lpure pus Option.map_none assert_ifc assert_nil idxA_ptr idxA_eptr idxV_agg Int.cast_ofNat_Int Nat.mul_one Nat.zero_mul Int.toNat_natCast Int.toNat_zero setParts withO2 hasKey eqnil_sl nenil_sl eqnil_loc nenil_loc map_nil_iff okRefs_ints renCells_ints

theorem obX_snoc (d : Nat) (X : List (List Nat)) (c : List Nat) : obX d (X ++ [c]) = .rsl (d + (4 + X.length)) 0 c.length c.length 1 false := by
  unfold obX
  rw [List.getLast?_concat]
  simp only [List.length_append, List.length_singleton]
  rw [show 3 + (X.length + 1) = 4 + X.length by omega]
theorem layO (d : Nat) (n : Int) (w : List Nat) (cs : List (List Nat)) : layG goalO d n w cs = [obX d (clL cs)] :: webC n w :: [.ifc 101 (.ptr d 0)] :: [fromV d] :: (clL cs).map fun c => c.map J := rfl

set_option maxHeartbeats 2000000 in
theorem c145 (d : Nat) (n : Int) (w : List Nat) (cs : List (List Nat)) (c : List Nat) (g : Tag) (T : List Nat) (D : List (List AV)) (hD : D.length = d) (h2 : 2 ≤ c.length) (h7 : c.length ≤ 7) :
    run L 145 [.ptr d 0, .lst g 1 (c.map J)] ⟨D ++ layG goalO d n w cs, T⟩ = some (.tup [], ⟨D ++ layG goalO d n w (cs ++ [c]), T⟩) := by
  rw [run_shared (fn := ir145) rfl rfl, layO, layO, clL_snoc]
  have hodd := clL_odd cs
  have hcne : c ≠ [] := by intro e; subst e; simp at h2
  generalize clL cs = X at *
  have ht2 : (c.length : Int).tmod 2 = ((c.length % 2 : Nat) : Int) := tmod_nat c.length 2
  have g0 := get_app hD ([obX d X] :: webC n w :: [.ifc 101 (.ptr d 0)] :: [fromV d] :: X.map fun c => c.map J) 0
  rw [Nat.add_zero, List.getElem?_cons_zero] at g0
  have h58 := c58 .any c hcne (by omega)
  have hlen : (D ++ ([obX d X] :: webC n w :: [.ifc 101 (.ptr d 0)] :: [fromV d] :: X.map fun c => c.map J)).length = d + (4 + X.length) := by rw [List.length_append, hD]; simp; omega
  have gX : (D ++ ([obX d X] :: webC n w :: [.ifc 101 (.ptr d 0)] :: [fromV d] :: X.map fun c => c.map J) ++ [c.map J])[d]? = some [obX d X] := by
    rw [List.getElem?_append_left (by rw [hlen]; omega)]; exact g0
  have sX : (D ++ ([obX d X] :: webC n w :: [.ifc 101 (.ptr d 0)] :: [fromV d] :: X.map fun c => c.map J) ++ [c.map J]).set d [.rsl (d + (4 + X.length)) 0 c.length c.length 1 false] = D ++ ([obX d (X ++ [c])] :: webC n w :: [.ifc 101 (.ptr d 0)] :: [fromV d] :: (X ++ [c]).map fun c => c.map J) := by
    rw [List.append_assoc]
    have := set_app hD (([obX d X] :: webC n w :: [.ifc 101 (.ptr d 0)] :: [fromV d] :: X.map fun c => c.map J) ++ [c.map J]) 0 [.rsl (d + (4 + X.length)) 0 c.length c.length 1 false]
    rw [Nat.add_zero] at this
    rw [this, obX_snoc]
    simp
  have hbt : better X.getLast? c = (decide (c.length % 2 = 1) && match X.getLast? with | none => true | some b => decide (c.length < b.length) || (decide (c.length = b.length) && lexLt (up c) (up b))) := rfl
  by_cases p : c.length % 2 = 1
  · have q : (((c.length % 2 : Nat) : Int) = 1) = True := eq_true (by omega)
    cases hl : X.getLast? with
    | none =>
      have e : clS X c = X ++ [c] := by unfold clS; rw [if_pos (by rw [hbt, hl]; simp [p])]
      have eo : obX d X = .v (.slice none 0 0) := by unfold obX; rw [hl]
      rw [e]
      rw [eo] at g0 gX hlen sX ⊢
      simp only [ir145, go_sem, reduceIte, Nat.reduceEqDiff, Nat.reduceAdd, Nat.reduceSub, Nat.reduceLeDiff, Nat.reduceLT, reduceCtorEq, Int.reduceLT, Int.reduceLE, Int.reduceEq, Int.reduceBEq, Int.reduceSub, Int.reduceAdd, Int.reduceMul, Int.reduceNeg, Int.reduceToNat, Nat.reduceMul, Nat.reduceBEq, ht2, q, g0, h58, shV, shVs_J, shStore, hlen, gX, sX, show pure 58 = false from rfl, List.length_map]
    | some b =>
      have hpos : 0 < X.length := by
        cases h : X with
        | nil => rw [h] at hl; simp at hl
        | cons a r => simp
      have eo : obX d X = .rsl (d + (3 + X.length)) 0 b.length b.length 1 false := by unfold obX; rw [hl]
      have hgl : X[X.length - 1]? = some b := by rw [← List.getLast?_eq_getElem?]; exact hl
      have gb : (D ++ ([obX d X] :: webC n w :: [.ifc 101 (.ptr d 0)] :: [fromV d] :: X.map fun c => c.map J))[d + (3 + X.length)]? = some (b.map J) := by
        rw [get_app hD, show 3 + X.length = X.length - 1 + 4 by omega]
        simp only [List.getElem?_cons_succ, List.getElem?_map, hgl, Option.map_some]
      have hcmp := fun st (hst : st.store = D ++ ([obX d X] :: webC n w :: [.ifc 101 (.ptr d 0)] :: [fromV d] :: X.map fun c => c.map J)) => c48v (.lst g 1 (c.map J)) (.rsl (d + (3 + X.length)) 0 b.length b.length 1 false) (up c) (up b) (by rw [up_len]; omega) st (isL_lstJ st g c) (isL_rsl (by rw [hst]; exact gb) b.length)
      have hcmp1 := hcmp ⟨D ++ ([obX d X] :: webC n w :: [.ifc 101 (.ptr d 0)] :: [fromV d] :: X.map fun c => c.map J), T⟩ rfl
      have hlx := cmpN_lt (up c) (up b)
      rw [eo] at g0 gX hlen sX hcmp1
      by_cases p1 : c.length < b.length
      · have e : clS X c = X ++ [c] := by unfold clS; rw [if_pos (by rw [hbt, hl]; simp [p, p1])]
        have q1 : ((c.length : Int) < (b.length : Int)) = True := eq_true (by omega)
        rw [e, eo]
        simp only [ir145, go_sem, reduceIte, Nat.reduceEqDiff, Nat.reduceAdd, Nat.reduceSub, Nat.reduceLeDiff, Nat.reduceLT, reduceCtorEq, Int.reduceLT, Int.reduceLE, Int.reduceEq, Int.reduceBEq, Int.reduceSub, Int.reduceAdd, Int.reduceMul, Int.reduceNeg, Int.reduceToNat, Nat.reduceMul, Nat.reduceBEq, ht2, q, q1, g0, h58, shV, shVs_J, shStore, hlen, gX, sX, show pure 58 = false from rfl, List.length_map]
      · have q1 : ((c.length : Int) < (b.length : Int)) = False := eq_false (by omega)
        by_cases p2 : c.length = b.length
        · have q2 : ((c.length : Int) = (b.length : Int)) = True := eq_true (by omega)
          by_cases p3 : cmpN (up c) (up b) < 0
          · have hx3 : lexLt (up c) (up b) = true := by rw [← hlx]; exact decide_eq_true p3
            have e : clS X c = X ++ [c] := by unfold clS; rw [if_pos (by rw [hbt, hl]; simp [p2, hx3, show b.length % 2 = 1 by omega])]
            rw [e, eo]
            simp only [ir145, go_sem, reduceIte, Nat.reduceEqDiff, Nat.reduceAdd, Nat.reduceSub, Nat.reduceLeDiff, Nat.reduceLT, reduceCtorEq, Int.reduceLT, Int.reduceLE, Int.reduceEq, Int.reduceBEq, Int.reduceSub, Int.reduceAdd, Int.reduceMul, Int.reduceNeg, Int.reduceToNat, Nat.reduceMul, Nat.reduceBEq, ht2, q, q1, q2, p3, g0, hcmp1, h58, shV, shVs_J, shStore, hlen, gX, sX, show pure 58 = false from rfl, show pure 48 = false from rfl, List.length_map]
          · have hx3 : lexLt (up c) (up b) = false := by rw [← hlx]; exact decide_eq_false p3
            have e : clS X c = X := by unfold clS; rw [if_neg (by rw [hbt, hl]; simp [p2, hx3, show b.length % 2 = 1 by omega])]
            rw [e, eo]
            simp only [ir145, go_sem, reduceIte, Nat.reduceEqDiff, Nat.reduceAdd, Nat.reduceSub, Nat.reduceLeDiff, Nat.reduceLT, reduceCtorEq, Int.reduceLT, Int.reduceLE, Int.reduceEq, Int.reduceBEq, Int.reduceSub, Int.reduceAdd, Int.reduceMul, Int.reduceNeg, Int.reduceToNat, Nat.reduceMul, Nat.reduceBEq, ht2, q, q1, q2, p3, g0, hcmp1, show pure 48 = false from rfl, List.length_map]
        · have q2 : ((c.length : Int) = (b.length : Int)) = False := eq_false (by omega)
          have e : clS X c = X := by unfold clS; rw [if_neg (by rw [hbt, hl]; simp [p, p1, p2])]
          rw [e, eo]
          simp only [ir145, go_sem, reduceIte, Nat.reduceEqDiff, Nat.reduceAdd, Nat.reduceSub, Nat.reduceLeDiff, Nat.reduceLT, reduceCtorEq, Int.reduceLT, Int.reduceLE, Int.reduceEq, Int.reduceBEq, Int.reduceSub, Int.reduceAdd, Int.reduceMul, Int.reduceNeg, Int.reduceToNat, Nat.reduceMul, Nat.reduceBEq, ht2, q, q1, q2, g0, List.length_map]
  · have q : (((c.length % 2 : Nat) : Int) = 1) = False := eq_false (by omega)
    have e : clS X c = X := by unfold clS; rw [if_neg (by rw [hbt]; simp [p])]
    rw [e]
    simp only [ir145, go_sem, reduceIte, Nat.reduceEqDiff, Nat.reduceAdd, Nat.reduceSub, Nat.reduceLeDiff, Nat.reduceLT, reduceCtorEq, Int.reduceLT, Int.reduceLE, Int.reduceEq, Int.reduceBEq, Int.reduceSub, Int.reduceAdd, Int.reduceMul, Int.reduceNeg, Int.reduceToNat, Nat.reduceMul, Nat.reduceBEq, ht2, q, List.length_map]
theorem goalO_ok (d : Nat) (n : Int) (w : List Nat) : GoalOk goalO d n w where
  inv := rfl
  np := rfl
  vis := fun cs D T hD => visO d n w cs D T hD
  take := fun cs c g T D hD h1 h2 _ => c145 d n w cs c g T D hD h1 h2
  mono := fun cs cs' => by
    have := clL_mono cs cs'
    simp [layG, goalO]; omega


/-! ### the second goal: how many circles, and how many on each reference -/
def wr : Nat → Int
  | 0 => 0
  | k + 1 => IntKind.i64.wrap (wr k + 1)
theorem wr_eq : ∀ k : Nat, k < 2 ^ 62 → wr k = k
  | 0, _ => rfl
  | k + 1, h => by
    show IntKind.i64.wrap (wr k + 1) = _
    rw [wr_eq k (by omega), wrap64] <;> omega
def tallyC (tot : Nat) (O : List Nat) : List AV := I (wr tot) :: O.map fun k => I (wr k)
theorem tally_get (tot : Nat) (O : List Nat) (p : Nat) (h : p < O.length) : (tallyC tot O)[1 + p]? = some (I (wr (O.getD p 0))) := by
  unfold tallyC
  rw [Nat.add_comm, List.getElem?_cons_succ, List.getElem?_map, List.getElem?_eq_getElem h, List.getD_eq_getElem?_getD, List.getElem?_eq_getElem h]
  rfl
theorem tally_set (tot : Nat) (O : List Nat) (p k : Nat) : (tallyC tot O).set (1 + p) (I (wr k)) = tallyC tot (O.set p k) := by
  unfold tallyC
  rw [Nat.add_comm, List.set_cons_succ, List.map_set]
theorem tally_len (tot : Nat) (O : List Nat) : (tallyC tot O).length = 1 + O.length := by simp [tallyC]; omega
def atP (c : List Nat) (i : Nat) : Nat := c.getD i 0 * 7 + c.getD ((i + 1) % c.length) 0
def ovS (c : List Nat) (O : List Nat) (i : Nat) : List Nat := O.set (atP c i) (O.getD (atP c i) 0 + 1)
def ovC (O : List Nat) (c : List Nat) : List Nat := (List.range' 0 c.length).foldl (ovS c) O
def ovL (cs : List (List Nat)) : List Nat := cs.foldl ovC (List.replicate 49 0)
theorem ovS_len (c : List Nat) : ∀ (l : List Nat) (O : List Nat), (l.foldl (ovS c) O).length = O.length
  | [], _ => rfl
  | i :: r, O => by rw [List.foldl_cons, ovS_len c r]; simp [ovS]
theorem ovC_len : ∀ (cs : List (List Nat)) (O : List Nat), (cs.foldl ovC O).length = O.length
  | [], _ => rfl
  | c :: r, O => by rw [List.foldl_cons, ovC_len r]; exact ovS_len c _ _
theorem ovL_len (cs : List (List Nat)) : (ovL cs).length = 49 := by unfold ovL; rw [ovC_len]; simp
theorem ovL_snoc (cs : List (List Nat)) (c : List Nat) : ovL (cs ++ [c]) = ovC (ovL cs) c := by simp [ovL]
def goalT : Goal := ⟨111, 146, fun _ cs => tallyC cs.length (ovL cs), fun _ _ => []⟩
def layT (d : Nat) (n : Int) (w : List Nat) (tot : Nat) (O : List Nat) : List (List AV) := tallyC tot O :: webC n w :: [.ifc 111 (.ptr d 0)] :: [fromV d] :: []
theorem layT_eq (d : Nat) (n : Int) (w : List Nat) (cs : List (List Nat)) : layG goalT d n w cs = layT d n w cs.length (ovL cs) := rfl

theorem loop146_0 (d : Nat) (n : Int) (w : List Nat) (tot : Nat) (c : List Nat) (g : Tag) (T : List Nat) (D : List (List AV)) (hD : D.length = d) (h7 : c.length ≤ 7) (hc : ∀ x ∈ c, x < 7) (lo hi : Nat) (i : Nat) (O : List Nat) (hok : i ≤ c.length ∧ O.length = 49) (env : Env) (st : St)
    (hg : gcAV false lo hi (canon env [0, 1, 13, 14, 15]) st = ([(0, .ptr d 0), (1, .lst g 1 (c.map J)), (13, .lst g 1 (c.map J)), (14, I c.length), (15, I i)], ⟨D ++ layT d n w tot O, T⟩)) :
    ∃ x_1 en s, lim (headed pure (run L) false [0, 1, 13, 14, 15] lp146_0 lo hi) env st = some (x_1, en, s) ∧ (x_1 = .exit 0 ∧ s = ⟨D ++ layT d n w tot ((List.range' i (c.length - i)).foldl (ovS c) O), T⟩) := by
  refine loop_wp (α := Nat × List Nat) (fun ⟨i, O⟩ => c.length - i) (fun ⟨i, O⟩ => i ≤ c.length ∧ O.length = 49) (fun ⟨i, O⟩ => ([(0, .ptr d 0), (1, .lst g 1 (c.map J)), (13, .lst g 1 (c.map J)), (14, I c.length), (15, I i)], ⟨D ++ layT d n w tot O, T⟩)) (fun ⟨i, O⟩ x_1 en s => x_1 = .exit 0 ∧ s = ⟨D ++ layT d n w tot ((List.range' i (c.length - i)).foldl (ovS c) O), T⟩) (fun ⟨i, O⟩ hok => ?_) ⟨i, O⟩ hok env st hg
  simp only at hok
  obtain ⟨h1, h2⟩ := hok
  dsimp only at h1 h2 ⊢
  by_cases h : i < c.length
  · have hs := succ64 i (by omega)
    have hlt : ((i : Int) < (c.length : Int)) = True := eq_true (by omega)
    have hr : List.range' i (c.length - i) = i :: List.range' (i + 1) (c.length - (i + 1)) := by
      rw [show c.length - i = (c.length - (i + 1)) + 1 by omega, List.range'_succ]
    have hmod : (i + 1) % c.length < c.length := Nat.mod_lt _ (by omega)
    have hx1 := index_lstJ g c i h
    have hx2 := index_lstJ g c ((i + 1) % c.length) hmod
    have hx7 := getD_lt hc i h
    have hy7 := getD_lt hc _ hmod
    have htm : (((i + 1 : Nat) : Int)).tmod (c.length : Int) = (((i + 1) % c.length : Nat) : Int) := tmod_nat _ _
    have hz : ((c.length : Int) = 0) = False := eq_false (by omega)
    have hos : ovS c O i = O.set (atP c i) (O.getD (atP c i) 0 + 1) := rfl
    have hat : atP c i = c.getD i 0 * 7 + c.getD ((i + 1) % c.length) 0 := rfl
    have hl2 : (ovS c O i).length = 49 := by rw [hos]; simp [h2]
    generalize c.getD ((i + 1) % c.length) 0 = y at *
    generalize c.getD i 0 = x at *
    have g0 := get_app hD (layT d n w tot O) 0
    rw [Nat.add_zero, show (layT d n w tot O)[0]? = some (tallyC tot O) from rfl] at g0
    have gt := tally_get tot O (atP c i) (by omega)
    have st := tally_set tot O (atP c i) (O.getD (atP c i) 0 + 1)
    rw [← hos] at st
    have hwr : IntKind.i64.wrap (wr (O.getD (atP c i) 0) + 1) = wr (O.getD (atP c i) 0 + 1) := rfl
    have s0 := set_app hD (layT d n w tot O) 0 (tallyC tot (ovS c O i))
    rw [Nat.add_zero, show (layT d n w tot O).set 0 (tallyC tot (ovS c O i)) = layT d n w tot (ovS c O i) from rfl] at s0
    have htl := tally_len tot O
    rw [h2] at htl
    have a1 : 1 + x * 7 + y = 1 + atP c i := by rw [hat]; omega
    have b1 : ((0 : Int) ≤ (x : Int)) = True := eq_true (by omega)
    have b2 : ((x : Int) < 7) = True := eq_true (by omega)
    have b3 : ((0 : Int) ≤ (y : Int)) = True := eq_true (by omega)
    have b4 : ((y : Int) < 7) = True := eq_true (by omega)
    have b5 : (1 + atP c i + 1 ≤ 50) = True := eq_true (by rw [hat]; omega)
    rw [hr, List.foldl_cons]
    generalize ovS c O i = O2 at *
    generalize atP c i = p at *
    generalize O.getD p 0 = q at *
    simp only [go_sem, reduceIte, Nat.reduceEqDiff, Nat.reduceAdd, Nat.reduceSub, Nat.reduceLeDiff, Nat.reduceLT, reduceCtorEq, Int.reduceLT, Int.reduceLE, Int.reduceEq, Int.reduceBEq, Int.reduceSub, Int.reduceAdd, Int.reduceMul, Int.reduceNeg, Int.reduceToNat, Nat.reduceMul, Nat.reduceBEq, index_rsl_if, setm, make_ints, condK_dec, wantK_dec, not_dec, and_dec, or_dec, seqK_ite, seqK_none, blockK_ite, blockK_none, opsK_ite, opsK_none, stepK_ite, stepK_none, bodyK_ite, bodyK_none, resK_ite, resK_none, leaveK_ite, leaveK_none, only_ite, only_none, bind_ite, gives_some, gives_none, gives_ite, then_normal, then_ret, then_exit, then_none, then_ite, Option.bind_none, Bool.not_eq_true', decide_eq_false_iff_not, Bool.and_eq_true, Bool.or_eq_true, Option.some.injEq, Int.not_lt, Int.not_le, lp146_0, hlt, hs, hx1, hx2, htm, hz, g0, gt, st, s0, hwr, htl, a1, b1, b2, b3, b4, b5, List.length_map]
    refine ⟨(i + 1, O2), by simp only [go_sem, reduceIte, Nat.reduceEqDiff, Nat.reduceAdd, Nat.reduceSub, Nat.reduceLeDiff, Nat.reduceLT, reduceCtorEq, Int.reduceLT, Int.reduceLE, Int.reduceEq, Int.reduceBEq, Int.reduceSub, Int.reduceAdd, Int.reduceMul, Int.reduceNeg, Int.reduceToNat, Nat.reduceMul, Nat.reduceBEq, ren1_locm, loc_tips, locT_eq] <;> rfl, ?_, ?_, fun x en s hq => ?_⟩
    · dsimp only; exact ⟨by omega, hl2⟩
    · dsimp only; omega
    · exact hq
  · have hr : c.length - i = 0 := by omega
    have hlt : ((i : Int) < (c.length : Int)) = False := eq_false (by omega)
    rw [hr]
    simp only [go_sem, reduceIte, Nat.reduceEqDiff, Nat.reduceAdd, Nat.reduceSub, Nat.reduceLeDiff, Nat.reduceLT, reduceCtorEq, Int.reduceLT, Int.reduceLE, Int.reduceEq, Int.reduceBEq, Int.reduceSub, Int.reduceAdd, Int.reduceMul, Int.reduceNeg, Int.reduceToNat, Nat.reduceMul, Nat.reduceBEq, index_rsl_if, setm, make_ints, condK_dec, wantK_dec, not_dec, and_dec, or_dec, seqK_ite, seqK_none, blockK_ite, blockK_none, opsK_ite, opsK_none, stepK_ite, stepK_none, bodyK_ite, bodyK_none, resK_ite, resK_none, leaveK_ite, leaveK_none, only_ite, only_none, bind_ite, gives_some, gives_none, gives_ite, then_normal, then_ret, then_exit, then_none, then_ite, Option.bind_none, Bool.not_eq_true', decide_eq_false_iff_not, Bool.and_eq_true, Bool.or_eq_true, Option.some.injEq, Int.not_lt, Int.not_le, lp146_0, hlt]
    rfl

theorem c146 (d : Nat) (n : Int) (w : List Nat) (cs : List (List Nat)) (c : List Nat) (g : Tag) (T : List Nat) (D : List (List AV)) (hD : D.length = d) (h7 : c.length ≤ 7) (hc : ∀ x ∈ c, x < 7) :
    run L 146 [.ptr d 0, .lst g 1 (c.map J)] ⟨D ++ layG goalT d n w cs, T⟩ = some (.tup [], ⟨D ++ layG goalT d n w (cs ++ [c]), T⟩) := by
  rw [run_shared (fn := ir146) rfl rfl, layT_eq, layT_eq, ovL_snoc, List.length_append, List.length_singleton]
  have hol := ovL_len cs
  generalize ovL cs = O at *
  generalize cs.length = k at *
  have g0 := get_app hD (layT d n w k O) 0
  rw [Nat.add_zero, show (layT d n w k O)[0]? = some (I (wr k) :: O.map fun k => I (wr k)) from rfl] at g0
  have s0 := set_app hD (layT d n w k O) 0 (I (wr (k + 1)) :: O.map fun k => I (wr k))
  rw [Nat.add_zero, show (layT d n w k O).set 0 (I (wr (k + 1)) :: O.map fun k => I (wr k)) = layT d n w (k + 1) O from rfl] at s0
  have hwr : IntKind.i64.wrap (wr k + 1) = wr (k + 1) := rfl
  have b1 : (1 ≤ O.length + 1) = True := eq_true (by omega)
  simp only [ir146, go_sem, reduceIte, Nat.reduceEqDiff, Nat.reduceAdd, Nat.reduceSub, Nat.reduceLeDiff, Nat.reduceLT, reduceCtorEq, Int.reduceLT, Int.reduceLE, Int.reduceEq, Int.reduceBEq, Int.reduceSub, Int.reduceAdd, Int.reduceMul, Int.reduceNeg, Int.reduceToNat, Nat.reduceMul, Nat.reduceBEq, g0, s0, hwr, b1, List.length_map]
  generalize hg : lim (headed pure (run L) false _ lp146_0 _ _) _ _ = o
  obtain ⟨x, en, s, rfl, h2⟩ : ∃ x en s, o = some (x, en, s) ∧ _ := by rw [← hg]; exact loop146_0 d n w (k + 1) c g T D hD h7 hc _ _ 0 O ⟨by omega, hol⟩ _ _ (by simp only [go_sem, reduceIte, Nat.reduceEqDiff, Nat.reduceAdd, Nat.reduceSub, Nat.reduceLeDiff, Nat.reduceLT, reduceCtorEq, Int.reduceLT, Int.reduceLE, Int.reduceEq, Int.reduceBEq, Int.reduceSub, Int.reduceAdd, Int.reduceMul, Int.reduceNeg, Int.reduceToNat, Nat.reduceMul, Nat.reduceBEq] <;> rfl)
  clear hg
  rw [Nat.sub_zero] at h2
  obtain ⟨rfl, rfl⟩ := h2
  simp only [go_sem, reduceIte, Nat.reduceEqDiff, Nat.reduceAdd, Nat.reduceSub, Nat.reduceLeDiff, Nat.reduceLT, reduceCtorEq, Int.reduceLT, Int.reduceLE, Int.reduceEq, Int.reduceBEq, Int.reduceSub, Int.reduceAdd, Int.reduceMul, Int.reduceNeg, Int.reduceToNat, Nat.reduceMul, Nat.reduceBEq]
  rfl

attribute [local go_sem] shaped_t cells_t isAgg_t storable_t okRef_t pub_t

theorem noLs_v : ∀ xs : List AV, (∀ v ∈ xs, ∃ y, v = .v y) → noLs xs = true
  | [], _ => rfl
  | x :: r, h => by
    obtain ⟨y, rfl⟩ := h x (by simp)
    simp only [noLs, noL, noLs_v r (fun v hv => h v (by simp [hv])), Bool.and_true]
theorem tally_v (tot : Nat) (O : List Nat) : ∀ v ∈ tallyC tot O, ∃ y, v = .v y := by
  intro v hv
  unfold tallyC at hv
  rcases List.mem_cons.1 hv with rfl | hv
  · exact ⟨_, rfl⟩
  · obtain ⟨k, _, rfl⟩ := List.mem_map.1 hv
    exact ⟨_, rfl⟩
theorem web_v (n : Int) (w : List Nat) : ∀ v ∈ webC n w, ∃ y, v = .v y := by
  intro v hv
  unfold webC at hv
  rcases List.mem_cons.1 hv with rfl | hv
  · exact ⟨_, rfl⟩
  · obtain ⟨k, _, rfl⟩ := List.mem_map.1 hv
    exact ⟨_, rfl⟩
theorem visB_v {xs : List AV} (hne : xs ≠ []) (h : ∀ v ∈ xs, ∃ y, v = .v y) : visB xs = true := by
  unfold visB
  rw [noLs_v xs h]
  cases xs with
  | nil => exact absurd rfl hne
  | cons x r => rfl
theorem visR_vs {xs : List AV} (h : ∀ v ∈ xs, ∃ y, v = .v y) (st : St) : ∀ v ∈ xs, visR st v = true := fun v hv => by
  obtain ⟨y, rfl⟩ := h v hv; exact visR_v _ _
theorem visT (d : Nat) (n : Int) (w : List Nat) (cs : List (List Nat)) (D : List (List AV)) (T : List Nat) (hD : D.length = d) : ∀ x ∈ layG goalT d n w cs, visB x = true ∧ ∀ v ∈ x, visR ⟨D ++ layG goalT d n w cs, T⟩ v = true := by
  have hA : ∀ x ∈ layG goalT d n w cs, visB x = true := by
    intro x hx
    unfold layG goalT at hx
    simp only [List.mem_cons, List.not_mem_nil, or_false] at hx
    rcases hx with rfl | rfl | rfl | rfl
    · exact visB_v (by unfold tallyC; simp) (tally_v _ _)
    · exact visB_web n w
    · rfl
    · rfl
  have hlen : (layG goalT d n w cs).length = 4 := rfl
  intro x hx
  refine ⟨hA x hx, ?_⟩
  have hx' := hx
  unfold layG at hx'
  simp only [List.mem_cons] at hx'
  intro v hv
  rcases hx' with rfl | rfl | rfl | rfl | hx'
  · exact visR_vs (tally_v _ _) _ v hv
  · exact visR_web _ _ _ v hv
  · simp at hv; subst hv
    simp only [visR]
    exact visN_at hD hA 0 (by omega) T
  · simp at hv; subst hv
    exact from_vis hD hA (by omega) T
  · exact absurd hx' (by simp [goalT])
theorem goalT_ok (d : Nat) (n : Int) (w : List Nat) : GoalOk goalT d n w where
  inv := rfl
  np := rfl
  vis := fun cs D T hD => visT d n w cs D T hD
  take := fun cs c g T D hD _ h2 h3 => c146 d n w cs c g T D hD h2 h3
  mono := fun cs cs' => Nat.le_refl _

/-! ### books ahead of the goal -/
theorem bk_vis (nl : Bool) (n : Int) (ps : List (Int × Int)) : visB (bkCells nl n ps) = true → ∀ v ∈ bkCells nl n ps, ∃ y, v = .v y := by
  intro h v hv
  unfold bkCells at h hv
  rcases List.mem_cons.1 hv with rfl | hv
  · exact ⟨_, rfl⟩
  · simp at hv; subst hv
    unfold sl at h ⊢
    split
    · exact ⟨_, rfl⟩
    · next hn => rw [if_neg hn] at h; simp [visB, noLs, noL] at h
theorem dk_cons {x : List AV} {D : List (List AV)} (h : visB x = true → ∀ v ∈ x, ∃ y, v = .v y) (hD : Dk D) : Dk (x :: D) := by
  intro y hy
  rcases List.mem_cons.1 hy with rfl | hy
  · exact h
  · exact hD y hy
theorem dk_nil : Dk [] := fun x hx => by simp at hx

/-! ### the first odd circle -/
def oddB (n : Nat) (w : List Nat) : Option (List Nat) := (clL (circL n w)).getLast?
theorem frz_odd {a0 a1 : List AV} {R : List (List AV)} {l : Nat} {b : List Nat} (hb : b ≠ []) (hl : 3 ≤ l) (hR : (a0 :: a1 :: [.rsl l 0 b.length b.length 1 false] :: R)[l]? = some (b.map J)) (T : List Nat) :
    ∃ S', S'[2]? = some [.lst .any 1 (b.map J)] ∧ ∀ env, frzL l env ⟨a0 :: a1 :: [.rsl l 0 b.length b.length 1 false] :: R, T⟩ = (frzEnv l (b.map J) env, ⟨S', T⟩) := by
  refine ⟨(frzStore l (b.map J) (a0 :: a1 :: [.rsl l 0 b.length b.length 1 false] :: R)).set l [], ?_, fun env => ?_⟩
  · rw [List.getElem?_set_ne (by omega)]
    simp only [frzStore, List.getElem?_cons_succ, List.getElem?_cons_zero, frzVs, frzV]
    rw [if_pos ⟨trivial, by simp, .inr trivial, Nat.le_refl _⟩, List.drop_zero, pubsJ, groupm_one J (fun _ => rfl)]
  · unfold frzL
    simp only
    rw [hR]
    cases b with
    | nil => exact absurd rfl hb
    | cons x r => rfl
theorem frzV_ifc (l : Nat) (cs : List AV) (t : TypeId) (x : AV) : frzV l cs (.ifc t x) = .ifc t x := by simp only [frzV]
theorem c75o (X : List (List Nat)) (S : List (List AV)) (T : List Nat) (h : S[2]? = some [obX 2 X]) : run L 75 [.ifc 101 (.ptr 2 0)] ⟨S, T⟩ = some (I (if X = [] then 0 else 1), ⟨S, T⟩) := by
  rw [run_shared (fn := ir75) rfl rfl]
  cases X with
  | nil =>
    have e : obX 2 [] = .v (.slice none 0 0) := rfl
    rw [e] at h
    simp only [ir75, go_sem, reduceIte, Nat.reduceEqDiff, Nat.reduceAdd, Nat.reduceSub, Nat.reduceLeDiff, Nat.reduceLT, reduceCtorEq, Int.reduceLT, Int.reduceLE, Int.reduceEq, Int.reduceBEq, Int.reduceSub, Int.reduceAdd, Int.reduceMul, Int.reduceNeg, Int.reduceToNat, Nat.reduceMul, Nat.reduceBEq, h]
  | cons a r =>
    have e : ∃ l m, obX 2 (a :: r) = .rsl l 0 m m 1 false := by
      unfold obX
      cases hl : (a :: r).getLast? with
      | none => simp at hl
      | some b => exact ⟨_, _, rfl⟩
    obtain ⟨l, m, e⟩ := e
    rw [e] at h
    rw [if_neg (by simp)]
    simp only [ir75, go_sem, reduceIte, Nat.reduceEqDiff, Nat.reduceAdd, Nat.reduceSub, Nat.reduceLeDiff, Nat.reduceLT, reduceCtorEq, Int.reduceLT, Int.reduceLE, Int.reduceEq, Int.reduceBEq, Int.reduceSub, Int.reduceAdd, Int.reduceMul, Int.reduceNeg, Int.reduceToNat, Nat.reduceMul, Nat.reduceBEq, h]

attribute [local go_sem] shaped_t cells_t isAgg_t storable_t okRef_t pub_t

/-- What Ring answers. -/
def ringV (n : Int) (ps : List (Int × Int)) : List Int := if chk n ps = 0 then (match oddB n.toNat (seeL 7 ps) with | some b => up b | none => []) else []
def ringE (n : Int) (ps : List (Int × Int)) : Int := if chk n ps = 0 then (match oddB n.toNat (seeL 7 ps) with | some _ => 0 | none => 13) else chk n ps

set_option maxHeartbeats 1000000 in
theorem c28 (nl : Bool) (n : Int) (ps : List (Int × Int)) (st : St) : run L 28 [bkAV nl n ps] st = some (.tup [tAV (ringV n ps), I (ringE n ps)], st) := by
  rw [run_pure (fn := ir28) rfl rfl]
  have h65 := fun st => c65 nl n ps st
  unfold ringV ringE
  by_cases h : chk n ps = 0
  · obtain ⟨h1, hl16, h3, h4, h5⟩ := chk_zero h
    obtain ⟨k, rfl⟩ := Int.eq_ofNat_of_zero_le (show 0 ≤ n by omega)
    have hw : wovL (k : Int) ps = seeL 7 ps := by unfold wovL; rw [if_pos h]
    rw [hw] at h65
    rw [if_pos h, if_pos h, Int.toNat_natCast]
    have hlw := lenW (k : Int) (seeL 7 ps)
    rw [seeL_len] at hlw
    have hpw := putW (k : Int) (seeL 7 ps) (seeL_len 7 ps)
    have htkw : (webC (k : Int) (seeL 7 ps)).take 8 = webC (k : Int) (seeL 7 ps) := List.take_of_length_le (by omega)
    have h74 := c74 goalO 2 k (by omega) (seeL 7 ps) (seeL_len 7 ps) (seeL_small 7 h4) (goalO_ok 2 k _) rfl [] [bkCells nl (k : Int) ps, webC (k : Int) (seeL 7 ps)] rfl (dk_cons (bk_vis nl _ ps) (dk_cons (fun _ => web_v _ _) dk_nil))
    have e0 : goalO.ob 2 [] = [.v (.slice none 0 0)] := rfl
    have e1 : goalO.tt = 101 := rfl
    have hodd := clL_odd (circL k (seeL 7 ps))
    rw [e0, e1, layO] at h74
    have h75 := c75o (clL (circL k (seeL 7 ps))) ([bkCells nl (k : Int) ps, webC (k : Int) (seeL 7 ps)] ++ ([obX 2 (clL (circL k (seeL 7 ps)))] :: webC (k : Int) (seeL 7 ps) :: [.ifc 101 (.ptr 2 0)] :: [fromV 2] :: (clL (circL k (seeL 7 ps))).map fun c => c.map J)) [] rfl
    have hO : oddB k (seeL 7 ps) = (clL (circL k (seeL 7 ps))).getLast? := rfl
    rw [hO]
    generalize clL (circL k (seeL 7 ps)) = X at *
    simp only [List.cons_append, List.nil_append] at h74 h75
    cases hl : X.getLast? with
    | none =>
      have hX : X = [] := by simpa using hl
      subst hX
      have eo : obX 2 [] = .v (.slice none 0 0) := rfl
      simp only [eo, List.map_nil, if_true] at h74 h75
      simp only [ir28, go_sem, reduceIte, Nat.reduceEqDiff, Nat.reduceAdd, Nat.reduceSub, Nat.reduceLeDiff, Nat.reduceLT, reduceCtorEq, Int.reduceLT, Int.reduceLE, Int.reduceEq, Int.reduceBEq, Int.reduceSub, Int.reduceAdd, Int.reduceMul, Int.reduceNeg, Int.reduceToNat, Nat.reduceMul, Nat.reduceBEq, h65, h, hlw, hpw, htkw, pubsW, storableW, h74, h75, show pure 74 = false from rfl, show pure 75 = false from rfl]
      rfl
    | some b =>
      have hX : X ≠ [] := by intro e; subst e; simp at hl
      have hpos : 0 < X.length := List.length_pos_iff.2 hX
      have hgl : X[X.length - 1]? = some b := by rw [← List.getLast?_eq_getElem?]; exact hl
      have hbne : b ≠ [] := by
        intro e
        have := hodd b (List.mem_of_getElem? hgl)
        rw [e] at this; simp at this
      have eo : obX 2 X = .rsl (2 + (3 + X.length)) 0 b.length b.length 1 false := by unfold obX; rw [hl]
      rw [eo] at h74 h75
      rw [if_neg hX] at h75
      have hgR : (bkCells nl (k : Int) ps :: webC (k : Int) (seeL 7 ps) :: [.rsl (2 + (3 + X.length)) 0 b.length b.length 1 false] :: (webC (k : Int) (seeL 7 ps) :: [.ifc 101 (.ptr 2 0)] :: [fromV 2] :: X.map fun c => c.map J))[2 + (3 + X.length)]? = some (b.map J) := by
        rw [show 2 + (3 + X.length) = X.length - 1 + 6 by omega]
        simp only [List.getElem?_cons_succ, List.getElem?_map, hgl, Option.map_some]
      obtain ⟨S', hS', hfz⟩ := frz_odd hbne (by omega) hgR []
      have et : tAV (up b) = .lst .any 1 (b.map J) := by
        unfold tAV; rw [up_J, sl_ne (by simpa using hbne)]
      simp only [et]
      simp only [ir28, go_sem, reduceIte, Nat.reduceEqDiff, Nat.reduceAdd, Nat.reduceSub, Nat.reduceLeDiff, Nat.reduceLT, reduceCtorEq, Int.reduceLT, Int.reduceLE, Int.reduceEq, Int.reduceBEq, Int.reduceSub, Int.reduceAdd, Int.reduceMul, Int.reduceNeg, Int.reduceToNat, Nat.reduceMul, Nat.reduceBEq, h65, h, hlw, hpw, htkw, pubsW, storableW, h74, h75, show pure 74 = false from rfl, show pure 75 = false from rfl, code_frz, frzAV, frzT, frzLs, rslsOf, hfz, frzEnv, frzV_v, frzV_ptr, frzV_sl, frzV_agg, frzV_tup, frzV_any, frzV_ifc, hS']
  · rw [if_neg h, if_neg h]
    have hl7 : (wovL n ps).length = 7 := by unfold wovL; rw [if_neg h]; simp
    have hlw := lenW n (wovL n ps)
    rw [hl7] at hlw
    have hpw := putW n (wovL n ps) hl7
    simp only [ir28, go_sem, reduceIte, Nat.reduceEqDiff, Nat.reduceAdd, Nat.reduceSub, Nat.reduceLeDiff, Nat.reduceLT, reduceCtorEq, Int.reduceLT, Int.reduceLE, Int.reduceEq, Int.reduceBEq, Int.reduceSub, Int.reduceAdd, Int.reduceMul, Int.reduceNeg, Int.reduceToNat, Nat.reduceMul, Nat.reduceBEq, h65, h, hlw, hpw, pubsW, storableW]
    rfl

attribute [local go_sem] shaped_t cells_t isAgg_t storable_t okRef_t pub_t

/-! ### the law's circles: a list of lists that grows, with a tip anywhere -/
def oA (c : List Nat) : AV := .lst .any 1 (c.map J)
theorem shaped_oA (c : List Nat) : (oA c).shaped = true := rfl
theorem cells_oA (c : List Nat) : (oA c).cells = [oA c] := rfl
theorem storable_oA (c : List Nat) : storable (oA c) = true := rfl

attribute [local go_sem] shaped_t cells_t isAgg_t storable_t okRef_t pub_t

theorem rg_len (w : List Nat) : ∀ (k : Nat) (c : List Nat) (free : Nat), (rg w k c free).length ≤ 8 ^ k
  | 0, c, _ => by unfold rg hdR; split <;> simp
  | k + 1, c, free => by
    have h1 : (hdR w c).length ≤ 1 := by unfold hdR; split <;> simp
    have hsum : ∀ l : List Nat, (l.flatMap fun x => rg w k (c ++ [x]) (dfN free (2 ^ x))).length ≤ l.length * 8 ^ k := by
      intro l
      induction l with
      | nil => simp
      | cons x r ih =>
        have := rg_len w k (c ++ [x]) (dfN free (2 ^ x))
        rw [List.flatMap_cons, List.length_append, List.length_cons, Nat.add_mul]
        omega
    have h2 := hsum (bitsL (w.getD (lastW c) 0 &&& free))
    have h3 := bits_len (w.getD (lastW c) 0 &&& free)
    have h4 : (bitsL (w.getD (lastW c) 0 &&& free)).length * 8 ^ k ≤ 7 * 8 ^ k := Nat.mul_le_mul_right _ h3
    have h5 : 1 ≤ 8 ^ k := Nat.one_le_pow _ _ (by omega)
    show (hdR w c ++ _).length ≤ _
    rw [List.length_append, Nat.pow_succ]
    omega
theorem circ_len (n : Nat) (hn : n ≤ 7) (w : List Nat) : (circL n w).length ≤ 14680064 := by
  have : ∀ l : List Nat, (l.flatMap fun x => rg w 7 [x] (frN n x)).length ≤ l.length * 2097152 := by
    intro l
    induction l with
    | nil => simp
    | cons x r ih =>
      have h1 := rg_len w 7 [x] (frN n x)
      have h2 : 8 ^ 7 = 2097152 := rfl
      rw [List.flatMap_cons, List.length_append, List.length_cons, Nat.add_mul]
      omega
  have h := this (List.range' 0 n)
  rw [List.length_range'] at h
  unfold circL
  have : n * 2097152 ≤ 7 * 2097152 := Nat.mul_le_mul_right _ hn
  omega

attribute [local go_sem] shaped_t cells_t isAgg_t storable_t okRef_t pub_t

def stO (o : Option (List Nat)) (c : List Nat) : Option (List Nat) := if better o c = true then some c else o
theorem odd_fold : ∀ (cs : List (List Nat)) (X : List (List Nat)), (cs.foldl clS X).getLast? = cs.foldl stO X.getLast?
  | [], _ => rfl
  | c :: r, X => by
    rw [List.foldl_cons, List.foldl_cons, odd_fold r]
    congr 1
    unfold clS stO
    split
    · rw [List.getLast?_concat]
    · rfl
theorem oddB_fold (n : Nat) (w : List Nat) : oddB n w = (circL n w).foldl stO none := odd_fold _ []
theorem len_tAV (l : List Int) : lenAV (tAV l) = some (I l.length) := by unfold tAV; rw [len_sl, List.length_map]
theorem ren1_t' (n : Nat) (T : List Nat) (acc : List (Nat × Nat)) (l : List Int) : ren1 n T acc (tAV l) = (tAV l, acc) := ren1_sl _ _ _ _ _ _


/-! ### ways and circles in a web -/
def Ch (J : Nat → Nat → Prop) : List Nat → Prop
  | [] => True
  | [_] => True
  | a :: b :: r => J a b ∧ Ch J (b :: r)
theorem ch_split {J : Nat → Nat → Prop} (x : Nat) (B : List Nat) : ∀ A : List Nat, Ch J (A ++ x :: B) ↔ Ch J (A ++ [x]) ∧ Ch J (x :: B)
  | [] => by simp [Ch]
  | [a] => by simp [Ch]
  | a :: b :: A => by
    have := ch_split (J := J) x B (b :: A)
    simp only [List.cons_append, Ch] at this ⊢
    rw [this, and_assoc]
/-- A circle, with words that may come again. -/
def Cyc (J : Nat → Nat → Prop) (c : List Nat) : Prop := ∃ x r, c = x :: r ∧ Ch J (c ++ [x])


/-! ### which lists are circles -/
/-- A word sees another one. -/
def Jw (w : List Nat) (a b : Nat) : Prop := (w.getD a 0).testBit b = true
theorem lastW_snoc (c : List Nat) (x : Nat) : lastW (c ++ [x]) = x := by
  unfold lastW
  rw [List.length_append, List.length_singleton, Nat.add_sub_cancel, List.getD_eq_getElem?_getD, List.getElem?_append_right (by omega)]
  simp
theorem ch_snoc {J : Nat → Nat → Prop} (x : Nat) : ∀ c : List Nat, c ≠ [] → (Ch J (c ++ [x]) ↔ Ch J c ∧ J (lastW c) x)
  | [], h => absurd rfl h
  | [a], _ => by simp [Ch, lastW]
  | a :: b :: r, _ => by
    have := ch_snoc (J := J) x (b :: r) (by simp)
    have e : lastW (a :: b :: r) = lastW (b :: r) := by simp [lastW]
    rw [e]
    simp only [List.cons_append, Ch] at this ⊢
    rw [this, and_assoc]
theorem mem_hdR {w : List Nat} {c x : List Nat} : x ∈ hdR w c ↔ x = c ∧ 1 < c.length ∧ Jw w (lastW c) (c.getD 0 0) := by
  unfold hdR Jw
  split
  · next h => simp only [List.mem_singleton]; exact ⟨fun e => ⟨e, h⟩, fun e => e.1⟩
  · next h => simp only [List.not_mem_nil, false_iff]; exact fun e => h e.2
/-- What is found from some words on. -/
theorem rg_iff (w : List Nat) : ∀ (k : Nat) (c : List Nat) (free : Nat), (bitsL free).length ≤ k → free < 128 → c ≠ [] → ∀ x, x ∈ rg w k c free ↔ ∃ s, x = c ++ s ∧ Ch (Jw w) (lastW c :: s) ∧ (∀ y ∈ s, free.testBit y = true) ∧ s.Nodup ∧ 1 < x.length ∧ Jw w (lastW x) (x.getD 0 0) := by
  have head : ∀ (c x : List Nat), (x ∈ hdR w c ↔ ∃ s, s = [] ∧ x = c ++ s ∧ 1 < x.length ∧ Jw w (lastW x) (x.getD 0 0)) := by
    intro c x
    rw [mem_hdR]
    constructor
    · rintro ⟨rfl, h1, h2⟩; exact ⟨[], rfl, by simp, h1, h2⟩
    · rintro ⟨s, rfl, e, h1, h2⟩
      rw [List.append_nil] at e; subst e
      exact ⟨rfl, h1, h2⟩
  intro k
  induction k with
  | zero =>
    intro c free hk hf hc x
    have h0 := bits_nil hf (by omega)
    subst h0
    show x ∈ hdR w c ↔ _
    rw [head]
    constructor
    · rintro ⟨s, rfl, e, h1, h2⟩; exact ⟨[], e, trivial, by simp, List.nodup_nil, h1, h2⟩
    · rintro ⟨s, e, _, h3, _, h1, h2⟩
      have : s = [] := by
        cases s with
        | nil => rfl
        | cons y r => have := h3 y (by simp); simp at this
      exact ⟨s, this, e, h1, h2⟩
  | succ k ih =>
    intro c free hk hf hc x
    show x ∈ hdR w c ++ _ ↔ _
    rw [List.mem_append, head, List.mem_flatMap]
    have hlt : w.getD (lastW c) 0 &&& free < 128 := Nat.lt_of_le_of_lt Nat.and_le_right hf
    constructor
    · rintro (⟨s, rfl, e, h1, h2⟩ | ⟨y, hy, hx⟩)
      · exact ⟨[], e, trivial, by simp, List.nodup_nil, h1, h2⟩
      · rw [bits_mem hlt, Nat.testBit_and, Bool.and_eq_true] at hy
        have hcard := df_card hf hy.2
        have hy7 := bit_lt7 hf hy.2
        obtain ⟨s, e, h1, h2, h3, h4, h5⟩ := (ih (c ++ [y]) (dfN free (2 ^ y)) (by omega) (dfN_lt hf) (by simp) x).1 hx
        rw [lastW_snoc] at h1
        have h2' : ∀ z ∈ s, free.testBit z = true ∧ z ≠ y := fun z hz => by
          have := h2 z hz
          rw [dfN_bit (sh1_lt y hy7).2, Bool.and_eq_true, Bool.and_eq_true, Bool.not_eq_true', Nat.testBit_two_pow, decide_eq_false_iff_not] at this
          exact ⟨this.1, fun e => this.2.2 e.symm⟩
        refine ⟨y :: s, by rw [e]; simp, ⟨hy.1, h1⟩, fun z hz => ?_, List.nodup_cons.2 ⟨fun hm => (h2' y hm).2 rfl, h3⟩, h4, h5⟩
        rcases List.mem_cons.1 hz with rfl | hz
        · exact hy.2
        · exact (h2' z hz).1
    · rintro ⟨s, e, h1, h2, h3, h4, h5⟩
      cases s with
      | nil => exact .inl ⟨[], rfl, e, h4, h5⟩
      | cons y s =>
        right
        have hy := h2 y (by simp)
        have hy7 := bit_lt7 hf hy
        have hcard := df_card hf hy
        rw [List.nodup_cons] at h3
        refine ⟨y, (bits_mem hlt y).2 (by rw [Nat.testBit_and, Bool.and_eq_true]; exact ⟨h1.1, hy⟩), (ih (c ++ [y]) (dfN free (2 ^ y)) (by omega) (dfN_lt hf) (by simp) x).2 ⟨s, by rw [e]; simp, by rw [lastW_snoc]; exact h1.2, fun z hz => ?_, h3.2, h4, h5⟩⟩
        rw [dfN_bit (sh1_lt y hy7).2, Bool.and_eq_true, Bool.and_eq_true, Bool.not_eq_true', Nat.testBit_two_pow, decide_eq_false_iff_not]
        have hz2 := h2 z (by simp [hz])
        exact ⟨hz2, decide_eq_true (bit_lt7 hf hz2), fun e => h3.1 (by rw [e]; exact hz)⟩
/-- A circle whose first word is its smallest one. -/
theorem circ_iff {n : Nat} (hn : n ≤ 7) (w : List Nat) (x : List Nat) : x ∈ circL n w ↔ ∃ a s, x = a :: s ∧ a < n ∧ (∀ y ∈ s, a < y ∧ y < n) ∧ x.Nodup ∧ 1 < x.length ∧ Ch (Jw w) x ∧ Jw w (lastW x) a := by
  unfold circL
  rw [List.mem_flatMap]
  constructor
  · rintro ⟨a, ha, hx⟩
    rw [List.mem_range'_1] at ha
    have hcard := frN_card hn (show a < n by omega)
    obtain ⟨s, e, h1, h2, h3, h4, h5⟩ := (rg_iff w 7 [a] (frN n a) (by omega) (frN_lt hn) (by simp) x).1 hx
    have h2' : ∀ y ∈ s, a < y ∧ y < n := fun y hy => by
      have := h2 y hy
      rw [frN_bit hn (by omega), Bool.and_eq_true, decide_eq_true_iff, decide_eq_true_iff] at this
      omega
    subst e
    refine ⟨a, s, rfl, by omega, h2', List.nodup_cons.2 ⟨fun hm => by have := h2' a hm; omega, h3⟩, h4, h1, h5⟩
  · rintro ⟨a, s, rfl, ha, h2, h3, h4, h5, h6⟩
    have hcard := frN_card hn ha
    refine ⟨a, by rw [List.mem_range'_1]; omega, (rg_iff w 7 [a] (frN n a) (by omega) (frN_lt hn) (by simp) _).2 ⟨s, rfl, h5, fun y hy => ?_, (List.nodup_cons.1 h3).2, h4, h6⟩⟩
    rw [frN_bit hn ha, Bool.and_eq_true, decide_eq_true_iff, decide_eq_true_iff]
    have := h2 y hy; omega
/-- A circle from another word on. -/
theorem cyc_rot {J : Nat → Nat → Prop} {A B : List Nat} {m : Nat} (h : Cyc J (A ++ m :: B)) : Cyc J (m :: (B ++ A)) := by
  obtain ⟨x, r, e, hc⟩ := h
  cases A with
  | nil =>
    simp only [List.nil_append, List.cons.injEq] at e
    obtain ⟨rfl, rfl⟩ := e
    exact ⟨m, B, by simp, by simpa using hc⟩
  | cons a A =>
    simp only [List.cons_append, List.cons.injEq] at e
    obtain ⟨rfl, rfl⟩ := e
    refine ⟨m, B ++ a :: A, rfl, ?_⟩
    have e1 : a :: A ++ m :: B ++ [a] = (a :: A) ++ m :: (B ++ [a]) := by simp
    rw [e1] at hc
    have h1 := (ch_split m (B ++ [a]) (a :: A)).1 hc
    have e2 : m :: (B ++ a :: A) ++ [m] = (m :: B) ++ a :: (A ++ [m]) := by simp
    rw [e2]
    exact (ch_split a (A ++ [m]) (m :: B)).2 ⟨by simpa using h1.2, by simpa using h1.1⟩
theorem min_split : ∀ c : List Nat, c ≠ [] → ∃ A m B, c = A ++ m :: B ∧ ∀ y ∈ c, m ≤ y
  | [], h => absurd rfl h
  | [a], _ => ⟨[], a, [], rfl, by simp⟩
  | a :: b :: r, _ => by
    obtain ⟨A, m, B, e, h⟩ := min_split (b :: r) (by simp)
    by_cases hm : a ≤ m
    · exact ⟨[], a, b :: r, rfl, fun y hy => by
        rcases List.mem_cons.1 hy with rfl | hy
        · omega
        · have := h y hy; omega⟩
    · refine ⟨a :: A, m, B, by rw [e]; rfl, fun y hy => ?_⟩
      rcases List.mem_cons.1 hy with rfl | hy
      · omega
      · exact h y hy
/-- Each circle is found, from its smallest word on. -/
theorem circ_of {n : Nat} (hn : n ≤ 7) {w : List Nat} {c : List Nat} (h1 : c.Nodup) (h2 : 1 < c.length) (h3 : Cyc (Jw w) c) (h4 : ∀ x ∈ c, x < n) : ∃ A m B, c = A ++ m :: B ∧ m :: (B ++ A) ∈ circL n w := by
  obtain ⟨A, m, B, e, hm⟩ := min_split c (by intro e; rw [e] at h2; simp at h2)
  refine ⟨A, m, B, e, (circ_iff hn w _).2 ⟨m, B ++ A, rfl, h4 m (by rw [e]; simp), fun y hy => ?_, ?_, ?_, ?_⟩⟩
  · have hy2 : y ∈ c := by rw [e]; simp only [List.mem_append, List.mem_cons] at hy ⊢; exact hy.elim (fun h => .inr (.inr h)) .inl
    have := hm y hy2
    have hne : y ≠ m := by
      rintro rfl
      rw [e, List.nodup_append, List.nodup_cons] at h1
      rcases List.mem_append.1 hy with hy | hy
      · exact h1.2.1.1 hy
      · exact h1.2.2 y hy y (by simp) rfl
    exact ⟨by omega, h4 y hy2⟩
  · have hp : (m :: (B ++ A)).Perm c := by
      rw [e]
      exact (List.perm_append_comm (l₁ := m :: B) (l₂ := A))
    exact hp.nodup_iff.2 h1
  · rw [e] at h2; simp at h2 ⊢; omega
  · rw [e] at h3
    obtain ⟨x, r, e2, hc⟩ := cyc_rot h3
    simp only [List.cons.injEq] at e2
    obtain ⟨rfl, rfl⟩ := e2
    exact (ch_snoc m _ (by simp)).1 hc


/-! ### the first shortest odd circle -/
/-! ### it is accepted -/
theorem see_ch {ps : List (Int × Int)} (h7 : ∀ p ∈ ps, okP p) : ∀ (l : List Nat) (a : Nat), Ch (Jw (seeL 7 ps)) (a :: l) → seeErr ps (a : Int) (up l) = 0
  | [], a, _ => rfl
  | x :: r, a, h => by
    have h1 : ((a : Int), (x : Int)) ∈ ps := by
      have := h.1
      unfold Jw at this
      rw [seeL_bit (Nat.le_refl 7) h7, decide_eq_true_iff] at this
      exact this
    have h2 := see_ch h7 r x h.2
    show seeErr ps (a : Int) ((x : Int) :: up r) = 0
    unfold seeErr
    rw [if_pos h1]; exact h2
theorem ring_ok {n : Int} : ∀ (l met : List Int), (∀ x ∈ l, 0 ≤ x ∧ x < n) → (met ++ l).Nodup → ringErr n met l = 0
  | [], _, _, _ => rfl
  | x :: r, met, h, hn => by
    have hx := h x (by simp)
    have hm : x ∉ met := fun hm => by
      rw [List.nodup_append] at hn
      exact hn.2.2 x hm x (by simp) rfl
    unfold ringErr
    rw [if_neg (by omega), if_neg hm]
    exact ring_ok r (met ++ [x]) (fun y hy => h y (by simp [hy])) (by simpa using hn)
theorem up_mem {c : List Nat} {x : Int} : x ∈ up c ↔ ∃ y ∈ c, x = (y : Int) := by
  unfold up
  rw [List.mem_map]
  exact ⟨fun ⟨y, h1, h2⟩ => ⟨y, h1, h2.symm⟩, fun ⟨y, h1, h2⟩ => ⟨y, h1, h2.symm⟩⟩
theorem up_nodup {c : List Nat} (h : c.Nodup) : (up c).Nodup := nodup_map_inj h (fun a _ b _ e => by omega)
theorem up_getD (c : List Nat) (i : Nat) (h : i < c.length) : (up c).getD i 0 = ((c.getD i 0 : Nat) : Int) := by
  rw [List.getD_eq_getElem?_getD, List.getD_eq_getElem?_getD, up, List.getElem?_map, List.getElem?_eq_getElem h]; rfl
/-! ### no odd circle: a choice -/
theorem mask_of (K : Nat → Prop) : ∀ n : Nat, ∃ m, m < 2 ^ n ∧ ∀ x, m.testBit x = true ↔ x < n ∧ K x
  | 0 => ⟨0, by simp, fun x => by simp⟩
  | n + 1 => by
    obtain ⟨m, h1, h2⟩ := mask_of K n
    by_cases hk : K n
    · refine ⟨m ||| 2 ^ n, ?_, fun x => ?_⟩
      · exact Nat.or_lt_two_pow (Nat.lt_of_lt_of_le h1 (Nat.pow_le_pow_right (by omega) (by omega))) (Nat.pow_lt_pow_right (by omega) (by omega))
      · rw [Nat.testBit_or, Nat.testBit_two_pow, Bool.or_eq_true, h2, decide_eq_true_iff]
        constructor
        · rintro (⟨h3, h4⟩ | h3)
          · exact ⟨by omega, h4⟩
          · subst h3; exact ⟨by omega, hk⟩
        · rintro ⟨h3, h4⟩
          by_cases e : n = x
          · exact .inr e
          · exact .inl ⟨by omega, h4⟩
    · refine ⟨m, Nat.lt_of_lt_of_le h1 (Nat.pow_le_pow_right (by omega) (by omega)), fun x => ?_⟩
      rw [h2]
      constructor
      · rintro ⟨h3, h4⟩; exact ⟨by omega, h4⟩
      · rintro ⟨h3, h4⟩
        refine ⟨?_, h4⟩
        rcases Nat.lt_or_ge x n with h5 | h5
        · exact h5
        · obtain rfl : x = n := by omega
          exact absurd h4 hk

attribute [local go_sem] shaped_t cells_t isAgg_t storable_t okRef_t pub_t

theorem circ_lt {n : Nat} (hn : n ≤ 7) {w : List Nat} : ∀ c ∈ circL n w, 2 ≤ c.length ∧ c.length ≤ 7 ∧ (∀ x ∈ c, x < n) ∧ c.Nodup := by
  intro c hc
  obtain ⟨a, s, e, ha, h2, h3, h4, _, _⟩ := (circ_iff hn _ c).1 hc
  have hm : ∀ x ∈ c, x < n := fun x hx => by
    rw [e] at hx
    rcases List.mem_cons.1 hx with rfl | hx
    · exact ha
    · exact (h2 x hx).2
  have := nodup_len_le c (List.range n) h3 (fun x hx => List.mem_range.2 (hm x hx))
  rw [List.length_range] at this
  exact ⟨h4, by omega, hm, h3⟩

attribute [local go_sem] shaped_t cells_t isAgg_t storable_t okRef_t pub_t

/-! ### how many circles, and how many on each reference -/
theorem z50 : tallyC 0 (List.replicate 49 0) = [I 0, I 0, I 0, I 0, I 0, I 0, I 0, I 0, I 0, I 0, I 0, I 0, I 0, I 0, I 0, I 0, I 0, I 0, I 0, I 0, I 0, I 0, I 0, I 0, I 0, I 0, I 0, I 0, I 0, I 0, I 0, I 0, I 0, I 0, I 0, I 0, I 0, I 0, I 0, I 0, I 0, I 0, I 0, I 0, I 0, I 0, I 0, I 0, I 0, I 0] := rfl
def bk81 (nl : Bool) (n : Int) (ps : List (Int × Int)) : List (List AV) := [bkCells nl n ps, bkCells nl n ps, webC n (wovL n ps)]
set_option maxHeartbeats 1000000 in
theorem c81 (nl : Bool) (n : Int) (ps : List (Int × Int)) (T : List Nat) :
    run L 81 [bkAV nl n ps] ⟨[bkCells nl n ps], T⟩ = if chk n ps = 0 then some (.tup [.ptr 3 0, I 0], ⟨bk81 nl n ps ++ layT 3 n (seeL 7 ps) (circL n.toNat (seeL 7 ps)).length (ovL (circL n.toNat (seeL 7 ps))), T⟩) else some (.tup [.v (.pointer none), I (chk n ps)], ⟨bk81 nl n ps, T⟩) := by
  rw [run_shared (fn := ir81) rfl rfl]
  have h65 := fun st => c65 nl n ps st
  unfold bk81
  by_cases h : chk n ps = 0
  · obtain ⟨h1, hl16, h3, h4, h5⟩ := chk_zero h
    obtain ⟨k, rfl⟩ := Int.eq_ofNat_of_zero_le (show 0 ≤ n by omega)
    have hw : wovL (k : Int) ps = seeL 7 ps := by unfold wovL; rw [if_pos h]
    rw [hw] at h65 ⊢
    rw [if_pos h, Int.toNat_natCast]
    have hlw := lenW (k : Int) (seeL 7 ps)
    rw [seeL_len] at hlw
    have hpw := putW (k : Int) (seeL 7 ps) (seeL_len 7 ps)
    have htkw : (webC (k : Int) (seeL 7 ps)).take 8 = webC (k : Int) (seeL 7 ps) := List.take_of_length_le (by omega)
    have h74 := c74 goalT 3 k (by omega) (seeL 7 ps) (seeL_len 7 ps) (seeL_small 7 h4) (goalT_ok 3 k _) rfl T [bkCells nl (k : Int) ps, bkCells nl (k : Int) ps, webC (k : Int) (seeL 7 ps)] rfl (dk_cons (bk_vis nl _ ps) (dk_cons (bk_vis nl _ ps) (dk_cons (fun _ => web_v _ _) dk_nil)))
    have e0 : goalT.ob 3 [] = tallyC 0 (List.replicate 49 0) := rfl
    have e1 : goalT.tt = 111 := rfl
    rw [e0, e1, layT_eq, z50] at h74
    simp only [List.cons_append, List.nil_append] at h74
    simp only [ir81, go_sem, reduceIte, Nat.reduceEqDiff, Nat.reduceAdd, Nat.reduceSub, Nat.reduceLeDiff, Nat.reduceLT, reduceCtorEq, Int.reduceLT, Int.reduceLE, Int.reduceEq, Int.reduceBEq, Int.reduceSub, Int.reduceAdd, Int.reduceMul, Int.reduceNeg, Int.reduceToNat, Nat.reduceMul, Nat.reduceBEq, h65, h, hlw, hpw, htkw, pubsW, storableW, h74, show pure 74 = false from rfl]
  · rw [if_neg h]
    have hl7 : (wovL n ps).length = 7 := by unfold wovL; rw [if_neg h]; simp
    have hlw := lenW n (wovL n ps)
    rw [hl7] at hlw
    have hpw := putW n (wovL n ps) hl7
    simp only [ir81, go_sem, reduceIte, Nat.reduceEqDiff, Nat.reduceAdd, Nat.reduceSub, Nat.reduceLeDiff, Nat.reduceLT, reduceCtorEq, Int.reduceLT, Int.reduceLE, Int.reduceEq, Int.reduceBEq, Int.reduceSub, Int.reduceAdd, Int.reduceMul, Int.reduceNeg, Int.reduceToNat, Nat.reduceMul, Nat.reduceBEq, h65, h, hlw, hpw, pubsW, storableW]
theorem c75t (tot : Nat) (O : List Nat) (d : Nat) (n : Int) (w : List Nat) (nl : Bool) (ps : List (Int × Int)) (T : List Nat) : run L 75 [.ifc 111 (.ptr 3 0)] ⟨bk81 nl n ps ++ layT d n w tot O, T⟩ = some (I (wr tot), ⟨bk81 nl n ps ++ layT d n w tot O, T⟩) := by
  rw [run_shared (fn := ir75) rfl rfl]
  unfold bk81 layT tallyC
  simp only [ir75, go_sem, reduceIte, Nat.reduceEqDiff, Nat.reduceAdd, Nat.reduceSub, Nat.reduceLeDiff, Nat.reduceLT, reduceCtorEq, Int.reduceLT, Int.reduceLE, Int.reduceEq, Int.reduceBEq, Int.reduceSub, Int.reduceAdd, Int.reduceMul, Int.reduceNeg, Int.reduceToNat, Nat.reduceMul, Nat.reduceBEq, List.cons_append, List.nil_append]
def allN (n : Int) (ps : List (Int × Int)) : List (List Nat) := circL n.toNat (seeL 7 ps)
/-- How many circles there are. -/
def circV (n : Int) (ps : List (Int × Int)) : Int := if chk n ps = 0 then ((allN n ps).length : Int) else 0
theorem c36 (nl : Bool) (n : Int) (ps : List (Int × Int)) (st : St) : run L 36 [bkAV nl n ps] st = some (.tup [I (circV n ps), I (chk n ps)], st) := by
  rw [run_pure (fn := ir36) rfl rfl]
  have h81 := c81 nl n ps []
  unfold circV allN
  by_cases h : chk n ps = 0
  · obtain ⟨h1, hl16, h3, h4, h5⟩ := chk_zero h
    rw [if_pos h] at h81 ⊢
    have hb := circ_len n.toNat (by omega) (seeL 7 ps)
    have hwr := wr_eq (circL n.toNat (seeL 7 ps)).length (by omega)
    have h75 := c75t (circL n.toNat (seeL 7 ps)).length (ovL (circL n.toNat (seeL 7 ps))) 3 n (seeL 7 ps) nl ps []
    rw [hwr] at h75
    simp only [ir36, go_sem, reduceIte, Nat.reduceEqDiff, Nat.reduceAdd, Nat.reduceSub, Nat.reduceLeDiff, Nat.reduceLT, reduceCtorEq, Int.reduceLT, Int.reduceLE, Int.reduceEq, Int.reduceBEq, Int.reduceSub, Int.reduceAdd, Int.reduceMul, Int.reduceNeg, Int.reduceToNat, Nat.reduceMul, Nat.reduceBEq, h81, h, h75, show pure 81 = false from rfl, show pure 75 = false from rfl]
  · rw [if_neg h] at h81 ⊢
    simp only [ir36, go_sem, reduceIte, Nat.reduceEqDiff, Nat.reduceAdd, Nat.reduceSub, Nat.reduceLeDiff, Nat.reduceLT, reduceCtorEq, Int.reduceLT, Int.reduceLE, Int.reduceEq, Int.reduceBEq, Int.reduceSub, Int.reduceAdd, Int.reduceMul, Int.reduceNeg, Int.reduceToNat, Nat.reduceMul, Nat.reduceBEq, h81, h, show pure 81 = false from rfl]

attribute [local go_sem] shaped_t cells_t isAgg_t storable_t okRef_t pub_t

/-! ### on how many circles a reference lies -/
def cntC (c : List Nat) (p : Nat) : Nat := ((List.range' 0 c.length).filter fun i => atP c i == p).length
def thN (cs : List (List Nat)) (p : Nat) : Nat := (cs.map fun c => cntC c p).sum
theorem atP_lt {c : List Nat} (hc : ∀ x ∈ c, x < 7) {i : Nat} (hi : i < c.length) : atP c i < 49 := by
  have h1 := getD_lt hc i hi
  have h2 := getD_lt hc ((i + 1) % c.length) (Nat.mod_lt _ (by omega))
  unfold atP; omega
theorem ovS_get {c : List Nat} (p : Nat) : ∀ (l : List Nat) (O : List Nat), (∀ i ∈ l, atP c i < O.length) → (l.foldl (ovS c) O).getD p 0 = O.getD p 0 + (l.filter fun i => atP c i == p).length
  | [], O, _ => by simp
  | i :: r, O, h => by
    have hi := h i (by simp)
    rw [List.foldl_cons, ovS_get p r _ (fun j hj => by unfold ovS; rw [List.length_set]; exact h j (by simp [hj]))]
    unfold ovS
    rw [getD_set O _ _ p hi]
    by_cases e : atP c i = p
    · rw [if_pos e.symm, List.filter_cons_of_pos (by simpa using e), List.length_cons, e]; omega
    · rw [if_neg (Ne.symm e), List.filter_cons_of_neg (by simpa using e)]
theorem ovC_get (p : Nat) : ∀ (cs : List (List Nat)) (O : List Nat), O.length = 49 → (∀ c ∈ cs, ∀ x ∈ c, x < 7) → (cs.foldl ovC O).getD p 0 = O.getD p 0 + thN cs p
  | [], O, _, _ => by simp [thN]
  | c :: r, O, hO, h => by
    have hc := h c (by simp)
    rw [List.foldl_cons, ovC_get p r _ (by unfold ovC; rw [ovS_len]; exact hO) (fun d hd => h d (by simp [hd]))]
    have := ovS_get (c := c) p (List.range' 0 c.length) O (fun i hi => by rw [List.mem_range'_1] at hi; rw [hO]; exact atP_lt hc (by omega))
    unfold ovC thN cntC at *
    rw [this, List.map_cons, List.sum_cons]; omega
theorem ovL_get {cs : List (List Nat)} (h : ∀ c ∈ cs, ∀ x ∈ c, x < 7) (p : Nat) : (ovL cs).getD p 0 = thN cs p := by
  unfold ovL
  rw [ovC_get p cs _ (by simp) h]
  have : (List.replicate 49 0).getD p 0 = 0 := by
    rw [List.getD_eq_getElem?_getD, List.getElem?_replicate]; split <;> rfl
  omega
theorem thN_le : ∀ (cs : List (List Nat)) (p : Nat), (∀ c ∈ cs, c.length ≤ 7) → thN cs p ≤ 7 * cs.length
  | [], _, _ => by simp [thN]
  | c :: r, p, h => by
    have h1 := thN_le r p (fun d hd => h d (by simp [hd]))
    have h2 : cntC c p ≤ 7 := by
      have := List.length_filter_le (fun i => atP c i == p) (List.range' 0 c.length)
      rw [List.length_range'] at this
      have := h c (by simp)
      unfold cntC; omega
    unfold thN at *
    rw [List.map_cons, List.sum_cons, List.length_cons]; omega
/-- What is known of all circles of a book that is checked. -/
theorem allN_ok {n : Int} {ps : List (Int × Int)} (h : chk n ps = 0) : (allN n ps).length ≤ 14680064 ∧ ∀ c ∈ allN n ps, 2 ≤ c.length ∧ c.length ≤ 7 ∧ (∀ x ∈ c, x < 7) ∧ (∀ x ∈ c, (x : Int) < n) ∧ c.Nodup := by
  obtain ⟨h1, _, _, _, _⟩ := chk_zero h
  refine ⟨circ_len n.toNat (by omega) _, fun c hc => ?_⟩
  obtain ⟨a1, a2, a3, a4⟩ := circ_lt (n := n.toNat) (by omega) c hc
  exact ⟨a1, a2, fun x hx => by have := a3 x hx; omega, fun x hx => by have := a3 x hx; omega, a4⟩
theorem over_wr {n : Int} {ps : List (Int × Int)} (h : chk n ps = 0) (p : Nat) : wr ((ovL (allN n ps)).getD p 0) = (thN (allN n ps) p : Int) := by
  obtain ⟨h1, h2⟩ := allN_ok h
  rw [ovL_get (fun c hc => (h2 c hc).2.2.1) p]
  have := thN_le (allN n ps) p (fun c hc => (h2 c hc).2.1)
  exact wr_eq _ (by omega)
def refP (ps : List (Int × Int)) (r : Nat) : Nat := (ps.getD r (0, 0)).1.toNat * 7 + (ps.getD r (0, 0)).2.toNat
/-- What Through answers. -/
def thrV (n : Int) (ps : List (Int × Int)) (r : Int) : Int := if chk n ps = 0 then if r < 0 ∨ (ps.length : Int) ≤ r then 0 else (thN (allN n ps) (refP ps r.toNat) : Int) else 0
def thrE (n : Int) (ps : List (Int × Int)) (r : Int) : Int := if chk n ps = 0 then if r < 0 ∨ (ps.length : Int) ≤ r then 2 else 0 else chk n ps
theorem c38 (nl : Bool) (n : Int) (ps : List (Int × Int)) (r : Int) (st : St) : run L 38 [bkAV nl n ps, I r] st = some (.tup [I (thrV n ps r), I (thrE n ps r)], st) := by
  rw [run_pure (fn := ir38) rfl rfl]
  have h81 := c81 nl n ps []
  unfold thrV thrE
  by_cases h : chk n ps = 0
  · obtain ⟨h1, hl16, h3, h4, h5⟩ := chk_zero h
    rw [if_pos h] at h81 ⊢
    rw [if_pos h]
    have hall : circL n.toNat (seeL 7 ps) = allN n ps := rfl
    rw [hall] at h81
    unfold bk81 layT at h81
    simp only [List.cons_append, List.nil_append] at h81
    by_cases p1 : r < 0
    · simp only [if_pos (Or.inl p1 : r < 0 ∨ (ps.length : Int) ≤ r)]
      simp only [ir38, go_sem, reduceIte, Nat.reduceEqDiff, Nat.reduceAdd, Nat.reduceSub, Nat.reduceLeDiff, Nat.reduceLT, reduceCtorEq, Int.reduceLT, Int.reduceLE, Int.reduceEq, Int.reduceBEq, Int.reduceSub, Int.reduceAdd, Int.reduceMul, Int.reduceNeg, Int.reduceToNat, Nat.reduceMul, Nat.reduceBEq, h81, h, p1, show pure 81 = false from rfl, List.length_map]
    · by_cases p2 : (ps.length : Int) ≤ r
      · simp only [if_pos (Or.inr p2 : r < 0 ∨ (ps.length : Int) ≤ r)]
        simp only [ir38, go_sem, reduceIte, Nat.reduceEqDiff, Nat.reduceAdd, Nat.reduceSub, Nat.reduceLeDiff, Nat.reduceLT, reduceCtorEq, Int.reduceLT, Int.reduceLE, Int.reduceEq, Int.reduceBEq, Int.reduceSub, Int.reduceAdd, Int.reduceMul, Int.reduceNeg, Int.reduceToNat, Nat.reduceMul, Nat.reduceBEq, h81, h, p1, p2, show pure 81 = false from rfl, List.length_map]
      · obtain ⟨k, rfl⟩ := Int.eq_ofNat_of_zero_le (show 0 ≤ r by omega)
        simp only [if_neg (show ¬((k : Int) < 0 ∨ (ps.length : Int) ≤ (k : Int)) by omega), Int.toNat_natCast]
        have hk : k < ps.length := by omega
        have hx := index_prs nl ps k hk
        have hp := h4 ps[k] (List.getElem_mem hk)
        have hrf : refP ps k = ps[k].1.toNat * 7 + ps[k].2.toNat := by
          unfold refP
          rw [List.getD_eq_getElem?_getD, List.getElem?_eq_getElem hk]; rfl
        rw [hrf]
        generalize ps[k] = c at *
        obtain ⟨u, v⟩ := c
        obtain ⟨a1, a2, a3, a4⟩ := hp
        simp only at a1 a2 a3 a4 hx
        obtain ⟨u, rfl⟩ := Int.eq_ofNat_of_zero_le a1
        obtain ⟨v, rfl⟩ := Int.eq_ofNat_of_zero_le a3
        simp only [Int.toNat_natCast]
        have hg := tally_get (allN n ps).length (ovL (allN n ps)) (u * 7 + v) (by rw [ovL_len]; omega)
        rw [over_wr h] at hg
        have e1 : 1 + u * 7 + v = 1 + (u * 7 + v) := by omega
        have b1 : ((0 : Int) ≤ (u : Int)) = True := eq_true (by omega)
        have b2 : ((u : Int) < 7) = True := eq_true (by omega)
        have b3 : ((0 : Int) ≤ (v : Int)) = True := eq_true (by omega)
        have b4 : ((v : Int) < 7) = True := eq_true (by omega)
        simp only [ir38, go_sem, reduceIte, Nat.reduceEqDiff, Nat.reduceAdd, Nat.reduceSub, Nat.reduceLeDiff, Nat.reduceLT, reduceCtorEq, Int.reduceLT, Int.reduceLE, Int.reduceEq, Int.reduceBEq, Int.reduceSub, Int.reduceAdd, Int.reduceMul, Int.reduceNeg, Int.reduceToNat, Nat.reduceMul, Nat.reduceBEq, h81, h, p1, p2, hx, e1, hg, b1, b2, b3, b4, show pure 81 = false from rfl, List.length_map]
  · rw [if_neg h] at h81 ⊢
    rw [if_neg h]
    unfold bk81 at h81
    simp only [ir38, go_sem, reduceIte, Nat.reduceEqDiff, Nat.reduceAdd, Nat.reduceSub, Nat.reduceLeDiff, Nat.reduceLT, reduceCtorEq, Int.reduceLT, Int.reduceLE, Int.reduceEq, Int.reduceBEq, Int.reduceSub, Int.reduceAdd, Int.reduceMul, Int.reduceNeg, Int.reduceToNat, Nat.reduceMul, Nat.reduceBEq, h81, h, show pure 81 = false from rfl]

attribute [local go_sem] shaped_t cells_t isAgg_t storable_t okRef_t pub_t

/-! ### circles come in ascending order -/
theorem lex_app (s t : List Nat) : ∀ c : List Nat, lexLt (up (c ++ s)) (up (c ++ t)) = lexLt (up s) (up t)
  | [] => rfl
  | x :: r => by
    have := lex_app s t r
    have e0 : lexLt (up (x :: r ++ s)) (up (x :: r ++ t)) = lexLt ((x : Int) :: up (r ++ s)) ((x : Int) :: up (r ++ t)) := rfl
    rw [e0]
    have e : lexLt ((x : Int) :: up (r ++ s)) ((x : Int) :: up (r ++ t)) = (decide ((x : Int) < x) || (decide ((x : Int) = x) && lexLt (up (r ++ s)) (up (r ++ t)))) := rfl
    rw [e, this]; simp
theorem rg_pre (w : List Nat) : ∀ (k : Nat) (c : List Nat) (free : Nat), ∀ x ∈ rg w k c free, ∃ s, x = c ++ s
  | 0, c, _, x, hx => by
    have := (mem_hdR.1 (show x ∈ hdR w c from hx)).1
    exact ⟨[], by simp [this]⟩
  | k + 1, c, free, x, hx => by
    have hx' : x ∈ hdR w c ++ (bitsL (w.getD (lastW c) 0 &&& free)).flatMap fun x => rg w k (c ++ [x]) (dfN free (2 ^ x)) := hx
    rcases List.mem_append.1 hx' with h | h
    · exact ⟨[], by simp [(mem_hdR.1 h).1]⟩
    · obtain ⟨y, _, h⟩ := List.mem_flatMap.1 h
      obtain ⟨s, e⟩ := rg_pre w k _ _ x h
      exact ⟨y :: s, by rw [e]; simp⟩
def Asc (l : List (List Nat)) : Prop := l.Pairwise fun a b => lexLt (up a) (up b) = true
theorem asc_flat {f : Nat → List (List Nat)} {c : List Nat} {l : List Nat} (h1 : ∀ x, Asc (f x)) (h2 : ∀ x, ∀ y ∈ f x, ∃ s, y = c ++ x :: s) (hl : l.Pairwise (· < ·)) : Asc (l.flatMap f) := by
  unfold Asc
  rw [List.pairwise_flatMap]
  refine ⟨fun x _ => h1 x, hl.imp fun {a b} hab x hx y hy => ?_⟩
  obtain ⟨s, rfl⟩ := h2 a x hx
  obtain ⟨t, rfl⟩ := h2 b y hy
  rw [lex_app]
  show lexLt ((a : Int) :: up s) ((b : Int) :: up t) = true
  unfold lexLt
  rw [decide_eq_true (show (a : Int) < (b : Int) by omega)]; rfl
theorem bits_asc (m : Nat) : (bitsL m).Pairwise (· < ·) := List.pairwise_lt_range.filter _
theorem rg_asc (w : List Nat) : ∀ (k : Nat) (c : List Nat) (free : Nat), Asc (rg w k c free)
  | 0, c, _ => by
    show Asc (hdR w c)
    unfold hdR Asc; split <;> simp
  | k + 1, c, free => by
    show Asc (hdR w c ++ (bitsL (w.getD (lastW c) 0 &&& free)).flatMap fun x => rg w k (c ++ [x]) (dfN free (2 ^ x)))
    have hp : ∀ x, ∀ y ∈ rg w k (c ++ [x]) (dfN free (2 ^ x)), ∃ s, y = c ++ x :: s := fun x y hy => by
      obtain ⟨s, e⟩ := rg_pre w k _ _ y hy
      exact ⟨s, by rw [e]; simp⟩
    unfold Asc
    rw [List.pairwise_append]
    refine ⟨by unfold hdR; split <;> simp, asc_flat (c := c) (fun x => rg_asc w k _ _) hp (bits_asc _), fun a ha b hb => ?_⟩
    have ea := (mem_hdR.1 ha).1
    obtain ⟨x, _, hb⟩ := List.mem_flatMap.1 hb
    obtain ⟨s, rfl⟩ := hp x b hb
    subst ea
    have := lex_app [] (x :: s) a
    rw [List.append_nil] at this
    rw [this]; rfl
theorem circ_asc (n : Nat) (w : List Nat) : Asc (circL n w) := by
  unfold circL
  refine asc_flat (c := []) (fun x => rg_asc w 7 _ _) (fun x y hy => ?_) List.pairwise_lt_range'
  obtain ⟨s, e⟩ := rg_pre w 7 _ _ y hy
  exact ⟨s, by rw [e]; simp⟩

/-! ### the first shortest odd one -/

attribute [local go_sem] shaped_t cells_t isAgg_t storable_t okRef_t pub_t shaped_oA cells_oA storable_oA

/-! ### the reference counts circles on a reference -/
theorem thN_cons (c : List Nat) (r : List (List Nat)) (p : Nat) : thN (c :: r) p = cntC c p + thN r p := by unfold thN; rw [List.map_cons, List.sum_cons]

attribute [local go_sem high] and_one shr_u shl_one or_u and_u
attribute [local go_sem] shaped_t cells_t isAgg_t storable_t okRef_t pub_t

/-! ### numbers, or a circle -/
theorem cyc_next {J : Nat → Nat → Prop} {c : List Nat} (h : Cyc J c) : ∀ x ∈ c, ∃ y ∈ c, J x y := by
  obtain ⟨a, r, rfl, hc⟩ := h
  have key : ∀ (l : List Nat) (z : Nat), Ch J (l ++ [z]) → ∀ x ∈ l, ∃ y, (y ∈ l ∨ y = z) ∧ J x y := by
    intro l
    induction l with
    | nil => intro z _ x hx; simp at hx
    | cons b l ih =>
      intro z hch x hx
      cases l with
      | nil =>
        simp at hx; subst hx
        exact ⟨z, .inr rfl, hch.1⟩
      | cons b2 l =>
        rcases List.mem_cons.1 hx with rfl | hx
        · exact ⟨b2, .inl (by simp), hch.1⟩
        · obtain ⟨y, hy, hj⟩ := ih z hch.2 x hx
          exact ⟨y, hy.imp (fun h => by simp only [List.mem_cons] at h ⊢; exact .inr h) id, hj⟩
  intro x hx
  obtain ⟨y, hy, hj⟩ := key (a :: r) a hc x hx
  exact ⟨y, hy.elim id (fun h => by rw [h]; simp), hj⟩
/-! ### the program's loops -/

attribute [local go_sem] shaped_t cells_t isAgg_t storable_t okRef_t pub_t okRef_out storable_out shaped_out cells_out fin_out pub_out

/-! ### other numbers for words -/
def swI (i k a : Nat) : Nat := if a = k then i else if a = i then k else a
theorem sw_sw (i k a : Nat) : swI i k (swI i k a) = a := by
  unfold swI
  repeat' split
  all_goals omega
theorem sw_lt {i k a : Nat} (hk : k ≤ i) (ha : a < i + 1) : swI i k a < i + 1 := by
  unfold swI
  repeat' split
  all_goals omega
def swapN (N : List Nat) (i k : Nat) : List Nat := (N.set i (N.getD k 0)).set k (N.getD i 0)
def nmStep (ys : List Int) (N : List Nat) (i : Nat) : List Nat := swapN (N.set i i) i (ys.getD i 0 % ((i : Int) + 1)).toNat
def nameL (n : Nat) (ys : List Int) : List Nat := (List.range' 0 n).foldl (nmStep ys) (List.replicate n 0)
/-- The first ones are different, and less. -/
structure PermTo (N : List Nat) (i : Nat) : Prop where
  lt : ∀ a, a < i → N.getD a 0 < i
  inj : ∀ a b, a < i → b < i → N.getD a 0 = N.getD b 0 → a = b
theorem swap_get {N : List Nat} {i k : Nat} (hi : i < N.length) (hk : k < N.length) (a : Nat) : (swapN N i k).getD a 0 = N.getD (swI i k a) 0 := by
  unfold swapN swI
  rw [getD_set _ k _ a (by rw [List.length_set]; exact hk)]
  by_cases h : a = k
  · rw [if_pos h, if_pos h]
  · rw [if_neg h, if_neg h, getD_set _ i _ a hi]
    by_cases h2 : a = i
    · rw [if_pos h2, if_pos h2]
    · rw [if_neg h2, if_neg h2]
theorem nm_k (ys : List Int) (i : Nat) : ((ys.getD i 0 % ((i : Int) + 1)).toNat) ≤ i ∧ ys.getD i 0 % ((i : Int) + 1) = (((ys.getD i 0 % ((i : Int) + 1)).toNat : Nat) : Int) := by
  have := mod_range (ys.getD i 0) ((i : Int) + 1) (by omega)
  omega
theorem nm_len (ys : List Int) : ∀ (l : List Nat) (N : List Nat), (l.foldl (nmStep ys) N).length = N.length
  | [], _ => rfl
  | i :: r, N => by rw [List.foldl_cons, nm_len ys r]; simp [nmStep, swapN]
theorem nm_step {ys : List Int} {N : List Nat} {i : Nat} (hi : i < N.length) (h : PermTo N i) : PermTo (nmStep ys N i) (i + 1) := by
  have hk := (nm_k ys i).1
  unfold nmStep
  generalize (ys.getD i 0 % ((i : Int) + 1)).toNat = k at *
  have hl : (N.set i i).length = N.length := List.length_set
  have hg := fun a => swap_get (N := N.set i i) (i := i) (k := k) (by omega) (by omega) a
  have hs := fun a => getD_set N i i a hi
  have hP : PermTo (N.set i i) (i + 1) := by
    refine ⟨fun a ha => ?_, fun a b ha hb e => ?_⟩
    · rw [hs]
      split
      · omega
      · have := h.lt a (by omega); omega
    · rw [hs, hs] at e
      by_cases h1 : a = i <;> by_cases h2 : b = i
      · omega
      · rw [if_pos h1, if_neg h2] at e
        have := h.lt b (by omega); omega
      · rw [if_neg h1, if_pos h2] at e
        have := h.lt a (by omega); omega
      · rw [if_neg h1, if_neg h2] at e
        exact h.inj a b (by omega) (by omega) e
  refine ⟨fun a ha => ?_, fun a b ha hb e => ?_⟩
  · rw [hg]; exact hP.lt _ (sw_lt hk ha)
  · rw [hg, hg] at e
    have := hP.inj _ _ (sw_lt hk ha) (sw_lt hk hb) e
    rw [← sw_sw i k a, this, sw_sw]
theorem nm_all {ys : List Int} : ∀ (k i : Nat) (N : List Nat), i + k ≤ N.length → PermTo N i → PermTo ((List.range' i k).foldl (nmStep ys) N) (i + k)
  | 0, _, _, _, h => h
  | k + 1, i, N, hl, h => by
    rw [List.range'_succ, List.foldl_cons, show i + (k + 1) = i + 1 + k by omega]
    exact nm_all k (i + 1) _ (by simp [nmStep, swapN]; omega) (nm_step (by omega) h)
theorem name_ok (n : Nat) (ys : List Int) : (nameL n ys).length = n ∧ PermTo (nameL n ys) n := by
  refine ⟨by unfold nameL; rw [nm_len]; simp, ?_⟩
  have := nm_all (ys := ys) n 0 (List.replicate n 0) (by simp) ⟨fun a h => by omega, fun a b h => by omega⟩
  rw [Nat.zero_add] at this
  exact this


/-! ### without circles: one choice, the words whose number is 0 -/
theorem single {α : Type} {l : List α} (hn : l.Nodup) {a : α} (ha : a ∈ l) (h : ∀ x ∈ l, x = a) : l = [a] := by
  cases l with
  | nil => simp at ha
  | cons x r =>
    have hx := h x (by simp)
    subst hx
    cases r with
    | nil => rfl
    | cons y r =>
      have hy := h y (by simp)
      subst hy
      rw [List.nodup_cons] at hn
      exact absurd (by simp) hn.1

attribute [local go_sem high] and_one shr_u shl_one or_u and_u
attribute [local go_sem] shaped_t cells_t isAgg_t storable_t okRef_t pub_t okRef_out storable_out shaped_out cells_out fin_out pub_out

/-! ### a list above the book's -/
theorem ren1_outG {o : List (Int × Int)} {k : Nat} (h : (outT o).length ≤ k) (T : List Nat) (acc : List (Nat × Nat)) : ren1 k T acc (outAV o) = (outAV o, acc) := by
  unfold outAV outT loc locT at *
  by_cases h0 : (o.map prAV).length = 0
  · rw [if_pos h0, if_pos rfl]; rfl
  · rw [if_neg h0] at h ⊢
    simp only [List.length_singleton] at h
    rw [ren1_lown, if_pos (by omega)]

attribute [local go_sem high] and_one shr_u shl_one or_u and_u
attribute [local go_sem] shaped_t cells_t isAgg_t storable_t okRef_t pub_t okRef_out storable_out shaped_out cells_out fin_out pub_out

theorem make_J (st : St) (n : Nat) (hn : n ≤ 100) : makeAV 1 false [.v (.int .i64 0)] st (J n) (J n) = some (.rsl st.store.length 0 n n 1 false, ⟨st.store ++ [(List.replicate n 0).map J], st.tips⟩) := by
  have h := make_ints st false (n : Int)
  rw [if_pos ⟨by omega, by unfold maxGrow; omega⟩, Int.toNat_natCast] at h
  rw [h]
  simp


/-! ### circles and references, counted two ways -/
theorem nodup_get {α : Type} {l : List α} (h : l.Nodup) {i j : Nat} (hi : i < l.length) (hj : j < l.length) (e : l[i] = l[j]) : i = j := by
  rcases Nat.lt_trichotomy i j with h1 | h1 | h1
  · exact absurd e (List.pairwise_iff_getElem.1 h i j hi hj h1)
  · exact h1
  · exact absurd e.symm (List.pairwise_iff_getElem.1 h j i hj hi h1)
theorem ch_at {J : Nat → Nat → Prop} : ∀ (c : List Nat), Ch J c → ∀ k, k + 1 < c.length → J (c.getD k 0) (c.getD (k + 1) 0)
  | [], _, k, h => by simp at h
  | [a], _, k, h => by simp at h
  | a :: b :: r, hc, 0, _ => hc.1
  | a :: b :: r, hc, k + 1, h => by
    have := ch_at (b :: r) hc.2 k (by simpa using h)
    simpa using this
/-- Each word of a circle sees the next one. -/
theorem circ_edge {n : Nat} (hn : n ≤ 7) {ps : List (Int × Int)} (h7 : ∀ p ∈ ps, okP p) {c : List Nat} (hc : c ∈ circL n (seeL 7 ps)) {k : Nat} (hk : k < c.length) : (((c.getD k 0 : Nat) : Int), ((c.getD ((k + 1) % c.length) 0 : Nat) : Int)) ∈ ps := by
  obtain ⟨a, s, e, ha, h2, h3, h4, h5, h6⟩ := (circ_iff hn _ c).1 hc
  have key : Jw (seeL 7 ps) (c.getD k 0) (c.getD ((k + 1) % c.length) 0) := by
    by_cases h : k + 1 < c.length
    · rw [Nat.mod_eq_of_lt h]
      exact ch_at c h5 k h
    · obtain rfl : k = c.length - 1 := by omega
      rw [show c.length - 1 + 1 = c.length by omega, Nat.mod_self]
      have e0 : c.getD 0 0 = a := by rw [e]; rfl
      rw [e0]; exact h6
  unfold Jw at key
  rwa [seeL_bit (Nat.le_refl 7) h7, decide_eq_true_iff] at key
theorem atP_ref {ps : List (Int × Int)} {c : List Nat} {k i : Nat} (hi : i < ps.length) (he : ps[i] = (((c.getD k 0 : Nat) : Int), ((c.getD ((k + 1) % c.length) 0 : Nat) : Int))) : refP ps i = atP c k := by
  unfold refP atP
  rw [List.getD_eq_getElem?_getD, List.getElem?_eq_getElem hi, Option.getD_some, he]; simp
/-- Of some numbers just one has a property. -/
theorem sum_one {k m : Nat} (p : Nat → Bool) (hm : m < k) (h1 : p m = true) (h2 : ∀ j, j < k → p j = true → j = m) : ((List.range' 0 k).filter p).length = 1 := by
  have : (List.range' 0 k).filter p = [m] := by
    refine single (List.Pairwise.imp (fun {a b} hab => Nat.ne_of_lt hab) (List.Pairwise.filter _ (List.pairwise_lt_range' (s := 0) (n := k)))) (List.mem_filter.2 ⟨by rw [List.mem_range'_1]; omega, h1⟩) fun x hx => ?_
    obtain ⟨a, b⟩ := List.mem_filter.1 hx
    rw [List.mem_range'_1] at a
    exact h2 x (by omega) b
  rw [this]; rfl
/-- A circle lies on a reference once, or not. -/
theorem cnt_le {c : List Nat} (hn : c.Nodup) (hc : ∀ x ∈ c, x < 7) (p : Nat) : cntC c p ≤ 1 := by
  unfold cntC
  have key : ∀ i j, i < c.length → j < c.length → atP c i = atP c j → i = j := fun i j hi hj h => by
    have h1 := getD_lt hc i hi
    have h2 := getD_lt hc j hj
    have h3 := getD_lt hc ((i + 1) % c.length) (Nat.mod_lt _ (by omega))
    have h4 := getD_lt hc ((j + 1) % c.length) (Nat.mod_lt _ (by omega))
    unfold atP at h
    have e : c.getD i 0 = c.getD j 0 := by omega
    rw [List.getD_eq_getElem?_getD, List.getElem?_eq_getElem hi, List.getD_eq_getElem?_getD, List.getElem?_eq_getElem hj] at e
    exact nodup_get hn hi hj (by simpa using e)
  cases hf : (List.range' 0 c.length).filter fun i => atP c i == p with
  | nil => simp
  | cons m r =>
    have hm : m ∈ (List.range' 0 c.length).filter fun i => atP c i == p := by rw [hf]; simp
    obtain ⟨a1, a2⟩ := List.mem_filter.1 hm
    rw [List.mem_range'_1] at a1
    rw [beq_iff_eq] at a2
    have := sum_one (fun i => atP c i == p) (show m < c.length by omega) (by rw [beq_iff_eq]; exact a2) (fun j hj hp => key j m hj (by omega) (by rw [beq_iff_eq] at hp; rw [hp, a2]))
    rw [hf] at this; omega


/-! ### without a reference: as many circles fewer as it lies on -/
theorem ch_of {J : Nat → Nat → Prop} : ∀ (c : List Nat), (∀ k, k + 1 < c.length → J (c.getD k 0) (c.getD (k + 1) 0)) → Ch J c
  | [], _ => trivial
  | [_], _ => trivial
  | a :: b :: r, h => ⟨by simpa using h 0 (by simp), ch_of (b :: r) fun k hk => by simpa using h (k + 1) (by simpa using hk)⟩
theorem asc_nodup {l : List (List Nat)} (h : Asc l) : l.Nodup := by
  unfold Asc at h
  exact List.Pairwise.imp (fun {a b} hab e => by subst e; rw [lex_irrefl] at hab; simp at hab) h

attribute [local go_sem] shaped_t cells_t isAgg_t storable_t okRef_t pub_t okRef_out storable_out shaped_out cells_out fin_out pub_out

/-! ### a single circle: the loops -/
set_option maxHeartbeats 1000000 in
theorem loop9_0 (ys : List Int) (hyl : ys.length = 7) (hy : ∀ a ∈ ys, Byte a) (n : Nat) (hn : n ≤ 7) (i : Nat) (N : List Nat) (hok : i ≤ n ∧ N.length = n) (env : Env) (st : St)
    (hg : gcAV true 2 0 (canon env [3, 5, 6, 27, 28]) st = ([(3, .ptr 0 0), (5, J n), (6, .rsl 1 0 n n 1 false), (27, J n), (28, J i)], ⟨[ys.map B8, N.map J], []⟩)) :
    ∃ x_1 en s, lim (headed pure (run L) true [3, 5, 6, 27, 28] lp9_0 2 0) env st = some (x_1, en, s) ∧ (x_1 = .exit 0 ∧ en.get 5 = J n ∧ en.get 6 = .rsl 1 0 n n 1 false ∧ s = ⟨[ys.map B8, ((List.range' i (n - i)).foldl (nmStep ys) N).map J], []⟩) := by
  refine loop_wp (α := Nat × List Nat) (fun ⟨i, N⟩ => n - i) (fun ⟨i, N⟩ => i ≤ n ∧ N.length = n) (fun ⟨i, N⟩ => ([(3, .ptr 0 0), (5, J n), (6, .rsl 1 0 n n 1 false), (27, J n), (28, J i)], ⟨[ys.map B8, N.map J], []⟩)) (fun ⟨i, N⟩ x_1 en s => x_1 = .exit 0 ∧ en.get 5 = J n ∧ en.get 6 = .rsl 1 0 n n 1 false ∧ s = ⟨[ys.map B8, ((List.range' i (n - i)).foldl (nmStep ys) N).map J], []⟩) (fun ⟨i, N⟩ hok => ?_) ⟨i, N⟩ hok env st hg
  simp only at hok
  obtain ⟨h1, h2⟩ := hok
  dsimp only at h1 h2 ⊢
  by_cases h : i < n
  · have hs := succ64 i (by omega)
    have hlt : ((i : Int) < (n : Int)) = True := eq_true (by omega)
    have hr : List.range' i (n - i) = i :: List.range' (i + 1) (n - (i + 1)) := by
      rw [show n - i = (n - (i + 1)) + 1 by omega, List.range'_succ]
    have g := getB ys i (by omega)
    have by1 := byte_getD hy i
    have hk := nm_k ys i
    have hst : nmStep ys N i = swapN (N.set i i) i (ys.getD i 0 % ((i : Int) + 1)).toNat := rfl
    generalize (ys.getD i 0 % ((i : Int) + 1)).toNat = k at *
    generalize ys.getD i 0 = a at *
    unfold Byte at by1
    have wa := wrap64 a (by omega) (by omega)
    have zn : (((i + 1 : Nat) : Int) = 0) = False := eq_false (by omega)
    have ta : a.tmod ((i + 1 : Nat) : Int) = (k : Int) := by rw [← hk.2]; exact tmod8 (by omega)
    have b1 : (i + 1 ≤ 7) = True := eq_true (by omega)
    have b2 : ((i : Int) < 7) = True := eq_true (by omega)
    have b3 : ((0 : Int) ≤ (i : Int)) = True := eq_true (by omega)
    have b4 : ((0 : Int) ≤ (k : Int)) = True := eq_true (by omega)
    have b5 : ((k : Int) < (n : Int)) = True := eq_true (by omega)
    have b6 : (i + 1 ≤ n) = True := eq_true (by omega)
    have b7 : (k + 1 ≤ n) = True := eq_true (by omega)
    have s1 : (N.map J).set i (J i) = (N.set i i).map J := by rw [List.map_set]
    have hl2 : (N.set i i).length = n := by rw [List.length_set]; exact h2
    have g2 := getJ (N.set i i) k (by omega)
    have g3 := getJ (N.set i i) i (by omega)
    have s2 : ((N.set i i).set i ((N.set i i).getD k 0)).set k ((N.set i i).getD i 0) = nmStep ys N i := by rw [hst]; rfl
    have hl3 : (nmStep ys N i).length = n := by rw [hst]; unfold swapN; rw [List.length_set, List.length_set]; exact hl2
    rw [hr, List.foldl_cons]
    generalize nmStep ys N i = N3 at *
    generalize N.set i i = N2 at *
    simp only [go_sem, reduceIte, Nat.reduceEqDiff, Nat.reduceAdd, Nat.reduceSub, Nat.reduceLeDiff, Nat.reduceLT, reduceCtorEq, Int.reduceLT, Int.reduceLE, Int.reduceEq, Int.reduceBEq, Int.reduceSub, Int.reduceAdd, Int.reduceMul, Int.reduceNeg, Int.reduceToNat, Nat.reduceMul, Nat.reduceBEq, index_rsl_if, setm, make_ints, condK_dec, wantK_dec, not_dec, and_dec, or_dec, seqK_ite, seqK_none, blockK_ite, blockK_none, opsK_ite, opsK_none, stepK_ite, stepK_none, bodyK_ite, bodyK_none, resK_ite, resK_none, leaveK_ite, leaveK_none, only_ite, only_none, bind_ite, gives_some, gives_none, gives_ite, then_normal, then_ret, then_exit, then_none, then_ite, Option.bind_none, Bool.not_eq_true', decide_eq_false_iff_not, Bool.and_eq_true, Bool.or_eq_true, Option.some.injEq, Int.not_lt, Int.not_le, lp9_0, hlt, hs, g, wa, zn, ta, b1, b2, b3, b4, b5, b6, b7, s1, g2, g3, s2, h2, hl2, hyl, List.length_map, List.length_set]
    refine ⟨(i + 1, N3), by simp only [go_sem, reduceIte, Nat.reduceEqDiff, Nat.reduceAdd, Nat.reduceSub, Nat.reduceLeDiff, Nat.reduceLT, reduceCtorEq, Int.reduceLT, Int.reduceLE, Int.reduceEq, Int.reduceBEq, Int.reduceSub, Int.reduceAdd, Int.reduceMul, Int.reduceNeg, Int.reduceToNat, Nat.reduceMul, Nat.reduceBEq, ren1_locm, loc_tips, locT_eq, okRefsB, renCellsB, okRefsJ, renCellsJ, s2] <;> rfl, ?_, ?_, fun x en s hq => ?_⟩
    · dsimp only; exact ⟨by omega, hl3⟩
    · dsimp only; omega
    · exact hq
  · have hr : n - i = 0 := by omega
    have hlt : ((i : Int) < (n : Int)) = False := eq_false (by omega)
    rw [hr]
    simp only [go_sem, reduceIte, Nat.reduceEqDiff, Nat.reduceAdd, Nat.reduceSub, Nat.reduceLeDiff, Nat.reduceLT, reduceCtorEq, Int.reduceLT, Int.reduceLE, Int.reduceEq, Int.reduceBEq, Int.reduceSub, Int.reduceAdd, Int.reduceMul, Int.reduceNeg, Int.reduceToNat, Nat.reduceMul, Nat.reduceBEq, index_rsl_if, setm, make_ints, condK_dec, wantK_dec, not_dec, and_dec, or_dec, seqK_ite, seqK_none, blockK_ite, blockK_none, opsK_ite, opsK_none, stepK_ite, stepK_none, bodyK_ite, bodyK_none, resK_ite, resK_none, leaveK_ite, leaveK_none, only_ite, only_none, bind_ite, gives_some, gives_none, gives_ite, then_normal, then_ret, then_exit, then_none, then_ite, Option.bind_none, Bool.not_eq_true', decide_eq_false_iff_not, Bool.and_eq_true, Bool.or_eq_true, Option.some.injEq, Int.not_lt, Int.not_le, lp9_0, hlt]
    rfl

def edgP (N : List Nat) (n i : Nat) : Int × Int := (((N.getD i 0 : Nat) : Int), ((N.getD ((i + 1) % n) 0 : Nat) : Int))
def turnL (N : List Nat) (n k : Nat) : List (Int × Int) := (List.range' 0 k).map (edgP N n)
theorem turn_len (N : List Nat) (n k : Nat) : (turnL N n k).length = k := by unfold turnL; rw [List.length_map, List.length_range']
theorem turn_succ (N : List Nat) (n k : Nat) : turnL N n (k + 1) = turnL N n k ++ [edgP N n k] := by
  unfold turnL
  rw [List.range'_1_concat, List.map_append, List.map_singleton, Nat.zero_add]

set_option maxHeartbeats 1000000 in
theorem loop9_1 (ys : List Int) (n : Nat) (hn0 : 0 < n) (hn : n ≤ 7) (N : List Nat) (hN : N.length = n) (i : Nat) (hok : i ≤ n) (env : Env) (st : St)
    (hg : gcAV true 3 0 (canon env [5, 6, 9, 59, 60]) st = ([(5, J n), (6, .rsl 1 0 n n 1 false), (9, .ptr 2 0), (59, J n), (60, J i)], ⟨[ys.map B8, N.map J, [I n, outAV (turnL N n i)]], outT (turnL N n i)⟩)) :
    ∃ x_1 en s, lim (headed pure (run L) true [5, 6, 9, 59, 60] lp9_1 3 0) env st = some (x_1, en, s) ∧ (x_1 = .exit 2 ∧ en.get 5 = J n ∧ en.get 6 = .rsl 1 0 n n 1 false ∧ en.get 9 = .ptr 2 0 ∧ s = ⟨[ys.map B8, N.map J, [I n, outAV (turnL N n n)]], outT (turnL N n n)⟩) := by
  refine loop_wp (α := Nat) (fun i => n - i) (fun i => i ≤ n) (fun i => ([(5, J n), (6, .rsl 1 0 n n 1 false), (9, .ptr 2 0), (59, J n), (60, J i)], ⟨[ys.map B8, N.map J, [I n, outAV (turnL N n i)]], outT (turnL N n i)⟩)) (fun i x_1 en s => x_1 = .exit 2 ∧ en.get 5 = J n ∧ en.get 6 = .rsl 1 0 n n 1 false ∧ en.get 9 = .ptr 2 0 ∧ s = ⟨[ys.map B8, N.map J, [I n, outAV (turnL N n n)]], outT (turnL N n n)⟩) (fun i hok => ?_) i hok env st hg
  by_cases h : i < n
  · have hs := succ64 i (by omega)
    have hlt : ((i : Int) < (n : Int)) = True := eq_true (by omega)
    have hm : (i + 1) % n < n := Nat.mod_lt _ hn0
    have zn : ((n : Int) = 0) = False := eq_false (by omega)
    have ta : ((i + 1 : Nat) : Int).tmod (n : Int) = (((i + 1) % n : Nat) : Int) := tmod_nat _ _
    have g1 := getJ N i (by omega)
    have g2 := getJ N ((i + 1) % n) (by omega)
    have happ := fun S => append_out (turnL N n i) ((N.getD i 0 : Nat) : Int) ((N.getD ((i + 1) % n) 0 : Nat) : Int) S (by rw [turn_len]; omega)
    have he : (((N.getD i 0 : Nat) : Int), ((N.getD ((i + 1) % n) 0 : Nat) : Int)) = edgP N n i := rfl
    rw [he, ← turn_succ] at happ
    have b3 : ((0 : Int) ≤ (i : Int)) = True := eq_true (by omega)
    have b4 : ((0 : Int) ≤ (((i + 1) % n : Nat) : Int)) = True := eq_true (by omega)
    have b5 : ((((i + 1) % n : Nat) : Int) < (n : Int)) = True := eq_true (by omega)
    generalize (i + 1) % n = k at *
    generalize N.getD i 0 = p at *
    generalize N.getD k 0 = q at *
    generalize turnL N n i = o at *
    simp only [go_sem, reduceIte, Nat.reduceEqDiff, Nat.reduceAdd, Nat.reduceSub, Nat.reduceLeDiff, Nat.reduceLT, reduceCtorEq, Int.reduceLT, Int.reduceLE, Int.reduceEq, Int.reduceBEq, Int.reduceSub, Int.reduceAdd, Int.reduceMul, Int.reduceNeg, Int.reduceToNat, Nat.reduceMul, Nat.reduceBEq, index_rsl_if, setm, make_ints, condK_dec, wantK_dec, not_dec, and_dec, or_dec, seqK_ite, seqK_none, blockK_ite, blockK_none, opsK_ite, opsK_none, stepK_ite, stepK_none, bodyK_ite, bodyK_none, resK_ite, resK_none, leaveK_ite, leaveK_none, only_ite, only_none, bind_ite, gives_some, gives_none, gives_ite, then_normal, then_ret, then_exit, then_none, then_ite, Option.bind_none, Bool.not_eq_true', decide_eq_false_iff_not, Bool.and_eq_true, Bool.or_eq_true, Option.some.injEq, Int.not_lt, Int.not_le, lp9_1, hlt, hs, zn, ta, g1, g2, b3, b4, b5, happ]
    refine ⟨i + 1, by simp only [go_sem, reduceIte, Nat.reduceEqDiff, Nat.reduceAdd, Nat.reduceSub, Nat.reduceLeDiff, Nat.reduceLT, reduceCtorEq, Int.reduceLT, Int.reduceLE, Int.reduceEq, Int.reduceBEq, Int.reduceSub, Int.reduceAdd, Int.reduceMul, Int.reduceNeg, Int.reduceToNat, Nat.reduceMul, Nat.reduceBEq, ren1_locm, loc_tips, locT_eq, okRefsB, renCellsB, okRefsJ, renCellsJ, ren1_out, outAcc_snd] <;> rfl, ?_, ?_, fun x en s hq => ?_⟩
    · omega
    · omega
    · exact hq
  · obtain rfl : i = n := by omega
    have hlt : ((i : Int) < (i : Int)) = False := eq_false (by omega)
    simp only [go_sem, reduceIte, Nat.reduceEqDiff, Nat.reduceAdd, Nat.reduceSub, Nat.reduceLeDiff, Nat.reduceLT, reduceCtorEq, Int.reduceLT, Int.reduceLE, Int.reduceEq, Int.reduceBEq, Int.reduceSub, Int.reduceAdd, Int.reduceMul, Int.reduceNeg, Int.reduceToNat, Nat.reduceMul, Nat.reduceBEq, index_rsl_if, setm, make_ints, condK_dec, wantK_dec, not_dec, and_dec, or_dec, seqK_ite, seqK_none, blockK_ite, blockK_none, opsK_ite, opsK_none, stepK_ite, stepK_none, bodyK_ite, bodyK_none, resK_ite, resK_none, leaveK_ite, leaveK_none, only_ite, only_none, bind_ite, gives_some, gives_none, gives_ite, then_normal, then_ret, then_exit, then_none, then_ite, Option.bind_none, Bool.not_eq_true', decide_eq_false_iff_not, Bool.and_eq_true, Bool.or_eq_true, Option.some.injEq, Int.not_lt, Int.not_le, lp9_1, hlt]

theorem loop9_2 (ys : List Int) (n : Nat) (hn : n ≤ 7) (N : List Nat) (o : List (Int × Int)) (C : List (List Int)) (hC : ∀ c ∈ C, c.length = n / 2) (hCl : C.length ≤ 12) (th : Nat) (hth : th = (outT o).length) (i : Nat) (hok : i ≤ C.length) (env : Env) (st : St)
    (hg : gcAV true 3 th (canon env [5, 6, 9, 125, 126, 127]) st = ([(5, J n), (6, .rsl 1 0 n n 1 false), (9, .ptr 2 0), (125, sl 1 true (C.map tAV)), (126, I C.length), (127, I i)], ⟨[ys.map B8, N.map J, [I n, outAV o]], outT o⟩)) :
    ∃ x_1 en s, lim (headed pure (run L) true [5, 6, 9, 125, 126, 127] lp9_2 3 th) env st = some (x_1, en, s) ∧ (x_1 = .exit 4 ∧ en.get 5 = J n ∧ en.get 6 = .rsl 1 0 n n 1 false ∧ en.get 9 = .ptr 2 0 ∧ s = ⟨[ys.map B8, N.map J, [I n, outAV o]], outT o⟩) := by
  refine loop_wp (α := Nat) (fun i => C.length - i) (fun i => i ≤ C.length) (fun i => ([(5, J n), (6, .rsl 1 0 n n 1 false), (9, .ptr 2 0), (125, sl 1 true (C.map tAV)), (126, I C.length), (127, I i)], ⟨[ys.map B8, N.map J, [I n, outAV o]], outT o⟩)) (fun i x_1 en s => x_1 = .exit 4 ∧ en.get 5 = J n ∧ en.get 6 = .rsl 1 0 n n 1 false ∧ en.get 9 = .ptr 2 0 ∧ s = ⟨[ys.map B8, N.map J, [I n, outAV o]], outT o⟩) (fun i hok => ?_) i hok env st hg
  subst hth
  by_cases h : i < C.length
  · have hs := succ64 i (by omega)
    have hlt : ((i : Int) < (C.length : Int)) = True := eq_true (by omega)
    have hx := index_t true C i h
    have hl := hC _ (List.getElem_mem h)
    generalize C[i] = c at *
    have hlc := len_tAV c
    have hd : (n : Int).tdiv 2 = ((n / 2 : Nat) : Int) := by
      rw [Int.tdiv_eq_ediv_of_nonneg (by omega)]; rfl
    rw [hl] at hlc
    have hw := wrap64 ((n / 2 : Nat) : Int) (by omega) (by omega)
    have hro := fun T acc => ren1_outG (o := o) (k := (outT o).length) (Nat.le_refl _) T acc
    simp only [go_sem, reduceIte, Nat.reduceEqDiff, Nat.reduceAdd, Nat.reduceSub, Nat.reduceLeDiff, Nat.reduceLT, reduceCtorEq, Int.reduceLT, Int.reduceLE, Int.reduceEq, Int.reduceBEq, Int.reduceSub, Int.reduceAdd, Int.reduceMul, Int.reduceNeg, Int.reduceToNat, Nat.reduceMul, Nat.reduceBEq, index_rsl_if, setm, make_ints, condK_dec, wantK_dec, not_dec, and_dec, or_dec, seqK_ite, seqK_none, blockK_ite, blockK_none, opsK_ite, opsK_none, stepK_ite, stepK_none, bodyK_ite, bodyK_none, resK_ite, resK_none, leaveK_ite, leaveK_none, only_ite, only_none, bind_ite, gives_some, gives_none, gives_ite, then_normal, then_ret, then_exit, then_none, then_ite, Option.bind_none, Bool.not_eq_true', decide_eq_false_iff_not, Bool.and_eq_true, Bool.or_eq_true, Option.some.injEq, Int.not_lt, Int.not_le, lp9_2, hlt, hs, hx, hlc, hd, hw]
    refine ⟨i + 1, by simp only [go_sem, reduceIte, Nat.reduceEqDiff, Nat.reduceAdd, Nat.reduceSub, Nat.reduceLeDiff, Nat.reduceLT, reduceCtorEq, Int.reduceLT, Int.reduceLE, Int.reduceEq, Int.reduceBEq, Int.reduceSub, Int.reduceAdd, Int.reduceMul, Int.reduceNeg, Int.reduceToNat, Nat.reduceMul, Nat.reduceBEq, ren1_locm, loc_tips, locT_eq, okRefsB, renCellsB, okRefsJ, renCellsJ, ren1_t', hro, List.take_length] <;> rfl, ?_, ?_, fun x en s hq => ?_⟩
    · omega
    · omega
    · exact hq
  · have hlt : ((i : Int) < (C.length : Int)) = False := eq_false (by omega)
    simp only [go_sem, reduceIte, Nat.reduceEqDiff, Nat.reduceAdd, Nat.reduceSub, Nat.reduceLeDiff, Nat.reduceLT, reduceCtorEq, Int.reduceLT, Int.reduceLE, Int.reduceEq, Int.reduceBEq, Int.reduceSub, Int.reduceAdd, Int.reduceMul, Int.reduceNeg, Int.reduceToNat, Nat.reduceMul, Nat.reduceBEq, index_rsl_if, setm, make_ints, condK_dec, wantK_dec, not_dec, and_dec, or_dec, seqK_ite, seqK_none, blockK_ite, blockK_none, opsK_ite, opsK_none, stepK_ite, stepK_none, bodyK_ite, bodyK_none, resK_ite, resK_none, leaveK_ite, leaveK_none, only_ite, only_none, bind_ite, gives_some, gives_none, gives_ite, then_normal, then_ret, then_exit, then_none, then_ite, Option.bind_none, Bool.not_eq_true', decide_eq_false_iff_not, Bool.and_eq_true, Bool.or_eq_true, Option.some.injEq, Int.not_lt, Int.not_le, lp9_2, hlt]


/-! ### a single circle -/
theorem turn_mem {N : List Nat} {n : Nat} (p : Int × Int) : p ∈ turnL N n n ↔ ∃ i, i < n ∧ edgP N n i = p := by
  unfold turnL
  rw [List.mem_map]
  constructor
  · rintro ⟨i, hi, e⟩
    rw [List.mem_range'_1] at hi
    exact ⟨i, by omega, e⟩
  · rintro ⟨i, hi, e⟩
    exact ⟨i, by rw [List.mem_range'_1]; omega, e⟩
theorem nx_ne {n i : Nat} (h2 : 2 ≤ n) (hi : i < n) : (i + 1) % n < n ∧ (i + 1) % n ≠ i := by
  refine ⟨Nat.mod_lt _ (by omega), ?_⟩
  by_cases h : i + 1 = n
  · rw [h, Nat.mod_self]; omega
  · rw [Nat.mod_eq_of_lt (by omega)]; omega
theorem turn_ok {n : Nat} (h2 : 2 ≤ n) (hn : n ≤ 7) {N : List Nat} (hN : PermTo N n) :
    chk (n : Int) (turnL N n n) = 0 ∧ (∀ p ∈ turnL N n n, goodP (n : Int) p) ∧ (∀ p ∈ turnL N n n, okP p) := by
  have hg : ∀ p ∈ turnL N n n, goodP (n : Int) p := fun p hp => by
    obtain ⟨i, hi, rfl⟩ := (turn_mem p).1 hp
    obtain ⟨m1, m2⟩ := nx_ne h2 hi
    have l1 := hN.lt i hi
    have l2 := hN.lt _ m1
    refine ⟨Int.natCast_nonneg _, by show ((N.getD i 0 : Nat) : Int) < (n : Int); omega, Int.natCast_nonneg _, by show ((N.getD ((i + 1) % n) 0 : Nat) : Int) < (n : Int); omega, fun e => ?_⟩
    have e2 : ((N.getD i 0 : Nat) : Int) = ((N.getD ((i + 1) % n) 0 : Nat) : Int) := e
    have := hN.inj _ _ hi m1 (by omega)
    omega
  refine ⟨?_, hg, fun p hp => by have := hg p hp; unfold goodP at this; unfold okP; omega⟩
  have hnd : (turnL N n n).Nodup := by
    unfold turnL
    refine nodup_map_inj (List.Pairwise.imp (fun {a b} hab => Nat.ne_of_lt hab) (List.pairwise_lt_range' (s := 0) (n := n))) fun a ha b hb e => ?_
    rw [List.mem_range'_1] at ha hb
    have e2 : ((N.getD a 0 : Nat) : Int) = ((N.getD b 0 : Nat) : Int) := congrArg Prod.fst e
    exact hN.inj a b (by omega) (by omega) (by omega)
  unfold chk
  rw [if_neg (by omega), if_neg (by rw [turn_len]; omega)]
  exact prsErr_ok _ [] hg (by simpa using hnd)
/-- What a word sees. -/
theorem turn_see {n : Nat} {N : List Nat} (hN : PermTo N n) {i y : Nat} (hi : i < n) : (((N.getD i 0 : Nat) : Int), (y : Int)) ∈ turnL N n n ↔ y = N.getD ((i + 1) % n) 0 := by
  rw [turn_mem]
  constructor
  · rintro ⟨j, hj, e⟩
    have e1 : ((N.getD j 0 : Nat) : Int) = ((N.getD i 0 : Nat) : Int) := congrArg Prod.fst e
    have e2 : ((N.getD ((j + 1) % n) 0 : Nat) : Int) = (y : Int) := congrArg Prod.snd e
    have := hN.inj j i hj hi (by omega)
    subst this
    omega
  · rintro rfl
    exact ⟨i, hi, rfl⟩
theorem perm_nodup {n : Nat} {N : List Nat} (hN : PermTo N n) (hl : N.length = n) : N.Nodup ∧ ∀ x ∈ N, x < n := by
  have hg : ∀ i (h : i < N.length), N.getD i 0 = N[i] := fun i h => by rw [List.getD_eq_getElem?_getD, List.getElem?_eq_getElem h]; rfl
  refine ⟨List.pairwise_iff_getElem.2 fun i j hi hj hij e => ?_, fun x hx => ?_⟩
  · have := hN.inj i j (by omega) (by omega) (by rw [hg i hi, hg j hj]; exact e)
    omega
  · obtain ⟨i, hi, rfl⟩ := List.getElem_of_mem hx
    rw [← hg i hi]; exact hN.lt i (by omega)
/-- Each word has its place. -/
theorem perm_on {n : Nat} {N : List Nat} (hN : PermTo N n) (hl : N.length = n) {x : Nat} (hx : x < n) : ∃ i, i < n ∧ N.getD i 0 = x := by
  obtain ⟨h1, h2⟩ := perm_nodup hN hl
  by_cases hm : x ∈ N
  · obtain ⟨i, hi, e⟩ := List.getElem_of_mem hm
    exact ⟨i, by omega, by rw [List.getD_eq_getElem?_getD, List.getElem?_eq_getElem hi]; exact e⟩
  · have := nodup_len_le (x :: N) (List.range n) (List.nodup_cons.2 ⟨hm, h1⟩) (fun y hy => by
      rcases List.mem_cons.1 hy with rfl | hy
      · exact List.mem_range.2 hx
      · exact List.mem_range.2 (h2 y hy))
    rw [List.length_range, List.length_cons] at this; omega
/-- A circle has all words. -/
theorem turn_all {n : Nat} (h2 : 2 ≤ n) (hn : n ≤ 7) {N : List Nat} (hN : PermTo N n) (hl : N.length = n) {c : List Nat} (hc : c ∈ circL n (seeL 7 (turnL N n n))) : (∀ x, x < n → x ∈ c) ∧ c.length = n ∧ c.getD 0 0 = 0 := by
  obtain ⟨k1, k2, k3⟩ := turn_ok h2 hn hN
  obtain ⟨a, s, e, ha, h3, h4, h5, h6, h7⟩ := (circ_iff hn _ c).1 hc
  have hcyc : Cyc (Jw (seeL 7 (turnL N n n))) c := ⟨a, s, e, (ch_snoc a c (by rw [e]; simp)).2 ⟨h6, h7⟩⟩
  obtain ⟨i0, hi0, hi0e⟩ := perm_on hN hl ha
  have hnext : ∀ i, i < n → N.getD i 0 ∈ c → N.getD ((i + 1) % n) 0 ∈ c := fun i hi hm => by
    obtain ⟨y, hy, hj⟩ := cyc_next hcyc _ hm
    unfold Jw at hj
    rw [seeL_bit (Nat.le_refl 7) k3, decide_eq_true_iff, turn_see hN hi] at hj
    rw [← hj]; exact hy
  have hgo : ∀ j, N.getD ((i0 + j) % n) 0 ∈ c := by
    intro j
    induction j with
    | zero => rw [Nat.add_zero, Nat.mod_eq_of_lt hi0, hi0e, e]; simp
    | succ j ih =>
      have := hnext ((i0 + j) % n) (Nat.mod_lt _ (by omega)) ih
      rwa [Nat.mod_add_mod, Nat.add_assoc] at this
  have hall : ∀ x, x < n → x ∈ c := fun x hx => by
    obtain ⟨i, hi, rfl⟩ := perm_on hN hl hx
    have := hgo (i + n - i0)
    rw [show i0 + (i + n - i0) = i + n by omega, Nat.add_mod_right, Nat.mod_eq_of_lt hi] at this
    exact this
  have hlt : ∀ x ∈ c, x < n := fun x hx => by
    rw [e] at hx
    rcases List.mem_cons.1 hx with rfl | hx
    · exact ha
    · exact (h3 x hx).2
  refine ⟨hall, ?_, ?_⟩
  · have l1 := nodup_len_le c (List.range n) h4 (fun x hx => List.mem_range.2 (hlt x hx))
    have l2 := nodup_len_le (List.range n) c List.nodup_range (fun x hx => hall x (List.mem_range.1 hx))
    rw [List.length_range] at l1 l2; omega
  · have h0 := hall 0 (by omega)
    rw [e] at h0 ⊢
    rcases List.mem_cons.1 h0 with h0 | h0
    · rw [← h0]; rfl
    · have := (h3 0 h0).1; omega
theorem turn_uniq {n : Nat} (h2 : 2 ≤ n) (hn : n ≤ 7) {N : List Nat} (hN : PermTo N n) (hl : N.length = n) {c d : List Nat} (hc : c ∈ circL n (seeL 7 (turnL N n n))) (hd : d ∈ circL n (seeL 7 (turnL N n n))) : c = d := by
  obtain ⟨k1, k2, k3⟩ := turn_ok h2 hn hN
  obtain ⟨c1, c2, c3⟩ := turn_all h2 hn hN hl hc
  obtain ⟨d1, d2, d3⟩ := turn_all h2 hn hN hl hd
  have hcl := circ_lt hn c hc
  have hk : ∀ k, k < n → c.getD k 0 = d.getD k 0 := by
    intro k
    induction k with
    | zero => intro _; rw [c3, d3]
    | succ k ih =>
      intro hk
      have ih := ih (by omega)
      have e1 := circ_edge hn k3 hc (show k < c.length by omega)
      have e2 := circ_edge hn k3 hd (show k < d.length by omega)
      rw [Nat.mod_eq_of_lt (by omega)] at e1 e2
      have hx : c.getD k 0 < n := by
        rw [List.getD_eq_getElem?_getD, List.getElem?_eq_getElem (by omega)]
        exact hcl.2.2.1 _ (List.getElem_mem _)
      obtain ⟨i, hi, hie⟩ := perm_on hN hl hx
      rw [← ih, ← hie, turn_see hN hi] at e2
      rw [← hie, turn_see hN hi] at e1
      rw [e1, e2]
  refine List.ext_getElem (by omega) fun k h3 h4 => ?_
  have := hk k (by omega)
  rw [List.getD_eq_getElem?_getD, List.getElem?_eq_getElem h3, List.getD_eq_getElem?_getD, List.getElem?_eq_getElem h4] at this
  exact this
theorem turn_step {n : Nat} (h2 : 2 ≤ n) (hn : n ≤ 7) {N : List Nat} (hN : PermTo N n) {i : Nat} (hi : i < n) : Jw (seeL 7 (turnL N n n)) (N.getD i 0) (N.getD ((i + 1) % n) 0) := by
  obtain ⟨k1, k2, k3⟩ := turn_ok h2 hn hN
  unfold Jw
  rw [seeL_bit (Nat.le_refl 7) k3, decide_eq_true_iff, turn_see hN hi]
theorem turn_last {n : Nat} (h2 : 2 ≤ n) (hn : n ≤ 7) {N : List Nat} (hN : PermTo N n) (hl : N.length = n) : Jw (seeL 7 (turnL N n n)) (lastW N) (N.getD 0 0) := by
  have := turn_step h2 hn hN (show n - 1 < n by omega)
  rw [show n - 1 + 1 = n by omega, Nat.mod_self] at this
  unfold lastW; rw [hl]; exact this
theorem turn_ch {n : Nat} (h2 : 2 ≤ n) (hn : n ≤ 7) {N : List Nat} (hN : PermTo N n) (hl : N.length = n) : Ch (Jw (seeL 7 (turnL N n n))) N :=
  ch_of N fun k hk => by
    have := turn_step h2 hn hN (show k < n by omega)
    rwa [Nat.mod_eq_of_lt (by omega)] at this
/-- There is just one circle. -/
theorem turn_circ {n : Nat} (h2 : 2 ≤ n) (hn : n ≤ 7) {N : List Nat} (hN : PermTo N n) (hl : N.length = n) : ∃ r, circL n (seeL 7 (turnL N n n)) = [r] ∧ r.length = n ∧ thN [r] (refP (turnL N n n) (n - 1)) = 1 := by
  obtain ⟨k1, k2, k3⟩ := turn_ok h2 hn hN
  obtain ⟨n1, n2⟩ := perm_nodup hN hl
  obtain ⟨a, s, e⟩ : ∃ a s, N = a :: s := by
    cases N with
    | nil => simp at hl; omega
    | cons a s => exact ⟨a, s, rfl⟩
  have hcyc : Cyc (Jw (seeL 7 (turnL N n n))) N := ⟨a, s, e, (ch_snoc a N (by rw [e]; simp)).2 ⟨turn_ch h2 hn hN hl, by
    have := turn_last h2 hn hN hl
    have ea : N.getD 0 0 = a := by rw [e]; rfl
    rwa [ea] at this⟩⟩
  obtain ⟨A, m, B, e2, hm⟩ := circ_of hn n1 (by omega) hcyc n2
  have hone : circL n (seeL 7 (turnL N n n)) = [m :: (B ++ A)] := single (asc_nodup (circ_asc n _)) hm fun x hx => turn_uniq h2 hn hN hl hx hm
  refine ⟨_, hone, (turn_all h2 hn hN hl hm).2.1, ?_⟩
  generalize m :: (B ++ A) = r at *
  obtain ⟨r1, r2, r3⟩ := turn_all h2 hn hN hl hm
  obtain ⟨q1, q2, q3, q4⟩ := circ_lt hn r hm
  have hle := cnt_le q4 (fun x hx => by have := q3 x hx; omega) (refP (turnL N n n) (n - 1))
  have hx := hN.lt (n - 1) (by omega)
  obtain ⟨k, hk, hke⟩ := List.getElem_of_mem (r1 _ hx)
  have hkd : r.getD k 0 = N.getD (n - 1) 0 := by rw [List.getD_eq_getElem?_getD, List.getElem?_eq_getElem hk]; exact hke
  have e1 := circ_edge hn k3 hm hk
  have e3 := e1
  rw [hkd, turn_see hN (by omega)] at e3
  have hps : (turnL N n n)[n - 1]'(by rw [turn_len]; omega) = (((r.getD k 0 : Nat) : Int), ((r.getD ((k + 1) % r.length) 0 : Nat) : Int)) := by
    rw [hkd, e3]
    unfold turnL
    rw [List.getElem_map, List.getElem_range', Nat.zero_add, Nat.one_mul]; rfl
  have hrf := atP_ref (by rw [turn_len]; omega) hps
  have hge : 1 ≤ cntC r (refP (turnL N n n) (n - 1)) := by
    unfold cntC
    exact List.length_pos_iff.2 (List.ne_nil_of_mem (a := k) (List.mem_filter.2 ⟨by rw [List.mem_range'_1]; omega, by rw [beq_iff_eq, hrf]⟩))
  rw [thN_cons]
  show cntC r _ + 0 = 1
  omega


/-! ### the choices of a single circle -/
/-- A choice takes each second word. -/
theorem turn_jdg {n : Nat} (h2 : 2 ≤ n) (hn : n ≤ 7) {N : List Nat} (hN : PermTo N n) (hl : N.length = n) (m : Nat) : jdg n (seeL 7 (turnL N n n)) m = 0 ↔ ∀ i, i < n → (m.testBit (N.getD i 0) = true ↔ ¬ m.testBit (N.getD ((i + 1) % n) 0) = true) := by
  obtain ⟨k1, k2, k3⟩ := turn_ok h2 hn hN
  have hsee : ∀ i, i < n → (((seeL 7 (turnL N n n)).getD (N.getD i 0) 0) &&& m = 0 ↔ ¬ m.testBit (N.getD ((i + 1) % n) 0) = true) := fun i hi => by
    rw [and_zero]
    constructor
    · intro h hm
      exact h _ ⟨by rw [seeL_bit (Nat.le_refl 7) k3, decide_eq_true_iff, turn_see hN hi], hm⟩
    · rintro h y ⟨hy1, hy2⟩
      rw [seeL_bit (Nat.le_refl 7) k3, decide_eq_true_iff, turn_see hN hi] at hy1
      rw [hy1] at hy2
      exact h hy2
  rw [jdg_zero]
  constructor
  · intro h i hi
    rw [← hsee i hi]
    exact h _ (hN.lt i hi)
  · intro h x hx
    obtain ⟨i, hi, rfl⟩ := perm_on hN hl hx
    rw [hsee i hi]
    exact h i hi
theorem turn_alt {n : Nat} (h2 : 2 ≤ n) {N : List Nat} {m : Nat} (h : ∀ i, i < n → (m.testBit (N.getD i 0) = true ↔ ¬ m.testBit (N.getD ((i + 1) % n) 0) = true)) : ∀ i, i < n → (m.testBit (N.getD i 0) = true ↔ (m.testBit (N.getD 0 0) = true ↔ i % 2 = 0)) := by
  intro i
  induction i with
  | zero => intro _; simp
  | succ i ih =>
    intro hi
    have ih := ih (by omega)
    have h1 := h i (by omega)
    rw [Nat.mod_eq_of_lt (show i + 1 < n by omega)] at h1
    have e : ((i + 1) % 2 = 0) ↔ ¬ (i % 2 = 0) := by omega
    rw [e]
    by_cases a : m.testBit (N.getD 0 0) = true <;> by_cases b : i % 2 = 0 <;> by_cases c : m.testBit (N.getD i 0) = true <;> by_cases d : m.testBit (N.getD (i + 1) 0) = true <;> simp_all
theorem turn_even {n : Nat} (h2 : 2 ≤ n) {N : List Nat} {m : Nat} (h : ∀ i, i < n → (m.testBit (N.getD i 0) = true ↔ ¬ m.testBit (N.getD ((i + 1) % n) 0) = true)) : n % 2 = 0 := by
  have h1 := turn_alt h2 h (n - 1) (by omega)
  have h3 := h (n - 1) (by omega)
  rw [show n - 1 + 1 = n by omega, Nat.mod_self] at h3
  apply Classical.byContradiction
  intro hne
  have e : (n - 1) % 2 = 0 := by omega
  rw [e] at h1
  by_cases a : m.testBit (N.getD 0 0) = true <;> simp_all
/-- The half of the words. -/
theorem turn_half {n : Nat} (h2 : 2 ≤ n) (hn : n ≤ 7) {N : List Nat} (hN : PermTo N n) (hl : N.length = n) {m : Nat} (hm : m < 2 ^ n) (h : ∀ i, i < n → (m.testBit (N.getD i 0) = true ↔ ¬ m.testBit (N.getD ((i + 1) % n) 0) = true)) : (memb m).length = n / 2 := by
  have he := turn_even h2 h
  have halt := turn_alt h2 h
  have hm7 : m < 128 := Nat.lt_of_lt_of_le hm (Nat.le_trans (Nat.pow_le_pow_right (by omega) hn) (by omega))
  have hml : (memb m).length = (bitsL m).length := by simp [memb, bitsL]
  obtain ⟨s, hs, hsb⟩ : ∃ s, s < 2 ∧ ∀ i, i < n → (m.testBit (N.getD i 0) = true ↔ i % 2 = s) := by
    by_cases a : m.testBit (N.getD 0 0) = true
    · exact ⟨0, by omega, fun i hi => by rw [halt i hi]; exact ⟨fun h => h.1 a, fun h => ⟨fun _ => h, fun _ => a⟩⟩⟩
    · exact ⟨1, by omega, fun i hi => by rw [halt i hi]; exact ⟨fun h => by have : ¬ i % 2 = 0 := fun e => a (h.2 e); omega, fun h => ⟨fun p => absurd p a, fun e => by omega⟩⟩⟩
  have hnb : (bitsL m).Nodup := List.Pairwise.filter _ List.nodup_range
  have hA : ((List.range' 0 (n / 2)).map fun j => N.getD (2 * j + s) 0).Nodup := nodup_map_inj (List.Pairwise.imp (fun {a b} hab => Nat.ne_of_lt hab) (List.pairwise_lt_range' (s := 0) (n := n / 2))) fun a ha b hb e => by
    rw [List.mem_range'_1] at ha hb
    have := hN.inj _ _ (by omega) (by omega) e
    omega
  have l1 := nodup_len_le _ (bitsL m) hA (fun x hx => by
    obtain ⟨j, hj, rfl⟩ := List.mem_map.1 hx
    rw [List.mem_range'_1] at hj
    rw [bits_mem hm7, hsb _ (by omega)]; omega)
  have l2 := nodup_len_le (bitsL m) ((List.range' 0 (n / 2)).map fun j => N.getD (2 * j + s) 0) hnb (fun x hx => by
    rw [bits_mem hm7] at hx
    have hxn : x < n := bit_lt hm hx
    obtain ⟨i, hi, rfl⟩ := perm_on hN hl hxn
    have := (hsb i hi).1 hx
    exact List.mem_map.2 ⟨i / 2, by rw [List.mem_range'_1]; omega, by rw [show 2 * (i / 2) + s = i by omega]⟩)
  rw [List.length_map, List.length_range'] at l1 l2
  rw [hml]; omega
theorem turn_chos {n : Nat} (h2 : 2 ≤ n) (hn : n ≤ 7) {N : List Nat} (hN : PermTo N n) (hl : N.length = n) : (chosL n (turnL N n n)).length = 2 * (1 - n % 2) ∧ ∀ c ∈ chosL n (turnL N n n), c.length = n / 2 := by
  refine ⟨?_, fun c hc => ?_⟩
  · unfold chosL
    rw [(sortL_perm lexLt _).length_eq]
    unfold kerL
    rw [List.length_map]
    have hF : ((List.range' 0 (2 ^ n)).filter fun m => decide (jdg n (seeL 7 (turnL N n n)) m = 0)).Nodup := List.Pairwise.imp (fun {a b} hab => Nat.ne_of_lt hab) (List.Pairwise.filter _ (List.pairwise_lt_range' (s := 0) (n := 2 ^ n)))
    have hmem : ∀ m, m ∈ ((List.range' 0 (2 ^ n)).filter fun m => decide (jdg n (seeL 7 (turnL N n n)) m = 0)) ↔ m < 2 ^ n ∧ jdg n (seeL 7 (turnL N n n)) m = 0 := fun m => by
      rw [List.mem_filter, List.mem_range'_1, decide_eq_true_iff]
      constructor
      · rintro ⟨a, b⟩; exact ⟨by omega, b⟩
      · rintro ⟨a, b⟩; exact ⟨by omega, b⟩
    generalize ((List.range' 0 (2 ^ n)).filter fun m => decide (jdg n (seeL 7 (turnL N n n)) m = 0)) = F at *
    by_cases he : n % 2 = 0
    · have hex : ∀ s, s < 2 → ∃ m, m < 2 ^ n ∧ jdg n (seeL 7 (turnL N n n)) m = 0 ∧ ∀ i, i < n → (m.testBit (N.getD i 0) = true ↔ i % 2 = s) := fun s hs => by
        obtain ⟨m, hm, hb⟩ := mask_of (fun x => ∃ i, i < n ∧ N.getD i 0 = x ∧ i % 2 = s) n
        have hb2 : ∀ i, i < n → (m.testBit (N.getD i 0) = true ↔ i % 2 = s) := fun i hi => by
          rw [hb]
          constructor
          · rintro ⟨_, j, hj, e, h⟩
            have := hN.inj j i hj hi e
            omega
          · intro h
            exact ⟨hN.lt i hi, i, hi, rfl, h⟩
        refine ⟨m, hm, (turn_jdg h2 hn hN hl m).2 fun i hi => ?_, hb2⟩
        rw [hb2 i hi, hb2 _ (Nat.mod_lt _ (by omega))]
        by_cases h : i + 1 = n
        · rw [h, Nat.mod_self]; omega
        · rw [Nat.mod_eq_of_lt (show i + 1 < n by omega)]; omega
      obtain ⟨m0, a1, a2, a3⟩ := hex 0 (by omega)
      obtain ⟨m1, b1, b2, b3⟩ := hex 1 (by omega)
      have hne : m0 ≠ m1 := fun e => by
        have h1 := a3 0 (by omega)
        have h3 := b3 0 (by omega)
        rw [e, h3] at h1
        omega
      have l1 := nodup_len_le [m0, m1] F (by simp [hne]) (fun x hx => by
        simp only [List.mem_cons, List.not_mem_nil, or_false] at hx
        rw [hmem]
        rcases hx with rfl | rfl
        · exact ⟨a1, a2⟩
        · exact ⟨b1, b2⟩)
      have huniq : ∀ m k, m < 2 ^ n → k < 2 ^ n → (∀ i, i < n → (m.testBit (N.getD i 0) = true ↔ k.testBit (N.getD i 0) = true)) → m = k := fun m k hm hk h => by
        apply Nat.eq_of_testBit_eq
        intro x
        by_cases hx : x < n
        · obtain ⟨i, hi, rfl⟩ := perm_on hN hl hx
          rw [Bool.eq_iff_iff]; exact h i hi
        · have h1 : ∀ k, k < 2 ^ n → k.testBit x = false := fun k hk => Nat.testBit_lt_two_pow (Nat.lt_of_lt_of_le hk (Nat.pow_le_pow_right (by omega) (by omega)))
          rw [h1 m hm, h1 k hk]
      have l2 := nodup_len_le F [m0, m1] hF (fun m hm => by
        obtain ⟨c1, c2⟩ := (hmem m).1 hm
        have halt := turn_alt h2 ((turn_jdg h2 hn hN hl m).1 c2)
        simp only [List.mem_cons, List.not_mem_nil, or_false]
        by_cases a : m.testBit (N.getD 0 0) = true
        · refine .inl (huniq m m0 c1 a1 fun i hi => ?_)
          rw [halt i hi, a3 i hi]; exact ⟨fun h => h.1 a, fun h => ⟨fun _ => h, fun _ => a⟩⟩
        · refine .inr (huniq m m1 c1 b1 fun i hi => ?_)
          rw [halt i hi, b3 i hi]; exact ⟨fun h => by have : ¬ i % 2 = 0 := fun e => a (h.2 e); omega, fun h => ⟨fun p => absurd p a, fun e => by omega⟩⟩)
      simp only [List.length_cons, List.length_nil] at l1 l2
      omega
    · have : F = [] := by
        cases F with
        | nil => rfl
        | cons m r =>
          have hm := (hmem m).1 (by simp)
          exact absurd (turn_even h2 ((turn_jdg h2 hn hN hl m).1 hm.2)) he
      rw [this, List.length_nil]; omega
  · obtain ⟨m, hm, rfl, hj⟩ := chos_set hc
    exact turn_half h2 hn hN hl hm ((turn_jdg h2 hn hN hl m).1 hj)
/-- The order is accepted as a circle. -/
theorem turn_prov {n : Nat} (h2 : 2 ≤ n) (hn : n ≤ 7) {N : List Nat} (hN : PermTo N n) (hl : N.length = n) (ho : n % 2 = 1) : provE (n : Int) (turnL N n n) (up N) = 0 := by
  obtain ⟨k1, k2, k3⟩ := turn_ok h2 hn hN
  obtain ⟨n1, n2⟩ := perm_nodup hN hl
  unfold provE
  rw [if_pos k1, up_len, if_neg (by omega), if_pos]
  · have e1 : (up N).getD (N.length - 1) 0 = ((lastW N : Nat) : Int) := up_getD N _ (by omega)
    rw [e1]
    refine see_ch k3 N (lastW N) ?_
    have h3 := turn_last h2 hn hN hl
    have h4 := turn_ch h2 hn hN hl
    obtain ⟨a, s, e⟩ : ∃ a s, N = a :: s := by
      cases N with
      | nil => simp at hl; omega
      | cons a s => exact ⟨a, s, rfl⟩
    have ea : N.getD 0 0 = a := by rw [e]; rfl
    rw [ea] at h3
    have key : Ch (Jw (seeL 7 (turnL N n n))) (lastW N :: a :: s) := ⟨h3, by rw [← e]; exact h4⟩
    rw [← e] at key
    exact key
  · refine ring_ok _ [] (fun x hx => ?_) (by simpa using up_nodup n1)
    obtain ⟨y, hy, rfl⟩ := up_mem.1 hx
    have := n2 y hy; omega

attribute [local go_sem] shaped_t cells_t isAgg_t storable_t okRef_t pub_t okRef_out storable_out shaped_out cells_out fin_out pub_out

theorem frzL1m {a cs c : List AV} (hne : cs ≠ []) (T : List Nat) (env : Env) :
    frzL 1 env ⟨[a, cs, c], T⟩ = (frzEnv 1 cs env, ⟨[frzVs 1 cs a, [], frzVs 1 cs c], T⟩) := by
  cases cs with
  | nil => exact absurd rfl hne
  | cons x r => rfl
theorem frzV_outA (l : Nat) (cs : List AV) (o : List (Int × Int)) : frzV l cs (outAV o) = outAV o := by
  unfold outAV loc
  split
  · split <;> simp only [frzV]
  · simp only [frzV]
theorem frzV_tA (l : Nat) (cs : List AV) (x : List Int) : frzV l cs (tAV x) = tAV x := frzV_sl l cs 1 true _
theorem frzVs_B8 (l : Nat) (cs : List AV) (xs : List Int) : frzVs l cs (xs.map B8) = xs.map B8 := frzVs_kind l cs (fun n => Value.int .u8 n) xs
theorem frzV_J (l : Nat) (N : List Nat) (h : N ≠ []) : frzV l (N.map J) (.rsl l 0 N.length N.length 1 false) = sl 1 true (N.map J) := by
  simp only [frzV, List.length_map, List.drop_zero]
  rw [if_pos ⟨trivial, by omega, .inr trivial, Nat.le_refl _⟩, pubs_map (fun (x : Nat) => J x) (fun _ => by simp only [pub]), groupm_one (fun (x : Nat) => J x) (fun _ => rfl), sl_ne (by simpa using h)]

set_option maxHeartbeats 2000000 in
theorem c9 (b : Int) (hb : Byte b) (ys : List Int) (hyl : ys.length = 7) (hy : ∀ a ∈ ys, Byte a) (st : St) :
    run L 9 [B8 b, .agg (ys.map B8)] st = some (B true, st) := by
  rw [run_pure (fn := ir9) rfl rfl]
  unfold Byte at hb
  obtain ⟨k, rfl⟩ := Int.eq_ofNat_of_zero_le hb.1
  have hwr := wrap64 (k : Int) (by omega) (by omega)
  have htm : ((k : Int)).tmod 6 = ((k % 6 : Nat) : Int) := tmod_nat k 6
  have hw2 : IntKind.i64.wrap (2 + ((k % 6 : Nat) : Int)) = ((2 + k % 6 : Nat) : Int) := by rw [wrap64] <;> omega
  have hn2 : 2 ≤ 2 + k % 6 ∧ 2 + k % 6 ≤ 7 := by omega
  generalize 2 + k % 6 = n at *
  obtain ⟨h2n, h3⟩ := hn2
  have hmk := fun st => make_J st n (by omega)
  obtain ⟨hnl, hN⟩ := name_ok n ys
  have hnm : (List.range' 0 n).foldl (nmStep ys) (List.replicate n 0) = nameL n ys := rfl
  simp only [ir9, go_sem, reduceIte, Nat.reduceEqDiff, Nat.reduceAdd, Nat.reduceSub, Nat.reduceLeDiff, Nat.reduceLT, reduceCtorEq, Int.reduceLT, Int.reduceLE, Int.reduceEq, Int.reduceBEq, Int.reduceSub, Int.reduceAdd, Int.reduceMul, Int.reduceNeg, Int.reduceToNat, Nat.reduceMul, Nat.reduceBEq, okRefsB, renCellsB, pubsB, storableB, hwr, htm, hw2, hyl, hmk, List.length_map]
  generalize hg : lim (headed pure (run L) true _ lp9_0 _ _) _ _ = o
  obtain ⟨x, en, s, rfl, h2⟩ : ∃ x en s, o = some (x, en, s) ∧ _ := by rw [← hg]; exact loop9_0 ys hyl hy n h3 0 (List.replicate n 0) ⟨by omega, by simp⟩ _ _ (by simp only [go_sem, reduceIte, Nat.reduceEqDiff, Nat.reduceAdd, Nat.reduceSub, Nat.reduceLeDiff, Nat.reduceLT, reduceCtorEq, Int.reduceLT, Int.reduceLE, Int.reduceEq, Int.reduceBEq, Int.reduceSub, Int.reduceAdd, Int.reduceMul, Int.reduceNeg, Int.reduceToNat, Nat.reduceMul, Nat.reduceBEq, okRefsB, renCellsB, okRefsJ, renCellsJ, Int.natCast_zero] <;> rfl)
  clear hg
  rw [Nat.sub_zero, hnm] at h2
  obtain ⟨rfl, e5, e6, rfl⟩ := h2
  generalize nameL n ys = N at *
  simp only [go_sem, reduceIte, Nat.reduceEqDiff, Nat.reduceAdd, Nat.reduceSub, Nat.reduceLeDiff, Nat.reduceLT, reduceCtorEq, Int.reduceLT, Int.reduceLE, Int.reduceEq, Int.reduceBEq, Int.reduceSub, Int.reduceAdd, Int.reduceMul, Int.reduceNeg, Int.reduceToNat, Nat.reduceMul, Nat.reduceBEq, e5, e6, List.length_map]
  generalize hg : lim (headed pure (run L) true _ lp9_1 _ _) _ _ = o
  obtain ⟨x, en, s, rfl, h2⟩ : ∃ x en s, o = some (x, en, s) ∧ _ := by rw [← hg]; exact loop9_1 ys n (by omega) h3 N hnl 0 (by omega) _ _ (by simp only [go_sem, reduceIte, Nat.reduceEqDiff, Nat.reduceAdd, Nat.reduceSub, Nat.reduceLeDiff, Nat.reduceLT, reduceCtorEq, Int.reduceLT, Int.reduceLE, Int.reduceEq, Int.reduceBEq, Int.reduceSub, Int.reduceAdd, Int.reduceMul, Int.reduceNeg, Int.reduceToNat, Nat.reduceMul, Nat.reduceBEq, okRefsB, renCellsB, okRefsJ, renCellsJ, e5, e6, show outAV (turnL N n 0) = .v (.slice none 0 0) from rfl, show outT (turnL N n 0) = [] from rfl, Int.natCast_zero] <;> rfl)
  clear hg
  obtain ⟨rfl, e5, e6, e9, rfl⟩ := h2
  obtain ⟨k1, k2, k3⟩ := turn_ok h2n h3 hN
  obtain ⟨r, hone, hrl, hth⟩ := turn_circ h2n h3 hN hnl
  obtain ⟨hCl, hC⟩ := turn_chos h2n h3 hN hnl
  have hprov := turn_prov h2n h3 hN hnl
  have htl := turn_len N n n
  generalize turnL N n n = oo at *
  have hallN : allN (n : Int) oo = [r] := by unfold allN; rw [Int.toNat_natCast]; exact hone
  have hout : ∀ f fn, L.fns f = some fn → L.pure f = true → ∀ st, run L f [.agg [I (n : Int), outAV oo]] st = run L f [bkAV true (n : Int) oo] st := fun f fn hf hp st => run_args hf hp st (by simp only [pubs, pub, pub_out, pub_sl])
  have h20 : ∀ st, run L 20 [.agg [I (n : Int), outAV oo]] st = some (.tup [sl 1 true ((chosL n oo).map tAV), I 0], st) := fun st => by
    rw [hout 20 ir20 rfl rfl, c20 true (n : Int) oo st, k1, allV_ok k1]
  have h36 : ∀ st, run L 36 [.agg [I (n : Int), outAV oo]] st = some (.tup [I 1, I 0], st) := fun st => by
    rw [hout 36 ir36 rfl rfl, c36 true (n : Int) oo st, k1]
    unfold circV
    rw [if_pos k1, hallN]; rfl
  have h38 : ∀ st, run L 38 [.agg [I (n : Int), outAV oo], J (n - 1)] st = some (.tup [I 1, I 0], st) := fun st => by
    have e := run_args (f := 38) (fn := ir38) rfl rfl (args := [.agg [I (n : Int), outAV oo], J (n - 1)]) (args' := [bkAV true (n : Int) oo, J (n - 1)]) st (by simp only [pubs, pub, pub_out, pub_sl])
    rw [e, c38 true (n : Int) oo ((n - 1 : Nat) : Int) st]
    unfold thrV thrE
    rw [if_pos k1, if_pos k1, if_neg (by omega), if_neg (by omega), Int.toNat_natCast, hallN, hth]; rfl
  have h28 : ∀ st, run L 28 [.agg [I (n : Int), outAV oo]] st = some (.tup [tAV (if n % 2 = 1 then up r else []), I (if n % 2 = 1 then 0 else 13)], st) := fun st => by
    rw [hout 28 ir28 rfl rfl, c28 true (n : Int) oo st]
    have : oddB n (seeL 7 oo) = if n % 2 = 1 then some r else none := by
      rw [oddB_fold, hone]
      show stO none r = _
      unfold stO better
      rw [hrl]
      by_cases h : n % 2 = 1 <;> simp [h]
    unfold ringV ringE
    rw [if_pos k1, if_pos k1, Int.toNat_natCast, this]
    by_cases h : n % 2 = 1
    · simp only [if_pos h]
    · simp only [if_neg h]
  have hsub : IntKind.i64.wrap ((n : Int) - 1) = ((n - 1 : Nat) : Int) := by rw [wrap64] <;> omega
  have ht2 : (n : Int).tmod 2 = ((n % 2 : Nat) : Int) := tmod_nat n 2
  have hw3 : IntKind.i64.wrap (1 - ((n % 2 : Nat) : Int)) = ((1 - n % 2 : Nat) : Int) := by rw [wrap64] <;> omega
  have hw4 : IntKind.i64.wrap (2 * ((1 - n % 2 : Nat) : Int)) = ((chosL n oo).length : Int) := by rw [wrap64] <;> omega
  have hl1 := len_t true (chosL n oo)
  have hro1 := fun (T : List Nat) acc => ren1_outG (o := oo) (k := (outT oo).length) (Nat.le_refl _) T acc
  simp only [go_sem, reduceIte, Nat.reduceEqDiff, Nat.reduceAdd, Nat.reduceSub, Nat.reduceLeDiff, Nat.reduceLT, reduceCtorEq, Int.reduceLT, Int.reduceLE, Int.reduceEq, Int.reduceBEq, Int.reduceSub, Int.reduceAdd, Int.reduceMul, Int.reduceNeg, Int.reduceToNat, Nat.reduceMul, Nat.reduceBEq, e5, e6, e9, h20, h36, h38, hsub, ht2, hw3, hw4, hl1, List.length_map]
  generalize hg : lim (headed pure (run L) true _ lp9_2 _ _) _ _ = o
  obtain ⟨x, en, s, rfl, h2⟩ : ∃ x en s, o = some (x, en, s) ∧ _ := by rw [← hg]; exact loop9_2 ys n h3 N oo (chosL n oo) hC (by omega) _ rfl 0 (by omega) _ _ (by simp only [go_sem, reduceIte, Nat.reduceEqDiff, Nat.reduceAdd, Nat.reduceSub, Nat.reduceLeDiff, Nat.reduceLT, reduceCtorEq, Int.reduceLT, Int.reduceLE, Int.reduceEq, Int.reduceBEq, Int.reduceSub, Int.reduceAdd, Int.reduceMul, Int.reduceNeg, Int.reduceToNat, Nat.reduceMul, Nat.reduceBEq, okRefsB, renCellsB, okRefsJ, renCellsJ, ren1_t', hro1, List.take_length, e5, e6, e9, Int.natCast_zero] <;> rfl)
  clear hg
  obtain ⟨rfl, e5, e6, e9, rfl⟩ := h2
  by_cases h : n % 2 = 1
  · have q : (((n % 2 : Nat) : Int) = 0) = False := eq_false (by omega)
    simp only [if_pos h] at h28
    have hlr : lenAV (tAV (up r)) = some (I n) := by rw [len_tAV, up_len, hrl]
    have hNe : N ≠ [] := by intro e; rw [e] at hnl; simp at hnl; omega
    have hfz := fun T env => frzL1m (a := ys.map B8) (cs := N.map J) (c := [I (n : Int), outAV oo]) (by simpa using hNe) T env
    have hfv := frzV_J 1 N hNe
    rw [hnl] at hfv
    have h30 : ∀ st, run L 30 [.agg [I (n : Int), outAV oo], sl 1 true (N.map J)] st = some (I 0, st) := fun st => by
      have e := run_args (f := 30) (fn := ir30) rfl rfl (args := [.agg [I (n : Int), outAV oo], sl 1 true (N.map J)]) (args' := [bkAV true (n : Int) oo, sl 1 true (N.map J)]) st (by simp only [pubs, pub, pub_out, pub_sl])
      have := c30 true true (n : Int) oo (up N) (by rw [up_len]; omega) st
      rw [hprov h, up_J] at this
      rw [e, this]
    simp only [go_sem, reduceIte, Nat.reduceEqDiff, Nat.reduceAdd, Nat.reduceSub, Nat.reduceLeDiff, Nat.reduceLT, reduceCtorEq, Int.reduceLT, Int.reduceLE, Int.reduceEq, Int.reduceBEq, Int.reduceSub, Int.reduceAdd, Int.reduceMul, Int.reduceNeg, Int.reduceToNat, Nat.reduceMul, Nat.reduceBEq, e5, e6, e9, h28, q, ht2, hlr, code_frz, frzAV, frzT, frzLs, rslsOf, hfz, frzEnv, frzEnv_get, frzStore, frzVs, frzV_v, frzV_ptr, frzV_sl, hfv, frzV_tA, frzV_outA, frzVs_B8, h30, c17, List.length_map]
  · have q : (((n % 2 : Nat) : Int) = 0) = True := eq_true (by omega)
    simp only [if_neg h] at h28
    have hl0 : lenAV (tAV []) = some (I 0) := rfl
    simp only [go_sem, reduceIte, Nat.reduceEqDiff, Nat.reduceAdd, Nat.reduceSub, Nat.reduceLeDiff, Nat.reduceLT, reduceCtorEq, Int.reduceLT, Int.reduceLE, Int.reduceEq, Int.reduceBEq, Int.reduceSub, Int.reduceAdd, Int.reduceMul, Int.reduceNeg, Int.reduceToNat, Nat.reduceMul, Nat.reduceBEq, e5, e6, e9, h28, q, ht2, hl0, c17]
end Go.Proofs.YtgohohiaaiogcaaDoor.Vm
