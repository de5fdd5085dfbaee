/- What is proved: what each function of this program computes, as equations on the evaluator. No condition. -/
import Derived.Test.YtdnmhlfjafjkbaaGreatDoorC1
import Derived.Test.YtdnmhlfjafjkbaaGreatDoorT0
import Derived.WalkKit
import Derived.ProofKit
import Derived.OpenShut
set_option linter.all false
namespace Go.Proofs.YtdnmhlfjafjkbaaGreatDoor.Vm
open Go Go.Ev
set_option maxRecDepth 100000
attribute [local go_sem] cells_any storable_any ren1_any shaped_ptr cells_ptr storable_ptr ren1_ptr shaped_eptr cells_eptr storable_eptr ren1_eptr shaped_rsl cells_rsl storable_rsl ren1_rsl shaped_int cells_int storable_int ren1_int shaped_bool cells_bool storable_bool ren1_bool shaped_nils cells_nils storable_nils ren1_nils shaped_lst cells_lst storable_lst shaped_fn cells_fn storable_fn ren1_fn shaped_ifc cells_ifc storable_ifc ren1_ifc shaped_agg cells_agg storable_agg ren1_agg shaped_tup cells_tup storable_tup ren1_tup shaped_nif cells_nif storable_nif ren1_nif ren1_lany ren1_lfull ren1_lown len_lst len_rsl len_nil load_ptr load_eptr isRsl_lst isRsl_nil isRsl_rsl elems_nil elems_lst elems_sl isRsl_sl body_eq bodyK_normal bodyK_ret resK_some leaveK_some only_some code_skip code_exit code_ret code_ops code_seq code_cond code_block seqK_normal seqK_ret seqK_exit condK_true condK_false blockK_normal blockK_ret blockK_exit opsK_some ops_nil ops_cons wantK_true wantK_false stepK_some pubs pub pub_sl params okRef_loc storable_loc shaped_loc cells_loc isRsl_loc elems_loc len_loc untips untip untip_sl wantedAV setElems withO isAgg_v isAgg_agg isAgg_lst isAgg_ptr isAgg_fn isAgg_ifc isAgg_rsl isAgg_sl isAgg_loc List.replicate_succ List.replicate_zero opAV valAV aval avals ofVal Env.get setD canon gcAV renAll renEnv renStore renCells ren1_sl cutSt okEnv okStore okRefs okRef okRef_sl bin_int bin_bool bin_lst bin_rsl bin_nil bin_agg cellsEq cellEq isShift intOp boolOp min_int max_int beq_int bne resAV tupAV leave_eq fin_sl fin_loc fins fin_v fin_lst fin_agg fin_tup fin_fn storeAV readCells putCells cells_sl shaped_sl storable_sl fieldAddrAV len_sl goI List.getElem?_cons_zero List.getElem?_cons_succ List.getElem?_nil Option.bind_some Option.map_some List.length_cons List.length_nil List.all_cons List.all_nil Bool.and_true Bool.true_and Bool.and_false Bool.false_and and_true true_and and_false false_and Bool.false_eq_true List.set_cons_zero List.set_cons_succ List.append_nil List.nil_append List.cons_append List.take_zero List.take_succ_cons List.take_nil List.drop_zero List.drop_succ_cons List.map_cons List.map_nil decide_true decide_false beq_self_eq_true Bool.not_true Bool.not_false or_true true_or or_false false_or Nat.zero_add Nat.add_zero Nat.le_refl Nat.lt_irrefl decide_eq_true_eq eq_self_iff_true not_true_eq_false not_false_eq_true List.getD_cons_zero code_loop Nat.zero_le Nat.not_lt_zero Bool.true_beq Bool.false_beq beq_true beq_false ge_iff_le gt_iff_lt keepR keepT ownTop Lpure pus Option.map_none assert_ifc assert_nil idxA_ptr idxA_eptr idxV_agg Int.cast_ofNat_Int Nat.mul_one Nat.zero_mul Int.toNat_natCast Int.toNat_zero setParts withO2 hasKey eqnil_sl nenil_sl eqnil_loc nenil_loc map_nil_iff okRefs_ints renCells_ints
attribute [local go_sem] okRef_o storable_o shaped_o cells_o fin_o pub_o shaped_t cells_t isAgg_t storable_t okRef_t pub_t

def stepW (ss : List Nat) (want : List Int) (m : Nat) : List Int :=
  if goodTo ss (memb m) (memb m).length = true then
    (if want.length < (memb m).length then memb m else if (memb m).length = want.length then (if lexLt (memb m) want = true then memb m else want) else want)
  else want
theorem goodTo_iff (ss : List Nat) (own : List Int) : ∀ k, k ≤ own.length → (goodTo ss own k = true ↔ ∀ i (h : i < own.length), i < k → ∀ j (hj : j < own.length), j < i → agI ss own[i] own[j] = true)
  | 0, _ => by simp [goodTo]
  | k + 1, hk => by
    have ih := goodTo_iff ss own k (by omega)
    have hg : own.getD k 0 = own[k] := by rw [List.getD_eq_getElem?_getD, List.getElem?_eq_getElem (by omega)]; rfl
    simp only [goodTo, Bool.and_eq_true, ih, hg, List.all_eq_true]
    constructor
    · rintro ⟨h1, h2⟩ i hi hik j hj hji
      by_cases e : i = k
      · subst e
        refine h2 own[j] ?_
        rw [List.mem_take_iff_getElem]
        exact ⟨j, by omega, rfl⟩
      · exact h1 i hi (by omega) j hj hji
    · intro h
      refine ⟨fun i hi hik j hj hji => h i hi (by omega) j hj hji, fun b hb => ?_⟩
      rw [List.mem_take_iff_getElem] at hb
      obtain ⟨j, hj, rfl⟩ := hb
      exact h k (by omega) (by omega) j (by omega) (by omega)
theorem good_ok {ss : List Nat} (hss : ∀ s ∈ ss, s < 256) {m : Nat} (h512 : m < 512) : goodTo ss (memb m) (memb m).length = true ↔ okN ss m := by
  rw [goodTo_iff ss (memb m) _ (Nat.le_refl _)]
  constructor
  · intro h i x hi hx
    obtain ⟨p, hp, e1⟩ := List.getElem_of_mem ((memb_mem h512 _).2 ⟨i, rfl, hi⟩)
    obtain ⟨q, hq, e2⟩ := List.getElem_of_mem ((memb_mem h512 _).2 ⟨x, rfl, hx⟩)
    by_cases e : p = q
    · subst e
      have : i = x := by rw [e1] at e2; omega
      subst this
      refine agN_self ?_
      rw [List.getD_eq_getElem?_getD]
      cases h3 : ss[i]?
      · simp
      · exact hss _ (List.mem_of_getElem? h3)
    · by_cases hlt : q < p
      · have := h p hp hp q hq hlt
        rw [e1, e2] at this
        exact this
      · have := h q hq hq p hp (by omega)
        rw [e1, e2] at this
        rw [agN_comm]
        exact this
  · intro h i hi _ j hj _
    obtain ⟨a, ha, ha2⟩ := (memb_mem h512 _).1 (List.getElem_mem hi)
    obtain ⟨b, hb, hb2⟩ := (memb_mem h512 _).1 (List.getElem_mem hj)
    rw [ha, hb]
    unfold agI
    exact h a b ha2 hb2
theorem step_eq {ss : List Nat} (hss : ∀ s ∈ ss, s < 256) (hk : ss.length ≤ 9) {m : Nat} (hm : m < 2 ^ ss.length) (want : List Int) : stepW ss want m = stepM (ss.map (frN ss)) want m := by
  have h512 : m < 512 := Nat.lt_of_lt_of_le hm (Nat.le_trans (Nat.pow_le_pow_right (by omega) hk) (by decide))
  have h1 := good_ok hss h512
  have h2 := any_ok hk hm
  unfold stepW stepM
  by_cases p : okN ss m
  · rw [if_pos (h1.2 p), h2.2 p]
    by_cases q1 : want.length < (memb m).length
    · rw [if_pos q1, if_neg (by omega), if_neg (by simp), if_pos q1]
    · rw [if_neg q1]
      by_cases q2 : (memb m).length = want.length
      · have a1 : ¬ (memb m).length < want.length := by omega
        simp only [if_pos q2, if_neg a1, if_neg q1, Bool.false_eq_true, if_false]
      · rw [if_neg q2, if_pos (by omega)]
  · rw [if_neg (fun h => p (h1.1 h))]
    split
    · rfl
    · rw [if_pos]
      cases h : (memb m).any (fun i => !wiN m ((ss.map (frN ss)).getD i.toNat 0))
      · exact absurd (h2.1 h) p
      · rfl
theorem want_eq {ss : List Nat} (hss : ∀ s ∈ ss, s < 256) (hk : ss.length ≤ 9) : ∀ (ms : List Nat) (want : List Int), (∀ m ∈ ms, m < 2 ^ ss.length) → ms.foldl (stepW ss) want = ms.foldl (stepM (ss.map (frN ss))) want
  | [], _, _ => rfl
  | m :: r, want, h => by
    rw [List.foldl_cons, List.foldl_cons, step_eq hss hk (h m (by simp)), want_eq hss hk r _ (fun x hx => h x (by simp [hx]))]
theorem stepW_len (ss : List Nat) (want : List Int) (m : Nat) (h : want.length ≤ 9) : (stepW ss want m).length ≤ 9 := by
  have := memb_len m
  unfold stepW
  split
  · split
    · exact this
    · split
      · split
        · exact this
        · exact h
      · exact h
  · exact h

set_option maxHeartbeats 2000000 in
theorem loop6_2 (n : Nat) (nl : Bool) (ss : List Nat) (hss : ∀ s ∈ ss, s < 256) (hk : ss.length ≤ 9) (LL : List Nat) (C : List AV) (hC1 : ∀ n, okRefs n C = true) (hC2 : ∀ n T acc, renCells n T acc C = (C, acc)) (m : Nat) (want : List Int) (hok : m ≤ 2 ^ ss.length ∧ want.length ≤ 9) (env : Env) (st : St)
    (hg : gcAV true 1 0 (canon env [3, 4, 5, 6, 33, 34]) st = ([(3, J n), (4, sl 1 nl (ss.map U)), (5, sl 1 true (LL.map tM)), (6, tAV want), (33, U (2 ^ ss.length)), (34, U m)], ⟨[C], []⟩)) :
    ∃ x_1 en s, lim (headed pure (run L) true [3, 4, 5, 6, 33, 34] lp6_2 1 0) env st = some (x_1, en, s) ∧ (x_1 = .exit 0 ∧ en.get 3 = J n ∧ en.get 5 = sl 1 true (LL.map tM) ∧ en.get 6 = tAV ((List.range' m (2 ^ ss.length - m)).foldl (stepW ss) want) ∧ s = ⟨[C], []⟩) := by
  refine loop_wp (α := Nat × List Int) (fun ⟨m, want⟩ => 2 ^ ss.length - m) (fun ⟨m, want⟩ => m ≤ 2 ^ ss.length ∧ want.length ≤ 9) (fun ⟨m, want⟩ => ([(3, J n), (4, sl 1 nl (ss.map U)), (5, sl 1 true (LL.map tM)), (6, tAV want), (33, U (2 ^ ss.length)), (34, U m)], ⟨[C], []⟩)) (fun ⟨m, want⟩ x_1 en s => x_1 = .exit 0 ∧ en.get 3 = J n ∧ en.get 5 = sl 1 true (LL.map tM) ∧ en.get 6 = tAV ((List.range' m (2 ^ ss.length - m)).foldl (stepW ss) want) ∧ s = ⟨[C], []⟩) (fun ⟨m, want⟩ hok => ?_) ⟨m, want⟩ hok env st hg
  simp only at hok
  obtain ⟨h1, h2⟩ := hok
  dsimp only at h1 h2 ⊢
  have hN : 2 ^ ss.length ≤ 512 := Nat.le_trans (Nat.pow_le_pow_right (by omega) hk) (by decide)
  have hmr : m < 2 ^ ss.length → ∀ a ∈ memb m, 0 ≤ a ∧ a < (ss.length : Int) := by
    intro hm a ha
    obtain ⟨i, rfl, hi⟩ := (memb_mem (by omega) a).1 ha
    have : i < ss.length := by
      apply Nat.lt_of_not_le; intro h9
      rw [tb_lt hm i h9] at hi; cases hi
    omega
  generalize 2 ^ ss.length = N at *
  by_cases h : m < N
  · have hs : IntKind.u64.wrap ((m : Int) + 1) = ((m + 1 : Nat) : Int) := succU m (by omega)
    have hlt : ((m : Int) < (N : Int)) = True := eq_true (by omega)
    have hr : List.range' m (N - m) = m :: List.range' (m + 1) (N - (m + 1)) := by
      rw [show N - m = (N - (m + 1)) + 1 by omega, List.range'_succ]
    rw [hr, List.foldl_cons]
    have hml := memb_len m
    have hmr := hmr h
    have h40 := fun st => c40 m (by omega) st
    have hsl := stepW_len ss want m h2
    have he : stepW ss want m = if goodTo ss (memb m) (memb m).length = true then (if want.length < (memb m).length then memb m else if (memb m).length = want.length then (if lexLt (memb m) want = true then memb m else want) else want) else want := rfl
    have hlo : lenAV (tAV (memb m)) = some (J (memb m).length) := lenm_sl I true _
    have hlb : lenAV (tAV want) = some (J want.length) := lenm_sl I true _
    have h42 : ∀ st, run L 42 [tAV (memb m), tAV want] st = some (I (cmpN (memb m) want), st) := fun st => c42 true true (memb m) want (by omega) st
    have hcl := cmpN_lt (memb m) want
    generalize memb m = own at *
    rw [he] at hsl ⊢
    simp only [go_sem, reduceIte, Nat.reduceEqDiff, Nat.reduceAdd, Nat.reduceSub, Nat.reduceLeDiff, Nat.reduceLT, reduceCtorEq, Int.reduceLT, Int.reduceLE, Int.reduceEq, Int.reduceBEq, Int.reduceSub, Int.reduceAdd, Int.reduceMul, Int.reduceNeg, Int.reduceToNat, Nat.reduceMul, Nat.reduceBEq, index_rsl_if, setm, make_ints, condK_dec, wantK_dec, not_dec, and_dec, or_dec, seqK_ite, seqK_none, blockK_ite, blockK_none, opsK_ite, opsK_none, stepK_ite, stepK_none, bodyK_ite, bodyK_none, resK_ite, resK_none, leaveK_ite, leaveK_none, only_ite, only_none, bind_ite, gives_some, gives_none, gives_ite, then_normal, then_ret, then_exit, then_none, then_ite, Option.bind_none, Bool.not_eq_true', decide_eq_false_iff_not, Bool.and_eq_true, Bool.or_eq_true, Option.some.injEq, Int.not_lt, Int.not_le, lp6_2, hlt, h40, hlo]
    generalize hg : lim (headed pure (run L) true _ lp6_1 _ _) _ _ = o
    obtain ⟨x, en, s, rfl, h2⟩ : ∃ x en s, o = some (x, en, s) ∧ _ := by rw [← hg]; exact loop6_1 n nl ss hss LL want own N m hml hmr C hC1 hC2 0 true ⟨by omega, rfl⟩ _ _ (by simp only [go_sem, reduceIte, Nat.reduceEqDiff, Nat.reduceAdd, Nat.reduceSub, Nat.reduceLeDiff, Nat.reduceLT, reduceCtorEq, Int.reduceLT, Int.reduceLE, Int.reduceEq, Int.reduceBEq, Int.reduceSub, Int.reduceAdd, Int.reduceMul, Int.reduceNeg, Int.reduceToNat, Nat.reduceMul, Nat.reduceBEq, hC1, hC2, ren1_t, Int.natCast_zero] <;> rfl)
    clear hg
    obtain ⟨rfl, e3, e4, e5, e6, e8, e9, e33, e34, rfl⟩ := h2
    cases hg : goodTo ss own own.length with
    | true =>
      rw [hg] at e9 hsl
      rw [if_pos rfl] at hsl ⊢
      by_cases p1 : want.length < own.length
      · have q1 : ((want.length : Int) < (own.length : Int)) = True := eq_true (by omega)
        rw [if_pos p1] at hsl ⊢
        simp only [go_sem, reduceIte, Nat.reduceEqDiff, Nat.reduceAdd, Nat.reduceSub, Nat.reduceLeDiff, Nat.reduceLT, reduceCtorEq, Int.reduceLT, Int.reduceLE, Int.reduceEq, Int.reduceBEq, Int.reduceSub, Int.reduceAdd, Int.reduceMul, Int.reduceNeg, Int.reduceToNat, Nat.reduceMul, Nat.reduceBEq, index_rsl_if, setm, make_ints, condK_dec, wantK_dec, not_dec, and_dec, or_dec, seqK_ite, seqK_none, blockK_ite, blockK_none, opsK_ite, opsK_none, stepK_ite, stepK_none, bodyK_ite, bodyK_none, resK_ite, resK_none, leaveK_ite, leaveK_none, only_ite, only_none, bind_ite, gives_some, gives_none, gives_ite, then_normal, then_ret, then_exit, then_none, then_ite, Option.bind_none, Bool.not_eq_true', decide_eq_false_iff_not, Bool.and_eq_true, Bool.or_eq_true, Option.some.injEq, Int.not_lt, Int.not_le, lp6_2, e3, e4, e5, e6, e8, e9, e33, e34, hlo, hlb, q1, hs]
        refine ⟨(m + 1, own), by simp only [go_sem, reduceIte, Nat.reduceEqDiff, Nat.reduceAdd, Nat.reduceSub, Nat.reduceLeDiff, Nat.reduceLT, reduceCtorEq, Int.reduceLT, Int.reduceLE, Int.reduceEq, Int.reduceBEq, Int.reduceSub, Int.reduceAdd, Int.reduceMul, Int.reduceNeg, Int.reduceToNat, Nat.reduceMul, Nat.reduceBEq, ren1_locm, loc_tips, locT_eq, e3, e4, e5, e6, e8, e9, e33, e34, hC1, hC2, ren1_t] <;> rfl, ?_, ?_, fun x en s hq => ?_⟩
        · dsimp only; exact ⟨by omega, hsl⟩
        · dsimp only; omega
        · exact hq
      · have q1 : ((want.length : Int) < (own.length : Int)) = False := eq_false (by omega)
        rw [if_neg p1] at hsl ⊢
        by_cases p2 : own.length = want.length
        · have q2 : ((own.length : Int) = (want.length : Int)) = True := eq_true (by omega)
          rw [if_pos p2] at hsl ⊢
          cases p4 : lexLt own want with
          | true =>
            rw [p4] at hcl hsl
            rw [if_pos rfl] at hsl ⊢
            have q4 : (cmpN own want < 0) = True := eq_true (of_decide_eq_true hcl)
            simp only [go_sem, reduceIte, Nat.reduceEqDiff, Nat.reduceAdd, Nat.reduceSub, Nat.reduceLeDiff, Nat.reduceLT, reduceCtorEq, Int.reduceLT, Int.reduceLE, Int.reduceEq, Int.reduceBEq, Int.reduceSub, Int.reduceAdd, Int.reduceMul, Int.reduceNeg, Int.reduceToNat, Nat.reduceMul, Nat.reduceBEq, index_rsl_if, setm, make_ints, condK_dec, wantK_dec, not_dec, and_dec, or_dec, seqK_ite, seqK_none, blockK_ite, blockK_none, opsK_ite, opsK_none, stepK_ite, stepK_none, bodyK_ite, bodyK_none, resK_ite, resK_none, leaveK_ite, leaveK_none, only_ite, only_none, bind_ite, gives_some, gives_none, gives_ite, then_normal, then_ret, then_exit, then_none, then_ite, Option.bind_none, Bool.not_eq_true', decide_eq_false_iff_not, Bool.and_eq_true, Bool.or_eq_true, Option.some.injEq, Int.not_lt, Int.not_le, lp6_2, e3, e4, e5, e6, e8, e9, e33, e34, hlo, hlb, q1, q2, h42, q4, hs]
            refine ⟨(m + 1, own), by simp only [go_sem, reduceIte, Nat.reduceEqDiff, Nat.reduceAdd, Nat.reduceSub, Nat.reduceLeDiff, Nat.reduceLT, reduceCtorEq, Int.reduceLT, Int.reduceLE, Int.reduceEq, Int.reduceBEq, Int.reduceSub, Int.reduceAdd, Int.reduceMul, Int.reduceNeg, Int.reduceToNat, Nat.reduceMul, Nat.reduceBEq, ren1_locm, loc_tips, locT_eq, e3, e4, e5, e6, e8, e9, e33, e34, hC1, hC2, ren1_t] <;> rfl, ?_, ?_, fun x en s hq => ?_⟩
            · dsimp only; exact ⟨by omega, hsl⟩
            · dsimp only; omega
            · exact hq
          | false =>
            rw [p4] at hcl hsl
            rw [if_neg (by simp)] at hsl ⊢
            have q4 : (cmpN own want < 0) = False := eq_false (of_decide_eq_false hcl)
            simp only [go_sem, reduceIte, Nat.reduceEqDiff, Nat.reduceAdd, Nat.reduceSub, Nat.reduceLeDiff, Nat.reduceLT, reduceCtorEq, Int.reduceLT, Int.reduceLE, Int.reduceEq, Int.reduceBEq, Int.reduceSub, Int.reduceAdd, Int.reduceMul, Int.reduceNeg, Int.reduceToNat, Nat.reduceMul, Nat.reduceBEq, index_rsl_if, setm, make_ints, condK_dec, wantK_dec, not_dec, and_dec, or_dec, seqK_ite, seqK_none, blockK_ite, blockK_none, opsK_ite, opsK_none, stepK_ite, stepK_none, bodyK_ite, bodyK_none, resK_ite, resK_none, leaveK_ite, leaveK_none, only_ite, only_none, bind_ite, gives_some, gives_none, gives_ite, then_normal, then_ret, then_exit, then_none, then_ite, Option.bind_none, Bool.not_eq_true', decide_eq_false_iff_not, Bool.and_eq_true, Bool.or_eq_true, Option.some.injEq, Int.not_lt, Int.not_le, lp6_2, e3, e4, e5, e6, e8, e9, e33, e34, hlo, hlb, q1, q2, h42, q4, hs]
            refine ⟨(m + 1, want), by simp only [go_sem, reduceIte, Nat.reduceEqDiff, Nat.reduceAdd, Nat.reduceSub, Nat.reduceLeDiff, Nat.reduceLT, reduceCtorEq, Int.reduceLT, Int.reduceLE, Int.reduceEq, Int.reduceBEq, Int.reduceSub, Int.reduceAdd, Int.reduceMul, Int.reduceNeg, Int.reduceToNat, Nat.reduceMul, Nat.reduceBEq, ren1_locm, loc_tips, locT_eq, e3, e4, e5, e6, e8, e9, e33, e34, hC1, hC2, ren1_t] <;> rfl, ?_, ?_, fun x en s hq => ?_⟩
            · dsimp only; exact ⟨by omega, hsl⟩
            · dsimp only; omega
            · exact hq
        · have q2 : ((own.length : Int) = (want.length : Int)) = False := eq_false (by omega)
          rw [if_neg p2] at hsl ⊢
          simp only [go_sem, reduceIte, Nat.reduceEqDiff, Nat.reduceAdd, Nat.reduceSub, Nat.reduceLeDiff, Nat.reduceLT, reduceCtorEq, Int.reduceLT, Int.reduceLE, Int.reduceEq, Int.reduceBEq, Int.reduceSub, Int.reduceAdd, Int.reduceMul, Int.reduceNeg, Int.reduceToNat, Nat.reduceMul, Nat.reduceBEq, index_rsl_if, setm, make_ints, condK_dec, wantK_dec, not_dec, and_dec, or_dec, seqK_ite, seqK_none, blockK_ite, blockK_none, opsK_ite, opsK_none, stepK_ite, stepK_none, bodyK_ite, bodyK_none, resK_ite, resK_none, leaveK_ite, leaveK_none, only_ite, only_none, bind_ite, gives_some, gives_none, gives_ite, then_normal, then_ret, then_exit, then_none, then_ite, Option.bind_none, Bool.not_eq_true', decide_eq_false_iff_not, Bool.and_eq_true, Bool.or_eq_true, Option.some.injEq, Int.not_lt, Int.not_le, lp6_2, e3, e4, e5, e6, e8, e9, e33, e34, hlo, hlb, q1, q2, hs]
          refine ⟨(m + 1, want), by simp only [go_sem, reduceIte, Nat.reduceEqDiff, Nat.reduceAdd, Nat.reduceSub, Nat.reduceLeDiff, Nat.reduceLT, reduceCtorEq, Int.reduceLT, Int.reduceLE, Int.reduceEq, Int.reduceBEq, Int.reduceSub, Int.reduceAdd, Int.reduceMul, Int.reduceNeg, Int.reduceToNat, Nat.reduceMul, Nat.reduceBEq, ren1_locm, loc_tips, locT_eq, e3, e4, e5, e6, e8, e9, e33, e34, hC1, hC2, ren1_t] <;> rfl, ?_, ?_, fun x en s hq => ?_⟩
          · dsimp only; exact ⟨by omega, hsl⟩
          · dsimp only; omega
          · exact hq
    | false =>
      rw [hg] at e9 hsl
      rw [if_neg (by simp)] at hsl ⊢
      simp only [go_sem, reduceIte, Nat.reduceEqDiff, Nat.reduceAdd, Nat.reduceSub, Nat.reduceLeDiff, Nat.reduceLT, reduceCtorEq, Int.reduceLT, Int.reduceLE, Int.reduceEq, Int.reduceBEq, Int.reduceSub, Int.reduceAdd, Int.reduceMul, Int.reduceNeg, Int.reduceToNat, Nat.reduceMul, Nat.reduceBEq, index_rsl_if, setm, make_ints, condK_dec, wantK_dec, not_dec, and_dec, or_dec, seqK_ite, seqK_none, blockK_ite, blockK_none, opsK_ite, opsK_none, stepK_ite, stepK_none, bodyK_ite, bodyK_none, resK_ite, resK_none, leaveK_ite, leaveK_none, only_ite, only_none, bind_ite, gives_some, gives_none, gives_ite, then_normal, then_ret, then_exit, then_none, then_ite, Option.bind_none, Bool.not_eq_true', decide_eq_false_iff_not, Bool.and_eq_true, Bool.or_eq_true, Option.some.injEq, Int.not_lt, Int.not_le, lp6_2, e3, e4, e5, e6, e8, e9, e33, e34, hlo, hlb, hs]
      refine ⟨(m + 1, want), by simp only [go_sem, reduceIte, Nat.reduceEqDiff, Nat.reduceAdd, Nat.reduceSub, Nat.reduceLeDiff, Nat.reduceLT, reduceCtorEq, Int.reduceLT, Int.reduceLE, Int.reduceEq, Int.reduceBEq, Int.reduceSub, Int.reduceAdd, Int.reduceMul, Int.reduceNeg, Int.reduceToNat, Nat.reduceMul, Nat.reduceBEq, ren1_locm, loc_tips, locT_eq, e3, e4, e5, e6, e8, e9, e33, e34, hC1, hC2, ren1_t] <;> rfl, ?_, ?_, fun x en s hq => ?_⟩
      · dsimp only; exact ⟨by omega, hsl⟩
      · dsimp only; omega
      · exact hq
  · have hr : N - m = 0 := by omega
    have hlt : ((m : Int) < (N : Int)) = False := eq_false (by omega)
    rw [hr]
    simp only [go_sem, reduceIte, Nat.reduceEqDiff, Nat.reduceAdd, Nat.reduceSub, Nat.reduceLeDiff, Nat.reduceLT, reduceCtorEq, Int.reduceLT, Int.reduceLE, Int.reduceEq, Int.reduceBEq, Int.reduceSub, Int.reduceAdd, Int.reduceMul, Int.reduceNeg, Int.reduceToNat, Nat.reduceMul, Nat.reduceBEq, index_rsl_if, setm, make_ints, condK_dec, wantK_dec, not_dec, and_dec, or_dec, seqK_ite, seqK_none, blockK_ite, blockK_none, opsK_ite, opsK_none, stepK_ite, stepK_none, bodyK_ite, bodyK_none, resK_ite, resK_none, leaveK_ite, leaveK_none, only_ite, only_none, bind_ite, gives_some, gives_none, gives_ite, then_normal, then_ret, then_exit, then_none, then_ite, Option.bind_none, Bool.not_eq_true', decide_eq_false_iff_not, Bool.and_eq_true, Bool.or_eq_true, Option.some.injEq, Int.not_lt, Int.not_le, lp6_2, hlt]
    rfl

attribute [local go_sem] okRef_o storable_o shaped_o cells_o fin_o pub_o shaped_t cells_t isAgg_t storable_t okRef_t pub_t

theorem slice_m {α : Type} (f : α → AV) (nl : Bool) (l : List α) (i : Nat) (h : i < l.length) : sliceAV 1 (sl 1 nl (l.map f)) none (some (.v (.int .i64 (i : Int)))) none = some (sl 1 false ((l.take i).map f)) := by
  have e : sl 1 nl (l.map f) = .lst .any 1 (l.map f) := sl_ne (by intro h2; simp at h2; subst h2; simp at h)
  rw [e]
  simp [sliceAV, natOr, natOf, tagSlice, sl, List.map_take]
  omega
/-- What ClassMost asks, for sides that are known. -/
theorem c6 (a g : Nat) (ha : a < 256) (zs : List Nat) (hz : zs.length = 13) (hzs : ∀ z ∈ zs, z < 256) (m w : Nat) (hm : m < 256) :
    run L 6 [cutAV a g zs m w] ⟨[], []⟩ = some (B true, ⟨[], []⟩) := by
  rw [run_pure (fn := ir6) rfl rfl]
  have hd := Nat.mod_lt a (show 0 < 5 by decide)
  have h38 := fun st => c38 a g ha zs hz hzs m w hm 6 5 (.inl ⟨rfl, rfl⟩) st
  have hmk := made_ok (n := 2 + a % 5) (by omega) g zs (m % 14)
  have hm14 : m % 14 ≤ 13 := by omega
  generalize hn : 2 + a % 5 = n at *
  have hn2 : 2 ≤ n ∧ n ≤ 6 := by omega
  have h2n : 2 ^ n ≤ 256 := Nat.le_trans (Nat.pow_le_pow_right (n := 2) (by decide) hn2.2) (by decide)
  obtain ⟨hS, hSl⟩ := hmk
  generalize madeS n g zs (m % 14) = s0 at *
  have hun : cutAV a g zs m w = .agg (cutC a g zs m w) := rfl
  have hl17 : (cutC a g zs m w).length = 17 := lenC a g zs hz m w
  have htk : (cutC a g zs m w).take 17 = cutC a g zs m w := List.take_of_length_le (by omega)
  -- from the sides on
  have key : ∀ (nl : Bool) (ss : List Nat), Sides n ss → ss.length ≤ 9 →
      run L 39 [.agg (cutC a g zs m w), J n, sl 1 nl (ss.map U)] ⟨[cutC a g zs m w], []⟩ = some (sl 1 true ((toldL n w 0 ss).map tM), ⟨[cutC a g zs m w], []⟩) ∧
      (toldL n w 0 ss).map (smlN n) = ss ∧ (∀ v ∈ toldL n w 0 ss, v < 2 ^ n ∧ v ≠ 0 ∧ v ≠ 2 ^ n - 1) ∧ (∀ s ∈ ss, s < 256) := by
    intro nl ss hs hl
    have h256 : ∀ s ∈ ss, s < 256 := fun s h => Nat.lt_of_lt_of_le (hs.lt s h) h2n
    exact ⟨c39 n (by omega) a g zs hz m w nl ss h256 (by omega) _, told_sml (by omega) w 0 ss hs.even, told_good (by omega) w 0 ss (fun s h => ⟨hs.lt s h, hs.ne s h, hs.even s h⟩), h256⟩
  have h38 : ∀ st, run L 38 [.agg (cutC a g zs m w), I 6] st = some (.tup [J n, sl 1 true (s0.map U)], st) := h38
  have hL0 : lenAV (sl 1 true (s0.map U)) = some (J s0.length) := lenm_sl U _ _
  by_cases h9 : 9 < s0.length
  · have q9 : ((9 : Int) < (s0.length : Int)) = True := eq_true (by omega)
    have hsl9 : sliceAV 1 (sl 1 true (s0.map U)) none (some (.v (.int .i64 9))) none = some (sl 1 false ((s0.take 9).map U)) := slice_m U true s0 9 h9
    simp only [ir6, hun, go_sem, reduceIte, Nat.reduceEqDiff, Nat.reduceAdd, Nat.reduceSub, Nat.reduceLeDiff, Nat.reduceLT, reduceCtorEq, Int.reduceLT, Int.reduceLE, Int.reduceEq, Int.reduceBEq, Int.reduceSub, Int.reduceAdd, Int.reduceMul, Int.reduceNeg, Int.reduceToNat, Nat.reduceMul, Nat.reduceBEq, okRefsC, renCellsC, pubsC, storableC, hl17, htk, h38, hL0, q9, hsl9]
    have hk := key false (s0.take 9) (hS.sub (List.take_sublist 9 s0)) (by rw [List.length_take]; omega)
    obtain ⟨h39, hsm, hgd, h256⟩ := hk
    have hlt9 : (s0.take 9).length ≤ 9 := by rw [List.length_take]; omega
    have hLl := told_len n w 0 (s0.take 9)
    have hless := most_less (ss := s0.take 9) hlt9
    have hwe := want_eq h256 hlt9
    have hnd := (hS.sub (List.take_sublist 9 s0)).nd
    clear hsl9
    generalize hsse : (s0.take 9) = ss at *
    have h18 := fun st => c18 n hn2.1 (by omega) true (toldL n w 0 ss) hgd (by rw [hsm]; exact hnd) (by rw [hLl]; exact hlt9) st
    rw [hsm] at h18
    have hdr : ((toldL n w 0 ss).take (ss.length - 1)).map (smlN n) = ss.dropLast := by
      rw [List.map_take, hsm, List.dropLast_eq_take]
    have h18b := fun st => c18 n hn2.1 (by omega) false ((toldL n w 0 ss).take (ss.length - 1)) (fun v hv => hgd v (List.mem_of_mem_take hv)) (by rw [hdr]; exact hnd.sublist (List.dropLast_sublist _)) (by rw [List.length_take]; omega) st
    rw [hdr] at h18b
    have hL5 : lenAV (sl 1 true ((toldL n w 0 ss).map tM)) = some (J ss.length) := by rw [lenm_sl tM, hLl]
    have hL4 : lenAV (sl 1 false (ss.map U)) = some (J ss.length) := lenm_sl U _ _
    have hshu : binAV .shl none (.v (.int .u64 1)) (.v (.int .i64 (ss.length : Int))) = some (U (2 ^ ss.length)) := by
      rw [shl_one, sh1_eq ss.length (by omega)]
    have hslt := fun h => slice_m tM true (toldL n w 0 ss) (ss.length - 1) h
    rw [hLl] at hslt
    have hmw : (List.range' 0 (2 ^ ss.length)).foldl (stepW ss) [] = mostL ss := hwe _ [] (fun x hx => by rw [List.mem_range'] at hx; obtain ⟨i, hi, rfl⟩ := hx; omega)
    generalize toldL n w 0 ss = LL at *
    simp only [go_sem, reduceIte, Nat.reduceEqDiff, Nat.reduceAdd, Nat.reduceSub, Nat.reduceLeDiff, Nat.reduceLT, reduceCtorEq, Int.reduceLT, Int.reduceLE, Int.reduceEq, Int.reduceBEq, Int.reduceSub, Int.reduceAdd, Int.reduceMul, Int.reduceNeg, Int.reduceToNat, Nat.reduceMul, Nat.reduceBEq, hl17, htk, hun, h39, hL4, hshu]
    generalize hg : lim (headed pure (run L) true _ lp6_2 _ _) _ _ = o
    obtain ⟨x, en, s, rfl, h2⟩ : ∃ x en s, o = some (x, en, s) ∧ _ := by rw [← hg]; exact loop6_2 n false ss h256 hlt9 LL (cutC a g zs m w) (fun k => okRefsC k a g zs m w) (fun k T acc => renCellsC k T acc a g zs m w) 0 [] ⟨Nat.zero_le _, by simp⟩ _ _ (by simp only [go_sem, reduceIte, Nat.reduceEqDiff, Nat.reduceAdd, Nat.reduceSub, Nat.reduceLeDiff, Nat.reduceLT, reduceCtorEq, Int.reduceLT, Int.reduceLE, Int.reduceEq, Int.reduceBEq, Int.reduceSub, Int.reduceAdd, Int.reduceMul, Int.reduceNeg, Int.reduceToNat, Nat.reduceMul, Nat.reduceBEq, okRefsC, renCellsC, Int.natCast_zero, show AV.v (.slice none 0 0) = tAV [] from rfl, ren1_t] <;> rfl)
    clear hg
    rw [Nat.sub_zero, hmw] at h2
    obtain ⟨rfl, e3, e5, e6, rfl⟩ := h2
    have hml : (mostL ss).length ≤ 9 := by
      rcases most_in hlt9 with h | ⟨x, _, _, h⟩
      · rw [h]; simp
      · rw [h]; exact memb_len x
    have h22 : ∀ st, run L 22 [tAV (mostL ss), tAV (mostL ss)] st = some (B true, st) := fun st => by
      have := c22 true true (mostL ss) (mostL ss) (by omega) st
      rw [decide_eq_true rfl] at this; exact this
    have hlm : lenAV (tAV (mostL ss)) = some (J (mostL ss).length) := lenm_sl I true _
    have hlm2 : lenAV (tAV (mostL ss.dropLast)) = some (J (mostL ss.dropLast).length) := lenm_sl I true _
    by_cases hz0 : ss.length = 0
    · have q0 : ((ss.length : Int) = 0) = True := eq_true (by omega)
      simp only [go_sem, reduceIte, Nat.reduceEqDiff, Nat.reduceAdd, Nat.reduceSub, Nat.reduceLeDiff, Nat.reduceLT, reduceCtorEq, Int.reduceLT, Int.reduceLE, Int.reduceEq, Int.reduceBEq, Int.reduceSub, Int.reduceAdd, Int.reduceMul, Int.reduceNeg, Int.reduceToNat, Nat.reduceMul, Nat.reduceBEq, e3, e5, e6, h18, h22, hL5, q0, c15]
    · have q0 : ((ss.length : Int) = 0) = False := eq_false (by omega)
      have hsub : IntKind.i64.wrap ((ss.length : Int) - 1) = ((ss.length - 1 : Nat) : Int) := by
        rw [← w64 (ss.length - 1) (by omega)]; congr 1; omega
      have hslt := hslt (by omega)
      have hl2 := hless (by omega)
      have q1 : (((mostL ss.dropLast).length : Int) ≤ ((mostL ss).length : Int)) = True := eq_true (by omega)
      have hsub2 : IntKind.i64.wrap (((mostL ss).length : Int) - 1) = ((mostL ss).length : Int) - 1 := by rw [wrap64] <;> omega
      have q2 : (((mostL ss).length : Int) - 1 ≤ ((mostL ss.dropLast).length : Int)) = True := eq_true (by omega)
      simp only [go_sem, reduceIte, Nat.reduceEqDiff, Nat.reduceAdd, Nat.reduceSub, Nat.reduceLeDiff, Nat.reduceLT, reduceCtorEq, Int.reduceLT, Int.reduceLE, Int.reduceEq, Int.reduceBEq, Int.reduceSub, Int.reduceAdd, Int.reduceMul, Int.reduceNeg, Int.reduceToNat, Nat.reduceMul, Nat.reduceBEq, e3, e5, e6, h18, h22, hL5, q0, hsub, hslt, h18b, hlm, hlm2, q1, hsub2, q2, c15]
  · have q9 : ((9 : Int) < (s0.length : Int)) = False := eq_false (by omega)
    simp only [ir6, hun, go_sem, reduceIte, Nat.reduceEqDiff, Nat.reduceAdd, Nat.reduceSub, Nat.reduceLeDiff, Nat.reduceLT, reduceCtorEq, Int.reduceLT, Int.reduceLE, Int.reduceEq, Int.reduceBEq, Int.reduceSub, Int.reduceAdd, Int.reduceMul, Int.reduceNeg, Int.reduceToNat, Nat.reduceMul, Nat.reduceBEq, okRefsC, renCellsC, pubsC, storableC, hl17, htk, h38, hL0, q9]
    have hk := key true (s0) hS (by omega)
    obtain ⟨h39, hsm, hgd, h256⟩ := hk
    have hlt9 : (s0).length ≤ 9 := by omega
    have hLl := told_len n w 0 (s0)
    have hless := most_less (ss := s0) hlt9
    have hwe := want_eq h256 hlt9
    have hnd := hS.nd
    skip
    generalize hsse : (s0) = ss at *
    have h18 := fun st => c18 n hn2.1 (by omega) true (toldL n w 0 ss) hgd (by rw [hsm]; exact hnd) (by rw [hLl]; exact hlt9) st
    rw [hsm] at h18
    have hdr : ((toldL n w 0 ss).take (ss.length - 1)).map (smlN n) = ss.dropLast := by
      rw [List.map_take, hsm, List.dropLast_eq_take]
    have h18b := fun st => c18 n hn2.1 (by omega) false ((toldL n w 0 ss).take (ss.length - 1)) (fun v hv => hgd v (List.mem_of_mem_take hv)) (by rw [hdr]; exact hnd.sublist (List.dropLast_sublist _)) (by rw [List.length_take]; omega) st
    rw [hdr] at h18b
    have hL5 : lenAV (sl 1 true ((toldL n w 0 ss).map tM)) = some (J ss.length) := by rw [lenm_sl tM, hLl]
    have hL4 : lenAV (sl 1 true (ss.map U)) = some (J ss.length) := lenm_sl U _ _
    have hshu : binAV .shl none (.v (.int .u64 1)) (.v (.int .i64 (ss.length : Int))) = some (U (2 ^ ss.length)) := by
      rw [shl_one, sh1_eq ss.length (by omega)]
    have hslt := fun h => slice_m tM true (toldL n w 0 ss) (ss.length - 1) h
    rw [hLl] at hslt
    have hmw : (List.range' 0 (2 ^ ss.length)).foldl (stepW ss) [] = mostL ss := hwe _ [] (fun x hx => by rw [List.mem_range'] at hx; obtain ⟨i, hi, rfl⟩ := hx; omega)
    generalize toldL n w 0 ss = LL at *
    simp only [go_sem, reduceIte, Nat.reduceEqDiff, Nat.reduceAdd, Nat.reduceSub, Nat.reduceLeDiff, Nat.reduceLT, reduceCtorEq, Int.reduceLT, Int.reduceLE, Int.reduceEq, Int.reduceBEq, Int.reduceSub, Int.reduceAdd, Int.reduceMul, Int.reduceNeg, Int.reduceToNat, Nat.reduceMul, Nat.reduceBEq, hl17, htk, hun, h39, hL4, hshu]
    generalize hg : lim (headed pure (run L) true _ lp6_2 _ _) _ _ = o
    obtain ⟨x, en, s, rfl, h2⟩ : ∃ x en s, o = some (x, en, s) ∧ _ := by rw [← hg]; exact loop6_2 n true ss h256 hlt9 LL (cutC a g zs m w) (fun k => okRefsC k a g zs m w) (fun k T acc => renCellsC k T acc a g zs m w) 0 [] ⟨Nat.zero_le _, by simp⟩ _ _ (by simp only [go_sem, reduceIte, Nat.reduceEqDiff, Nat.reduceAdd, Nat.reduceSub, Nat.reduceLeDiff, Nat.reduceLT, reduceCtorEq, Int.reduceLT, Int.reduceLE, Int.reduceEq, Int.reduceBEq, Int.reduceSub, Int.reduceAdd, Int.reduceMul, Int.reduceNeg, Int.reduceToNat, Nat.reduceMul, Nat.reduceBEq, okRefsC, renCellsC, Int.natCast_zero, show AV.v (.slice none 0 0) = tAV [] from rfl, ren1_t] <;> rfl)
    clear hg
    rw [Nat.sub_zero, hmw] at h2
    obtain ⟨rfl, e3, e5, e6, rfl⟩ := h2
    have hml : (mostL ss).length ≤ 9 := by
      rcases most_in hlt9 with h | ⟨x, _, _, h⟩
      · rw [h]; simp
      · rw [h]; exact memb_len x
    have h22 : ∀ st, run L 22 [tAV (mostL ss), tAV (mostL ss)] st = some (B true, st) := fun st => by
      have := c22 true true (mostL ss) (mostL ss) (by omega) st
      rw [decide_eq_true rfl] at this; exact this
    have hlm : lenAV (tAV (mostL ss)) = some (J (mostL ss).length) := lenm_sl I true _
    have hlm2 : lenAV (tAV (mostL ss.dropLast)) = some (J (mostL ss.dropLast).length) := lenm_sl I true _
    by_cases hz0 : ss.length = 0
    · have q0 : ((ss.length : Int) = 0) = True := eq_true (by omega)
      simp only [go_sem, reduceIte, Nat.reduceEqDiff, Nat.reduceAdd, Nat.reduceSub, Nat.reduceLeDiff, Nat.reduceLT, reduceCtorEq, Int.reduceLT, Int.reduceLE, Int.reduceEq, Int.reduceBEq, Int.reduceSub, Int.reduceAdd, Int.reduceMul, Int.reduceNeg, Int.reduceToNat, Nat.reduceMul, Nat.reduceBEq, e3, e5, e6, h18, h22, hL5, q0, c15]
    · have q0 : ((ss.length : Int) = 0) = False := eq_false (by omega)
      have hsub : IntKind.i64.wrap ((ss.length : Int) - 1) = ((ss.length - 1 : Nat) : Int) := by
        rw [← w64 (ss.length - 1) (by omega)]; congr 1; omega
      have hslt := hslt (by omega)
      have hl2 := hless (by omega)
      have q1 : (((mostL ss.dropLast).length : Int) ≤ ((mostL ss).length : Int)) = True := eq_true (by omega)
      have hsub2 : IntKind.i64.wrap (((mostL ss).length : Int) - 1) = ((mostL ss).length : Int) - 1 := by rw [wrap64] <;> omega
      have q2 : (((mostL ss).length : Int) - 1 ≤ ((mostL ss.dropLast).length : Int)) = True := eq_true (by omega)
      simp only [go_sem, reduceIte, Nat.reduceEqDiff, Nat.reduceAdd, Nat.reduceSub, Nat.reduceLeDiff, Nat.reduceLT, reduceCtorEq, Int.reduceLT, Int.reduceLE, Int.reduceEq, Int.reduceBEq, Int.reduceSub, Int.reduceAdd, Int.reduceMul, Int.reduceNeg, Int.reduceToNat, Nat.reduceMul, Nat.reduceBEq, e3, e5, e6, h18, h22, hL5, q0, hsub, hslt, h18b, hlm, hlm2, q1, hsub2, q2, c15]
end Go.Proofs.YtdnmhlfjafjkbaaGreatDoor.Vm

namespace Go.Proofs.YtdnmhlfjafjkbaaGreatDoor.Vm
open Go Go.Ev Go.ChangeShapes Go.WideShapes Go.ChangeAt Go.RowKit
set_option maxRecDepth 100000
attribute [local go_sem] cells_any storable_any ren1_any shaped_ptr cells_ptr storable_ptr ren1_ptr shaped_eptr cells_eptr storable_eptr ren1_eptr shaped_rsl cells_rsl storable_rsl ren1_rsl shaped_int cells_int storable_int ren1_int shaped_bool cells_bool storable_bool ren1_bool shaped_nils cells_nils storable_nils ren1_nils shaped_lst cells_lst storable_lst shaped_fn cells_fn storable_fn ren1_fn shaped_ifc cells_ifc storable_ifc ren1_ifc shaped_agg cells_agg storable_agg ren1_agg shaped_tup cells_tup storable_tup ren1_tup shaped_nif cells_nif storable_nif ren1_nif ren1_lany ren1_lfull ren1_lown len_lst len_rsl len_nil load_ptr load_eptr isRsl_lst isRsl_nil isRsl_rsl elems_nil elems_lst elems_sl isRsl_sl body_eq bodyK_normal bodyK_ret resK_some leaveK_some only_some code_skip code_exit code_ret code_ops code_seq code_cond code_block seqK_normal seqK_ret seqK_exit condK_true condK_false blockK_normal blockK_ret blockK_exit opsK_some ops_nil ops_cons wantK_true wantK_false stepK_some pubs pub pub_sl params okRef_loc storable_loc shaped_loc cells_loc isRsl_loc elems_loc len_loc untips untip untip_sl wantedAV setElems withO isAgg_v isAgg_agg isAgg_lst isAgg_ptr isAgg_fn isAgg_ifc isAgg_rsl isAgg_sl isAgg_loc List.replicate_succ List.replicate_zero opAV valAV aval avals ofVal Env.get setD canon gcAV renAll renEnv renStore renCells ren1_sl cutSt okEnv okStore okRefs okRef okRef_sl bin_int bin_bool bin_lst bin_rsl bin_nil bin_agg cellsEq cellEq isShift intOp boolOp min_int max_int beq_int bne resAV tupAV leave_eq fin_sl fin_loc fins fin_v fin_lst fin_agg fin_tup fin_fn storeAV readCells putCells cells_sl shaped_sl storable_sl fieldAddrAV len_sl goI List.getElem?_cons_zero List.getElem?_cons_succ List.getElem?_nil Option.bind_some Option.map_some List.length_cons List.length_nil List.all_cons List.all_nil Bool.and_true Bool.true_and Bool.and_false Bool.false_and and_true true_and and_false false_and Bool.false_eq_true List.set_cons_zero List.set_cons_succ List.append_nil List.nil_append List.cons_append List.take_zero List.take_succ_cons List.take_nil List.drop_zero List.drop_succ_cons List.map_cons List.map_nil decide_true decide_false beq_self_eq_true Bool.not_true Bool.not_false or_true true_or or_false false_or Nat.zero_add Nat.add_zero Nat.le_refl Nat.lt_irrefl decide_eq_true_eq eq_self_iff_true not_true_eq_false not_false_eq_true List.getD_cons_zero code_loop Nat.zero_le Nat.not_lt_zero Bool.true_beq Bool.false_beq beq_true beq_false ge_iff_le gt_iff_lt keepR keepT ownTop Lpure pus Option.map_none assert_ifc assert_nil idxA_ptr idxA_eptr idxV_agg Int.cast_ofNat_Int Nat.mul_one Nat.zero_mul Int.toNat_natCast Int.toNat_zero setParts withO2 hasKey eqnil_sl nenil_sl eqnil_loc nenil_loc map_nil_iff okRefs_ints renCells_ints

theorem cells5 : Tryz.prog.cellsOf 5 = 1 := by kernel_rfl
theorem cells55 : Tryz.prog.cellsOf 55 = 13 := by kernel_rfl
theorem cells56 : Tryz.prog.cellsOf 56 = 1 := by kernel_rfl
theorem cells58 : Tryz.prog.cellsOf 58 = 17 := by kernel_rfl
theorem one_byte {d : Nat} {bs : List AV} (h : Sh Tryz.prog (d + 1) 5 bs) : ∃ n : Nat, bs = [u8 n] ∧ n < 256 := by
  simp only [Sh, Tryz.underlying5] at h
  obtain ⟨n, h1, h2⟩ := h
  have hb := bounds_u8 h2
  obtain ⟨k, rfl⟩ := Int.eq_ofNat_of_zero_le hb.1
  exact ⟨k, h1, by omega⟩
theorem one_word {d : Nat} {bs : List AV} (h : Sh Tryz.prog (d + 1) 56 bs) : ∃ n : Nat, bs = [u16 n] ∧ n < 65536 := by
  simp only [Sh, Tryz.underlying56] at h
  obtain ⟨n, h1, h2⟩ := h
  have hb := bounds_u16 h2
  obtain ⟨k, rfl⟩ := Int.eq_ofNat_of_zero_le hb.1
  exact ⟨k, h1, by omega⟩
/-- So many bytes. -/
theorem all_bytes : ∀ (k : Nat) (bs : List AV), bs.length = k → (∀ i, i < k → ∃ n : Nat, (bs.drop i).take 1 = [u8 n] ∧ n < 256) → ∃ zs : List Nat, bs = zs.map u8 ∧ zs.length = k ∧ ∀ n ∈ zs, n < 256
  | 0, bs, hl, _ => ⟨[], by simpa using hl, rfl, by simp⟩
  | k + 1, b :: bs, hl, h => by
    obtain ⟨n, h1, h2⟩ := h 0 (by omega)
    simp only [List.drop_zero, List.take_succ_cons, List.take_zero, List.cons.injEq, and_true] at h1
    obtain ⟨zs, g1, g2, g3⟩ := all_bytes k bs (by simpa using hl) (fun i hi => by
      obtain ⟨x, q1, q2⟩ := h (i + 1) (by omega)
      exact ⟨x, by simpa using q1, q2⟩)
    refine ⟨n :: zs, by rw [List.map_cons, ← h1, ← g1], by simp [g2], fun x hx => ?_⟩
    rw [List.mem_cons] at hx
    rcases hx with rfl | hx
    · exact h2
    · exact g3 x hx
theorem sh_13 {d : Nat} {bs : List AV} (h : Sh Tryz.prog (d + 2) 55 bs) : ∃ zs : List Nat, bs = zs.map u8 ∧ zs.length = 13 ∧ ∀ n ∈ zs, n < 256 := by
  unfold Sh at h
  simp only [Tryz.underlying55, cells55, cells5] at h
  refine all_bytes 13 bs (by omega) (fun i hi => ?_)
  have := h.2 i hi
  rw [Nat.mul_one] at this
  exact one_byte this
/-- Divisions by numbers. -/
theorem sh_cut {c : AV} (h : ShV Tryz.prog 8 58 c) : ∃ (a g : Nat) (zs : List Nat) (m w : Nat), c = cutAV a g zs m w ∧ a < 256 ∧ g < 256 ∧ zs.length = 13 ∧ (∀ z ∈ zs, z < 256) ∧ m < 256 ∧ w < 65536 := by
  unfold ShV at h
  rw [if_pos (by unfold aggB; rw [Tryz.underlying58])] at h
  obtain ⟨cs, rfl, hs⟩ := h
  unfold Sh at hs
  simp only [Tryz.underlying58, cells58] at hs
  obtain ⟨h1, h2⟩ := hs
  have f0 := h2 0 _ rfl
  have f1 := h2 1 _ rfl
  have f2 := h2 2 _ rfl
  have f3 := h2 3 _ rfl
  have f4 := h2 4 _ rfl
  simp only [List.getElem_toArray, List.getElem_cons_zero, List.getElem_cons_succ, cells5, cells55, cells56] at f0 f1 f2 f3 f4
  obtain ⟨a, e0, l0⟩ := one_byte f0
  obtain ⟨g, e1, l1⟩ := one_byte f1
  obtain ⟨zs, e2, l2, b2⟩ := sh_13 f2
  obtain ⟨m, e3, l3⟩ := one_byte f3
  obtain ⟨w, e4, l4⟩ := one_word f4
  refine ⟨a, g, zs, m, w, ?_, l0, l1, l2, b2, l3, l4⟩
  have t4 : (cs.drop 16).take 1 = cs.drop 16 := List.take_of_length_le (by simp [h1])
  have sp : ∀ (i z : Nat), (cs.drop i).take z ++ cs.drop (i + z) = cs.drop i := fun i z => by
    have := List.take_append_drop z (cs.drop i)
    rwa [List.drop_drop] at this
  have s0 := sp 0 1
  have s1 := sp 1 1
  have s2 := sp 2 13
  have s3 := sp 15 1
  simp only [Nat.zero_add, Nat.reduceAdd] at s0 s1 s2 s3
  show AV.agg cs = AV.agg (cutC a g zs m w)
  congr 1
  rw [show cs = cs.drop 0 from rfl, ← s0, ← s1, ← s2, ← s3, ← t4, e0, e1, e2, e3, e4]
  rfl
end Go.Proofs.YtdnmhlfjafjkbaaGreatDoor.Vm
