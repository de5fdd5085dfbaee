/- What is proved: what each function of this program computes, as equations on the evaluator. No condition. -/
import Derived.Test.YtpmbfgogpcjdlaaDoorC1
import Derived.Test.YtpmbfgogpcjdlaaDoorFkf
set_option linter.all false
namespace Go.Proofs.YtpmbfgogpcjdlaaDoor.Vm
open Go Go.Ev
set_option maxRecDepth 100000
attribute [local go_sem] cells_any storable_any ren1_any shaped_ptr cells_ptr storable_ptr ren1_ptr shaped_eptr cells_eptr storable_eptr ren1_eptr shaped_rsl cells_rsl storable_rsl ren1_rsl shaped_int cells_int storable_int ren1_int shaped_bool cells_bool storable_bool ren1_bool shaped_nils cells_nils storable_nils ren1_nils shaped_lst cells_lst storable_lst shaped_fn cells_fn storable_fn ren1_fn shaped_ifc cells_ifc storable_ifc ren1_ifc shaped_agg cells_agg storable_agg ren1_agg shaped_tup cells_tup storable_tup ren1_tup shaped_nif cells_nif storable_nif ren1_nif ren1_lany ren1_lfull ren1_lown len_lst len_rsl len_nil load_ptr load_eptr isRsl_lst isRsl_nil isRsl_rsl elems_nil elems_lst elems_sl isRsl_sl body_eq bodyK_normal bodyK_ret resK_some leaveK_some only_some code_skip code_exit code_ret code_ops code_seq code_cond code_block seqK_normal seqK_ret seqK_exit condK_true condK_false blockK_normal blockK_ret blockK_exit opsK_some ops_nil ops_cons wantK_true wantK_false stepK_some pubs pub pub_sl params okRef_loc storable_loc shaped_loc cells_loc isRsl_loc elems_loc len_loc untips untip untip_sl wantedAV setElems withO isAgg_v isAgg_agg isAgg_lst isAgg_ptr isAgg_fn isAgg_ifc isAgg_rsl isAgg_sl isAgg_loc List.replicate_succ List.replicate_zero opAV valAV aval avals ofVal Env.get setD canon gcAV renAll renEnv renStore renCells ren1_sl cutSt okEnv okStore okRefs okRef okRef_sl bin_int bin_bool bin_lst bin_rsl bin_nil bin_agg cellsEq cellEq isShift intOp boolOp min_int max_int beq_int bne resAV tupAV leave_eq fin_sl fin_loc fins fin_v fin_lst fin_agg fin_tup fin_fn storeAV readCells putCells cells_sl shaped_sl storable_sl fieldAddrAV len_sl goI List.getElem?_cons_zero List.getElem?_cons_succ List.getElem?_nil Option.bind_some Option.map_some List.length_cons List.length_nil List.all_cons List.all_nil Bool.and_true Bool.true_and Bool.and_false Bool.false_and and_true true_and and_false false_and Bool.false_eq_true List.set_cons_zero List.set_cons_succ List.append_nil List.nil_append List.cons_append List.take_zero List.take_succ_cons List.take_nil List.drop_zero List.drop_succ_cons List.map_cons List.map_nil decide_true decide_false beq_self_eq_true Bool.not_true Bool.not_false or_true true_or or_false false_or Nat.zero_add Nat.add_zero Nat.le_refl Nat.lt_irrefl decide_eq_true_eq eq_self_iff_true not_true_eq_false not_false_eq_true List.getD_cons_zero code_loop Nat.zero_le Nat.not_lt_zero Bool.true_beq Bool.false_beq beq_true beq_false ge_iff_le gt_iff_lt Lpure pus Option.map_none assert_ifc assert_nil idxA_ptr idxA_eptr idxV_agg Int.cast_ofNat_Int Nat.mul_one Nat.zero_mul Int.toNat_natCast Int.toNat_zero setParts withO2 hasKey eqnil_sl nenil_sl eqnil_loc nenil_loc map_nil_iff okRefs_ints renCells_ints

set_option maxHeartbeats 2000000 in
theorem does (nl : Bool) (n : Nat) (hn : n ≤ 7) (ps : List (Int × Int)) (hlen : ps.length ≤ 10) (hps : ∀ p ∈ ps, 0 ≤ p.1 ∧ p.1 < p.2 ∧ p.2 < (n : Int)) : ∀ k, Does nl n ps k := by
  intro k
  induction k with
  | zero =>
    intro i hik room hrl hrb left hl0 hl1 ol ho v J hR
    have hi : i = ps.length := by omega
    subst hi
    have hd : ps.drop ps.length = [] := List.drop_length
    rw [hd]
    refine ⟨decide (left = 0), room, v, J, ?_, Frame.refl J v, ?_⟩
    · rw [run_shared (fn := ir112) rfl rfl]
      simp only [ir112, go_sem, reduceIte, Nat.reduceEqDiff, Nat.reduceAdd, Nat.reduceSub, Nat.reduceLeDiff, Nat.reduceLT, reduceCtorEq, Int.reduceLT, Int.reduceLE, Int.reduceEq, Int.reduceBEq, Int.reduceSub, Int.reduceAdd, Int.reduceMul, Int.reduceNeg, Int.reduceToNat, Nat.reduceMul, Nat.reduceBEq, List.length_map]
    · simp only [findL]
      by_cases h : left = 0
      · rw [if_pos h]; exact ⟨by simp [h], by rw [List.append_nil]; exact hR, hrl⟩
      · rw [if_neg h]; exact ⟨by simp [h], hR, trivial⟩
  | succ k ih =>
    intro i hik room hrl hrb left hl0 hl1 ol ho v J hR
    have hi : i < ps.length := by omega
    have hd : ps.drop i = ps[i] :: ps.drop (i + 1) := List.drop_eq_getElem_cons hi
    have hx := index_prs nl ps i hi
    have hp := hps ps[i] (List.getElem_mem hi)
    rw [hd]
    generalize ps[i] = c at *
    obtain ⟨u, w⟩ := c
    simp only at hx hp
    obtain ⟨u, rfl⟩ := Int.eq_ofNat_of_zero_le hp.1
    obtain ⟨w, rfl⟩ := Int.eq_ofNat_of_zero_le (show 0 ≤ w by omega)
    have q1 : ((i : Int) = (ps.length : Int)) = False := eq_false (by omega)
    have hsl : sliceaAV 7 1 false (.ptr 2 0) none (some (.v (.int .i64 (n : Int)))) none = some (.rsl 2 0 n 7 1 false) := by
      simp only [sliceaAV, natOr, natOf]
      simp; omega
    have hsb := sumL_bd (room.take n) (fun x hx => hrb x (List.mem_of_mem_take hx))
    have hw2 := wrap64 (2 * left) (by omega) (by omega)
    have gu := getI room u (by omega)
    have gw := getI room w (by omega)
    have bu := getD_bd (B := 2) (by omega) hrb u
    have bw := getD_bd (B := 2) (by omega) hrb w
    have hmx : ((mxR room ((u : Int), (w : Int)) left : Nat) : Int) = min (min (room.getD u 0) (room.getD w 0)) left := by
      unfold mxR; simp only [Int.toNat_natCast]; omega
    have hfl : findL n (((u : Int), (w : Int)) :: ps.drop (i + 1)) room left = if sumL (room.take n) < 2 * left then none else fromX n (ps.drop (i + 1)) ((u : Int), (w : Int)) room left (mxR room ((u : Int), (w : Int)) left) 0 := rfl
    rw [hfl]
    generalize mxR room ((u : Int), (w : Int)) left = mx at *
    have hmu : (mx : Int) ≤ room.getD u 0 := by omega
    have hmw : (mx : Int) ≤ room.getD w 0 := by omega
    have hml : (mx : Int) ≤ left := by omega
    rw [run_shared (fn := ir112) rfl rfl]
    by_cases pr : sumL (room.take n) < 2 * left
    · rw [if_pos pr]
      refine ⟨false, room, v, J, ?_, Frame.refl J v, rfl, hR, rfl⟩
      simp only [ir112, go_sem, reduceIte, Nat.reduceEqDiff, Nat.reduceAdd, Nat.reduceSub, Nat.reduceLeDiff, Nat.reduceLT, reduceCtorEq, Int.reduceLT, Int.reduceLE, Int.reduceEq, Int.reduceBEq, Int.reduceSub, Int.reduceAdd, Int.reduceMul, Int.reduceNeg, Int.reduceToNat, Nat.reduceMul, Nat.reduceBEq, q1, hsl, List.length_map]
      generalize hg : lim (headed pure (run L) false _ lp112_0 _ _) _ _ = o
      obtain ⟨x, en, s, rfl, h2⟩ : ∃ x en s, o = some (x, en, s) ∧ _ := by rw [← hg]; exact loop112_0 nl n hn ps i left room hrl hrb v J (4 + J.length) 0 0 0 ⟨by omega, by omega, by omega⟩ _ _ (by simp only [go_sem, reduceIte, Nat.reduceEqDiff, Nat.reduceAdd, Nat.reduceSub, Nat.reduceLeDiff, Nat.reduceLT, reduceCtorEq, Int.reduceLT, Int.reduceLE, Int.reduceEq, Int.reduceBEq, Int.reduceSub, Int.reduceAdd, Int.reduceMul, Int.reduceNeg, Int.reduceToNat, Nat.reduceMul, Nat.reduceBEq, Int.natCast_zero] <;> rfl)
      clear hg
      obtain ⟨rfl, e0, e1, e2, e3, e4, e5, e9, rfl⟩ := h2
      rw [List.drop_zero, Int.zero_add] at e9
      simp only [go_sem, reduceIte, Nat.reduceEqDiff, Nat.reduceAdd, Nat.reduceSub, Nat.reduceLeDiff, Nat.reduceLT, reduceCtorEq, Int.reduceLT, Int.reduceLE, Int.reduceEq, Int.reduceBEq, Int.reduceSub, Int.reduceAdd, Int.reduceMul, Int.reduceNeg, Int.reduceToNat, Nat.reduceMul, Nat.reduceBEq, e0, e1, e2, e3, e4, e5, e9, hw2, pr]
    · rw [if_neg pr]
      have hq0 : (J ++ [[I (u : Int), I (w : Int)]])[J.length]? = some [I (u : Int), I (w : Int)] := by simp
      have hz0 : (J ++ [[AV.v (.int .i64 0), AV.v (.int .i64 0)]])[J.length]? = some [AV.v (.int .i64 0), .v (.int .i64 0)] := by simp
      have hzs : ∀ c : List AV, (J ++ [[AV.v (.int .i64 0), AV.v (.int .i64 0)]]).set J.length c = J ++ [c] := fun c => by simp
      have hqn : NotAt J.length v := by
        rcases hR with ⟨_, rfl⟩ | ⟨l, c, cs, rfl, h1, _⟩
        · intro n c e; simp at e
        · intro n c2 e
          have := (List.getElem?_eq_some_iff.1 h1).1
          simp at e; omega
      have hR1 : Rep (J ++ [[I (u : Int), I (w : Int)]]) ol v := by
        rcases hR with ⟨h0, rfl⟩ | ⟨l, c, cs, rfl, h1, h2, h3, h4, h5⟩
        · exact .inl ⟨h0, rfl⟩
        · exact .inr ⟨l, c, cs, rfl, by rw [List.getElem?_append_left (List.getElem?_eq_some_iff.1 h1).1]; exact h1, h2, h3, h4, h5⟩
      have hF1 : Frame J v (J ++ [[I (u : Int), I (w : Int)]]) v := fun q c h1 h2 => ⟨by rw [List.getElem?_append_left (List.getElem?_eq_some_iff.1 h1).1]; exact h1, h2⟩
      have hwm : IntKind.i64.wrap ((mx : Int) + 1) = (mx : Int) + 1 := by rw [wrap64] <;> omega
      have b1 : ((0 : Int) ≤ (u : Int)) = True := eq_true (by omega)
      have b2 : ((u : Int) < 7) = True := eq_true (by omega)
      have b3 : ((0 : Int) ≤ (w : Int)) = True := eq_true (by omega)
      have b4 : ((w : Int) < 7) = True := eq_true (by omega)
      have main : ∃ e8 S8, run L 112 [I i, I left, .ptr 0 0, .ptr 2 0, .ptr 1 0, .ptr 3 0] (S4 (bkCells nl n ps) v room J) = some (e8, S8) ∧ ∃ v' J' room', S8 = S4 (bkCells nl n ps) v' room' J' ∧ Frame J v J' v' ∧ (match fromX n (ps.drop (i + 1)) ((u : Int), (w : Int)) room left mx 0 with | some l => e8 = B true ∧ Rep J' (ol ++ l) v' ∧ room'.length = 7 | none => e8 = B false ∧ Rep J' ol v' ∧ room' = room) := by
        rw [run_shared (fn := ir112) rfl rfl]
        simp only [ir112, go_sem, reduceIte, Nat.reduceEqDiff, Nat.reduceAdd, Nat.reduceSub, Nat.reduceLeDiff, Nat.reduceLT, reduceCtorEq, Int.reduceLT, Int.reduceLE, Int.reduceEq, Int.reduceBEq, Int.reduceSub, Int.reduceAdd, Int.reduceMul, Int.reduceNeg, Int.reduceToNat, Nat.reduceMul, Nat.reduceBEq, q1, hsl, List.length_map]
        generalize hg : lim (headed pure (run L) false _ lp112_0 _ _) _ _ = o
        obtain ⟨x, en, s, rfl, h2⟩ : ∃ x en s, o = some (x, en, s) ∧ _ := by rw [← hg]; exact loop112_0 nl n hn ps i left room hrl hrb v J (4 + J.length) 0 0 0 ⟨by omega, by omega, by omega⟩ _ _ (by simp only [go_sem, reduceIte, Nat.reduceEqDiff, Nat.reduceAdd, Nat.reduceSub, Nat.reduceLeDiff, Nat.reduceLT, reduceCtorEq, Int.reduceLT, Int.reduceLE, Int.reduceEq, Int.reduceBEq, Int.reduceSub, Int.reduceAdd, Int.reduceMul, Int.reduceNeg, Int.reduceToNat, Nat.reduceMul, Nat.reduceBEq, Int.natCast_zero] <;> rfl)
        clear hg
        obtain ⟨rfl, e0, e1, e2, e3, e4, e5, e9, rfl⟩ := h2
        rw [List.drop_zero, Int.zero_add] at e9
        simp only [go_sem, reduceIte, Nat.reduceEqDiff, Nat.reduceAdd, Nat.reduceSub, Nat.reduceLeDiff, Nat.reduceLT, reduceCtorEq, Int.reduceLT, Int.reduceLE, Int.reduceEq, Int.reduceBEq, Int.reduceSub, Int.reduceAdd, Int.reduceMul, Int.reduceNeg, Int.reduceToNat, Nat.reduceMul, Nat.reduceBEq, e0, e1, e2, e3, e4, e5, e9, hw2, pr, hx, hz0, hzs, hq0, gu, gw, b1, b2, b3, b4, ← hmx, hwm]
        generalize hg : lim (headed pure (run L) false _ lp112_1 _ _) _ _ = o
        obtain ⟨x, en, s, rfl, h2⟩ : ∃ x en s, o = some (x, en, s) ∧ _ := by rw [← hg]; exact loop112_1 nl n hn ps hlen i k (by omega) u w (by omega) room hrl hrb left hl0 hl1 ol ho mx hmu hmw hml ih J.length J v (J.length + 1 + 4) 0 0 v (J ++ [[I (u : Int), I (w : Int)]]) ⟨by omega, hR1, hq0, hqn, hF1⟩ _ _ (by simp only [go_sem, reduceIte, Nat.reduceEqDiff, Nat.reduceAdd, Nat.reduceSub, Nat.reduceLeDiff, Nat.reduceLT, reduceCtorEq, Int.reduceLT, Int.reduceLE, Int.reduceEq, Int.reduceBEq, Int.reduceSub, Int.reduceAdd, Int.reduceMul, Int.reduceNeg, Int.reduceToNat, Nat.reduceMul, Nat.reduceBEq, e0, e1, e2, e3, e4, e5, Int.natCast_zero] <;> rfl)
        clear hg
        obtain ⟨v', J', room', rfl, hF', hm⟩ := h2
        cases hfx : fromX n (ps.drop (i + 1)) ((u : Int), (w : Int)) room left mx 0 with
        | some l =>
          rw [hfx] at hm
          obtain ⟨rfl, h8, hR', hl'⟩ := hm
          refine ⟨B true, S4 (bkCells nl n ps) v' room' J', by simp only [go_sem, reduceIte, Nat.reduceEqDiff, Nat.reduceAdd, Nat.reduceSub, Nat.reduceLeDiff, Nat.reduceLT, reduceCtorEq, Int.reduceLT, Int.reduceLE, Int.reduceEq, Int.reduceBEq, Int.reduceSub, Int.reduceAdd, Int.reduceMul, Int.reduceNeg, Int.reduceToNat, Nat.reduceMul, Nat.reduceBEq, h8], v', J', room', rfl, hF', rfl, hR', hl'⟩
        | none =>
          rw [hfx] at hm
          obtain ⟨rfl, hR', hl'⟩ := hm
          refine ⟨B false, S4 (bkCells nl n ps) v' room' J', by simp only [go_sem, reduceIte, Nat.reduceEqDiff, Nat.reduceAdd, Nat.reduceSub, Nat.reduceLeDiff, Nat.reduceLT, reduceCtorEq, Int.reduceLT, Int.reduceLE, Int.reduceEq, Int.reduceBEq, Int.reduceSub, Int.reduceAdd, Int.reduceMul, Int.reduceNeg, Int.reduceToNat, Nat.reduceMul, Nat.reduceBEq], v', J', room', rfl, hF', rfl, hR', hl'⟩
      obtain ⟨e8, S8, hrun, v', J', room', rfl, hF', hm⟩ := main
      rw [run_shared (fn := ir112) rfl rfl] at hrun
      cases hfx : fromX n (ps.drop (i + 1)) ((u : Int), (w : Int)) room left mx 0 with
      | some l =>
        rw [hfx] at hm
        obtain ⟨rfl, hR', hl'⟩ := hm
        exact ⟨true, room', v', J', hrun, hF', rfl, hR', hl'⟩
      | none =>
        rw [hfx] at hm
        obtain ⟨rfl, hR', hl'⟩ := hm
        exact ⟨false, room', v', J', hrun, hF', rfl, hR', hl'⟩


/-! ### the search finds the first shares of a worth -/
theorem some_first {β : Type} (g : Nat → Option β) : ∀ (m x0 : Nat), match (List.range' x0 m).findSome? g with
    | some r => ∃ x, x0 ≤ x ∧ x < x0 + m ∧ g x = some r ∧ ∀ y, x0 ≤ y → y < x → g y = none
    | none => ∀ y, x0 ≤ y → y < x0 + m → g y = none
  | 0, x0 => by simp; intro y h1 h2; omega
  | m + 1, x0 => by
    have ih := some_first g m (x0 + 1)
    rw [List.range'_succ, List.findSome?_cons]
    cases h : g x0 with
    | some r => exact ⟨x0, by omega, by omega, h, fun y h1 h2 => by omega⟩
    | none =>
      simp only
      cases h2 : (List.range' (x0 + 1) m).findSome? g with
      | some r =>
        rw [h2] at ih
        obtain ⟨x, a1, a2, a3, a4⟩ := ih
        refine ⟨x, by omega, by omega, a3, fun y h3 h4 => ?_⟩
        by_cases e : y = x0
        · subst e; exact h
        · exact a4 y (by omega) h4
      | none =>
        rw [h2] at ih
        intro y h3 h4
        by_cases e : y = x0
        · subst e; exact h
        · exact ih y (by omega) (by omega)

/-- Shares of some pairs for which there is room, and that are worth so much. -/
def Fits (q : List (Int × Int)) (room : List Int) (left : Int) (l : List Int) : Prop := l.length = q.length ∧ (∀ x ∈ l, 0 ≤ x) ∧ (∀ a : Nat, loadOf (q.zip l) (a : Int) ≤ room.getD a 0) ∧ sumL l = left
theorem sum_nonneg : ∀ l : List Int, (∀ x ∈ l, 0 ≤ x) → 0 ≤ sumL l
  | [], _ => by simp [sumL]
  | a :: r, h => by
    have h1 := h a (by simp)
    have h2 := sum_nonneg r (fun x hx => h x (by simp [hx]))
    simp only [sumL]; omega
theorem load_nonneg (a : Int) : ∀ l : List ((Int × Int) × Int), (∀ e ∈ l, 0 ≤ e.2) → 0 ≤ loadOf l a
  | [], _ => by simp [loadOf]
  | e :: r, h => by
    have h1 := h e (by simp)
    have h2 := load_nonneg a r (fun x hx => h x (by simp [hx]))
    simp only [loadOf]; split <;> omega
theorem zip_snd {q : List (Int × Int)} {l : List Int} (h : ∀ x ∈ l, 0 ≤ x) : ∀ e ∈ q.zip l, 0 ≤ e.2 := fun e he => h _ (List.of_mem_zip he).2
theorem takeR_getD {room : List Int} (hrl : room.length = 7) {u w : Nat} (hu : u < w) (hw : w < 7) (x : Int) (a : Nat) : (takeR room ((u : Int), (w : Int)) x).getD a 0 = room.getD a 0 - (if a = u ∨ a = w then x else 0) := by
  unfold takeR
  simp only [Int.toNat_natCast, List.getD_eq_getElem?_getD, List.getElem?_set, List.length_set]
  by_cases e1 : w = a
  · subst e1
    have : (if w = u ∨ w = w then x else 0) = x := if_pos (Or.inr rfl)
    rw [this]
    simp [show w < room.length by omega]
  · by_cases e2 : u = a
    · subst e2
      have : (if u = u ∨ u = w then x else 0) = x := if_pos (Or.inl rfl)
      rw [this]
      simp [e1, show u < room.length by omega]
    · have : (if a = u ∨ a = w then x else 0) = 0 := if_neg (by omega)
      rw [this]
      simp [e1, e2]
theorem fits_cons {q : List (Int × Int)} {room : List Int} (hrl : room.length = 7) {u w : Nat} (hu : u < w) (hw : w < 7) {left x : Int} {l : List Int} :
    Fits (((u : Int), (w : Int)) :: q) room left (x :: l) ↔ 0 ≤ x ∧ Fits q (takeR room ((u : Int), (w : Int)) x) (left - x) l := by
  unfold Fits
  simp only [List.length_cons, List.zip_cons_cons, loadOf, sumL, List.mem_cons, forall_eq_or_imp]
  have key : ∀ a : Nat, ((if (u : Int) = (a : Int) ∨ (w : Int) = (a : Int) then x else 0) + loadOf (q.zip l) (a : Int) ≤ room.getD a 0) ↔ (loadOf (q.zip l) (a : Int) ≤ (takeR room ((u : Int), (w : Int)) x).getD a 0) := by
    intro a
    rw [takeR_getD hrl hu hw]
    have : (((u : Int) = (a : Int)) ∨ ((w : Int) = (a : Int))) ↔ (a = u ∨ a = w) := by omega
    simp only [this]
    omega
  simp only [key]
  constructor
  · rintro ⟨h1, ⟨h2, h3⟩, h4, h5⟩; exact ⟨h2, by omega, h3, h4, by omega⟩
  · rintro ⟨h2, h1, h3, h4, h5⟩; exact ⟨by omega, ⟨h2, h3⟩, h4, by omega⟩
theorem sum_load {n : Nat} : ∀ (l : List ((Int × Int) × Int)), (∀ e ∈ l, 0 ≤ e.1.1 ∧ e.1.1 < e.1.2 ∧ e.1.2 < (n : Int)) → sumL ((List.range n).map fun (a : Nat) => loadOf l (a : Int)) = 2 * sumL (l.map fun e => e.2)
  | [], _ => by
    have : ∀ k : List Nat, sumL (k.map fun (a : Nat) => loadOf [] (a : Int)) = 0 := by
      intro k; induction k with
      | nil => rfl
      | cons b k ih =>
        show (0 : Int) + sumL (k.map fun (a : Nat) => loadOf [] (a : Int)) = 0
        rw [ih]; rfl
    rw [this]; rfl
  | e :: r, h => by
    have he := h e (by simp)
    have ih := sum_load r (fun x hx => h x (by simp [hx]))
    have e0 : (List.range n).map (fun (a : Nat) => loadOf (e :: r) (a : Int)) = (List.range n).map fun (a : Nat) => (if e.1.1 = (a : Int) ∨ e.1.2 = (a : Int) then e.2 else 0) + loadOf r (a : Int) := rfl
    rw [e0, sum_add]
    have z : sumL ((List.range n).map fun (a : Nat) => (0 : Int)) = 0 := by
      generalize List.range n = k
      induction k with
      | nil => rfl
      | cons b k ih => simp only [List.map_cons, sumL, ih]; rfl
    have s1 := sum_upd (f := fun (a : Nat) => if e.1.1 = (a : Int) then e.2 else 0) (g := fun _ => 0) (i := e.1.1.toNat) (d := e.2) (List.range n) List.nodup_range (List.mem_range.2 (by omega)) (by intro a _ hne; rw [if_neg (by omega)]) (by rw [if_pos (by omega)]; omega)
    have s2 := sum_upd (f := fun (a : Nat) => if e.1.2 = (a : Int) then e.2 else 0) (g := fun _ => 0) (i := e.1.2.toNat) (d := e.2) (List.range n) List.nodup_range (List.mem_range.2 (by omega)) (by intro a _ hne; rw [if_neg (by omega)]) (by rw [if_pos (by omega)]; omega)
    have s3 : (List.range n).map (fun (a : Nat) => if e.1.1 = (a : Int) ∨ e.1.2 = (a : Int) then e.2 else 0) = (List.range n).map fun (a : Nat) => (if e.1.1 = (a : Int) then e.2 else 0) + (if e.1.2 = (a : Int) then e.2 else 0) := by
      apply List.map_congr_left
      intro a _
      by_cases h1 : e.1.1 = (a : Int)
      · rw [if_pos (.inl h1), if_pos h1, if_neg (by omega)]; omega
      · by_cases h2 : e.1.2 = (a : Int)
        · rw [if_pos (.inr h2), if_neg h1, if_pos h2]; omega
        · rw [if_neg (by simp [h1, h2]), if_neg h1, if_neg h2]; rfl
    rw [s3, sum_add, s1, s2, z, ih]
    simp only [List.map_cons, sumL]; omega
theorem find_spec {n : Nat} (hn : n ≤ 7) : ∀ (q : List (Int × Int)) (room : List Int) (left : Int), (∀ p ∈ q, 0 ≤ p.1 ∧ p.1 < p.2 ∧ p.2 < (n : Int)) → room.length = 7 → (∀ x ∈ room, 0 ≤ x ∧ x ≤ 2) →
    match findL n q room left with
    | some l => Fits q room left l ∧ ∀ l', Fits q room left l' → lexLt l' l = false
    | none => ∀ l', ¬ Fits q room left l'
  | [], room, left, _, hrl, hrb => by
    simp only [findL]
    have h0 : ∀ a : Nat, (0 : Int) ≤ room.getD a 0 := fun a => (getD_bd (B := 2) (by omega) hrb a).1
    by_cases h : left = 0
    · rw [if_pos h]
      refine ⟨⟨rfl, by simp, fun a => by simpa [loadOf] using h0 a, by simp [sumL, h]⟩, fun l' hl => ?_⟩
      have : l' = [] := List.eq_nil_of_length_eq_zero hl.1
      subst this; rfl
    · rw [if_neg h]
      rintro l' ⟨h1, _, _, h4⟩
      have : l' = [] := List.eq_nil_of_length_eq_zero h1
      subst this
      exact h (by simpa [sumL] using h4.symm)
  | p :: q, room, left, hps, hrl, hrb => by
    have hp := hps p (by simp)
    obtain ⟨u, w⟩ := p
    simp only at hp
    obtain ⟨u, rfl⟩ := Int.eq_ofNat_of_zero_le hp.1
    obtain ⟨w, rfl⟩ := Int.eq_ofNat_of_zero_le (show 0 ≤ w by omega)
    have huw : u < w := by omega
    have hw7 : w < 7 := by omega
    have bu := getD_bd (B := 2) (by omega) hrb u
    have bw := getD_bd (B := 2) (by omega) hrb w
    simp only [findL]
    by_cases pr : sumL (room.take n) < 2 * left
    · rw [if_pos pr]
      rintro l' ⟨h1, h2, h3, h4⟩
      have e1 := sum_load (n := n) ((((u : Int), (w : Int)) :: q).zip l') (fun e he => hps _ (List.of_mem_zip he).1)
      have e2 : ((((u : Int), (w : Int)) :: q).zip l').map (fun e => e.2) = l' := List.map_snd_zip (by omega)
      rw [e2, h4] at e1
      have e3 : room.take n = (List.range n).map fun a => room.getD a 0 := by
        rw [list_range (room.take n) n (by simp; omega)]
        apply List.map_congr_left
        intro a ha
        rw [List.getD_eq_getElem?_getD, List.getD_eq_getElem?_getD, List.getElem?_take, if_pos (List.mem_range.1 ha)]
      have e4 := sum_le2 (f := fun (a : Nat) => loadOf ((((u : Int), (w : Int)) :: q).zip l') (a : Int)) (g := fun a => room.getD a 0) (List.range n) (fun a _ => h3 a)
      rw [← e3, e1] at e4
      omega
    · rw [if_neg pr]
      have hsf := some_first (fun (x : Nat) => (findL n q (takeR room ((u : Int), (w : Int)) x) (left - x)).map ((x : Int) :: ·)) (mxR room ((u : Int), (w : Int)) left + 1) 0
      -- what may come first
      have hmx : ∀ (y : Int) (t : List Int), Fits (((u : Int), (w : Int)) :: q) room left (y :: t) → 0 ≤ y ∧ y.toNat < 0 + (mxR room ((u : Int), (w : Int)) left + 1) ∧ y ≤ room.getD u 0 ∧ y ≤ room.getD w 0 := by
        intro y t hf
        obtain ⟨h1, h2, h3, h4, h5⟩ := (fits_cons hrl huw hw7).1 hf
        have k1 := h4 u
        have k2 := h4 w
        rw [takeR_getD hrl huw hw7] at k1 k2
        rw [if_pos (.inl rfl)] at k1
        rw [if_pos (.inr rfl)] at k2
        have n1 := load_nonneg (u : Int) (q.zip t) (zip_snd h3)
        have n2 := load_nonneg (w : Int) (q.zip t) (zip_snd h3)
        have n3 := sum_nonneg t h3
        refine ⟨h1, ?_, by omega, by omega⟩
        unfold mxR
        simp only [Int.toNat_natCast]
        omega
      have hroom : ∀ x : Nat, (x : Int) ≤ room.getD u 0 → (x : Int) ≤ room.getD w 0 → (takeR room ((u : Int), (w : Int)) x).length = 7 ∧ ∀ y ∈ takeR room ((u : Int), (w : Int)) x, 0 ≤ y ∧ y ≤ 2 := by
        intro x hx1 hx2
        refine ⟨by unfold takeR; simp [hrl], fun y hy => ?_⟩
        unfold takeR at hy
        simp only [Int.toNat_natCast] at hy
        rcases List.mem_or_eq_of_mem_set hy with hy | rfl
        · rcases List.mem_or_eq_of_mem_set hy with hy | rfl
          · exact hrb y hy
          · omega
        · omega
      have hmle : ∀ x : Nat, x < 0 + (mxR room ((u : Int), (w : Int)) left + 1) → 0 ≤ left → (x : Int) ≤ room.getD u 0 ∧ (x : Int) ≤ room.getD w 0 := by
        intro x hx hl
        unfold mxR at hx
        simp only [Int.toNat_natCast] at hx
        omega
      cases hres : (List.range' 0 (mxR room ((u : Int), (w : Int)) left + 1)).findSome? (fun (x : Nat) => (findL n q (takeR room ((u : Int), (w : Int)) x) (left - x)).map ((x : Int) :: ·)) with
      | some r =>
        rw [hres] at hsf
        obtain ⟨x, _, a2, a3, a4⟩ := hsf
        simp only [Option.map_eq_some_iff] at a3
        obtain ⟨l, hl, rfl⟩ := a3
        by_cases hl0 : 0 ≤ left
        · obtain ⟨m1, m2⟩ := hmle x a2 hl0
          obtain ⟨r1, r2⟩ := hroom x m1 m2
          have ih := find_spec hn q (takeR room ((u : Int), (w : Int)) x) (left - x) (fun p hp => hps p (by simp [hp])) r1 r2
          rw [hl] at ih
          refine ⟨(fits_cons hrl huw hw7).2 ⟨by omega, ih.1⟩, fun l' hf => ?_⟩
          cases l' with
          | nil => have := hf.1; simp at this
          | cons y t =>
            obtain ⟨y0, y1, y2, y3⟩ := hmx y t hf
            obtain ⟨_, hft⟩ := (fits_cons hrl huw hw7).1 hf
            obtain ⟨y, rfl⟩ := Int.eq_ofNat_of_zero_le y0
            by_cases c1 : y < x
            · have h5 := a4 y (by omega) c1
              simp only [Option.map_eq_none_iff] at h5
              obtain ⟨s1, s2⟩ := hroom y y2 y3
              have ih2 := find_spec hn q (takeR room ((u : Int), (w : Int)) y) (left - y) (fun p hp => hps p (by simp [hp])) s1 s2
              rw [h5] at ih2
              exact absurd hft (ih2 t)
            · by_cases c2 : y = x
              · subst c2
                have := ih.2 t hft
                simp [lexLt, this]
              · have d1 : ¬ ((y : Int) < (x : Int)) := by omega
                have d2 : ¬ ((y : Int) = (x : Int)) := by omega
                simp [lexLt, d1, d2]
        · exfalso
          -- nothing is worth less than nothing
          have x0 : x = 0 := by
            unfold mxR at a2; simp only [Int.toNat_natCast] at a2; omega
          subst x0
          obtain ⟨r1, r2⟩ := hroom 0 (by omega) (by omega)
          have ih := find_spec hn q (takeR room ((u : Int), (w : Int)) ((0 : Nat) : Int)) (left - ((0 : Nat) : Int)) (fun p hp => hps p (by simp [hp])) r1 r2
          rw [hl] at ih
          obtain ⟨_, i2, _, i4⟩ := ih.1
          have := sum_nonneg l i2
          omega
      | none =>
        rw [hres] at hsf
        intro l' hf
        cases l' with
        | nil => have := hf.1; simp at this
        | cons y t =>
          obtain ⟨y0, y1, y2, y3⟩ := hmx y t hf
          obtain ⟨_, hft⟩ := (fits_cons hrl huw hw7).1 hf
          obtain ⟨y, rfl⟩ := Int.eq_ofNat_of_zero_le y0
          have h5 := hsf y (by omega) (by omega)
          simp only [Option.map_eq_none_iff] at h5
          obtain ⟨s1, s2⟩ := hroom y y2 y3
          have ih2 := find_spec hn q (takeR room ((u : Int), (w : Int)) y) (left - y) (fun p hp => hps p (by simp [hp])) s1 s2
          rw [h5] at ih2
          exact ih2 t hft
theorem find_shares {n : Nat} {ps : List (Int × Int)} (hn1 : 1 ≤ n) (hn : n ≤ 7) (hps : ∀ p ∈ ps, 0 ≤ p.1 ∧ p.1 < p.2 ∧ p.2 < (n : Int)) (h7 : ∀ p ∈ ps, okP p) (hnd : ps.Nodup) : findL n ps (List.replicate 7 2) (sumL (halvesV n ps)) = some (sharesR n ps) := by
  have hw := shares_worth hn1 hn hps h7 hnd
  obtain ⟨h1, h2⟩ := sharesR_in (n := n) (ps := ps)
  have hrep : ∀ a : Nat, (List.replicate 7 (2 : Int)).getD a 0 = if a < 7 then 2 else 0 := by
    intro a; rw [List.getD_eq_getElem?_getD, List.getElem?_replicate]; split <;> simp
  have hiff : ∀ l, Fits ps (List.replicate 7 2) (sumL (halvesV n ps)) l ↔ l ∈ shF n ps ps.length [] ∧ sumL l = sumL (halvesV n ps) := by
    intro l
    rw [mem_shF ps.length [] l (by simp)]
    constructor
    · rintro ⟨a1, a2, a3, a4⟩
      refine ⟨⟨l, rfl, a1, fun x hx => ⟨a2 x hx, ?_⟩, .inr ?_⟩, a4⟩
      · -- no share is more than 2
        obtain ⟨i, hi, rfl⟩ := List.getElem_of_mem hx
        have hip : i < ps.length := by omega
        have hpi := hps ps[i] (List.getElem_mem hip)
        have h3 := a3 ps[i].1.toNat
        rw [hrep, if_pos (by omega)] at h3
        have hmem : (ps[i], l[i]) ∈ ps.zip l := by
          have : (ps.zip l)[i]'(by rw [List.length_zip]; omega) = (ps[i], l[i]) := by simp
          rw [← this]; exact List.getElem_mem _
        have : ∀ (z : List ((Int × Int) × Int)) (e : (Int × Int) × Int), e ∈ z → (∀ e ∈ z, 0 ≤ e.2) → e.2 ≤ loadOf z e.1.1 := by
          intro z
          induction z with
          | nil => intro e he _; simp at he
          | cons c z ih =>
            intro e he hz
            have hc := hz c (by simp)
            have hz2 := load_nonneg e.1.1 z (fun x hx => hz x (by simp [hx]))
            simp only [loadOf]
            rcases List.mem_cons.1 he with rfl | he
            · rw [if_pos (.inl rfl)]; omega
            · have := ih e he (fun x hx => hz x (by simp [hx]))
              split <;> omega
        have h4 := this _ _ hmem (zip_snd a2)
        have e5 : ((ps[i].1.toNat : Nat) : Int) = ps[i].1 := by omega
        rw [e5] at h3
        simp only at h4; omega
      · cases ho : overFrom (ps.zip l) n 0
        · rfl
        · obtain ⟨a, ha, h5⟩ := (over_iff _).1 ho
          have := a3 a
          rw [hrep, if_pos (by omega)] at this
          omega
    · rintro ⟨⟨t, e, a1, a2, a3⟩, a4⟩
      rw [List.nil_append] at e; subst e
      refine ⟨a1, fun x hx => (a2 x hx).1, fun a => ?_, a4⟩
      rw [hrep]
      by_cases ha : a < n
      · rw [if_pos (by omega)]
        rcases a3 with a3 | a3
        · have : ps = [] := List.eq_nil_of_length_eq_zero a3
          subst this; simp [loadOf]
        · by_cases h5 : 2 < loadOf (ps.zip l) (a : Int)
          · have := (over_iff (n := n) (ps.zip l)).2 ⟨a, ha, h5⟩
            rw [a3] at this; simp at this
          · omega
      · rw [load_out _ a (by omega) (zip_ok hps l)]; split <;> omega
  have hs := find_spec hn ps (List.replicate 7 2) (sumL (halvesV n ps)) hps (by simp) (by intro x hx; rw [List.mem_replicate] at hx; omega)
  have hfit : Fits ps (List.replicate 7 2) (sumL (halvesV n ps)) (sharesR n ps) := (hiff _).2 ⟨h1, hw⟩
  cases hf : findL n ps (List.replicate 7 2) (sumL (halvesV n ps)) with
  | none => rw [hf] at hs; exact absurd hfit (hs _)
  | some l =>
    rw [hf] at hs
    obtain ⟨k1, k2⟩ := (hiff l).1 hs.1
    have g1 := hs.2 _ hfit
    have g2 := (h2 l k1).2 (by omega)
    rw [lex_total _ _ g2 g1]


theorem group_take : ∀ (o : List Int) (cs : List AV), cs.take o.length = o.map I → group false 1 o.length (pubs cs) = o.map I
  | [], _, _ => rfl
  | x :: o, [], h => by simp at h
  | x :: o, c :: cs, h => by
    simp only [List.length_cons, List.take_succ_cons, List.map_cons, List.cons.injEq] at h
    obtain ⟨rfl, h⟩ := h
    have ih := group_take o cs h
    simp only [List.length_cons, group, pubs, List.map_cons, pub]
    simp [ih, cell1]
theorem frz_out {J : List (List AV)} {o : List Int} {v : AV} (h : Rep J o v) (B0 : List AV) (room : List Int) (env : Env) (he : env.get 6 = .ptr 1 0) :
    ∃ (env' : Env) (st' : St) (nl : Bool), frzAV [6] env (S4 B0 v room J) = (env', st') ∧ env'.get 6 = .ptr 1 0 ∧ st'.store[1]? = some [sl 1 nl (o.map I)] := by
  rcases h with ⟨rfl, rfl⟩ | ⟨l, c, cs, rfl, h1, h2, h3, h4, h5⟩
  · refine ⟨env, S4 B0 (.v (.slice none 0 0)) room J, true, ?_, he, rfl⟩
    simp only [frzAV, frzT, he]
    rfl
  · cases cs with
    | nil => simp at h4; omega
    | cons c0 cs =>
      have hg : (S4 B0 (.rsl (l + 4) 0 o.length c 1 false) room J).store[l + 4]? = some (c0 :: cs) := h1
      refine ⟨frzEnv (l + 4) (c0 :: cs) env, ⟨(frzStore (l + 4) (c0 :: cs) (S4 B0 (.rsl (l + 4) 0 o.length c 1 false) room J).store).set (l + 4) [], []⟩, false, ?_, ?_, ?_⟩
      · have e1 : frzT 6 env (S4 B0 (.rsl (l + 4) 0 o.length c 1 false) room J) = [l + 4] := by
          simp only [frzT, he]; rfl
        simp only [frzAV, e1, frzLs, frzL, hg]
      · rw [frzEnv_get, he]; rfl
      · have e2 : (frzStore (l + 4) (c0 :: cs) (S4 B0 (.rsl (l + 4) 0 o.length c 1 false) room J).store)[1]? = some [frzV (l + 4) (c0 :: cs) (.rsl (l + 4) 0 o.length c 1 false)] := rfl
        rw [List.getElem?_set_ne (by omega), e2]
        have e3 : frzV (l + 4) (c0 :: cs) (.rsl (l + 4) 0 o.length c 1 false) = .lst .any 1 (o.map I) := by
          simp only [frzV]
          rw [if_pos ⟨trivial, by omega, .inr trivial, h3⟩, List.drop_zero, group_take o _ h2]
        rw [e3, sl_false]

theorem loop87_0 (nl : Bool) (n : Int) (ps : List (Int × Int)) (l : List Int) (hlen : l.length < 1000) (hb : ∀ x ∈ l, 0 ≤ x ∧ x ≤ 2) (i : Nat) (acc : Int) (hok : i ≤ l.length ∧ 0 ≤ acc ∧ acc ≤ 2 * i) (env : Env) (st : St)
    (hg : gcAV true 1 0 (canon env [1, 3, 11, 12, 13]) st = ([(1, .ptr 0 0), (3, I acc), (11, sl 1 true (l.map I)), (12, I l.length), (13, I i)], ⟨[bkCells nl n ps], []⟩)) :
    ∃ x_1 en s, lim (headed pure (run L) true [1, 3, 11, 12, 13] lp87_0 1 0) env st = some (x_1, en, s) ∧ (x_1 = .exit 0 ∧ en.get 1 = .ptr 0 0 ∧ en.get 3 = I (acc + sumL (l.drop i)) ∧ s = ⟨[bkCells nl n ps], []⟩) := by
  refine loop_wp (α := Nat × Int) (fun ⟨i, acc⟩ => l.length - i) (fun ⟨i, acc⟩ => i ≤ l.length ∧ 0 ≤ acc ∧ acc ≤ 2 * i) (fun ⟨i, acc⟩ => ([(1, .ptr 0 0), (3, I acc), (11, sl 1 true (l.map I)), (12, I l.length), (13, I i)], ⟨[bkCells nl n ps], []⟩)) (fun ⟨i, acc⟩ x_1 en s => x_1 = .exit 0 ∧ en.get 1 = .ptr 0 0 ∧ en.get 3 = I (acc + sumL (l.drop i)) ∧ s = ⟨[bkCells nl n ps], []⟩) (fun ⟨i, acc⟩ hok => ?_) ⟨i, acc⟩ hok env st hg
  simp only at hok
  obtain ⟨h1, h2, h3⟩ := hok
  dsimp only
  by_cases h : i < l.length
  · have hx := index_ints true l i h
    have hs := succ64 i (by omega)
    have hd : l.drop i = l[i] :: l.drop (i + 1) := List.drop_eq_getElem_cons h
    have hlt : ((i : Int) < (l.length : Int)) = True := eq_true (by omega)
    have hbi := hb l[i] (List.getElem_mem h)
    rw [hd]
    generalize l[i] = a at *
    have hw : IntKind.i64.wrap (acc + a) = acc + a := by rw [wrap64] <;> omega
    simp only [go_sem, reduceIte, Nat.reduceEqDiff, Nat.reduceAdd, Nat.reduceSub, Nat.reduceLeDiff, Nat.reduceLT, reduceCtorEq, Int.reduceLT, Int.reduceLE, Int.reduceEq, Int.reduceBEq, Int.reduceSub, Int.reduceAdd, Int.reduceMul, Int.reduceNeg, Int.reduceToNat, Nat.reduceMul, Nat.reduceBEq, index_rsl_if, setm, make_ints, condK_dec, wantK_dec, not_dec, and_dec, or_dec, seqK_ite, seqK_none, blockK_ite, blockK_none, opsK_ite, opsK_none, stepK_ite, stepK_none, bodyK_ite, bodyK_none, resK_ite, resK_none, leaveK_ite, leaveK_none, only_ite, only_none, bind_ite, gives_some, gives_none, gives_ite, then_normal, then_ret, then_exit, then_none, then_ite, Option.bind_none, Bool.not_eq_true', decide_eq_false_iff_not, Bool.and_eq_true, Bool.or_eq_true, Option.some.injEq, Int.not_lt, Int.not_le, lp87_0, hx, hlt, hs, hw]
    refine ⟨(i + 1, acc + a), by simp only [go_sem, reduceIte, Nat.reduceEqDiff, Nat.reduceAdd, Nat.reduceSub, Nat.reduceLeDiff, Nat.reduceLT, reduceCtorEq, Int.reduceLT, Int.reduceLE, Int.reduceEq, Int.reduceBEq, Int.reduceSub, Int.reduceAdd, Int.reduceMul, Int.reduceNeg, Int.reduceToNat, Nat.reduceMul, Nat.reduceBEq, ren1_locm, loc_tips, locT_eq] <;> rfl, ?_, ?_, fun x en s hq => ?_⟩
    · dsimp only; exact ⟨by omega, by omega, by omega⟩
    · simp only; omega
    · simp only [sumL]; rw [← Int.add_assoc]; exact hq
  · have hd : l.drop i = [] := List.drop_eq_nil_of_le (by omega)
    have hlt : ((i : Int) < (l.length : Int)) = False := eq_false (by omega)
    simp only [go_sem, reduceIte, Nat.reduceEqDiff, Nat.reduceAdd, Nat.reduceSub, Nat.reduceLeDiff, Nat.reduceLT, reduceCtorEq, Int.reduceLT, Int.reduceLE, Int.reduceEq, Int.reduceBEq, Int.reduceSub, Int.reduceAdd, Int.reduceMul, Int.reduceNeg, Int.reduceToNat, Nat.reduceMul, Nat.reduceBEq, index_rsl_if, setm, make_ints, condK_dec, wantK_dec, not_dec, and_dec, or_dec, seqK_ite, seqK_none, blockK_ite, blockK_none, opsK_ite, opsK_none, stepK_ite, stepK_none, bodyK_ite, bodyK_none, resK_ite, resK_none, leaveK_ite, leaveK_none, only_ite, only_none, bind_ite, gives_some, gives_none, gives_ite, then_normal, then_ret, then_exit, then_none, then_ite, Option.bind_none, Bool.not_eq_true', decide_eq_false_iff_not, Bool.and_eq_true, Bool.or_eq_true, Option.some.injEq, Int.not_lt, Int.not_le, lp87_0, hlt]
    rw [hd]; simp [sumL]

def roomTo (a : Nat) : List Int := List.replicate a 2 ++ List.replicate (7 - a) 0
theorem roomTo_set (a : Nat) (h : a < 7) : (roomTo a).set a 2 = roomTo (a + 1) := by
  unfold roomTo
  rw [List.set_append, if_neg (by simp), List.length_replicate, Nat.sub_self, show 7 - a = (7 - (a + 1)) + 1 by omega, List.replicate_succ, List.set_cons_zero]
  rw [show List.replicate (a + 1) (2 : Int) = List.replicate a 2 ++ [2] from List.replicate_succ']
  simp
theorem loop87_1 (nl : Bool) (n : Int) (ps : List (Int × Int)) (goal : Int) (a : Nat) (hok : a ≤ 7) (env : Env) (st : St)
    (hg : gcAV true 3 0 (canon env [1, 3, 6, 7, 21]) st = ([(1, .ptr 0 0), (3, I goal), (6, .ptr 1 0), (7, .ptr 2 0), (21, I a)], ⟨[bkCells nl n ps, [.v (.slice none 0 0)], (roomTo a).map I], []⟩)) :
    ∃ x_1 en s, lim (headed pure (run L) true [1, 3, 6, 7, 21] lp87_1 3 0) env st = some (x_1, en, s) ∧ (x_1 = .exit 2 ∧ en.get 1 = .ptr 0 0 ∧ en.get 3 = I goal ∧ en.get 6 = .ptr 1 0 ∧ en.get 7 = .ptr 2 0 ∧ s = ⟨[bkCells nl n ps, [.v (.slice none 0 0)], (List.replicate 7 2).map I], []⟩) := by
  refine loop_wp (α := Nat) (fun a => 7 - a) (fun a => a ≤ 7) (fun a => ([(1, .ptr 0 0), (3, I goal), (6, .ptr 1 0), (7, .ptr 2 0), (21, I a)], ⟨[bkCells nl n ps, [.v (.slice none 0 0)], (roomTo a).map I], []⟩)) (fun a x_1 en s => x_1 = .exit 2 ∧ en.get 1 = .ptr 0 0 ∧ en.get 3 = I goal ∧ en.get 6 = .ptr 1 0 ∧ en.get 7 = .ptr 2 0 ∧ s = ⟨[bkCells nl n ps, [.v (.slice none 0 0)], (List.replicate 7 2).map I], []⟩) (fun a hok => ?_) a hok env st hg
  by_cases h : a < 7
  · have hs := succ64 a (by omega)
    have hlt : ((a : Int) < 7) = True := eq_true (by omega)
    have ha0 : ((0 : Int) ≤ (a : Int)) = True := eq_true (by omega)
    have hl : (roomTo a).length = 7 := by unfold roomTo; simp; omega
    have hset := roomTo_set a h
    have hb : (a + 1 ≤ 7) = True := eq_true (by omega)
    have hsm : ((roomTo a).map I).set a (.v (.int .i64 2)) = (roomTo (a + 1)).map I := by rw [← hset, List.map_set]
    simp only [go_sem, reduceIte, Nat.reduceEqDiff, Nat.reduceAdd, Nat.reduceSub, Nat.reduceLeDiff, Nat.reduceLT, reduceCtorEq, Int.reduceLT, Int.reduceLE, Int.reduceEq, Int.reduceBEq, Int.reduceSub, Int.reduceAdd, Int.reduceMul, Int.reduceNeg, Int.reduceToNat, Nat.reduceMul, Nat.reduceBEq, index_rsl_if, setm, make_ints, condK_dec, wantK_dec, not_dec, and_dec, or_dec, seqK_ite, seqK_none, blockK_ite, blockK_none, opsK_ite, opsK_none, stepK_ite, stepK_none, bodyK_ite, bodyK_none, resK_ite, resK_none, leaveK_ite, leaveK_none, only_ite, only_none, bind_ite, gives_some, gives_none, gives_ite, then_normal, then_ret, then_exit, then_none, then_ite, Option.bind_none, Bool.not_eq_true', decide_eq_false_iff_not, Bool.and_eq_true, Bool.or_eq_true, Option.some.injEq, Int.not_lt, Int.not_le, lp87_1, hlt, ha0, hs, hl, hb, hsm, List.length_map]
    refine ⟨a + 1, by simp only [go_sem, reduceIte, Nat.reduceEqDiff, Nat.reduceAdd, Nat.reduceSub, Nat.reduceLeDiff, Nat.reduceLT, reduceCtorEq, Int.reduceLT, Int.reduceLE, Int.reduceEq, Int.reduceBEq, Int.reduceSub, Int.reduceAdd, Int.reduceMul, Int.reduceNeg, Int.reduceToNat, Nat.reduceMul, Nat.reduceBEq, ren1_locm, loc_tips, locT_eq] <;> rfl, ?_, ?_, fun x en s hq => ?_⟩
    · omega
    · omega
    · exact hq
  · obtain rfl : a = 7 := by omega
    simp only [go_sem, reduceIte, Nat.reduceEqDiff, Nat.reduceAdd, Nat.reduceSub, Nat.reduceLeDiff, Nat.reduceLT, reduceCtorEq, Int.reduceLT, Int.reduceLE, Int.reduceEq, Int.reduceBEq, Int.reduceSub, Int.reduceAdd, Int.reduceMul, Int.reduceNeg, Int.reduceToNat, Nat.reduceMul, Nat.reduceBEq, index_rsl_if, setm, make_ints, condK_dec, wantK_dec, not_dec, and_dec, or_dec, seqK_ite, seqK_none, blockK_ite, blockK_none, opsK_ite, opsK_none, stepK_ite, stepK_none, bodyK_ite, bodyK_none, resK_ite, resK_none, leaveK_ite, leaveK_none, only_ite, only_none, bind_ite, gives_some, gives_none, gives_ite, then_normal, then_ret, then_exit, then_none, then_ite, Option.bind_none, Bool.not_eq_true', decide_eq_false_iff_not, Bool.and_eq_true, Bool.or_eq_true, Option.some.injEq, Int.not_lt, Int.not_le, lp87_1, show (((7 : Nat) : Int) < 7) = False from eq_false (by omega)]
    rfl

theorem c87 (nl : Bool) (n : Nat) (hn1 : 1 ≤ n) (hn : n ≤ 7) (ps : List (Int × Int)) (hlen : ps.length ≤ 10) (hps : ∀ p ∈ ps, 0 ≤ p.1 ∧ p.1 < p.2 ∧ p.2 < (n : Int)) (h7 : ∀ p ∈ ps, okP p) (hnd : ps.Nodup) :
    ∃ n2 : Bool, ∀ st, run L 87 [bkAV nl n ps] st = some (sl 1 n2 ((sharesR n ps).map I), st) := by
  have h81 := fun st => c81 nl n hn1 hn ps (by omega) hps h7 st
  obtain ⟨hvl, hvb, _⟩ := halvesV_ok hn1 hn hps h7
  obtain ⟨c0, c1⟩ := half_le hn1 hn hps h7
  have hfs := find_shares hn1 hn hps h7 hnd
  obtain ⟨b, room', v', J', hrun, hF, hm⟩ := does nl n hn ps hlen hps ps.length 0 (by omega) (List.replicate 7 2) (by simp) (by intro x hx; rw [List.mem_replicate] at hx; omega) (sumL (halvesV n ps)) c0 (by omega) [] (by simp) (.v (.slice none 0 0)) [] (.inl ⟨rfl, rfl⟩)
  rw [List.drop_zero, hfs] at hm
  obtain ⟨rfl, hR, _⟩ := hm
  rw [List.nil_append] at hR
  have main : ∃ n2 : Bool, run L 87 [bkAV nl n ps] ⟨[], []⟩ = some (sl 1 n2 ((sharesR n ps).map I), ⟨[], []⟩) := by
    rw [run_pure (fn := ir87) rfl rfl]
    have hw := fun (acc : Int) => acc
    simp only [ir87, go_sem, reduceIte, Nat.reduceEqDiff, Nat.reduceAdd, Nat.reduceSub, Nat.reduceLeDiff, Nat.reduceLT, reduceCtorEq, Int.reduceLT, Int.reduceLE, Int.reduceEq, Int.reduceBEq, Int.reduceSub, Int.reduceAdd, Int.reduceMul, Int.reduceNeg, Int.reduceToNat, Nat.reduceMul, Nat.reduceBEq, h81, List.length_map]
    generalize hg : lim (headed pure (run L) true _ lp87_0 _ _) _ _ = o
    obtain ⟨x, en, s, rfl, h2⟩ : ∃ x en s, o = some (x, en, s) ∧ _ := by rw [← hg]; exact loop87_0 nl n ps (halvesV n ps) (by omega) hvb 0 0 ⟨by omega, by omega, by omega⟩ _ _ (by simp only [go_sem, reduceIte, Nat.reduceEqDiff, Nat.reduceAdd, Nat.reduceSub, Nat.reduceLeDiff, Nat.reduceLT, reduceCtorEq, Int.reduceLT, Int.reduceLE, Int.reduceEq, Int.reduceBEq, Int.reduceSub, Int.reduceAdd, Int.reduceMul, Int.reduceNeg, Int.reduceToNat, Nat.reduceMul, Nat.reduceBEq, Int.natCast_zero] <;> rfl)
    clear hg
    obtain ⟨rfl, e1, e3, rfl⟩ := h2
    rw [List.drop_zero, Int.zero_add] at e3
    simp only [go_sem, reduceIte, Nat.reduceEqDiff, Nat.reduceAdd, Nat.reduceSub, Nat.reduceLeDiff, Nat.reduceLT, reduceCtorEq, Int.reduceLT, Int.reduceLE, Int.reduceEq, Int.reduceBEq, Int.reduceSub, Int.reduceAdd, Int.reduceMul, Int.reduceNeg, Int.reduceToNat, Nat.reduceMul, Nat.reduceBEq, e1, e3]
    generalize hg : lim (headed pure (run L) true _ lp87_1 _ _) _ _ = o
    obtain ⟨x, en, s, rfl, h2⟩ : ∃ x en s, o = some (x, en, s) ∧ _ := by rw [← hg]; exact loop87_1 nl n ps (sumL (halvesV n ps)) 0 (by omega) _ _ (by simp only [go_sem, reduceIte, Nat.reduceEqDiff, Nat.reduceAdd, Nat.reduceSub, Nat.reduceLeDiff, Nat.reduceLT, reduceCtorEq, Int.reduceLT, Int.reduceLE, Int.reduceEq, Int.reduceBEq, Int.reduceSub, Int.reduceAdd, Int.reduceMul, Int.reduceNeg, Int.reduceToNat, Nat.reduceMul, Nat.reduceBEq, e1, e3, roomTo, Nat.sub_zero, List.map_append, List.map_replicate, Int.natCast_zero] <;> rfl)
    clear hg
    obtain ⟨rfl, f1, f3, f6, f7, rfl⟩ := h2
    have hrun2 : run L 112 [.v (.int .i64 0), I (sumL (halvesV n ps)), .ptr 0 0, .ptr 2 0, .ptr 1 0, .ptr 3 0] ⟨[bkCells nl n ps, [.v (.slice none 0 0)], [I 2, I 2, I 2, I 2, I 2, I 2, I 2], [fnPut]], []⟩ = some (B true, S4 (bkCells nl n ps) v' room' J') := hrun
    simp only [go_sem, reduceIte, Nat.reduceEqDiff, Nat.reduceAdd, Nat.reduceSub, Nat.reduceLeDiff, Nat.reduceLT, reduceCtorEq, Int.reduceLT, Int.reduceLE, Int.reduceEq, Int.reduceBEq, Int.reduceSub, Int.reduceAdd, Int.reduceMul, Int.reduceNeg, Int.reduceToNat, Nat.reduceMul, Nat.reduceBEq, f1, f3, f6, f7, show pure 112 = false from rfl, hrun2, code_frz]
    generalize hE : frzAV [6] _ _ = fz
    obtain ⟨env', st', n2, rfl, g6, gst⟩ : ∃ (env' : Env) (st' : St) (n2 : Bool), fz = (env', st') ∧ env'.get 6 = .ptr 1 0 ∧ st'.store[1]? = some [sl 1 n2 ((sharesR n ps).map I)] := by
      rw [← hE]; exact frz_out hR _ _ _ (by simp only [go_sem, reduceIte, Nat.reduceEqDiff, Nat.reduceAdd, Nat.reduceSub, Nat.reduceLeDiff, Nat.reduceLT, reduceCtorEq, Int.reduceLT, Int.reduceLE, Int.reduceEq, Int.reduceBEq, Int.reduceSub, Int.reduceAdd, Int.reduceMul, Int.reduceNeg, Int.reduceToNat, Nat.reduceMul, Nat.reduceBEq, f6])
    exact ⟨n2, by simp only [go_sem, reduceIte, Nat.reduceEqDiff, Nat.reduceAdd, Nat.reduceSub, Nat.reduceLeDiff, Nat.reduceLT, reduceCtorEq, Int.reduceLT, Int.reduceLE, Int.reduceEq, Int.reduceBEq, Int.reduceSub, Int.reduceAdd, Int.reduceMul, Int.reduceNeg, Int.reduceToNat, Nat.reduceMul, Nat.reduceBEq, g6, gst]⟩
  obtain ⟨n2, h⟩ := main
  exact ⟨n2, fun st => run_any' (fn := ir87) rfl rfl h st⟩


/-! ### the law's own search for shares -/
def ListV (v : AV) (l : List Int) : Prop := (l = [] ∧ v = .v (.slice none 0 0)) ∨ ∃ g : Tag, v = .lst g 1 (l.map I)
theorem listV_snoc {v : AV} {l : List Int} (h : ListV v l) (hl : l.length < 1000) (x : Int) (T : List Nat) : lenAV v = some (I l.length) ∧ v.shaped = true ∧ v.cells = [v] ∧ storable v = true ∧ ∃ (c : AV) (v2 : AV) (T2 : List Nat),
    sliceAV 1 v none (some (I l.length)) (some (I l.length)) = some c ∧ (∀ S, appendAV 1 c [I x] ⟨S, T⟩ = some (v2, ⟨S, T2⟩)) ∧ ListV v2 (l ++ [x]) := by
  rcases h with ⟨rfl, rfl⟩ | ⟨g, rfl⟩
  · refine ⟨rfl, rfl, rfl, rfl, .v (.slice none 0 0), .lst (.own T.length 1) 1 [I x], T ++ [1], rfl, fun S => by simp [appendAV, maxGrow], .inr ⟨_, rfl⟩⟩
  · have hm : l.length + 1 ≤ maxGrow := by unfold maxGrow; omega
    refine ⟨by rw [len_lst]; simp, rfl, rfl, rfl, .lst .full 1 (l.map I), .lst (.own T.length (l.length + 1)) 1 ((l ++ [x]).map I), T ++ [l.length + 1], ?_, fun S => ?_, .inr ⟨_, rfl⟩⟩
    · simp only [sliceAV, natOr, natOf]
      simp [List.take_of_length_le]
    · simp [appendAV, hm]
theorem listV_st {v : AV} {l : List Int} (h : ListV v l) : lenAV v = some (I l.length) ∧ v.shaped = true ∧ v.cells = [v] ∧ storable v = true := by
  rcases h with ⟨rfl, rfl⟩ | ⟨g, rfl⟩
  · exact ⟨rfl, rfl, rfl, rfl⟩
  · exact ⟨by rw [len_lst]; simp, rfl, rfl, rfl⟩

def stepM (s : List Int × Int) (l : List Int) (nn : Int) : List Int × Int := if s.2 < nn then (l, nn) else s
def shC : List (Int × Int) → List Int → List Int → Int → List Int × Int → List Int × Int
  | [], l, _, nn, s => stepM s l nn
  | p :: q, l, has, nn, s => (List.range' 0 3).foldl (fun s (x : Nat) => if max ((has1 has (p, (x : Int))).getD p.1.toNat 0) ((has1 has (p, (x : Int))).getD p.2.toNat 0) ≤ 2 then shC q (l ++ [(x : Int)]) (has1 has (p, (x : Int))) (nn + x) s else s) s
abbrev fnP47 : AV := .fn (.func 47) [] [.ptr 1 0, .ptr 3 0, .ptr 2 0, .ptr 4 0]
abbrev S5 (Q B0 : List AV) (bv : AV) (most : Int) (J : List (List AV)) (T : List Nat) : St := ⟨Q :: B0 :: [bv] :: [I most] :: [fnP47] :: J, T⟩
/-- What the search does. -/
def Does47 (Q : List AV) (n : Int) (ps : List (Int × Int)) (k : Nat) : Prop := ∀ (l : List Int) (lv : AV), ListV lv l → l.length + k = ps.length → ∀ (has : List Int), has.length = 7 → (∀ x ∈ has, 0 ≤ x ∧ x ≤ 2) → ∀ (nn : Int), 0 ≤ nn → nn ≤ 2 * l.length → ∀ (best : List Int) (bv : AV) (most : Int), ListV bv best → ∀ (J : List (List AV)) (T : List Nat),
  ∃ (r : AV) (bv' : AV) (K : List (List AV)) (T' : List Nat), run L 47 [lv, .agg (has.map I), I nn, .ptr 1 0, .ptr 3 0, .ptr 2 0, .ptr 4 0] (S5 Q (bkCells true n ps) bv most J T) = some (r, S5 Q (bkCells true n ps) bv' (shC (ps.drop l.length) l has nn (best, most)).2 (J ++ K) T') ∧ ListV bv' (shC (ps.drop l.length) l has nn (best, most)).1

set_option maxHeartbeats 4000000 in
theorem loop47 (Q : List AV) (n : Int) (ps : List (Int × Int)) (hlen : ps.length ≤ 10) (k : Nat) (l : List Int) (lv : AV) (hlv : ListV lv l) (hlk : l.length + (k + 1) = ps.length) (u w : Nat) (huw : u < w) (hw7 : w < 7) (has : List Int) (hhl : has.length = 7) (hhb : ∀ x ∈ has, 0 ≤ x ∧ x ≤ 2) (nn : Int) (hn0 : 0 ≤ nn) (hn1 : nn ≤ 2 * l.length) (hrec : Does47 Q n ps k) (h : Nat) (J1 : List (List AV)) (hJh : J1[h]? = some (has.map I)) (hJp : J1[h + 1]? = some [I u, I w]) (lo hi : Nat) (x : Nat) (best : List Int) (bv : AV) (most : Int) (X : List (List AV)) (T : List Nat) (hok : x ≤ 3 ∧ ListV bv best ∧ ∃ K, X = J1 ++ K) (env : Env) (st : St)
    (hg : gcAV false lo hi (canon env [0, 2, 6, 8, 10, 30]) st = ([(0, lv), (2, I nn), (6, .ptr 4 0), (8, .ptr (h + 5) 0), (10, .ptr (h + 6) 0), (30, I x)], S5 Q (bkCells true n ps) bv most X T)) :
    ∃ x_1 en s, lim (headed pure (run L) false [0, 2, 6, 8, 10, 30] lp47_0 lo hi) env st = some (x_1, en, s) ∧ (x_1 = .exit 0 ∧ ∃ bv' K T', s = S5 Q (bkCells true n ps) bv' ((List.range' x (3 - x)).foldl (fun s (x : Nat) => if max ((has1 has (((u : Int), (w : Int)), (x : Int))).getD u 0) ((has1 has (((u : Int), (w : Int)), (x : Int))).getD w 0) ≤ 2 then shC (ps.drop (l.length + 1)) (l ++ [(x : Int)]) (has1 has (((u : Int), (w : Int)), (x : Int))) (nn + x) s else s) (best, most)).2 (J1 ++ K) T' ∧ ListV bv' ((List.range' x (3 - x)).foldl (fun s (x : Nat) => if max ((has1 has (((u : Int), (w : Int)), (x : Int))).getD u 0) ((has1 has (((u : Int), (w : Int)), (x : Int))).getD w 0) ≤ 2 then shC (ps.drop (l.length + 1)) (l ++ [(x : Int)]) (has1 has (((u : Int), (w : Int)), (x : Int))) (nn + x) s else s) (best, most)).1) := by
  refine loop_wp (α := Nat × List Int × AV × Int × List (List AV) × List Nat) (fun ⟨x, best, bv, most, X, T⟩ => 3 - x) (fun ⟨x, best, bv, most, X, T⟩ => x ≤ 3 ∧ ListV bv best ∧ ∃ K, X = J1 ++ K) (fun ⟨x, best, bv, most, X, T⟩ => ([(0, lv), (2, I nn), (6, .ptr 4 0), (8, .ptr (h + 5) 0), (10, .ptr (h + 6) 0), (30, I x)], S5 Q (bkCells true n ps) bv most X T)) (fun ⟨x, best, bv, most, X, T⟩ x_1 en s => x_1 = .exit 0 ∧ ∃ bv' K T', s = S5 Q (bkCells true n ps) bv' ((List.range' x (3 - x)).foldl (fun s (x : Nat) => if max ((has1 has (((u : Int), (w : Int)), (x : Int))).getD u 0) ((has1 has (((u : Int), (w : Int)), (x : Int))).getD w 0) ≤ 2 then shC (ps.drop (l.length + 1)) (l ++ [(x : Int)]) (has1 has (((u : Int), (w : Int)), (x : Int))) (nn + x) s else s) (best, most)).2 (J1 ++ K) T' ∧ ListV bv' ((List.range' x (3 - x)).foldl (fun s (x : Nat) => if max ((has1 has (((u : Int), (w : Int)), (x : Int))).getD u 0) ((has1 has (((u : Int), (w : Int)), (x : Int))).getD w 0) ≤ 2 then shC (ps.drop (l.length + 1)) (l ++ [(x : Int)]) (has1 has (((u : Int), (w : Int)), (x : Int))) (nn + x) s else s) (best, most)).1) (fun ⟨x, best, bv, most, X, T⟩ hok => ?_) ⟨x, best, bv, most, X, T⟩ hok env st hg
  simp only at hok
  obtain ⟨h1, hbv, K0, hX⟩ := hok
  dsimp only at h1 hbv hX ⊢
  by_cases hx3 : x < 3
  · have hs := succ64 x (by omega)
    have hlt : ((x : Int) < 3) = True := eq_true (by omega)
    rw [show 3 - x = (3 - (x + 1)) + 1 by omega, List.range'_succ, List.foldl_cons]
    have gh : X[h]? = some (has.map I) := by rw [hX, List.getElem?_append_left (List.getElem?_eq_some_iff.1 hJh).1]; exact hJh
    have gp : X[h + 1]? = some [I u, I w] := by rw [hX, List.getElem?_append_left (List.getElem?_eq_some_iff.1 hJp).1]; exact hJp
    have gh2 : ∀ c : List AV, (X ++ [c])[h]? = some (has.map I) := fun c => by rw [List.getElem?_append_left (List.getElem?_eq_some_iff.1 gh).1]; exact gh
    have gp2 : ∀ c : List AV, (X ++ [c])[h + 1]? = some [I u, I w] := fun c => by rw [List.getElem?_append_left (List.getElem?_eq_some_iff.1 gp).1]; exact gp
    have hgl : ∀ c : List AV, (X ++ [c])[X.length]? = some c := fun c => by simp
    have hsl : ∀ c c2 : List AV, (X ++ [c]).set X.length c2 = X ++ [c2] := fun c c2 => by simp
    have htk : (has.map I).take 7 = has.map I := List.take_of_length_le (by simp [hhl])
    have hput : putCells [AV.v (.int .i64 0), AV.v (.int .i64 0), AV.v (.int .i64 0), AV.v (.int .i64 0), AV.v (.int .i64 0), AV.v (.int .i64 0), AV.v (.int .i64 0)] 0 (has.map I) = has.map I := by
      obtain ⟨a, b, c, d, f, g, k, h6⟩ := len_seven hhl
      rw [h6]; rfl
    have bu := getD_bd (B := 2) (by omega) hhb u
    have bw := getD_bd (B := 2) (by omega) hhb w
    have gu := getI has u (by omega)
    have hA1 := addAt_getD has u (x : Int) w (by omega)
    rw [if_neg (by omega)] at hA1
    have gw := getI (addAt has u (x : Int)) w (by rw [addAt_len]; omega)
    rw [hA1] at gw
    have hAl := addAt_len has u (x : Int)
    rw [hhl] at hAl
    have hset1 : has.set u (has.getD u 0 + x) = addAt has u (x : Int) := rfl
    have hset2 : (addAt has u (x : Int)).set w (has.getD w 0 + x) = has1 has (((u : Int), (w : Int)), (x : Int)) := by rw [← hA1]; rfl
    have hH : has1 has (((u : Int), (w : Int)), (x : Int)) = addAt (addAt has u (x : Int)) w (x : Int) := rfl
    have hHl : (has1 has (((u : Int), (w : Int)), (x : Int))).length = 7 := by rw [has1_len, hhl]
    have hHu : (has1 has (((u : Int), (w : Int)), (x : Int))).getD u 0 = has.getD u 0 + x := by
      rw [hH, addAt_getD _ _ _ _ (by omega), if_neg (by omega), addAt_getD _ _ _ _ (by omega), if_pos rfl]
    have hHw : (has1 has (((u : Int), (w : Int)), (x : Int))).getD w 0 = has.getD w 0 + x := by
      rw [hH, addAt_getD _ _ _ _ (by omega), if_pos rfl, hA1]
    have gu3 := getI (has1 has (((u : Int), (w : Int)), (x : Int))) u (by omega)
    have gw3 := getI (has1 has (((u : Int), (w : Int)), (x : Int))) w (by omega)
    have htk3 : ((has1 has (((u : Int), (w : Int)), (x : Int))).map I).take 7 = (has1 has (((u : Int), (w : Int)), (x : Int))).map I := List.take_of_length_le (by simp [hHl])
    have w1 : IntKind.i64.wrap (has.getD u 0 + x) = has.getD u 0 + x := by rw [wrap64] <;> omega
    have w2 : IntKind.i64.wrap (has.getD w 0 + x) = has.getD w 0 + x := by rw [wrap64] <;> omega
    have w3 : IntKind.i64.wrap (nn + x) = nn + x := by rw [wrap64] <;> omega
    have b1 : ((0 : Int) ≤ (u : Int)) = True := eq_true (by omega)
    have b2 : ((u : Int) < 7) = True := eq_true (by omega)
    have b3 : ((0 : Int) ≤ (w : Int)) = True := eq_true (by omega)
    have b4 : ((w : Int) < 7) = True := eq_true (by omega)
    have b5 : (u + 1 ≤ 7) = True := eq_true (by omega)
    have b6 : (w + 1 ≤ 7) = True := eq_true (by omega)
    rw [hHu] at gu3
    rw [hHw] at gw3
    obtain ⟨q1, q2, q3, q4, c, v2, T2, q5, q6, q7⟩ := listV_snoc hlv (by omega) (x : Int) T
    by_cases pm : max (has.getD u 0 + x) (has.getD w 0 + x) ≤ 2
    · have hHb : ∀ y ∈ has1 has (((u : Int), (w : Int)), (x : Int)), 0 ≤ y ∧ y ≤ 2 := by
        intro y hy
        obtain ⟨j, hj, rfl⟩ := List.getElem_of_mem hy
        have e : (has1 has (((u : Int), (w : Int)), (x : Int)))[j] = (has1 has (((u : Int), (w : Int)), (x : Int))).getD j 0 := by rw [List.getD_eq_getElem?_getD, List.getElem?_eq_getElem hj]; rfl
        rw [e, hH, addAt_getD _ _ _ _ (by omega), addAt_getD _ _ _ _ (by omega)]
        have bj := getD_bd (B := 2) (by omega) hhb j
        by_cases e1 : j = w
        · subst e1; rw [if_pos rfl, if_neg (by omega)]; omega
        · rw [if_neg e1]
          by_cases e2 : j = u
          · subst e2; rw [if_pos rfl]; omega
          · rw [if_neg e2]; exact bj
      rw [hHu, hHw, if_pos pm]
      obtain ⟨r, bv2, K2, T3, hrun, hbv2⟩ := hrec (l ++ [(x : Int)]) v2 q7 (by simp; omega) _ hHl hHb (nn + x) (by omega) (by simp; omega) best bv most hbv (X ++ [(has1 has (((u : Int), (w : Int)), (x : Int))).map I]) T2
      simp only [List.length_append, List.length_singleton] at hrun hbv2
      generalize has1 has (((u : Int), (w : Int)), (x : Int)) = H at *
      simp only [go_sem, reduceIte, Nat.reduceEqDiff, Nat.reduceAdd, Nat.reduceSub, Nat.reduceLeDiff, Nat.reduceLT, reduceCtorEq, Int.reduceLT, Int.reduceLE, Int.reduceEq, Int.reduceBEq, Int.reduceSub, Int.reduceAdd, Int.reduceMul, Int.reduceNeg, Int.reduceToNat, Nat.reduceMul, Nat.reduceBEq, index_rsl_if, setm, make_ints, condK_dec, wantK_dec, not_dec, and_dec, or_dec, seqK_ite, seqK_none, blockK_ite, blockK_none, opsK_ite, opsK_none, stepK_ite, stepK_none, bodyK_ite, bodyK_none, resK_ite, resK_none, leaveK_ite, leaveK_none, only_ite, only_none, bind_ite, gives_some, gives_none, gives_ite, then_normal, then_ret, then_exit, then_none, then_ite, Option.bind_none, Bool.not_eq_true', decide_eq_false_iff_not, Bool.and_eq_true, Bool.or_eq_true, Option.some.injEq, Int.not_lt, Int.not_le, lp47_0, hlt, hs, gh, gp, gh2, gp2, hgl, hsl, htk, hput, gu, gw, gu3, gw3, hhl, hAl, hHl, hset1, hset2, htk3, w1, w2, w3, b1, b2, b3, b4, b5, b6, q1, q5, q6, pm, hrun, storableI, show pure 47 = false from rfl, List.length_map]
      refine ⟨(x + 1, (shC (ps.drop (l.length + 1)) (l ++ [(x : Int)]) H (nn + x) (best, most)).1, bv2, (shC (ps.drop (l.length + 1)) (l ++ [(x : Int)]) H (nn + x) (best, most)).2, X ++ [H.map I] ++ K2, T3), by simp only [go_sem, reduceIte, Nat.reduceEqDiff, Nat.reduceAdd, Nat.reduceSub, Nat.reduceLeDiff, Nat.reduceLT, reduceCtorEq, Int.reduceLT, Int.reduceLE, Int.reduceEq, Int.reduceBEq, Int.reduceSub, Int.reduceAdd, Int.reduceMul, Int.reduceNeg, Int.reduceToNat, Nat.reduceMul, Nat.reduceBEq, ren1_locm, loc_tips, locT_eq] <;> rfl, ?_, ?_, fun x en s hq => ?_⟩
      · dsimp only; exact ⟨by omega, hbv2, K0 ++ [H.map I] ++ K2, by rw [hX]; simp⟩
      · simp only; omega
      · exact hq
    · rw [hHu, hHw, if_neg pm]
      generalize has1 has (((u : Int), (w : Int)), (x : Int)) = H at *
      simp only [go_sem, reduceIte, Nat.reduceEqDiff, Nat.reduceAdd, Nat.reduceSub, Nat.reduceLeDiff, Nat.reduceLT, reduceCtorEq, Int.reduceLT, Int.reduceLE, Int.reduceEq, Int.reduceBEq, Int.reduceSub, Int.reduceAdd, Int.reduceMul, Int.reduceNeg, Int.reduceToNat, Nat.reduceMul, Nat.reduceBEq, index_rsl_if, setm, make_ints, condK_dec, wantK_dec, not_dec, and_dec, or_dec, seqK_ite, seqK_none, blockK_ite, blockK_none, opsK_ite, opsK_none, stepK_ite, stepK_none, bodyK_ite, bodyK_none, resK_ite, resK_none, leaveK_ite, leaveK_none, only_ite, only_none, bind_ite, gives_some, gives_none, gives_ite, then_normal, then_ret, then_exit, then_none, then_ite, Option.bind_none, Bool.not_eq_true', decide_eq_false_iff_not, Bool.and_eq_true, Bool.or_eq_true, Option.some.injEq, Int.not_lt, Int.not_le, lp47_0, hlt, hs, gh, gp, gh2, gp2, hgl, hsl, htk, hput, gu, gw, gu3, gw3, hhl, hAl, hHl, hset1, hset2, htk3, w1, w2, w3, b1, b2, b3, b4, b5, b6, pm, storableI, List.length_map]
      refine ⟨(x + 1, best, bv, most, X ++ [H.map I], T), by simp only [go_sem, reduceIte, Nat.reduceEqDiff, Nat.reduceAdd, Nat.reduceSub, Nat.reduceLeDiff, Nat.reduceLT, reduceCtorEq, Int.reduceLT, Int.reduceLE, Int.reduceEq, Int.reduceBEq, Int.reduceSub, Int.reduceAdd, Int.reduceMul, Int.reduceNeg, Int.reduceToNat, Nat.reduceMul, Nat.reduceBEq, ren1_locm, loc_tips, locT_eq] <;> rfl, ?_, ?_, fun x en s hq => ?_⟩
      · dsimp only; exact ⟨by omega, hbv, K0 ++ [H.map I], by rw [hX]; simp⟩
      · simp only; omega
      · exact hq
  · obtain rfl : x = 3 := by omega
    simp only [go_sem, reduceIte, Nat.reduceEqDiff, Nat.reduceAdd, Nat.reduceSub, Nat.reduceLeDiff, Nat.reduceLT, reduceCtorEq, Int.reduceLT, Int.reduceLE, Int.reduceEq, Int.reduceBEq, Int.reduceSub, Int.reduceAdd, Int.reduceMul, Int.reduceNeg, Int.reduceToNat, Nat.reduceMul, Nat.reduceBEq, index_rsl_if, setm, make_ints, condK_dec, wantK_dec, not_dec, and_dec, or_dec, seqK_ite, seqK_none, blockK_ite, blockK_none, opsK_ite, opsK_none, stepK_ite, stepK_none, bodyK_ite, bodyK_none, resK_ite, resK_none, leaveK_ite, leaveK_none, only_ite, only_none, bind_ite, gives_some, gives_none, gives_ite, then_normal, then_ret, then_exit, then_none, then_ite, Option.bind_none, Bool.not_eq_true', decide_eq_false_iff_not, Bool.and_eq_true, Bool.or_eq_true, Option.some.injEq, Int.not_lt, Int.not_le, lp47_0, show (((3 : Nat) : Int) < 3) = False from eq_false (by omega)]
    exact ⟨bv, K0, T, by rw [hX]; rfl, hbv⟩

set_option maxHeartbeats 2000000 in
theorem does47 (Q : List AV) (n : Int) (hn : n ≤ 7) (ps : List (Int × Int)) (hlen : ps.length ≤ 10) (hps : ∀ p ∈ ps, 0 ≤ p.1 ∧ p.1 < p.2 ∧ p.2 < n) : ∀ k, Does47 Q n ps k := by
  intro k
  induction k with
  | zero =>
    intro l lv hlv hlk has hhl hhb nn hn0 hn1 best bv most hbv J T
    have hd : ps.drop l.length = [] := List.drop_eq_nil_of_le (by omega)
    rw [hd]
    obtain ⟨q1, q2, q3, q4⟩ := listV_st hlv
    have e1 : ((l.length : Int) = (ps.length : Int)) = True := eq_true (by omega)
    simp only [shC, stepM]
    by_cases pm : most < nn
    · rw [if_pos pm]
      refine ⟨.tup [], lv, [has.map I], T, ?_, hlv⟩
      rw [run_shared (fn := ir47) rfl rfl]
      simp only [ir47, go_sem, reduceIte, Nat.reduceEqDiff, Nat.reduceAdd, Nat.reduceSub, Nat.reduceLeDiff, Nat.reduceLT, reduceCtorEq, Int.reduceLT, Int.reduceLE, Int.reduceEq, Int.reduceBEq, Int.reduceSub, Int.reduceAdd, Int.reduceMul, Int.reduceNeg, Int.reduceToNat, Nat.reduceMul, Nat.reduceBEq, q1, q2, q3, q4, e1, pm, storableI, List.length_map]
    · rw [if_neg pm]
      refine ⟨.tup [], bv, [has.map I], T, ?_, hbv⟩
      rw [run_shared (fn := ir47) rfl rfl]
      simp only [ir47, go_sem, reduceIte, Nat.reduceEqDiff, Nat.reduceAdd, Nat.reduceSub, Nat.reduceLeDiff, Nat.reduceLT, reduceCtorEq, Int.reduceLT, Int.reduceLE, Int.reduceEq, Int.reduceBEq, Int.reduceSub, Int.reduceAdd, Int.reduceMul, Int.reduceNeg, Int.reduceToNat, Nat.reduceMul, Nat.reduceBEq, q1, q2, q3, q4, e1, pm, storableI, List.length_map]
  | succ k ih =>
    intro l lv hlv hlk has hhl hhb nn hn0 hn1 best bv most hbv J T
    have hi : l.length < ps.length := by omega
    have hd : ps.drop l.length = ps[l.length] :: ps.drop (l.length + 1) := List.drop_eq_getElem_cons hi
    have hx := index_prs true ps l.length hi
    have hp := hps ps[l.length] (List.getElem_mem hi)
    rw [hd]
    generalize ps[l.length] = c at *
    obtain ⟨u, w⟩ := c
    simp only at hx hp
    obtain ⟨u, rfl⟩ := Int.eq_ofNat_of_zero_le hp.1
    obtain ⟨w, rfl⟩ := Int.eq_ofNat_of_zero_le (show 0 ≤ w by omega)
    obtain ⟨q1, q2, q3, q4⟩ := listV_st hlv
    have e1 : ((l.length : Int) = (ps.length : Int)) = False := eq_false (by omega)
    have hg0 : ∀ c : List AV, (J ++ [has.map I] ++ [c])[J.length + 1]? = some c := fun c => by simp
    have hs0 : ∀ c c2 : List AV, (J ++ [has.map I] ++ [c]).set (J.length + 1) c2 = J ++ [has.map I] ++ [c2] := fun c c2 => by simp
    have hJh : (J ++ [has.map I] ++ [[I (u : Int), I (w : Int)]])[J.length]? = some (has.map I) := by simp
    have hJp : (J ++ [has.map I] ++ [[I (u : Int), I (w : Int)]])[J.length + 1]? = some [I (u : Int), I (w : Int)] := by simp
    have main : ∃ (r : AV) (S8 : St), run L 47 [lv, .agg (has.map I), I nn, .ptr 1 0, .ptr 3 0, .ptr 2 0, .ptr 4 0] (S5 Q (bkCells true n ps) bv most J T) = some (r, S8) ∧ ∃ bv' K T', S8 = S5 Q (bkCells true n ps) bv' (shC (((u : Int), (w : Int)) :: ps.drop (l.length + 1)) l has nn (best, most)).2 (J ++ [has.map I] ++ [[I (u : Int), I (w : Int)]] ++ K) T' ∧ ListV bv' (shC (((u : Int), (w : Int)) :: ps.drop (l.length + 1)) l has nn (best, most)).1 := by
      rw [run_shared (fn := ir47) rfl rfl]
      have hJl : (J ++ [has.map I]).length = J.length + 1 := by simp
      simp only [ir47, go_sem, reduceIte, Nat.reduceEqDiff, Nat.reduceAdd, Nat.reduceSub, Nat.reduceLeDiff, Nat.reduceLT, reduceCtorEq, Int.reduceLT, Int.reduceLE, Int.reduceEq, Int.reduceBEq, Int.reduceSub, Int.reduceAdd, Int.reduceMul, Int.reduceNeg, Int.reduceToNat, Nat.reduceMul, Nat.reduceBEq, q1, e1, hx, storableI, hJl, hg0, hs0, List.length_map]
      generalize hg : lim (headed pure (run L) false _ lp47_0 _ _) _ _ = o
      obtain ⟨x, en, s, rfl, h2⟩ : ∃ x en s, o = some (x, en, s) ∧ _ := by rw [← hg]; exact loop47 Q n ps hlen k l lv hlv hlk u w (by omega) (by omega) has hhl hhb nn hn0 hn1 ih J.length (J ++ [has.map I] ++ [[I (u : Int), I (w : Int)]]) hJh hJp ((J ++ [has.map I] ++ [[I (u : Int), I (w : Int)]]).length + 5) T.length 0 best bv most (J ++ [has.map I] ++ [[I (u : Int), I (w : Int)]]) T ⟨by omega, hbv, [], by simp⟩ _ _ (by simp only [go_sem, reduceIte, Nat.reduceEqDiff, Nat.reduceAdd, Nat.reduceSub, Nat.reduceLeDiff, Nat.reduceLT, reduceCtorEq, Int.reduceLT, Int.reduceLE, Int.reduceEq, Int.reduceBEq, Int.reduceSub, Int.reduceAdd, Int.reduceMul, Int.reduceNeg, Int.reduceToNat, Nat.reduceMul, Nat.reduceBEq, Int.natCast_zero] <;> rfl)
      clear hg
      obtain ⟨rfl, bv', K, T', rfl, hb⟩ := h2
      refine ⟨.tup [], _, by simp only [go_sem, reduceIte, Nat.reduceEqDiff, Nat.reduceAdd, Nat.reduceSub, Nat.reduceLeDiff, Nat.reduceLT, reduceCtorEq, Int.reduceLT, Int.reduceLE, Int.reduceEq, Int.reduceBEq, Int.reduceSub, Int.reduceAdd, Int.reduceMul, Int.reduceNeg, Int.reduceToNat, Nat.reduceMul, Nat.reduceBEq]; rfl, bv', K, T', rfl, hb⟩
    obtain ⟨r, S8, hrun, bv', K, T', rfl, hb⟩ := main
    exact ⟨r, bv', [has.map I] ++ [[I (u : Int), I (w : Int)]] ++ K, T', by rw [hrun]; simp, hb⟩


/-! ### the law's search finds the reference's shares -/
def stepF (s : List Int × Int) (c : List Int) : List Int × Int := if s.2 < sumL c then (c, sumL c) else s
theorem sumL_append : ∀ (a b : List Int), sumL (a ++ b) = sumL a + sumL b
  | [], b => by simp [sumL]
  | x :: a, b => by simp only [List.cons_append, sumL, sumL_append a b]; omega
theorem foldl_congr {α β : Type} {f g : β → α → β} : ∀ (l : List α) (s : β), (∀ x ∈ l, ∀ s, f s x = g s x) → l.foldl f s = l.foldl g s
  | [], _, _ => rfl
  | a :: l, s, h => by
    rw [List.foldl_cons, List.foldl_cons, h a (by simp), foldl_congr l _ (fun x hx => h x (by simp [hx]))]
theorem shC_eq {n : Nat} {ps : List (Int × Int)} (hn : n ≤ 7) (hps : ∀ p ∈ ps, 0 ≤ p.1 ∧ p.1 < p.2 ∧ p.2 < (n : Int)) : ∀ (q pre : List (Int × Int)), ps = pre ++ q → ∀ (l : List Int), l.length = pre.length → ∀ (has : List Int), has.length = 7 → (∀ a : Nat, a < 7 → has.getD a 0 = loadOf (ps.zip l) (a : Int)) → (∀ a : Nat, loadOf (ps.zip l) (a : Int) ≤ 2) → ∀ (nn : Int), nn = sumL l → ∀ s, shC q l has nn s = (shF n ps q.length l).foldl stepF s
  | [], _, _, l, _, has, _, _, _, nn, hnn, s => by
    simp only [shC, shF, List.length_nil, List.foldl_cons, List.foldl_nil, stepM, stepF, hnn]
  | p :: q, pre, hpq, l, hl, has, hhl, hhas, hle, nn, hnn, s => by
    have hp := hps p (by rw [hpq]; simp)
    have hlt : l.length < ps.length := by rw [hpq]; simp; omega
    have hpl : ps[l.length] = p := by simp [hpq, hl]
    simp only [shC, shF, List.length_cons]
    rw [List.foldl_flatMap]
    apply foldl_congr
    intro x hx s
    rw [List.mem_range'_1] at hx
    have hz : ps.zip (l ++ [(x : Int)]) = ps.zip l ++ [(p, (x : Int))] := by rw [zip_snoc hlt, hpl]
    have hld : ∀ a : Int, loadOf (ps.zip (l ++ [(x : Int)])) a = loadOf (ps.zip l) a + (if p.1 = a ∨ p.2 = a then (x : Int) else 0) := by
      intro a; rw [hz, load_append]; simp [loadOf]
    have hh : ∀ a : Nat, a < 7 → (has1 has (p, (x : Int))).getD a 0 = loadOf (ps.zip (l ++ [(x : Int)])) (a : Int) := by
      intro a ha
      have h1 := fold_getD (n := n) hn [(p, (x : Int))] has a hhl (by intro e he; rw [List.mem_singleton] at he; subst he; exact hp)
      simp only [List.foldl_cons, List.foldl_nil] at h1
      rw [h1, hhas a ha, hz, load_append]
    have hu := hh p.1.toNat (by omega)
    have hw := hh p.2.toNat (by omega)
    rw [Int.toNat_of_nonneg (by omega)] at hu hw
    rw [hu, hw]
    have hiff : overFrom (ps.zip (l ++ [(x : Int)])) n 0 = true ↔ ¬ max (loadOf (ps.zip (l ++ [(x : Int)])) p.1) (loadOf (ps.zip (l ++ [(x : Int)])) p.2) ≤ 2 := by
      rw [over_iff]
      constructor
      · rintro ⟨a, ha, h2⟩
        rw [hld] at h2
        have h3 := hle a
        by_cases e : p.1 = (a : Int) ∨ p.2 = (a : Int)
        · rcases e with e | e
          · rw [e, hld]; omega
          · rw [e, hld (a : Int)]; omega
        · rw [if_neg e] at h2; omega
      · intro h
        by_cases h1 : 2 < loadOf (ps.zip (l ++ [(x : Int)])) p.1
        · exact ⟨p.1.toNat, by omega, by rw [Int.toNat_of_nonneg (by omega)]; exact h1⟩
        · exact ⟨p.2.toNat, by omega, by rw [Int.toNat_of_nonneg (by omega)]; omega⟩
    by_cases pm : max (loadOf (ps.zip (l ++ [(x : Int)])) p.1) (loadOf (ps.zip (l ++ [(x : Int)])) p.2) ≤ 2
    · have ho : ¬ overFrom (ps.zip (l ++ [(x : Int)])) n 0 = true := fun h => hiff.1 h pm
      rw [if_pos pm, if_neg ho]
      refine shC_eq hn hps q (pre ++ [p]) (by rw [hpq]; simp) (l ++ [(x : Int)]) (by simp [hl]) _ (by rw [has1_len, hhl]) hh ?_ _ (by rw [sumL_append, hnn]; simp [sumL]) s
      intro a
      rw [hld]
      by_cases e : p.1 = (a : Int) ∨ p.2 = (a : Int)
      · rw [← hld]
        rcases e with e | e
        · rw [← e]; omega
        · rw [← e]; omega
      · rw [if_neg e]; have := hle a; omega
    · rw [if_neg pm, if_pos (hiff.2 pm)]; rfl
theorem foldF_pick : ∀ (r : List (List Int)) (b : List Int), r.foldl stepF (b, sumL b) = (r.foldl pickS b, sumL (r.foldl pickS b))
  | [], b => rfl
  | a :: r, b => by
    rw [List.foldl_cons, List.foldl_cons]
    unfold stepF pickS
    by_cases h : sumL b < sumL a
    · rw [if_pos h, if_pos h]; exact foldF_pick r a
    · rw [if_neg h, if_neg h]; exact foldF_pick r b
theorem shC_shares {n : Nat} {ps : List (Int × Int)} (hn : n ≤ 7) (hps : ∀ p ∈ ps, 0 ≤ p.1 ∧ p.1 < p.2 ∧ p.2 < (n : Int)) : (shC ps [] (List.replicate 7 0) 0 ([], -1)).1 = sharesR n ps := by
  rw [shC_eq hn hps ps [] rfl [] rfl (List.replicate 7 0) (by simp) (by
    intro a ha
    rw [List.getD_eq_getElem?_getD, List.getElem?_replicate, if_pos ha]; simp [loadOf]) (by intro a; simp [loadOf]) 0 rfl]
  have hne := List.ne_nil_of_mem (shF_zero (n := n) (ps := ps))
  have hin : ∀ l ∈ shF n ps ps.length [], 0 ≤ sumL l := fun l hl => sum_nonneg l (fun x hx => ((shF_ok hl).2 x hx).1)
  unfold sharesR
  cases h : shF n ps ps.length [] with
  | nil => exact absurd h hne
  | cons b r =>
    have hb := hin b (by rw [h]; simp)
    rw [List.foldl_cons]
    have e : stepF ([], -1) b = (b, sumL b) := by unfold stepF; rw [if_pos (by omega)]
    rw [e, foldF_pick]
theorem prsErr_nodup {n : Int} : ∀ {ps seen : List (Int × Int)}, prsErr n seen ps = 0 → (∀ p ∈ ps, p ∉ seen) ∧ ps.Nodup
  | [], _, _ => by simp
  | a :: r, seen, h => by
    simp only [prsErr] at h
    split at h
    · next h0 =>
      obtain ⟨h1, h2⟩ := prsErr_nodup h
      have ha : a ∉ seen := by
        unfold prErr at h0
        split at h0
        · simp at h0
        · split at h0
          · simp at h0
          · split at h0
            · simp at h0
            · assumption
      refine ⟨fun p hp => ?_, List.nodup_cons.2 ⟨fun hr => h1 a hr (by simp), h2⟩⟩
      rcases List.mem_cons.1 hp with rfl | hp
      · exact ha
      · exact fun hs => h1 p hp (by simp [hs])
    · next h0 => exact absurd h h0
theorem chk_nodup {n : Int} {ps : List (Int × Int)} (h : chk n ps = 0) : ps.Nodup := by
  unfold chk at h
  split at h
  · simp at h
  · split at h
    · simp at h
    · exact (prsErr_nodup h).2


theorem c35 (nl : Bool) (n : Int) (ps : List (Int × Int)) : ∃ n2 : Bool, ∀ st, run L 35 [bkAV nl n ps] st = some (.tup [sl 1 n2 ((shv n ps).1.map I), I (shv n ps).2], st) := by
  have h22 := fun st => c22 nl n ps st
  by_cases h : chk n ps = 0
  · obtain ⟨h1, h2, h3, h4, h5⟩ := chk_zero h
    obtain ⟨k, rfl⟩ := Int.eq_ofNat_of_zero_le (show 0 ≤ n by omega)
    obtain ⟨n2, h87⟩ := c87 nl k (by omega) (by omega) ps h3 h4 h5 (chk_nodup h)
    refine ⟨n2, fun st => ?_⟩
    rw [run_pure (fn := ir35) rfl rfl]
    unfold shv
    rw [if_pos h]
    simp only [Int.toNat_natCast]
    simp only [ir35, go_sem, reduceIte, Nat.reduceEqDiff, Nat.reduceAdd, Nat.reduceSub, Nat.reduceLeDiff, Nat.reduceLT, reduceCtorEq, Int.reduceLT, Int.reduceLE, Int.reduceEq, Int.reduceBEq, Int.reduceSub, Int.reduceAdd, Int.reduceMul, Int.reduceNeg, Int.reduceToNat, Nat.reduceMul, Nat.reduceBEq, h22, h, h87]
  · refine ⟨true, fun st => ?_⟩
    rw [run_pure (fn := ir35) rfl rfl]
    unfold shv
    rw [if_neg h]
    simp only [ir35, go_sem, reduceIte, Nat.reduceEqDiff, Nat.reduceAdd, Nat.reduceSub, Nat.reduceLeDiff, Nat.reduceLT, reduceCtorEq, Int.reduceLT, Int.reduceLE, Int.reduceEq, Int.reduceBEq, Int.reduceSub, Int.reduceAdd, Int.reduceMul, Int.reduceNeg, Int.reduceToNat, Nat.reduceMul, Nat.reduceBEq, h22, h]
    rfl
theorem listV_pub {v : AV} {l : List Int} (h : ListV v l) : ∃ n3 : Bool, pub v = sl 1 n3 (l.map I) := by
  rcases h with ⟨rfl, rfl⟩ | ⟨g, rfl⟩
  · exact ⟨true, rfl⟩
  · exact ⟨false, by rw [← sl_false]; rfl⟩
theorem slice_all (ps : List (Int × Int)) : sliceAV 2 (sl 2 true (ps.map prAV)) none (some (.v (.int .i64 (min (ps.length : Int) 7)))) none = some (sl 2 true ((ps.take 7).map prAV)) := by
  cases ps with
  | nil => rfl
  | cons p r =>
    have e : sl 2 true ((p :: r).map prAV) = .lst .any 2 ((p :: r).map prAV) := rfl
    have e2 : sl 2 true (((p :: r).take 7).map prAV) = .lst .any 2 (((p :: r).take 7).map prAV) := rfl
    have e3 : (min ((p :: r).length : Int) 7) = ((min (p :: r).length 7 : Nat) : Int) := by omega
    rw [e, e2, e3]
    have h0 : min (p :: r).length 7 ≤ ((p :: r).map prAV).length := by rw [List.length_map]; omega
    simp only [sliceAV, natOr, natOf]
    rw [if_pos trivial, if_pos (by omega)]
    simp only [Int.toNat_natCast, Option.some.injEq]
    rw [if_pos ⟨by omega, h0⟩]
    simp only [List.drop_zero, List.map_take, tagSlice, Option.some.injEq]
    congr 1
    rcases Nat.le_total (p :: r).length 7 with h | h
    · rw [Nat.min_eq_left h, List.take_of_length_le (by simp), List.take_of_length_le (by simpa using h)]
    · rw [Nat.min_eq_right h]

set_option maxHeartbeats 1000000 in
theorem c7 (zs : List Int) (hzl : zs.length = 22) (hz : ∀ a ∈ zs, Byte a) (st : St) : run L 7 [qAV zs] st = some (B true, st) := by
  rw [run_pure (fn := ir7) rfl rfl]
  have h44 := fun st => c44 zs hzl hz 1 (.inl rfl) st
  obtain ⟨n, hN, hn1, _, hn, hlen, hps0, h70, hnd0, hck0⟩ := made_ok (.inl rfl : (1 : Int) = 1 ∨ (1 : Int) = 2) zs
  rw [hN] at h44
  generalize madeP 1 zs = ps0 at *
  have htk : (zs.map B8).take 22 = zs.map B8 := List.take_of_length_le (by simp [hzl])
  have hsl := slice_all ps0
  have hps : ∀ p ∈ ps0.take 7, 0 ≤ p.1 ∧ p.1 < p.2 ∧ p.2 < (n : Int) := fun p hp => hps0 p (List.mem_of_mem_take hp)
  have h7 : ∀ p ∈ ps0.take 7, okP p := fun p hp => h70 p (List.mem_of_mem_take hp)
  have hnd : (ps0.take 7).Nodup := hnd0.sublist (List.take_sublist _ _)
  have hl7 : (ps0.take 7).length ≤ 10 := by simp; omega
  have hck : chk n (ps0.take 7) = 0 := by
    unfold chk
    rw [if_neg (by omega), if_neg (by omega)]
    exact prsErr_ok _ [] hps (by simpa using hnd)
  generalize ps0.take 7 = ps at *
  obtain ⟨n2, h35⟩ := c35 true n ps
  have ehv : shv (n : Int) ps = (sharesR n ps, 0) := by unfold shv; rw [if_pos hck, Int.toNat_natCast]
  simp only [ehv] at h35
  obtain ⟨r, bv, K, T', hrun, hbv⟩ := does47 (zs.map B8) n (by omega) ps hl7 hps ps.length [] (.v (.slice none 0 0)) (.inl ⟨rfl, rfl⟩) (by simp) (List.replicate 7 0) (by simp) (by intro x hx; rw [List.mem_replicate] at hx; omega) 0 (by omega) (by simp) [] (.v (.slice none 0 0)) (-1) (.inl ⟨rfl, rfl⟩) [] []
  rw [List.length_nil, List.drop_zero, shC_shares hn hps] at hbv
  have hrun2 : run L 47 [.v (.slice none 0 0), .agg [I 0, I 0, I 0, I 0, I 0, I 0, I 0], I 0, .ptr 1 0, .ptr 3 0, .ptr 2 0, .ptr 4 0] ⟨[zs.map B8, bkCells true n ps, [.v (.slice none 0 0)], [I (-1)], [fnP47]], []⟩ = some (r, S5 (zs.map B8) (bkCells true n ps) bv (shC ps [] (List.replicate 7 0) 0 ([], -1)).2 ([] ++ K) T') := hrun
  obtain ⟨n3, hpub⟩ := listV_pub hbv
  have hRl := (sharesR_len n ps).1
  have h21 : ∀ st, run L 21 [sl 1 n2 ((sharesR n ps).map I), bv] st = some (B true, st) :=
    run_args2 (fn := ir21) (args' := [sl 1 n2 ((sharesR n ps).map I), sl 1 n3 ((sharesR n ps).map I)]) rfl rfl (by simp only [pubs, hpub, pub_sl]) (fun st => by rw [c21 n2 n3 _ _ (by omega) st]; simp)
  simp only [ir7, go_sem, reduceIte, Nat.reduceEqDiff, Nat.reduceAdd, Nat.reduceSub, Nat.reduceLeDiff, Nat.reduceLT, reduceCtorEq, Int.reduceLT, Int.reduceLE, Int.reduceEq, Int.reduceBEq, Int.reduceSub, Int.reduceAdd, Int.reduceMul, Int.reduceNeg, Int.reduceToNat, Nat.reduceMul, Nat.reduceBEq, okRefsB, pubsB, storableB, htk, hzl, h44, hsl, hrun2, h35, h21, c16, show pure 47 = false from rfl, List.length_map]
end Go.Proofs.YtpmbfgogpcjdlaaDoor.Vm
