/- What is proved: what each function of this program computes, as equations on the evaluator. No condition. -/
import Derived.Test.YtpmbfgogpcjdlaaDoorC1
import Derived.Test.YtpmbfgogpcjdlaaDoorFkf
set_option linter.all false
namespace Go.Proofs.YtpmbfgogpcjdlaaDoor.Vm
open Go Go.Ev
set_option maxRecDepth 100000
attribute [local go_sem] cells_any storable_any ren1_any shaped_ptr cells_ptr storable_ptr ren1_ptr shaped_eptr cells_eptr storable_eptr ren1_eptr shaped_rsl cells_rsl storable_rsl ren1_rsl shaped_int cells_int storable_int ren1_int shaped_bool cells_bool storable_bool ren1_bool shaped_nils cells_nils storable_nils ren1_nils shaped_lst cells_lst storable_lst shaped_fn cells_fn storable_fn ren1_fn shaped_ifc cells_ifc storable_ifc ren1_ifc shaped_agg cells_agg storable_agg ren1_agg shaped_tup cells_tup storable_tup ren1_tup shaped_nif cells_nif storable_nif ren1_nif ren1_lany ren1_lfull ren1_lown len_lst len_rsl len_nil load_ptr load_eptr isRsl_lst isRsl_nil isRsl_rsl elems_nil elems_lst elems_sl isRsl_sl body_eq bodyK_normal bodyK_ret resK_some leaveK_some only_some code_skip code_exit code_ret code_ops code_seq code_cond code_block seqK_normal seqK_ret seqK_exit condK_true condK_false blockK_normal blockK_ret blockK_exit opsK_some ops_nil ops_cons wantK_true wantK_false stepK_some pubs pub pub_sl params okRef_loc storable_loc shaped_loc cells_loc isRsl_loc elems_loc len_loc untips untip untip_sl wantedAV setElems withO isAgg_v isAgg_agg isAgg_lst isAgg_ptr isAgg_fn isAgg_ifc isAgg_rsl isAgg_sl isAgg_loc List.replicate_succ List.replicate_zero opAV valAV aval avals ofVal Env.get setD canon gcAV renAll renEnv renStore renCells ren1_sl cutSt okEnv okStore okRefs okRef okRef_sl bin_int bin_bool bin_lst bin_rsl bin_nil bin_agg cellsEq cellEq isShift intOp boolOp min_int max_int beq_int bne resAV tupAV leave_eq fin_sl fin_loc fins fin_v fin_lst fin_agg fin_tup fin_fn storeAV readCells putCells cells_sl shaped_sl storable_sl fieldAddrAV len_sl goI List.getElem?_cons_zero List.getElem?_cons_succ List.getElem?_nil Option.bind_some Option.map_some List.length_cons List.length_nil List.all_cons List.all_nil Bool.and_true Bool.true_and Bool.and_false Bool.false_and and_true true_and and_false false_and Bool.false_eq_true List.set_cons_zero List.set_cons_succ List.append_nil List.nil_append List.cons_append List.take_zero List.take_succ_cons List.take_nil List.drop_zero List.drop_succ_cons List.map_cons List.map_nil decide_true decide_false beq_self_eq_true Bool.not_true Bool.not_false or_true true_or or_false false_or Nat.zero_add Nat.add_zero Nat.le_refl Nat.lt_irrefl decide_eq_true_eq eq_self_iff_true not_true_eq_false not_false_eq_true List.getD_cons_zero code_loop Nat.zero_le Nat.not_lt_zero Bool.true_beq Bool.false_beq beq_true beq_false ge_iff_le gt_iff_lt Lpure pus Option.map_none assert_ifc assert_nil idxA_ptr idxA_eptr idxV_agg Int.cast_ofNat_Int Nat.mul_one Nat.zero_mul Int.toNat_natCast Int.toNat_zero setParts withO2 hasKey eqnil_sl nenil_sl eqnil_loc nenil_loc map_nil_iff okRefs_ints renCells_ints

/-! ### shares are worth no more than values cost -/
theorem sum_upd {f g : Nat → Int} {i : Nat} {d : Int} : ∀ l : List Nat, l.Nodup → i ∈ l → (∀ a ∈ l, a ≠ i → f a = g a) → f i = g i + d → sumL (l.map f) = sumL (l.map g) + d
  | [], _, hi, _, _ => by simp at hi
  | a :: r, hn, hi, h, hd => by
    rw [List.nodup_cons] at hn
    simp only [List.map_cons, sumL]
    by_cases e : a = i
    · subst e
      have : r.map f = r.map g := List.map_congr_left (fun b hb => h b (by simp [hb]) (fun e => hn.1 (e ▸ hb)))
      rw [this, hd]; omega
    · have h1 := sum_upd r hn.2 (by simpa [Ne.symm e] using hi) (fun b hb => h b (by simp [hb])) hd
      rw [h1, h a (by simp) e]; omega
def dot (n : Nat) (v o : List Int) : Int := sumL ((List.range n).map fun a => v.getD a 0 * o.getD a 0)
theorem dot_addAt {n : Nat} (v o : List Int) {i : Nat} (hi : i < n) (ho : i < o.length) (x : Int) : dot n v (addAt o i x) = dot n v o + v.getD i 0 * x := by
  unfold dot
  apply sum_upd (i := i) _ List.nodup_range (List.mem_range.2 hi)
  · intro a _ hne; rw [addAt_getD _ _ _ _ ho, if_neg hne]
  · rw [addAt_getD _ _ _ _ ho, if_pos rfl, Int.mul_add]
def wsum (v : List Int) (l : List ((Int × Int) × Int)) : Int := sumL (l.map fun e => (v.getD e.1.1.toNat 0 + v.getD e.1.2.toNat 0) * e.2)
theorem has1_len (o : List Int) (e : (Int × Int) × Int) : (has1 o e).length = o.length := by simp [has1, addAt_len]
theorem fold_len : ∀ (l : List ((Int × Int) × Int)) (o : List Int), (l.foldl has1 o).length = o.length
  | [], o => rfl
  | e :: r, o => by rw [List.foldl_cons, fold_len r, has1_len]
theorem dot_fold {n : Nat} (hn : n ≤ 7) (v : List Int) : ∀ (l : List ((Int × Int) × Int)) (o : List Int), o.length = 7 → (∀ e ∈ l, 0 ≤ e.1.1 ∧ e.1.1 < e.1.2 ∧ e.1.2 < (n : Int)) → dot n v (l.foldl has1 o) = dot n v o + wsum v l
  | [], o, _, _ => by simp [wsum, sumL]
  | e :: r, o, ho, h => by
    have he := h e (by simp)
    rw [List.foldl_cons, dot_fold hn v r _ (by rw [has1_len, ho]) (fun x hx => h x (by simp [hx]))]
    unfold has1
    rw [dot_addAt v _ (by omega) (by rw [addAt_len]; omega), dot_addAt v _ (by omega) (by omega)]
    simp only [wsum, List.map_cons, sumL, Int.add_mul]; omega
theorem sum_le2 {α : Type} {f g : α → Int} : ∀ l : List α, (∀ a ∈ l, f a ≤ g a) → sumL (l.map f) ≤ sumL (l.map g)
  | [], _ => by simp
  | a :: r, h => by
    have h1 := sum_le2 (f := f) (g := g) r (fun x hx => h x (by simp [hx]))
    have h2 := h a (by simp)
    simp only [List.map_cons, sumL]; omega
theorem sum_two {α : Type} (f : α → Int) : ∀ l : List α, sumL (l.map fun a => f a * 2) = 2 * sumL (l.map f)
  | [] => by simp [sumL]
  | a :: r => by
    have := sum_two f r
    simp only [List.map_cons, sumL]; omega
theorem weak {n : Nat} (hn : n ≤ 7) {ps : List (Int × Int)} (hps : ∀ p ∈ ps, 0 ≤ p.1 ∧ p.1 < p.2 ∧ p.2 < (n : Int)) {v s : List Int} (hv : v.length = n) (hvb : ∀ x ∈ v, 0 ≤ x ∧ x ≤ 2) (hs : s.length = ps.length) (hsb : ∀ x ∈ s, 0 ≤ x ∧ x ≤ 2)
    (hh : halfOk ps v = true) (ho : overB ps s = false) : sumL s ≤ sumL v := by
  have hz : ∀ e ∈ ps.zip s, e.1 ∈ ps ∧ e.2 ∈ s := fun e he => ⟨(List.of_mem_zip he).1, (List.of_mem_zip he).2⟩
  have h1 := dot_fold hn v (ps.zip s) (List.replicate 7 0) (by simp) (fun e he => hps _ (hz e he).1)
  have h0 : dot n v (List.replicate 7 0) = 0 := by
    have : ∀ l : List Nat, sumL (l.map fun a => v.getD a 0 * (List.replicate 7 (0 : Int)).getD a 0) = 0 := by
      intro l
      induction l with
      | nil => rfl
      | cons a r ih =>
        simp only [List.map_cons, sumL, ih]
        rw [List.getD_eq_getElem?_getD (l := List.replicate 7 (0 : Int)), List.getElem?_replicate]
        split <;> simp
    exact this _
  have he : (ps.zip s).foldl has1 (List.replicate 7 0) = hasL ps s := rfl
  rw [h0, he, Int.zero_add] at h1
  -- each pair has enough
  have h2 : 2 * sumL s ≤ wsum v (ps.zip s) := by
    have e : sumL s = sumL ((ps.zip s).map fun e => e.2) := by
      have := List.map_snd_zip (l₁ := ps) (l₂ := s) (by omega)
      have e2 : (ps.zip s).map (fun e => e.2) = s := this
      rw [e2]
    rw [e, ← sum_two]
    apply sum_le2
    intro e he
    obtain ⟨m1, m2⟩ := hz e he
    have g1 := List.all_eq_true.1 hh _ m1
    simp only [enough, decide_eq_true_iff] at g1
    have g2 := (hsb _ m2).1
    have := Int.mul_le_mul_of_nonneg_left g1 g2
    rw [Int.mul_comm (v.getD _ 0 + v.getD _ 0)]
    exact this
  -- no article has more than 2
  have h3 : dot n v (hasL ps s) ≤ 2 * sumL v := by
    have e : sumL v = sumL ((List.range n).map fun a => v.getD a 0) := by rw [← list_range v n hv]
    rw [e, ← sum_two]
    unfold dot
    apply sum_le2
    intro a _
    have g1 : 0 ≤ v.getD a 0 := (getD_bd (B := 2) (by omega) hvb a).1
    have g2 : (hasL ps s).getD a 0 ≤ 2 := by
      unfold overB at ho
      rw [List.any_eq_false] at ho
      rw [List.getD_eq_getElem?_getD]
      cases h4 : (hasL ps s)[a]?
      · simp
      · have := ho _ (List.mem_of_getElem? h4); simpa using this
    exact Int.mul_le_mul_of_nonneg_left g2 g1
  omega

/-! ### what is accepted, by the outright words -/


/-! ### three lists that grow in an array -/
def n1 (xs : List Int) : Nat := if xs = [] then 0 else 1


/-! ### a list of pairs that grows behind other lists -/
def pN (k : Nat) (o : List (Int × Int)) : AV := if o = [] then .v (.slice none 0 0) else .lst (.own k o.length) 2 (o.map prAV)
theorem okRef_pN (n k : Nat) (o : List (Int × Int)) : okRef n (pN k o) = true := by unfold pN; split <;> rfl
theorem pub_pN (k : Nat) (o : List (Int × Int)) : pub (pN k o) = sl 2 true (o.map prAV) := by
  unfold pN
  split
  · next h => subst h; rfl
  · next h => rw [sl_ne (by simpa using h)]; rfl
attribute [local go_sem] okRef_pN pub_pN


/-! ### the reference's shares -/
def loadOf (l : List ((Int × Int) × Int)) (a : Int) : Int :=
  match l with
  | [] => 0
  | e :: r => (if e.1.1 = a ∨ e.1.2 = a then e.2 else 0) + loadOf r a
theorem loop93_0 (nl n2 : Bool) (n : Int) (ps : List (Int × Int)) (hlen : ps.length ≤ 10) (s0 : List Int) (hsl : s0.length ≤ ps.length) (hb : ∀ x ∈ s0, 0 ≤ x ∧ x ≤ 2) (a : Int) (i : Nat) (acc : Int) (hok : i ≤ s0.length ∧ 0 ≤ acc ∧ acc ≤ 2 * i) (env : Env) (st : St)
    (hg : gcAV true 1 0 (canon env [1, 2, 5, 6, 7]) st = ([(1, sl 1 n2 (s0.map I)), (2, .ptr 0 0), (5, I a), (6, I acc), (7, I i)], ⟨[bkCells nl n ps], []⟩)) :
    ∃ x_1 en s, lim (headed pure (run L) true [1, 2, 5, 6, 7] lp93_0 1 0) env st = some (x_1, en, s) ∧ (x_1 = .exit 2 ∧ en.get 1 = sl 1 n2 (s0.map I) ∧ en.get 2 = .ptr 0 0 ∧ en.get 5 = I a ∧ en.get 6 = I (acc + loadOf ((ps.zip s0).drop i) a) ∧ s = ⟨[bkCells nl n ps], []⟩) := by
  refine loop_wp (α := Nat × Int) (fun ⟨i, acc⟩ => s0.length - i) (fun ⟨i, acc⟩ => i ≤ s0.length ∧ 0 ≤ acc ∧ acc ≤ 2 * i) (fun ⟨i, acc⟩ => ([(1, sl 1 n2 (s0.map I)), (2, .ptr 0 0), (5, I a), (6, I acc), (7, I i)], ⟨[bkCells nl n ps], []⟩)) (fun ⟨i, acc⟩ x_1 en s => x_1 = .exit 2 ∧ en.get 1 = sl 1 n2 (s0.map I) ∧ en.get 2 = .ptr 0 0 ∧ en.get 5 = I a ∧ en.get 6 = I (acc + loadOf ((ps.zip s0).drop i) a) ∧ s = ⟨[bkCells nl n ps], []⟩) (fun ⟨i, acc⟩ hok => ?_) ⟨i, acc⟩ hok env st hg
  simp only at hok
  obtain ⟨h1, h2, h3⟩ := hok
  dsimp only
  by_cases h : i < s0.length
  · have hx := index_prs nl ps i (by omega)
    have hy := index_ints n2 s0 i h
    have hs := succ64 i (by omega)
    have hzl : i < (ps.zip s0).length := by rw [List.length_zip]; omega
    have hd : (ps.zip s0).drop i = (ps.zip s0)[i] :: (ps.zip s0).drop (i + 1) := List.drop_eq_getElem_cons hzl
    have hze : (ps.zip s0)[i] = (ps[i]'(by omega), s0[i]) := by simp
    have hbx := hb s0[i] (List.getElem_mem h)
    rw [hd, hze]
    simp only [loadOf]
    generalize ps[i]'(by omega) = c at *
    generalize s0[i] = x at *
    obtain ⟨u, v⟩ := c
    simp only at hx
    have hlt : ((i : Int) < (s0.length : Int)) = True := eq_true (by omega)
    have hw : IntKind.i64.wrap (acc + x) = acc + x := by rw [wrap64] <;> omega
    by_cases p1 : u = a
    · simp only [go_sem, reduceIte, Nat.reduceEqDiff, Nat.reduceAdd, Nat.reduceSub, Nat.reduceLeDiff, Nat.reduceLT, reduceCtorEq, Int.reduceLT, Int.reduceLE, Int.reduceEq, Int.reduceBEq, Int.reduceSub, Int.reduceAdd, Int.reduceMul, Int.reduceNeg, Int.reduceToNat, Nat.reduceMul, Nat.reduceBEq, index_rsl_if, setm, make_ints, condK_dec, wantK_dec, not_dec, and_dec, or_dec, seqK_ite, seqK_none, blockK_ite, blockK_none, opsK_ite, opsK_none, stepK_ite, stepK_none, bodyK_ite, bodyK_none, resK_ite, resK_none, leaveK_ite, leaveK_none, only_ite, only_none, bind_ite, gives_some, gives_none, gives_ite, then_normal, then_ret, then_exit, then_none, then_ite, Option.bind_none, Bool.not_eq_true', decide_eq_false_iff_not, Bool.and_eq_true, Bool.or_eq_true, Option.some.injEq, Int.not_lt, Int.not_le, lp93_0, hx, hy, hlt, hs, hw, p1, List.length_map]
      refine ⟨(i + 1, acc + x), by simp only [go_sem, reduceIte, Nat.reduceEqDiff, Nat.reduceAdd, Nat.reduceSub, Nat.reduceLeDiff, Nat.reduceLT, reduceCtorEq, Int.reduceLT, Int.reduceLE, Int.reduceEq, Int.reduceBEq, Int.reduceSub, Int.reduceAdd, Int.reduceMul, Int.reduceNeg, Int.reduceToNat, Nat.reduceMul, Nat.reduceBEq, ren1_locm, loc_tips, locT_eq] <;> rfl, ?_, ?_, fun x en s hq => ?_⟩
      · dsimp only; exact ⟨by omega, by omega, by omega⟩
      · simp only; omega
      · simpa [Int.add_assoc] using hq
    · by_cases p2 : v = a
      · simp only [go_sem, reduceIte, Nat.reduceEqDiff, Nat.reduceAdd, Nat.reduceSub, Nat.reduceLeDiff, Nat.reduceLT, reduceCtorEq, Int.reduceLT, Int.reduceLE, Int.reduceEq, Int.reduceBEq, Int.reduceSub, Int.reduceAdd, Int.reduceMul, Int.reduceNeg, Int.reduceToNat, Nat.reduceMul, Nat.reduceBEq, index_rsl_if, setm, make_ints, condK_dec, wantK_dec, not_dec, and_dec, or_dec, seqK_ite, seqK_none, blockK_ite, blockK_none, opsK_ite, opsK_none, stepK_ite, stepK_none, bodyK_ite, bodyK_none, resK_ite, resK_none, leaveK_ite, leaveK_none, only_ite, only_none, bind_ite, gives_some, gives_none, gives_ite, then_normal, then_ret, then_exit, then_none, then_ite, Option.bind_none, Bool.not_eq_true', decide_eq_false_iff_not, Bool.and_eq_true, Bool.or_eq_true, Option.some.injEq, Int.not_lt, Int.not_le, lp93_0, hx, hy, hlt, hs, hw, p1, p2, List.length_map]
        refine ⟨(i + 1, acc + x), by simp only [go_sem, reduceIte, Nat.reduceEqDiff, Nat.reduceAdd, Nat.reduceSub, Nat.reduceLeDiff, Nat.reduceLT, reduceCtorEq, Int.reduceLT, Int.reduceLE, Int.reduceEq, Int.reduceBEq, Int.reduceSub, Int.reduceAdd, Int.reduceMul, Int.reduceNeg, Int.reduceToNat, Nat.reduceMul, Nat.reduceBEq, ren1_locm, loc_tips, locT_eq] <;> rfl, ?_, ?_, fun x en s hq => ?_⟩
        · dsimp only; exact ⟨by omega, by omega, by omega⟩
        · simp only; omega
        · simpa [p1, Int.add_assoc] using hq
      · simp only [go_sem, reduceIte, Nat.reduceEqDiff, Nat.reduceAdd, Nat.reduceSub, Nat.reduceLeDiff, Nat.reduceLT, reduceCtorEq, Int.reduceLT, Int.reduceLE, Int.reduceEq, Int.reduceBEq, Int.reduceSub, Int.reduceAdd, Int.reduceMul, Int.reduceNeg, Int.reduceToNat, Nat.reduceMul, Nat.reduceBEq, index_rsl_if, setm, make_ints, condK_dec, wantK_dec, not_dec, and_dec, or_dec, seqK_ite, seqK_none, blockK_ite, blockK_none, opsK_ite, opsK_none, stepK_ite, stepK_none, bodyK_ite, bodyK_none, resK_ite, resK_none, leaveK_ite, leaveK_none, only_ite, only_none, bind_ite, gives_some, gives_none, gives_ite, then_normal, then_ret, then_exit, then_none, then_ite, Option.bind_none, Bool.not_eq_true', decide_eq_false_iff_not, Bool.and_eq_true, Bool.or_eq_true, Option.some.injEq, Int.not_lt, Int.not_le, lp93_0, hx, hy, hlt, hs, p1, p2, List.length_map]
        refine ⟨(i + 1, acc), by simp only [go_sem, reduceIte, Nat.reduceEqDiff, Nat.reduceAdd, Nat.reduceSub, Nat.reduceLeDiff, Nat.reduceLT, reduceCtorEq, Int.reduceLT, Int.reduceLE, Int.reduceEq, Int.reduceBEq, Int.reduceSub, Int.reduceAdd, Int.reduceMul, Int.reduceNeg, Int.reduceToNat, Nat.reduceMul, Nat.reduceBEq, ren1_locm, loc_tips, locT_eq] <;> rfl, ?_, ?_, fun x en s hq => ?_⟩
        · dsimp only; exact ⟨by omega, by omega, by omega⟩
        · simp only; omega
        · simpa [p1, p2] using hq
  · have hd : (ps.zip s0).drop i = [] := List.drop_eq_nil_of_le (by rw [List.length_zip]; omega)
    have hlt : ((i : Int) < (s0.length : Int)) = False := eq_false (by omega)
    simp only [go_sem, reduceIte, Nat.reduceEqDiff, Nat.reduceAdd, Nat.reduceSub, Nat.reduceLeDiff, Nat.reduceLT, reduceCtorEq, Int.reduceLT, Int.reduceLE, Int.reduceEq, Int.reduceBEq, Int.reduceSub, Int.reduceAdd, Int.reduceMul, Int.reduceNeg, Int.reduceToNat, Nat.reduceMul, Nat.reduceBEq, index_rsl_if, setm, make_ints, condK_dec, wantK_dec, not_dec, and_dec, or_dec, seqK_ite, seqK_none, blockK_ite, blockK_none, opsK_ite, opsK_none, stepK_ite, stepK_none, bodyK_ite, bodyK_none, resK_ite, resK_none, leaveK_ite, leaveK_none, only_ite, only_none, bind_ite, gives_some, gives_none, gives_ite, then_normal, then_ret, then_exit, then_none, then_ite, Option.bind_none, Bool.not_eq_true', decide_eq_false_iff_not, Bool.and_eq_true, Bool.or_eq_true, Option.some.injEq, Int.not_lt, Int.not_le, lp93_0, hlt, List.length_map]
    rw [hd]; simp [loadOf]

/-- Does an article from one on have too much? -/
def overFrom (l : List ((Int × Int) × Int)) (n a : Nat) : Bool := (List.range' a (n - a)).any fun b => decide (2 < loadOf l (b : Int))
theorem loop93_1 (nl n2 : Bool) (n : Nat) (hn : n ≤ 7) (ps : List (Int × Int)) (hlen : ps.length ≤ 10) (s0 : List Int) (hsl : s0.length ≤ ps.length) (hb : ∀ x ∈ s0, 0 ≤ x ∧ x ≤ 2) (a : Nat) (hok : a ≤ n) (env : Env) (st : St)
    (hg : gcAV true 1 0 (canon env [1, 2, 5]) st = ([(1, sl 1 n2 (s0.map I)), (2, .ptr 0 0), (5, I a)], ⟨[bkCells nl n ps], []⟩)) :
    ∃ x_1 en s, lim (headed pure (run L) true [1, 2, 5] lp93_1 1 0) env st = some (x_1, en, s) ∧ (if overFrom (ps.zip s0) n a = true then x_1 = .ret ∧ en.get 4 = B true else x_1 = .exit 0) := by
  refine loop_wp (α := Nat) (fun a => n - a) (fun a => a ≤ n) (fun a => ([(1, sl 1 n2 (s0.map I)), (2, .ptr 0 0), (5, I a)], ⟨[bkCells nl n ps], []⟩)) (fun a x_1 en s => if overFrom (ps.zip s0) n a = true then x_1 = .ret ∧ en.get 4 = B true else x_1 = .exit 0) (fun a hok => ?_) a hok env st hg
  by_cases h : a < n
  · have hs := succ64 a (by omega)
    have hlt : ((a : Int) < (n : Int)) = True := eq_true (by omega)
    have e0 : overFrom (ps.zip s0) n a = (decide (2 < loadOf (ps.zip s0) (a : Int)) || overFrom (ps.zip s0) n (a + 1)) := by
      unfold overFrom
      rw [show n - a = (n - (a + 1)) + 1 by omega, List.range'_succ, List.any_cons]
    rw [e0]
    simp only [go_sem, reduceIte, Nat.reduceEqDiff, Nat.reduceAdd, Nat.reduceSub, Nat.reduceLeDiff, Nat.reduceLT, reduceCtorEq, Int.reduceLT, Int.reduceLE, Int.reduceEq, Int.reduceBEq, Int.reduceSub, Int.reduceAdd, Int.reduceMul, Int.reduceNeg, Int.reduceToNat, Nat.reduceMul, Nat.reduceBEq, index_rsl_if, setm, make_ints, condK_dec, wantK_dec, not_dec, and_dec, or_dec, seqK_ite, seqK_none, blockK_ite, blockK_none, opsK_ite, opsK_none, stepK_ite, stepK_none, bodyK_ite, bodyK_none, resK_ite, resK_none, leaveK_ite, leaveK_none, only_ite, only_none, bind_ite, gives_some, gives_none, gives_ite, then_normal, then_ret, then_exit, then_none, then_ite, Option.bind_none, Bool.not_eq_true', decide_eq_false_iff_not, Bool.and_eq_true, Bool.or_eq_true, Option.some.injEq, Int.not_lt, Int.not_le, lp93_1, hlt]
    generalize hg : lim (headed pure (run L) true _ lp93_0 _ _) _ _ = o
    obtain ⟨x, en, s, rfl, h2⟩ : ∃ x en s, o = some (x, en, s) ∧ _ := by rw [← hg]; exact loop93_0 nl n2 n ps hlen s0 hsl hb a 0 0 ⟨by omega, by omega, by omega⟩ _ _ (by simp only [go_sem, reduceIte, Nat.reduceEqDiff, Nat.reduceAdd, Nat.reduceSub, Nat.reduceLeDiff, Nat.reduceLT, reduceCtorEq, Int.reduceLT, Int.reduceLE, Int.reduceEq, Int.reduceBEq, Int.reduceSub, Int.reduceAdd, Int.reduceMul, Int.reduceNeg, Int.reduceToNat, Nat.reduceMul, Nat.reduceBEq, Int.natCast_zero] <;> rfl)
    clear hg
    obtain ⟨rfl, e1, e2, e5, e6, rfl⟩ := h2
    rw [List.drop_zero, Int.zero_add] at e6
    by_cases p : 2 < loadOf (ps.zip s0) (a : Int)
    · simp only [go_sem, reduceIte, Nat.reduceEqDiff, Nat.reduceAdd, Nat.reduceSub, Nat.reduceLeDiff, Nat.reduceLT, reduceCtorEq, Int.reduceLT, Int.reduceLE, Int.reduceEq, Int.reduceBEq, Int.reduceSub, Int.reduceAdd, Int.reduceMul, Int.reduceNeg, Int.reduceToNat, Nat.reduceMul, Nat.reduceBEq, index_rsl_if, setm, make_ints, condK_dec, wantK_dec, not_dec, and_dec, or_dec, seqK_ite, seqK_none, blockK_ite, blockK_none, opsK_ite, opsK_none, stepK_ite, stepK_none, bodyK_ite, bodyK_none, resK_ite, resK_none, leaveK_ite, leaveK_none, only_ite, only_none, bind_ite, gives_some, gives_none, gives_ite, then_normal, then_ret, then_exit, then_none, then_ite, Option.bind_none, Bool.not_eq_true', decide_eq_false_iff_not, Bool.and_eq_true, Bool.or_eq_true, Option.some.injEq, Int.not_lt, Int.not_le, lp93_1, e1, e2, e5, e6, p]
    · simp only [go_sem, reduceIte, Nat.reduceEqDiff, Nat.reduceAdd, Nat.reduceSub, Nat.reduceLeDiff, Nat.reduceLT, reduceCtorEq, Int.reduceLT, Int.reduceLE, Int.reduceEq, Int.reduceBEq, Int.reduceSub, Int.reduceAdd, Int.reduceMul, Int.reduceNeg, Int.reduceToNat, Nat.reduceMul, Nat.reduceBEq, index_rsl_if, setm, make_ints, condK_dec, wantK_dec, not_dec, and_dec, or_dec, seqK_ite, seqK_none, blockK_ite, blockK_none, opsK_ite, opsK_none, stepK_ite, stepK_none, bodyK_ite, bodyK_none, resK_ite, resK_none, leaveK_ite, leaveK_none, only_ite, only_none, bind_ite, gives_some, gives_none, gives_ite, then_normal, then_ret, then_exit, then_none, then_ite, Option.bind_none, Bool.not_eq_true', decide_eq_false_iff_not, Bool.and_eq_true, Bool.or_eq_true, Option.some.injEq, Int.not_lt, Int.not_le, lp93_1, e1, e2, e5, e6, p, hs]
      refine ⟨a + 1, by simp only [go_sem, reduceIte, Nat.reduceEqDiff, Nat.reduceAdd, Nat.reduceSub, Nat.reduceLeDiff, Nat.reduceLT, reduceCtorEq, Int.reduceLT, Int.reduceLE, Int.reduceEq, Int.reduceBEq, Int.reduceSub, Int.reduceAdd, Int.reduceMul, Int.reduceNeg, Int.reduceToNat, Nat.reduceMul, Nat.reduceBEq, ren1_locm, loc_tips, locT_eq, e1, e2] <;> rfl, ?_, ?_, fun x en s hq => ?_⟩
      · omega
      · omega
      · simpa using hq
  · have e0 : overFrom (ps.zip s0) n a = false := by unfold overFrom; rw [show n - a = 0 by omega]; rfl
    simp only [go_sem, reduceIte, Nat.reduceEqDiff, Nat.reduceAdd, Nat.reduceSub, Nat.reduceLeDiff, Nat.reduceLT, reduceCtorEq, Int.reduceLT, Int.reduceLE, Int.reduceEq, Int.reduceBEq, Int.reduceSub, Int.reduceAdd, Int.reduceMul, Int.reduceNeg, Int.reduceToNat, Nat.reduceMul, Nat.reduceBEq, index_rsl_if, setm, make_ints, condK_dec, wantK_dec, not_dec, and_dec, or_dec, seqK_ite, seqK_none, blockK_ite, blockK_none, opsK_ite, opsK_none, stepK_ite, stepK_none, bodyK_ite, bodyK_none, resK_ite, resK_none, leaveK_ite, leaveK_none, only_ite, only_none, bind_ite, gives_some, gives_none, gives_ite, then_normal, then_ret, then_exit, then_none, then_ite, Option.bind_none, Bool.not_eq_true', decide_eq_false_iff_not, Bool.and_eq_true, Bool.or_eq_true, Option.some.injEq, Int.not_lt, Int.not_le, lp93_1, show ((a : Int) < (n : Int)) = False from eq_false (by omega)]
    rw [e0]; simp

theorem c93 (nl n2 : Bool) (n : Nat) (hn : n ≤ 7) (ps : List (Int × Int)) (hlen : ps.length ≤ 10) (s0 : List Int) (hsl : s0.length ≤ ps.length) (hb : ∀ x ∈ s0, 0 ≤ x ∧ x ≤ 2) (st : St) :
    run L 93 [bkAV nl n ps, sl 1 n2 (s0.map I)] st = some (B (overFrom (ps.zip s0) n 0), st) := by
  rw [run_pure (fn := ir93) rfl rfl]
  simp only [ir93, go_sem, reduceIte, Nat.reduceEqDiff, Nat.reduceAdd, Nat.reduceSub, Nat.reduceLeDiff, Nat.reduceLT, reduceCtorEq, Int.reduceLT, Int.reduceLE, Int.reduceEq, Int.reduceBEq, Int.reduceSub, Int.reduceAdd, Int.reduceMul, Int.reduceNeg, Int.reduceToNat, Nat.reduceMul, Nat.reduceBEq]
  generalize hg : lim (headed pure (run L) true _ lp93_1 _ _) _ _ = o
  obtain ⟨x, en, s, rfl, h2⟩ : ∃ x en s, o = some (x, en, s) ∧ _ := by rw [← hg]; exact loop93_1 nl n2 n hn ps hlen s0 hsl hb 0 (by omega) _ _ (by simp only [go_sem, reduceIte, Nat.reduceEqDiff, Nat.reduceAdd, Nat.reduceSub, Nat.reduceLeDiff, Nat.reduceLT, reduceCtorEq, Int.reduceLT, Int.reduceLE, Int.reduceEq, Int.reduceBEq, Int.reduceSub, Int.reduceAdd, Int.reduceMul, Int.reduceNeg, Int.reduceToNat, Nat.reduceMul, Nat.reduceBEq, Int.natCast_zero] <;> rfl)
  clear hg
  cases h : overFrom (ps.zip s0) n 0
  · rw [h, if_neg (by simp)] at h2
    subst h2
    simp only [go_sem, reduceIte, Nat.reduceEqDiff, Nat.reduceAdd, Nat.reduceSub, Nat.reduceLeDiff, Nat.reduceLT, reduceCtorEq, Int.reduceLT, Int.reduceLE, Int.reduceEq, Int.reduceBEq, Int.reduceSub, Int.reduceAdd, Int.reduceMul, Int.reduceNeg, Int.reduceToNat, Nat.reduceMul, Nat.reduceBEq]
  · rw [h, if_pos rfl] at h2
    obtain ⟨rfl, h3⟩ := h2
    simp only [go_sem, reduceIte, Nat.reduceEqDiff, Nat.reduceAdd, Nat.reduceSub, Nat.reduceLeDiff, Nat.reduceLT, reduceCtorEq, Int.reduceLT, Int.reduceLE, Int.reduceEq, Int.reduceBEq, Int.reduceSub, Int.reduceAdd, Int.reduceMul, Int.reduceNeg, Int.reduceToNat, Nat.reduceMul, Nat.reduceBEq, h3]


/-- All shares that begin with some. -/
def shF (n : Nat) (ps : List (Int × Int)) : Nat → List Int → List (List Int)
  | 0, b => [b]
  | k + 1, b => (List.range' 0 3).flatMap fun (x : Nat) => if overFrom (ps.zip (b ++ [(x : Int)])) n 0 = true then [] else shF n ps k (b ++ [(x : Int)])
def shL (n : Nat) (ps : List (Int × Int)) (k : Nat) (b : List Int) (v : Nat) : List (List Int) := (List.range' v (3 - v)).flatMap fun (x : Nat) => if overFrom (ps.zip (b ++ [(x : Int)])) n 0 = true then [] else shF n ps k (b ++ [(x : Int)])
theorem shL_zero (n : Nat) (ps : List (Int × Int)) (k : Nat) (b : List Int) : shL n ps k b 0 = shF n ps (k + 1) b := rfl
theorem shL_step (n : Nat) (ps : List (Int × Int)) (k : Nat) (b : List Int) (v : Nat) (h : v < 3) : shL n ps k b v = (if overFrom (ps.zip (b ++ [(v : Int)])) n 0 = true then [] else shF n ps k (b ++ [(v : Int)])) ++ shL n ps k b (v + 1) := by
  unfold shL
  rw [show 3 - v = (3 - (v + 1)) + 1 by omega, List.range'_succ, List.flatMap_cons]
theorem shL_end (n : Nat) (ps : List (Int × Int)) (k : Nat) (b : List Int) : shL n ps k b 3 = [] := rfl
theorem shF_len (n : Nat) (ps : List (Int × Int)) : ∀ k b, (shF n ps k b).length ≤ 3 ^ k
  | 0, b => by simp [shF]
  | k + 1, b => by
    have h : ∀ x : Nat, (if overFrom (ps.zip (b ++ [(x : Int)])) n 0 = true then [] else shF n ps k (b ++ [(x : Int)])).length ≤ 3 ^ k := by
      intro x; split
      · simp
      · exact shF_len n ps k _
    have h0 := h 0
    have h1 := h 1
    have h2 := h 2
    simp only [shF, show List.range' 0 3 = [0, 1, 2] from rfl, List.flatMap_cons, List.flatMap_nil, List.length_append, List.length_nil, Nat.pow_succ]
    omega
/-! ### a list of lists that grows -/
def lAV (o : List (List Int)) : AV := loc 1 0 (o.map listAV)
def lT (o : List (List Int)) : List Nat := locT 0 (o.map listAV)
theorem okRef_l (n : Nat) (o : List (List Int)) : okRef n (lAV o) = true := okRef_loc _ _ _ _
theorem fin_l (st : St) (o : List (List Int)) : fin st (lAV o) = sl 1 true (o.map listAV) := fin_loc st 1 0 _
theorem ren1_l (o : List (List Int)) (T : List Nat) : (ren1 0 (lT o ++ T) [] (lAV o)).1 = lAV o ∧ ((ren1 0 (lT o ++ T) [] (lAV o)).2).map (fun x => x.2) = lT o := by
  unfold lAV lT loc locT
  split
  · exact ⟨rfl, rfl⟩
  · simp [ren1]
theorem ren1_l0 (o : List (List Int)) : (ren1 0 (lT o) [] (lAV o)).1 = lAV o ∧ ((ren1 0 (lT o) [] (lAV o)).2).map (fun x => x.2) = lT o := by
  have := ren1_l o []
  rwa [List.append_nil] at this
theorem append_l0 (o : List (List Int)) (st : St) : appendAV 1 (lAV o) [] st = some (lAV o, st) := by
  unfold lAV loc
  split
  · simp [appendAV]
  · simp [appendAV]
theorem append_lm (o G : List (List Int)) (h : o.length + G.length ≤ 100000) (T : List Nat) : ∃ new T', (∀ S, appendAV 1 (lAV o) (G.map listAV) ⟨S, lT o ++ T⟩ = some (new, ⟨S, T'⟩)) ∧ (∀ n, okRef n new = true) ∧ (ren1 0 T' [] new).1 = lAV (o ++ G) ∧ ((ren1 0 T' [] new).2).map (fun x => x.2) = lT (o ++ G) := by
  cases G with
  | nil =>
    refine ⟨lAV o, lT o ++ T, fun S => append_l0 o _, fun n => okRef_l n o, ?_⟩
    rw [List.append_nil]
    exact ren1_l o T
  | cons g r =>
    have hm : o.length + (r.length + 1) ≤ maxGrow := by unfold maxGrow; simp only [List.length_cons] at h; omega
    cases o with
    | nil =>
      refine ⟨.lst (.own T.length (r.length + 1)) 1 ((g :: r).map listAV), T ++ [r.length + 1], fun S => ?_, fun n => rfl, ?_⟩
      · have hm' : r.length + 1 ≤ maxGrow := by simp at hm; exact hm
        simp [lAV, lT, loc, locT, appendAV, hm']
      · simp [lAV, lT, loc, locT, ren1]
    | cons x o =>
      refine ⟨.lst (.own 0 (o.length + 1 + (r.length + 1))) 1 ((x :: o).map listAV ++ (g :: r).map listAV), (o.length + 1 + (r.length + 1)) :: T, fun S => ?_, fun n => rfl, ?_⟩
      · have hm' : o.length + 1 + (r.length + 1) ≤ maxGrow := by simpa using hm
        simp [lAV, lT, loc, locT, appendAV, hm']
      · simp [lAV, lT, loc, locT, ren1, Nat.add_assoc]
theorem l_start : .v (.slice none 0 0) = lAV [] := rfl
theorem lT_nil : lT [] = [] := rfl
attribute [local go_sem] okRef_l fin_l

set_option maxHeartbeats 1000000 in
theorem loop113 (nb nl : Bool) (n : Nat) (hn : n ≤ 7) (ps : List (Int × Int)) (hlen : ps.length ≤ 10) (b : List Int) (k : Nat) (hk : k ≤ 9) (hbl : b.length + (k + 1) = ps.length) (hbb : ∀ x ∈ b, 0 ≤ x ∧ x ≤ 2) (hrec : ∀ x : Nat, x < 3 → ∀ st, run L 113 [bkAV nb n ps, sl 1 false ((b ++ [(x : Int)]).map I)] st = some (sl 1 true ((shF n ps k (b ++ [(x : Int)])).map listAV), st)) (v : Nat) (out : List (List Int)) (hok : v ≤ 3 ∧ out.length + (shL n ps k b v).length ≤ 60000) (env : Env) (st : St)
    (hg : gcAV true 1 0 (canon env [1, 2, 5, 6]) st = ([(1, sl 1 nl (b.map I)), (2, .ptr 0 0), (5, lAV out), (6, I v)], ⟨[bkCells nb n ps], lT out⟩)) :
    ∃ x_1 en s, lim (headed pure (run L) true [1, 2, 5, 6] lp113_0 1 0) env st = some (x_1, en, s) ∧ (x_1 = .exit 0 ∧ en.get 5 = lAV (out ++ shL n ps k b v)) := by
  refine loop_wp (α := Nat × List (List Int)) (fun ⟨v, out⟩ => 3 - v) (fun ⟨v, out⟩ => v ≤ 3 ∧ out.length + (shL n ps k b v).length ≤ 60000) (fun ⟨v, out⟩ => ([(1, sl 1 nl (b.map I)), (2, .ptr 0 0), (5, lAV out), (6, I v)], ⟨[bkCells nb n ps], lT out⟩)) (fun ⟨v, out⟩ x_1 en s => x_1 = .exit 0 ∧ en.get 5 = lAV (out ++ shL n ps k b v)) (fun ⟨v, out⟩ hok => ?_) ⟨v, out⟩ hok env st hg
  simp only at hok
  obtain ⟨hv, hok⟩ := hok
  dsimp only
  by_cases q : v < 3
  · have q' : ((v : Int) ≤ 2) = True := eq_true (by omega)
    have hr := hrec v q
    have hs := succ64 v (by omega)
    have hst := shL_step n ps k b v q
    have hb3 : ∀ x ∈ b ++ [(v : Int)], 0 ≤ x ∧ x ≤ 2 := by
      intro x hx
      rcases List.mem_append.1 hx with hx | hx
      · exact hbb x hx
      · simp at hx; subst hx; omega
    have h93 : ∀ g st, run L 93 [bkAV nb n ps, .lst g 1 ((b ++ [(v : Int)]).map I)] st = some (B (overFrom (ps.zip (b ++ [(v : Int)])) n 0), st) := by
      intro g st
      rw [← c93 nb false n hn ps hlen (b ++ [(v : Int)]) (by simp; omega) hb3 st]
      exact run_args (fn := ir93) rfl rfl st (by simp only [pubs, pub, pub_sl]; rw [sl_false])
    have h113 : ∀ g st, run L 113 [bkAV nb n ps, .lst g 1 ((b ++ [(v : Int)]).map I)] st = some (sl 1 true ((shF n ps k (b ++ [(v : Int)])).map listAV), st) := by
      intro g st
      rw [← hr st]
      exact run_args (fn := ir113) rfl rfl st (by simp only [pubs, pub, pub_sl]; rw [sl_false])
    have hmeas : 3 - (v + 1) < 3 - v := by omega
    obtain ⟨r1, r2⟩ := ren1_l out [b.length + 1]
    generalize overFrom (ps.zip (b ++ [(v : Int)])) n 0 = ov at *
    generalize shF n ps k (b ++ [(v : Int)]) = G at *
    -- what the body does with the list that has one number more, for whatever it is over
    cases ov
    · rw [if_neg (by simp)] at hst
      rw [hst] at hok ⊢
      rw [List.length_append] at hok
      obtain ⟨new, T', k1, k2, k3, k4⟩ := append_lm out G (by omega) [b.length + 1]
      have hok' : v + 1 ≤ 3 ∧ (out ++ G).length + (shL n ps k b (v + 1)).length ≤ 60000 := by
        rw [List.length_append]; exact ⟨by omega, by omega⟩
      rw [← List.append_assoc]
      by_cases hbn : b = []
      · subst hbn
        have h33 := fun st => copy_nil 1 st
        have h36 := fun st => copy_some (z := 1) (xs := [I (v : Int)]) (by simp) (by simp [maxGrow]) st
        simp only [List.nil_append, List.map_cons, List.map_nil, List.length_nil, Nat.zero_add] at h113 h93 k1
        simp only [go_sem, reduceIte, Nat.reduceEqDiff, Nat.reduceAdd, Nat.reduceSub, Nat.reduceLeDiff, Nat.reduceLT, reduceCtorEq, Int.reduceLT, Int.reduceLE, Int.reduceEq, Int.reduceBEq, Int.reduceSub, Int.reduceAdd, Int.reduceMul, Int.reduceNeg, Int.reduceToNat, Nat.reduceMul, Nat.reduceBEq, index_rsl_if, setm, make_ints, condK_dec, wantK_dec, not_dec, and_dec, or_dec, seqK_ite, seqK_none, blockK_ite, blockK_none, opsK_ite, opsK_none, stepK_ite, stepK_none, bodyK_ite, bodyK_none, resK_ite, resK_none, leaveK_ite, leaveK_none, only_ite, only_none, bind_ite, gives_some, gives_none, gives_ite, then_normal, then_ret, then_exit, then_none, then_ite, Option.bind_none, Bool.not_eq_true', decide_eq_false_iff_not, Bool.and_eq_true, Bool.or_eq_true, Option.some.injEq, Int.not_lt, Int.not_le, lp113_0, q', h33, h36, h93, h113, hs, k1, List.length_cons, List.length_nil, List.map_nil]
        refine ⟨(v + 1, out ++ G), by simp only [go_sem, reduceIte, Nat.reduceEqDiff, Nat.reduceAdd, Nat.reduceSub, Nat.reduceLeDiff, Nat.reduceLT, reduceCtorEq, Int.reduceLT, Int.reduceLE, Int.reduceEq, Int.reduceBEq, Int.reduceSub, Int.reduceAdd, Int.reduceMul, Int.reduceNeg, Int.reduceToNat, Nat.reduceMul, Nat.reduceBEq, ren1_locm, loc_tips, locT_eq, k2, k3, k4] <;> rfl, ?_, ?_, fun x en s hq => ?_⟩
        · exact hok'
        · exact hmeas
        · exact hq
      · have hbm : b.map I ≠ [] := by simpa using hbn
        have h33 := fun st => copy_some (z := 1) hbm (by simp [maxGrow]; omega) st
        have h36 : ∀ s T, appendAV 1 (.lst (.own T.length b.length) 1 (b.map I)) [I (v : Int)] ⟨s, T ++ [b.length]⟩ = some (.lst (.own T.length (b.length + 1)) 1 ((b ++ [(v : Int)]).map I), ⟨s, T ++ [b.length + 1]⟩) := by
          intro s T
          have := copy_one (z := 1) (xs := b.map I) (I (v : Int)) s T (by simp [maxGrow]; omega)
          simpa using this
        simp only [go_sem, reduceIte, Nat.reduceEqDiff, Nat.reduceAdd, Nat.reduceSub, Nat.reduceLeDiff, Nat.reduceLT, reduceCtorEq, Int.reduceLT, Int.reduceLE, Int.reduceEq, Int.reduceBEq, Int.reduceSub, Int.reduceAdd, Int.reduceMul, Int.reduceNeg, Int.reduceToNat, Nat.reduceMul, Nat.reduceBEq, index_rsl_if, setm, make_ints, condK_dec, wantK_dec, not_dec, and_dec, or_dec, seqK_ite, seqK_none, blockK_ite, blockK_none, opsK_ite, opsK_none, stepK_ite, stepK_none, bodyK_ite, bodyK_none, resK_ite, resK_none, leaveK_ite, leaveK_none, only_ite, only_none, bind_ite, gives_some, gives_none, gives_ite, then_normal, then_ret, then_exit, then_none, then_ite, Option.bind_none, Bool.not_eq_true', decide_eq_false_iff_not, Bool.and_eq_true, Bool.or_eq_true, Option.some.injEq, Int.not_lt, Int.not_le, lp113_0, q', h33, h36, h93, h113, hs, k1, List.length_map]
        refine ⟨(v + 1, out ++ G), by simp only [go_sem, reduceIte, Nat.reduceEqDiff, Nat.reduceAdd, Nat.reduceSub, Nat.reduceLeDiff, Nat.reduceLT, reduceCtorEq, Int.reduceLT, Int.reduceLE, Int.reduceEq, Int.reduceBEq, Int.reduceSub, Int.reduceAdd, Int.reduceMul, Int.reduceNeg, Int.reduceToNat, Nat.reduceMul, Nat.reduceBEq, ren1_locm, loc_tips, locT_eq, k2, k3, k4] <;> rfl, ?_, ?_, fun x en s hq => ?_⟩
        · exact hok'
        · exact hmeas
        · exact hq
    · rw [if_pos rfl, List.nil_append] at hst
      rw [hst] at hok ⊢
      by_cases hbn : b = []
      · subst hbn
        have h33 := fun st => copy_nil 1 st
        have h36 := fun st => copy_some (z := 1) (xs := [I (v : Int)]) (by simp) (by simp [maxGrow]) st
        simp only [List.nil_append, List.map_cons, List.map_nil, List.length_nil, Nat.zero_add] at h93 r1 r2
        simp only [go_sem, reduceIte, Nat.reduceEqDiff, Nat.reduceAdd, Nat.reduceSub, Nat.reduceLeDiff, Nat.reduceLT, reduceCtorEq, Int.reduceLT, Int.reduceLE, Int.reduceEq, Int.reduceBEq, Int.reduceSub, Int.reduceAdd, Int.reduceMul, Int.reduceNeg, Int.reduceToNat, Nat.reduceMul, Nat.reduceBEq, index_rsl_if, setm, make_ints, condK_dec, wantK_dec, not_dec, and_dec, or_dec, seqK_ite, seqK_none, blockK_ite, blockK_none, opsK_ite, opsK_none, stepK_ite, stepK_none, bodyK_ite, bodyK_none, resK_ite, resK_none, leaveK_ite, leaveK_none, only_ite, only_none, bind_ite, gives_some, gives_none, gives_ite, then_normal, then_ret, then_exit, then_none, then_ite, Option.bind_none, Bool.not_eq_true', decide_eq_false_iff_not, Bool.and_eq_true, Bool.or_eq_true, Option.some.injEq, Int.not_lt, Int.not_le, lp113_0, q', h33, h36, h93, hs, List.length_cons, List.length_nil, List.map_nil]
        refine ⟨(v + 1, out), by simp only [go_sem, reduceIte, Nat.reduceEqDiff, Nat.reduceAdd, Nat.reduceSub, Nat.reduceLeDiff, Nat.reduceLT, reduceCtorEq, Int.reduceLT, Int.reduceLE, Int.reduceEq, Int.reduceBEq, Int.reduceSub, Int.reduceAdd, Int.reduceMul, Int.reduceNeg, Int.reduceToNat, Nat.reduceMul, Nat.reduceBEq, ren1_locm, loc_tips, locT_eq, r1, r2] <;> rfl, ?_, ?_, fun x en s hq => ?_⟩
        · exact ⟨by omega, hok⟩
        · exact hmeas
        · exact hq
      · have hbm : b.map I ≠ [] := by simpa using hbn
        have h33 := fun st => copy_some (z := 1) hbm (by simp [maxGrow]; omega) st
        have h36 : ∀ s T, appendAV 1 (.lst (.own T.length b.length) 1 (b.map I)) [I (v : Int)] ⟨s, T ++ [b.length]⟩ = some (.lst (.own T.length (b.length + 1)) 1 ((b ++ [(v : Int)]).map I), ⟨s, T ++ [b.length + 1]⟩) := by
          intro s T
          have := copy_one (z := 1) (xs := b.map I) (I (v : Int)) s T (by simp [maxGrow]; omega)
          simpa using this
        simp only [go_sem, reduceIte, Nat.reduceEqDiff, Nat.reduceAdd, Nat.reduceSub, Nat.reduceLeDiff, Nat.reduceLT, reduceCtorEq, Int.reduceLT, Int.reduceLE, Int.reduceEq, Int.reduceBEq, Int.reduceSub, Int.reduceAdd, Int.reduceMul, Int.reduceNeg, Int.reduceToNat, Nat.reduceMul, Nat.reduceBEq, index_rsl_if, setm, make_ints, condK_dec, wantK_dec, not_dec, and_dec, or_dec, seqK_ite, seqK_none, blockK_ite, blockK_none, opsK_ite, opsK_none, stepK_ite, stepK_none, bodyK_ite, bodyK_none, resK_ite, resK_none, leaveK_ite, leaveK_none, only_ite, only_none, bind_ite, gives_some, gives_none, gives_ite, then_normal, then_ret, then_exit, then_none, then_ite, Option.bind_none, Bool.not_eq_true', decide_eq_false_iff_not, Bool.and_eq_true, Bool.or_eq_true, Option.some.injEq, Int.not_lt, Int.not_le, lp113_0, q', h33, h36, h93, hs, List.length_map]
        refine ⟨(v + 1, out), by simp only [go_sem, reduceIte, Nat.reduceEqDiff, Nat.reduceAdd, Nat.reduceSub, Nat.reduceLeDiff, Nat.reduceLT, reduceCtorEq, Int.reduceLT, Int.reduceLE, Int.reduceEq, Int.reduceBEq, Int.reduceSub, Int.reduceAdd, Int.reduceMul, Int.reduceNeg, Int.reduceToNat, Nat.reduceMul, Nat.reduceBEq, ren1_locm, loc_tips, locT_eq, r1, r2] <;> rfl, ?_, ?_, fun x en s hq => ?_⟩
        · exact ⟨by omega, hok⟩
        · exact hmeas
        · exact hq
  · obtain rfl : v = 3 := by omega
    simp only [go_sem, reduceIte, Nat.reduceEqDiff, Nat.reduceAdd, Nat.reduceSub, Nat.reduceLeDiff, Nat.reduceLT, reduceCtorEq, Int.reduceLT, Int.reduceLE, Int.reduceEq, Int.reduceBEq, Int.reduceSub, Int.reduceAdd, Int.reduceMul, Int.reduceNeg, Int.reduceToNat, Nat.reduceMul, Nat.reduceBEq, index_rsl_if, setm, make_ints, condK_dec, wantK_dec, not_dec, and_dec, or_dec, seqK_ite, seqK_none, blockK_ite, blockK_none, opsK_ite, opsK_none, stepK_ite, stepK_none, bodyK_ite, bodyK_none, resK_ite, resK_none, leaveK_ite, leaveK_none, only_ite, only_none, bind_ite, gives_some, gives_none, gives_ite, then_normal, then_ret, then_exit, then_none, then_ite, Option.bind_none, Bool.not_eq_true', decide_eq_false_iff_not, Bool.and_eq_true, Bool.or_eq_true, Option.some.injEq, Int.not_lt, Int.not_le, lp113_0, show (((3 : Nat) : Int) ≤ 2) = False from eq_false (by omega)]
    simp [shL_end]

theorem c113 (nb : Bool) (n : Nat) (hn : n ≤ 7) (ps : List (Int × Int)) (hlen : ps.length ≤ 10) : ∀ (k : Nat) (nl : Bool) (b : List Int), b.length + k = ps.length → (∀ x ∈ b, 0 ≤ x ∧ x ≤ 2) → (nl = true → b = [] → k ≠ 0) → ∀ st,
    run L 113 [bkAV nb n ps, sl 1 nl (b.map I)] st = some (sl 1 true ((shF n ps k b).map listAV), st) := by
  intro k
  induction k with
  | zero =>
    intro nl b hb hbb hnl st
    rw [run_pure (fn := ir113) rfl rfl]
    have p : ((b.length : Int) = (ps.length : Int)) = True := eq_true (by omega)
    have e : sl 1 nl (b.map I) = listAV b := by
      show (if nl = true ∧ b.map I = [] then AV.v (.slice none 0 0) else AV.lst .any 1 (b.map I)) = listAV b
      rw [if_neg (fun h => absurd rfl (hnl h.1 (by simpa using h.2))), sl_false]
    simp only [ir113, go_sem, reduceIte, Nat.reduceEqDiff, Nat.reduceAdd, Nat.reduceSub, Nat.reduceLeDiff, Nat.reduceLT, reduceCtorEq, Int.reduceLT, Int.reduceLE, Int.reduceEq, Int.reduceBEq, Int.reduceSub, Int.reduceAdd, Int.reduceMul, Int.reduceNeg, Int.reduceToNat, Nat.reduceMul, Nat.reduceBEq, p, List.length_map]
    rw [e]
    simp [shF, sl]
  | succ k ih =>
    intro nl b hb hbb hnl st
    rw [run_pure (fn := ir113) rfl rfl]
    have p : ((b.length : Int) = (ps.length : Int)) = False := eq_false (by omega)
    have hrec : ∀ x : Nat, x < 3 → ∀ st, run L 113 [bkAV nb n ps, sl 1 false ((b ++ [(x : Int)]).map I)] st = some (sl 1 true ((shF n ps k (b ++ [(x : Int)])).map listAV), st) := by
      intro x hx st
      refine ih false (b ++ [(x : Int)]) (by simp; omega) ?_ (by simp) st
      intro y hy
      rcases List.mem_append.1 hy with hy | hy
      · exact hbb y hy
      · simp at hy; subst hy; omega
    have hcl := shF_len n ps (k + 1) b
    have hpow : 3 ^ (k + 1) ≤ 59049 := Nat.le_trans (Nat.pow_le_pow_right (by omega) (show k + 1 ≤ 10 by omega)) (by decide)
    have e0 := ren1_l0 []
    simp only [ir113, go_sem, reduceIte, Nat.reduceEqDiff, Nat.reduceAdd, Nat.reduceSub, Nat.reduceLeDiff, Nat.reduceLT, reduceCtorEq, Int.reduceLT, Int.reduceLE, Int.reduceEq, Int.reduceBEq, Int.reduceSub, Int.reduceAdd, Int.reduceMul, Int.reduceNeg, Int.reduceToNat, Nat.reduceMul, Nat.reduceBEq, p, List.length_map]
    generalize hg : lim (headed pure (run L) true _ lp113_0 _ _) _ _ = o
    obtain ⟨x, en, s, rfl, h2⟩ : ∃ x en s, o = some (x, en, s) ∧ _ := by rw [← hg]; exact loop113 nb nl n hn ps hlen b k (by omega) (by omega) hbb hrec 0 [] ⟨by omega, by rw [shL_zero]; simp; omega⟩ _ _ (by simp only [go_sem, reduceIte, Nat.reduceEqDiff, Nat.reduceAdd, Nat.reduceSub, Nat.reduceLeDiff, Nat.reduceLT, reduceCtorEq, Int.reduceLT, Int.reduceLE, Int.reduceEq, Int.reduceBEq, Int.reduceSub, Int.reduceAdd, Int.reduceMul, Int.reduceNeg, Int.reduceToNat, Nat.reduceMul, Nat.reduceBEq, l_start, lT_nil] <;> rfl)
    clear hg
    obtain ⟨rfl, h3⟩ := h2
    rw [shL_zero, List.nil_append] at h3
    simp only [go_sem, reduceIte, Nat.reduceEqDiff, Nat.reduceAdd, Nat.reduceSub, Nat.reduceLeDiff, Nat.reduceLT, reduceCtorEq, Int.reduceLT, Int.reduceLE, Int.reduceEq, Int.reduceBEq, Int.reduceSub, Int.reduceAdd, Int.reduceMul, Int.reduceNeg, Int.reduceToNat, Nat.reduceMul, Nat.reduceBEq, h3]


/-! ### the two ways to see that an article has too much -/
theorem fold_getD {n : Nat} (hn : n ≤ 7) : ∀ (l : List ((Int × Int) × Int)) (o : List Int) (a : Nat), o.length = 7 → (∀ e ∈ l, 0 ≤ e.1.1 ∧ e.1.1 < e.1.2 ∧ e.1.2 < (n : Int)) → (l.foldl has1 o).getD a 0 = o.getD a 0 + loadOf l (a : Int)
  | [], o, a, _, _ => by simp [loadOf]
  | e :: r, o, a, ho, h => by
    have he := h e (by simp)
    rw [List.foldl_cons, fold_getD hn r _ a (by rw [has1_len, ho]) (fun x hx => h x (by simp [hx]))]
    unfold has1
    rw [addAt_getD _ _ _ _ (by rw [addAt_len]; omega), addAt_getD _ _ _ _ (by omega)]
    simp only [loadOf]
    by_cases p1 : a = e.1.2.toNat
    · rw [if_pos p1, if_neg (by omega), if_pos (by right; omega)]; omega
    · rw [if_neg p1]
      by_cases p2 : a = e.1.1.toNat
      · rw [if_pos p2, if_pos (by left; omega)]; omega
      · rw [if_neg p2, if_neg (by omega)]; omega
theorem load_out {n : Nat} : ∀ (l : List ((Int × Int) × Int)) (a : Nat), n ≤ a → (∀ e ∈ l, 0 ≤ e.1.1 ∧ e.1.1 < e.1.2 ∧ e.1.2 < (n : Int)) → loadOf l (a : Int) = 0
  | [], _, _, _ => rfl
  | e :: r, a, ha, h => by
    have he := h e (by simp)
    simp only [loadOf]
    rw [load_out r a ha (fun x hx => h x (by simp [hx])), if_neg (by omega)]; rfl
theorem zip_ok {n : Nat} {ps : List (Int × Int)} (hps : ∀ p ∈ ps, 0 ≤ p.1 ∧ p.1 < p.2 ∧ p.2 < (n : Int)) (s : List Int) : ∀ e ∈ ps.zip s, 0 ≤ e.1.1 ∧ e.1.1 < e.1.2 ∧ e.1.2 < (n : Int) := fun e he => hps _ (List.of_mem_zip he).1
theorem over_iff {n : Nat} (l : List ((Int × Int) × Int)) : overFrom l n 0 = true ↔ ∃ a : Nat, a < n ∧ 2 < loadOf l (a : Int) := by
  unfold overFrom
  rw [List.any_eq_true]
  constructor
  · rintro ⟨a, h1, h2⟩
    rw [List.mem_range'_1] at h1
    exact ⟨a, by omega, of_decide_eq_true h2⟩
  · rintro ⟨a, h1, h2⟩
    exact ⟨a, by rw [List.mem_range'_1]; omega, decide_eq_true h2⟩
theorem over_eq {n : Nat} (hn : n ≤ 7) {ps : List (Int × Int)} (hps : ∀ p ∈ ps, 0 ≤ p.1 ∧ p.1 < p.2 ∧ p.2 < (n : Int)) (s : List Int) : overFrom (ps.zip s) n 0 = overB ps s := by
  rw [Bool.eq_iff_iff, over_iff]
  unfold overB
  rw [List.any_eq_true]
  have hl : (hasL ps s).length = 7 := by unfold hasL; rw [fold_len]; simp
  have hg : ∀ a : Nat, a < 7 → (hasL ps s).getD a 0 = loadOf (ps.zip s) (a : Int) := by
    intro a ha
    unfold hasL
    rw [fold_getD hn _ _ _ (by simp) (zip_ok hps s), List.getD_eq_getElem?_getD, List.getElem?_replicate]
    split <;> simp
  constructor
  · rintro ⟨a, h1, h2⟩
    have ha : a < 7 := by omega
    rw [← hg a ha, List.getD_eq_getElem?_getD, List.getElem?_eq_getElem (by omega)] at h2
    exact ⟨(hasL ps s)[a]'(by omega), List.getElem_mem _, decide_eq_true (by simpa using h2)⟩
  · rintro ⟨x, hx, h2⟩
    obtain ⟨a, ha, rfl⟩ := List.getElem_of_mem hx
    have h3 := hg a (by omega)
    rw [List.getD_eq_getElem?_getD, List.getElem?_eq_getElem ha] at h3
    have h4 : (hasL ps s)[a] = loadOf (ps.zip s) (a : Int) := by simpa using h3
    have h5 := of_decide_eq_true h2
    rw [h4] at h5
    rcases Nat.lt_or_ge a n with h6 | h6
    · exact ⟨a, h6, h5⟩
    · rw [load_out _ a h6 (zip_ok hps s)] at h5; omega

/-! ### all shares -/
theorem load_append : ∀ (l r : List ((Int × Int) × Int)) (a : Int), loadOf (l ++ r) a = loadOf l a + loadOf r a
  | [], r, a => by simp [loadOf]
  | e :: l, r, a => by simp only [List.cons_append, loadOf, load_append l r a]; omega
theorem load_zip_le {ps : List (Int × Int)} (b t : List Int) (ht : ∀ x ∈ t, 0 ≤ x) (a : Int) : loadOf (ps.zip b) a ≤ loadOf (ps.zip (b ++ t)) a := by
  have hn : ∀ l : List ((Int × Int) × Int), (∀ e ∈ l, 0 ≤ e.2) → 0 ≤ loadOf l a := by
    intro l
    induction l with
    | nil => intro _; simp [loadOf]
    | cons e r ih =>
      intro h
      have h1 := h e (by simp)
      have h2 := ih (fun x hx => h x (by simp [hx]))
      simp only [loadOf]; split <;> omega
  rcases Nat.lt_or_ge b.length ps.length with h | h
  · have e : ps.zip (b ++ t) = (ps.take b.length).zip b ++ (ps.drop b.length).zip t := by
      have := List.zip_append (l₁ := ps.take b.length) (r₁ := ps.drop b.length) (l₂ := b) (r₂ := t) (by simp; omega)
      rw [List.take_append_drop] at this
      exact this
    have e2 : ps.zip b = (ps.take b.length).zip b := by
      have := List.zip_append (l₁ := ps.take b.length) (r₁ := ps.drop b.length) (l₂ := b) (r₂ := []) (by simp; omega)
      rw [List.take_append_drop, List.append_nil, List.zip_nil_right, List.append_nil] at this
      exact this
    rw [e, e2, load_append]
    have := hn ((ps.drop b.length).zip t) (fun e he => ht _ (List.of_mem_zip he).2)
    omega
  · have e : ps.zip (b ++ t) = ps.zip b := by
      have : ∀ (ps : List (Int × Int)) (b : List Int), ps.length ≤ b.length → ps.zip (b ++ t) = ps.zip b := by
        intro ps
        induction ps with
        | nil => intro b _; simp
        | cons p r ih =>
          intro b h
          cases b with
          | nil => simp at h
          | cons y b => simp only [List.cons_append, List.zip_cons_cons]; rw [ih b (by simpa using h)]
      exact this ps b h
    rw [e]; exact Int.le_refl _
/-- What the shares that begin with some are. -/
theorem mem_shF {n : Nat} {ps : List (Int × Int)} : ∀ (k : Nat) (b l : List Int), b.length + k = ps.length → (l ∈ shF n ps k b ↔ ∃ t : List Int, l = b ++ t ∧ t.length = k ∧ (∀ x ∈ t, 0 ≤ x ∧ x ≤ 2) ∧ (k = 0 ∨ overFrom (ps.zip l) n 0 = false))
  | 0, b, l, _ => by
    simp only [shF, List.mem_singleton]
    constructor
    · rintro rfl; exact ⟨[], by simp, rfl, by simp, .inl trivial⟩
    · rintro ⟨t, rfl, ht, _⟩
      have : t = [] := List.eq_nil_of_length_eq_zero ht
      simp [this]
  | k + 1, b, l, hb => by
    simp only [shF, List.mem_flatMap, List.mem_range'_1]
    constructor
    · rintro ⟨x, hx, hl⟩
      split at hl
      · simp at hl
      · next ho =>
        obtain ⟨t, h1, h2, h3, h4⟩ := (mem_shF k (b ++ [(x : Int)]) l (by simp; omega)).1 hl
        refine ⟨(x : Int) :: t, by rw [h1]; simp, by simp [h2], ?_, ?_⟩
        · intro y hy
          rcases List.mem_cons.1 hy with rfl | hy
          · omega
          · exact h3 y hy
        · right
          rcases h4 with h4 | h4
          · have : t = [] := List.eq_nil_of_length_eq_zero (by omega)
            subst this
            rw [List.append_nil] at h1
            rw [h1]; simpa using ho
          · exact h4
    · rintro ⟨t, h1, h2, h3, h4⟩
      cases t with
      | nil => simp at h2
      | cons y t =>
        have hy := h3 y (by simp)
        obtain ⟨x, rfl⟩ := Int.eq_ofNat_of_zero_le hy.1
        have h4' : overFrom (ps.zip l) n 0 = false := by
          rcases h4 with h4 | h4
          · omega
          · exact h4
        have e : l = (b ++ [(x : Int)]) ++ t := by rw [h1]; simp
        refine ⟨x, by omega, ?_⟩
        have ho : ¬ overFrom (ps.zip (b ++ [(x : Int)])) n 0 = true := by
          intro ho
          obtain ⟨a, ha, h5⟩ := (over_iff _).1 ho
          have h6 := load_zip_le (ps := ps) (b ++ [(x : Int)]) t (fun z hz => (h3 z (by simp [hz])).1) (a : Int)
          rw [← e] at h6
          have : overFrom (ps.zip l) n 0 = true := (over_iff _).2 ⟨a, ha, by omega⟩
          rw [h4'] at this; simp at this
        rw [if_neg ho]
        exact (mem_shF k (b ++ [(x : Int)]) l (by simp; omega)).2 ⟨t, e, by simpa using h2, fun z hz => h3 z (by simp [hz]), .inr h4'⟩
theorem shF_prefix {n : Nat} {ps : List (Int × Int)} : ∀ (k : Nat) (b : List Int), ∀ l ∈ shF n ps k b, ∃ t, l = b ++ t
  | 0, b, l, hl => ⟨[], by simpa [shF] using hl⟩
  | k + 1, b, l, hl => by
    simp only [shF, List.mem_flatMap] at hl
    obtain ⟨x, _, hl⟩ := hl
    split at hl
    · simp at hl
    · obtain ⟨t, h⟩ := shF_prefix k _ l hl
      exact ⟨(x : Int) :: t, by rw [h]; simp⟩
theorem lex_pre : ∀ (b : List Int) {x y : Int} (s t : List Int), x < y → lexLt (b ++ [x] ++ s) (b ++ [y] ++ t) = true
  | [], x, y, s, t, h => by simp [lexLt, h]
  | a :: b, x, y, s, t, h => by
    have := lex_pre b s t h
    simp only [List.cons_append, lexLt, this]; simp
theorem shF_sorted {n : Nat} {ps : List (Int × Int)} : ∀ (k : Nat) (b : List Int), (shF n ps k b).Pairwise fun a c => lexLt a c = true
  | 0, b => by simp [shF]
  | k + 1, b => by
    simp only [shF]
    rw [List.pairwise_flatMap]
    refine ⟨?_, ?_⟩
    · intro x _
      split
      · simp
      · exact shF_sorted k _
    · have hv : (List.range' 0 3).Pairwise (· < ·) := by decide
      refine hv.imp ?_
      intro x y h a ha c hc
      split at ha
      · simp at ha
      · split at hc
        · simp at hc
        · obtain ⟨s, rfl⟩ := shF_prefix k _ a ha
          obtain ⟨t, rfl⟩ := shF_prefix k _ c hc
          exact lex_pre b s t (by omega)

/-- The reference's shares: the first of those that are worth most. -/
def pickS (best c : List Int) : List Int := if sumL best < sumL c then c else best
def sharesR (n : Nat) (ps : List (Int × Int)) : List Int := match shF n ps ps.length [] with | [] => [] | b :: r => r.foldl pickS b
theorem pickS_spec : ∀ (r : List (List Int)) (b : List Int), (b :: r).Pairwise (fun a c => lexLt a c = true) → r.foldl pickS b ∈ b :: r ∧ ∀ c ∈ b :: r, sumL c ≤ sumL (r.foldl pickS b) ∧ (sumL c = sumL (r.foldl pickS b) → lexLt c (r.foldl pickS b) = false)
  | [], b, _ => by simp [lex_irrefl]
  | a :: r, b, hp => by
    rw [List.pairwise_cons] at hp
    obtain ⟨hb, hp⟩ := hp
    rw [List.foldl_cons]
    by_cases h : sumL b < sumL a
    · have e : pickS b a = a := by unfold pickS; rw [if_pos h]
      rw [e]
      obtain ⟨h1, h2⟩ := pickS_spec r a hp
      refine ⟨List.mem_cons_of_mem _ h1, fun c hc => ?_⟩
      rcases List.mem_cons.1 hc with rfl | hc
      · have := (h2 a (by simp)).1
        exact ⟨by omega, fun h => by omega⟩
      · exact h2 c hc
    · have e : pickS b a = b := by unfold pickS; rw [if_neg h]
      rw [e]
      have hp2 : (b :: r).Pairwise fun a c => lexLt a c = true := List.pairwise_cons.2 ⟨fun c hc => hb c (by simp [hc]), (List.pairwise_cons.1 hp).2⟩
      obtain ⟨h1, h2⟩ := pickS_spec r b hp2
      refine ⟨?_, fun c hc => ?_⟩
      · rcases List.mem_cons.1 h1 with h1 | h1
        · rw [h1]; simp
        · simp [h1]
      · rcases List.mem_cons.1 hc with rfl | hc
        · exact h2 _ (by simp)
        · rcases List.mem_cons.1 hc with rfl | hc
          · have hbb := h2 b (by simp)
            refine ⟨by omega, fun h3 => ?_⟩
            have hle : lexLt b (r.foldl pickS b) = false := hbb.2 (by omega)
            have hlt := hb c (by simp)
            exact lex_le hle (lex_asymm hlt)
          · exact h2 c (by simp [hc])


theorem shF_ok {n : Nat} {ps : List (Int × Int)} {l : List Int} (h : l ∈ shF n ps ps.length []) : l.length = ps.length ∧ ∀ x ∈ l, 0 ≤ x ∧ x ≤ 2 := by
  obtain ⟨t, h1, h2, h3, _⟩ := (mem_shF ps.length [] l (by simp)).1 h
  rw [List.nil_append] at h1; subst h1
  exact ⟨h2, h3⟩
/-- No shares at all are shares. -/
theorem shF_zero {n : Nat} {ps : List (Int × Int)} : List.replicate ps.length (0 : Int) ∈ shF n ps ps.length [] := by
  refine (mem_shF ps.length [] _ (by simp)).2 ⟨_, rfl, by simp, ?_, ?_⟩
  · intro x hx; rw [List.mem_replicate] at hx; omega
  · right
    cases h : overFrom (ps.zip (List.replicate ps.length (0 : Int))) n 0
    · rfl
    · obtain ⟨a, _, h2⟩ := (over_iff _).1 h
      have : ∀ (l : List ((Int × Int) × Int)), (∀ e ∈ l, e.2 = 0) → loadOf l (a : Int) = 0 := by
        intro l
        induction l with
        | nil => intro _; rfl
        | cons e r ih =>
          intro h
          simp only [loadOf]
          rw [ih (fun x hx => h x (by simp [hx])), h e (by simp)]; simp
      rw [this _ (fun e he => (List.mem_replicate.1 (List.of_mem_zip he).2).2)] at h2
      omega

theorem loop88 (nl : Bool) (n : Int) (ps : List (Int × Int)) (X : List (List Int)) (hX : X.length ≤ 60000) (hin : ∀ l ∈ X, l.length < 1000 ∧ ∀ x ∈ l, 0 ≤ x ∧ x ≤ 2) (i : Nat) (best : List Int) (hok : i ≤ X.length ∧ best.length < 1000 ∧ ∀ x ∈ best, 0 ≤ x ∧ x ≤ 2) (env : Env) (st : St)
    (hg : gcAV true 1 0 (canon env [3, 4, 5]) st = ([(3, sl 1 true (X.map listAV)), (4, listAV best), (5, I i)], ⟨[bkCells nl n ps], []⟩)) :
    ∃ x_1 en s, lim (headed pure (run L) true [3, 4, 5] lp88_0 1 0) env st = some (x_1, en, s) ∧ (x_1 = .exit 0 ∧ en.get 4 = listAV ((X.drop i).foldl pickS best)) := by
  refine loop_wp (α := Nat × List Int) (fun ⟨i, best⟩ => X.length - i) (fun ⟨i, best⟩ => i ≤ X.length ∧ best.length < 1000 ∧ ∀ x ∈ best, 0 ≤ x ∧ x ≤ 2) (fun ⟨i, best⟩ => ([(3, sl 1 true (X.map listAV)), (4, listAV best), (5, I i)], ⟨[bkCells nl n ps], []⟩)) (fun ⟨i, best⟩ x_1 en s => x_1 = .exit 0 ∧ en.get 4 = listAV ((X.drop i).foldl pickS best)) (fun ⟨i, best⟩ hok => ?_) ⟨i, best⟩ hok env st hg
  simp only at hok
  obtain ⟨h1, h2, h3⟩ := hok
  dsimp only
  by_cases h : i < X.length
  · have hx := index_lists true X i h
    have hs := succ64 i (by omega)
    have hd : X.drop i = X[i] :: X.drop (i + 1) := List.drop_eq_getElem_cons h
    have hlt : ((i : Int) < (X.length : Int)) = True := eq_true (by omega)
    obtain ⟨g1, g2⟩ := hin X[i] (List.getElem_mem h)
    rw [hd, List.foldl_cons]
    generalize X[i] = l at *
    have k1 := fun st => c94 false l g1 g2 st
    have k2 := fun st => c94 false best h2 h3 st
    by_cases p : sumL best < sumL l
    · have e : pickS best l = l := by unfold pickS; rw [if_pos p]
      rw [e]
      simp only [go_sem, reduceIte, Nat.reduceEqDiff, Nat.reduceAdd, Nat.reduceSub, Nat.reduceLeDiff, Nat.reduceLT, reduceCtorEq, Int.reduceLT, Int.reduceLE, Int.reduceEq, Int.reduceBEq, Int.reduceSub, Int.reduceAdd, Int.reduceMul, Int.reduceNeg, Int.reduceToNat, Nat.reduceMul, Nat.reduceBEq, index_rsl_if, setm, make_ints, condK_dec, wantK_dec, not_dec, and_dec, or_dec, seqK_ite, seqK_none, blockK_ite, blockK_none, opsK_ite, opsK_none, stepK_ite, stepK_none, bodyK_ite, bodyK_none, resK_ite, resK_none, leaveK_ite, leaveK_none, only_ite, only_none, bind_ite, gives_some, gives_none, gives_ite, then_normal, then_ret, then_exit, then_none, then_ite, Option.bind_none, Bool.not_eq_true', decide_eq_false_iff_not, Bool.and_eq_true, Bool.or_eq_true, Option.some.injEq, Int.not_lt, Int.not_le, lp88_0, hx, hlt, hs, k1, k2, p, List.length_map]
      refine ⟨(i + 1, l), by simp only [go_sem, reduceIte, Nat.reduceEqDiff, Nat.reduceAdd, Nat.reduceSub, Nat.reduceLeDiff, Nat.reduceLT, reduceCtorEq, Int.reduceLT, Int.reduceLE, Int.reduceEq, Int.reduceBEq, Int.reduceSub, Int.reduceAdd, Int.reduceMul, Int.reduceNeg, Int.reduceToNat, Nat.reduceMul, Nat.reduceBEq, ren1_locm, loc_tips, locT_eq] <;> rfl, ?_, ?_, fun x en s hq => ?_⟩
      · dsimp only; exact ⟨by omega, g1, g2⟩
      · simp only; omega
      · exact hq
    · have e : pickS best l = best := by unfold pickS; rw [if_neg p]
      rw [e]
      simp only [go_sem, reduceIte, Nat.reduceEqDiff, Nat.reduceAdd, Nat.reduceSub, Nat.reduceLeDiff, Nat.reduceLT, reduceCtorEq, Int.reduceLT, Int.reduceLE, Int.reduceEq, Int.reduceBEq, Int.reduceSub, Int.reduceAdd, Int.reduceMul, Int.reduceNeg, Int.reduceToNat, Nat.reduceMul, Nat.reduceBEq, index_rsl_if, setm, make_ints, condK_dec, wantK_dec, not_dec, and_dec, or_dec, seqK_ite, seqK_none, blockK_ite, blockK_none, opsK_ite, opsK_none, stepK_ite, stepK_none, bodyK_ite, bodyK_none, resK_ite, resK_none, leaveK_ite, leaveK_none, only_ite, only_none, bind_ite, gives_some, gives_none, gives_ite, then_normal, then_ret, then_exit, then_none, then_ite, Option.bind_none, Bool.not_eq_true', decide_eq_false_iff_not, Bool.and_eq_true, Bool.or_eq_true, Option.some.injEq, Int.not_lt, Int.not_le, lp88_0, hx, hlt, hs, k1, k2, p, List.length_map]
      refine ⟨(i + 1, best), by simp only [go_sem, reduceIte, Nat.reduceEqDiff, Nat.reduceAdd, Nat.reduceSub, Nat.reduceLeDiff, Nat.reduceLT, reduceCtorEq, Int.reduceLT, Int.reduceLE, Int.reduceEq, Int.reduceBEq, Int.reduceSub, Int.reduceAdd, Int.reduceMul, Int.reduceNeg, Int.reduceToNat, Nat.reduceMul, Nat.reduceBEq, ren1_locm, loc_tips, locT_eq] <;> rfl, ?_, ?_, fun x en s hq => ?_⟩
      · dsimp only; exact ⟨by omega, h2, h3⟩
      · simp only; omega
      · exact hq
  · have hd : X.drop i = [] := List.drop_eq_nil_of_le (by omega)
    have hlt : ((i : Int) < (X.length : Int)) = False := eq_false (by omega)
    simp only [go_sem, reduceIte, Nat.reduceEqDiff, Nat.reduceAdd, Nat.reduceSub, Nat.reduceLeDiff, Nat.reduceLT, reduceCtorEq, Int.reduceLT, Int.reduceLE, Int.reduceEq, Int.reduceBEq, Int.reduceSub, Int.reduceAdd, Int.reduceMul, Int.reduceNeg, Int.reduceToNat, Nat.reduceMul, Nat.reduceBEq, index_rsl_if, setm, make_ints, condK_dec, wantK_dec, not_dec, and_dec, or_dec, seqK_ite, seqK_none, blockK_ite, blockK_none, opsK_ite, opsK_none, stepK_ite, stepK_none, bodyK_ite, bodyK_none, resK_ite, resK_none, leaveK_ite, leaveK_none, only_ite, only_none, bind_ite, gives_some, gives_none, gives_ite, then_normal, then_ret, then_exit, then_none, then_ite, Option.bind_none, Bool.not_eq_true', decide_eq_false_iff_not, Bool.and_eq_true, Bool.or_eq_true, Option.some.injEq, Int.not_lt, Int.not_le, lp88_0, hlt, List.length_map]
    rw [hd]; rfl

theorem sharesR_in {n : Nat} {ps : List (Int × Int)} : sharesR n ps ∈ shF n ps ps.length [] ∧ ∀ c ∈ shF n ps ps.length [], sumL c ≤ sumL (sharesR n ps) ∧ (sumL c = sumL (sharesR n ps) → lexLt c (sharesR n ps) = false) := by
  have hne := List.ne_nil_of_mem (shF_zero (n := n) (ps := ps))
  have hso := shF_sorted (n := n) (ps := ps) ps.length []
  unfold sharesR
  cases h : shF n ps ps.length [] with
  | nil => exact absurd h hne
  | cons b r =>
    rw [h] at hso
    exact pickS_spec r b hso
theorem sharesR_len (n : Nat) (ps : List (Int × Int)) : (sharesR n ps).length = ps.length ∧ ∀ x ∈ sharesR n ps, 0 ≤ x ∧ x ≤ 2 := shF_ok sharesR_in.1

theorem loop88n (nl : Bool) (n : Int) (i : Nat) (hok : i = 1) (env : Env) (st : St)
    (hg : gcAV true 1 0 (canon env [3, 4, 5]) st = ([(3, .lst .any 1 [.v (.slice none 0 0)]), (4, .v (.slice none 0 0)), (5, I i)], ⟨[bkCells nl n []], []⟩)) :
    ∃ x_1 en s, lim (headed pure (run L) true [3, 4, 5] lp88_0 1 0) env st = some (x_1, en, s) ∧ (x_1 = .exit 0 ∧ en.get 4 = .v (.slice none 0 0)) := by
  refine loop_wp (α := Nat) (fun i => 0) (fun i => i = 1) (fun i => ([(3, .lst .any 1 [.v (.slice none 0 0)]), (4, .v (.slice none 0 0)), (5, I i)], ⟨[bkCells nl n []], []⟩)) (fun i x_1 en s => x_1 = .exit 0 ∧ en.get 4 = .v (.slice none 0 0)) (fun i hok => ?_) i hok env st hg
  subst hok
  simp only [go_sem, reduceIte, Nat.reduceEqDiff, Nat.reduceAdd, Nat.reduceSub, Nat.reduceLeDiff, Nat.reduceLT, reduceCtorEq, Int.reduceLT, Int.reduceLE, Int.reduceEq, Int.reduceBEq, Int.reduceSub, Int.reduceAdd, Int.reduceMul, Int.reduceNeg, Int.reduceToNat, Nat.reduceMul, Nat.reduceBEq, index_rsl_if, setm, make_ints, condK_dec, wantK_dec, not_dec, and_dec, or_dec, seqK_ite, seqK_none, blockK_ite, blockK_none, opsK_ite, opsK_none, stepK_ite, stepK_none, bodyK_ite, bodyK_none, resK_ite, resK_none, leaveK_ite, leaveK_none, only_ite, only_none, bind_ite, gives_some, gives_none, gives_ite, then_normal, then_ret, then_exit, then_none, then_ite, Option.bind_none, Bool.not_eq_true', decide_eq_false_iff_not, Bool.and_eq_true, Bool.or_eq_true, Option.some.injEq, Int.not_lt, Int.not_le, lp88_0, Int.natCast_one, List.length_singleton]

theorem c88 (nl : Bool) (n : Nat) (hn : n ≤ 7) (ps : List (Int × Int)) (hlen : ps.length ≤ 10) (st : St) : run L 88 [bkAV nl n ps] st = some (sl 1 true ((sharesR n ps).map I), st) := by
  rw [run_pure (fn := ir88) rfl rfl]
  by_cases h0 : ps = []
  · subst h0
    have h113 : ∀ st, run L 113 [.agg [I (n : Int), sl 2 nl []], .v (.slice none 0 0)] st = some (.lst .any 1 [.v (.slice none 0 0)], st) := by
      intro st
      rw [run_pure (fn := ir113) rfl rfl]
      simp only [ir113, go_sem, reduceIte, Nat.reduceEqDiff, Nat.reduceAdd, Nat.reduceSub, Nat.reduceLeDiff, Nat.reduceLT, reduceCtorEq, Int.reduceLT, Int.reduceLE, Int.reduceEq, Int.reduceBEq, Int.reduceSub, Int.reduceAdd, Int.reduceMul, Int.reduceNeg, Int.reduceToNat, Nat.reduceMul, Nat.reduceBEq, List.map_nil, List.length_nil, Int.natCast_zero]
    have hx : indexSAV 1 (.lst .any 1 [.v (.slice none 0 0)]) (.v (.int .i64 0)) = some (.eptr (.v (.slice none 0 0)) 0) := rfl
    have hR : sharesR n [] = [] := rfl
    rw [hR]
    simp only [ir88, go_sem, reduceIte, Nat.reduceEqDiff, Nat.reduceAdd, Nat.reduceSub, Nat.reduceLeDiff, Nat.reduceLT, reduceCtorEq, Int.reduceLT, Int.reduceLE, Int.reduceEq, Int.reduceBEq, Int.reduceSub, Int.reduceAdd, Int.reduceMul, Int.reduceNeg, Int.reduceToNat, Nat.reduceMul, Nat.reduceBEq, h113, hx, List.map_nil]
    generalize hg : lim (headed pure (run L) true _ lp88_0 _ _) _ _ = o
    obtain ⟨x, en, s, rfl, h2⟩ : ∃ x en s, o = some (x, en, s) ∧ _ := by rw [← hg]; exact loop88n nl (n : Int) 1 rfl _ _ (by simp only [go_sem, reduceIte, Nat.reduceEqDiff, Nat.reduceAdd, Nat.reduceSub, Nat.reduceLeDiff, Nat.reduceLT, reduceCtorEq, Int.reduceLT, Int.reduceLE, Int.reduceEq, Int.reduceBEq, Int.reduceSub, Int.reduceAdd, Int.reduceMul, Int.reduceNeg, Int.reduceToNat, Nat.reduceMul, Nat.reduceBEq, Int.natCast_one, List.map_nil] <;> rfl)
    clear hg
    obtain ⟨rfl, h3⟩ := h2
    simp only [go_sem, reduceIte, Nat.reduceEqDiff, Nat.reduceAdd, Nat.reduceSub, Nat.reduceLeDiff, Nat.reduceLT, reduceCtorEq, Int.reduceLT, Int.reduceLE, Int.reduceEq, Int.reduceBEq, Int.reduceSub, Int.reduceAdd, Int.reduceMul, Int.reduceNeg, Int.reduceToNat, Nat.reduceMul, Nat.reduceBEq, h3]
    rfl
  · have hne := List.ne_nil_of_mem (shF_zero (n := n) (ps := ps))
    have hpl : ps.length ≠ 0 := fun h => h0 (List.eq_nil_of_length_eq_zero h)
    have h113 := fun st => c113 nl n hn ps hlen ps.length true [] (by simp) (by simp) (fun _ _ => hpl) st
    have hXl := shF_len n ps ps.length []
    have hpow : 3 ^ ps.length ≤ 59049 := Nat.le_trans (Nat.pow_le_pow_right (by omega) hlen) (by decide)
    have hin : ∀ l ∈ shF n ps ps.length [], l.length < 1000 ∧ ∀ x ∈ l, 0 ≤ x ∧ x ≤ 2 := fun l hl => ⟨by have := (shF_ok hl).1; omega, (shF_ok hl).2⟩
    have hR : sharesR n ps = match shF n ps ps.length [] with | [] => [] | b :: r => r.foldl pickS b := rfl
    have hRl := (sharesR_len n ps).1
    simp only [List.map_nil, ← sl_nil] at h113
    generalize shF n ps ps.length [] = X at *
    obtain ⟨b, r, hX⟩ : ∃ b r, X = b :: r := by
      cases X with
      | nil => exact absurd rfl hne
      | cons b r => exact ⟨b, r, rfl⟩
    have hbm : b ∈ X := by rw [hX]; simp
    have hx : indexSAV 1 (sl 1 true (X.map listAV)) (.v (.int .i64 0)) = some (.eptr (listAV b) 0) := by
      have := index_lists true X 0 (by rw [hX]; simp)
      simpa [hX] using this
    have hb := hin b hbm
    simp only [ir88, go_sem, reduceIte, Nat.reduceEqDiff, Nat.reduceAdd, Nat.reduceSub, Nat.reduceLeDiff, Nat.reduceLT, reduceCtorEq, Int.reduceLT, Int.reduceLE, Int.reduceEq, Int.reduceBEq, Int.reduceSub, Int.reduceAdd, Int.reduceMul, Int.reduceNeg, Int.reduceToNat, Nat.reduceMul, Nat.reduceBEq, h113, hx]
    generalize hg : lim (headed pure (run L) true _ lp88_0 _ _) _ _ = o
    obtain ⟨x, en, s, rfl, h2⟩ : ∃ x en s, o = some (x, en, s) ∧ _ := by rw [← hg]; exact loop88 nl (n : Int) ps X (by omega) hin 1 b ⟨by rw [hX]; simp, hb.1, hb.2⟩ _ _ (by simp only [go_sem, reduceIte, Nat.reduceEqDiff, Nat.reduceAdd, Nat.reduceSub, Nat.reduceLeDiff, Nat.reduceLT, reduceCtorEq, Int.reduceLT, Int.reduceLE, Int.reduceEq, Int.reduceBEq, Int.reduceSub, Int.reduceAdd, Int.reduceMul, Int.reduceNeg, Int.reduceToNat, Nat.reduceMul, Nat.reduceBEq, Int.natCast_one] <;> rfl)
    clear hg
    obtain ⟨rfl, h3⟩ := h2
    have e : (X.drop 1).foldl pickS b = sharesR n ps := by rw [hR, hX]; rfl
    rw [e] at h3
    have e2 : listAV (sharesR n ps) = sl 1 true ((sharesR n ps).map I) := by
      have hne2 : sharesR n ps ≠ [] := by intro h; rw [h] at hRl; simp at hRl; omega
      show sl 1 false ((sharesR n ps).map I) = _
      rw [sl_ne (xs := (sharesR n ps).map I) (nl := false) (by simpa using hne2), sl_ne (xs := (sharesR n ps).map I) (nl := true) (by simpa using hne2)]
    simp only [go_sem, reduceIte, Nat.reduceEqDiff, Nat.reduceAdd, Nat.reduceSub, Nat.reduceLeDiff, Nat.reduceLT, reduceCtorEq, Int.reduceLT, Int.reduceLE, Int.reduceEq, Int.reduceBEq, Int.reduceSub, Int.reduceAdd, Int.reduceMul, Int.reduceNeg, Int.reduceToNat, Nat.reduceMul, Nat.reduceBEq, h3, e2]

/-- A list and an error. -/
def shv (n : Int) (ps : List (Int × Int)) : List Int × Int := if chk n ps = 0 then (sharesR n.toNat ps, 0) else ([], chk n ps)
theorem c36 (nl : Bool) (n : Int) (ps : List (Int × Int)) (st : St) : run L 36 [bkAV nl n ps] st = some (.tup [sl 1 true ((shv n ps).1.map I), I (shv n ps).2], st) := by
  rw [run_pure (fn := ir36) rfl rfl]
  have h23 := fun st => c23 nl n ps st
  unfold shv
  by_cases h : chk n ps = 0
  · obtain ⟨h1, h2, h3, h4, h5⟩ := chk_zero h
    obtain ⟨k, rfl⟩ := Int.eq_ofNat_of_zero_le (show 0 ≤ n by omega)
    have h88 := fun st => c88 nl k (by omega) ps h3 st
    rw [if_pos h]
    simp only [Int.toNat_natCast]
    simp only [ir36, go_sem, reduceIte, Nat.reduceEqDiff, Nat.reduceAdd, Nat.reduceSub, Nat.reduceLeDiff, Nat.reduceLT, reduceCtorEq, Int.reduceLT, Int.reduceLE, Int.reduceEq, Int.reduceBEq, Int.reduceSub, Int.reduceAdd, Int.reduceMul, Int.reduceNeg, Int.reduceToNat, Nat.reduceMul, Nat.reduceBEq, h23, h, h88]
  · rw [if_neg h]
    simp only [ir36, go_sem, reduceIte, Nat.reduceEqDiff, Nat.reduceAdd, Nat.reduceSub, Nat.reduceLeDiff, Nat.reduceLT, reduceCtorEq, Int.reduceLT, Int.reduceLE, Int.reduceEq, Int.reduceBEq, Int.reduceSub, Int.reduceAdd, Int.reduceMul, Int.reduceNeg, Int.reduceToNat, Nat.reduceMul, Nat.reduceBEq, h23, h]
    rfl
theorem shared_err {n : Int} {ps : List (Int × Int)} {v : List Int} : (sharedV n ps v).2 = if numbErr n ps v ps.length = 0 then (if overB ps v = true then 15 else 0) else numbErr n ps v ps.length := by
  unfold sharedV numbErr numbersV
  by_cases h : chk n ps = 0
  · rw [if_pos h, if_pos h]
    by_cases p : (v.length : Int) = (ps.length : Int)
    · rw [if_pos p, if_pos p]
      by_cases q : v.all in02 = true
      · rw [if_pos q, if_pos q]
        by_cases r : overB ps v = true
        · simp [r]
        · simp [r]
      · rw [if_neg q, if_neg q]; simp
    · rw [if_neg p, if_neg p]; simp
  · rw [if_neg h, if_neg h, if_neg h]
theorem c41 (nl n2 : Bool) (n : Int) (ps : List (Int × Int)) (v : List Int) (hlen : v.length < 1000000) (st : St) :
    run L 41 [bkAV nl n ps, sl 1 n2 (v.map I)] st = some (I (sharedV n ps v).2, st) := by
  rw [run_pure (fn := ir41) rfl rfl]
  have h84 := fun st => c84 nl n2 n ps v hlen ps.length st
  rw [shared_err]
  by_cases h : numbErr n ps v ps.length = 0
  · obtain ⟨g1, g2, g3⟩ := numb_zero h
    obtain ⟨h1, h2, h3, h4, h5⟩ := chk_zero g1
    obtain ⟨k, rfl⟩ := Int.eq_ofNat_of_zero_le (show 0 ≤ n by omega)
    have h93 := fun st => c93 nl n2 k (by omega) ps h3 v (by omega) g3 st
    simp only [over_eq (show k ≤ 7 by omega) h4] at h93
    rw [if_pos h]
    by_cases q : overB ps v = true
    · rw [if_pos q]
      simp only [ir41, go_sem, reduceIte, Nat.reduceEqDiff, Nat.reduceAdd, Nat.reduceSub, Nat.reduceLeDiff, Nat.reduceLT, reduceCtorEq, Int.reduceLT, Int.reduceLE, Int.reduceEq, Int.reduceBEq, Int.reduceSub, Int.reduceAdd, Int.reduceMul, Int.reduceNeg, Int.reduceToNat, Nat.reduceMul, Nat.reduceBEq, h84, h, h93, q, List.length_map]
    · have q' : overB ps v = false := by simpa using q
      rw [if_neg q]
      simp only [ir41, go_sem, reduceIte, Nat.reduceEqDiff, Nat.reduceAdd, Nat.reduceSub, Nat.reduceLeDiff, Nat.reduceLT, reduceCtorEq, Int.reduceLT, Int.reduceLE, Int.reduceEq, Int.reduceBEq, Int.reduceSub, Int.reduceAdd, Int.reduceMul, Int.reduceNeg, Int.reduceToNat, Nat.reduceMul, Nat.reduceBEq, h84, h, h93, q', List.length_map]
  · rw [if_neg h]
    simp only [ir41, go_sem, reduceIte, Nat.reduceEqDiff, Nat.reduceAdd, Nat.reduceSub, Nat.reduceLeDiff, Nat.reduceLT, reduceCtorEq, Int.reduceLT, Int.reduceLE, Int.reduceEq, Int.reduceBEq, Int.reduceSub, Int.reduceAdd, Int.reduceMul, Int.reduceNeg, Int.reduceToNat, Nat.reduceMul, Nat.reduceBEq, h84, h, List.length_map]
theorem proves_sum {n : Int} {ps : List (Int × Int)} {v s : List Int} (h1 : (halvedV n ps v).2 = 0) (h2 : (sharedV n ps s).2 = 0) : (halvedV n ps v).1 = sumL v ∧ (sharedV n ps s).1 = sumL s ∧ v.length ≤ 7 ∧ (∀ x ∈ v, 0 ≤ x ∧ x ≤ 2) ∧ s.length ≤ 10 ∧ ∀ x ∈ s, 0 ≤ x ∧ x ≤ 2 := by
  unfold halvedV at h1 ⊢
  unfold sharedV at h2 ⊢
  split at h1
  · next hc =>
    rw [if_pos hc] at h2 ⊢
    rw [if_pos hc]
    split at h1
    · next e1 =>
      rw [if_pos e1]
      obtain ⟨a1, a2, a3⟩ := numbersV_zero e1
      split at h1
      · next e2 =>
        rw [if_pos e2]
        split at h2
        · next e3 =>
          rw [if_pos e3]
          obtain ⟨b1, b2, b3⟩ := numbersV_zero e3
          split at h2
          · simp at h2
          · next e4 =>
            rw [if_neg e4]
            have := chk_zero hc
            exact ⟨a3, b3, by omega, all02 a2, by omega, all02 b2⟩
        · next e3 => exact absurd h2 e3
      · simp at h1
    · next e1 => exact absurd h1 e1
  · next hc => exact absurd h1 hc
theorem c43 (nl n2 n3 : Bool) (n : Int) (ps : List (Int × Int)) (v s : List Int) (hv : v.length < 1000000) (hs : s.length < 1000000) (st : St) :
    run L 43 [bkAV nl n ps, sl 1 n2 (v.map I), sl 1 n3 (s.map I)] st = some (I (provesV n ps v s), st) := by
  rw [run_pure (fn := ir43) rfl rfl]
  have h31 := fun st => c31 nl n2 n ps v hv st
  have h41 := fun st => c41 nl n3 n ps s hs st
  unfold provesV
  by_cases p1 : (halvedV n ps v).2 = 0
  · rw [if_pos p1]
    by_cases p2 : (sharedV n ps s).2 = 0
    · rw [if_pos p2]
      obtain ⟨e1, e2, e3, e4, e5, e6⟩ := proves_sum p1 p2
      have k1 := fun st => c94 n2 v (by omega) e4 st
      have k2 := fun st => c94 n3 s (by omega) e6 st
      rw [e1, e2]
      by_cases p3 : sumL s = sumL v
      · have p3' : sumL v = sumL s := p3.symm
        rw [if_pos p3]
        simp only [ir43, go_sem, reduceIte, Nat.reduceEqDiff, Nat.reduceAdd, Nat.reduceSub, Nat.reduceLeDiff, Nat.reduceLT, reduceCtorEq, Int.reduceLT, Int.reduceLE, Int.reduceEq, Int.reduceBEq, Int.reduceSub, Int.reduceAdd, Int.reduceMul, Int.reduceNeg, Int.reduceToNat, Nat.reduceMul, Nat.reduceBEq, h31, h41, p1, p2, k1, k2, p3']
      · have p3' : (sumL v = sumL s) = False := eq_false (fun h => p3 h.symm)
        rw [if_neg p3]
        simp only [ir43, go_sem, reduceIte, Nat.reduceEqDiff, Nat.reduceAdd, Nat.reduceSub, Nat.reduceLeDiff, Nat.reduceLT, reduceCtorEq, Int.reduceLT, Int.reduceLE, Int.reduceEq, Int.reduceBEq, Int.reduceSub, Int.reduceAdd, Int.reduceMul, Int.reduceNeg, Int.reduceToNat, Nat.reduceMul, Nat.reduceBEq, h31, h41, p1, p2, k1, k2, p3']
    · rw [if_neg p2]
      simp only [ir43, go_sem, reduceIte, Nat.reduceEqDiff, Nat.reduceAdd, Nat.reduceSub, Nat.reduceLeDiff, Nat.reduceLT, reduceCtorEq, Int.reduceLT, Int.reduceLE, Int.reduceEq, Int.reduceBEq, Int.reduceSub, Int.reduceAdd, Int.reduceMul, Int.reduceNeg, Int.reduceToNat, Nat.reduceMul, Nat.reduceBEq, h31, h41, p1, p2]
  · rw [if_neg p1]
    simp only [ir43, go_sem, reduceIte, Nat.reduceEqDiff, Nat.reduceAdd, Nat.reduceSub, Nat.reduceLeDiff, Nat.reduceLT, reduceCtorEq, Int.reduceLT, Int.reduceLE, Int.reduceEq, Int.reduceBEq, Int.reduceSub, Int.reduceAdd, Int.reduceMul, Int.reduceNeg, Int.reduceToNat, Nat.reduceMul, Nat.reduceBEq, h31, p1]


/-! ### Hall's theorem -/
/-- What some have to do with, of the first m. -/
def nbrs (m : Nat) (r : Nat → Nat → Bool) (S : List Nat) : List Nat := (List.range m).filter fun y => S.any fun x => r x y
theorem mem_nbrs {m : Nat} {r : Nat → Nat → Bool} {S : List Nat} {y : Nat} : y ∈ nbrs m r S ↔ y < m ∧ ∃ x ∈ S, r x y = true := by simp [nbrs]
theorem filter_or_len {α : Type} (p q : α → Bool) : ∀ l : List α, (∀ x ∈ l, ¬(p x = true ∧ q x = true)) → (l.filter fun x => p x || q x).length = (l.filter p).length + (l.filter q).length
  | [], _ => rfl
  | a :: l, h => by
    have ih := filter_or_len p q l (fun x hx => h x (by simp [hx]))
    have ha := h a (by simp)
    cases h1 : p a <;> cases h2 : q a <;> simp_all <;> omega
theorem filter_le_len {α : Type} (p q : α → Bool) : ∀ l : List α, (∀ x ∈ l, p x = true → q x = true) → (l.filter p).length ≤ (l.filter q).length
  | [], _ => by simp
  | a :: l, h => by
    have ih := filter_le_len p q l (fun x hx => h x (by simp [hx]))
    have ha := h a (by simp)
    cases h1 : p a <;> cases h2 : q a <;> simp_all <;> omega
theorem filter_lt {α : Type} (p : α → Bool) : ∀ l : List α, (l.filter p).length + (l.filter fun x => !p x).length = l.length
  | [] => rfl
  | a :: l => by
    have ih := filter_lt p l
    cases h : p a <;> simp [h] <;> omega

theorem hall (m : Nat) : ∀ (k : Nat) (A : List Nat) (r : Nat → Nat → Bool), A.length = k → A.Nodup → (∀ p : Nat → Bool, (A.filter p).length ≤ (nbrs m r (A.filter p)).length) →
    ∃ f : Nat → Nat, (∀ a ∈ A, f a < m ∧ r a (f a) = true) ∧ ∀ a ∈ A, ∀ b ∈ A, f a = f b → a = b := by
  intro k
  induction k using Nat.strongRecOn with
  | ind k ih =>
    intro A r hk hnd hall
    by_cases hcase : ∃ p : Nat → Bool, 0 < (A.filter p).length ∧ (A.filter p).length < A.length ∧ (nbrs m r (A.filter p)).length = (A.filter p).length
    · -- a part that has just as many: it, and the rest without what it has to do with
      obtain ⟨p, h1, h2, h3⟩ := hcase
      have hsum := filter_lt p A
      have hp1 : ∀ q : Nat → Bool, ((A.filter p).filter q).length ≤ (nbrs m r ((A.filter p).filter q)).length := by
        intro q; rw [List.filter_filter]; exact hall _
      obtain ⟨f1, g1, g2⟩ := ih _ (by omega) (A.filter p) r rfl (hnd.filter _) hp1
      let r2 : Nat → Nat → Bool := fun x y => r x y && !(nbrs m r (A.filter p)).contains y
      have hp2 : ∀ q : Nat → Bool, ((A.filter fun x => !p x).filter q).length ≤ (nbrs m r2 ((A.filter fun x => !p x).filter q)).length := by
        intro q
        rw [List.filter_filter]
        have e1 := filter_or_len p (fun x => q x && !p x) A (by intro x _ ⟨h4, h5⟩; simp [h4] at h5)
        have e2 := hall fun x => p x || (q x && !p x)
        rw [e1] at e2
        have e3 : (nbrs m r (A.filter fun x => p x || (q x && !p x))).length ≤ (nbrs m r (A.filter p)).length + (nbrs m r2 (A.filter fun x => q x && !p x)).length := by
          have e4 : (nbrs m r (A.filter fun x => p x || (q x && !p x))).length ≤ ((List.range m).filter fun y => ((A.filter p).any fun x => r x y) || ((A.filter fun x => q x && !p x).any fun x => r2 x y)).length := by
            apply filter_le_len
            intro y hy h
            rw [List.any_eq_true] at h
            obtain ⟨x, hx, hr⟩ := h
            rw [List.mem_filter] at hx
            by_cases h6 : ((A.filter p).any fun x => r x y) = true
            · simp [h6]
            · have h7 : p x = false := by
                cases h8 : p x
                · rfl
                · exact absurd (List.any_eq_true.2 ⟨x, List.mem_filter.2 ⟨hx.1, h8⟩, hr⟩) h6
              have h9 : (q x && !p x) = true := by rw [h7] at hx; simp only [Bool.false_or] at hx; rw [h7]; exact hx.2
              have h10 : ((A.filter fun x => q x && !p x).any fun x => r2 x y) = true := by
                refine List.any_eq_true.2 ⟨x, List.mem_filter.2 ⟨hx.1, h9⟩, ?_⟩
                show (r x y && !(nbrs m r (A.filter p)).contains y) = true
                have h11 : y ∉ nbrs m r (A.filter p) := by
                  intro h12
                  obtain ⟨_, z, hz, hzr⟩ := mem_nbrs.1 h12
                  exact h6 (List.any_eq_true.2 ⟨z, hz, hzr⟩)
                rw [hr]; simp [h11]
              rw [h10, Bool.or_true]
          refine Nat.le_trans e4 ?_
          rw [filter_or_len]
          · exact Nat.le_refl _
          · intro y hy ⟨h4, h5⟩
            rw [List.any_eq_true] at h5
            obtain ⟨x, _, hx⟩ := h5
            have hx2 : (!(nbrs m r (A.filter p)).contains y) = true := by
              have : (r x y && !(nbrs m r (A.filter p)).contains y) = true := hx
              rw [Bool.and_eq_true] at this; exact this.2
            have hm : y ∈ nbrs m r (A.filter p) := by
              obtain ⟨z, hz, hzr⟩ := List.any_eq_true.1 h4
              exact mem_nbrs.2 ⟨List.mem_range.1 hy, z, hz, hzr⟩
            simp [hm] at hx2
        omega
      obtain ⟨f2, k1, k2⟩ := ih _ (by omega) (A.filter fun x => !p x) r2 rfl (hnd.filter _) hp2
      have k1' : ∀ a ∈ A, p a = false → f2 a < m ∧ r a (f2 a) = true ∧ f2 a ∉ nbrs m r (A.filter p) := by
        intro a ha hpa
        obtain ⟨h4, h5⟩ := k1 a (List.mem_filter.2 ⟨ha, by simp [hpa]⟩)
        have h6 : (r a (f2 a) && !(nbrs m r (A.filter p)).contains (f2 a)) = true := h5
        rw [Bool.and_eq_true] at h6
        refine ⟨h4, h6.1, fun h7 => ?_⟩
        have := h6.2; simp [h7] at this
      have g1' : ∀ a ∈ A, p a = true → f1 a < m ∧ r a (f1 a) = true ∧ f1 a ∈ nbrs m r (A.filter p) := by
        intro a ha hpa
        obtain ⟨h4, h5⟩ := g1 a (List.mem_filter.2 ⟨ha, hpa⟩)
        exact ⟨h4, h5, mem_nbrs.2 ⟨h4, a, List.mem_filter.2 ⟨ha, hpa⟩, h5⟩⟩
      refine ⟨fun a => if p a = true then f1 a else f2 a, ?_, ?_⟩
      · intro a ha
        dsimp only
        cases hpa : p a
        · have := k1' a ha hpa; simpa using ⟨this.1, this.2.1⟩
        · have := g1' a ha hpa; simpa using ⟨this.1, this.2.1⟩
      · intro a ha b hb
        dsimp only
        cases hpa : p a <;> cases hpb : p b
        · simp only [Bool.false_eq_true, if_false]
          exact k2 a (List.mem_filter.2 ⟨ha, by simp [hpa]⟩) b (List.mem_filter.2 ⟨hb, by simp [hpb]⟩)
        · simp only [Bool.false_eq_true, if_false, if_true]
          intro e
          have h4 := (k1' a ha hpa).2.2
          rw [e] at h4
          exact absurd (g1' b hb hpb).2.2 h4
        · simp only [Bool.false_eq_true, if_false, if_true]
          intro e
          have h4 := (k1' b hb hpb).2.2
          rw [← e] at h4
          exact absurd (g1' a ha hpa).2.2 h4
        · simp only [if_true]
          exact g2 a (List.mem_filter.2 ⟨ha, hpa⟩) b (List.mem_filter.2 ⟨hb, hpb⟩)
    · -- each proper part has one more: any choice for the first
      cases A with
      | nil => exact ⟨fun _ => 0, by simp, by simp⟩
      | cons a A =>
        rw [List.nodup_cons] at hnd
        obtain ⟨hna, hnd⟩ := hnd
        have h0 := hall fun x => x == a
        have hf : (a :: A).filter (fun x => x == a) = [a] := by
          rw [List.filter_cons, if_pos (by simp)]
          congr 1
          rw [List.filter_eq_nil_iff]; intro x hx h; simp at h; subst h; exact hna hx
        rw [hf] at h0
        obtain ⟨b, hb⟩ := List.exists_mem_of_ne_nil (nbrs m r [a]) (by intro h; rw [h] at h0; simp at h0)
        obtain ⟨hbm, x, hx, hrb⟩ := mem_nbrs.1 hb
        rw [List.mem_singleton] at hx; subst hx
        let r2 : Nat → Nat → Bool := fun z y => r z y && !(y == b)
        have hp2 : ∀ q : Nat → Bool, (A.filter q).length ≤ (nbrs m r2 (A.filter q)).length := by
          intro q
          by_cases hz : (A.filter q).length = 0
          · omega
          have e1 : (x :: A).filter (fun z => q z && !(z == x)) = A.filter q := by
            rw [List.filter_cons, if_neg (by simp)]
            apply List.filter_congr
            intro z hz
            have : z ≠ x := fun e => hna (e ▸ hz)
            simp [this]
          have e2 : (A.filter q).length < (nbrs m r (A.filter q)).length := by
            have e3 := hall fun z => q z && !(z == x)
            rw [e1] at e3
            rcases Nat.lt_or_ge (A.filter q).length (nbrs m r (A.filter q)).length with h4 | h4
            · exact h4
            · exact absurd ⟨fun z => q z && !(z == x), by rw [e1]; omega, by rw [e1]; have := List.length_filter_le q A; simp; omega, by rw [e1]; omega⟩ hcase
          have e4 : (nbrs m r (A.filter q)).length ≤ (nbrs m r2 (A.filter q)).length + 1 := by
            have e5 : (nbrs m r (A.filter q)).length ≤ ((List.range m).filter fun y => ((A.filter q).any fun z => r2 z y) || (y == b)).length := by
              apply filter_le_len
              intro y hy h
              by_cases h6 : y = b
              · simp [h6]
              · obtain ⟨z, hz, hzr⟩ := List.any_eq_true.1 h
                have h7 : ((A.filter q).any fun z => r2 z y) = true := List.any_eq_true.2 ⟨z, hz, by show (r z y && !(y == b)) = true; rw [hzr]; simp [h6]⟩
                rw [h7, Bool.true_or]
            rw [filter_or_len] at e5
            · have e6 : ((List.range m).filter fun y => y == b).length ≤ 1 := by
                have : ∀ l : List Nat, l.Nodup → (l.filter fun y => y == b).length ≤ 1 := by
                  intro l
                  induction l with
                  | nil => intro _; simp
                  | cons c l ih =>
                    intro hn
                    rw [List.nodup_cons] at hn
                    rw [List.filter_cons]
                    split
                    · next h =>
                      have hc : c = b := by simpa using h
                      have : l.filter (fun y => y == b) = [] := by
                        rw [List.filter_eq_nil_iff]; intro y hy h2; simp at h2; subst h2; subst hc; exact hn.1 hy
                      rw [this]; simp
                    · exact ih hn.2
                exact this _ List.nodup_range
              exact Nat.le_trans e5 (by unfold nbrs; omega)
            · intro y _ ⟨h4, h5⟩
              obtain ⟨z, _, hz⟩ := List.any_eq_true.1 h4
              have : (r z y && !(y == b)) = true := hz
              rw [h5] at this; simp at this
          omega
        obtain ⟨f, k1, k2⟩ := ih A.length (by simp at hk; omega) A r2 rfl hnd hp2
        have k1' : ∀ z ∈ A, f z < m ∧ r z (f z) = true ∧ f z ≠ b := by
          intro z hz
          obtain ⟨h4, h5⟩ := k1 z hz
          have h6 : (r z (f z) && !(f z == b)) = true := h5
          rw [Bool.and_eq_true] at h6
          exact ⟨h4, h6.1, by have := h6.2; simpa using this⟩
        refine ⟨fun z => if z = x then b else f z, ?_, ?_⟩
        · intro z hz
          by_cases e : z = x
          · subst e; simp [hbm, hrb]
          · have hz2 : z ∈ A := by simpa [e] using hz
            have := k1' z hz2
            simp only [if_neg e]; exact ⟨this.1, this.2.1⟩
        · intro z hz w hw
          by_cases e : z = x <;> by_cases e2 : w = x
          · intro _; rw [e, e2]
          · simp only [if_pos e, if_neg e2]
            intro h; exact absurd h.symm (k1' w (by simpa [e2] using hw)).2.2
          · simp only [if_neg e, if_pos e2]
            intro h; exact absurd h (k1' z (by simpa [e] using hz)).2.2
          · simp only [if_neg e, if_neg e2]
            exact k2 z (by simpa [e] using hz) w (by simpa [e2] using hw)


/-! ### counting -/
theorem nodup_len_le {α : Type} [DecidableEq α] : ∀ (l k : List α), l.Nodup → (∀ x ∈ l, x ∈ k) → l.length ≤ k.length
  | [], _, _, _ => by simp
  | a :: l, k, hn, h => by
    rw [List.nodup_cons] at hn
    have ha := h a (by simp)
    have h1 := nodup_len_le l (k.erase a) hn.2 (fun x hx => by
      have hne : x ≠ a := fun e => hn.1 (e ▸ hx)
      exact (List.mem_erase_of_ne hne).2 (h x (by simp [hx])))
    rw [List.length_erase_of_mem ha] at h1
    have := List.length_pos_of_mem ha
    simp only [List.length_cons]; omega
theorem ind_le_one {α : Type} (P : α → Prop) [DecidablePred P] : ∀ l : List α, l.Nodup → (∀ p ∈ l, ∀ q ∈ l, P p → P q → p = q) → sumL (l.map fun p => if P p then 1 else 0) ≤ 1
  | [], _, _ => by simp [sumL]
  | a :: l, hn, h => by
    rw [List.nodup_cons] at hn
    have ih := ind_le_one P l hn.2 (fun p hp q hq => h p (by simp [hp]) q (by simp [hq]))
    simp only [List.map_cons, sumL]
    by_cases ha : P a
    · have e : l.map (fun p => if P p then (1 : Int) else 0) = l.map fun _ => 0 := by
        apply List.map_congr_left
        intro p hp
        rw [if_neg]
        intro hpp
        have := h a (by simp) p (by simp [hp]) ha hpp
        subst this; exact hn.1 hp
      have z : ∀ l : List α, sumL (l.map fun _ => (0 : Int)) = 0 := by
        intro l; induction l with
        | nil => rfl
        | cons b l ih => simp only [List.map_cons, sumL, ih]; rfl
      rw [if_pos ha, e, z]; omega
    · rw [if_neg ha]; omega
theorem ind_nonneg {α : Type} (P : α → Prop) [DecidablePred P] : ∀ l : List α, 0 ≤ sumL (l.map fun p => if P p then (1 : Int) else 0)
  | [] => by simp [sumL]
  | a :: l => by
    have := ind_nonneg P l
    simp only [List.map_cons, sumL]; split <;> omega
theorem ind_mem {α : Type} (P : α → Prop) [DecidablePred P] : ∀ (l : List α) (a : α), a ∈ l → P a → 1 ≤ sumL (l.map fun p => if P p then (1 : Int) else 0)
  | [], a, h, _ => by simp at h
  | b :: l, a, h, hp => by
    simp only [List.map_cons, sumL]
    have hn := ind_nonneg P l
    rcases List.mem_cons.1 h with rfl | h
    · rw [if_pos hp]; omega
    · have := ind_mem P l a h hp
      split <;> omega
theorem sum_add {α : Type} (f g : α → Int) : ∀ l : List α, sumL (l.map fun a => f a + g a) = sumL (l.map f) + sumL (l.map g)
  | [] => by simp [sumL]
  | a :: l => by
    have := sum_add f g l
    simp only [List.map_cons, sumL, this]; omega
theorem sum_swap {α β : Type} (c : α → β → Int) (k : List β) : ∀ l : List α, sumL (l.map fun p => sumL (k.map fun a => c p a)) = sumL (k.map fun a => sumL (l.map fun p => c p a))
  | [] => by
    simp only [List.map_nil, sumL]
    induction k with
    | nil => rfl
    | cons a k ih => simp only [List.map_cons, sumL, ← ih]; rfl
  | p :: l => by
    simp only [List.map_cons, sumL]
    rw [sum_swap c k l, ← sum_add]
theorem sum_ones {α : Type} (f : α → Int) : ∀ l : List α, (∀ a ∈ l, 1 ≤ f a) → (l.length : Int) ≤ sumL (l.map f)
  | [], _ => by simp [sumL]
  | a :: l, h => by
    have h1 := h a (by simp)
    have h2 := sum_ones f l (fun x hx => h x (by simp [hx]))
    simp only [List.map_cons, sumL, List.length_cons]; omega
theorem load_map (g : Int × Int → Int) (a : Int) : ∀ ps : List (Int × Int), loadOf (ps.zip (ps.map g)) a = sumL (ps.map fun p => if p.1 = a ∨ p.2 = a then g p else 0)
  | [] => rfl
  | p :: ps => by simp only [List.map_cons, List.zip_cons_cons, loadOf, sumL, load_map g a ps]
theorem memb_len_range {n z : Nat} (hn : n ≤ 7) (hz : z < 2 ^ n) : (memb z).length = ((List.range n).filter z.testBit).length := by
  unfold memb
  rw [List.length_map]
  have e : List.range 7 = List.range n ++ (List.range (7 - n)).map (n + ·) := by
    rw [← List.range_add]; congr 1; omega
  rw [e, List.filter_append, List.length_append]
  have : ((List.range (7 - n)).map (n + ·)).filter z.testBit = [] := by
    rw [List.filter_eq_nil_iff]
    intro x hx h
    rw [List.mem_map] at hx
    obtain ⟨i, _, rfl⟩ := hx
    have := bit_lt hz h
    omega
  rw [this]; simp

section
variable {n : Nat} {ps : List (Int × Int)} (hn1 : 1 ≤ n) (hn : n ≤ 7) (hps : ∀ p ∈ ps, 0 ≤ p.1 ∧ p.1 < p.2 ∧ p.2 < (n : Int)) (h7 : ∀ p ∈ ps, okP p) (hnd : ps.Nodup)
def nbB (ps : List (Int × Int)) (u v : Nat) : Bool := decide (((u : Int), (v : Int)) ∈ ps) || decide (((v : Int), (u : Int)) ∈ ps)
theorem nbB_iff {ps : List (Int × Int)} {u v : Nat} : nbB ps u v = true ↔ nb ps u v := by unfold nbB nb; simp
include hn1 hn hps h7
/-- A set of articles has no more than the best one has that those which contradict it have not. -/
theorem deficit (p : Nat → Bool) : (((List.range n).filter p).length : Int) ≤ ((nbrs n (nbB ps) ((List.range n).filter p)).length : Int) + ((n : Int) - sumL (halvesV n ps)) := by
  let q : Nat → Bool := fun y => ((List.range n).filter p).any fun x => nbB ps x y
  have hN : nbrs n (nbB ps) ((List.range n).filter p) = (List.range n).filter q := rfl
  rw [hN]
  let z := setOf (((List.range n).filter fun a => p a && !q a).map fun (a : Nat) => (a : Int)) 0
  have hzb : ∀ u : Nat, z.testBit u = true ↔ u < n ∧ p u = true ∧ q u = false := by
    intro u
    rw [setOf_testBit _ _ _ (fun x hx => by rw [List.mem_map] at hx; obtain ⟨a, _, rfl⟩ := hx; omega), Nat.zero_testBit]
    simp only [Bool.false_eq_true, false_or, List.mem_map, List.mem_filter, List.mem_range, Bool.and_eq_true, Bool.not_eq_true']
    constructor
    · rintro ⟨a, ⟨h1, h2, h3⟩, h4⟩
      have : a = u := by omega
      subst this; exact ⟨h1, h2, h3⟩
    · rintro ⟨h1, h2, h3⟩; exact ⟨u, ⟨h1, h2, h3⟩, rfl⟩
  have hz : z < 2 ^ n := lt_two fun i hi => ((hzb i).1 hi).1
  have h128 : z < 128 := Nat.lt_of_lt_of_le hz (Nat.le_trans (Nat.pow_le_pow_right (by omega) hn) (by decide))
  have hqs : ∀ x y, x < n → p x = true → nb ps x y → q y = true := by
    intro x y hx hp hxy
    exact List.any_eq_true.2 ⟨x, List.mem_filter.2 ⟨List.mem_range.2 hx, hp⟩, nbB_iff.2 hxy⟩
  have hind : twoOf ps z &&& z = 0 := by
    rw [indep_iff hn hps h7 hz]
    rintro a b hab ⟨h1, h2⟩
    obtain ⟨a1, a2, _⟩ := (hzb a).1 h1
    have := hqs a b a1 a2 hab
    rw [((hzb b).1 h2).2.2] at this; simp at this
  have ht := two_lt hn hps h7 hz
  have hmin : sumL (halvesV n ps) ≤ costOf n (twoOf ps z) z := by
    obtain ⟨g1, g2⟩ := vals_ok hn hps h7 hz hind
    have := (cheap_mem.1 (halves_spec hn1 hn hps h7).1).2 _ g2 g1
    rwa [cost_sum hn ht hz] at this
  unfold costOf at hmin
  rw [memb_len_range hn hz, memb_len_range hn ht] at hmin
  have e1 : ((List.range n).filter z.testBit).length = ((List.range n).filter fun a => p a && !q a).length := by
    congr 1
    apply List.filter_congr
    intro u hu
    rw [Bool.eq_iff_iff, hzb]
    simp [List.mem_range.1 hu]
  have e2 : ((List.range n).filter (twoOf ps z).testBit).length ≤ ((List.range n).filter fun a => q a && !p a).length := by
    apply filter_le_len
    intro v hv h
    obtain ⟨u, h1, h2⟩ := (two_bit h7 z v h128).1 h
    obtain ⟨u1, u2, u3⟩ := (hzb u).1 h1
    have hq := hqs u v u1 u2 h2
    have hpv : p v = false := by
      cases hp : p v
      · rfl
      · have := hqs v u (List.mem_range.1 hv) hp (nb_symm h2)
        rw [u3] at this; simp at this
    simp [hq, hpv]
  have e3 := filter_or_len (fun a => p a && !q a) (fun a => p a && q a) (List.range n) (by intro x _ ⟨h1, h2⟩; cases hq : q x <;> simp [hq] at h1 h2)
  have e4 := filter_or_len (fun a => q a && !p a) (fun a => p a && q a) (List.range n) (by intro x _ ⟨h1, h2⟩; cases hq : p x <;> simp [hq] at h1 h2)
  have e5 : (List.range n).filter (fun x => (p x && !q x) || (p x && q x)) = (List.range n).filter p := by
    apply List.filter_congr; intro x _; cases p x <;> cases q x <;> rfl
  have e6 : (List.range n).filter (fun x => (q x && !p x) || (p x && q x)) = (List.range n).filter q := by
    apply List.filter_congr; intro x _; cases p x <;> cases q x <;> rfl
  rw [e5] at e3
  rw [e6] at e4
  omega
end


theorem ind_or (A B : Prop) [Decidable A] [Decidable B] : (if A ∨ B then (1 : Int) else 0) ≤ (if A then 1 else 0) + (if B then 1 else 0) := by
  by_cases h1 : A
  · rw [if_pos (.inl h1), if_pos h1]; split <;> omega
  · by_cases h2 : B
    · rw [if_pos (.inr h2), if_neg h1, if_pos h2]; omega
    · rw [if_neg (by simp [h1, h2]), if_neg h1, if_neg h2]; omega
theorem half_le {n : Nat} {ps : List (Int × Int)} (hn1 : 1 ≤ n) (hn : n ≤ 7) (hps : ∀ p ∈ ps, 0 ≤ p.1 ∧ p.1 < p.2 ∧ p.2 < (n : Int)) (h7 : ∀ p ∈ ps, okP p) : 0 ≤ sumL (halvesV n ps) ∧ sumL (halvesV n ps) ≤ n := by
  obtain ⟨h1, h2, _⟩ := halvesV_ok hn1 hn hps h7
  have hb := sumL_bd _ h2
  have hd := deficit hn1 hn hps h7 (fun _ => false)
  have e0 : (List.range n).filter (fun _ => false) = [] := by rw [List.filter_eq_nil_iff]; intro x _; simp
  rw [e0, List.length_nil] at hd
  have : (nbrs n (nbB ps) []).length = 0 := by
    unfold nbrs
    have : (List.range n).filter (fun y => ([] : List Nat).any fun x => nbB ps x y) = [] := by rw [List.filter_eq_nil_iff]; intro x _; simp
    rw [this]; rfl
  rw [this] at hd
  omega

/-- There are shares that are worth what the cheapest values cost. -/
theorem dual {n : Nat} {ps : List (Int × Int)} (hn1 : 1 ≤ n) (hn : n ≤ 7) (hps : ∀ p ∈ ps, 0 ≤ p.1 ∧ p.1 < p.2 ∧ p.2 < (n : Int)) (h7 : ∀ p ∈ ps, okP p) (hnd : ps.Nodup) :
    ∃ s ∈ shF n ps ps.length [], sumL (halvesV n ps) ≤ sumL s := by
  obtain ⟨c0, c1⟩ := half_le hn1 hn hps h7
  obtain ⟨d, hd⟩ := Int.eq_ofNat_of_zero_le (show 0 ≤ (n : Int) - sumL (halvesV n ps) by omega)
  let r : Nat → Nat → Bool := fun x y => nbB ps x y || decide (n ≤ y)
  have hcond : ∀ p : Nat → Bool, ((List.range n).filter p).length ≤ (nbrs (n + d) r ((List.range n).filter p)).length := by
    intro p
    by_cases hz : (List.range n).filter p = []
    · rw [hz]; simp
    obtain ⟨w, hw⟩ := List.exists_mem_of_ne_nil _ hz
    have h1 := deficit hn1 hn hps h7 p
    rw [hd] at h1
    have h2 : (nbrs (n + d) r ((List.range n).filter p)).length = (nbrs n (nbB ps) ((List.range n).filter p)).length + d := by
      unfold nbrs
      have e : List.range (n + d) = List.range n ++ (List.range d).map (n + ·) := List.range_add
      rw [e, List.filter_append, List.length_append]
      congr 1
      · congr 1
        apply List.filter_congr
        intro y hy
        have hy2 : ¬ n ≤ y := by have := List.mem_range.1 hy; omega
        show (((List.range n).filter p).any fun x => nbB ps x y || decide (n ≤ y)) = _
        simp [hy2]
      · have : ((List.range d).map (n + ·)).filter (fun y => ((List.range n).filter p).any fun x => r x y) = (List.range d).map (n + ·) := by
          rw [List.filter_eq_self]
          intro y hy
          rw [List.mem_map] at hy
          obtain ⟨i, _, rfl⟩ := hy
          exact List.any_eq_true.2 ⟨w, hw, by show (nbB ps w (n + i) || decide (n ≤ n + i)) = true; simp⟩
        rw [this]; simp
    omega
  obtain ⟨f, f1, f2⟩ := hall (n + d) n (List.range n) r (by simp) List.nodup_range hcond
  have hf : ∀ a, a < n → f a < n + d ∧ (f a < n → nb ps a (f a)) := by
    intro a ha
    obtain ⟨h1, h2⟩ := f1 a (List.mem_range.2 ha)
    refine ⟨h1, fun h3 => ?_⟩
    have h4 : (nbB ps a (f a) || decide (n ≤ f a)) = true := h2
    have h5 : decide (n ≤ f a) = false := decide_eq_false (by omega)
    rw [h5, Bool.or_false] at h4
    exact nbB_iff.1 h4
  have hinj : ∀ a b, a < n → b < n → f a = f b → a = b := fun a b ha hb h => f2 a (List.mem_range.2 ha) b (List.mem_range.2 hb) h
  let g : Int × Int → Int := fun p => (if (f p.1.toNat : Int) = p.2 then 1 else 0) + (if (f p.2.toNat : Int) = p.1 then 1 else 0)
  have hgb : ∀ p, 0 ≤ g p ∧ g p ≤ 2 := by
    intro p; show 0 ≤ (if _ then (1 : Int) else 0) + (if _ then (1 : Int) else 0) ∧ (if _ then (1 : Int) else 0) + (if _ then (1 : Int) else 0) ≤ 2
    split <;> split <;> omega
  refine ⟨ps.map g, ?_, ?_⟩
  · -- they are shares
    refine (mem_shF ps.length [] _ (by simp)).2 ⟨_, rfl, by simp, ?_, .inr ?_⟩
    · intro x hx; rw [List.mem_map] at hx; obtain ⟨p, _, rfl⟩ := hx; exact hgb p
    · cases ho : overFrom (ps.zip (ps.map g)) n 0
      · rfl
      · obtain ⟨a, ha, h2⟩ := (over_iff _).1 ho
        rw [load_map] at h2
        let P : Int × Int → Prop := fun p => (p.1 = a ∧ (f a : Int) = p.2) ∨ (p.2 = a ∧ (f a : Int) = p.1)
        let Q : Int × Int → Prop := fun p => (p.1 = a ∧ (f p.2.toNat : Int) = a) ∨ (p.2 = a ∧ (f p.1.toNat : Int) = a)
        have hle : sumL (ps.map fun p => if p.1 = (a : Int) ∨ p.2 = (a : Int) then g p else 0) ≤ sumL (ps.map fun p => (if P p then (1 : Int) else 0) + (if Q p then (1 : Int) else 0)) := by
          apply sum_le2
          intro p hp
          have hpp := hps p hp
          by_cases e1 : p.1 = (a : Int)
          · rw [if_pos (.inl e1)]
            have hP : P p ↔ (f p.1.toNat : Int) = p.2 := by
              show ((p.1 = a ∧ (f a : Int) = p.2) ∨ (p.2 = a ∧ (f a : Int) = p.1)) ↔ _
              have : p.1.toNat = a := by omega
              rw [this]
              constructor
              · rintro (⟨_, h⟩ | ⟨h, _⟩)
                · exact h
                · omega
              · intro h; exact .inl ⟨e1, h⟩
            have hQ : Q p ↔ (f p.2.toNat : Int) = p.1 := by
              show ((p.1 = a ∧ (f p.2.toNat : Int) = a) ∨ (p.2 = a ∧ (f p.1.toNat : Int) = a)) ↔ _
              constructor
              · rintro (⟨_, h⟩ | ⟨h, _⟩)
                · omega
                · omega
              · intro h; exact .inl ⟨e1, by omega⟩
            show (if (f p.1.toNat : Int) = p.2 then (1 : Int) else 0) + (if (f p.2.toNat : Int) = p.1 then (1 : Int) else 0) ≤ _
            simp only [hP, hQ]; exact Int.le_refl _
          · by_cases e2 : p.2 = (a : Int)
            · rw [if_pos (.inr e2)]
              have hP : P p ↔ (f p.2.toNat : Int) = p.1 := by
                show ((p.1 = a ∧ (f a : Int) = p.2) ∨ (p.2 = a ∧ (f a : Int) = p.1)) ↔ _
                have : p.2.toNat = a := by omega
                rw [this]
                constructor
                · rintro (⟨h, _⟩ | ⟨_, h⟩)
                  · exact absurd h e1
                  · exact h
                · intro h; exact .inr ⟨e2, h⟩
              have hQ : Q p ↔ (f p.1.toNat : Int) = p.2 := by
                show ((p.1 = a ∧ (f p.2.toNat : Int) = a) ∨ (p.2 = a ∧ (f p.1.toNat : Int) = a)) ↔ _
                constructor
                · rintro (⟨h, _⟩ | ⟨_, h⟩)
                  · exact absurd h e1
                  · omega
                · intro h; exact .inr ⟨e2, by omega⟩
              show (if (f p.1.toNat : Int) = p.2 then (1 : Int) else 0) + (if (f p.2.toNat : Int) = p.1 then (1 : Int) else 0) ≤ _
              simp only [hP, hQ]; omega
            · rw [if_neg (by simp [e1, e2])]
              split <;> split <;> omega
        rw [sum_add] at hle
        have hP1 := ind_le_one P ps hnd (by
          intro p hp q hq h3 h4
          have k1 := hps p hp
          have k2 := hps q hq
          rcases h3 with ⟨a1, a2⟩ | ⟨a1, a2⟩ <;> rcases h4 with ⟨b1, b2⟩ | ⟨b1, b2⟩
          · exact Prod.ext (by omega) (by omega)
          · omega
          · omega
          · exact Prod.ext (by omega) (by omega))
        have hQ1 := ind_le_one Q ps hnd (by
          intro p hp q hq h3 h4
          have k1 := hps p hp
          have k2 := hps q hq
          have key : ∀ x y : Int, 0 ≤ x → x < n → 0 ≤ y → y < n → (f x.toNat : Int) = a → (f y.toNat : Int) = a → x = y := by
            intro x y x0 x1 y0 y1 h5 h6
            have := hinj x.toNat y.toNat (by omega) (by omega) (by omega)
            omega
          rcases h3 with ⟨a1, a2⟩ | ⟨a1, a2⟩ <;> rcases h4 with ⟨b1, b2⟩ | ⟨b1, b2⟩
          · have := key p.2 q.2 (by omega) (by omega) (by omega) (by omega) a2 b2
            exact Prod.ext (by omega) (by omega)
          · have := key p.2 q.1 (by omega) (by omega) (by omega) (by omega) a2 b2
            omega
          · have := key p.1 q.2 (by omega) (by omega) (by omega) (by omega) a2 b2
            omega
          · have := key p.1 q.1 (by omega) (by omega) (by omega) (by omega) a2 b2
            exact Prod.ext (by omega) (by omega))
        omega
  · -- and worth enough
    let M := (List.range n).filter fun a => decide (f a < n)
    have hMn : n ≤ M.length + d := by
      have e := filter_lt (fun a => decide (f a < n)) (List.range n)
      have e2 : ((List.range n).filter fun a => !decide (f a < n)).length ≤ d := by
        have h1 := nodup_len_le (((List.range n).filter fun a => !decide (f a < n)).map f) ((List.range d).map (n + ·)) (by
            rw [List.nodup_iff_pairwise_ne, List.pairwise_map]
            refine List.Pairwise.imp_of_mem ?_ (List.nodup_iff_pairwise_ne.1 (List.nodup_range.filter _))
            intro x y hx hy hne he
            rw [List.mem_filter, List.mem_range] at hx hy
            exact hne (hinj x y hx.1 hy.1 he)) (by
            intro y hy
            rw [List.mem_map] at hy
            obtain ⟨x, hx, rfl⟩ := hy
            rw [List.mem_filter, List.mem_range] at hx
            have h3 := (hf x hx.1).1
            have h4 : ¬ f x < n := by simpa using hx.2
            exact List.mem_map.2 ⟨f x - n, List.mem_range.2 (by omega), by omega⟩)
        simpa using h1
      rw [List.length_range] at e
      show n ≤ ((List.range n).filter fun a => decide (f a < n)).length + d
      omega
    have hMd : M.Nodup := List.nodup_range.filter _
    have hMm : ∀ a ∈ M, a < n ∧ f a < n := by
      intro a ha
      have : a ∈ (List.range n).filter fun a => decide (f a < n) := ha
      rw [List.mem_filter, List.mem_range] at this
      exact ⟨this.1, of_decide_eq_true this.2⟩
    let E : Int × Int → Nat → Prop := fun p a => ((a : Int) = p.1 ∧ (f a : Int) = p.2) ∨ ((a : Int) = p.2 ∧ (f a : Int) = p.1)
    have h1 : sumL (ps.map fun p => sumL (M.map fun a => if E p a then (1 : Int) else 0)) ≤ sumL (ps.map g) := by
      apply sum_le2
      intro p hp
      have hpp := hps p hp
      have e1 : sumL (M.map fun a => if E p a then (1 : Int) else 0) ≤ sumL (M.map fun (a : Nat) => (if ((a : Int) = p.1 ∧ (f a : Int) = p.2) then (1 : Int) else 0) + (if ((a : Int) = p.2 ∧ (f a : Int) = p.1) then (1 : Int) else 0)) := by
        apply sum_le2
        intro a _
        show (if ((a : Int) = p.1 ∧ (f a : Int) = p.2) ∨ ((a : Int) = p.2 ∧ (f a : Int) = p.1) then (1 : Int) else 0) ≤ _
        exact ind_or _ _
      rw [sum_add] at e1
      have z : ∀ (P : Nat → Prop) [DecidablePred P], (∀ a ∈ M, ¬ P a) → sumL (M.map fun a => if P a then (1 : Int) else 0) = 0 := by
        intro P _ h
        have : M.map (fun a => if P a then (1 : Int) else 0) = M.map fun _ => 0 := List.map_congr_left fun a ha => if_neg (h a ha)
        rw [this]
        generalize M = l
        induction l with
        | nil => rfl
        | cons b l ih => simp only [List.map_cons, sumL, ih]; rfl
      have b1 : sumL (M.map fun (a : Nat) => if ((a : Int) = p.1 ∧ (f a : Int) = p.2) then (1 : Int) else 0) ≤ if (f p.1.toNat : Int) = p.2 then 1 else 0 := by
        by_cases x : (f p.1.toNat : Int) = p.2
        · rw [if_pos x]
          exact ind_le_one _ M hMd (fun a _ b _ ha hb => by have := ha.1; have := hb.1; omega)
        · have hno : ∀ a ∈ M, ¬((a : Int) = p.1 ∧ (f a : Int) = p.2) := by
            rintro a _ ⟨h5, h6⟩
            have e : p.1.toNat = a := by omega
            exact x (by rw [e]; exact h6)
          rw [if_neg x, z _ hno]
          exact Int.le_refl _
      have b2 : sumL (M.map fun (a : Nat) => if ((a : Int) = p.2 ∧ (f a : Int) = p.1) then (1 : Int) else 0) ≤ if (f p.2.toNat : Int) = p.1 then 1 else 0 := by
        by_cases x : (f p.2.toNat : Int) = p.1
        · rw [if_pos x]
          exact ind_le_one _ M hMd (fun a _ b _ ha hb => by have := ha.1; have := hb.1; omega)
        · have hno : ∀ a ∈ M, ¬((a : Int) = p.2 ∧ (f a : Int) = p.1) := by
            rintro a _ ⟨h5, h6⟩
            have e : p.2.toNat = a := by omega
            exact x (by rw [e]; exact h6)
          rw [if_neg x, z _ hno]
          exact Int.le_refl _
      show _ ≤ (if (f p.1.toNat : Int) = p.2 then (1 : Int) else 0) + (if (f p.2.toNat : Int) = p.1 then (1 : Int) else 0)
      omega
    rw [sum_swap] at h1
    have h2 := sum_ones (fun a => sumL (ps.map fun p => if E p a then (1 : Int) else 0)) M (by
      intro a ha
      obtain ⟨a1, a2⟩ := hMm a ha
      rcases (hf a a1).2 a2 with h | h
      · exact ind_mem (fun p => E p a) ps _ h (.inl ⟨rfl, rfl⟩)
      · exact ind_mem (fun p => E p a) ps _ h (.inr ⟨rfl, rfl⟩))
    omega

theorem shares_worth {n : Nat} {ps : List (Int × Int)} (hn1 : 1 ≤ n) (hn : n ≤ 7) (hps : ∀ p ∈ ps, 0 ≤ p.1 ∧ p.1 < p.2 ∧ p.2 < (n : Int)) (h7 : ∀ p ∈ ps, okP p) (hnd : ps.Nodup) : sumL (sharesR n ps) = sumL (halvesV n ps) := by
  obtain ⟨s, hs, hle⟩ := dual hn1 hn hps h7 hnd
  obtain ⟨h1, h2⟩ := sharesR_in (n := n) (ps := ps)
  have h3 := (h2 s hs).1
  obtain ⟨a1, a2⟩ := shF_ok h1
  obtain ⟨v1, v2, _⟩ := halvesV_ok hn1 hn hps h7
  have hv := (cheap_mem.1 (halves_spec hn1 hn hps h7).1).1.2
  have ho : overB ps (sharesR n ps) = false := by
    rw [← over_eq hn hps]
    obtain ⟨t, e, _, _, e4⟩ := (mem_shF ps.length [] _ (by simp)).1 h1
    rcases e4 with e4 | e4
    · have : ps = [] := List.eq_nil_of_length_eq_zero e4
      subst this
      cases h : overFrom (List.zip ([] : List (Int × Int)) (sharesR n [])) n 0
      · rfl
      · obtain ⟨a, _, h5⟩ := (over_iff _).1 h
        simp [loadOf] at h5
    · exact e4
  have := weak hn hps v1 v2 a1 a2 hv ho
  omega


/-! ### a list of numbers that may be written, in a block behind the first four -/
def Rep (J : List (List AV)) (o : List Int) (v : AV) : Prop :=
  (o = [] ∧ v = .v (.slice none 0 0)) ∨ ∃ (l c : Nat) (cs : List AV), v = .rsl (l + 4) 0 o.length c 1 false ∧ J[l]? = some cs ∧ cs.take o.length = o.map I ∧ o.length ≤ c ∧ c = cs.length ∧ 0 < c
def NotAt (q : Nat) (v : AV) : Prop := ∀ n c : Nat, v ≠ .rsl (q + 4) 0 n c 1 false
def Frame (J0 : List (List AV)) (v0 : AV) (J : List (List AV)) (v : AV) : Prop := ∀ (q : Nat) (c : List AV), J0[q]? = some c → NotAt q v0 → J[q]? = some c ∧ NotAt q v
theorem Frame.refl (J : List (List AV)) (v : AV) : Frame J v J v := fun _ _ h1 h2 => ⟨h1, h2⟩
theorem Frame.trans {J0 J1 J2 : List (List AV)} {v0 v1 v2 : AV} (h : Frame J0 v0 J1 v1) (h' : Frame J1 v1 J2 v2) : Frame J0 v0 J2 v2 := fun q c h1 h2 => by
  obtain ⟨h3, h4⟩ := h q c h1 h2
  exact h' q c h3 h4
theorem rep_append {J : List (List AV)} {o : List Int} {v : AV} (h : Rep J o v) (hl : o.length < 1000) (x : Int) : ∃ (v2 : AV) (J2 : List (List AV)), (∀ A B C D : List AV, appendmAV 1 false v [I x] ⟨A :: B :: C :: D :: J, []⟩ = some (v2, ⟨A :: B :: C :: D :: J2, []⟩)) ∧ Rep J2 (o ++ [x]) v2 ∧ Frame J v J2 v2 ∧ v2.shaped = true ∧ v2.cells = [v2] ∧ storable v2 = true := by
  rcases h with ⟨rfl, rfl⟩ | ⟨l, c, cs, rfl, h1, h2, h3, h4, h5⟩
  · refine ⟨.rsl (J.length + 4) 0 1 1 1 false, J ++ [[I x]], fun A B C D => ?_, .inr ⟨J.length, 1, [I x], rfl, by simp, rfl, by simp, rfl, by omega⟩, ?_, rfl, rfl, rfl⟩
    · simp [appendmAV, newM, maxGrow, flatAV, AV.cells]
    · intro q c hq hn
      have hql := (List.getElem?_eq_some_iff.1 hq).1
      refine ⟨by rw [List.getElem?_append_left hql]; exact hq, fun n c2 e => ?_⟩
      simp at e; omega
  · have hll := (List.getElem?_eq_some_iff.1 h1).1
    have hget : ∀ A B C D : List AV, (A :: B :: C :: D :: J)[l + 4]? = some cs := fun A B C D => h1
    by_cases hc : o.length + 1 ≤ c
    · refine ⟨.rsl (l + 4) 0 (o.length + 1) c 1 false, J.set l (cs.take o.length ++ [I x] ++ cs.drop (o.length + 1)), fun A B C D => ?_, .inr ⟨l, c, cs.take o.length ++ [I x] ++ cs.drop (o.length + 1), by simp, by simp [hll], ?_, by simpa using hc, ?_, h5⟩, ?_, rfl, rfl, rfl⟩
      · simp only [appendmAV, hget]
        rw [if_pos ⟨trivial, trivial, h3, by omega, by omega⟩, if_pos (by simpa using hc), if_pos (by simp; omega)]
        simp [flatAV, AV.cells]
      · rw [h2]
        have : (o.map I).length = o.length := by simp
        rw [List.length_append, List.length_singleton, List.take_append_of_le_length (by simp), List.take_of_length_le (by simp)]
        simp
      · simp; omega
      · intro q c2 hq hn
        have hne : q ≠ l := fun e => hn o.length c (by rw [e])
        refine ⟨by rw [List.getElem?_set_ne (Ne.symm hne)]; exact hq, fun n c3 e => ?_⟩
        simp at e; omega
    · have hcl : o.length = c := by omega
      refine ⟨.rsl (J.length + 4) 0 (o.length + 1) (o.length + 1) 1 false, J.set l [] ++ [o.map I ++ [I x]], fun A B C D => ?_, .inr ⟨J.length, o.length + 1, o.map I ++ [I x], by simp, by simp, ?_, by simp, by simp, by omega⟩, ?_, rfl, rfl, rfl⟩
      · simp only [appendmAV, hget]
        rw [if_pos ⟨trivial, trivial, h3, by omega, by omega⟩, if_neg (by simp; omega), if_pos ⟨trivial, by unfold maxGrow; simp; omega, by simp; omega⟩]
        simp [flatAV, AV.cells, h2]
      · rw [List.take_of_length_le (by simp)]; simp
      · intro q c2 hq hn
        have hne : q ≠ l := fun e => hn o.length c (by rw [e])
        have hql := (List.getElem?_eq_some_iff.1 hq).1
        refine ⟨by rw [List.getElem?_append_left (by simpa using hql), List.getElem?_set_ne (Ne.symm hne)]; exact hq, fun n c3 e => ?_⟩
        simp at e; omega
/-- The last number is taken away. -/
theorem rep_back {J : List (List AV)} {o : List Int} {x : Int} {v : AV} (h : Rep J (o ++ [x]) v) : ∃ v2 : AV, lenAV v = some (I ((o.length : Int) + 1)) ∧ sliceAV 1 v none (some (I o.length)) none = some v2 ∧ Rep J o v2 ∧ Frame J v J v2 ∧ v2.shaped = true ∧ v2.cells = [v2] ∧ storable v2 = true := by
  rcases h with ⟨h0, _⟩ | ⟨l, c, cs, rfl, h1, h2, h3, h4, h5⟩
  · simp at h0
  · simp only [List.length_append, List.length_singleton] at h2 h3
    refine ⟨.rsl (l + 4) 0 o.length c 1 false, by simp [lenAV, goI], ?_, .inr ⟨l, c, cs, rfl, h1, ?_, by omega, h4, h5⟩, ?_, rfl, rfl, rfl⟩
    · simp only [sliceAV, natOr, natOf]
      simp; omega
    · have := congrArg (List.take o.length) h2
      rw [List.take_take, Nat.min_eq_left (by omega), List.map_append, List.take_left' (by simp)] at this
      exact this
    · intro q c2 hq hn
      refine ⟨hq, fun n c3 e => ?_⟩
      simp at e
      exact hn (o ++ [x]).length c (by simp; omega)


/-! ### the search for shares -/
def takeR (room : List Int) (p : Int × Int) (x : Int) : List Int := (room.set p.1.toNat (room.getD p.1.toNat 0 - x)).set p.2.toNat (room.getD p.2.toNat 0 - x)
def mxR (room : List Int) (p : Int × Int) (left : Int) : Nat := (min (min (room.getD p.1.toNat 0) (room.getD p.2.toNat 0)) left).toNat
def findL (n : Nat) : List (Int × Int) → List Int → Int → Option (List Int)
  | [], _, left => if left = 0 then some [] else none
  | p :: q, room, left => if sumL (room.take n) < 2 * left then none else (List.range' 0 (mxR room p left + 1)).findSome? fun (x : Nat) => (findL n q (takeR room p x) (left - x)).map ((x : Int) :: ·)
abbrev fnPut : AV := .fn (.func 112) [] [.ptr 0 0, .ptr 2 0, .ptr 1 0, .ptr 3 0]
abbrev S4 (B0 : List AV) (v : AV) (room : List Int) (J : List (List AV)) : St := ⟨B0 :: [v] :: room.map I :: [fnPut] :: J, []⟩

theorem loop112_0 (nl : Bool) (n : Nat) (hn : n ≤ 7) (ps : List (Int × Int)) (i : Nat) (left : Int) (room : List Int) (hrl : room.length = 7) (hrb : ∀ x ∈ room, 0 ≤ x ∧ x ≤ 2) (v : AV) (J : List (List AV)) (lo hi : Nat) (a : Nat) (acc : Int) (hok : a ≤ n ∧ 0 ≤ acc ∧ acc ≤ 2 * a) (env : Env) (st : St)
    (hg : gcAV false lo hi (canon env [0, 1, 2, 3, 4, 5, 9, 23, 24, 25]) st = ([(0, I i), (1, I left), (2, .ptr 0 0), (3, .ptr 2 0), (4, .ptr 1 0), (5, .ptr 3 0), (9, I acc), (23, .rsl 2 0 n 7 1 false), (24, I n), (25, I a)], S4 (bkCells nl n ps) v room J)) :
    ∃ x_1 en s, lim (headed pure (run L) false [0, 1, 2, 3, 4, 5, 9, 23, 24, 25] lp112_0 lo hi) env st = some (x_1, en, s) ∧ (x_1 = .exit 0 ∧ en.get 0 = I i ∧ en.get 1 = I left ∧ en.get 2 = .ptr 0 0 ∧ en.get 3 = .ptr 2 0 ∧ en.get 4 = .ptr 1 0 ∧ en.get 5 = .ptr 3 0 ∧ en.get 9 = I (acc + sumL ((room.take n).drop a)) ∧ s = S4 (bkCells nl n ps) v room J) := by
  refine loop_wp (α := Nat × Int) (fun ⟨a, acc⟩ => n - a) (fun ⟨a, acc⟩ => a ≤ n ∧ 0 ≤ acc ∧ acc ≤ 2 * a) (fun ⟨a, acc⟩ => ([(0, I i), (1, I left), (2, .ptr 0 0), (3, .ptr 2 0), (4, .ptr 1 0), (5, .ptr 3 0), (9, I acc), (23, .rsl 2 0 n 7 1 false), (24, I n), (25, I a)], S4 (bkCells nl n ps) v room J)) (fun ⟨a, acc⟩ x_1 en s => x_1 = .exit 0 ∧ en.get 0 = I i ∧ en.get 1 = I left ∧ en.get 2 = .ptr 0 0 ∧ en.get 3 = .ptr 2 0 ∧ en.get 4 = .ptr 1 0 ∧ en.get 5 = .ptr 3 0 ∧ en.get 9 = I (acc + sumL ((room.take n).drop a)) ∧ s = S4 (bkCells nl n ps) v room J) (fun ⟨a, acc⟩ hok => ?_) ⟨a, acc⟩ hok env st hg
  simp only at hok
  obtain ⟨h1, h2, h3⟩ := hok
  dsimp only
  by_cases h : a < n
  · have hs := succ64 a (by omega)
    have hlt : ((a : Int) < (n : Int)) = True := eq_true (by omega)
    have ha0 : ((0 : Int) ≤ (a : Int)) = True := eq_true (by omega)
    have hg := getI room a (by omega)
    have hb := getD_bd (B := 2) (by omega) hrb a
    have hd : (room.take n).drop a = room.getD a 0 :: (room.take n).drop (a + 1) := by
      rw [List.drop_eq_getElem_cons (by simp; omega)]
      congr 1
      rw [List.getElem_take, List.getD_eq_getElem?_getD, List.getElem?_eq_getElem (by omega)]; rfl
    rw [hd]
    generalize room.getD a 0 = x at *
    have hw : IntKind.i64.wrap (acc + x) = acc + x := by rw [wrap64] <;> omega
    simp only [go_sem, reduceIte, Nat.reduceEqDiff, Nat.reduceAdd, Nat.reduceSub, Nat.reduceLeDiff, Nat.reduceLT, reduceCtorEq, Int.reduceLT, Int.reduceLE, Int.reduceEq, Int.reduceBEq, Int.reduceSub, Int.reduceAdd, Int.reduceMul, Int.reduceNeg, Int.reduceToNat, Nat.reduceMul, Nat.reduceBEq, index_rsl_if, setm, make_ints, condK_dec, wantK_dec, not_dec, and_dec, or_dec, seqK_ite, seqK_none, blockK_ite, blockK_none, opsK_ite, opsK_none, stepK_ite, stepK_none, bodyK_ite, bodyK_none, resK_ite, resK_none, leaveK_ite, leaveK_none, only_ite, only_none, bind_ite, gives_some, gives_none, gives_ite, then_normal, then_ret, then_exit, then_none, then_ite, Option.bind_none, Bool.not_eq_true', decide_eq_false_iff_not, Bool.and_eq_true, Bool.or_eq_true, Option.some.injEq, Int.not_lt, Int.not_le, lp112_0, hlt, ha0, hs, hg, hw]
    refine ⟨(a + 1, acc + x), by simp only [go_sem, reduceIte, Nat.reduceEqDiff, Nat.reduceAdd, Nat.reduceSub, Nat.reduceLeDiff, Nat.reduceLT, reduceCtorEq, Int.reduceLT, Int.reduceLE, Int.reduceEq, Int.reduceBEq, Int.reduceSub, Int.reduceAdd, Int.reduceMul, Int.reduceNeg, Int.reduceToNat, Nat.reduceMul, Nat.reduceBEq, ren1_locm, loc_tips, locT_eq] <;> rfl, ?_, ?_, fun x en s hq => ?_⟩
    · dsimp only; exact ⟨by omega, by omega, by omega⟩
    · simp only; omega
    · simp only [sumL]; rw [← Int.add_assoc]; exact hq
  · have hd : (room.take n).drop a = [] := List.drop_eq_nil_of_le (by simp; omega)
    have hlt : ((a : Int) < (n : Int)) = False := eq_false (by omega)
    simp only [go_sem, reduceIte, Nat.reduceEqDiff, Nat.reduceAdd, Nat.reduceSub, Nat.reduceLeDiff, Nat.reduceLT, reduceCtorEq, Int.reduceLT, Int.reduceLE, Int.reduceEq, Int.reduceBEq, Int.reduceSub, Int.reduceAdd, Int.reduceMul, Int.reduceNeg, Int.reduceToNat, Nat.reduceMul, Nat.reduceBEq, index_rsl_if, setm, make_ints, condK_dec, wantK_dec, not_dec, and_dec, or_dec, seqK_ite, seqK_none, blockK_ite, blockK_none, opsK_ite, opsK_none, stepK_ite, stepK_none, bodyK_ite, bodyK_none, resK_ite, resK_none, leaveK_ite, leaveK_none, only_ite, only_none, bind_ite, gives_some, gives_none, gives_ite, then_normal, then_ret, then_exit, then_none, then_ite, Option.bind_none, Bool.not_eq_true', decide_eq_false_iff_not, Bool.and_eq_true, Bool.or_eq_true, Option.some.injEq, Int.not_lt, Int.not_le, lp112_0, hlt]
    rw [hd]; simp [sumL]


/-- What the search answers, and how it leaves the memory. -/
def Does (nl : Bool) (n : Nat) (ps : List (Int × Int)) (k : Nat) : Prop := ∀ (i : Nat), i + k = ps.length → ∀ (room : List Int), room.length = 7 → (∀ x ∈ room, 0 ≤ x ∧ x ≤ 2) → ∀ left : Int, 0 ≤ left → left ≤ 14 → ∀ (o : List Int), o.length ≤ i → ∀ (v : AV) (J : List (List AV)), Rep J o v →
  ∃ (b : Bool) (room' : List Int) (v' : AV) (J' : List (List AV)), run L 112 [I i, I left, .ptr 0 0, .ptr 2 0, .ptr 1 0, .ptr 3 0] (S4 (bkCells nl n ps) v room J) = some (B b, S4 (bkCells nl n ps) v' room' J') ∧ Frame J v J' v' ∧
    match findL n (ps.drop i) room left with
    | some l => b = true ∧ Rep J' (o ++ l) v' ∧ room'.length = 7
    | none => b = false ∧ Rep J' o v' ∧ room' = room
def fromX (n : Nat) (q : List (Int × Int)) (p : Int × Int) (room : List Int) (left : Int) (mx x : Nat) : Option (List Int) := (List.range' x (mx + 1 - x)).findSome? fun (x : Nat) => (findL n q (takeR room p x) (left - x)).map ((x : Int) :: ·)

set_option maxHeartbeats 4000000 in
theorem loop112_1 (nl : Bool) (n : Nat) (hn : n ≤ 7) (ps : List (Int × Int)) (hlen : ps.length ≤ 10) (i k : Nat) (hik : i + 1 + k = ps.length) (u w : Nat) (huw : u < w ∧ w < n) (room : List Int) (hrl : room.length = 7) (hrb : ∀ x ∈ room, 0 ≤ x ∧ x ≤ 2) (left : Int) (hl0 : 0 ≤ left) (hl1 : left ≤ 14) (o : List Int) (ho : o.length ≤ i) (mx : Nat) (hmu : (mx : Int) ≤ room.getD u 0) (hmw : (mx : Int) ≤ room.getD w 0) (hml : (mx : Int) ≤ left) (hrec : Does nl n ps k) (qb : Nat) (J00 : List (List AV)) (v00 : AV) (lo hi : Nat) (x : Nat) (v : AV) (J : List (List AV)) (hok : x ≤ mx + 1 ∧ Rep J o v ∧ J[qb]? = some [I u, I w] ∧ NotAt qb v ∧ Frame J00 v00 J v) (env : Env) (st : St)
    (hg : gcAV false lo hi (canon env [0, 1, 3, 4, 5, 12, 52, 53]) st = ([(0, I i), (1, I left), (3, .ptr 2 0), (4, .ptr 1 0), (5, .ptr 3 0), (12, .ptr (qb + 4) 0), (52, I ((mx : Int) + 1)), (53, I x)], S4 (bkCells nl n ps) v room J)) :
    ∃ x_1 en s, lim (headed pure (run L) false [0, 1, 3, 4, 5, 12, 52, 53] lp112_1 lo hi) env st = some (x_1, en, s) ∧ (∃ v' J' room', s = S4 (bkCells nl n ps) v' room' J' ∧ Frame J00 v00 J' v' ∧ (match fromX n (ps.drop (i + 1)) ((u : Int), (w : Int)) room left mx x with | some l => x_1 = .ret ∧ en.get 8 = B true ∧ Rep J' (o ++ l) v' ∧ room'.length = 7 | none => x_1 = .exit 2 ∧ Rep J' o v' ∧ room' = room)) := by
  refine loop_wp (α := Nat × AV × List (List AV)) (fun ⟨x, v, J⟩ => mx + 1 - x) (fun ⟨x, v, J⟩ => x ≤ mx + 1 ∧ Rep J o v ∧ J[qb]? = some [I u, I w] ∧ NotAt qb v ∧ Frame J00 v00 J v) (fun ⟨x, v, J⟩ => ([(0, I i), (1, I left), (3, .ptr 2 0), (4, .ptr 1 0), (5, .ptr 3 0), (12, .ptr (qb + 4) 0), (52, I ((mx : Int) + 1)), (53, I x)], S4 (bkCells nl n ps) v room J)) (fun ⟨x, v, J⟩ x_1 en s => ∃ v' J' room', s = S4 (bkCells nl n ps) v' room' J' ∧ Frame J00 v00 J' v' ∧ (match fromX n (ps.drop (i + 1)) ((u : Int), (w : Int)) room left mx x with | some l => x_1 = .ret ∧ en.get 8 = B true ∧ Rep J' (o ++ l) v' ∧ room'.length = 7 | none => x_1 = .exit 2 ∧ Rep J' o v' ∧ room' = room)) (fun ⟨x, v, J⟩ hok => ?_) ⟨x, v, J⟩ hok env st hg
  simp only at hok
  obtain ⟨h1, hR, hq0, hqn, hF⟩ := hok
  dsimp only at h1 hR hq0 hqn hF ⊢
  by_cases h : x < mx + 1
  · have hs := succ64 x (by omega)
    have hsi := succ64 i (by omega)
    have hlt : ((x : Int) < (mx : Int) + 1) = True := eq_true (by omega)
    have hfx : fromX n (ps.drop (i + 1)) ((u : Int), (w : Int)) room left mx x = match findL n (ps.drop (i + 1)) (takeR room ((u : Int), (w : Int)) x) (left - x) with | some l => some ((x : Int) :: l) | none => fromX n (ps.drop (i + 1)) ((u : Int), (w : Int)) room left mx (x + 1) := by
      unfold fromX
      rw [show mx + 1 - x = (mx + 1 - (x + 1)) + 1 by omega, List.range'_succ, List.findSome?_cons]
      cases findL n (ps.drop (i + 1)) (takeR room ((u : Int), (w : Int)) x) (left - x) <;> rfl
    have gu := getI room u (by omega)
    have gw := getI room w (by omega)
    have bu := getD_bd (B := 2) (by omega) hrb u
    have bw := getD_bd (B := 2) (by omega) hrb w
    obtain ⟨v2, J2, happ, hR2, hF2, hsh2, hce2, hst2⟩ := rep_append hR (by omega) (x : Int)
    obtain ⟨hq2, hqn2⟩ := hF2 qb _ hq0 hqn
    have hT : takeR room ((u : Int), (w : Int)) x = (room.set u (room.getD u 0 - x)).set w (room.getD w 0 - x) := by unfold takeR; simp only [Int.toNat_natCast]
    have hRl : (takeR room ((u : Int), (w : Int)) x).length = 7 := by rw [hT]; simp [hrl]
    have hRb : ∀ y ∈ takeR room ((u : Int), (w : Int)) x, 0 ≤ y ∧ y ≤ 2 := by
      intro y hy
      rw [hT] at hy
      rcases List.mem_or_eq_of_mem_set hy with hy | rfl
      · rcases List.mem_or_eq_of_mem_set hy with hy | rfl
        · exact hrb y hy
        · omega
      · omega
    have hRu : (takeR room ((u : Int), (w : Int)) x).getD u 0 = room.getD u 0 - x := by
      rw [hT, List.getD_eq_getElem?_getD, List.getElem?_set_ne (by omega), List.getElem?_set_self (by omega)]; rfl
    have hRw : (takeR room ((u : Int), (w : Int)) x).getD w 0 = room.getD w 0 - x := by
      rw [hT, List.getD_eq_getElem?_getD, List.getElem?_set_self (by simp; omega)]; rfl
    have hback : ((takeR room ((u : Int), (w : Int)) x).set u (room.getD u 0)).set w (room.getD w 0) = room := by
      rw [hT]
      apply List.ext_getElem?
      intro j
      simp only [List.getElem?_set, List.length_set]
      by_cases e1 : w = j
      · subst e1
        simp [List.getD_eq_getElem?_getD, List.getElem?_eq_getElem (show w < room.length by omega), show w < room.length by omega]
      · by_cases e2 : u = j
        · subst e2
          simp [e1, List.getD_eq_getElem?_getD, List.getElem?_eq_getElem (show u < room.length by omega), show u < room.length by omega]
        · simp [e1, e2]
    obtain ⟨b, room', v3, J3, hrun, hF3, hm⟩ := hrec (i + 1) (by omega) _ hRl hRb (left - x) (by omega) (by omega) (o ++ [(x : Int)]) (by simp; omega) v2 J2 hR2
    obtain ⟨hq3, hqn3⟩ := hF3 qb _ hq2 hqn2
    have gu2 := getI (takeR room ((u : Int), (w : Int)) x) u (by omega)
    have gw2 := getI (takeR room ((u : Int), (w : Int)) x) w (by omega)
    rw [hRu] at gu2
    rw [hRw] at gw2
    have hF4 := (hF.trans hF2).trans hF3
    have hset1 : (room.set u (room.getD u 0 - x)).set w (room.getD w 0 - x) = takeR room ((u : Int), (w : Int)) x := hT.symm
    generalize takeR room ((u : Int), (w : Int)) x = R2 at *
    generalize room.getD u 0 = ru at *
    generalize room.getD w 0 = rw0 at *
    have w1 : IntKind.i64.wrap (ru - (x : Int)) = ru - (x : Int) := by rw [wrap64] <;> omega
    have w2 : IntKind.i64.wrap (rw0 - (x : Int)) = rw0 - (x : Int) := by rw [wrap64] <;> omega
    have w3 : IntKind.i64.wrap (left - (x : Int)) = left - (x : Int) := by rw [wrap64] <;> omega
    have w4 : IntKind.i64.wrap (ru - (x : Int) + (x : Int)) = ru := by rw [wrap64] <;> omega
    have w5 : IntKind.i64.wrap (rw0 - (x : Int) + (x : Int)) = rw0 := by rw [wrap64] <;> omega
    have w6 : IntKind.i64.wrap ((o.length : Int) + 1 - 1) = (o.length : Int) := by rw [wrap64] <;> omega
    have b1 : ((0 : Int) ≤ (u : Int)) = True := eq_true (by omega)
    have b2 : ((u : Int) < 7) = True := eq_true (by omega)
    have b3 : ((0 : Int) ≤ (w : Int)) = True := eq_true (by omega)
    have b4 : ((w : Int) < 7) = True := eq_true (by omega)
    have b5 : (u + 1 ≤ 7) = True := eq_true (by omega)
    have b6 : (w + 1 ≤ 7) = True := eq_true (by omega)
    have hne : (qb + 4 == 2) = false := by simp
    have hp112 : pure 112 = false := rfl
    rw [hfx]
    cases hfl : findL n (ps.drop (i + 1)) R2 (left - x) with
    | some l =>
      rw [hfl] at hm
      obtain ⟨rfl, hm2, hm3⟩ := hm
      simp only [go_sem, reduceIte, Nat.reduceEqDiff, Nat.reduceAdd, Nat.reduceSub, Nat.reduceLeDiff, Nat.reduceLT, reduceCtorEq, Int.reduceLT, Int.reduceLE, Int.reduceEq, Int.reduceBEq, Int.reduceSub, Int.reduceAdd, Int.reduceMul, Int.reduceNeg, Int.reduceToNat, Nat.reduceMul, Nat.reduceBEq, index_rsl_if, setm, make_ints, condK_dec, wantK_dec, not_dec, and_dec, or_dec, seqK_ite, seqK_none, blockK_ite, blockK_none, opsK_ite, opsK_none, stepK_ite, stepK_none, bodyK_ite, bodyK_none, resK_ite, resK_none, leaveK_ite, leaveK_none, only_ite, only_none, bind_ite, gives_some, gives_none, gives_ite, then_normal, then_ret, then_exit, then_none, then_ite, Option.bind_none, Bool.not_eq_true', decide_eq_false_iff_not, Bool.and_eq_true, Bool.or_eq_true, Option.some.injEq, Int.not_lt, Int.not_le, lp112_1, hlt, hs, hsi, happ, hsh2, hce2, hst2, hq2, onB, offB, List.any_cons, List.any_nil, hne, gu, gw, w1, w2, w3, b1, b2, b3, b4, b5, b6, hrl, hset1, hrun, hp112, List.length_map, List.length_singleton, List.length_set, Bool.or_false, Bool.not_false]
      refine ⟨v3, J3, room', rfl, hF4, ?_, hm3⟩
      rw [List.append_assoc, List.singleton_append] at hm2; exact hm2
    | none =>
      rw [hfl] at hm
      obtain ⟨rfl, hm2, hm3⟩ := hm
      subst hm3
      obtain ⟨v4, hln, hsl, hR4, hFb, hsh4, hce4, hst4⟩ := rep_back hm2
      obtain ⟨hq4, hqn4⟩ := hFb qb _ hq3 hqn3
      simp only [go_sem, reduceIte, Nat.reduceEqDiff, Nat.reduceAdd, Nat.reduceSub, Nat.reduceLeDiff, Nat.reduceLT, reduceCtorEq, Int.reduceLT, Int.reduceLE, Int.reduceEq, Int.reduceBEq, Int.reduceSub, Int.reduceAdd, Int.reduceMul, Int.reduceNeg, Int.reduceToNat, Nat.reduceMul, Nat.reduceBEq, index_rsl_if, setm, make_ints, condK_dec, wantK_dec, not_dec, and_dec, or_dec, seqK_ite, seqK_none, blockK_ite, blockK_none, opsK_ite, opsK_none, stepK_ite, stepK_none, bodyK_ite, bodyK_none, resK_ite, resK_none, leaveK_ite, leaveK_none, only_ite, only_none, bind_ite, gives_some, gives_none, gives_ite, then_normal, then_ret, then_exit, then_none, then_ite, Option.bind_none, Bool.not_eq_true', decide_eq_false_iff_not, Bool.and_eq_true, Bool.or_eq_true, Option.some.injEq, Int.not_lt, Int.not_le, lp112_1, hlt, hs, hsi, happ, hsh2, hce2, hst2, hq2, hq3, onB, offB, List.any_cons, List.any_nil, hne, gu, gw, gu2, gw2, w1, w2, w3, w4, w5, w6, b1, b2, b3, b4, b5, b6, hrl, hRl, hset1, hback, hrun, hp112, hln, hsl, hsh4, hce4, hst4, List.length_map, List.length_singleton, List.length_set, Bool.or_false, Bool.not_false]
      refine ⟨(x + 1, v4, J3), by simp only [go_sem, reduceIte, Nat.reduceEqDiff, Nat.reduceAdd, Nat.reduceSub, Nat.reduceLeDiff, Nat.reduceLT, reduceCtorEq, Int.reduceLT, Int.reduceLE, Int.reduceEq, Int.reduceBEq, Int.reduceSub, Int.reduceAdd, Int.reduceMul, Int.reduceNeg, Int.reduceToNat, Nat.reduceMul, Nat.reduceBEq, ren1_locm, loc_tips, locT_eq] <;> rfl, ?_, ?_, fun x en s hq => ?_⟩
      · dsimp only; exact ⟨by omega, hR4, hq4, hqn4, hF4.trans hFb⟩
      · simp only; omega
      · exact hq
  · obtain rfl : x = mx + 1 := by omega
    have hfx : fromX n (ps.drop (i + 1)) ((u : Int), (w : Int)) room left mx (mx + 1) = none := by unfold fromX; rw [Nat.sub_self]; rfl
    rw [hfx]
    simp only [go_sem, reduceIte, Nat.reduceEqDiff, Nat.reduceAdd, Nat.reduceSub, Nat.reduceLeDiff, Nat.reduceLT, reduceCtorEq, Int.reduceLT, Int.reduceLE, Int.reduceEq, Int.reduceBEq, Int.reduceSub, Int.reduceAdd, Int.reduceMul, Int.reduceNeg, Int.reduceToNat, Nat.reduceMul, Nat.reduceBEq, index_rsl_if, setm, make_ints, condK_dec, wantK_dec, not_dec, and_dec, or_dec, seqK_ite, seqK_none, blockK_ite, blockK_none, opsK_ite, opsK_none, stepK_ite, stepK_none, bodyK_ite, bodyK_none, resK_ite, resK_none, leaveK_ite, leaveK_none, only_ite, only_none, bind_ite, gives_some, gives_none, gives_ite, then_normal, then_ret, then_exit, then_none, then_ite, Option.bind_none, Bool.not_eq_true', decide_eq_false_iff_not, Bool.and_eq_true, Bool.or_eq_true, Option.some.injEq, Int.not_lt, Int.not_le, lp112_1, show (((mx + 1 : Nat) : Int) < (mx : Int) + 1) = False from eq_false (by omega)]
    exact ⟨v, J, room, rfl, hF, hR, rfl⟩


set_option maxHeartbeats 2000000 in
theorem does (nl : Bool) (n : Nat) (hn : n ≤ 7) (ps : List (Int × Int)) (hlen : ps.length ≤ 10) (hps : ∀ p ∈ ps, 0 ≤ p.1 ∧ p.1 < p.2 ∧ p.2 < (n : Int)) : ∀ k, Does nl n ps k := by
  intro k
  induction k with
  | zero =>
    intro i hik room hrl hrb left hl0 hl1 ol ho v J hR
    have hi : i = ps.length := by omega
    subst hi
    have hd : ps.drop ps.length = [] := List.drop_length
    rw [hd]
    refine ⟨decide (left = 0), room, v, J, ?_, Frame.refl J v, ?_⟩
    · rw [run_shared (fn := ir112) rfl rfl]
      simp only [ir112, go_sem, reduceIte, Nat.reduceEqDiff, Nat.reduceAdd, Nat.reduceSub, Nat.reduceLeDiff, Nat.reduceLT, reduceCtorEq, Int.reduceLT, Int.reduceLE, Int.reduceEq, Int.reduceBEq, Int.reduceSub, Int.reduceAdd, Int.reduceMul, Int.reduceNeg, Int.reduceToNat, Nat.reduceMul, Nat.reduceBEq, List.length_map]
    · simp only [findL]
      by_cases h : left = 0
      · rw [if_pos h]; exact ⟨by simp [h], by rw [List.append_nil]; exact hR, hrl⟩
      · rw [if_neg h]; exact ⟨by simp [h], hR, trivial⟩
  | succ k ih =>
    intro i hik room hrl hrb left hl0 hl1 ol ho v J hR
    have hi : i < ps.length := by omega
    have hd : ps.drop i = ps[i] :: ps.drop (i + 1) := List.drop_eq_getElem_cons hi
    have hx := index_prs nl ps i hi
    have hp := hps ps[i] (List.getElem_mem hi)
    rw [hd]
    generalize ps[i] = c at *
    obtain ⟨u, w⟩ := c
    simp only at hx hp
    obtain ⟨u, rfl⟩ := Int.eq_ofNat_of_zero_le hp.1
    obtain ⟨w, rfl⟩ := Int.eq_ofNat_of_zero_le (show 0 ≤ w by omega)
    have q1 : ((i : Int) = (ps.length : Int)) = False := eq_false (by omega)
    have hsl : sliceaAV 7 1 false (.ptr 2 0) none (some (.v (.int .i64 (n : Int)))) none = some (.rsl 2 0 n 7 1 false) := by
      simp only [sliceaAV, natOr, natOf]
      simp; omega
    have hsb := sumL_bd (room.take n) (fun x hx => hrb x (List.mem_of_mem_take hx))
    have hw2 := wrap64 (2 * left) (by omega) (by omega)
    have gu := getI room u (by omega)
    have gw := getI room w (by omega)
    have bu := getD_bd (B := 2) (by omega) hrb u
    have bw := getD_bd (B := 2) (by omega) hrb w
    have hmx : ((mxR room ((u : Int), (w : Int)) left : Nat) : Int) = min (min (room.getD u 0) (room.getD w 0)) left := by
      unfold mxR; simp only [Int.toNat_natCast]; omega
    have hfl : findL n (((u : Int), (w : Int)) :: ps.drop (i + 1)) room left = if sumL (room.take n) < 2 * left then none else fromX n (ps.drop (i + 1)) ((u : Int), (w : Int)) room left (mxR room ((u : Int), (w : Int)) left) 0 := rfl
    rw [hfl]
    generalize mxR room ((u : Int), (w : Int)) left = mx at *
    have hmu : (mx : Int) ≤ room.getD u 0 := by omega
    have hmw : (mx : Int) ≤ room.getD w 0 := by omega
    have hml : (mx : Int) ≤ left := by omega
    rw [run_shared (fn := ir112) rfl rfl]
    by_cases pr : sumL (room.take n) < 2 * left
    · rw [if_pos pr]
      refine ⟨false, room, v, J, ?_, Frame.refl J v, rfl, hR, rfl⟩
      simp only [ir112, go_sem, reduceIte, Nat.reduceEqDiff, Nat.reduceAdd, Nat.reduceSub, Nat.reduceLeDiff, Nat.reduceLT, reduceCtorEq, Int.reduceLT, Int.reduceLE, Int.reduceEq, Int.reduceBEq, Int.reduceSub, Int.reduceAdd, Int.reduceMul, Int.reduceNeg, Int.reduceToNat, Nat.reduceMul, Nat.reduceBEq, q1, hsl, List.length_map]
      generalize hg : lim (headed pure (run L) false _ lp112_0 _ _) _ _ = o
      obtain ⟨x, en, s, rfl, h2⟩ : ∃ x en s, o = some (x, en, s) ∧ _ := by rw [← hg]; exact loop112_0 nl n hn ps i left room hrl hrb v J (4 + J.length) 0 0 0 ⟨by omega, by omega, by omega⟩ _ _ (by simp only [go_sem, reduceIte, Nat.reduceEqDiff, Nat.reduceAdd, Nat.reduceSub, Nat.reduceLeDiff, Nat.reduceLT, reduceCtorEq, Int.reduceLT, Int.reduceLE, Int.reduceEq, Int.reduceBEq, Int.reduceSub, Int.reduceAdd, Int.reduceMul, Int.reduceNeg, Int.reduceToNat, Nat.reduceMul, Nat.reduceBEq, Int.natCast_zero] <;> rfl)
      clear hg
      obtain ⟨rfl, e0, e1, e2, e3, e4, e5, e9, rfl⟩ := h2
      rw [List.drop_zero, Int.zero_add] at e9
      simp only [go_sem, reduceIte, Nat.reduceEqDiff, Nat.reduceAdd, Nat.reduceSub, Nat.reduceLeDiff, Nat.reduceLT, reduceCtorEq, Int.reduceLT, Int.reduceLE, Int.reduceEq, Int.reduceBEq, Int.reduceSub, Int.reduceAdd, Int.reduceMul, Int.reduceNeg, Int.reduceToNat, Nat.reduceMul, Nat.reduceBEq, e0, e1, e2, e3, e4, e5, e9, hw2, pr]
    · rw [if_neg pr]
      have hq0 : (J ++ [[I (u : Int), I (w : Int)]])[J.length]? = some [I (u : Int), I (w : Int)] := by simp
      have hz0 : (J ++ [[AV.v (.int .i64 0), AV.v (.int .i64 0)]])[J.length]? = some [AV.v (.int .i64 0), .v (.int .i64 0)] := by simp
      have hzs : ∀ c : List AV, (J ++ [[AV.v (.int .i64 0), AV.v (.int .i64 0)]]).set J.length c = J ++ [c] := fun c => by simp
      have hqn : NotAt J.length v := by
        rcases hR with ⟨_, rfl⟩ | ⟨l, c, cs, rfl, h1, _⟩
        · intro n c e; simp at e
        · intro n c2 e
          have := (List.getElem?_eq_some_iff.1 h1).1
          simp at e; omega
      have hR1 : Rep (J ++ [[I (u : Int), I (w : Int)]]) ol v := by
        rcases hR with ⟨h0, rfl⟩ | ⟨l, c, cs, rfl, h1, h2, h3, h4, h5⟩
        · exact .inl ⟨h0, rfl⟩
        · exact .inr ⟨l, c, cs, rfl, by rw [List.getElem?_append_left (List.getElem?_eq_some_iff.1 h1).1]; exact h1, h2, h3, h4, h5⟩
      have hF1 : Frame J v (J ++ [[I (u : Int), I (w : Int)]]) v := fun q c h1 h2 => ⟨by rw [List.getElem?_append_left (List.getElem?_eq_some_iff.1 h1).1]; exact h1, h2⟩
      have hwm : IntKind.i64.wrap ((mx : Int) + 1) = (mx : Int) + 1 := by rw [wrap64] <;> omega
      have b1 : ((0 : Int) ≤ (u : Int)) = True := eq_true (by omega)
      have b2 : ((u : Int) < 7) = True := eq_true (by omega)
      have b3 : ((0 : Int) ≤ (w : Int)) = True := eq_true (by omega)
      have b4 : ((w : Int) < 7) = True := eq_true (by omega)
      have main : ∃ e8 S8, run L 112 [I i, I left, .ptr 0 0, .ptr 2 0, .ptr 1 0, .ptr 3 0] (S4 (bkCells nl n ps) v room J) = some (e8, S8) ∧ ∃ v' J' room', S8 = S4 (bkCells nl n ps) v' room' J' ∧ Frame J v J' v' ∧ (match fromX n (ps.drop (i + 1)) ((u : Int), (w : Int)) room left mx 0 with | some l => e8 = B true ∧ Rep J' (ol ++ l) v' ∧ room'.length = 7 | none => e8 = B false ∧ Rep J' ol v' ∧ room' = room) := by
        rw [run_shared (fn := ir112) rfl rfl]
        simp only [ir112, go_sem, reduceIte, Nat.reduceEqDiff, Nat.reduceAdd, Nat.reduceSub, Nat.reduceLeDiff, Nat.reduceLT, reduceCtorEq, Int.reduceLT, Int.reduceLE, Int.reduceEq, Int.reduceBEq, Int.reduceSub, Int.reduceAdd, Int.reduceMul, Int.reduceNeg, Int.reduceToNat, Nat.reduceMul, Nat.reduceBEq, q1, hsl, List.length_map]
        generalize hg : lim (headed pure (run L) false _ lp112_0 _ _) _ _ = o
        obtain ⟨x, en, s, rfl, h2⟩ : ∃ x en s, o = some (x, en, s) ∧ _ := by rw [← hg]; exact loop112_0 nl n hn ps i left room hrl hrb v J (4 + J.length) 0 0 0 ⟨by omega, by omega, by omega⟩ _ _ (by simp only [go_sem, reduceIte, Nat.reduceEqDiff, Nat.reduceAdd, Nat.reduceSub, Nat.reduceLeDiff, Nat.reduceLT, reduceCtorEq, Int.reduceLT, Int.reduceLE, Int.reduceEq, Int.reduceBEq, Int.reduceSub, Int.reduceAdd, Int.reduceMul, Int.reduceNeg, Int.reduceToNat, Nat.reduceMul, Nat.reduceBEq, Int.natCast_zero] <;> rfl)
        clear hg
        obtain ⟨rfl, e0, e1, e2, e3, e4, e5, e9, rfl⟩ := h2
        rw [List.drop_zero, Int.zero_add] at e9
        simp only [go_sem, reduceIte, Nat.reduceEqDiff, Nat.reduceAdd, Nat.reduceSub, Nat.reduceLeDiff, Nat.reduceLT, reduceCtorEq, Int.reduceLT, Int.reduceLE, Int.reduceEq, Int.reduceBEq, Int.reduceSub, Int.reduceAdd, Int.reduceMul, Int.reduceNeg, Int.reduceToNat, Nat.reduceMul, Nat.reduceBEq, e0, e1, e2, e3, e4, e5, e9, hw2, pr, hx, hz0, hzs, hq0, gu, gw, b1, b2, b3, b4, ← hmx, hwm]
        generalize hg : lim (headed pure (run L) false _ lp112_1 _ _) _ _ = o
        obtain ⟨x, en, s, rfl, h2⟩ : ∃ x en s, o = some (x, en, s) ∧ _ := by rw [← hg]; exact loop112_1 nl n hn ps hlen i k (by omega) u w (by omega) room hrl hrb left hl0 hl1 ol ho mx hmu hmw hml ih J.length J v (J.length + 1 + 4) 0 0 v (J ++ [[I (u : Int), I (w : Int)]]) ⟨by omega, hR1, hq0, hqn, hF1⟩ _ _ (by simp only [go_sem, reduceIte, Nat.reduceEqDiff, Nat.reduceAdd, Nat.reduceSub, Nat.reduceLeDiff, Nat.reduceLT, reduceCtorEq, Int.reduceLT, Int.reduceLE, Int.reduceEq, Int.reduceBEq, Int.reduceSub, Int.reduceAdd, Int.reduceMul, Int.reduceNeg, Int.reduceToNat, Nat.reduceMul, Nat.reduceBEq, e0, e1, e2, e3, e4, e5, Int.natCast_zero] <;> rfl)
        clear hg
        obtain ⟨v', J', room', rfl, hF', hm⟩ := h2
        cases hfx : fromX n (ps.drop (i + 1)) ((u : Int), (w : Int)) room left mx 0 with
        | some l =>
          rw [hfx] at hm
          obtain ⟨rfl, h8, hR', hl'⟩ := hm
          refine ⟨B true, S4 (bkCells nl n ps) v' room' J', by simp only [go_sem, reduceIte, Nat.reduceEqDiff, Nat.reduceAdd, Nat.reduceSub, Nat.reduceLeDiff, Nat.reduceLT, reduceCtorEq, Int.reduceLT, Int.reduceLE, Int.reduceEq, Int.reduceBEq, Int.reduceSub, Int.reduceAdd, Int.reduceMul, Int.reduceNeg, Int.reduceToNat, Nat.reduceMul, Nat.reduceBEq, h8], v', J', room', rfl, hF', rfl, hR', hl'⟩
        | none =>
          rw [hfx] at hm
          obtain ⟨rfl, hR', hl'⟩ := hm
          refine ⟨B false, S4 (bkCells nl n ps) v' room' J', by simp only [go_sem, reduceIte, Nat.reduceEqDiff, Nat.reduceAdd, Nat.reduceSub, Nat.reduceLeDiff, Nat.reduceLT, reduceCtorEq, Int.reduceLT, Int.reduceLE, Int.reduceEq, Int.reduceBEq, Int.reduceSub, Int.reduceAdd, Int.reduceMul, Int.reduceNeg, Int.reduceToNat, Nat.reduceMul, Nat.reduceBEq], v', J', room', rfl, hF', rfl, hR', hl'⟩
      obtain ⟨e8, S8, hrun, v', J', room', rfl, hF', hm⟩ := main
      rw [run_shared (fn := ir112) rfl rfl] at hrun
      cases hfx : fromX n (ps.drop (i + 1)) ((u : Int), (w : Int)) room left mx 0 with
      | some l =>
        rw [hfx] at hm
        obtain ⟨rfl, hR', hl'⟩ := hm
        exact ⟨true, room', v', J', hrun, hF', rfl, hR', hl'⟩
      | none =>
        rw [hfx] at hm
        obtain ⟨rfl, hR', hl'⟩ := hm
        exact ⟨false, room', v', J', hrun, hF', rfl, hR', hl'⟩


/-! ### the search finds the first shares of a worth -/
theorem some_first {β : Type} (g : Nat → Option β) : ∀ (m x0 : Nat), match (List.range' x0 m).findSome? g with
    | some r => ∃ x, x0 ≤ x ∧ x < x0 + m ∧ g x = some r ∧ ∀ y, x0 ≤ y → y < x → g y = none
    | none => ∀ y, x0 ≤ y → y < x0 + m → g y = none
  | 0, x0 => by simp; intro y h1 h2; omega
  | m + 1, x0 => by
    have ih := some_first g m (x0 + 1)
    rw [List.range'_succ, List.findSome?_cons]
    cases h : g x0 with
    | some r => exact ⟨x0, by omega, by omega, h, fun y h1 h2 => by omega⟩
    | none =>
      simp only
      cases h2 : (List.range' (x0 + 1) m).findSome? g with
      | some r =>
        rw [h2] at ih
        obtain ⟨x, a1, a2, a3, a4⟩ := ih
        refine ⟨x, by omega, by omega, a3, fun y h3 h4 => ?_⟩
        by_cases e : y = x0
        · subst e; exact h
        · exact a4 y (by omega) h4
      | none =>
        rw [h2] at ih
        intro y h3 h4
        by_cases e : y = x0
        · subst e; exact h
        · exact ih y (by omega) (by omega)

/-- Shares of some pairs for which there is room, and that are worth so much. -/
def Fits (q : List (Int × Int)) (room : List Int) (left : Int) (l : List Int) : Prop := l.length = q.length ∧ (∀ x ∈ l, 0 ≤ x) ∧ (∀ a : Nat, loadOf (q.zip l) (a : Int) ≤ room.getD a 0) ∧ sumL l = left
theorem sum_nonneg : ∀ l : List Int, (∀ x ∈ l, 0 ≤ x) → 0 ≤ sumL l
  | [], _ => by simp [sumL]
  | a :: r, h => by
    have h1 := h a (by simp)
    have h2 := sum_nonneg r (fun x hx => h x (by simp [hx]))
    simp only [sumL]; omega
theorem load_nonneg (a : Int) : ∀ l : List ((Int × Int) × Int), (∀ e ∈ l, 0 ≤ e.2) → 0 ≤ loadOf l a
  | [], _ => by simp [loadOf]
  | e :: r, h => by
    have h1 := h e (by simp)
    have h2 := load_nonneg a r (fun x hx => h x (by simp [hx]))
    simp only [loadOf]; split <;> omega
theorem zip_snd {q : List (Int × Int)} {l : List Int} (h : ∀ x ∈ l, 0 ≤ x) : ∀ e ∈ q.zip l, 0 ≤ e.2 := fun e he => h _ (List.of_mem_zip he).2
theorem takeR_getD {room : List Int} (hrl : room.length = 7) {u w : Nat} (hu : u < w) (hw : w < 7) (x : Int) (a : Nat) : (takeR room ((u : Int), (w : Int)) x).getD a 0 = room.getD a 0 - (if a = u ∨ a = w then x else 0) := by
  unfold takeR
  simp only [Int.toNat_natCast, List.getD_eq_getElem?_getD, List.getElem?_set, List.length_set]
  by_cases e1 : w = a
  · subst e1
    have : (if w = u ∨ w = w then x else 0) = x := if_pos (Or.inr rfl)
    rw [this]
    simp [show w < room.length by omega]
  · by_cases e2 : u = a
    · subst e2
      have : (if u = u ∨ u = w then x else 0) = x := if_pos (Or.inl rfl)
      rw [this]
      simp [e1, show u < room.length by omega]
    · have : (if a = u ∨ a = w then x else 0) = 0 := if_neg (by omega)
      rw [this]
      simp [e1, e2]
theorem fits_cons {q : List (Int × Int)} {room : List Int} (hrl : room.length = 7) {u w : Nat} (hu : u < w) (hw : w < 7) {left x : Int} {l : List Int} :
    Fits (((u : Int), (w : Int)) :: q) room left (x :: l) ↔ 0 ≤ x ∧ Fits q (takeR room ((u : Int), (w : Int)) x) (left - x) l := by
  unfold Fits
  simp only [List.length_cons, List.zip_cons_cons, loadOf, sumL, List.mem_cons, forall_eq_or_imp]
  have key : ∀ a : Nat, ((if (u : Int) = (a : Int) ∨ (w : Int) = (a : Int) then x else 0) + loadOf (q.zip l) (a : Int) ≤ room.getD a 0) ↔ (loadOf (q.zip l) (a : Int) ≤ (takeR room ((u : Int), (w : Int)) x).getD a 0) := by
    intro a
    rw [takeR_getD hrl hu hw]
    have : (((u : Int) = (a : Int)) ∨ ((w : Int) = (a : Int))) ↔ (a = u ∨ a = w) := by omega
    simp only [this]
    omega
  simp only [key]
  constructor
  · rintro ⟨h1, ⟨h2, h3⟩, h4, h5⟩; exact ⟨h2, by omega, h3, h4, by omega⟩
  · rintro ⟨h2, h1, h3, h4, h5⟩; exact ⟨by omega, ⟨h2, h3⟩, h4, by omega⟩
theorem sum_load {n : Nat} : ∀ (l : List ((Int × Int) × Int)), (∀ e ∈ l, 0 ≤ e.1.1 ∧ e.1.1 < e.1.2 ∧ e.1.2 < (n : Int)) → sumL ((List.range n).map fun (a : Nat) => loadOf l (a : Int)) = 2 * sumL (l.map fun e => e.2)
  | [], _ => by
    have : ∀ k : List Nat, sumL (k.map fun (a : Nat) => loadOf [] (a : Int)) = 0 := by
      intro k; induction k with
      | nil => rfl
      | cons b k ih =>
        show (0 : Int) + sumL (k.map fun (a : Nat) => loadOf [] (a : Int)) = 0
        rw [ih]; rfl
    rw [this]; rfl
  | e :: r, h => by
    have he := h e (by simp)
    have ih := sum_load r (fun x hx => h x (by simp [hx]))
    have e0 : (List.range n).map (fun (a : Nat) => loadOf (e :: r) (a : Int)) = (List.range n).map fun (a : Nat) => (if e.1.1 = (a : Int) ∨ e.1.2 = (a : Int) then e.2 else 0) + loadOf r (a : Int) := rfl
    rw [e0, sum_add]
    have z : sumL ((List.range n).map fun (a : Nat) => (0 : Int)) = 0 := by
      generalize List.range n = k
      induction k with
      | nil => rfl
      | cons b k ih => simp only [List.map_cons, sumL, ih]; rfl
    have s1 := sum_upd (f := fun (a : Nat) => if e.1.1 = (a : Int) then e.2 else 0) (g := fun _ => 0) (i := e.1.1.toNat) (d := e.2) (List.range n) List.nodup_range (List.mem_range.2 (by omega)) (by intro a _ hne; rw [if_neg (by omega)]) (by rw [if_pos (by omega)]; omega)
    have s2 := sum_upd (f := fun (a : Nat) => if e.1.2 = (a : Int) then e.2 else 0) (g := fun _ => 0) (i := e.1.2.toNat) (d := e.2) (List.range n) List.nodup_range (List.mem_range.2 (by omega)) (by intro a _ hne; rw [if_neg (by omega)]) (by rw [if_pos (by omega)]; omega)
    have s3 : (List.range n).map (fun (a : Nat) => if e.1.1 = (a : Int) ∨ e.1.2 = (a : Int) then e.2 else 0) = (List.range n).map fun (a : Nat) => (if e.1.1 = (a : Int) then e.2 else 0) + (if e.1.2 = (a : Int) then e.2 else 0) := by
      apply List.map_congr_left
      intro a _
      by_cases h1 : e.1.1 = (a : Int)
      · rw [if_pos (.inl h1), if_pos h1, if_neg (by omega)]; omega
      · by_cases h2 : e.1.2 = (a : Int)
        · rw [if_pos (.inr h2), if_neg h1, if_pos h2]; omega
        · rw [if_neg (by simp [h1, h2]), if_neg h1, if_neg h2]; rfl
    rw [s3, sum_add, s1, s2, z, ih]
    simp only [List.map_cons, sumL]; omega
theorem find_spec {n : Nat} (hn : n ≤ 7) : ∀ (q : List (Int × Int)) (room : List Int) (left : Int), (∀ p ∈ q, 0 ≤ p.1 ∧ p.1 < p.2 ∧ p.2 < (n : Int)) → room.length = 7 → (∀ x ∈ room, 0 ≤ x ∧ x ≤ 2) →
    match findL n q room left with
    | some l => Fits q room left l ∧ ∀ l', Fits q room left l' → lexLt l' l = false
    | none => ∀ l', ¬ Fits q room left l'
  | [], room, left, _, hrl, hrb => by
    simp only [findL]
    have h0 : ∀ a : Nat, (0 : Int) ≤ room.getD a 0 := fun a => (getD_bd (B := 2) (by omega) hrb a).1
    by_cases h : left = 0
    · rw [if_pos h]
      refine ⟨⟨rfl, by simp, fun a => by simpa [loadOf] using h0 a, by simp [sumL, h]⟩, fun l' hl => ?_⟩
      have : l' = [] := List.eq_nil_of_length_eq_zero hl.1
      subst this; rfl
    · rw [if_neg h]
      rintro l' ⟨h1, _, _, h4⟩
      have : l' = [] := List.eq_nil_of_length_eq_zero h1
      subst this
      exact h (by simpa [sumL] using h4.symm)
  | p :: q, room, left, hps, hrl, hrb => by
    have hp := hps p (by simp)
    obtain ⟨u, w⟩ := p
    simp only at hp
    obtain ⟨u, rfl⟩ := Int.eq_ofNat_of_zero_le hp.1
    obtain ⟨w, rfl⟩ := Int.eq_ofNat_of_zero_le (show 0 ≤ w by omega)
    have huw : u < w := by omega
    have hw7 : w < 7 := by omega
    have bu := getD_bd (B := 2) (by omega) hrb u
    have bw := getD_bd (B := 2) (by omega) hrb w
    simp only [findL]
    by_cases pr : sumL (room.take n) < 2 * left
    · rw [if_pos pr]
      rintro l' ⟨h1, h2, h3, h4⟩
      have e1 := sum_load (n := n) ((((u : Int), (w : Int)) :: q).zip l') (fun e he => hps _ (List.of_mem_zip he).1)
      have e2 : ((((u : Int), (w : Int)) :: q).zip l').map (fun e => e.2) = l' := List.map_snd_zip (by omega)
      rw [e2, h4] at e1
      have e3 : room.take n = (List.range n).map fun a => room.getD a 0 := by
        rw [list_range (room.take n) n (by simp; omega)]
        apply List.map_congr_left
        intro a ha
        rw [List.getD_eq_getElem?_getD, List.getD_eq_getElem?_getD, List.getElem?_take, if_pos (List.mem_range.1 ha)]
      have e4 := sum_le2 (f := fun (a : Nat) => loadOf ((((u : Int), (w : Int)) :: q).zip l') (a : Int)) (g := fun a => room.getD a 0) (List.range n) (fun a _ => h3 a)
      rw [← e3, e1] at e4
      omega
    · rw [if_neg pr]
      have hsf := some_first (fun (x : Nat) => (findL n q (takeR room ((u : Int), (w : Int)) x) (left - x)).map ((x : Int) :: ·)) (mxR room ((u : Int), (w : Int)) left + 1) 0
      -- what may come first
      have hmx : ∀ (y : Int) (t : List Int), Fits (((u : Int), (w : Int)) :: q) room left (y :: t) → 0 ≤ y ∧ y.toNat < 0 + (mxR room ((u : Int), (w : Int)) left + 1) ∧ y ≤ room.getD u 0 ∧ y ≤ room.getD w 0 := by
        intro y t hf
        obtain ⟨h1, h2, h3, h4, h5⟩ := (fits_cons hrl huw hw7).1 hf
        have k1 := h4 u
        have k2 := h4 w
        rw [takeR_getD hrl huw hw7] at k1 k2
        rw [if_pos (.inl rfl)] at k1
        rw [if_pos (.inr rfl)] at k2
        have n1 := load_nonneg (u : Int) (q.zip t) (zip_snd h3)
        have n2 := load_nonneg (w : Int) (q.zip t) (zip_snd h3)
        have n3 := sum_nonneg t h3
        refine ⟨h1, ?_, by omega, by omega⟩
        unfold mxR
        simp only [Int.toNat_natCast]
        omega
      have hroom : ∀ x : Nat, (x : Int) ≤ room.getD u 0 → (x : Int) ≤ room.getD w 0 → (takeR room ((u : Int), (w : Int)) x).length = 7 ∧ ∀ y ∈ takeR room ((u : Int), (w : Int)) x, 0 ≤ y ∧ y ≤ 2 := by
        intro x hx1 hx2
        refine ⟨by unfold takeR; simp [hrl], fun y hy => ?_⟩
        unfold takeR at hy
        simp only [Int.toNat_natCast] at hy
        rcases List.mem_or_eq_of_mem_set hy with hy | rfl
        · rcases List.mem_or_eq_of_mem_set hy with hy | rfl
          · exact hrb y hy
          · omega
        · omega
      have hmle : ∀ x : Nat, x < 0 + (mxR room ((u : Int), (w : Int)) left + 1) → 0 ≤ left → (x : Int) ≤ room.getD u 0 ∧ (x : Int) ≤ room.getD w 0 := by
        intro x hx hl
        unfold mxR at hx
        simp only [Int.toNat_natCast] at hx
        omega
      cases hres : (List.range' 0 (mxR room ((u : Int), (w : Int)) left + 1)).findSome? (fun (x : Nat) => (findL n q (takeR room ((u : Int), (w : Int)) x) (left - x)).map ((x : Int) :: ·)) with
      | some r =>
        rw [hres] at hsf
        obtain ⟨x, _, a2, a3, a4⟩ := hsf
        simp only [Option.map_eq_some_iff] at a3
        obtain ⟨l, hl, rfl⟩ := a3
        by_cases hl0 : 0 ≤ left
        · obtain ⟨m1, m2⟩ := hmle x a2 hl0
          obtain ⟨r1, r2⟩ := hroom x m1 m2
          have ih := find_spec hn q (takeR room ((u : Int), (w : Int)) x) (left - x) (fun p hp => hps p (by simp [hp])) r1 r2
          rw [hl] at ih
          refine ⟨(fits_cons hrl huw hw7).2 ⟨by omega, ih.1⟩, fun l' hf => ?_⟩
          cases l' with
          | nil => have := hf.1; simp at this
          | cons y t =>
            obtain ⟨y0, y1, y2, y3⟩ := hmx y t hf
            obtain ⟨_, hft⟩ := (fits_cons hrl huw hw7).1 hf
            obtain ⟨y, rfl⟩ := Int.eq_ofNat_of_zero_le y0
            by_cases c1 : y < x
            · have h5 := a4 y (by omega) c1
              simp only [Option.map_eq_none_iff] at h5
              obtain ⟨s1, s2⟩ := hroom y y2 y3
              have ih2 := find_spec hn q (takeR room ((u : Int), (w : Int)) y) (left - y) (fun p hp => hps p (by simp [hp])) s1 s2
              rw [h5] at ih2
              exact absurd hft (ih2 t)
            · by_cases c2 : y = x
              · subst c2
                have := ih.2 t hft
                simp [lexLt, this]
              · have d1 : ¬ ((y : Int) < (x : Int)) := by omega
                have d2 : ¬ ((y : Int) = (x : Int)) := by omega
                simp [lexLt, d1, d2]
        · exfalso
          -- nothing is worth less than nothing
          have x0 : x = 0 := by
            unfold mxR at a2; simp only [Int.toNat_natCast] at a2; omega
          subst x0
          obtain ⟨r1, r2⟩ := hroom 0 (by omega) (by omega)
          have ih := find_spec hn q (takeR room ((u : Int), (w : Int)) ((0 : Nat) : Int)) (left - ((0 : Nat) : Int)) (fun p hp => hps p (by simp [hp])) r1 r2
          rw [hl] at ih
          obtain ⟨_, i2, _, i4⟩ := ih.1
          have := sum_nonneg l i2
          omega
      | none =>
        rw [hres] at hsf
        intro l' hf
        cases l' with
        | nil => have := hf.1; simp at this
        | cons y t =>
          obtain ⟨y0, y1, y2, y3⟩ := hmx y t hf
          obtain ⟨_, hft⟩ := (fits_cons hrl huw hw7).1 hf
          obtain ⟨y, rfl⟩ := Int.eq_ofNat_of_zero_le y0
          have h5 := hsf y (by omega) (by omega)
          simp only [Option.map_eq_none_iff] at h5
          obtain ⟨s1, s2⟩ := hroom y y2 y3
          have ih2 := find_spec hn q (takeR room ((u : Int), (w : Int)) y) (left - y) (fun p hp => hps p (by simp [hp])) s1 s2
          rw [h5] at ih2
          exact ih2 t hft
theorem find_shares {n : Nat} {ps : List (Int × Int)} (hn1 : 1 ≤ n) (hn : n ≤ 7) (hps : ∀ p ∈ ps, 0 ≤ p.1 ∧ p.1 < p.2 ∧ p.2 < (n : Int)) (h7 : ∀ p ∈ ps, okP p) (hnd : ps.Nodup) : findL n ps (List.replicate 7 2) (sumL (halvesV n ps)) = some (sharesR n ps) := by
  have hw := shares_worth hn1 hn hps h7 hnd
  obtain ⟨h1, h2⟩ := sharesR_in (n := n) (ps := ps)
  have hrep : ∀ a : Nat, (List.replicate 7 (2 : Int)).getD a 0 = if a < 7 then 2 else 0 := by
    intro a; rw [List.getD_eq_getElem?_getD, List.getElem?_replicate]; split <;> simp
  have hiff : ∀ l, Fits ps (List.replicate 7 2) (sumL (halvesV n ps)) l ↔ l ∈ shF n ps ps.length [] ∧ sumL l = sumL (halvesV n ps) := by
    intro l
    rw [mem_shF ps.length [] l (by simp)]
    constructor
    · rintro ⟨a1, a2, a3, a4⟩
      refine ⟨⟨l, rfl, a1, fun x hx => ⟨a2 x hx, ?_⟩, .inr ?_⟩, a4⟩
      · -- no share is more than 2
        obtain ⟨i, hi, rfl⟩ := List.getElem_of_mem hx
        have hip : i < ps.length := by omega
        have hpi := hps ps[i] (List.getElem_mem hip)
        have h3 := a3 ps[i].1.toNat
        rw [hrep, if_pos (by omega)] at h3
        have hmem : (ps[i], l[i]) ∈ ps.zip l := by
          have : (ps.zip l)[i]'(by rw [List.length_zip]; omega) = (ps[i], l[i]) := by simp
          rw [← this]; exact List.getElem_mem _
        have : ∀ (z : List ((Int × Int) × Int)) (e : (Int × Int) × Int), e ∈ z → (∀ e ∈ z, 0 ≤ e.2) → e.2 ≤ loadOf z e.1.1 := by
          intro z
          induction z with
          | nil => intro e he _; simp at he
          | cons c z ih =>
            intro e he hz
            have hc := hz c (by simp)
            have hz2 := load_nonneg e.1.1 z (fun x hx => hz x (by simp [hx]))
            simp only [loadOf]
            rcases List.mem_cons.1 he with rfl | he
            · rw [if_pos (.inl rfl)]; omega
            · have := ih e he (fun x hx => hz x (by simp [hx]))
              split <;> omega
        have h4 := this _ _ hmem (zip_snd a2)
        have e5 : ((ps[i].1.toNat : Nat) : Int) = ps[i].1 := by omega
        rw [e5] at h3
        simp only at h4; omega
      · cases ho : overFrom (ps.zip l) n 0
        · rfl
        · obtain ⟨a, ha, h5⟩ := (over_iff _).1 ho
          have := a3 a
          rw [hrep, if_pos (by omega)] at this
          omega
    · rintro ⟨⟨t, e, a1, a2, a3⟩, a4⟩
      rw [List.nil_append] at e; subst e
      refine ⟨a1, fun x hx => (a2 x hx).1, fun a => ?_, a4⟩
      rw [hrep]
      by_cases ha : a < n
      · rw [if_pos (by omega)]
        rcases a3 with a3 | a3
        · have : ps = [] := List.eq_nil_of_length_eq_zero a3
          subst this; simp [loadOf]
        · by_cases h5 : 2 < loadOf (ps.zip l) (a : Int)
          · have := (over_iff (n := n) (ps.zip l)).2 ⟨a, ha, h5⟩
            rw [a3] at this; simp at this
          · omega
      · rw [load_out _ a (by omega) (zip_ok hps l)]; split <;> omega
  have hs := find_spec hn ps (List.replicate 7 2) (sumL (halvesV n ps)) hps (by simp) (by intro x hx; rw [List.mem_replicate] at hx; omega)
  have hfit : Fits ps (List.replicate 7 2) (sumL (halvesV n ps)) (sharesR n ps) := (hiff _).2 ⟨h1, hw⟩
  cases hf : findL n ps (List.replicate 7 2) (sumL (halvesV n ps)) with
  | none => rw [hf] at hs; exact absurd hfit (hs _)
  | some l =>
    rw [hf] at hs
    obtain ⟨k1, k2⟩ := (hiff l).1 hs.1
    have g1 := hs.2 _ hfit
    have g2 := (h2 l k1).2 (by omega)
    rw [lex_total _ _ g2 g1]


theorem group_take : ∀ (o : List Int) (cs : List AV), cs.take o.length = o.map I → group false 1 o.length (pubs cs) = o.map I
  | [], _, _ => rfl
  | x :: o, [], h => by simp at h
  | x :: o, c :: cs, h => by
    simp only [List.length_cons, List.take_succ_cons, List.map_cons, List.cons.injEq] at h
    obtain ⟨rfl, h⟩ := h
    have ih := group_take o cs h
    simp only [List.length_cons, group, pubs, List.map_cons, pub]
    simp [ih, cell1]
theorem frz_out {J : List (List AV)} {o : List Int} {v : AV} (h : Rep J o v) (B0 : List AV) (room : List Int) (env : Env) (he : env.get 6 = .ptr 1 0) :
    ∃ (env' : Env) (st' : St) (nl : Bool), frzAV [6] env (S4 B0 v room J) = (env', st') ∧ env'.get 6 = .ptr 1 0 ∧ st'.store[1]? = some [sl 1 nl (o.map I)] := by
  rcases h with ⟨rfl, rfl⟩ | ⟨l, c, cs, rfl, h1, h2, h3, h4, h5⟩
  · refine ⟨env, S4 B0 (.v (.slice none 0 0)) room J, true, ?_, he, rfl⟩
    simp only [frzAV, frzT, he]
    rfl
  · cases cs with
    | nil => simp at h4; omega
    | cons c0 cs =>
      have hg : (S4 B0 (.rsl (l + 4) 0 o.length c 1 false) room J).store[l + 4]? = some (c0 :: cs) := h1
      refine ⟨frzEnv (l + 4) (c0 :: cs) env, ⟨(frzStore (l + 4) (c0 :: cs) (S4 B0 (.rsl (l + 4) 0 o.length c 1 false) room J).store).set (l + 4) [], []⟩, false, ?_, ?_, ?_⟩
      · have e1 : frzT 6 env (S4 B0 (.rsl (l + 4) 0 o.length c 1 false) room J) = [l + 4] := by
          simp only [frzT, he]; rfl
        simp only [frzAV, e1, frzLs, frzL, hg]
      · rw [frzEnv_get, he]; rfl
      · have e2 : (frzStore (l + 4) (c0 :: cs) (S4 B0 (.rsl (l + 4) 0 o.length c 1 false) room J).store)[1]? = some [frzV (l + 4) (c0 :: cs) (.rsl (l + 4) 0 o.length c 1 false)] := rfl
        rw [List.getElem?_set_ne (by omega), e2]
        have e3 : frzV (l + 4) (c0 :: cs) (.rsl (l + 4) 0 o.length c 1 false) = .lst .any 1 (o.map I) := by
          simp only [frzV]
          rw [if_pos ⟨trivial, by omega, .inr trivial, h3⟩, List.drop_zero, group_take o _ h2]
        rw [e3, sl_false]

theorem loop87_0 (nl : Bool) (n : Int) (ps : List (Int × Int)) (l : List Int) (hlen : l.length < 1000) (hb : ∀ x ∈ l, 0 ≤ x ∧ x ≤ 2) (i : Nat) (acc : Int) (hok : i ≤ l.length ∧ 0 ≤ acc ∧ acc ≤ 2 * i) (env : Env) (st : St)
    (hg : gcAV true 1 0 (canon env [1, 3, 11, 12, 13]) st = ([(1, .ptr 0 0), (3, I acc), (11, sl 1 true (l.map I)), (12, I l.length), (13, I i)], ⟨[bkCells nl n ps], []⟩)) :
    ∃ x_1 en s, lim (headed pure (run L) true [1, 3, 11, 12, 13] lp87_0 1 0) env st = some (x_1, en, s) ∧ (x_1 = .exit 0 ∧ en.get 1 = .ptr 0 0 ∧ en.get 3 = I (acc + sumL (l.drop i)) ∧ s = ⟨[bkCells nl n ps], []⟩) := by
  refine loop_wp (α := Nat × Int) (fun ⟨i, acc⟩ => l.length - i) (fun ⟨i, acc⟩ => i ≤ l.length ∧ 0 ≤ acc ∧ acc ≤ 2 * i) (fun ⟨i, acc⟩ => ([(1, .ptr 0 0), (3, I acc), (11, sl 1 true (l.map I)), (12, I l.length), (13, I i)], ⟨[bkCells nl n ps], []⟩)) (fun ⟨i, acc⟩ x_1 en s => x_1 = .exit 0 ∧ en.get 1 = .ptr 0 0 ∧ en.get 3 = I (acc + sumL (l.drop i)) ∧ s = ⟨[bkCells nl n ps], []⟩) (fun ⟨i, acc⟩ hok => ?_) ⟨i, acc⟩ hok env st hg
  simp only at hok
  obtain ⟨h1, h2, h3⟩ := hok
  dsimp only
  by_cases h : i < l.length
  · have hx := index_ints true l i h
    have hs := succ64 i (by omega)
    have hd : l.drop i = l[i] :: l.drop (i + 1) := List.drop_eq_getElem_cons h
    have hlt : ((i : Int) < (l.length : Int)) = True := eq_true (by omega)
    have hbi := hb l[i] (List.getElem_mem h)
    rw [hd]
    generalize l[i] = a at *
    have hw : IntKind.i64.wrap (acc + a) = acc + a := by rw [wrap64] <;> omega
    simp only [go_sem, reduceIte, Nat.reduceEqDiff, Nat.reduceAdd, Nat.reduceSub, Nat.reduceLeDiff, Nat.reduceLT, reduceCtorEq, Int.reduceLT, Int.reduceLE, Int.reduceEq, Int.reduceBEq, Int.reduceSub, Int.reduceAdd, Int.reduceMul, Int.reduceNeg, Int.reduceToNat, Nat.reduceMul, Nat.reduceBEq, index_rsl_if, setm, make_ints, condK_dec, wantK_dec, not_dec, and_dec, or_dec, seqK_ite, seqK_none, blockK_ite, blockK_none, opsK_ite, opsK_none, stepK_ite, stepK_none, bodyK_ite, bodyK_none, resK_ite, resK_none, leaveK_ite, leaveK_none, only_ite, only_none, bind_ite, gives_some, gives_none, gives_ite, then_normal, then_ret, then_exit, then_none, then_ite, Option.bind_none, Bool.not_eq_true', decide_eq_false_iff_not, Bool.and_eq_true, Bool.or_eq_true, Option.some.injEq, Int.not_lt, Int.not_le, lp87_0, hx, hlt, hs, hw]
    refine ⟨(i + 1, acc + a), by simp only [go_sem, reduceIte, Nat.reduceEqDiff, Nat.reduceAdd, Nat.reduceSub, Nat.reduceLeDiff, Nat.reduceLT, reduceCtorEq, Int.reduceLT, Int.reduceLE, Int.reduceEq, Int.reduceBEq, Int.reduceSub, Int.reduceAdd, Int.reduceMul, Int.reduceNeg, Int.reduceToNat, Nat.reduceMul, Nat.reduceBEq, ren1_locm, loc_tips, locT_eq] <;> rfl, ?_, ?_, fun x en s hq => ?_⟩
    · dsimp only; exact ⟨by omega, by omega, by omega⟩
    · simp only; omega
    · simp only [sumL]; rw [← Int.add_assoc]; exact hq
  · have hd : l.drop i = [] := List.drop_eq_nil_of_le (by omega)
    have hlt : ((i : Int) < (l.length : Int)) = False := eq_false (by omega)
    simp only [go_sem, reduceIte, Nat.reduceEqDiff, Nat.reduceAdd, Nat.reduceSub, Nat.reduceLeDiff, Nat.reduceLT, reduceCtorEq, Int.reduceLT, Int.reduceLE, Int.reduceEq, Int.reduceBEq, Int.reduceSub, Int.reduceAdd, Int.reduceMul, Int.reduceNeg, Int.reduceToNat, Nat.reduceMul, Nat.reduceBEq, index_rsl_if, setm, make_ints, condK_dec, wantK_dec, not_dec, and_dec, or_dec, seqK_ite, seqK_none, blockK_ite, blockK_none, opsK_ite, opsK_none, stepK_ite, stepK_none, bodyK_ite, bodyK_none, resK_ite, resK_none, leaveK_ite, leaveK_none, only_ite, only_none, bind_ite, gives_some, gives_none, gives_ite, then_normal, then_ret, then_exit, then_none, then_ite, Option.bind_none, Bool.not_eq_true', decide_eq_false_iff_not, Bool.and_eq_true, Bool.or_eq_true, Option.some.injEq, Int.not_lt, Int.not_le, lp87_0, hlt]
    rw [hd]; simp [sumL]

def roomTo (a : Nat) : List Int := List.replicate a 2 ++ List.replicate (7 - a) 0
theorem roomTo_set (a : Nat) (h : a < 7) : (roomTo a).set a 2 = roomTo (a + 1) := by
  unfold roomTo
  rw [List.set_append, if_neg (by simp), List.length_replicate, Nat.sub_self, show 7 - a = (7 - (a + 1)) + 1 by omega, List.replicate_succ, List.set_cons_zero]
  rw [show List.replicate (a + 1) (2 : Int) = List.replicate a 2 ++ [2] from List.replicate_succ']
  simp
theorem loop87_1 (nl : Bool) (n : Int) (ps : List (Int × Int)) (goal : Int) (a : Nat) (hok : a ≤ 7) (env : Env) (st : St)
    (hg : gcAV true 3 0 (canon env [1, 3, 6, 7, 21]) st = ([(1, .ptr 0 0), (3, I goal), (6, .ptr 1 0), (7, .ptr 2 0), (21, I a)], ⟨[bkCells nl n ps, [.v (.slice none 0 0)], (roomTo a).map I], []⟩)) :
    ∃ x_1 en s, lim (headed pure (run L) true [1, 3, 6, 7, 21] lp87_1 3 0) env st = some (x_1, en, s) ∧ (x_1 = .exit 2 ∧ en.get 1 = .ptr 0 0 ∧ en.get 3 = I goal ∧ en.get 6 = .ptr 1 0 ∧ en.get 7 = .ptr 2 0 ∧ s = ⟨[bkCells nl n ps, [.v (.slice none 0 0)], (List.replicate 7 2).map I], []⟩) := by
  refine loop_wp (α := Nat) (fun a => 7 - a) (fun a => a ≤ 7) (fun a => ([(1, .ptr 0 0), (3, I goal), (6, .ptr 1 0), (7, .ptr 2 0), (21, I a)], ⟨[bkCells nl n ps, [.v (.slice none 0 0)], (roomTo a).map I], []⟩)) (fun a x_1 en s => x_1 = .exit 2 ∧ en.get 1 = .ptr 0 0 ∧ en.get 3 = I goal ∧ en.get 6 = .ptr 1 0 ∧ en.get 7 = .ptr 2 0 ∧ s = ⟨[bkCells nl n ps, [.v (.slice none 0 0)], (List.replicate 7 2).map I], []⟩) (fun a hok => ?_) a hok env st hg
  by_cases h : a < 7
  · have hs := succ64 a (by omega)
    have hlt : ((a : Int) < 7) = True := eq_true (by omega)
    have ha0 : ((0 : Int) ≤ (a : Int)) = True := eq_true (by omega)
    have hl : (roomTo a).length = 7 := by unfold roomTo; simp; omega
    have hset := roomTo_set a h
    have hb : (a + 1 ≤ 7) = True := eq_true (by omega)
    have hsm : ((roomTo a).map I).set a (.v (.int .i64 2)) = (roomTo (a + 1)).map I := by rw [← hset, List.map_set]
    simp only [go_sem, reduceIte, Nat.reduceEqDiff, Nat.reduceAdd, Nat.reduceSub, Nat.reduceLeDiff, Nat.reduceLT, reduceCtorEq, Int.reduceLT, Int.reduceLE, Int.reduceEq, Int.reduceBEq, Int.reduceSub, Int.reduceAdd, Int.reduceMul, Int.reduceNeg, Int.reduceToNat, Nat.reduceMul, Nat.reduceBEq, index_rsl_if, setm, make_ints, condK_dec, wantK_dec, not_dec, and_dec, or_dec, seqK_ite, seqK_none, blockK_ite, blockK_none, opsK_ite, opsK_none, stepK_ite, stepK_none, bodyK_ite, bodyK_none, resK_ite, resK_none, leaveK_ite, leaveK_none, only_ite, only_none, bind_ite, gives_some, gives_none, gives_ite, then_normal, then_ret, then_exit, then_none, then_ite, Option.bind_none, Bool.not_eq_true', decide_eq_false_iff_not, Bool.and_eq_true, Bool.or_eq_true, Option.some.injEq, Int.not_lt, Int.not_le, lp87_1, hlt, ha0, hs, hl, hb, hsm, List.length_map]
    refine ⟨a + 1, by simp only [go_sem, reduceIte, Nat.reduceEqDiff, Nat.reduceAdd, Nat.reduceSub, Nat.reduceLeDiff, Nat.reduceLT, reduceCtorEq, Int.reduceLT, Int.reduceLE, Int.reduceEq, Int.reduceBEq, Int.reduceSub, Int.reduceAdd, Int.reduceMul, Int.reduceNeg, Int.reduceToNat, Nat.reduceMul, Nat.reduceBEq, ren1_locm, loc_tips, locT_eq] <;> rfl, ?_, ?_, fun x en s hq => ?_⟩
    · omega
    · omega
    · exact hq
  · obtain rfl : a = 7 := by omega
    simp only [go_sem, reduceIte, Nat.reduceEqDiff, Nat.reduceAdd, Nat.reduceSub, Nat.reduceLeDiff, Nat.reduceLT, reduceCtorEq, Int.reduceLT, Int.reduceLE, Int.reduceEq, Int.reduceBEq, Int.reduceSub, Int.reduceAdd, Int.reduceMul, Int.reduceNeg, Int.reduceToNat, Nat.reduceMul, Nat.reduceBEq, index_rsl_if, setm, make_ints, condK_dec, wantK_dec, not_dec, and_dec, or_dec, seqK_ite, seqK_none, blockK_ite, blockK_none, opsK_ite, opsK_none, stepK_ite, stepK_none, bodyK_ite, bodyK_none, resK_ite, resK_none, leaveK_ite, leaveK_none, only_ite, only_none, bind_ite, gives_some, gives_none, gives_ite, then_normal, then_ret, then_exit, then_none, then_ite, Option.bind_none, Bool.not_eq_true', decide_eq_false_iff_not, Bool.and_eq_true, Bool.or_eq_true, Option.some.injEq, Int.not_lt, Int.not_le, lp87_1, show (((7 : Nat) : Int) < 7) = False from eq_false (by omega)]
    rfl

theorem c87 (nl : Bool) (n : Nat) (hn1 : 1 ≤ n) (hn : n ≤ 7) (ps : List (Int × Int)) (hlen : ps.length ≤ 10) (hps : ∀ p ∈ ps, 0 ≤ p.1 ∧ p.1 < p.2 ∧ p.2 < (n : Int)) (h7 : ∀ p ∈ ps, okP p) (hnd : ps.Nodup) :
    ∃ n2 : Bool, ∀ st, run L 87 [bkAV nl n ps] st = some (sl 1 n2 ((sharesR n ps).map I), st) := by
  have h81 := fun st => c81 nl n hn1 hn ps (by omega) hps h7 st
  obtain ⟨hvl, hvb, _⟩ := halvesV_ok hn1 hn hps h7
  obtain ⟨c0, c1⟩ := half_le hn1 hn hps h7
  have hfs := find_shares hn1 hn hps h7 hnd
  obtain ⟨b, room', v', J', hrun, hF, hm⟩ := does nl n hn ps hlen hps ps.length 0 (by omega) (List.replicate 7 2) (by simp) (by intro x hx; rw [List.mem_replicate] at hx; omega) (sumL (halvesV n ps)) c0 (by omega) [] (by simp) (.v (.slice none 0 0)) [] (.inl ⟨rfl, rfl⟩)
  rw [List.drop_zero, hfs] at hm
  obtain ⟨rfl, hR, _⟩ := hm
  rw [List.nil_append] at hR
  have main : ∃ n2 : Bool, run L 87 [bkAV nl n ps] ⟨[], []⟩ = some (sl 1 n2 ((sharesR n ps).map I), ⟨[], []⟩) := by
    rw [run_pure (fn := ir87) rfl rfl]
    have hw := fun (acc : Int) => acc
    simp only [ir87, go_sem, reduceIte, Nat.reduceEqDiff, Nat.reduceAdd, Nat.reduceSub, Nat.reduceLeDiff, Nat.reduceLT, reduceCtorEq, Int.reduceLT, Int.reduceLE, Int.reduceEq, Int.reduceBEq, Int.reduceSub, Int.reduceAdd, Int.reduceMul, Int.reduceNeg, Int.reduceToNat, Nat.reduceMul, Nat.reduceBEq, h81, List.length_map]
    generalize hg : lim (headed pure (run L) true _ lp87_0 _ _) _ _ = o
    obtain ⟨x, en, s, rfl, h2⟩ : ∃ x en s, o = some (x, en, s) ∧ _ := by rw [← hg]; exact loop87_0 nl n ps (halvesV n ps) (by omega) hvb 0 0 ⟨by omega, by omega, by omega⟩ _ _ (by simp only [go_sem, reduceIte, Nat.reduceEqDiff, Nat.reduceAdd, Nat.reduceSub, Nat.reduceLeDiff, Nat.reduceLT, reduceCtorEq, Int.reduceLT, Int.reduceLE, Int.reduceEq, Int.reduceBEq, Int.reduceSub, Int.reduceAdd, Int.reduceMul, Int.reduceNeg, Int.reduceToNat, Nat.reduceMul, Nat.reduceBEq, Int.natCast_zero] <;> rfl)
    clear hg
    obtain ⟨rfl, e1, e3, rfl⟩ := h2
    rw [List.drop_zero, Int.zero_add] at e3
    simp only [go_sem, reduceIte, Nat.reduceEqDiff, Nat.reduceAdd, Nat.reduceSub, Nat.reduceLeDiff, Nat.reduceLT, reduceCtorEq, Int.reduceLT, Int.reduceLE, Int.reduceEq, Int.reduceBEq, Int.reduceSub, Int.reduceAdd, Int.reduceMul, Int.reduceNeg, Int.reduceToNat, Nat.reduceMul, Nat.reduceBEq, e1, e3]
    generalize hg : lim (headed pure (run L) true _ lp87_1 _ _) _ _ = o
    obtain ⟨x, en, s, rfl, h2⟩ : ∃ x en s, o = some (x, en, s) ∧ _ := by rw [← hg]; exact loop87_1 nl n ps (sumL (halvesV n ps)) 0 (by omega) _ _ (by simp only [go_sem, reduceIte, Nat.reduceEqDiff, Nat.reduceAdd, Nat.reduceSub, Nat.reduceLeDiff, Nat.reduceLT, reduceCtorEq, Int.reduceLT, Int.reduceLE, Int.reduceEq, Int.reduceBEq, Int.reduceSub, Int.reduceAdd, Int.reduceMul, Int.reduceNeg, Int.reduceToNat, Nat.reduceMul, Nat.reduceBEq, e1, e3, roomTo, Nat.sub_zero, List.map_append, List.map_replicate, Int.natCast_zero] <;> rfl)
    clear hg
    obtain ⟨rfl, f1, f3, f6, f7, rfl⟩ := h2
    have hrun2 : run L 112 [.v (.int .i64 0), I (sumL (halvesV n ps)), .ptr 0 0, .ptr 2 0, .ptr 1 0, .ptr 3 0] ⟨[bkCells nl n ps, [.v (.slice none 0 0)], [I 2, I 2, I 2, I 2, I 2, I 2, I 2], [fnPut]], []⟩ = some (B true, S4 (bkCells nl n ps) v' room' J') := hrun
    simp only [go_sem, reduceIte, Nat.reduceEqDiff, Nat.reduceAdd, Nat.reduceSub, Nat.reduceLeDiff, Nat.reduceLT, reduceCtorEq, Int.reduceLT, Int.reduceLE, Int.reduceEq, Int.reduceBEq, Int.reduceSub, Int.reduceAdd, Int.reduceMul, Int.reduceNeg, Int.reduceToNat, Nat.reduceMul, Nat.reduceBEq, f1, f3, f6, f7, show pure 112 = false from rfl, hrun2, code_frz]
    generalize hE : frzAV [6] _ _ = fz
    obtain ⟨env', st', n2, rfl, g6, gst⟩ : ∃ (env' : Env) (st' : St) (n2 : Bool), fz = (env', st') ∧ env'.get 6 = .ptr 1 0 ∧ st'.store[1]? = some [sl 1 n2 ((sharesR n ps).map I)] := by
      rw [← hE]; exact frz_out hR _ _ _ (by simp only [go_sem, reduceIte, Nat.reduceEqDiff, Nat.reduceAdd, Nat.reduceSub, Nat.reduceLeDiff, Nat.reduceLT, reduceCtorEq, Int.reduceLT, Int.reduceLE, Int.reduceEq, Int.reduceBEq, Int.reduceSub, Int.reduceAdd, Int.reduceMul, Int.reduceNeg, Int.reduceToNat, Nat.reduceMul, Nat.reduceBEq, f6])
    exact ⟨n2, by simp only [go_sem, reduceIte, Nat.reduceEqDiff, Nat.reduceAdd, Nat.reduceSub, Nat.reduceLeDiff, Nat.reduceLT, reduceCtorEq, Int.reduceLT, Int.reduceLE, Int.reduceEq, Int.reduceBEq, Int.reduceSub, Int.reduceAdd, Int.reduceMul, Int.reduceNeg, Int.reduceToNat, Nat.reduceMul, Nat.reduceBEq, g6, gst]⟩
  obtain ⟨n2, h⟩ := main
  exact ⟨n2, fun st => run_any' (fn := ir87) rfl rfl h st⟩


/-! ### the law's search finds the reference's shares -/
theorem prsErr_nodup {n : Int} : ∀ {ps seen : List (Int × Int)}, prsErr n seen ps = 0 → (∀ p ∈ ps, p ∉ seen) ∧ ps.Nodup
  | [], _, _ => by simp
  | a :: r, seen, h => by
    simp only [prsErr] at h
    split at h
    · next h0 =>
      obtain ⟨h1, h2⟩ := prsErr_nodup h
      have ha : a ∉ seen := by
        unfold prErr at h0
        split at h0
        · simp at h0
        · split at h0
          · simp at h0
          · split at h0
            · simp at h0
            · assumption
      refine ⟨fun p hp => ?_, List.nodup_cons.2 ⟨fun hr => h1 a hr (by simp), h2⟩⟩
      rcases List.mem_cons.1 hp with rfl | hp
      · exact ha
      · exact fun hs => h1 p hp (by simp [hs])
    · next h0 => exact absurd h h0
theorem chk_nodup {n : Int} {ps : List (Int × Int)} (h : chk n ps = 0) : ps.Nodup := by
  unfold chk at h
  split at h
  · simp at h
  · split at h
    · simp at h
    · exact (prsErr_nodup h).2


theorem c35 (nl : Bool) (n : Int) (ps : List (Int × Int)) : ∃ n2 : Bool, ∀ st, run L 35 [bkAV nl n ps] st = some (.tup [sl 1 n2 ((shv n ps).1.map I), I (shv n ps).2], st) := by
  have h22 := fun st => c22 nl n ps st
  by_cases h : chk n ps = 0
  · obtain ⟨h1, h2, h3, h4, h5⟩ := chk_zero h
    obtain ⟨k, rfl⟩ := Int.eq_ofNat_of_zero_le (show 0 ≤ n by omega)
    obtain ⟨n2, h87⟩ := c87 nl k (by omega) (by omega) ps h3 h4 h5 (chk_nodup h)
    refine ⟨n2, fun st => ?_⟩
    rw [run_pure (fn := ir35) rfl rfl]
    unfold shv
    rw [if_pos h]
    simp only [Int.toNat_natCast]
    simp only [ir35, go_sem, reduceIte, Nat.reduceEqDiff, Nat.reduceAdd, Nat.reduceSub, Nat.reduceLeDiff, Nat.reduceLT, reduceCtorEq, Int.reduceLT, Int.reduceLE, Int.reduceEq, Int.reduceBEq, Int.reduceSub, Int.reduceAdd, Int.reduceMul, Int.reduceNeg, Int.reduceToNat, Nat.reduceMul, Nat.reduceBEq, h22, h, h87]
  · refine ⟨true, fun st => ?_⟩
    rw [run_pure (fn := ir35) rfl rfl]
    unfold shv
    rw [if_neg h]
    simp only [ir35, go_sem, reduceIte, Nat.reduceEqDiff, Nat.reduceAdd, Nat.reduceSub, Nat.reduceLeDiff, Nat.reduceLT, reduceCtorEq, Int.reduceLT, Int.reduceLE, Int.reduceEq, Int.reduceBEq, Int.reduceSub, Int.reduceAdd, Int.reduceMul, Int.reduceNeg, Int.reduceToNat, Nat.reduceMul, Nat.reduceBEq, h22, h]
    rfl


/-! ### what two articles share -/
def sh (W : List ((Int × Int) × Int)) (a b : Nat) : Int := sumL (W.map fun e => if (e.1.1 = (a : Int) ∧ e.1.2 = (b : Int)) ∨ (e.1.1 = (b : Int) ∧ e.1.2 = (a : Int)) then e.2 else 0)
theorem sh_symm (W : List ((Int × Int) × Int)) (a b : Nat) : sh W a b = sh W b a := by
  unfold sh
  congr 1
  apply List.map_congr_left
  intro e _
  have : ((e.1.1 = (a : Int) ∧ e.1.2 = (b : Int)) ∨ (e.1.1 = (b : Int) ∧ e.1.2 = (a : Int))) ↔ ((e.1.1 = (b : Int) ∧ e.1.2 = (a : Int)) ∨ (e.1.1 = (a : Int) ∧ e.1.2 = (b : Int))) := Or.comm
  simp only [this]
theorem load_eq (a : Int) : ∀ W : List ((Int × Int) × Int), loadOf W a = sumL (W.map fun e => if e.1.1 = a ∨ e.1.2 = a then e.2 else 0)
  | [] => rfl
  | e :: W => by simp only [loadOf, List.map_cons, sumL, load_eq a W]
/-- Pairs as they are in a book. -/
def OkW (n : Nat) (W : List ((Int × Int) × Int)) : Prop := ∀ e ∈ W, 0 ≤ e.1.1 ∧ e.1.1 < e.1.2 ∧ e.1.2 < (n : Int)
theorem load_sh {n : Nat} {W : List ((Int × Int) × Int)} (hW : OkW n W) (a : Nat) : loadOf W (a : Int) = sumL ((List.range n).map fun b => sh W a b) := by
  rw [load_eq]
  unfold sh
  rw [← sum_swap]
  congr 1
  apply List.map_congr_left
  intro e he
  have hb := hW e he
  have z : sumL ((List.range n).map fun (_ : Nat) => (0 : Int)) = 0 := by
    generalize List.range n = k
    induction k with
    | nil => rfl
    | cons b k ih => simp only [List.map_cons, sumL, ih]; rfl
  by_cases h1 : e.1.1 = (a : Int)
  · rw [if_pos (.inl h1)]
    have := sum_upd (f := fun (b : Nat) => if (e.1.1 = (a : Int) ∧ e.1.2 = (b : Int)) ∨ (e.1.1 = (b : Int) ∧ e.1.2 = (a : Int)) then e.2 else 0) (g := fun _ => 0) (i := e.1.2.toNat) (d := e.2) (List.range n) List.nodup_range (List.mem_range.2 (by omega)) (by intro b _ hne; rw [if_neg (by omega)]) (by rw [if_pos (by omega)]; omega)
    rw [this, z]; omega
  · by_cases h2 : e.1.2 = (a : Int)
    · rw [if_pos (.inr h2)]
      have := sum_upd (f := fun (b : Nat) => if (e.1.1 = (a : Int) ∧ e.1.2 = (b : Int)) ∨ (e.1.1 = (b : Int) ∧ e.1.2 = (a : Int)) then e.2 else 0) (g := fun _ => 0) (i := e.1.1.toNat) (d := e.2) (List.range n) List.nodup_range (List.mem_range.2 (by omega)) (by intro b _ hne; rw [if_neg (by omega)]) (by rw [if_pos (by omega)]; omega)
      rw [this, z]; omega
    · rw [if_neg (by simp [h1, h2])]
      have : (List.range n).map (fun (b : Nat) => if (e.1.1 = (a : Int) ∧ e.1.2 = (b : Int)) ∨ (e.1.1 = (b : Int) ∧ e.1.2 = (a : Int)) then e.2 else 0) = (List.range n).map fun _ => 0 := by
        apply List.map_congr_left; intro b _; rw [if_neg (by omega)]
      rw [this, z]
theorem sum_zero {α : Type} {f : α → Int} : ∀ l : List α, (∀ a ∈ l, f a = 0) → sumL (l.map f) = 0
  | [], _ => rfl
  | a :: l, h => by
    simp only [List.map_cons, sumL, h a (by simp), sum_zero l (fun x hx => h x (by simp [hx]))]; rfl
/-- In books no pair comes twice: what two share is the share of their pair. -/
theorem sh_pair_eq {W : List ((Int × Int) × Int)} (hnd : (W.map fun e => e.1).Nodup) {n : Nat} (hW : OkW n W) {e : (Int × Int) × Int} (he : e ∈ W) : sh W e.1.1.toNat e.1.2.toNat = e.2 := by
  induction W with
  | nil => simp at he
  | cons c W ih =>
    rw [List.map_cons, List.nodup_cons] at hnd
    have hc := hW c (by simp)
    have hWr : OkW n W := fun x hx => hW x (by simp [hx])
    have hb := hW e he
    have hcast : ((e.1.1.toNat : Nat) : Int) = e.1.1 ∧ ((e.1.2.toNat : Nat) : Int) = e.1.2 := by omega
    unfold sh
    rw [hcast.1, hcast.2]
    simp only [List.map_cons, sumL]
    rcases List.mem_cons.1 he with rfl | he2
    · rw [if_pos (.inl ⟨rfl, rfl⟩)]
      have : sumL (W.map fun x => if (x.1.1 = e.1.1 ∧ x.1.2 = e.1.2) ∨ (x.1.1 = e.1.2 ∧ x.1.2 = e.1.1) then x.2 else 0) = 0 := by
        apply sum_zero
        intro x hx
        rw [if_neg]
        rintro (⟨h1, h2⟩ | ⟨h1, h2⟩)
        · exact hnd.1 (List.mem_map.2 ⟨x, hx, Prod.ext h1 h2⟩)
        · have := hWr x hx; omega
      omega
    · have hne : ¬((c.1.1 = e.1.1 ∧ c.1.2 = e.1.2) ∨ (c.1.1 = e.1.2 ∧ c.1.2 = e.1.1)) := by
        rintro (⟨h1, h2⟩ | ⟨h1, h2⟩)
        · have h3 : c.1 = e.1 := Prod.ext h1 h2
          exact hnd.1 (h3 ▸ List.mem_map.2 ⟨e, he2, rfl⟩)
        · omega
      rw [if_neg hne]
      have := ih hnd.2 hWr he2
      unfold sh at this
      rw [hcast.1, hcast.2] at this
      omega
theorem sh_pos {W : List ((Int × Int) × Int)} {a b : Nat} (h : sh W a b ≠ 0) : ∃ e ∈ W, ((e.1.1 = (a : Int) ∧ e.1.2 = (b : Int)) ∨ (e.1.1 = (b : Int) ∧ e.1.2 = (a : Int))) := by
  by_cases hex : ∃ e ∈ W, ((e.1.1 = (a : Int) ∧ e.1.2 = (b : Int)) ∨ (e.1.1 = (b : Int) ∧ e.1.2 = (a : Int)))
  · exact hex
  · exfalso
    apply h
    unfold sh
    apply sum_zero
    intro e he
    rw [if_neg]
    intro h2; exact hex ⟨e, he, h2⟩
theorem sh_val {W : List ((Int × Int) × Int)} (hnd : (W.map fun e => e.1).Nodup) {n : Nat} (hW : OkW n W) {a b : Nat} {e : (Int × Int) × Int} (he : e ∈ W) (h : (e.1.1 = (a : Int) ∧ e.1.2 = (b : Int)) ∨ (e.1.1 = (b : Int) ∧ e.1.2 = (a : Int))) : sh W a b = e.2 := by
  have h1 := sh_pair_eq hnd hW he
  rcases h with ⟨h2, h3⟩ | ⟨h2, h3⟩
  · have e1 : e.1.1.toNat = a := by omega
    have e2 : e.1.2.toNat = b := by omega
    rw [e1, e2] at h1; exact h1
  · have e1 : e.1.1.toNat = b := by omega
    have e2 : e.1.2.toNat = a := by omega
    rw [e1, e2, sh_symm] at h1; exact h1
theorem sh_bd {W : List ((Int × Int) × Int)} (hnd : (W.map fun e => e.1).Nodup) {n : Nat} (hW : OkW n W) (hb : ∀ e ∈ W, 0 ≤ e.2 ∧ e.2 ≤ 2) (a b : Nat) : 0 ≤ sh W a b ∧ sh W a b ≤ 2 := by
  by_cases h : sh W a b = 0
  · omega
  · obtain ⟨e, he, h2⟩ := sh_pos h
    rw [sh_val hnd hW he h2]; exact hb e he

/-! ### where nothing is lost -/
theorem sum_le2_eq {α : Type} {f g : α → Int} : ∀ l : List α, (∀ a ∈ l, f a ≤ g a) → sumL (l.map g) ≤ sumL (l.map f) → ∀ a ∈ l, f a = g a
  | [], _, _, a, ha => by simp at ha
  | b :: r, h, hs, a, ha => by
    have h1 := h b (by simp)
    have h2 := sum_le2 (f := f) (g := g) r (fun x hx => h x (by simp [hx]))
    simp only [List.map_cons, sumL] at hs
    rcases List.mem_cons.1 ha with rfl | ha
    · omega
    · exact sum_le2_eq r (fun x hx => h x (by simp [hx])) (by omega) a ha
theorem slack {n : Nat} (hn : n ≤ 7) {ps : List (Int × Int)} (hps : ∀ p ∈ ps, 0 ≤ p.1 ∧ p.1 < p.2 ∧ p.2 < (n : Int)) {v s : List Int} (hv : v.length = n) (hvb : ∀ x ∈ v, 0 ≤ x ∧ x ≤ 2) (hs : s.length = ps.length) (hsb : ∀ x ∈ s, 0 ≤ x ∧ x ≤ 2)
    (hh : halfOk ps v = true) (hl : ∀ a : Nat, loadOf (ps.zip s) (a : Int) ≤ 2) (heq : sumL v ≤ sumL s) :
    (∀ e ∈ ps.zip s, 0 < e.2 → v.getD e.1.1.toNat 0 + v.getD e.1.2.toNat 0 = 2) ∧ ∀ a : Nat, a < n → 0 < v.getD a 0 → loadOf (ps.zip s) (a : Int) = 2 := by
  have hz : ∀ e ∈ ps.zip s, e.1 ∈ ps ∧ e.2 ∈ s := fun e he => ⟨(List.of_mem_zip he).1, (List.of_mem_zip he).2⟩
  have h1 := dot_fold hn v (ps.zip s) (List.replicate 7 0) (by simp) (fun e he => hps _ (hz e he).1)
  have h0 : dot n v (List.replicate 7 0) = 0 := by
    unfold dot
    apply sum_zero
    intro a _
    rw [List.getD_eq_getElem?_getD (l := List.replicate 7 (0 : Int)), List.getElem?_replicate]
    split <;> simp
  rw [h0, Int.zero_add] at h1
  have e1 : sumL s = sumL ((ps.zip s).map fun e => e.2) := by
    have := List.map_snd_zip (l₁ := ps) (l₂ := s) (by omega)
    have e2 : (ps.zip s).map (fun e => e.2) = s := this
    rw [e2]
  have k1 : ∀ e ∈ ps.zip s, e.2 * 2 ≤ (v.getD e.1.1.toNat 0 + v.getD e.1.2.toNat 0) * e.2 := by
    intro e he
    obtain ⟨m1, m2⟩ := hz e he
    have g1 := List.all_eq_true.1 hh _ m1
    simp only [enough, decide_eq_true_iff] at g1
    have g2 := (hsb _ m2).1
    have := Int.mul_le_mul_of_nonneg_left g1 g2
    rw [Int.mul_comm (v.getD _ 0 + v.getD _ 0)]
    exact this
  have k2 := sum_le2 (ps.zip s) k1
  rw [sum_two, ← e1] at k2
  have ev : sumL v = sumL ((List.range n).map fun a => v.getD a 0) := by rw [← list_range v n hv]
  have hg : ∀ a : Nat, a < 7 → ((ps.zip s).foldl has1 (List.replicate 7 0)).getD a 0 = loadOf (ps.zip s) (a : Int) := by
    intro a ha
    rw [fold_getD hn _ _ _ (by simp) (zip_ok hps s), List.getD_eq_getElem?_getD, List.getElem?_replicate]
    split <;> simp
  have k3 : ∀ a ∈ List.range n, v.getD a 0 * ((ps.zip s).foldl has1 (List.replicate 7 0)).getD a 0 ≤ v.getD a 0 * 2 := by
    intro a ha
    rw [List.mem_range] at ha
    rw [hg a (by omega)]
    exact Int.mul_le_mul_of_nonneg_left (hl a) (getD_bd (B := 2) (by omega) hvb a).1
  have k4 := sum_le2 (List.range n) k3
  rw [sum_two, ← ev] at k4
  have hw : wsum v (ps.zip s) = sumL ((ps.zip s).map fun e => (v.getD e.1.1.toNat 0 + v.getD e.1.2.toNat 0) * e.2) := rfl
  have hd : dot n v ((ps.zip s).foldl has1 (List.replicate 7 0)) = sumL ((List.range n).map fun a => v.getD a 0 * ((ps.zip s).foldl has1 (List.replicate 7 0)).getD a 0) := rfl
  rw [← hw] at k2
  rw [← hd] at k4
  refine ⟨?_, ?_⟩
  · intro e he hpos
    have := sum_le2_eq (ps.zip s) k1 (by rw [sum_two, ← e1, ← hw]; omega) e he
    have h3 : e.2 * 2 = e.2 * (v.getD e.1.1.toNat 0 + v.getD e.1.2.toNat 0) := by rw [this, Int.mul_comm]
    have := Int.eq_of_mul_eq_mul_left (by omega) h3
    omega
  · intro a ha hpos
    have := sum_le2_eq (List.range n) k3 (by rw [sum_two, ← ev, ← hd]; omega) a (List.mem_range.2 ha)
    rw [hg a (by omega)] at this
    exact Int.eq_of_mul_eq_mul_left (by omega) this


theorem sum_two_le {f : Nat → Int} : ∀ (l : List Nat), l.Nodup → (∀ a ∈ l, 0 ≤ f a) → ∀ x ∈ l, ∀ y ∈ l, x ≠ y → f x + f y ≤ sumL (l.map f)
  | [], _, _, x, hx, _, _, _ => by simp at hx
  | a :: l, hn, h0, x, hx, y, hy, hne => by
    rw [List.nodup_cons] at hn
    have ha := h0 a (by simp)
    have one : ∀ (k : List Nat), (∀ b ∈ k, 0 ≤ f b) → ∀ b ∈ k, f b ≤ sumL (k.map f) := by
      intro k
      induction k with
      | nil => intro _ b hb; simp at hb
      | cons c k ih =>
        intro hk b hb
        have hc := hk c (by simp)
        have hs := sum_nonneg (k.map f) (by intro z hz; rw [List.mem_map] at hz; obtain ⟨w, hw, rfl⟩ := hz; exact hk w (by simp [hw]))
        simp only [List.map_cons, sumL]
        rcases List.mem_cons.1 hb with rfl | hb
        · omega
        · have := ih (fun z hz => hk z (by simp [hz])) b hb; omega
    have h0' : ∀ b ∈ l, 0 ≤ f b := fun b hb => h0 b (by simp [hb])
    simp only [List.map_cons, sumL]
    rcases List.mem_cons.1 hx with hx | hx
    · rcases List.mem_cons.1 hy with hy | hy
      · exact absurd (hx.trans hy.symm) hne
      · have := one l h0' y hy; subst hx; omega
    · rcases List.mem_cons.1 hy with hy | hy
      · have := one l h0' x hx; subst hy; omega
      · have := sum_two_le l hn.2 h0' x hx y hy hne; omega
theorem len_sum {α : Type} (p : α → Bool) : ∀ l : List α, ((l.filter p).length : Int) = sumL (l.map fun a => if p a = true then 1 else 0)
  | [] => rfl
  | a :: l => by
    have := len_sum p l
    simp only [List.map_cons, sumL]
    by_cases h : p a = true
    · rw [List.filter_cons_of_pos h, List.length_cons, if_pos h]; omega
    · rw [List.filter_cons_of_neg h, if_neg h]; omega
theorem sum_filter {α : Type} (p : α → Bool) (f : α → Int) : ∀ l : List α, sumL ((l.filter p).map f) = sumL (l.map fun a => if p a = true then f a else 0)
  | [] => rfl
  | a :: l => by
    have := sum_filter p f l
    simp only [List.map_cons, sumL]
    by_cases h : p a = true
    · rw [List.filter_cons_of_pos h, if_pos h, List.map_cons, sumL, this]
    · rw [List.filter_cons_of_neg h, if_neg h, this]; omega
theorem first_of {α : Type} (P : α → Prop) : ∀ l : List α, (∃ a ∈ l, P a) → ∃ l1 a l2, l = l1 ++ a :: l2 ∧ P a ∧ ∀ x ∈ l1, ¬ P x
  | [], h => by obtain ⟨a, ha, _⟩ := h; simp at ha
  | b :: l, h => by
    by_cases hb : P b
    · exact ⟨[], b, l, rfl, hb, by simp⟩
    · obtain ⟨a, ha, hp⟩ := h
      have ha2 : a ∈ l := by
        rcases List.mem_cons.1 ha with rfl | ha
        · exact absurd hp hb
        · exact ha
      obtain ⟨l1, c, l2, h1, h2, h3⟩ := first_of P l ⟨a, ha2, hp⟩
      refine ⟨b :: l1, c, l2, by rw [h1]; rfl, h2, fun x hx => ?_⟩
      rcases List.mem_cons.1 hx with rfl | hx
      · exact hb
      · exact h3 x hx

section
variable {n : Nat} {W : List ((Int × Int) × Int)} {v : List Int}
  (hnd : (W.map fun e => e.1).Nodup) (hW : OkW n W) (hb : ∀ e ∈ W, 0 ≤ e.2 ∧ e.2 ≤ 2) (hM1 : ∀ a : Nat, loadOf W (a : Int) ≤ 2)
include hnd hW hb
theorem sh_le1 {a b0 : Nat} (hl : loadOf W (a : Int) ≤ 2) (hb0 : b0 < n) (h1 : sh W a b0 = 1) : ∀ b, b < n → sh W a b = 0 ∨ sh W a b = 1 := by
  intro b hbn
  have h2 := sh_bd hnd hW hb a b
  by_cases e : b = b0
  · subst e; exact .inr h1
  · rw [load_sh hW] at hl
    have := sum_two_le (f := fun b => sh W a b) (List.range n) List.nodup_range (fun c _ => (sh_bd hnd hW hb a c).1) b (List.mem_range.2 hbn) b0 (List.mem_range.2 hb0) e
    omega
/-- An article that has 2 and a pair with 1 has two such pairs. -/
theorem two_ones {a b0 : Nat} (hl : loadOf W (a : Int) = 2) (hb0 : b0 < n) (h1 : sh W a b0 = 1) : sumL ((List.range n).map fun b => if sh W a b = 1 then (1 : Int) else 0) = 2 := by
  have h := sh_le1 hnd hW hb (by omega) hb0 h1
  rw [load_sh hW] at hl
  rw [← hl]
  congr 1
  apply List.map_congr_left
  intro b hbm
  rcases h b (List.mem_range.1 hbm) with e | e <;> simp [e]
theorem ones_le (a : Nat) (hl : loadOf W (a : Int) ≤ 2) : sumL ((List.range n).map fun b => if sh W a b = 1 then (1 : Int) else 0) ≤ 2 := by
  rw [load_sh hW] at hl
  have := sum_le2 (f := fun b => if sh W a b = 1 then (1 : Int) else 0) (g := fun b => sh W a b) (List.range n) (by
    intro b _
    have := sh_bd hnd hW hb a b
    show (if sh W a b = 1 then (1 : Int) else 0) ≤ sh W a b
    split <;> omega)
  omega
include hM1
/-- Each article that has more than half of what it may has a pair of its own with 1, other than a given one. -/
theorem match_ones {t0 z1 : Nat} (ht0 : t0 < n) (hz1 : z1 < n) (h1 : sh W t0 z1 = 1) (hM2 : ∀ a : Nat, a < n → v.getD a 0 = 2 → loadOf W (a : Int) = 2) :
    ∃ f : Nat → Nat, (∀ t, t < n → v.getD t 0 = 2 → (∃ b, b < n ∧ sh W t b = 1) → f t < n ∧ sh W t (f t) = 1) ∧ f t0 = z1 ∧
      ∀ t u, t < n → u < n → v.getD t 0 = 2 → v.getD u 0 = 2 → (∃ b, b < n ∧ sh W t b = 1) → (∃ b, b < n ∧ sh W u b = 1) → f t = f u → t = u := by
  let inT : Nat → Bool := fun a => decide (v.getD a 0 = 2) && ((List.range n).any fun b => decide (sh W a b = 1)) && !decide (a = t0)
  let T := (List.range n).filter inT
  let r : Nat → Nat → Bool := fun t z => decide (sh W t z = 1) && !decide (z = z1)
  have hT : ∀ a, a ∈ T ↔ a < n ∧ v.getD a 0 = 2 ∧ (∃ b, b < n ∧ sh W a b = 1) ∧ a ≠ t0 := by
    intro a
    show a ∈ (List.range n).filter inT ↔ _
    rw [List.mem_filter, List.mem_range]
    show a < n ∧ (decide (v.getD a 0 = 2) && ((List.range n).any fun b => decide (sh W a b = 1)) && !decide (a = t0)) = true ↔ _
    simp [and_assoc]
  have hcond : ∀ p : Nat → Bool, (T.filter p).length ≤ (nbrs n r (T.filter p)).length := by
    intro p
    have hS : T.filter p = (List.range n).filter fun a => p a && inT a := by show ((List.range n).filter inT).filter p = _; rw [List.filter_filter]
    have hSm : ∀ a ∈ T.filter p, a < n ∧ v.getD a 0 = 2 ∧ (∃ b, b < n ∧ sh W a b = 1) ∧ a ≠ t0 := fun a ha => (hT a).1 (List.mem_filter.1 ha).1
    -- the ones of these articles, counted from both sides
    have e1 : sumL ((T.filter p).map fun t => sumL ((List.range n).map fun z => if sh W t z = 1 then (1 : Int) else 0)) = 2 * ((T.filter p).length : Int) := by
      have : (T.filter p).map (fun t => sumL ((List.range n).map fun z => if sh W t z = 1 then (1 : Int) else 0)) = (T.filter p).map fun _ => (1 : Int) * 2 := by
        apply List.map_congr_left
        intro t ht
        obtain ⟨a1, a2, ⟨b, a3, a4⟩, _⟩ := hSm t ht
        rw [two_ones hnd hW hb (hM2 t a1 a2) a3 a4]; rfl
      rw [this, sum_two (fun _ => (1 : Int))]
      congr 1
      generalize T.filter p = l
      induction l with
      | nil => rfl
      | cons c l ih => simp only [List.map_cons, sumL, ih, List.length_cons]; omega
    rw [sum_swap] at e1
    have e2 : sumL ((List.range n).map fun z => sumL ((T.filter p).map fun t => if sh W t z = 1 then (1 : Int) else 0)) ≤ sumL ((List.range n).map fun z => (if ((T.filter p).any fun t => r t z) = true then (1 : Int) else 0) * 2 + (if z = z1 then (1 : Int) else 0)) := by
      apply sum_le2
      intro z hz
      rw [List.mem_range] at hz
      have c1 : sumL ((T.filter p).map fun t => if sh W t z = 1 then (1 : Int) else 0) = sumL ((List.range n).map fun t => if (p t && inT t) = true then (if sh W t z = 1 then (1 : Int) else 0) else 0) := by rw [hS, sum_filter]
      have c2 := ones_le hnd hW hb z (hM1 z)
      by_cases ez : z = z1
      · subst ez
        rw [if_pos rfl]
        have c3 : sumL ((List.range n).map fun t => if (p t && inT t) = true then (if sh W t z = 1 then (1 : Int) else 0) else 0) + 1 ≤ sumL ((List.range n).map fun t => if sh W z t = 1 then (1 : Int) else 0) := by
          have c4 := sum_upd (f := fun t => if sh W z t = 1 then (1 : Int) else 0) (g := fun t => if t = t0 then 0 else if sh W z t = 1 then (1 : Int) else 0) (i := t0) (d := 1) (List.range n) List.nodup_range (List.mem_range.2 ht0) (by intro a _ hne; rw [if_neg hne]) (by rw [if_pos rfl, sh_symm, if_pos h1]; rfl)
          rw [c4]
          have c5 := sum_le2 (f := fun t => if (p t && inT t) = true then (if sh W t z = 1 then (1 : Int) else 0) else 0) (g := fun t => if t = t0 then 0 else if sh W z t = 1 then (1 : Int) else 0) (List.range n) (by
            intro t _
            by_cases et : t = t0
            · have hin : inT t = false := by
                show (decide (v.getD t 0 = 2) && ((List.range n).any fun b => decide (sh W t b = 1)) && !decide (t = t0)) = false
                simp [et]
              rw [if_pos et, hin, Bool.and_false, if_neg (by simp)]; exact Int.le_refl _
            · rw [if_neg et, sh_symm W t z]
              split <;> split <;> omega)
          omega
        split <;> omega
      · rw [if_neg ez]
        by_cases hN : ((T.filter p).any fun t => r t z) = true
        · rw [if_pos hN]
          have c5 := sum_le2 (f := fun t => if (p t && inT t) = true then (if sh W t z = 1 then (1 : Int) else 0) else 0) (g := fun t => if sh W z t = 1 then (1 : Int) else 0) (List.range n) (by
            intro t _
            rw [sh_symm W t z]
            split <;> split <;> omega)
          omega
        · rw [if_neg hN]
          have : sumL ((T.filter p).map fun t => if sh W t z = 1 then (1 : Int) else 0) = 0 := by
            apply sum_zero
            intro t ht
            rw [if_neg]
            intro h5
            apply hN
            exact List.any_eq_true.2 ⟨t, ht, by show (decide (sh W t z = 1) && !decide (z = z1)) = true; simp [h5, ez]⟩
          omega
    rw [sum_add, sum_two (fun z => if ((T.filter p).any fun t => r t z) = true then (1 : Int) else 0)] at e2
    have e3 : ((nbrs n r (T.filter p)).length : Int) = sumL ((List.range n).map fun z => if ((T.filter p).any fun t => r t z) = true then (1 : Int) else 0) := len_sum _ _
    have e4 : sumL ((List.range n).map fun z => if z = z1 then (1 : Int) else 0) ≤ 1 := ind_le_one (fun z => z = z1) _ List.nodup_range (fun a _ b _ ha hb => by rw [ha, hb])
    omega
  obtain ⟨f, f1, f2⟩ := hall n T.length T r rfl (List.nodup_range.filter _) hcond
  have f1' : ∀ t ∈ T, f t < n ∧ sh W t (f t) = 1 ∧ f t ≠ z1 := by
    intro t ht
    obtain ⟨a1, a2⟩ := f1 t ht
    have a3 : (decide (sh W t (f t) = 1) && !decide (f t = z1)) = true := a2
    simp at a3
    exact ⟨a1, a3⟩
  refine ⟨fun t => if t = t0 then z1 else f t, ?_, if_pos rfl, ?_⟩
  · intro t h2 h3 h4
    dsimp only
    by_cases e : t = t0
    · subst e; rw [if_pos rfl]; exact ⟨hz1, h1⟩
    · rw [if_neg e]
      have := f1' t ((hT t).2 ⟨h2, h3, h4, e⟩)
      exact ⟨this.1, this.2.1⟩
  · intro t u h2 h3 h4 h5 h6 h7
    dsimp only
    by_cases e : t = t0 <;> by_cases e2 : u = t0
    · intro _; rw [e, e2]
    · rw [if_pos e, if_neg e2]
      intro h8; exact absurd h8.symm (f1' u ((hT u).2 ⟨h3, h5, h7, e2⟩)).2.2
    · rw [if_neg e, if_pos e2]
      intro h8; exact absurd h8 (f1' t ((hT t).2 ⟨h2, h4, h6, e⟩)).2.2
    · rw [if_neg e, if_neg e2]
      exact f2 t ((hT t).2 ⟨h2, h4, h6, e⟩) u ((hT u).2 ⟨h3, h5, h7, e2⟩)
end


theorem zip_new (f : (Int × Int) × Int → Int) : ∀ (ps : List (Int × Int)) (s : List Int), ps.zip ((ps.zip s).map f) = (ps.zip s).map fun e => (e.1, f e)
  | [], s => by simp
  | p :: ps, [] => by simp
  | p :: ps, x :: s => by simp only [List.zip_cons_cons, List.map_cons, zip_new f ps s]

theorem tight {n : Nat} (hn : n ≤ 7) {ps : List (Int × Int)} (hps : ∀ p ∈ ps, 0 ≤ p.1 ∧ p.1 < p.2 ∧ p.2 < (n : Int)) {v s : List Int} (hv : v.length = n) (hs : s.length = ps.length)
    (h1 : ∀ e ∈ ps.zip s, e.2 ≠ 0 → v.getD e.1.1.toNat 0 + v.getD e.1.2.toNat 0 = 2) (h2 : ∀ a : Nat, a < n → v.getD a 0 ≠ 0 → loadOf (ps.zip s) (a : Int) = 2) : sumL s = sumL v := by
  have hz : ∀ e ∈ ps.zip s, e.1 ∈ ps ∧ e.2 ∈ s := fun e he => ⟨(List.of_mem_zip he).1, (List.of_mem_zip he).2⟩
  have g1 := dot_fold hn v (ps.zip s) (List.replicate 7 0) (by simp) (fun e he => hps _ (hz e he).1)
  have g0 : dot n v (List.replicate 7 0) = 0 := by
    unfold dot
    apply sum_zero
    intro a _
    rw [List.getD_eq_getElem?_getD (l := List.replicate 7 (0 : Int)), List.getElem?_replicate]
    split <;> simp
  rw [g0, Int.zero_add] at g1
  have e1 : sumL s = sumL ((ps.zip s).map fun e => e.2) := by
    have := List.map_snd_zip (l₁ := ps) (l₂ := s) (by omega)
    have e2 : (ps.zip s).map (fun e => e.2) = s := this
    rw [e2]
  have k1 : (ps.zip s).map (fun e => (v.getD e.1.1.toNat 0 + v.getD e.1.2.toNat 0) * e.2) = (ps.zip s).map fun e => e.2 * 2 := by
    apply List.map_congr_left
    intro e he
    by_cases h : e.2 = 0
    · rw [h]; simp
    · rw [h1 e he h]; omega
  have ev : sumL v = sumL ((List.range n).map fun a => v.getD a 0) := by rw [← list_range v n hv]
  have hg : ∀ a : Nat, a < 7 → ((ps.zip s).foldl has1 (List.replicate 7 0)).getD a 0 = loadOf (ps.zip s) (a : Int) := by
    intro a ha
    rw [fold_getD hn _ _ _ (by simp) (zip_ok hps s), List.getD_eq_getElem?_getD, List.getElem?_replicate]
    split <;> simp
  have k3 : (List.range n).map (fun a => v.getD a 0 * ((ps.zip s).foldl has1 (List.replicate 7 0)).getD a 0) = (List.range n).map fun a => v.getD a 0 * 2 := by
    apply List.map_congr_left
    intro a ha
    rw [List.mem_range] at ha
    rw [hg a (by omega)]
    by_cases h : v.getD a 0 = 0
    · rw [h]; simp
    · rw [h2 a ha h]
  have hw : wsum v (ps.zip s) = sumL ((ps.zip s).map fun e => (v.getD e.1.1.toNat 0 + v.getD e.1.2.toNat 0) * e.2) := rfl
  have hd : dot n v ((ps.zip s).foldl has1 (List.replicate 7 0)) = sumL ((List.range n).map fun a => v.getD a 0 * ((ps.zip s).foldl has1 (List.replicate 7 0)).getD a 0) := rfl
  rw [hw, hd, k1, k3, sum_two, sum_two, ← e1, ← ev] at g1
  omega

section
variable {n : Nat} {W : List ((Int × Int) × Int)} {v : List Int} {F : Nat → Nat}
/-- Shares of 1 between articles with 2 and with 0 are changed as a choice F says. -/
def newOf (v : List Int) (F : Nat → Nat) (e : (Int × Int) × Int) : Int :=
  if e.2 = 1 ∧ v.getD e.1.1.toNat 0 ≠ 1 then (if (v.getD e.1.1.toNat 0 = 2 ∧ F e.1.1.toNat = e.1.2.toNat) ∨ (v.getD e.1.2.toNat 0 = 2 ∧ F e.1.2.toNat = e.1.1.toNat) then 2 else 0) else e.2
theorem newOf_bd (e : (Int × Int) × Int) (h : 0 ≤ e.2 ∧ e.2 ≤ 2) : 0 ≤ newOf v F e ∧ newOf v F e ≤ 2 := by
  unfold newOf; split
  · split <;> omega
  · exact h
theorem okW_new (hW : OkW n W) : OkW n (W.map fun e => (e.1, newOf v F e)) := by
  intro e he
  obtain ⟨c, hc, rfl⟩ := List.mem_map.1 he
  exact hW c hc
theorem nd_new (hnd : (W.map fun e => e.1).Nodup) : ((W.map fun e => (e.1, newOf v F e)).map fun e => e.1).Nodup := by
  rw [List.map_map]; exact hnd
theorem sh_new_of (hnd : (W.map fun e => e.1).Nodup) (hW : OkW n W) {a b : Nat} {e : (Int × Int) × Int} (he : e ∈ W) (h : (e.1.1 = (a : Int) ∧ e.1.2 = (b : Int)) ∨ (e.1.1 = (b : Int) ∧ e.1.2 = (a : Int))) :
    sh (W.map fun e => (e.1, newOf v F e)) a b = newOf v F e :=
  sh_val (nd_new hnd) (okW_new hW) (e := (e.1, newOf v F e)) (List.mem_map.2 ⟨e, he, rfl⟩) h
theorem sh_new_none {a b : Nat} (h : ∀ e ∈ W, ¬((e.1.1 = (a : Int) ∧ e.1.2 = (b : Int)) ∨ (e.1.1 = (b : Int) ∧ e.1.2 = (a : Int)))) : sh (W.map fun e => (e.1, newOf v F e)) a b = 0 := by
  by_cases h0 : sh (W.map fun e => (e.1, newOf v F e)) a b = 0
  · exact h0
  · obtain ⟨e, he, h2⟩ := sh_pos h0
    obtain ⟨c, hc, rfl⟩ := List.mem_map.1 he
    exact absurd h2 (h c hc)
theorem sh_new (hnd : (W.map fun e => e.1).Nodup) (hW : OkW n W) (hsl : ∀ e ∈ W, 0 < e.2 → v.getD e.1.1.toNat 0 + v.getD e.1.2.toNat 0 = 2) (a b : Nat) :
    sh (W.map fun e => (e.1, newOf v F e)) a b = if sh W a b = 1 ∧ v.getD a 0 ≠ 1 then (if (v.getD a 0 = 2 ∧ F a = b) ∨ (v.getD b 0 = 2 ∧ F b = a) then 2 else 0) else sh W a b := by
  by_cases hex : ∃ e ∈ W, ((e.1.1 = (a : Int) ∧ e.1.2 = (b : Int)) ∨ (e.1.1 = (b : Int) ∧ e.1.2 = (a : Int)))
  · obtain ⟨e, he, h⟩ := hex
    rw [sh_new_of hnd hW he h, sh_val hnd hW he h]
    have hs := hsl e he
    unfold newOf
    rcases h with ⟨h1, h2⟩ | ⟨h1, h2⟩
    · have e1 : e.1.1.toNat = a := by omega
      have e2 : e.1.2.toNat = b := by omega
      rw [e1, e2]
    · have e1 : e.1.1.toNat = b := by omega
      have e2 : e.1.2.toNat = a := by omega
      rw [e1, e2] at hs ⊢
      by_cases g : e.2 = 1
      · have hv := hs (by omega)
        by_cases g2 : v.getD b 0 = 1
        · rw [if_neg (by omega), if_neg (by omega)]
        · have g3 : v.getD a 0 ≠ 1 := by omega
          simp only [ne_eq, g, g2, g3, not_false_eq_true, and_self, if_true]
          simp only [or_comm]
      · rw [if_neg (fun h => g h.1), if_neg (fun h => g h.1)]
  · have h0 : ∀ e ∈ W, ¬((e.1.1 = (a : Int) ∧ e.1.2 = (b : Int)) ∨ (e.1.1 = (b : Int) ∧ e.1.2 = (a : Int))) := fun e he h => hex ⟨e, he, h⟩
    rw [sh_new_none h0]
    have : sh W a b = 0 := by
      by_cases h : sh W a b = 0
      · exact h
      · obtain ⟨e, he, h2⟩ := sh_pos h; exact absurd h2 (h0 e he)
    rw [this]; simp
theorem sh_v (hnd : (W.map fun e => e.1).Nodup) (hW : OkW n W) (hsl : ∀ e ∈ W, 0 < e.2 → v.getD e.1.1.toNat 0 + v.getD e.1.2.toNat 0 = 2) {a b : Nat} (h : 0 < sh W a b) : v.getD a 0 + v.getD b 0 = 2 := by
  obtain ⟨e, he, h2⟩ := sh_pos (by omega : sh W a b ≠ 0)
  rw [sh_val hnd hW he h2] at h
  have := hsl e he h
  rcases h2 with ⟨h1, h2⟩ | ⟨h1, h2⟩
  · rw [show e.1.1.toNat = a from by omega, show e.1.2.toNat = b from by omega] at this; exact this
  · rw [show e.1.1.toNat = b from by omega, show e.1.2.toNat = a from by omega] at this; omega
theorem load_new (hnd : (W.map fun e => e.1).Nodup) (hW : OkW n W) (hb : ∀ e ∈ W, 0 ≤ e.2 ∧ e.2 ≤ 2) (hM1 : ∀ a : Nat, loadOf W (a : Int) ≤ 2) (hsl : ∀ e ∈ W, 0 < e.2 → v.getD e.1.1.toNat 0 + v.getD e.1.2.toNat 0 = 2)
    (hvb : ∀ a : Nat, 0 ≤ v.getD a 0 ∧ v.getD a 0 ≤ 2) (hM2 : ∀ a : Nat, a < n → 0 < v.getD a 0 → loadOf W (a : Int) = 2)
    (hF1 : ∀ t, t < n → v.getD t 0 = 2 → (∃ b, b < n ∧ sh W t b = 1) → F t < n ∧ sh W t (F t) = 1)
    (hF2 : ∀ t u, t < n → u < n → v.getD t 0 = 2 → v.getD u 0 = 2 → (∃ b, b < n ∧ sh W t b = 1) → (∃ b, b < n ∧ sh W u b = 1) → F t = F u → t = u) (a : Nat) (ha : a < n) :
    loadOf (W.map fun e => (e.1, newOf v F e)) (a : Int) ≤ 2 ∧ (v.getD a 0 ≠ 0 → loadOf (W.map fun e => (e.1, newOf v F e)) (a : Int) = 2) := by
  have hva := hvb a
  have same : (v.getD a 0 = 1 ∨ ¬ ∃ b, b < n ∧ sh W a b = 1) → loadOf (W.map fun e => (e.1, newOf v F e)) (a : Int) = loadOf W (a : Int) := by
    intro hc
    rw [load_sh (okW_new hW), load_sh hW]
    congr 1
    apply List.map_congr_left
    intro b hbm
    rw [List.mem_range] at hbm
    rw [sh_new hnd hW hsl]
    rw [if_neg]
    rintro ⟨h1, h2⟩
    rcases hc with hc | hc
    · exact h2 hc
    · exact hc ⟨b, hbm, h1⟩
  by_cases hc : v.getD a 0 = 1 ∨ ¬ ∃ b, b < n ∧ sh W a b = 1
  · rw [same hc]
    exact ⟨hM1 a, fun h => hM2 a ha (by omega)⟩
  · have hv1 : v.getD a 0 ≠ 1 := fun h => hc (.inl h)
    have hex : ∃ b, b < n ∧ sh W a b = 1 := Classical.byContradiction fun h => hc (.inr h)
    obtain ⟨b0, hb0, hs0⟩ := hex
    have h01 := sh_le1 hnd hW hb (hM1 a) hb0 hs0
    rw [load_sh (okW_new hW)]
    by_cases hv2 : v.getD a 0 = 2
    · obtain ⟨f1, f2⟩ := hF1 a ha hv2 ⟨b0, hb0, hs0⟩
      have e : (List.range n).map (fun b => sh (W.map fun e => (e.1, newOf v F e)) a b) = (List.range n).map fun b => if b = F a then (2 : Int) else 0 := by
        apply List.map_congr_left
        intro b hbm
        rw [List.mem_range] at hbm
        rw [sh_new hnd hW hsl]
        by_cases g : sh W a b = 1
        · have hvb2 := sh_v hnd hW hsl (a := a) (b := b) (by omega)
          rw [if_pos ⟨g, hv1⟩]
          by_cases g2 : b = F a
          · rw [if_pos (.inl ⟨hv2, g2.symm⟩), if_pos g2]
          · rw [if_neg (by omega), if_neg g2]
        · rw [if_neg (fun h => g h.1)]
          have := h01 b hbm
          have hne : b ≠ F a := by rintro rfl; exact g f2
          rw [if_neg hne]; omega
      have z : sumL ((List.range n).map fun (_ : Nat) => (0 : Int)) = 0 := sum_zero _ (fun _ _ => rfl)
      have := sum_upd (f := fun b => if b = F a then (2 : Int) else 0) (g := fun _ => 0) (i := F a) (d := 2) (List.range n) List.nodup_range (List.mem_range.2 f1) (by intro b _ hne; rw [if_neg hne]) (by rw [if_pos rfl]; rfl)
      rw [e, this, z]
      exact ⟨by omega, fun _ => by omega⟩
    · refine ⟨?_, fun h => by omega⟩
      have hv0 : v.getD a 0 = 0 := by omega
      have e := sum_le2 (f := fun b => sh (W.map fun e => (e.1, newOf v F e)) a b) (g := fun b => (if (v.getD b 0 = 2 ∧ F b = a ∧ sh W a b = 1) then (1 : Int) else 0) * 2) (List.range n) (by
        intro b hbm
        rw [List.mem_range] at hbm
        rw [sh_new hnd hW hsl]
        by_cases g : sh W a b = 1
        · rw [if_pos ⟨g, hv1⟩]
          by_cases g2 : v.getD b 0 = 2 ∧ F b = a
          · rw [if_pos (.inr g2), if_pos ⟨g2.1, g2.2, g⟩]; omega
          · rw [if_neg (by omega), if_neg (fun h => g2 ⟨h.1, h.2.1⟩)]; omega
        · rw [if_neg (fun h => g h.1), if_neg (fun h => g h.2.2)]
          have := h01 b hbm
          omega)
      rw [sum_two] at e
      have e2 := ind_le_one (fun b => v.getD b 0 = 2 ∧ F b = a ∧ sh W a b = 1) (List.range n) List.nodup_range (by
        intro p hp q hq h1 h2
        rw [List.mem_range] at hp hq
        exact hF2 p q hp hq h1.1 h2.1 ⟨a, ha, by rw [sh_symm]; exact h1.2.2⟩ ⟨a, ha, by rw [sh_symm]; exact h2.2.2⟩ (by rw [h1.2.1, h2.2.1]))
      have e3 : sumL ((List.range n).map fun b => if (v.getD b 0 = 2 ∧ F b = a ∧ sh W a b = 1) then (1 : Int) else 0) ≤ 1 := e2
      omega
end

theorem over_none {n : Nat} {ps : List (Int × Int)} {l : List Int} (h : l ∈ shF n ps ps.length []) (hps : ∀ p ∈ ps, 0 ≤ p.1 ∧ p.1 < p.2 ∧ p.2 < (n : Int)) (a : Nat) : loadOf (ps.zip l) (a : Int) ≤ 2 := by
  rcases Nat.lt_or_ge a n with ha | ha
  · obtain ⟨t, e, _, _, e4⟩ := (mem_shF ps.length [] _ (by simp)).1 h
    rcases e4 with e4 | e4
    · have : ps = [] := List.eq_nil_of_length_eq_zero e4
      subst this
      simp [loadOf]
    · by_cases h2 : 2 < loadOf (ps.zip l) (a : Int)
      · rw [(over_iff _).2 ⟨a, ha, h2⟩] at e4; simp at e4
      · omega
  · rw [load_out _ a ha (zip_ok hps l)]; omega

/-- Pairs with the share 1 are between articles with the value one half. -/
theorem ones_mid {n : Nat} {ps : List (Int × Int)} (hn1 : 1 ≤ n) (hn : n ≤ 7) (hps : ∀ p ∈ ps, 0 ≤ p.1 ∧ p.1 < p.2 ∧ p.2 < (n : Int)) (h7 : ∀ p ∈ ps, okP p) (hnd : ps.Nodup) :
    ∀ e ∈ ps.zip (sharesR n ps), e.2 = 1 → (halvesV n ps).getD e.1.1.toNat 0 = 1 := by
  obtain ⟨s1, s2⟩ := sharesR_in (n := n) (ps := ps)
  obtain ⟨a1, a2⟩ := shF_ok s1
  obtain ⟨v1, v2, _⟩ := halvesV_ok hn1 hn hps h7
  have hv := (cheap_mem.1 (halves_spec hn1 hn hps h7).1).1.2
  have hM1 := over_none s1 hps
  have hw := shares_worth hn1 hn hps h7 hnd
  obtain ⟨hsl, hM2⟩ := slack hn hps v1 v2 a1 a2 hv hM1 (by omega)
  have hvb := getD_bd (B := 2) (by omega) v2
  have hWn : ((ps.zip (sharesR n ps)).map fun e => e.1).Nodup := by
    have : (ps.zip (sharesR n ps)).map (fun e => e.1) = ps := List.map_fst_zip (by omega)
    rw [this]; exact hnd
  have hW : OkW n (ps.zip (sharesR n ps)) := zip_ok hps _
  have hb : ∀ e ∈ ps.zip (sharesR n ps), 0 ≤ e.2 ∧ e.2 ≤ 2 := fun e he => a2 _ (List.of_mem_zip he).2
  have hes : (ps.zip (sharesR n ps)).map (fun e => e.2) = sharesR n ps := List.map_snd_zip (by omega)
  generalize halvesV n ps = v at *
  generalize sharesR n ps = s at *
  intro e he h1
  apply Classical.byContradiction
  intro hne
  obtain ⟨l1, e0, l2, hl, ⟨p1, p2⟩, p3⟩ := first_of (fun e => e.2 = 1 ∧ v.getD e.1.1.toNat 0 ≠ 1) (ps.zip s) ⟨e, he, h1, hne⟩
  have he0 : e0 ∈ ps.zip s := by rw [hl]; simp
  have hk := hW e0 he0
  have hs0 := hsl e0 he0 (by omega)
  have hva := hvb e0.1.1.toNat
  have hvbb := hvb e0.1.2.toNat
  obtain ⟨t0, z0, ht0, hz0, vt, vz, hsh, hends⟩ : ∃ t0 z0 : Nat, t0 < n ∧ z0 < n ∧ v.getD t0 0 = 2 ∧ v.getD z0 0 = 0 ∧ sh (ps.zip s) t0 z0 = 1 ∧ ((e0.1.1.toNat = t0 ∧ e0.1.2.toNat = z0) ∨ (e0.1.1.toNat = z0 ∧ e0.1.2.toNat = t0)) := by
    have hse := sh_pair_eq hWn hW he0
    by_cases g : v.getD e0.1.1.toNat 0 = 2
    · exact ⟨e0.1.1.toNat, e0.1.2.toNat, by omega, by omega, g, by omega, by rw [hse, p1], .inl ⟨rfl, rfl⟩⟩
    · exact ⟨e0.1.2.toNat, e0.1.1.toNat, by omega, by omega, by omega, by omega, by rw [sh_symm, hse, p1], .inr ⟨rfl, rfl⟩⟩
  have hz1 : ∃ z1, z1 < n ∧ z1 ≠ z0 ∧ sh (ps.zip s) t0 z1 = 1 := by
    apply Classical.byContradiction
    intro hno
    have h2 := two_ones hWn hW hb (hM2 t0 ht0 (by omega)) hz0 hsh
    have h3 := sum_le2 (f := fun b => if sh (ps.zip s) t0 b = 1 then (1 : Int) else 0) (g := fun b => if b = z0 then (1 : Int) else 0) (List.range n) (by
      intro b hbm
      by_cases g : sh (ps.zip s) t0 b = 1
      · have : b = z0 := Classical.byContradiction fun h => hno ⟨b, List.mem_range.1 hbm, h, g⟩
        rw [if_pos this]; split <;> omega
      · rw [if_neg g]; split <;> omega)
    have h4 := ind_le_one (fun z => z = z0) (List.range n) List.nodup_range (fun a _ b _ ha hb => by rw [ha, hb])
    omega
  obtain ⟨z1, hz1n, hz10, hs1⟩ := hz1
  obtain ⟨F, hF1, hF0, hF2⟩ := match_ones hWn hW hb hM1 ht0 hz1n hs1 (v := v) (fun a ha h => hM2 a ha (by omega))
  have hzn := zip_new (newOf v F) ps s
  have hload := load_new hWn hW hb hM1 hsl hvb hM2 hF1 hF2
  rw [← hzn] at hload
  have hlen' : ((ps.zip s).map (newOf v F)).length = ps.length := by simp; omega
  have hin : (ps.zip s).map (newOf v F) ∈ shF n ps ps.length [] := by
    refine (mem_shF ps.length [] _ (by simp)).2 ⟨_, by simp, hlen', ?_, .inr ?_⟩
    · intro x hx
      obtain ⟨c, hc, rfl⟩ := List.mem_map.1 hx
      exact newOf_bd c (hb c hc)
    · cases h : overFrom (ps.zip ((ps.zip s).map (newOf v F))) n 0
      · rfl
      · obtain ⟨a, ha, h2⟩ := (over_iff _).1 h
        have := (hload a ha).1; omega
  have hsum : sumL ((ps.zip s).map (newOf v F)) = sumL v := by
    refine tight hn hps v1 hlen' ?_ (fun a ha h => (hload a ha).2 h)
    intro c hc hc2
    rw [hzn] at hc
    obtain ⟨d, hd, rfl⟩ := List.mem_map.1 hc
    apply hsl d hd
    have hd2 := hb d hd
    by_cases g : d.2 = 0
    · exfalso; apply hc2
      show newOf v F d = 0
      unfold newOf
      rw [if_neg (by omega), g]
    · omega
  have hlt : lexLt ((ps.zip s).map (newOf v F)) s = true := by
    have e1 : s = l1.map (fun e => e.2) ++ [e0.2] ++ l2.map fun e => e.2 := by
      rw [← hes, hl]; simp
    have e2 : (ps.zip s).map (newOf v F) = l1.map (fun e => e.2) ++ [newOf v F e0] ++ l2.map (newOf v F) := by
      rw [hl]
      have e4 : l1.map (newOf v F) = l1.map fun e => e.2 := by
        apply List.map_congr_left
        intro c hc
        unfold newOf
        rw [if_neg (p3 c hc)]
      rw [← e4]
      simp
    have e3 : newOf v F e0 = 0 := by
      unfold newOf
      rw [if_pos ⟨p1, p2⟩, if_neg]
      rcases hends with ⟨g1, g2⟩ | ⟨g1, g2⟩
      · rw [g1, g2]
        rintro (⟨q1, q2⟩ | ⟨q1, q2⟩)
        · rw [hF0] at q2; exact hz10 q2
        · omega
      · rw [g1, g2]
        rintro (⟨q1, q2⟩ | ⟨q1, q2⟩)
        · omega
        · rw [hF0] at q2; exact hz10 q2
    rw [e2, e3]
    exact e1 ▸ (by
      have := lex_pre (l1.map fun e => e.2) (l2.map (newOf v F)) (l2.map fun e => e.2) (show (0 : Int) < e0.2 by omega)
      rw [← e1] at this
      rw [← e1]
      exact this)
  have := (s2 _ hin).2 (by omega)
  rw [hlt] at this
  simp at this


/-! ### the first of a set; sets without others -/
def tzN (m : Nat) : Nat := ((List.range 7).find? m.testBit).getD 64
theorem all90 : (List.range 128).map (fun m => callAV L 60 90 [U m] ⟨[], []⟩) = (List.range 128).map (fun m => some (I (tzN m : Nat), (⟨[], []⟩ : St))) := by kernel_rfl
theorem c90 (m : Nat) (hm : m < 128) (st : St) : run L 90 [U m] st = some (I (tzN m : Nat), st) :=
  run_any' (fn := ir90) rfl rfl (callAV_run L 60 _ _ _ _ (all_of all90 m hm)) st
def dfN (a b : Nat) : Nat := a &&& (127 - b)
theorem dfN_bit {a b : Nat} (hb : b < 128) (i : Nat) : (dfN a b).testBit i = (a.testBit i && (decide (i < 7) && !b.testBit i)) := by
  unfold dfN
  rw [Nat.testBit_and, show 127 - b = 2 ^ 7 - (b + 1) from by omega, Nat.testBit_two_pow_sub_succ hb]
theorem dfN_lt {a b : Nat} (ha : a < 128) : dfN a b < 128 := Nat.lt_of_le_of_lt Nat.and_le_left ha
theorem tz_spec {m : Nat} (hm : m < 128) (h : m ≠ 0) : tzN m < 7 ∧ m.testBit (tzN m) = true := by
  have hk : ∀ k : Fin 128, k.val ≠ 0 → tzN k.val < 7 ∧ k.val.testBit (tzN k.val) = true := by decide
  exact hk ⟨m, hm⟩ h
theorem dfU_eq (a b : Nat) (ha : a < 128) (hb : b < 128) : binAV .andNot none (.v (.int .u64 (a : Int))) (.v (.int .u64 (b : Int))) = some (.v (.int .u64 ((dfN a b : Nat) : Int))) := by
  have e : (BitVec.ofInt IntKind.u64.bits (a : Int) &&& ~~~BitVec.ofInt IntKind.u64.bits (b : Int)).toNat = dfN a b := by
    show (BitVec.ofInt 64 (a : Int) &&& ~~~BitVec.ofInt 64 (b : Int)).toNat = dfN a b
    rw [BitVec.toNat_and, BitVec.toNat_not, BitVec.toNat_ofInt, BitVec.toNat_ofInt]
    have ea : ((a : Int) % ((2 ^ 64 : Nat) : Int)).toNat = a := by omega
    have eb : ((b : Int) % ((2 ^ 64 : Nat) : Int)).toNat = b := by omega
    rw [ea, eb]
    apply Nat.eq_of_testBit_eq
    intro i
    rw [dfN_bit hb, Nat.testBit_and, show 2 ^ 64 - 1 - b = 2 ^ 64 - (b + 1) from by omega, Nat.testBit_two_pow_sub_succ (by omega : b < 2 ^ 64)]
    by_cases h : i < 7
    · simp [h, show i < 64 by omega]
    · have : a.testBit i = false := Nat.testBit_lt_two_pow (Nat.lt_of_lt_of_le ha (Nat.pow_le_pow_right (n := 2) (by decide) (Nat.le_of_not_lt h)))
      rw [this]; simp
  show some (AV.v (.int .u64 (IntKind.u64.wrap ((BitVec.ofInt IntKind.u64.bits (a : Int) &&& ~~~BitVec.ofInt IntKind.u64.bits (b : Int)).toNat : Int)))) = _
  rw [e, wrapU _ (by have := dfN_lt (a := a) (b := b) ha; omega)]
end Go.Proofs.YtpmbfgogpcjdlaaDoor.Vm
