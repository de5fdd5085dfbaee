/- What is proved: what each function of this program computes, as equations on the evaluator. No condition. -/
import Derived.Test.YtdnmhlfjafjkbaaGreatDoorC1
import Derived.KernelRfl
import Derived.Test.YtdnmhlfjafjkbaaGreatDoorT0
set_option linter.all false
namespace Go.Proofs.YtdnmhlfjafjkbaaGreatDoor.Vm
open Go Go.Ev
set_option maxRecDepth 100000
attribute [local go_sem] cells_any storable_any ren1_any shaped_ptr cells_ptr storable_ptr ren1_ptr shaped_eptr cells_eptr storable_eptr ren1_eptr shaped_rsl cells_rsl storable_rsl ren1_rsl shaped_int cells_int storable_int ren1_int shaped_bool cells_bool storable_bool ren1_bool shaped_nils cells_nils storable_nils ren1_nils shaped_lst cells_lst storable_lst shaped_fn cells_fn storable_fn ren1_fn shaped_ifc cells_ifc storable_ifc ren1_ifc shaped_agg cells_agg storable_agg ren1_agg shaped_tup cells_tup storable_tup ren1_tup shaped_nif cells_nif storable_nif ren1_nif ren1_lany ren1_lfull ren1_lown len_lst len_rsl len_nil load_ptr load_eptr isRsl_lst isRsl_nil isRsl_rsl elems_nil elems_lst elems_sl isRsl_sl body_eq bodyK_normal bodyK_ret resK_some leaveK_some only_some code_skip code_exit code_ret code_ops code_seq code_cond code_block seqK_normal seqK_ret seqK_exit condK_true condK_false blockK_normal blockK_ret blockK_exit opsK_some ops_nil ops_cons wantK_true wantK_false stepK_some pubs pub pub_sl params okRef_loc storable_loc shaped_loc cells_loc isRsl_loc elems_loc len_loc untips untip untip_sl wantedAV setElems withO isAgg_v isAgg_agg isAgg_lst isAgg_ptr isAgg_fn isAgg_ifc isAgg_rsl isAgg_sl isAgg_loc List.replicate_succ List.replicate_zero opAV valAV aval avals ofVal Env.get setD canon gcAV renAll renEnv renStore renCells ren1_sl cutSt okEnv okStore okRefs okRef okRef_sl bin_int bin_bool bin_lst bin_rsl bin_nil bin_agg cellsEq cellEq isShift intOp boolOp min_int max_int beq_int bne resAV tupAV leave_eq fin_sl fin_loc fins fin_v fin_lst fin_agg fin_tup fin_fn storeAV readCells putCells cells_sl shaped_sl storable_sl fieldAddrAV len_sl goI List.getElem?_cons_zero List.getElem?_cons_succ List.getElem?_nil Option.bind_some Option.map_some List.length_cons List.length_nil List.all_cons List.all_nil Bool.and_true Bool.true_and Bool.and_false Bool.false_and and_true true_and and_false false_and Bool.false_eq_true List.set_cons_zero List.set_cons_succ List.append_nil List.nil_append List.cons_append List.take_zero List.take_succ_cons List.take_nil List.drop_zero List.drop_succ_cons List.map_cons List.map_nil decide_true decide_false beq_self_eq_true Bool.not_true Bool.not_false or_true true_or or_false false_or Nat.zero_add Nat.add_zero Nat.le_refl Nat.lt_irrefl decide_eq_true_eq eq_self_iff_true not_true_eq_false not_false_eq_true List.getD_cons_zero code_loop Nat.zero_le Nat.not_lt_zero Bool.true_beq Bool.false_beq beq_true beq_false ge_iff_le gt_iff_lt keepR keepT ownTop Lpure pus Option.map_none assert_ifc assert_nil idxA_ptr idxA_eptr idxV_agg Int.cast_ofNat_Int Nat.mul_one Nat.zero_mul Int.toNat_natCast Int.toNat_zero setParts withO2 hasKey eqnil_sl nenil_sl eqnil_loc nenil_loc map_nil_iff okRefs_ints renCells_ints

/-! ### the law's marks and the program's partner -/
def metF (four : Nat) : List Nat → List Bool → List Bool
  | [], M => M
  | s :: r, M => match qN four s with
    | none => metF four r M
    | some k => metF four r (M.set k true)
def wm : List Bool → Nat → Nat × Nat → Nat × Nat
  | [], _, p => p
  | b :: r, i, p => wm r (i + 1) (if b = true then (i, p.2 + 1) else p)
def stOf (M : List Bool) : Option Nat := if 1 < (wm M 0 (0, 0)).2 then none else some (wm M 0 (0, 0)).1
def stS (o : Option Nat) (k : Nat) : Option Nat := match o with
  | none => none
  | some f => if f ≠ 0 ∧ f ≠ k then none else some k
theorem st_step : ∀ (b c d : Bool) (k : Fin 4), k.val ≠ 0 → stS (stOf [false, b, c, d]) k.val = stOf ([false, b, c, d].set k.val true) := by decide
theorem run_st {four : Nat} (hf : four < 256) (h4 : (memb four).length = 4) : ∀ (ss : List Nat) (b c d : Bool), (match stOf [false, b, c, d] with | none => none | some f => runF four ss f) = stOf (metF four ss [false, b, c, d]) ∧ ∃ b' c' d', metF four ss [false, b, c, d] = [false, b', c', d']
  | [], b, c, d => by
    refine ⟨?_, b, c, d, rfl⟩
    cases h : stOf [false, b, c, d] with
    | none => exact h.symm
    | some f => exact h.symm
  | s :: r, b, c, d => by
    cases hq : qN four s with
    | none =>
      have ih := run_st hf h4 r b c d
      have e1 : metF four (s :: r) [false, b, c, d] = metF four r [false, b, c, d] := by simp only [metF, hq]
      rw [e1]
      refine ⟨?_, ih.2⟩
      rw [← ih.1]
      cases h : stOf [false, b, c, d] with
      | none => rfl
      | some f => simp only [runF, hq]
    | some k =>
      have hk := qN_lt hf h4 hq
      have e1 : metF four (s :: r) [false, b, c, d] = metF four r ([false, b, c, d].set k true) := by simp only [metF, hq]
      have hs := st_step b c d ⟨k, by omega⟩ (by simp; omega)
      simp only at hs
      obtain ⟨b', c', d', hset⟩ : ∃ b' c' d', [false, b, c, d].set k true = [false, b', c', d'] := by
        match k, hk with
        | 1, _ => exact ⟨true, c, d, rfl⟩
        | 2, _ => exact ⟨b, true, d, rfl⟩
        | 3, _ => exact ⟨b, c, true, rfl⟩
      rw [hset] at hs e1
      have ih := run_st hf h4 r b' c' d'
      rw [e1]
      refine ⟨?_, ih.2⟩
      rw [← ih.1, ← hs]
      cases h : stOf [false, b, c, d] with
      | none => rfl
      | some f =>
        simp only [runF, hq, stS]
        by_cases hc : f ≠ 0 ∧ f ≠ k
        · rw [if_pos hc, if_pos hc]
        · rw [if_neg hc, if_neg hc]
theorem run_met {four : Nat} (hf : four < 256) (h4 : (memb four).length = 4) (ss : List Nat) : runF four ss 0 = stOf (metF four ss [false, false, false, false]) := (run_st hf h4 ss false false false).1

/-! ### lost just if two do not agree -/
theorem run_lostA (four : Nat) : ∀ (l : List Nat) (f : Nat), f ≠ 0 → (∃ s ∈ l, ∃ k, qN four s = some k ∧ k ≠ f) → runF four l f = none
  | [], _, _, ⟨s, hs, _⟩ => by cases hs
  | a :: r, f, hf, ⟨s, hs, k, hk, hne⟩ => by
    rw [List.mem_cons] at hs
    cases hq : qN four a with
    | none =>
      simp only [runF, hq]
      rcases hs with rfl | hs
      · rw [hk] at hq; cases hq
      · exact run_lostA four r f hf ⟨s, hs, k, hk, hne⟩
    | some k1 =>
      simp only [runF, hq]
      by_cases e : f = k1
      · subst e
        rw [if_neg (fun h => h.2 rfl)]
        rcases hs with rfl | hs
        · rw [hk] at hq; simp only [Option.some.injEq] at hq; exact absurd hq hne
        · exact run_lostA four r f hf ⟨s, hs, k, hk, hne⟩
      · rw [if_pos ⟨hf, e⟩]
theorem run_lostB {four : Nat} (hf : four < 256) (h4 : (memb four).length = 4) : ∀ (l : List Nat), (∃ s ∈ l, ∃ t ∈ l, ∃ k k', qN four s = some k ∧ qN four t = some k' ∧ k ≠ k') → runF four l 0 = none
  | [], ⟨s, hs, _⟩ => by cases hs
  | a :: r, ⟨s, hs, t, ht, k, k', hk, hk', hne⟩ => by
    rw [List.mem_cons] at hs ht
    cases hq : qN four a with
    | none =>
      simp only [runF, hq]
      rcases hs with rfl | hs
      · rw [hk] at hq; cases hq
      · rcases ht with rfl | ht
        · rw [hk'] at hq; cases hq
        · exact run_lostB hf h4 r ⟨s, hs, t, ht, k, k', hk, hk', hne⟩
    | some k1 =>
      have h1 := qN_lt hf h4 hq
      simp only [runF, hq]
      rw [if_neg (fun h => h.1 rfl)]
      refine run_lostA four r k1 (by omega) ?_
      by_cases e : k = k1
      · subst e
        rcases ht with rfl | ht
        · rw [hk'] at hq; simp only [Option.some.injEq] at hq; exact absurd hq.symm hne
        · exact ⟨t, ht, k', hk', fun h => hne h.symm⟩
      · rcases hs with rfl | hs
        · rw [hk] at hq; simp only [Option.some.injEq] at hq; exact absurd hq e
        · exact ⟨s, hs, k, hk, e⟩
theorem run_found {four : Nat} : ∀ (l : List Nat) (f : Nat), (∀ s ∈ l, ∀ t ∈ l, ∀ k k', qN four s = some k → qN four t = some k' → k = k') → (f = 0 ∨ ∀ s ∈ l, ∀ k, qN four s = some k → k = f) → runF four l f ≠ none
  | [], _, _, _ => by simp [runF]
  | a :: r, f, h, hf => by
    have h' : ∀ s ∈ r, ∀ t ∈ r, ∀ k k', qN four s = some k → qN four t = some k' → k = k' := fun s hs t ht => h s (by simp [hs]) t (by simp [ht])
    cases hq : qN four a with
    | none =>
      simp only [runF, hq]
      refine run_found r f h' ?_
      rcases hf with hf | hf
      · exact .inl hf
      · exact .inr (fun s hs => hf s (by simp [hs]))
    | some k1 =>
      simp only [runF, hq]
      rw [if_neg]
      · exact run_found r k1 h' (.inr (fun s hs k hk => h s (by simp [hs]) a (by simp) k k1 hk hq))
      · rintro ⟨h1, h2⟩
        rcases hf with hf | hf
        · exact h1 hf
        · exact h2 (hf a (by simp) k1 hq).symm
theorem clP_none : ∀ (ss : List Nat) (i : Nat), clP ss i = none ↔ ss.Pairwise (fun a b => agN a b = true)
  | [], i => by simp [clP]
  | a :: r, i => by
    have ih := clP_none r (i + 1)
    rw [List.pairwise_cons, ← ih]
    have e : clP (a :: r) i = match r.findIdx? (fun b => !agN a b) with | some j => some (i, i + 1 + j) | none => clP r (i + 1) := rfl
    rw [e]
    cases h : r.findIdx? (fun b => !agN a b) with
    | none =>
      have := List.findIdx?_eq_none_iff.1 h
      simp only
      constructor
      · intro h2; exact ⟨fun b hb => by simpa using this b hb, h2⟩
      · intro h2; exact h2.2
    | some j =>
      simp only
      constructor
      · intro h2; cases h2
      · intro h2
        rw [List.findIdx?_eq_some_iff_getElem] at h
        obtain ⟨h3, h4, _⟩ := h
        have := h2.1 r[j] (List.getElem_mem h3)
        simp [this] at h4
theorem and_df {a b f : Nat} (ha : a < 256) (hb : b < 256) (h : dfN a b = 0) : dfN (a &&& f) (b &&& f) = 0 := by
  apply Nat.eq_of_testBit_eq; intro i
  have hbf : b &&& f < 256 := Nat.lt_of_le_of_lt Nat.and_le_left hb
  have h2 := congrArg (fun x => x.testBit i) h
  simp only [dfN_bit hb, Nat.zero_testBit] at h2
  rw [dfN_bit hbf, Nat.zero_testBit, Nat.testBit_and, Nat.testBit_and]
  revert h2
  cases a.testBit i <;> cases b.testBit i <;> cases f.testBit i <;> simp_all
theorem ag_sub {a b f : Nat} (ha : a < 256) (hb : b < 256) (h : agN a b = true) : agN (a &&& f) (b &&& f) = true := by
  unfold agN at h ⊢
  simp only [Bool.or_eq_true, decide_eq_true_eq] at h ⊢
  rcases h with (h | h) | h
  · left; left
    apply Nat.eq_of_testBit_eq; intro i
    have h2 := congrArg (fun x => x.testBit i) h
    simp only [Nat.testBit_and, Nat.zero_testBit] at h2 ⊢
    revert h2
    cases a.testBit i <;> cases b.testBit i <;> cases f.testBit i <;> simp_all
  · left; right; exact and_df ha hb h
  · right; exact and_df hb ha h
def agOk (four p q : Nat) : Bool := decide (q &&& four ≠ q) || (decide ((memb q).length ≠ 2) || (!agN p q || decide (pI four p = pI four q)))
theorem agOk_all : ((List.range 128).all fun four => decide ((memb four).length ≠ 4) || (List.range 128).all fun p => decide (p &&& four ≠ p) || (decide ((memb p).length ≠ 2) || (List.range 128).all fun q => agOk four p q)) = true := by kernel_rfl
theorem ag_same {four p q : Nat} (hf : four < 128) (h4 : (memb four).length = 4) (hp : p &&& four = p) (hq : q &&& four = q) (hp2 : (memb p).length = 2) (hq2 : (memb q).length = 2) (h : agN p q = true) : pI four p = pI four q := by
  have hpl : p < 128 := by rw [← hp]; exact Nat.lt_of_le_of_lt Nat.and_le_right hf
  have hql : q < 128 := by rw [← hq]; exact Nat.lt_of_le_of_lt Nat.and_le_right hf
  have h1 := List.all_eq_true.1 agOk_all four (List.mem_range.2 hf)
  rw [decide_eq_false (by simp [h4]), Bool.false_or] at h1
  have h1 := List.all_eq_true.1 h1 p (List.mem_range.2 hpl)
  rw [decide_eq_false (by simp [hp]), decide_eq_false (by simp [hp2]), Bool.false_or, Bool.false_or] at h1
  have h1 := List.all_eq_true.1 h1 q (List.mem_range.2 hql)
  unfold agOk at h1
  rw [decide_eq_false (by simp [hq]), decide_eq_false (by simp [hq2]), h, Bool.false_or, Bool.false_or, Bool.not_true, Bool.false_or] at h1
  exact of_decide_eq_true h1
def fourN (x y z : Nat) : Nat := 1 ||| 2 ^ x ||| 2 ^ y ||| 2 ^ z
def xyzOk (x y z : Nat) : Bool := decide (x = y) || (decide (x = z) || (decide (y = z) || (decide ((memb (fourN x y z)).length = 4) && (decide ((memb (2 ^ x ||| 2 ^ y)).length = 2) && (decide ((memb (2 ^ x ||| 2 ^ z)).length = 2) && (decide (0 ≤ pI (fourN x y z) (2 ^ x ||| 2 ^ y)) && (decide (0 ≤ pI (fourN x y z) (2 ^ x ||| 2 ^ z)) && decide (pI (fourN x y z) (2 ^ x ||| 2 ^ y) ≠ pI (fourN x y z) (2 ^ x ||| 2 ^ z)))))))))
theorem xyz_all : ((List.range 7).all fun x => decide (x = 0) || (List.range 7).all fun y => decide (y = 0) || (List.range 7).all fun z => decide (z = 0) || xyzOk x y z) = true := by kernel_rfl
theorem one_bit (i : Nat) : (1 : Nat).testBit i = decide (i = 0) := by
  have := Nat.testBit_two_pow (n := 0) (m := i)
  simp only [Nat.pow_zero] at this
  rw [this]; simp only [eq_comm]
theorem some_four {n s t : Nat} (hn : n ≤ 7) (hs : s < 2 ^ n) (ht : t < 2 ^ n) (hs0 : s.testBit 0 = false) (ht0 : t.testBit 0 = false) (h : agN s t = false) :
    ∃ four, four < 2 ^ n ∧ (memb four).length = 4 ∧ ∃ k k', qN four s = some k ∧ qN four t = some k' ∧ k ≠ k' := by
  have h2n : 2 ^ n ≤ 128 := Nat.le_trans (Nat.pow_le_pow_right (n := 2) (by decide) hn) (by decide)
  unfold agN at h
  simp only [Bool.or_eq_false_iff, decide_eq_false_iff_not] at h
  obtain ⟨⟨h1, h2⟩, h3⟩ := h
  have ex : ∀ v : Nat, v ≠ 0 → ∃ i, v.testBit i = true := fun v hv => by
    obtain ⟨i, hi⟩ := Nat.exists_testBit_of_ne_zero hv
    exact ⟨i, hi⟩
  obtain ⟨x, hx⟩ := ex _ h1
  obtain ⟨y, hy⟩ := ex _ h2
  obtain ⟨z, hz⟩ := ex _ h3
  rw [Nat.testBit_and] at hx
  rw [dfN_bit (by omega)] at hy hz
  simp only [Bool.and_eq_true, Bool.not_eq_true', decide_eq_true_eq] at hx hy hz
  have lt : ∀ {v i}, v < 2 ^ n → v.testBit i = true → i < n := by
    intro v i hv hi
    apply Nat.lt_of_not_le; intro h9
    rw [tb_lt hv i h9] at hi; cases hi
  have hxn := lt hs hx.1
  have hyn := lt hs hy.1
  have hzn := lt ht hz.1
  have nz : ∀ {v i : Nat}, v.testBit 0 = false → v.testBit i = true → i ≠ 0 := by
    intro v i h0 hi e; subst e; rw [h0] at hi; cases hi
  have hx0 := nz hs0 hx.1
  have hy0 := nz hs0 hy.1
  have hz0 := nz ht0 hz.1
  have hxy : x ≠ y := fun e => by subst e; rw [hx.2] at hy; simp at hy
  have hxz : x ≠ z := fun e => by subst e; rw [hx.1] at hz; simp at hz
  have hyz : y ≠ z := fun e => by subst e; rw [hy.1] at hz; simp at hz
  have ha := List.all_eq_true.1 xyz_all x (List.mem_range.2 (by omega))
  rw [decide_eq_false hx0, Bool.false_or] at ha
  have ha := List.all_eq_true.1 ha y (List.mem_range.2 (by omega))
  rw [decide_eq_false hy0, Bool.false_or] at ha
  have ha := List.all_eq_true.1 ha z (List.mem_range.2 (by omega))
  rw [decide_eq_false hz0, Bool.false_or] at ha
  unfold xyzOk at ha
  rw [decide_eq_false hxy, decide_eq_false hxz, decide_eq_false hyz, Bool.false_or, Bool.false_or, Bool.false_or] at ha
  simp only [Bool.and_eq_true, decide_eq_true_eq] at ha
  obtain ⟨a1, a2, a3, a4, a5, a6⟩ := ha
  have pw : ∀ i, i < n → 2 ^ i < 2 ^ n := fun i hi => Nat.pow_lt_pow_right (by omega) hi
  have fb : ∀ i, (fourN x y z).testBit i = (decide (i = 0) || decide (x = i) || decide (y = i) || decide (z = i)) := fun i => by
    unfold fourN
    rw [Nat.testBit_or, Nat.testBit_or, Nat.testBit_or, one_bit, Nat.testBit_two_pow, Nat.testBit_two_pow, Nat.testBit_two_pow]
  have es : s &&& fourN x y z = 2 ^ x ||| 2 ^ y := by
    apply Nat.eq_of_testBit_eq; intro i
    rw [Nat.testBit_and, fb, Nat.testBit_or, Nat.testBit_two_pow, Nat.testBit_two_pow]
    by_cases e0 : i = 0
    · subst e0; simp [hs0, hx0, hy0]
    · by_cases e1 : x = i
      · subst e1; simp [hx.1]
      · by_cases e2 : y = i
        · subst e2; simp [hy.1]
        · by_cases e3 : z = i
          · subst e3; simp [hz.2.2, e1, e2]
          · simp [e0, e1, e2, e3]
  have et : t &&& fourN x y z = 2 ^ x ||| 2 ^ z := by
    apply Nat.eq_of_testBit_eq; intro i
    rw [Nat.testBit_and, fb, Nat.testBit_or, Nat.testBit_two_pow, Nat.testBit_two_pow]
    by_cases e0 : i = 0
    · subst e0; simp [ht0, hx0, hz0]
    · by_cases e1 : x = i
      · subst e1; simp [hx.2]
      · by_cases e2 : z = i
        · subst e2; simp [hz.1]
        · by_cases e3 : y = i
          · subst e3; simp [hy.2.2, e1, e2]
          · simp [e0, e1, e2, e3]
  refine ⟨fourN x y z, ?_, a1, (pI (fourN x y z) (2 ^ x ||| 2 ^ y)).toNat, (pI (fourN x y z) (2 ^ x ||| 2 ^ z)).toNat, ?_, ?_, ?_⟩
  · unfold fourN
    have h0 : 1 < 2 ^ n := Nat.one_lt_two_pow (by omega)
    exact Nat.or_lt_two_pow (Nat.or_lt_two_pow (Nat.or_lt_two_pow h0 (pw x hxn)) (pw y hyn)) (pw z hzn)
  · unfold qN; rw [es, if_pos a2]
  · unfold qN; rw [et, if_pos a3]
  · omega
theorem four_some {four s t k k' : Nat} (hf : four < 128) (h4 : (memb four).length = 4) (hs : s < 256) (ht : t < 256) (hk : qN four s = some k) (hk' : qN four t = some k') (hne : k ≠ k') : agN s t = false := by
  cases h : agN s t
  · rfl
  · exfalso
    apply hne
    unfold qN at hk hk'
    split at hk
    · next h1 =>
      split at hk'
      · next h2 =>
        have hsub : ∀ v : Nat, (v &&& four) &&& four = v &&& four := fun v => by rw [Nat.and_assoc, Nat.and_self]
        have := ag_same hf h4 (hsub s) (hsub t) h1 h2 (ag_sub hs ht h)
        simp only [Option.some.injEq] at hk hk'
        rw [← hk, ← hk', this]
      · cases hk'
    · cases hk
/-- Fours are parted in two ways just if two divisions do not agree. -/
theorem lost_iff {n : Nat} (hn : n ≤ 7) {ss : List Nat} (hS : Sides n ss) : (∃ four, four < 2 ^ n ∧ (memb four).length = 4 ∧ runF four ss 0 = none) ↔ clP ss 0 ≠ none := by
  have h2n : 2 ^ n ≤ 128 := Nat.le_trans (Nat.pow_le_pow_right (n := 2) (by decide) hn) (by decide)
  rw [Ne, clP_none]
  have hall : ss.Pairwise (fun a b => agN a b = true) ↔ ∀ s ∈ ss, ∀ t ∈ ss, agN s t = true := by
    constructor
    · intro h s hs t ht
      obtain ⟨p, hp, rfl⟩ := List.getElem_of_mem hs
      obtain ⟨q, hq, rfl⟩ := List.getElem_of_mem ht
      rw [List.pairwise_iff_getElem] at h
      by_cases e : p = q
      · subst e; exact agN_self (by have := hS.lt _ hs; omega)
      · by_cases e2 : p < q
        · exact h p q hp hq e2
        · rw [agN_comm]; exact h q p hq hp (by omega)
    · intro h
      exact List.pairwise_of_forall_mem_list h
  rw [hall]
  constructor
  · rintro ⟨four, hf, h4, hr⟩ h
    refine run_found ss 0 (fun s hs t ht k k' hk hk' => ?_) (.inl rfl) hr
    apply Classical.byContradiction; intro hne
    have := four_some (by omega) h4 (by have := hS.lt s hs; omega) (by have := hS.lt t ht; omega) hk hk' hne
    rw [h s hs t ht] at this; cases this
  · intro h
    have : ∃ s ∈ ss, ∃ t ∈ ss, agN s t = false := by
      apply Classical.byContradiction; intro hno
      apply h
      intro s hs t ht
      cases hh : agN s t
      · exact absurd ⟨s, hs, t, ht, hh⟩ hno
      · rfl
    obtain ⟨s, hs, t, ht, hst⟩ := this
    obtain ⟨four, hf, h4, k, k', hk, hk', hne⟩ := some_four hn (hS.lt s hs) (hS.lt t ht) (hS.even s hs) (hS.even t ht) hst
    exact ⟨four, hf, h4, run_lostB (by omega) h4 ss ⟨s, hs, t, ht, k, k', hk, hk', hne⟩⟩

attribute [local go_sem] okRef_o storable_o shaped_o cells_o fin_o pub_o shaped_t cells_t isAgg_t storable_t okRef_t pub_t

theorem okRefsBo (n : Nat) (xs : List Bool) : okRefs n (xs.map fun b => B b) = true := okRefs_map (fun b => B b) n (fun _ => rfl) xs
theorem renCellsBo (n : Nat) (tips : List Nat) (acc : List (Nat × Nat)) (xs : List Bool) : renCells n tips acc (xs.map fun b => B b) = (xs.map fun b => B b, acc) := renCells_map (fun b => B b) n tips (fun _ _ => rfl) xs acc
theorem setBo (xs : List Bool) (k : Nat) (b : Bool) : (xs.map fun b => B b).set k (AV.v (.bool b)) = (xs.set k b).map fun b => B b := by rw [List.map_set]
theorem shrUn (m i : Nat) (h : i < 64) : binAV .shr none (U m) (.v (.int .i64 (i : Int))) = some (U (m >>> i)) := by rw [shr_u, min64 i h]
theorem bit_zero (m p : Nat) : ((((m >>> p) % 2 : Nat) : Int) = 0) = (m.testBit p = false) := by
  rw [Nat.testBit_eq_decide_div_mod_eq, Nat.shiftRight_eq_div_pow]
  generalize m / 2 ^ p = k
  have : k % 2 < 2 := Nat.mod_lt _ (by omega)
  rw [decide_eq_false_iff_not]
  exact propext (by omega)
theorem metF_len (four : Nat) : ∀ (l : List Nat) (M : List Bool), (metF four l M).length = M.length
  | [], _ => rfl
  | s :: r, M => by
    simp only [metF]
    split
    · exact metF_len four r M
    · rw [metF_len four r]; simp

set_option maxHeartbeats 2000000 in
theorem loop10_0 (n : Nat) (nl : Bool) (ss : List Nat) (hss : ∀ s ∈ ss, s < 256) (hk : ss.length ≤ 13) (LL : List Nat) (lost : Bool) (N four : Nat) (hf : four < 256) (h4 : (memb four).length = 4) (C : List AV) (hC1 : ∀ n, okRefs n C = true) (hC2 : ∀ n T acc, renCells n T acc C = (C, acc)) (i : Nat) (M : List Bool) (hok : i ≤ ss.length ∧ M.length = 4) (env : Env) (st : St)
    (hg : gcAV true 2 0 (canon env [3, 4, 5, 6, 7, 8, 9, 35, 36, 44, 45, 46]) st = ([(3, J n), (4, sl 1 nl (ss.map U)), (5, sl 1 true (LL.map tM)), (6, B lost), (7, U four), (8, tM four), (9, .ptr 1 0), (35, U N), (36, U four), (44, sl 1 nl (ss.map U)), (45, J ss.length), (46, J i)], ⟨[C, M.map fun b => B b], []⟩)) :
    ∃ x_1 en s, lim (headed pure (run L) true [3, 4, 5, 6, 7, 8, 9, 35, 36, 44, 45, 46] lp10_0 2 0) env st = some (x_1, en, s) ∧ (x_1 = .exit 2 ∧ en.get 3 = J n ∧ en.get 4 = sl 1 nl (ss.map U) ∧ en.get 5 = sl 1 true (LL.map tM) ∧ en.get 6 = B lost ∧ en.get 8 = tM four ∧ en.get 9 = .ptr 1 0 ∧ en.get 35 = U N ∧ en.get 36 = U four ∧ s = ⟨[C, (metF four (ss.drop i) M).map fun b => B b], []⟩) := by
  refine loop_wp (α := Nat × List Bool) (fun ⟨i, M⟩ => ss.length - i) (fun ⟨i, M⟩ => i ≤ ss.length ∧ M.length = 4) (fun ⟨i, M⟩ => ([(3, J n), (4, sl 1 nl (ss.map U)), (5, sl 1 true (LL.map tM)), (6, B lost), (7, U four), (8, tM four), (9, .ptr 1 0), (35, U N), (36, U four), (44, sl 1 nl (ss.map U)), (45, J ss.length), (46, J i)], ⟨[C, M.map fun b => B b], []⟩)) (fun ⟨i, M⟩ x_1 en s => x_1 = .exit 2 ∧ en.get 3 = J n ∧ en.get 4 = sl 1 nl (ss.map U) ∧ en.get 5 = sl 1 true (LL.map tM) ∧ en.get 6 = B lost ∧ en.get 8 = tM four ∧ en.get 9 = .ptr 1 0 ∧ en.get 35 = U N ∧ en.get 36 = U four ∧ s = ⟨[C, (metF four (ss.drop i) M).map fun b => B b], []⟩) (fun ⟨i, M⟩ hok => ?_) ⟨i, M⟩ hok env st hg
  simp only at hok
  obtain ⟨h1, h2⟩ := hok
  dsimp only at h1 h2 ⊢
  by_cases h : i < ss.length
  · have hs := succ64 i (by omega)
    have hlt : ((i : Int) < (ss.length : Int)) = True := eq_true (by omega)
    have hx := idx_sl U nl ss i h
    have hd : ss.drop i = ss[i] :: ss.drop (i + 1) := List.drop_eq_getElem_cons h
    have hb := hss ss[i] (List.getElem_mem h)
    rw [hd]
    generalize ss[i] = v at *
    have hp : v &&& four < 256 := Nat.lt_of_le_of_lt Nat.and_le_right hf
    have hsub : (v &&& four) &&& four = v &&& four := by rw [Nat.and_assoc, Nat.and_self]
    have ha := and_d v four (by omega) (by omega)
    have hdf := dfU four (v &&& four) hf hp
    have hru : metF four (v :: ss.drop (i + 1)) M = match qN four v with | none => metF four (ss.drop (i + 1)) M | some k => metF four (ss.drop (i + 1)) (M.set k true) := rfl
    have hqn : qN four v = if (memb (v &&& four)).length = 2 then some (pI four (v &&& four)).toNat else none := rfl
    have hpk := fun hl => pOk_at hf h4 hp hsub hl
    rw [hru]
    generalize v &&& four = p at *
    have h58 := fun st => c58 p hp st
    by_cases q2 : (memb p).length = 2
    · have e2 : (((memb p).length : Int) = 2) = True := eq_true (by omega)
      obtain ⟨k1, k2, k3⟩ := hpk q2
      rw [if_pos q2] at hqn
      rw [hqn]
      have hf0 : indexSAV 1 (tM four) (.v (.int .i64 0)) = some (.eptr (I ((memb four).getD 0 0)) 0) := by
        have := index_ints true (memb four) 0 (by omega)
        rw [show (memb four).getD 0 0 = (memb four)[0]'(by omega) by rw [List.getD_eq_getElem?_getD, List.getElem?_eq_getElem (by omega)]; rfl]
        exact this
      have hf0r := memb_lt hf ((memb four).getD 0 0) (by rw [List.getD_eq_getElem?_getD, List.getElem?_eq_getElem (by omega)]; exact List.getElem_mem _)
      have hpp : pP four p = if p.testBit ((memb four).getD 0 0).toNat = true then p else dfN four p := rfl
      have hpi : pI four p = indexOf ((memb (pP four p)).getD 1 0) (memb four) 0 := rfl
      obtain ⟨f0, hf0e⟩ := Int.eq_ofNat_of_zero_le hf0r.1
      rw [hf0e] at hf0 hpp hf0r
      rw [Int.toNat_natCast] at hpp
      have hsh := shrUn p f0 (by omega)
      have hppl : pP four p < 256 := by rw [hpp]; split; exact hp; exact dfN_lt hf
      have h40 := fun st => c40 (pP four p) (by omega) st
      have hi1 : indexSAV 1 (tAV (memb (pP four p))) (.v (.int .i64 1)) = some (.eptr (I ((memb (pP four p)).getD 1 0)) 0) := by
        have := index_ints true (memb (pP four p)) 1 (by omega)
        rw [show (memb (pP four p)).getD 1 0 = (memb (pP four p))[1]'(by omega) by rw [List.getD_eq_getElem?_getD, List.getElem?_eq_getElem (by omega)]; rfl]
        exact this
      have h59 : ∀ st, run L 59 [tAV (memb four), I ((memb (pP four p)).getD 1 0)] st = some (I (pI four p), st) := fun st => c59 true (memb four) (by omega) _ st
      obtain ⟨k, hke⟩ := Int.eq_ofNat_of_zero_le (show 0 ≤ pI four p by omega)
      rw [hke] at h59 k2 k3
      rw [hke, Int.toNat_natCast]
      dsimp only
      generalize pP four p = pp at *
      have hkl : ((k : Int) < 4) = True := eq_true (by omega)
      have hkl2 : (k + 1 ≤ 4) = True := eq_true (by omega)
      have hst := setBo M k true
      have hMl : (M.map fun b => B b).length = 4 := by rw [List.length_map]; exact h2
      have h01 := and_one (p >>> f0)
      cases hc : p.testBit f0 with
      | true =>
        rw [hc] at hpp
        rw [if_pos rfl] at hpp
        subst hpp
        simp only [go_sem, reduceIte, Nat.reduceEqDiff, Nat.reduceAdd, Nat.reduceSub, Nat.reduceLeDiff, Nat.reduceLT, reduceCtorEq, Int.reduceLT, Int.reduceLE, Int.reduceEq, Int.reduceBEq, Int.reduceSub, Int.reduceAdd, Int.reduceMul, Int.reduceNeg, Int.reduceToNat, Nat.reduceMul, Nat.reduceBEq, index_rsl_if, setm, make_ints, condK_dec, wantK_dec, not_dec, and_dec, or_dec, seqK_ite, seqK_none, blockK_ite, blockK_none, opsK_ite, opsK_none, stepK_ite, stepK_none, bodyK_ite, bodyK_none, resK_ite, resK_none, leaveK_ite, leaveK_none, only_ite, only_none, bind_ite, gives_some, gives_none, gives_ite, then_normal, then_ret, then_exit, then_none, then_ite, Option.bind_none, Bool.not_eq_true', decide_eq_false_iff_not, Bool.and_eq_true, Bool.or_eq_true, Option.some.injEq, Int.not_lt, Int.not_le, lp10_0, hlt, hs, hx, ha, h58, e2, hf0, hsh, h01, bit_zero, hc, h40, hi1, h59, hkl, hkl2, hst, h2, Int.natCast_nonneg, List.length_map]
        refine ⟨(i + 1, M.set k true), by simp only [go_sem, reduceIte, Nat.reduceEqDiff, Nat.reduceAdd, Nat.reduceSub, Nat.reduceLeDiff, Nat.reduceLT, reduceCtorEq, Int.reduceLT, Int.reduceLE, Int.reduceEq, Int.reduceBEq, Int.reduceSub, Int.reduceAdd, Int.reduceMul, Int.reduceNeg, Int.reduceToNat, Nat.reduceMul, Nat.reduceBEq, ren1_locm, loc_tips, locT_eq, ren1_t, hC1, hC2, okRefsBo, renCellsBo] <;> rfl, ?_, ?_, fun x en s hq => ?_⟩
        · dsimp only; exact ⟨by omega, by rw [List.length_set]; exact h2⟩
        · dsimp only; omega
        · exact hq
      | false =>
        rw [hc] at hpp
        rw [if_neg (by simp)] at hpp
        rw [← hpp] at hdf
        simp only [go_sem, reduceIte, Nat.reduceEqDiff, Nat.reduceAdd, Nat.reduceSub, Nat.reduceLeDiff, Nat.reduceLT, reduceCtorEq, Int.reduceLT, Int.reduceLE, Int.reduceEq, Int.reduceBEq, Int.reduceSub, Int.reduceAdd, Int.reduceMul, Int.reduceNeg, Int.reduceToNat, Nat.reduceMul, Nat.reduceBEq, index_rsl_if, setm, make_ints, condK_dec, wantK_dec, not_dec, and_dec, or_dec, seqK_ite, seqK_none, blockK_ite, blockK_none, opsK_ite, opsK_none, stepK_ite, stepK_none, bodyK_ite, bodyK_none, resK_ite, resK_none, leaveK_ite, leaveK_none, only_ite, only_none, bind_ite, gives_some, gives_none, gives_ite, then_normal, then_ret, then_exit, then_none, then_ite, Option.bind_none, Bool.not_eq_true', decide_eq_false_iff_not, Bool.and_eq_true, Bool.or_eq_true, Option.some.injEq, Int.not_lt, Int.not_le, lp10_0, hlt, hs, hx, ha, h58, e2, hf0, hsh, h01, bit_zero, hc, hdf, h40, hi1, h59, hkl, hkl2, hst, h2, Int.natCast_nonneg, List.length_map]
        refine ⟨(i + 1, M.set k true), by simp only [go_sem, reduceIte, Nat.reduceEqDiff, Nat.reduceAdd, Nat.reduceSub, Nat.reduceLeDiff, Nat.reduceLT, reduceCtorEq, Int.reduceLT, Int.reduceLE, Int.reduceEq, Int.reduceBEq, Int.reduceSub, Int.reduceAdd, Int.reduceMul, Int.reduceNeg, Int.reduceToNat, Nat.reduceMul, Nat.reduceBEq, ren1_locm, loc_tips, locT_eq, ren1_t, hC1, hC2, okRefsBo, renCellsBo] <;> rfl, ?_, ?_, fun x en s hq => ?_⟩
        · dsimp only; exact ⟨by omega, by rw [List.length_set]; exact h2⟩
        · dsimp only; omega
        · exact hq
    · have e2 : (((memb p).length : Int) = 2) = False := eq_false (by omega)
      rw [if_neg q2] at hqn
      rw [hqn]
      simp only [go_sem, reduceIte, Nat.reduceEqDiff, Nat.reduceAdd, Nat.reduceSub, Nat.reduceLeDiff, Nat.reduceLT, reduceCtorEq, Int.reduceLT, Int.reduceLE, Int.reduceEq, Int.reduceBEq, Int.reduceSub, Int.reduceAdd, Int.reduceMul, Int.reduceNeg, Int.reduceToNat, Nat.reduceMul, Nat.reduceBEq, index_rsl_if, setm, make_ints, condK_dec, wantK_dec, not_dec, and_dec, or_dec, seqK_ite, seqK_none, blockK_ite, blockK_none, opsK_ite, opsK_none, stepK_ite, stepK_none, bodyK_ite, bodyK_none, resK_ite, resK_none, leaveK_ite, leaveK_none, only_ite, only_none, bind_ite, gives_some, gives_none, gives_ite, then_normal, then_ret, then_exit, then_none, then_ite, Option.bind_none, Bool.not_eq_true', decide_eq_false_iff_not, Bool.and_eq_true, Bool.or_eq_true, Option.some.injEq, Int.not_lt, Int.not_le, lp10_0, hlt, hs, hx, ha, h58, e2]
      refine ⟨(i + 1, M), by simp only [go_sem, reduceIte, Nat.reduceEqDiff, Nat.reduceAdd, Nat.reduceSub, Nat.reduceLeDiff, Nat.reduceLT, reduceCtorEq, Int.reduceLT, Int.reduceLE, Int.reduceEq, Int.reduceBEq, Int.reduceSub, Int.reduceAdd, Int.reduceMul, Int.reduceNeg, Int.reduceToNat, Nat.reduceMul, Nat.reduceBEq, ren1_locm, loc_tips, locT_eq, ren1_t, hC1, hC2, okRefsBo, renCellsBo] <;> rfl, ?_, ?_, fun x en s hq => ?_⟩
      · dsimp only; exact ⟨by omega, h2⟩
      · dsimp only; omega
      · exact hq
  · have hd : ss.drop i = [] := List.drop_eq_nil_of_le (by omega)
    have hlt : ((i : Int) < (ss.length : Int)) = False := eq_false (by omega)
    rw [hd]
    simp only [go_sem, reduceIte, Nat.reduceEqDiff, Nat.reduceAdd, Nat.reduceSub, Nat.reduceLeDiff, Nat.reduceLT, reduceCtorEq, Int.reduceLT, Int.reduceLE, Int.reduceEq, Int.reduceBEq, Int.reduceSub, Int.reduceAdd, Int.reduceMul, Int.reduceNeg, Int.reduceToNat, Nat.reduceMul, Nat.reduceBEq, index_rsl_if, setm, make_ints, condK_dec, wantK_dec, not_dec, and_dec, or_dec, seqK_ite, seqK_none, blockK_ite, blockK_none, opsK_ite, opsK_none, stepK_ite, stepK_none, bodyK_ite, bodyK_none, resK_ite, resK_none, leaveK_ite, leaveK_none, only_ite, only_none, bind_ite, gives_some, gives_none, gives_ite, then_normal, then_ret, then_exit, then_none, then_ite, Option.bind_none, Bool.not_eq_true', decide_eq_false_iff_not, Bool.and_eq_true, Bool.or_eq_true, Option.some.injEq, Int.not_lt, Int.not_le, lp10_0, hlt]
    rfl

theorem untipsBo (xs : List Bool) : untips (xs.map fun b => B b) = xs.map fun b => B b := by
  induction xs with
  | nil => rfl
  | cons x r ih => simp only [List.map_cons, untips, untip, ih]
theorem loop10_1 (n : Nat) (nl : Bool) (ss LL : List Nat) (lost : Bool) (N four : Nat) (M : List Bool) (hM : M.length = 4) (C : List AV) (hC1 : ∀ n, okRefs n C = true) (hC2 : ∀ n T acc, renCells n T acc C = (C, acc)) (i : Nat) (w : Nat) (m : Nat) (hok : i ≤ 4 ∧ m ≤ i) (env : Env) (st : St)
    (hg : gcAV true 2 0 (canon env [3, 4, 5, 6, 8, 13, 14, 35, 36, 74, 75]) st = ([(3, J n), (4, sl 1 nl (ss.map U)), (5, sl 1 true (LL.map tM)), (6, B lost), (8, tM four), (13, J w), (14, J m), (35, U N), (36, U four), (74, .agg (M.map fun b => B b)), (75, J i)], ⟨[C, M.map fun b => B b], []⟩)) :
    ∃ x_1 en s, lim (headed pure (run L) true [3, 4, 5, 6, 8, 13, 14, 35, 36, 74, 75] lp10_1 2 0) env st = some (x_1, en, s) ∧ (x_1 = .exit 4 ∧ en.get 3 = J n ∧ en.get 4 = sl 1 nl (ss.map U) ∧ en.get 5 = sl 1 true (LL.map tM) ∧ en.get 6 = B lost ∧ en.get 8 = tM four ∧ en.get 13 = J (wm (M.drop i) i (w, m)).1 ∧ en.get 14 = J (wm (M.drop i) i (w, m)).2 ∧ en.get 35 = U N ∧ en.get 36 = U four ∧ s = ⟨[C, M.map fun b => B b], []⟩) := by
  refine loop_wp (α := Nat × Nat × Nat) (fun ⟨i, w, m⟩ => 4 - i) (fun ⟨i, w, m⟩ => i ≤ 4 ∧ m ≤ i) (fun ⟨i, w, m⟩ => ([(3, J n), (4, sl 1 nl (ss.map U)), (5, sl 1 true (LL.map tM)), (6, B lost), (8, tM four), (13, J w), (14, J m), (35, U N), (36, U four), (74, .agg (M.map fun b => B b)), (75, J i)], ⟨[C, M.map fun b => B b], []⟩)) (fun ⟨i, w, m⟩ x_1 en s => x_1 = .exit 4 ∧ en.get 3 = J n ∧ en.get 4 = sl 1 nl (ss.map U) ∧ en.get 5 = sl 1 true (LL.map tM) ∧ en.get 6 = B lost ∧ en.get 8 = tM four ∧ en.get 13 = J (wm (M.drop i) i (w, m)).1 ∧ en.get 14 = J (wm (M.drop i) i (w, m)).2 ∧ en.get 35 = U N ∧ en.get 36 = U four ∧ s = ⟨[C, M.map fun b => B b], []⟩) (fun ⟨i, w, m⟩ hok => ?_) ⟨i, w, m⟩ hok env st hg
  simp only at hok
  obtain ⟨h1, h2⟩ := hok
  dsimp only at h1 h2 ⊢
  by_cases h : i < 4
  · have hs := succ64 i (by omega)
    have hsm := succ64 m (by omega)
    have hlt : ((i : Int) < 4) = True := eq_true (by omega)
    have hg : (M.map fun b => B b)[i]? = some (B (M[i]'(by omega))) := by rw [List.getElem?_map, List.getElem?_eq_getElem (by omega)]; rfl
    have hd : M.drop i = M[i]'(by omega) :: M.drop (i + 1) := List.drop_eq_getElem_cons (by omega)
    have hil : (i + 1 ≤ 4) = True := eq_true (by omega)
    rw [hd]
    have hw : ∀ b, wm (b :: M.drop (i + 1)) i (w, m) = wm (M.drop (i + 1)) (i + 1) (if b = true then (i, m + 1) else (w, m)) := fun b => rfl
    rw [hw]
    generalize M[i]'(by omega) = b at *
    cases b with
    | true =>
      rw [if_pos rfl]
      simp only [go_sem, reduceIte, Nat.reduceEqDiff, Nat.reduceAdd, Nat.reduceSub, Nat.reduceLeDiff, Nat.reduceLT, reduceCtorEq, Int.reduceLT, Int.reduceLE, Int.reduceEq, Int.reduceBEq, Int.reduceSub, Int.reduceAdd, Int.reduceMul, Int.reduceNeg, Int.reduceToNat, Nat.reduceMul, Nat.reduceBEq, index_rsl_if, setm, make_ints, condK_dec, wantK_dec, not_dec, and_dec, or_dec, seqK_ite, seqK_none, blockK_ite, blockK_none, opsK_ite, opsK_none, stepK_ite, stepK_none, bodyK_ite, bodyK_none, resK_ite, resK_none, leaveK_ite, leaveK_none, only_ite, only_none, bind_ite, gives_some, gives_none, gives_ite, then_normal, then_ret, then_exit, then_none, then_ite, Option.bind_none, Bool.not_eq_true', decide_eq_false_iff_not, Bool.and_eq_true, Bool.or_eq_true, Option.some.injEq, Int.not_lt, Int.not_le, lp10_1, hlt, hs, hg, hil, hsm, hM, Int.natCast_nonneg, List.length_map]
      refine ⟨(i + 1, i, m + 1), by simp only [go_sem, reduceIte, Nat.reduceEqDiff, Nat.reduceAdd, Nat.reduceSub, Nat.reduceLeDiff, Nat.reduceLT, reduceCtorEq, Int.reduceLT, Int.reduceLE, Int.reduceEq, Int.reduceBEq, Int.reduceSub, Int.reduceAdd, Int.reduceMul, Int.reduceNeg, Int.reduceToNat, Nat.reduceMul, Nat.reduceBEq, ren1_locm, loc_tips, locT_eq, ren1_t, hC1, hC2, okRefsBo, renCellsBo, untipsBo] <;> rfl, ?_, ?_, fun x en s hq => ?_⟩
      · dsimp only; omega
      · dsimp only; omega
      · exact hq
    | false =>
      rw [if_neg (by simp)]
      simp only [go_sem, reduceIte, Nat.reduceEqDiff, Nat.reduceAdd, Nat.reduceSub, Nat.reduceLeDiff, Nat.reduceLT, reduceCtorEq, Int.reduceLT, Int.reduceLE, Int.reduceEq, Int.reduceBEq, Int.reduceSub, Int.reduceAdd, Int.reduceMul, Int.reduceNeg, Int.reduceToNat, Nat.reduceMul, Nat.reduceBEq, index_rsl_if, setm, make_ints, condK_dec, wantK_dec, not_dec, and_dec, or_dec, seqK_ite, seqK_none, blockK_ite, blockK_none, opsK_ite, opsK_none, stepK_ite, stepK_none, bodyK_ite, bodyK_none, resK_ite, resK_none, leaveK_ite, leaveK_none, only_ite, only_none, bind_ite, gives_some, gives_none, gives_ite, then_normal, then_ret, then_exit, then_none, then_ite, Option.bind_none, Bool.not_eq_true', decide_eq_false_iff_not, Bool.and_eq_true, Bool.or_eq_true, Option.some.injEq, Int.not_lt, Int.not_le, lp10_1, hlt, hs, hg, hil, hM, Int.natCast_nonneg, List.length_map]
      refine ⟨(i + 1, w, m), by simp only [go_sem, reduceIte, Nat.reduceEqDiff, Nat.reduceAdd, Nat.reduceSub, Nat.reduceLeDiff, Nat.reduceLT, reduceCtorEq, Int.reduceLT, Int.reduceLE, Int.reduceEq, Int.reduceBEq, Int.reduceSub, Int.reduceAdd, Int.reduceMul, Int.reduceNeg, Int.reduceToNat, Nat.reduceMul, Nat.reduceBEq, ren1_locm, loc_tips, locT_eq, ren1_t, hC1, hC2, okRefsBo, renCellsBo, untipsBo] <;> rfl, ?_, ?_, fun x en s hq => ?_⟩
      · dsimp only; omega
      · dsimp only; omega
      · exact hq
  · have hd : M.drop i = [] := List.drop_eq_nil_of_le (by omega)
    have hlt : ((i : Int) < 4) = False := eq_false (by omega)
    rw [hd]
    simp only [go_sem, reduceIte, Nat.reduceEqDiff, Nat.reduceAdd, Nat.reduceSub, Nat.reduceLeDiff, Nat.reduceLT, reduceCtorEq, Int.reduceLT, Int.reduceLE, Int.reduceEq, Int.reduceBEq, Int.reduceSub, Int.reduceAdd, Int.reduceMul, Int.reduceNeg, Int.reduceToNat, Nat.reduceMul, Nat.reduceBEq, index_rsl_if, setm, make_ints, condK_dec, wantK_dec, not_dec, and_dec, or_dec, seqK_ite, seqK_none, blockK_ite, blockK_none, opsK_ite, opsK_none, stepK_ite, stepK_none, bodyK_ite, bodyK_none, resK_ite, resK_none, leaveK_ite, leaveK_none, only_ite, only_none, bind_ite, gives_some, gives_none, gives_ite, then_normal, then_ret, then_exit, then_none, then_ite, Option.bind_none, Bool.not_eq_true', decide_eq_false_iff_not, Bool.and_eq_true, Bool.or_eq_true, Option.some.injEq, Int.not_lt, Int.not_le, lp10_1, hlt]
    trivial

attribute [local go_sem] okRef_o storable_o shaped_o cells_o fin_o pub_o shaped_t cells_t isAgg_t storable_t okRef_t pub_t

def lostB (ss : List Nat) (f : Nat) : Bool := decide ((memb f).length = 4) && (runF f ss 0).isNone
set_option maxHeartbeats 2000000 in
theorem loop10_2 (n : Nat) (hn : n ≤ 7) (ss : List Nat) (hss : ∀ s ∈ ss, s < 256) (hk : ss.length ≤ 13) (LL : List Nat) (h36 : ∀ four, four < 2 ^ n → (memb four).length = 4 → ∀ st, run L 36 [J n, sl 1 true (LL.map tM), tM four] st = some (pairA (runF four ss 0), st)) (C : List AV) (hC1 : ∀ n, okRefs n C = true) (hC2 : ∀ n T acc, renCells n T acc C = (C, acc)) (four : Nat) (lost : Bool) (hok : four ≤ 2 ^ n) (env : Env) (st : St)
    (hg : gcAV true 1 0 (canon env [3, 4, 5, 6, 35, 36]) st = ([(3, J n), (4, sl 1 true (ss.map U)), (5, sl 1 true (LL.map tM)), (6, B lost), (35, U (2 ^ n)), (36, U four)], ⟨[C], []⟩)) :
    ∃ x_1 en s, lim (headed pure (run L) true [3, 4, 5, 6, 35, 36] lp10_2 1 0) env st = some (x_1, en, s) ∧ (x_1 = .exit 0 ∧ en.get 3 = J n ∧ en.get 4 = sl 1 true (ss.map U) ∧ en.get 5 = sl 1 true (LL.map tM) ∧ en.get 6 = B (lost || (List.range' four (2 ^ n - four)).any (lostB ss)) ∧ s = ⟨[C], []⟩) := by
  refine loop_wp (α := Nat × Bool) (fun ⟨four, lost⟩ => 2 ^ n - four) (fun ⟨four, lost⟩ => four ≤ 2 ^ n) (fun ⟨four, lost⟩ => ([(3, J n), (4, sl 1 true (ss.map U)), (5, sl 1 true (LL.map tM)), (6, B lost), (35, U (2 ^ n)), (36, U four)], ⟨[C], []⟩)) (fun ⟨four, lost⟩ x_1 en s => x_1 = .exit 0 ∧ en.get 3 = J n ∧ en.get 4 = sl 1 true (ss.map U) ∧ en.get 5 = sl 1 true (LL.map tM) ∧ en.get 6 = B (lost || (List.range' four (2 ^ n - four)).any (lostB ss)) ∧ s = ⟨[C], []⟩) (fun ⟨four, lost⟩ hok => ?_) ⟨four, lost⟩ hok env st hg
  simp only at hok
  dsimp only at hok ⊢
  have hN : 2 ^ n ≤ 128 := Nat.le_trans (Nat.pow_le_pow_right (n := 2) (by omega) hn) (by decide)
  generalize 2 ^ n = N at *
  by_cases h : four < N
  · have hs : IntKind.u64.wrap ((four : Int) + 1) = ((four + 1 : Nat) : Int) := succU four (by omega)
    have hlt : ((four : Int) < (N : Int)) = True := eq_true (by omega)
    have hr : List.range' four (N - four) = four :: List.range' (four + 1) (N - (four + 1)) := by
      rw [show N - four = (N - (four + 1)) + 1 by omega, List.range'_succ]
    rw [hr, List.any_cons]
    have hlb : lostB ss four = (decide ((memb four).length = 4) && (runF four ss 0).isNone) := rfl
    have h58 := fun st => c58 four (by omega) st
    have h40 := fun st => c40 four (by omega) st
    rw [hlb]
    by_cases q4 : (memb four).length = 4
    · have e4 : (((memb four).length : Int) = 4) = True := eq_true (by omega)
      have h36 := h36 four h q4
      have hrm := run_met (four := four) (by omega) q4 ss
      have hml := metF_len four ss [false, false, false, false]
      rw [decide_eq_true q4, Bool.true_and]
      rw [hrm] at h36 ⊢
      have eB : [AV.v (.bool false), AV.v (.bool false), AV.v (.bool false), AV.v (.bool false)] = [false, false, false, false].map fun b => B b := rfl
      simp only [go_sem, reduceIte, Nat.reduceEqDiff, Nat.reduceAdd, Nat.reduceSub, Nat.reduceLeDiff, Nat.reduceLT, reduceCtorEq, Int.reduceLT, Int.reduceLE, Int.reduceEq, Int.reduceBEq, Int.reduceSub, Int.reduceAdd, Int.reduceMul, Int.reduceNeg, Int.reduceToNat, Nat.reduceMul, Nat.reduceBEq, index_rsl_if, setm, make_ints, condK_dec, wantK_dec, not_dec, and_dec, or_dec, seqK_ite, seqK_none, blockK_ite, blockK_none, opsK_ite, opsK_none, stepK_ite, stepK_none, bodyK_ite, bodyK_none, resK_ite, resK_none, leaveK_ite, leaveK_none, only_ite, only_none, bind_ite, gives_some, gives_none, gives_ite, then_normal, then_ret, then_exit, then_none, then_ite, Option.bind_none, Bool.not_eq_true', decide_eq_false_iff_not, Bool.and_eq_true, Bool.or_eq_true, Option.some.injEq, Int.not_lt, Int.not_le, lp10_2, hlt, h58, e4, h40]
      generalize hg : lim (headed pure (run L) true _ lp10_0 _ _) _ _ = o
      obtain ⟨x, en, s, rfl, h2⟩ : ∃ x en s, o = some (x, en, s) ∧ _ := by rw [← hg]; exact loop10_0 n true ss hss hk LL lost N four (by omega) q4 C hC1 hC2 0 [false, false, false, false] ⟨by omega, rfl⟩ _ _ (by simp only [go_sem, reduceIte, Nat.reduceEqDiff, Nat.reduceAdd, Nat.reduceSub, Nat.reduceLeDiff, Nat.reduceLT, reduceCtorEq, Int.reduceLT, Int.reduceLE, Int.reduceEq, Int.reduceBEq, Int.reduceSub, Int.reduceAdd, Int.reduceMul, Int.reduceNeg, Int.reduceToNat, Nat.reduceMul, Nat.reduceBEq, hC1, hC2, ren1_t, Int.natCast_zero, List.length_map] <;> rfl)
      clear hg
      rw [List.drop_zero] at h2
      obtain ⟨rfl, e3, e4', e5, e6, e8, e9, e35, e36, rfl⟩ := h2
      generalize metF four ss [false, false, false, false] = M at *
      have hM4 : M.length = 4 := hml
      have hMl : (M.map fun b => B b).length = 4 := by rw [List.length_map]; exact hM4
      have htk : (M.map fun b => B b).take 4 = M.map fun b => B b := List.take_of_length_le (by omega)
      simp only [go_sem, reduceIte, Nat.reduceEqDiff, Nat.reduceAdd, Nat.reduceSub, Nat.reduceLeDiff, Nat.reduceLT, reduceCtorEq, Int.reduceLT, Int.reduceLE, Int.reduceEq, Int.reduceBEq, Int.reduceSub, Int.reduceAdd, Int.reduceMul, Int.reduceNeg, Int.reduceToNat, Nat.reduceMul, Nat.reduceBEq, index_rsl_if, setm, make_ints, condK_dec, wantK_dec, not_dec, and_dec, or_dec, seqK_ite, seqK_none, blockK_ite, blockK_none, opsK_ite, opsK_none, stepK_ite, stepK_none, bodyK_ite, bodyK_none, resK_ite, resK_none, leaveK_ite, leaveK_none, only_ite, only_none, bind_ite, gives_some, gives_none, gives_ite, then_normal, then_ret, then_exit, then_none, then_ite, Option.bind_none, Bool.not_eq_true', decide_eq_false_iff_not, Bool.and_eq_true, Bool.or_eq_true, Option.some.injEq, Int.not_lt, Int.not_le, lp10_2, e3, e4', e5, e6, e8, e9, e35, e36, hMl, hM4, htk, List.length_map]
      generalize hg : lim (headed pure (run L) true _ lp10_1 _ _) _ _ = o
      obtain ⟨x, en, s, rfl, h2⟩ : ∃ x en s, o = some (x, en, s) ∧ _ := by rw [← hg]; exact loop10_1 n true ss LL lost N four M hM4 C hC1 hC2 0 0 0 ⟨by omega, by omega⟩ _ _ (by simp only [go_sem, reduceIte, Nat.reduceEqDiff, Nat.reduceAdd, Nat.reduceSub, Nat.reduceLeDiff, Nat.reduceLT, reduceCtorEq, Int.reduceLT, Int.reduceLE, Int.reduceEq, Int.reduceBEq, Int.reduceSub, Int.reduceAdd, Int.reduceMul, Int.reduceNeg, Int.reduceToNat, Nat.reduceMul, Nat.reduceBEq, e3, e4', e5, e6, e8, e9, e35, e36, hC1, hC2, ren1_t, okRefsBo, renCellsBo, untipsBo, Int.natCast_zero] <;> rfl)
      clear hg
      rw [List.drop_zero] at h2
      have hso : stOf M = if 1 < (wm M 0 (0, 0)).2 then none else some (wm M 0 (0, 0)).1 := rfl
      rw [hso] at h36 ⊢
      clear e3 e4' e5 e6 e8 e9 e35 e36
      obtain ⟨rfl, e3, e4', e5, e6, e8, e13, e14, e35, e36, rfl⟩ := h2
      generalize wm M 0 (0, 0) = wmv at *
      obtain ⟨w, m⟩ := wmv
      dsimp only at *
      by_cases p : 1 < m
      · have q1 : ((1 : Int) < (m : Int)) = True := eq_true (by omega)
        rw [if_pos p] at h36 ⊢
        rw [show pairA none = .tup [I 0, I 12] from rfl] at h36
        simp only [go_sem, reduceIte, Nat.reduceEqDiff, Nat.reduceAdd, Nat.reduceSub, Nat.reduceLeDiff, Nat.reduceLT, reduceCtorEq, Int.reduceLT, Int.reduceLE, Int.reduceEq, Int.reduceBEq, Int.reduceSub, Int.reduceAdd, Int.reduceMul, Int.reduceNeg, Int.reduceToNat, Nat.reduceMul, Nat.reduceBEq, index_rsl_if, setm, make_ints, condK_dec, wantK_dec, not_dec, and_dec, or_dec, seqK_ite, seqK_none, blockK_ite, blockK_none, opsK_ite, opsK_none, stepK_ite, stepK_none, bodyK_ite, bodyK_none, resK_ite, resK_none, leaveK_ite, leaveK_none, only_ite, only_none, bind_ite, gives_some, gives_none, gives_ite, then_normal, then_ret, then_exit, then_none, then_ite, Option.bind_none, Bool.not_eq_true', decide_eq_false_iff_not, Bool.and_eq_true, Bool.or_eq_true, Option.some.injEq, Int.not_lt, Int.not_le, lp10_2, e3, e4', e5, e6, e8, e13, e14, e35, e36, h36, q1, hs]
        refine ⟨(four + 1, true), by simp only [go_sem, reduceIte, Nat.reduceEqDiff, Nat.reduceAdd, Nat.reduceSub, Nat.reduceLeDiff, Nat.reduceLT, reduceCtorEq, Int.reduceLT, Int.reduceLE, Int.reduceEq, Int.reduceBEq, Int.reduceSub, Int.reduceAdd, Int.reduceMul, Int.reduceNeg, Int.reduceToNat, Nat.reduceMul, Nat.reduceBEq, ren1_locm, loc_tips, locT_eq, e3, e4', e5, e6, e8, e13, e14, e35, e36, hC1, hC2, ren1_t] <;> rfl, ?_, ?_, fun x en s hq => ?_⟩
        · dsimp only; omega
        · dsimp only; omega
        · simp only [Option.isNone_none, Bool.true_or, Bool.or_true] at hq ⊢; exact hq
      · have q1 : ((1 : Int) < (m : Int)) = False := eq_false (by omega)
        rw [if_neg p] at h36 ⊢
        rw [show pairA (some w) = .tup [J w, I 0] from rfl] at h36
        simp only [go_sem, reduceIte, Nat.reduceEqDiff, Nat.reduceAdd, Nat.reduceSub, Nat.reduceLeDiff, Nat.reduceLT, reduceCtorEq, Int.reduceLT, Int.reduceLE, Int.reduceEq, Int.reduceBEq, Int.reduceSub, Int.reduceAdd, Int.reduceMul, Int.reduceNeg, Int.reduceToNat, Nat.reduceMul, Nat.reduceBEq, index_rsl_if, setm, make_ints, condK_dec, wantK_dec, not_dec, and_dec, or_dec, seqK_ite, seqK_none, blockK_ite, blockK_none, opsK_ite, opsK_none, stepK_ite, stepK_none, bodyK_ite, bodyK_none, resK_ite, resK_none, leaveK_ite, leaveK_none, only_ite, only_none, bind_ite, gives_some, gives_none, gives_ite, then_normal, then_ret, then_exit, then_none, then_ite, Option.bind_none, Bool.not_eq_true', decide_eq_false_iff_not, Bool.and_eq_true, Bool.or_eq_true, Option.some.injEq, Int.not_lt, Int.not_le, lp10_2, e3, e4', e5, e6, e8, e13, e14, e35, e36, h36, q1, hs]
        refine ⟨(four + 1, lost), by simp only [go_sem, reduceIte, Nat.reduceEqDiff, Nat.reduceAdd, Nat.reduceSub, Nat.reduceLeDiff, Nat.reduceLT, reduceCtorEq, Int.reduceLT, Int.reduceLE, Int.reduceEq, Int.reduceBEq, Int.reduceSub, Int.reduceAdd, Int.reduceMul, Int.reduceNeg, Int.reduceToNat, Nat.reduceMul, Nat.reduceBEq, ren1_locm, loc_tips, locT_eq, e3, e4', e5, e6, e8, e13, e14, e35, e36, hC1, hC2, ren1_t] <;> rfl, ?_, ?_, fun x en s hq => ?_⟩
        · dsimp only; omega
        · dsimp only; omega
        · simp only [Option.isNone_some, Bool.false_or] at hq ⊢; exact hq
    · have e4 : (((memb four).length : Int) = 4) = False := eq_false (by omega)
      rw [decide_eq_false q4, Bool.false_and, Bool.false_or]
      simp only [go_sem, reduceIte, Nat.reduceEqDiff, Nat.reduceAdd, Nat.reduceSub, Nat.reduceLeDiff, Nat.reduceLT, reduceCtorEq, Int.reduceLT, Int.reduceLE, Int.reduceEq, Int.reduceBEq, Int.reduceSub, Int.reduceAdd, Int.reduceMul, Int.reduceNeg, Int.reduceToNat, Nat.reduceMul, Nat.reduceBEq, index_rsl_if, setm, make_ints, condK_dec, wantK_dec, not_dec, and_dec, or_dec, seqK_ite, seqK_none, blockK_ite, blockK_none, opsK_ite, opsK_none, stepK_ite, stepK_none, bodyK_ite, bodyK_none, resK_ite, resK_none, leaveK_ite, leaveK_none, only_ite, only_none, bind_ite, gives_some, gives_none, gives_ite, then_normal, then_ret, then_exit, then_none, then_ite, Option.bind_none, Bool.not_eq_true', decide_eq_false_iff_not, Bool.and_eq_true, Bool.or_eq_true, Option.some.injEq, Int.not_lt, Int.not_le, lp10_2, hlt, h58, e4, hs]
      refine ⟨(four + 1, lost), by simp only [go_sem, reduceIte, Nat.reduceEqDiff, Nat.reduceAdd, Nat.reduceSub, Nat.reduceLeDiff, Nat.reduceLT, reduceCtorEq, Int.reduceLT, Int.reduceLE, Int.reduceEq, Int.reduceBEq, Int.reduceSub, Int.reduceAdd, Int.reduceMul, Int.reduceNeg, Int.reduceToNat, Nat.reduceMul, Nat.reduceBEq, ren1_locm, loc_tips, locT_eq, hC1, hC2, ren1_t] <;> rfl, ?_, ?_, fun x en s hq => ?_⟩
      · dsimp only; omega
      · dsimp only; omega
      · exact hq
  · have hr : N - four = 0 := by omega
    have hlt : ((four : Int) < (N : Int)) = False := eq_false (by omega)
    rw [hr]
    have e : (lost || (List.range' four 0).any (lostB ss)) = lost := by simp
    rw [e]
    simp only [go_sem, reduceIte, Nat.reduceEqDiff, Nat.reduceAdd, Nat.reduceSub, Nat.reduceLeDiff, Nat.reduceLT, reduceCtorEq, Int.reduceLT, Int.reduceLE, Int.reduceEq, Int.reduceBEq, Int.reduceSub, Int.reduceAdd, Int.reduceMul, Int.reduceNeg, Int.reduceToNat, Nat.reduceMul, Nat.reduceBEq, index_rsl_if, setm, make_ints, condK_dec, wantK_dec, not_dec, and_dec, or_dec, seqK_ite, seqK_none, blockK_ite, blockK_none, opsK_ite, opsK_none, stepK_ite, stepK_none, bodyK_ite, bodyK_none, resK_ite, resK_none, leaveK_ite, leaveK_none, only_ite, only_none, bind_ite, gives_some, gives_none, gives_ite, then_normal, then_ret, then_exit, then_none, then_ite, Option.bind_none, Bool.not_eq_true', decide_eq_false_iff_not, Bool.and_eq_true, Bool.or_eq_true, Option.some.injEq, Int.not_lt, Int.not_le, lp10_2, hlt]

theorem c10 (a g : Nat) (ha : a < 256) (zs : List Nat) (hz : zs.length = 13) (hzs : ∀ z ∈ zs, z < 256) (m w : Nat) (hm : m < 256) :
    run L 10 [cutAV a g zs m w] ⟨[], []⟩ = some (B true, ⟨[], []⟩) := by
  rw [run_pure (fn := ir10) rfl rfl]
  have hd := Nat.mod_lt a (show 0 < 6 by decide)
  have h38 := fun st => c38 a g ha zs hz hzs m w hm 7 6 (.inr (.inl ⟨rfl, rfl⟩)) st
  have hmk := made_ok (n := 2 + a % 6) (by omega) g zs (m % 14)
  have hm14 : m % 14 ≤ 13 := by omega
  generalize hn : 2 + a % 6 = n at *
  have hn2 : 2 ≤ n ∧ n ≤ 7 := by omega
  have h2n : 2 ^ n ≤ 128 := Nat.le_trans (Nat.pow_le_pow_right (n := 2) (by decide) hn2.2) (by decide)
  obtain ⟨hS, hSl⟩ := hmk
  generalize madeS n g zs (m % 14) = ss at *
  have hun : cutAV a g zs m w = .agg (cutC a g zs m w) := rfl
  have hl17 : (cutC a g zs m w).length = 17 := lenC a g zs hz m w
  have htk : (cutC a g zs m w).take 17 = cutC a g zs m w := List.take_of_length_le (by omega)
  have h256 : ∀ s ∈ ss, s < 256 := fun s h => Nat.lt_of_lt_of_le (hS.lt s h) (by omega)
  have h39 : ∀ st, run L 39 [.agg (cutC a g zs m w), J n, sl 1 true (ss.map U)] st = some (sl 1 true ((toldL n w 0 ss).map tM), st) := fun st => c39 n (by omega) a g zs hz m w true ss h256 (by omega) st
  have hsm := told_sml (n := n) (by omega) w 0 ss hS.even
  have hgd := told_good (n := n) (by omega) w 0 ss (fun s h => ⟨hS.lt s h, hS.ne s h, hS.even s h⟩)
  have hLl := told_len n w 0 ss
  have h38 : ∀ st, run L 38 [.agg (cutC a g zs m w), I 7] st = some (.tup [J n, sl 1 true (ss.map U)], st) := h38
  have h36 := fun four hf h4 st => c36 n hn2.1 (by omega) true (toldL n w 0 ss) hgd (by rw [hsm]; exact hS.nd) (by rw [hLl]; omega) four hf h4 st
  have h16 := fun st => c16 n hn2.1 (by omega) true (toldL n w 0 ss) hgd (by rw [hsm]; exact hS.nd) (by rw [hLl]; omega) st
  rw [hsm] at h36 h16
  have h49 := fun st => c49 true ss h256 (by omega) st
  have hli := lost_iff hn2.2 hS
  have hany : (List.range' 0 (2 ^ n - 0)).any (lostB ss) = (clP ss 0).isSome := by
    rw [Bool.eq_iff_iff, List.any_eq_true, Option.isSome_iff_ne_none, ← hli]
    constructor
    · rintro ⟨f, hf, h⟩
      rw [List.mem_range'] at hf
      obtain ⟨i, hi, rfl⟩ := hf
      unfold lostB at h
      simp only [Bool.and_eq_true, decide_eq_true_eq, Option.isNone_iff_eq_none] at h
      exact ⟨_, by omega, h.1, h.2⟩
    · rintro ⟨f, hf, h4, h⟩
      refine ⟨f, by rw [List.mem_range']; exact ⟨f, by omega, by omega⟩, ?_⟩
      unfold lostB
      simp only [Bool.and_eq_true, decide_eq_true_eq, Option.isNone_iff_eq_none]
      exact ⟨h4, h⟩
  have hshu : binAV .shl none (.v (.int .u64 1)) (.v (.int .i64 (n : Int))) = some (U (2 ^ n)) := by
    rw [shl_one, sh1_eq n (by omega)]
  generalize toldL n w 0 ss = LL at *
  simp only [ir10, hun, go_sem, reduceIte, Nat.reduceEqDiff, Nat.reduceAdd, Nat.reduceSub, Nat.reduceLeDiff, Nat.reduceLT, reduceCtorEq, Int.reduceLT, Int.reduceLE, Int.reduceEq, Int.reduceBEq, Int.reduceSub, Int.reduceAdd, Int.reduceMul, Int.reduceNeg, Int.reduceToNat, Nat.reduceMul, Nat.reduceBEq, okRefsC, renCellsC, pubsC, storableC, hl17, htk, h38, h39, hshu]
  generalize hg : lim (headed pure (run L) true _ lp10_2 _ _) _ _ = o
  obtain ⟨x, en, s, rfl, h2⟩ : ∃ x en s, o = some (x, en, s) ∧ _ := by rw [← hg]; exact loop10_2 n hn2.2 ss h256 (by omega) LL h36 (cutC a g zs m w) (fun k => okRefsC k a g zs m w) (fun k T acc => renCellsC k T acc a g zs m w) 0 false (Nat.zero_le _) _ _ (by simp only [go_sem, reduceIte, Nat.reduceEqDiff, Nat.reduceAdd, Nat.reduceSub, Nat.reduceLeDiff, Nat.reduceLT, reduceCtorEq, Int.reduceLT, Int.reduceLE, Int.reduceEq, Int.reduceBEq, Int.reduceSub, Int.reduceAdd, Int.reduceMul, Int.reduceNeg, Int.reduceToNat, Nat.reduceMul, Nat.reduceBEq, okRefsC, renCellsC, Int.natCast_zero, ren1_t] <;> rfl)
  clear hg
  rw [hany, Bool.false_or] at h2
  obtain ⟨rfl, e3, e4, e5, e6, rfl⟩ := h2
  cases hc : clP ss 0 with
  | none =>
    rw [hc] at e6 h49 h16
    rw [show clA none = .tup [I 0, I 0, B false] from rfl] at h49
    rw [show whyA none = .tup [I 0, I 0, I 13] from rfl] at h16
    simp only [go_sem, reduceIte, Nat.reduceEqDiff, Nat.reduceAdd, Nat.reduceSub, Nat.reduceLeDiff, Nat.reduceLT, reduceCtorEq, Int.reduceLT, Int.reduceLE, Int.reduceEq, Int.reduceBEq, Int.reduceSub, Int.reduceAdd, Int.reduceMul, Int.reduceNeg, Int.reduceToNat, Nat.reduceMul, Nat.reduceBEq, e3, e4, e5, e6, h49, h16, c15, Option.isSome_none]
  | some p =>
    obtain ⟨x, y⟩ := p
    rw [hc] at e6 h49 h16
    rw [show clA (some (x, y)) = .tup [J x, J y, B true] from rfl] at h49
    rw [show whyA (some (x, y)) = .tup [J x, J y, I 0] from rfl] at h16
    simp only [go_sem, reduceIte, Nat.reduceEqDiff, Nat.reduceAdd, Nat.reduceSub, Nat.reduceLeDiff, Nat.reduceLT, reduceCtorEq, Int.reduceLT, Int.reduceLE, Int.reduceEq, Int.reduceBEq, Int.reduceSub, Int.reduceAdd, Int.reduceMul, Int.reduceNeg, Int.reduceToNat, Nat.reduceMul, Nat.reduceBEq, e3, e4, e5, e6, h49, h16, c15, Option.isSome_some]
end Go.Proofs.YtdnmhlfjafjkbaaGreatDoor.Vm
