/- What is proved: what functions of this program answer, by the evaluator. No condition. -/
import Derived.Test.YtpmbfgogpcjdlaaDoorFpa
import Derived.KernelRfl
set_option linter.all false
namespace Go.Proofs.YtpmbfgogpcjdlaaDoor.Vm
open Go Go.Ev
set_option maxRecDepth 100000
attribute [local go_sem] cells_any storable_any ren1_any shaped_ptr cells_ptr storable_ptr ren1_ptr shaped_eptr cells_eptr storable_eptr ren1_eptr shaped_rsl cells_rsl storable_rsl ren1_rsl shaped_int cells_int storable_int ren1_int shaped_bool cells_bool storable_bool ren1_bool shaped_nils cells_nils storable_nils ren1_nils shaped_lst cells_lst storable_lst shaped_fn cells_fn storable_fn ren1_fn shaped_ifc cells_ifc storable_ifc ren1_ifc shaped_agg cells_agg storable_agg ren1_agg shaped_tup cells_tup storable_tup ren1_tup shaped_nif cells_nif storable_nif ren1_nif ren1_lany ren1_lfull ren1_lown len_lst len_rsl len_nil load_ptr load_eptr isRsl_lst isRsl_nil isRsl_rsl elems_nil elems_lst elems_sl isRsl_sl body_eq bodyK_normal bodyK_ret resK_some leaveK_some only_some code_skip code_exit code_ret code_ops code_seq code_cond code_block seqK_normal seqK_ret seqK_exit condK_true condK_false blockK_normal blockK_ret blockK_exit opsK_some ops_nil ops_cons wantK_true wantK_false stepK_some pubs pub pub_sl params okRef_loc storable_loc shaped_loc cells_loc isRsl_loc elems_loc len_loc untips untip untip_sl wantedAV setElems withO isAgg_v isAgg_agg isAgg_lst isAgg_ptr isAgg_fn isAgg_ifc isAgg_rsl isAgg_sl isAgg_loc List.replicate_succ List.replicate_zero opAV valAV aval avals ofVal Env.get setD canon gcAV renAll renEnv renStore renCells ren1_sl cutSt okEnv okStore okRefs okRef okRef_sl bin_int bin_bool bin_lst bin_rsl bin_nil bin_agg cellsEq cellEq isShift intOp boolOp min_int max_int beq_int bne resAV tupAV leave_eq fin_sl fin_loc fins fin_v fin_lst fin_agg fin_tup fin_fn storeAV readCells putCells cells_sl shaped_sl storable_sl fieldAddrAV len_sl goI List.getElem?_cons_zero List.getElem?_cons_succ List.getElem?_nil Option.bind_some Option.map_some List.length_cons List.length_nil List.all_cons List.all_nil Bool.and_true Bool.true_and Bool.and_false Bool.false_and and_true true_and and_false false_and Bool.false_eq_true List.set_cons_zero List.set_cons_succ List.append_nil List.nil_append List.cons_append List.take_zero List.take_succ_cons List.take_nil List.drop_zero List.drop_succ_cons List.map_cons List.map_nil decide_true decide_false beq_self_eq_true Bool.not_true Bool.not_false or_true true_or or_false false_or Nat.zero_add Nat.add_zero Nat.le_refl Nat.lt_irrefl decide_eq_true_eq eq_self_iff_true not_true_eq_false not_false_eq_true List.getD_cons_zero code_loop Nat.zero_le Nat.not_lt_zero Bool.true_beq Bool.false_beq beq_true beq_false ge_iff_le gt_iff_lt Lpure pus Option.map_none assert_ifc assert_nil idxA_ptr idxA_eptr idxV_agg Int.cast_ofNat_Int Nat.mul_one Nat.zero_mul Int.toNat_natCast Int.toNat_zero setParts withO2 hasKey eqnil_sl nenil_sl eqnil_loc nenil_loc map_nil_iff okRefs_ints renCells_ints

theorem shAll_eq (n : Nat) (ps : List (Int × Int)) : shAll n ps = (((List.range (2 ^ n)).filter (expl ps)).map memb).foldl shG ([], 0) := by
  unfold shAll
  rw [List.foldl_map, List.foldl_filter]
  congr 1
  funext s m
  cases h : expl ps m
  · simp [shStep, h]
  · simp [shStep, shG, h]
theorem cheap_eq (n t : Nat) (ps : List (Int × Int)) : cheap n t ps = leastOf sumL ((allL t n).filter (halfOk ps)) := by
  unfold cheap
  rw [← keepF_spec, List.foldl_filter]
  congr 1
  funext out l
  unfold cStep keepF
  cases out <;> rfl

/-- The articles of values that have 2. -/
def twos (l : List Int) : List Int := withL 2 l 0
theorem perms : (List.range 8).all (fun n => ((List.range (2 ^ n)).map memb).isPerm ((allL 2 n).map twos)) = true := by kernel_rfl
theorem perm_of (n : Nat) (hn : n ≤ 7) : ((List.range (2 ^ n)).map memb).Perm ((allL 2 n).map twos) := by
  have h := List.all_eq_true.1 perms n (List.mem_range.2 (by omega))
  exact List.isPerm_iff.1 h

/-- Does a list meet each pair? -/
def meets (ps : List (Int × Int)) (s : List Int) : Bool := ps.all fun p => decide (p.1 ∈ s) || decide (p.2 ∈ s)
theorem mem_memb (m u : Nat) : (u : Int) ∈ memb m ↔ u < 7 ∧ m.testBit u = true := by
  unfold memb
  simp only [List.mem_map, List.mem_filter, List.mem_range]
  constructor
  · rintro ⟨a, h, e⟩
    have : a = u := by omega
    subst this; exact h
  · intro h; exact ⟨u, h, rfl⟩
theorem expl_meets {ps : List (Int × Int)} (h7 : ∀ p ∈ ps, okP p) (m : Nat) : expl ps m = meets ps (memb m) := by
  unfold expl meets
  rw [Bool.eq_iff_iff]
  simp only [Bool.not_eq_true', List.any_eq_false, List.all_eq_true, Bool.or_eq_true, decide_eq_true_iff]
  apply forall_congr'; intro p
  apply forall_congr'; intro hp
  obtain ⟨u, v⟩ := p
  obtain ⟨a1, a2, a3, a4⟩ := h7 _ hp
  simp only at a1 a2 a3 a4
  obtain ⟨u, rfl⟩ := Int.eq_ofNat_of_zero_le a1
  obtain ⟨v, rfl⟩ := Int.eq_ofNat_of_zero_le a3
  rw [mem_memb, mem_memb]
  unfold openP
  simp only [Int.toNat_natCast]
  have b1 : u < 7 := by omega
  have b2 : v < 7 := by omega
  cases m.testBit u <;> cases m.testBit v <;> simp [b1, b2]
theorem mem_withL (x a : Int) : ∀ (l : List Int) (i : Nat), a ∈ withL x l i ↔ ∃ k : Nat, l[k]? = some x ∧ a = ((i + k : Nat) : Int)
  | [], i => by simp [withL]
  | b :: r, i => by
    have ih := mem_withL x a r (i + 1)
    have hk : (∃ k : Nat, (b :: r)[k]? = some x ∧ a = ((i + k : Nat) : Int)) ↔ (b = x ∧ a = (i : Int)) ∨ ∃ k : Nat, r[k]? = some x ∧ a = ((i + 1 + k : Nat) : Int) := by
      constructor
      · rintro ⟨k, h1, h2⟩
        cases k with
        | zero => left; exact ⟨by simpa using h1, by simpa using h2⟩
        | succ k => right; exact ⟨k, by simpa using h1, by rw [h2]; congr 1; omega⟩
      · rintro (⟨h1, h2⟩ | ⟨k, h1, h2⟩)
        · exact ⟨0, by simp [h1], by simp [h2]⟩
        · exact ⟨k + 1, by simpa using h1, by rw [h2]; congr 1; omega⟩
    rw [hk, ← ih]
    simp only [withL]
    split
    · next h => rw [List.mem_cons]; simp [h]
    · next h => simp [h]
theorem mem_twos (l : List Int) (u : Nat) : (u : Int) ∈ twos l ↔ l.getD u 0 = 2 := by
  unfold twos
  rw [mem_withL, List.getD_eq_getElem?_getD]
  constructor
  · rintro ⟨k, h1, h2⟩
    have : k = u := by omega
    subst this; rw [h1]; rfl
  · intro h
    refine ⟨u, ?_, by simp⟩
    cases h2 : l[u]?
    · rw [h2] at h; simp at h
    · rw [h2] at h; simp at h; rw [h]
theorem allL2_val : ∀ k, ∀ l ∈ allL 2 k, ∀ x ∈ l, x = 0 ∨ x = 2 := by
  intro k
  induction k with
  | zero => intro l hl x hx; simp [allL] at hl; subst hl; simp at hx
  | succ k ih =>
    intro l hl x hx
    simp only [allL, List.mem_flatMap, List.mem_map] at hl
    obtain ⟨v, hv, r, hr, rfl⟩ := hl
    rcases List.mem_cons.1 hx with rfl | hx
    · have : v = 0 ∨ v = 2 := by simpa [vals] using hv
      omega
    · exact ih r hr x hx
theorem getD2 {l : List Int} (h : ∀ x ∈ l, x = 0 ∨ x = 2) (u : Nat) : l.getD u 0 = 0 ∨ l.getD u 0 = 2 := by
  rw [List.getD_eq_getElem?_getD]
  cases h2 : l[u]?
  · simp
  · exact h _ (List.mem_of_getElem? h2)
theorem half_meets {ps : List (Int × Int)} (h7 : ∀ p ∈ ps, okP p) {l : List Int} (h : ∀ x ∈ l, x = 0 ∨ x = 2) : halfOk ps l = meets ps (twos l) := by
  unfold halfOk meets
  rw [Bool.eq_iff_iff]
  simp only [List.all_eq_true, Bool.or_eq_true, decide_eq_true_iff]
  apply forall_congr'; intro p
  apply forall_congr'; intro hp
  obtain ⟨u, v⟩ := p
  obtain ⟨a1, a2, a3, a4⟩ := h7 _ hp
  simp only at a1 a2 a3 a4
  obtain ⟨u, rfl⟩ := Int.eq_ofNat_of_zero_le a1
  obtain ⟨v, rfl⟩ := Int.eq_ofNat_of_zero_le a3
  rw [mem_twos, mem_twos]
  unfold enough
  simp only [Int.toNat_natCast, decide_eq_true_iff]
  rcases getD2 h u with e1 | e1 <;> rcases getD2 h v with e2 | e2 <;> rw [e1, e2] <;> simp
theorem two_sum : ∀ (l : List Int) (i : Nat), (∀ x ∈ l, x = 0 ∨ x = 2) → sumL l = 2 * ((withL 2 l i).length : Int)
  | [], i, _ => by simp [sumL, withL]
  | a :: r, i, h => by
    have ih := two_sum r (i + 1) (fun x hx => h x (by simp [hx]))
    rcases h a (by simp) with rfl | rfl
    · simp only [sumL, withL]; rw [if_neg (by omega), ih]; omega
    · simp only [sumL, withL, if_true]; rw [ih, List.length_cons]; omega
theorem full_mem (t : Nat) : ∀ k, List.replicate k (2 : Int) ∈ allL t k := by
  intro k
  induction k with
  | zero => simp [allL]
  | succ k ih =>
    simp only [allL, List.mem_flatMap, List.mem_map]
    refine ⟨2, ?_, _, ih, ?_⟩
    · unfold vals; split <;> simp
    · rfl
theorem full_ok {n : Nat} {ps : List (Int × Int)} (hps : ∀ p ∈ ps, 0 ≤ p.1 ∧ p.1 < p.2 ∧ p.2 < (n : Int)) : halfOk ps (List.replicate n 2) = true := by
  unfold halfOk
  rw [List.all_eq_true]
  intro p hp
  have := hps p hp
  have h1 : p.1.toNat < n := by omega
  have h2 : p.2.toNat < n := by omega
  simp [enough, List.getD_eq_getElem?_getD, List.getElem?_replicate, h1, h2]
theorem half_ne {n : Nat} (t : Nat) {ps : List (Int × Int)} (hps : ∀ p ∈ ps, 0 ≤ p.1 ∧ p.1 < p.2 ∧ p.2 < (n : Int)) : (allL t n).filter (halfOk ps) ≠ [] :=
  List.ne_nil_of_mem (List.mem_filter.2 ⟨full_mem t n, full_ok hps⟩)
theorem cheap_ne {n : Nat} (t : Nat) {ps : List (Int × Int)} (hps : ∀ p ∈ ps, 0 ≤ p.1 ∧ p.1 < p.2 ∧ p.2 < (n : Int)) : cheap n t ps ≠ [] := by
  rw [cheap_eq]; exact least_ne _ _ (half_ne t hps)
theorem cheap_mem {n t : Nat} {ps : List (Int × Int)} {l : List Int} : l ∈ cheap n t ps ↔ (l ∈ allL t n ∧ halfOk ps l = true) ∧ ∀ y ∈ allL t n, halfOk ps y = true → sumL l ≤ sumL y := by
  rw [cheap_eq, mem_least, List.mem_filter]
  simp only [List.mem_filter, and_imp]
theorem cheap_in {n t : Nat} {ps : List (Int × Int)} {l : List Int} (h : l ∈ cheap n t ps) : okL n l := by
  have := allL_in n l (cheap_mem.1 h).1.1
  exact ⟨by omega, this.2⟩
theorem cheap_len {n t : Nat} (hs : t = 1 ∨ t = 2) (hn : n ≤ 7) (ps : List (Int × Int)) : (cheap n t ps).length ≤ 2187 := by
  rw [cheap_eq]
  unfold leastOf
  have h1 := (allL_len hs n).1
  have h2 : 3 ^ n ≤ 3 ^ 7 := Nat.pow_le_pow_right (by omega) hn
  have h3 : (3 : Nat) ^ 7 = 2187 := by decide
  have h4 := List.length_filter_le (halfOk ps) (allL t n)
  exact Nat.le_trans (List.length_filter_le _ _) (by omega)

/-- All lists that meet each pair, in the two orders. -/
theorem short_perm {n : Nat} (hn : n ≤ 7) {ps : List (Int × Int)} (h7 : ∀ p ∈ ps, okP p) : (((List.range (2 ^ n)).filter (expl ps)).map memb).Perm (((allL 2 n).filter (halfOk ps)).map twos) := by
  have e1 : ((List.range (2 ^ n)).filter (expl ps)).map memb = ((List.range (2 ^ n)).map memb).filter (meets ps) := by
    rw [List.filter_map]; congr 1
    apply List.filter_congr; intro m _; exact expl_meets h7 m
  have e2 : ((allL 2 n).filter (halfOk ps)).map twos = ((allL 2 n).map twos).filter (meets ps) := by
    rw [List.filter_map]; congr 1
    apply List.filter_congr; intro l hl; exact half_meets h7 (allL2_val n l hl)
  rw [e1, e2]
  exact (perm_of n hn).filter _
theorem cheap_twos (n : Nat) (ps : List (Int × Int)) : (cheap n 2 ps).map twos = leastOf lenI (((allL 2 n).filter (halfOk ps)).map twos) := by
  rw [cheap_eq]
  apply least_map
  intro a ha b hb
  have h1 := two_sum a 0 (allL2_val n a (List.mem_filter.1 ha).1)
  have h2 := two_sum b 0 (allL2_val n b (List.mem_filter.1 hb).1)
  rw [h1, h2]; unfold lenI twos; omega
/-- The program's first of the shortest lists, and their number, are those of all lists. -/
theorem short_spec {n : Nat} (hn : n ≤ 7) {ps : List (Int × Int)} (hps : ∀ p ∈ ps, 0 ≤ p.1 ∧ p.1 < p.2 ∧ p.2 < (n : Int)) (h7 : ∀ p ∈ ps, okP p) :
    (shAll n ps).1 ∈ (cheap n 2 ps).map twos ∧ (∀ c ∈ (cheap n 2 ps).map twos, lexLt c (shAll n ps).1 = false) ∧ (shAll n ps).2 = (cheap n 2 ps).length := by
  have hp := short_perm hn h7
  have hl := least_perm lenI hp
  have hne : ((List.range (2 ^ n)).filter (expl ps)).map memb ≠ [] := by
    intro h; rw [h] at hp
    have := hp.length_eq
    rw [List.length_map, List.length_nil] at this
    exact half_ne 2 hps (List.length_eq_zero_iff.1 this.symm)
  obtain ⟨h1, h2, h3⟩ := shG_spec _ hne
  rw [← shAll_eq] at h1 h2 h3
  rw [cheap_twos]
  refine ⟨hl.mem_iff.1 h1, fun c hc => h2 c (hl.mem_iff.2 hc), ?_⟩
  rw [h3, hl.length_eq, ← cheap_twos, List.length_map]
theorem pick_unique {X : List (List Int)} {a b : List Int} (ha : a ∈ X) (hb : b ∈ X) (h1 : ∀ c ∈ X, lexLt c a = false) (h2 : ∀ c ∈ X, lexLt c b = false) : a = b :=
  lex_total _ _ (h2 a ha) (h1 b hb)

/-- The reference's first of the shortest lists. -/
def bestL (X : List (List Int)) : List Int := match X with | [] => [] | b :: r => r.foldl pickL b
def firstR (n : Int) (ps : List (Int × Int)) : List Int × Int := if chk n ps = 0 then (bestL ((cheap n.toNat 2 ps).map twos), 0) else ([], chk n ps)
def countR (n : Int) (ps : List (Int × Int)) : Int × Int := if chk n ps = 0 then ((cheap n.toNat 2 ps).length, 0) else (0, chk n ps)
theorem first_eq (n : Int) (ps : List (Int × Int)) : firstV n ps = firstR n ps := by
  unfold firstV firstR
  by_cases h : chk n ps = 0
  · rw [if_pos h, if_pos h]
    obtain ⟨h1, h2, h3, h4, h5⟩ := chk_zero h
    obtain ⟨k, rfl⟩ := Int.eq_ofNat_of_zero_le (show 0 ≤ n by omega)
    simp only [Int.toNat_natCast]
    obtain ⟨g1, g2, g3⟩ := short_spec (by omega) h4 h5
    have hne := cheap_ne (n := k) 2 h4
    have : (shAll k ps).1 = bestL ((cheap k 2 ps).map twos) := by
      generalize hX : (cheap k 2 ps).map twos = X at *
      cases X with
      | nil => rw [List.map_eq_nil_iff] at hX; exact absurd hX hne
      | cons b r =>
        obtain ⟨k1, k2⟩ := pickL_spec r b
        exact pick_unique g1 k1 g2 k2
    rw [this]
  · rw [if_neg h, if_neg h]
theorem count_eq (n : Int) (ps : List (Int × Int)) : countV n ps = countR n ps := by
  unfold countV countR
  by_cases h : chk n ps = 0
  · rw [if_pos h, if_pos h]
    obtain ⟨h1, h2, h3, h4, h5⟩ := chk_zero h
    obtain ⟨k, rfl⟩ := Int.eq_ofNat_of_zero_le (show 0 ≤ n by omega)
    simp only [Int.toNat_natCast]
    obtain ⟨g1, g2, g3⟩ := short_spec (by omega) h4 h5
    rw [g3]
  · rw [if_neg h, if_neg h]

/-! ### the set of a list -/
theorem setOf_testBit : ∀ (l : List Int) (m u : Nat), (∀ x ∈ l, 0 ≤ x) → ((setOf l m).testBit u = true ↔ m.testBit u = true ∨ (u : Int) ∈ l)
  | [], m, u, _ => by simp [setOf]
  | a :: r, m, u, h => by
    have e : setOf (a :: r) m = setOf r (m ||| 2 ^ a.toNat) := rfl
    have ha := h a (by simp)
    rw [e, setOf_testBit r _ u (fun x hx => h x (by simp [hx])), Nat.testBit_or, Nat.testBit_two_pow, Bool.or_eq_true, decide_eq_true_iff, List.mem_cons]
    have : a.toNat = u ↔ (u : Int) = a := by omega
    rw [this, or_assoc]
theorem wErr_zero {n : Int} : ∀ {l : List Int} {last : Int}, wErr n last l = 0 → ∀ x ∈ l, 0 ≤ x ∧ x < n
  | [], _, _, x, hx => by simp at hx
  | a :: r, last, h, x, hx => by
    simp only [wErr] at h
    split at h
    · omega
    · split at h
      · omega
      · rcases List.mem_cons.1 hx with rfl | hx
        · omega
        · exact wErr_zero h x hx
theorem expl_set {ps : List (Int × Int)} (h7 : ∀ p ∈ ps, okP p) {l : List Int} (hl : ∀ x ∈ l, 0 ≤ x) : expl ps (setOf l 0) = meets ps l := by
  unfold expl meets
  rw [Bool.eq_iff_iff]
  simp only [Bool.not_eq_true', List.any_eq_false, List.all_eq_true, Bool.or_eq_true, decide_eq_true_iff]
  apply forall_congr'; intro p
  apply forall_congr'; intro hp
  obtain ⟨u, v⟩ := p
  obtain ⟨a1, a2, a3, a4⟩ := h7 _ hp
  simp only at a1 a2 a3 a4
  obtain ⟨u, rfl⟩ := Int.eq_ofNat_of_zero_le a1
  obtain ⟨v, rfl⟩ := Int.eq_ofNat_of_zero_le a3
  have hu := setOf_testBit l 0 u hl
  have hv := setOf_testBit l 0 v hl
  simp only [Nat.zero_testBit, Bool.false_eq_true, false_or] at hu hv
  unfold openP
  simp only [Int.toNat_natCast]
  rw [← hu, ← hv]
  cases (setOf l 0).testBit u <;> cases (setOf l 0).testBit v <;> simp
end Go.Proofs.YtpmbfgogpcjdlaaDoor.Vm
