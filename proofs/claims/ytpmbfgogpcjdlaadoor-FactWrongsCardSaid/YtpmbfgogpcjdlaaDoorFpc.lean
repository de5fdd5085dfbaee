/- What is proved: what functions of this program answer, by the evaluator. No condition. -/
import Derived.Test.YtpmbfgogpcjdlaaDoorFpb
import Derived.KernelRfl
set_option linter.all false
namespace Go.Proofs.YtpmbfgogpcjdlaaDoor.Vm
open Go Go.Ev
set_option maxRecDepth 100000
attribute [local go_sem] cells_any storable_any ren1_any shaped_ptr cells_ptr storable_ptr ren1_ptr shaped_eptr cells_eptr storable_eptr ren1_eptr shaped_rsl cells_rsl storable_rsl ren1_rsl shaped_int cells_int storable_int ren1_int shaped_bool cells_bool storable_bool ren1_bool shaped_nils cells_nils storable_nils ren1_nils shaped_lst cells_lst storable_lst shaped_fn cells_fn storable_fn ren1_fn shaped_ifc cells_ifc storable_ifc ren1_ifc shaped_agg cells_agg storable_agg ren1_agg shaped_tup cells_tup storable_tup ren1_tup shaped_nif cells_nif storable_nif ren1_nif ren1_lany ren1_lfull ren1_lown len_lst len_rsl len_nil load_ptr load_eptr isRsl_lst isRsl_nil isRsl_rsl elems_nil elems_lst elems_sl isRsl_sl body_eq bodyK_normal bodyK_ret resK_some leaveK_some only_some code_skip code_exit code_ret code_ops code_seq code_cond code_block seqK_normal seqK_ret seqK_exit condK_true condK_false blockK_normal blockK_ret blockK_exit opsK_some ops_nil ops_cons wantK_true wantK_false stepK_some pubs pub pub_sl params okRef_loc storable_loc shaped_loc cells_loc isRsl_loc elems_loc len_loc untips untip untip_sl wantedAV setElems withO isAgg_v isAgg_agg isAgg_lst isAgg_ptr isAgg_fn isAgg_ifc isAgg_rsl isAgg_sl isAgg_loc List.replicate_succ List.replicate_zero opAV valAV aval avals ofVal Env.get setD canon gcAV renAll renEnv renStore renCells ren1_sl cutSt okEnv okStore okRefs okRef okRef_sl bin_int bin_bool bin_lst bin_rsl bin_nil bin_agg cellsEq cellEq isShift intOp boolOp min_int max_int beq_int bne resAV tupAV leave_eq fin_sl fin_loc fins fin_v fin_lst fin_agg fin_tup fin_fn storeAV readCells putCells cells_sl shaped_sl storable_sl fieldAddrAV len_sl goI List.getElem?_cons_zero List.getElem?_cons_succ List.getElem?_nil Option.bind_some Option.map_some List.length_cons List.length_nil List.all_cons List.all_nil Bool.and_true Bool.true_and Bool.and_false Bool.false_and and_true true_and and_false false_and Bool.false_eq_true List.set_cons_zero List.set_cons_succ List.append_nil List.nil_append List.cons_append List.take_zero List.take_succ_cons List.take_nil List.drop_zero List.drop_succ_cons List.map_cons List.map_nil decide_true decide_false beq_self_eq_true Bool.not_true Bool.not_false or_true true_or or_false false_or Nat.zero_add Nat.add_zero Nat.le_refl Nat.lt_irrefl decide_eq_true_eq eq_self_iff_true not_true_eq_false not_false_eq_true List.getD_cons_zero code_loop Nat.zero_le Nat.not_lt_zero Bool.true_beq Bool.false_beq beq_true beq_false ge_iff_le gt_iff_lt Lpure pus Option.map_none assert_ifc assert_nil idxA_ptr idxA_eptr idxV_agg Int.cast_ofNat_Int Nat.mul_one Nat.zero_mul Int.toNat_natCast Int.toNat_zero setParts withO2 hasKey eqnil_sl nenil_sl eqnil_loc nenil_loc map_nil_iff okRefs_ints renCells_ints

/-! ### who contradicts whom -/
def orAt (o : List Nat) (i b : Nat) : List Nat := o.set i (o.getD i 0 ||| 2 ^ b)
def adv1 (o : List Nat) (p : Int × Int) : List Nat := orAt (orAt o p.1.toNat p.2.toNat) p.2.toNat p.1.toNat
def advL (ps : List (Int × Int)) : List Nat := ps.foldl adv1 (List.replicate 7 0)
/-- Two articles contradict each other. -/
def nb (ps : List (Int × Int)) (u v : Nat) : Prop := ((u : Int), (v : Int)) ∈ ps ∨ ((v : Int), (u : Int)) ∈ ps
theorem nb_symm {ps : List (Int × Int)} {u v : Nat} (h : nb ps u v) : nb ps v u := h.symm

theorem orAt_len (o : List Nat) (i b : Nat) : (orAt o i b).length = o.length := by simp [orAt]
theorem orAt_bit (o : List Nat) (i b j k : Nat) (hi : i < o.length) : ((orAt o i b).getD j 0).testBit k = true ↔ (o.getD j 0).testBit k = true ∨ (j = i ∧ k = b) := by
  unfold orAt
  simp only [List.getD_eq_getElem?_getD, List.getElem?_set]
  by_cases h : i = j
  · subst h
    simp only [hi, if_true, Option.getD_some, Nat.testBit_or, Nat.testBit_two_pow, Bool.or_eq_true, decide_eq_true_iff]
    constructor <;> rintro (h | h) <;> simp_all
  · simp only [if_neg h]
    constructor
    · exact .inl
    · rintro (h2 | h2)
      · exact h2
      · exact absurd h2.1.symm h
theorem adv_bit : ∀ (ps : List (Int × Int)) (o : List Nat), o.length = 7 → (∀ p ∈ ps, okP p) → ((ps.foldl adv1 o).length = 7 ∧ ∀ u v : Nat, ((ps.foldl adv1 o).getD u 0).testBit v = true ↔ (o.getD u 0).testBit v = true ∨ nb ps u v)
  | [], o, h, _ => by simp [h, nb]
  | p :: r, o, h, h7 => by
    have hp := h7 p (by simp)
    obtain ⟨a, b⟩ := p
    obtain ⟨a1, a2, a3, a4⟩ := hp
    simp only at a1 a2 a3 a4
    obtain ⟨a, rfl⟩ := Int.eq_ofNat_of_zero_le a1
    obtain ⟨b, rfl⟩ := Int.eq_ofNat_of_zero_le a3
    rw [List.foldl_cons]
    have e : adv1 o ((a : Int), (b : Int)) = orAt (orAt o a b) b a := rfl
    have hl : (adv1 o ((a : Int), (b : Int))).length = 7 := by rw [e, orAt_len, orAt_len, h]
    obtain ⟨g1, g2⟩ := adv_bit r _ hl (fun q hq => h7 q (by simp [hq]))
    refine ⟨g1, fun u v => ?_⟩
    rw [g2 u v, e, orAt_bit _ _ _ _ _ (by rw [orAt_len]; omega), orAt_bit _ _ _ _ _ (by omega)]
    unfold nb
    simp only [List.mem_cons, Prod.mk.injEq, Int.natCast_inj]
    generalize (o.getD u 0).testBit v = X
    constructor
    · rintro (((h | h) | h) | h | h) <;> simp [h]
    · rintro (h | (h | h) | (h | h)) <;> simp [h]
theorem advL_len {ps : List (Int × Int)} (h7 : ∀ p ∈ ps, okP p) : (advL ps).length = 7 := (adv_bit ps _ (by simp) h7).1
theorem advL_bit {ps : List (Int × Int)} (h7 : ∀ p ∈ ps, okP p) (u v : Nat) : ((advL ps).getD u 0).testBit v = true ↔ nb ps u v := by
  have := (adv_bit ps (List.replicate 7 0) (by simp) h7).2 u v
  unfold advL
  rw [this, List.getD_eq_getElem?_getD, List.getElem?_replicate]
  split <;> simp

/-- The articles that contradict some of a set. -/
def twoOf (ps : List (Int × Int)) (z : Nat) : Nat := (memb z).foldl (fun (t : Nat) (a : Int) => t ||| (advL ps).getD a.toNat 0) 0
theorem two_fold (g : Nat → Nat) (v : Nat) : ∀ (l : List Int) (t : Nat), ((l.foldl (fun (t : Nat) (a : Int) => t ||| g a.toNat) t).testBit v = true ↔ t.testBit v = true ∨ ∃ a ∈ l, (g a.toNat).testBit v = true)
  | [], t => by simp
  | a :: r, t => by
    rw [List.foldl_cons, two_fold g v r]
    rw [Nat.testBit_or, Bool.or_eq_true, or_assoc]
    simp
theorem two_bit {ps : List (Int × Int)} (h7 : ∀ p ∈ ps, okP p) (z v : Nat) (hz : z < 128) : (twoOf ps z).testBit v = true ↔ ∃ u, z.testBit u = true ∧ nb ps u v := by
  have := two_fold (fun a => (advL ps).getD a 0) v (memb z) 0
  unfold twoOf
  rw [this, Nat.zero_testBit]
  simp only [Bool.false_eq_true, false_or]
  constructor
  · rintro ⟨a, h1, h2⟩
    have h3 := h1
    unfold memb at h3
    rw [List.mem_map] at h3
    obtain ⟨u, _, rfl⟩ := h3
    rw [Int.toNat_natCast, advL_bit h7] at h2
    exact ⟨u, ((mem_memb z u).1 h1).2, h2⟩
  · rintro ⟨u, h1, h2⟩
    refine ⟨(u : Int), (mem_memb z u).2 ⟨?_, h1⟩, by rw [Int.toNat_natCast, advL_bit h7]; exact h2⟩
    rcases Nat.lt_or_ge u 7 with h | h
    · exact h
    · have : z.testBit u = false := Nat.testBit_lt_two_pow (Nat.lt_of_lt_of_le (show z < 2 ^ 7 from hz) (Nat.pow_le_pow_right (by omega) h))
      rw [this] at h1; simp at h1

/-! ### values by a set of articles that have 0 -/
def bitI (m a : Nat) : Int := (((m >>> a) % 2 : Nat) : Int)
theorem bitI_eq (m a : Nat) : bitI m a = if m.testBit a = true then 1 else 0 := by
  unfold bitI
  have h := bit_zero m a
  have h2 : (m >>> a) % 2 < 2 := Nat.mod_lt _ (by omega)
  by_cases p : m.testBit a = true
  · rw [if_pos p]
    have : ¬ ((((m >>> a) % 2 : Nat) : Int) = 0) := by rw [h]; simp [p]
    omega
  · rw [if_neg p]
    rw [h]; simpa using p
def valsOf (n two z : Nat) : List Int := (List.range n).map fun a => 1 + bitI two a - bitI z a
def costOf (n two z : Nat) : Int := (n : Int) + (memb two).length - (memb z).length
theorem sum_map {α : Type} (f g h : α → Int) : ∀ l : List α, sumL (l.map fun a => 1 + f a - g a) = l.length + sumL (l.map f) - sumL (l.map g)
  | [] => by simp [sumL]
  | a :: r => by
    have := sum_map f g h r
    simp only [List.map_cons, sumL, List.length_cons, this]; omega
theorem bit_sums : (List.range 8).all (fun n => (List.range (2 ^ n)).all fun m => decide (sumL ((List.range n).map (bitI m)) = ((memb m).length : Int))) = true := by kernel_rfl
theorem bit_sum {n m : Nat} (hn : n ≤ 7) (hm : m < 2 ^ n) : sumL ((List.range n).map (bitI m)) = ((memb m).length : Int) := by
  have h := List.all_eq_true.1 bit_sums n (List.mem_range.2 (by omega))
  exact of_decide_eq_true (List.all_eq_true.1 h m (List.mem_range.2 hm))
theorem cost_sum {n two z : Nat} (hn : n ≤ 7) (h1 : two < 2 ^ n) (h2 : z < 2 ^ n) : sumL (valsOf n two z) = costOf n two z := by
  unfold valsOf costOf
  rw [sum_map (bitI two) (bitI z) (bitI z), bit_sum hn h1, bit_sum hn h2, List.length_range]
theorem lt_two {n x : Nat} (h : ∀ i, x.testBit i = true → i < n) : x < 2 ^ n := by
  apply Nat.lt_pow_two_of_testBit
  intro i hi
  cases h2 : x.testBit i
  · rfl
  · have := h i h2; omega
theorem bit_lt {n x i : Nat} (h : x < 2 ^ n) (h2 : x.testBit i = true) : i < n := by
  rcases Nat.lt_or_ge i n with h3 | h3
  · exact h3
  · have : x.testBit i = false := Nat.testBit_lt_two_pow (Nat.lt_of_lt_of_le h (Nat.pow_le_pow_right (by omega) h3))
    rw [this] at h2; simp at h2

/-- The values so far, what they cost, and one more set. -/
def hStep (n : Nat) (ps : List (Int × Int)) (s : List Int × Int) (z : Nat) : List Int × Int :=
  if twoOf ps z &&& z = 0 then
    (if s.1 = [] ∨ costOf n (twoOf ps z) z < s.2 ∨ costOf n (twoOf ps z) z = s.2 ∧ lexLt (valsOf n (twoOf ps z) z) s.1 = true then (valsOf n (twoOf ps z) z, costOf n (twoOf ps z) z) else s)
  else s
def halvesV (n : Nat) (ps : List (Int × Int)) : List Int := ((List.range (2 ^ n)).foldl (hStep n ps) ([], 0)).1

/-! ### the cheapest, and the first of these -/
def hG (s : List Int × Int) (c : List Int) : List Int × Int := if s.1 = [] ∨ sumL c < s.2 ∨ sumL c = s.2 ∧ lexLt c s.1 = true then (c, sumL c) else s
theorem hG_inv : ∀ Y : List (List Int), (∀ y ∈ Y, y ≠ []) → Y ≠ [] → (Y.foldl hG ([], 0)).1 ∈ Y ∧ (Y.foldl hG ([], 0)).2 = sumL (Y.foldl hG ([], 0)).1 ∧
    ∀ y ∈ Y, sumL (Y.foldl hG ([], 0)).1 ≤ sumL y ∧ (sumL y = sumL (Y.foldl hG ([], 0)).1 → lexLt y (Y.foldl hG ([], 0)).1 = false) := by
  apply rev_ind
  · simp
  · intro Z a ih hne _
    rw [List.foldl_append, List.foldl_cons, List.foldl_nil]
    have hZ : ∀ y ∈ Z, y ≠ [] := fun y hy => hne y (by simp [hy])
    have ha : a ≠ [] := hne a (by simp)
    by_cases hz : Z = []
    · subst hz
      have e : hG ([], 0) a = (a, sumL a) := by simp [hG]
      simp only [List.foldl_nil, e, List.nil_append]
      refine ⟨by simp, trivial, ?_⟩
      intro y hy; simp at hy; subst hy; exact ⟨Int.le_refl _, fun _ => lex_irrefl _⟩
    · obtain ⟨h1, h2, h3⟩ := ih hZ hz
      generalize Z.foldl hG ([], 0) = W at *
      obtain ⟨x, k⟩ := W
      simp only at h1 h2 h3
      subst h2
      have hx := hZ x h1
      by_cases p : sumL a < sumL x ∨ sumL a = sumL x ∧ lexLt a x = true
      · have e : hG (x, sumL x) a = (a, sumL a) := by unfold hG; rw [if_pos (.inr p)]
        rw [e]; simp only
        refine ⟨by simp, trivial, ?_⟩
        intro y hy
        rcases List.mem_append.1 hy with hy | hy
        · obtain ⟨g1, g2⟩ := h3 y hy
          rcases p with p | ⟨p, p2⟩
          · exact ⟨by omega, fun h => by omega⟩
          · refine ⟨by omega, fun h => lex_le (lex_asymm p2) (g2 (by omega))⟩
        · simp at hy; subst hy; exact ⟨Int.le_refl _, fun _ => lex_irrefl _⟩
      · have e : hG (x, sumL x) a = (x, sumL x) := by unfold hG; rw [if_neg (by simp only [hx, false_or]; exact p)]
        rw [e]; simp only
        refine ⟨by simp [h1], trivial, ?_⟩
        intro y hy
        rcases List.mem_append.1 hy with hy | hy
        · exact h3 y hy
        · simp at hy; subst hy
          rw [not_or] at p
          refine ⟨by omega, fun h => ?_⟩
          have := p.2
          cases q : lexLt y x
          · rfl
          · exact absurd ⟨h, q⟩ this

theorem lex_sorted (t : Nat) (ht : t = 1 ∨ t = 2) : ∀ k, (allL t k).Pairwise fun a b => lexLt a b = true := by
  intro k
  induction k with
  | zero => simp [allL]
  | succ k ih =>
    simp only [allL]
    rw [List.pairwise_flatMap]
    refine ⟨?_, ?_⟩
    · intro v hv
      rw [List.pairwise_map]
      refine ih.imp ?_
      intro a b h; simp [lexLt, h]
    · have hv : (vals t).Pairwise (· < ·) := by rcases ht with rfl | rfl <;> decide
      refine hv.imp ?_
      intro a b h x hx y hy
      rw [List.mem_map] at hx hy
      obtain ⟨x, _, rfl⟩ := hx
      obtain ⟨y, _, rfl⟩ := hy
      simp [lexLt, h]
theorem cheap_sorted (n t : Nat) (ht : t = 1 ∨ t = 2) (ps : List (Int × Int)) : (cheap n t ps).Pairwise fun a b => lexLt a b = true := by
  rw [cheap_eq]
  unfold leastOf
  exact ((lex_sorted t ht n).filter _).filter _
theorem head_least {X : List (List Int)} (h : X.Pairwise fun a b => lexLt a b = true) {x : List Int} {r : List (List Int)} (e : X = x :: r) : ∀ c ∈ X, lexLt c x = false := by
  subst e
  intro c hc
  rcases List.mem_cons.1 hc with rfl | hc
  · exact lex_irrefl _
  · exact lex_asymm ((List.pairwise_cons.1 h).1 c hc)

theorem allL1_mem : ∀ (v : List Int), (∀ x ∈ v, 0 ≤ x ∧ x ≤ 2) → v ∈ allL 1 v.length
  | [], _ => by simp [allL]
  | a :: r, h => by
    have ih := allL1_mem r (fun x hx => h x (by simp [hx]))
    have ha := h a (by simp)
    simp only [List.length_cons, allL, List.mem_flatMap, List.mem_map]
    refine ⟨a.toNat, ?_, r, ih, by rw [Int.toNat_of_nonneg ha.1]⟩
    have : a = 0 ∨ a = 1 ∨ a = 2 := by omega
    rcases this with rfl | rfl | rfl <;> decide
theorem list_range (v : List Int) (n : Nat) (h : v.length = n) : v = (List.range n).map (fun a => v.getD a 0) := by
  apply List.ext_getElem
  · simp [h]
  · intro i h1 h2
    simp [List.getD_eq_getElem?_getD, List.getElem?_eq_getElem h1]
theorem sum_le {f g : Nat → Int} : ∀ l : List Nat, (∀ a ∈ l, f a ≤ g a) → sumL (l.map f) ≤ sumL (l.map g) ∧ (sumL (l.map f) = sumL (l.map g) → l.map f = l.map g)
  | [], _ => by simp
  | a :: r, h => by
    obtain ⟨h1, h2⟩ := sum_le (f := f) (g := g) r (fun x hx => h x (by simp [hx]))
    have ha := h a (by simp)
    simp only [List.map_cons, sumL]
    refine ⟨by omega, fun h3 => ?_⟩
    rw [h2 (by omega), show f a = g a by omega]

/-- The articles that have 0. -/
def zerosOf (v : List Int) : Nat := setOf (withL 0 v 0) 0
theorem zeros_bit (v : List Int) (u : Nat) : (zerosOf v).testBit u = true ↔ v[u]? = some 0 := by
  unfold zerosOf
  rw [setOf_testBit _ _ _ (fun x hx => by obtain ⟨k, _, h⟩ := (mem_withL _ _ _ _).1 hx; omega), Nat.zero_testBit, mem_withL]
  simp only [Bool.false_eq_true, false_or]
  constructor
  · rintro ⟨k, h1, h2⟩
    have : k = u := by omega
    subst this; exact h1
  · intro h; exact ⟨u, h, by simp⟩

section
variable {n : Nat} {ps : List (Int × Int)} (hn1 : 1 ≤ n) (hn : n ≤ 7) (hps : ∀ p ∈ ps, 0 ≤ p.1 ∧ p.1 < p.2 ∧ p.2 < (n : Int)) (h7 : ∀ p ∈ ps, okP p)
include hps
theorem nb_lt {u v : Nat} (h : nb ps u v) : u < n ∧ v < n ∧ u ≠ v := by
  rcases h with h | h
  · have := hps _ h; simp only at this; omega
  · have := hps _ h; simp only at this; omega
/-- Values are enough just if those of two articles that contradict each other are. -/
theorem half_nb (v : List Int) : halfOk ps v = true ↔ ∀ a b : Nat, nb ps a b → 2 ≤ v.getD a 0 + v.getD b 0 := by
  unfold halfOk
  rw [List.all_eq_true]
  constructor
  · intro h a b hab
    rcases hab with hab | hab
    · have := h _ hab; simpa [enough] using this
    · have := h _ hab
      simp only [enough, Int.toNat_natCast, decide_eq_true_iff] at this
      omega
  · intro h p hp
    have := hps p hp
    obtain ⟨u, v⟩ := p
    simp only at this
    obtain ⟨u, rfl⟩ := Int.eq_ofNat_of_zero_le this.1
    obtain ⟨v, rfl⟩ := Int.eq_ofNat_of_zero_le (show 0 ≤ v by omega)
    simp only [enough, Int.toNat_natCast, decide_eq_true_iff]
    exact h u v (.inl hp)
include hn h7
theorem two_lt {z : Nat} (hz : z < 2 ^ n) : twoOf ps z < 2 ^ n := by
  have h128 : z < 128 := Nat.lt_of_lt_of_le hz (Nat.le_trans (Nat.pow_le_pow_right (by omega) hn) (by decide))
  apply lt_two
  intro i hi
  obtain ⟨u, _, h⟩ := (two_bit h7 z i h128).1 hi
  exact (nb_lt hps h).2.1
theorem indep_iff {z : Nat} (hz : z < 2 ^ n) : twoOf ps z &&& z = 0 ↔ ∀ a b, nb ps a b → ¬(z.testBit a = true ∧ z.testBit b = true) := by
  have h128 : z < 128 := Nat.lt_of_lt_of_le hz (Nat.le_trans (Nat.pow_le_pow_right (by omega) hn) (by decide))
  constructor
  · rintro h a b hab ⟨h1, h2⟩
    have h3 := (two_bit h7 z b h128).2 ⟨a, h1, hab⟩
    have h4 : (twoOf ps z &&& z).testBit b = true := by rw [Nat.testBit_and, h3, h2]; rfl
    rw [h, Nat.zero_testBit] at h4; simp at h4
  · intro h
    apply Nat.eq_of_testBit_eq
    intro b
    rw [Nat.zero_testBit, Nat.testBit_and, Bool.and_eq_false_iff]
    cases h1 : (twoOf ps z).testBit b
    · exact .inl rfl
    · right
      obtain ⟨u, h2, h3⟩ := (two_bit h7 z b h128).1 h1
      have := h u b h3
      cases h4 : z.testBit b
      · rfl
      · exact absurd ⟨h2, h4⟩ this
theorem vals_getD (two z : Nat) {a : Nat} (ha : a < n) : (valsOf n two z).getD a 0 = 1 + bitI two a - bitI z a := by
  unfold valsOf
  rw [List.getD_eq_getElem?_getD, List.getElem?_map, List.getElem?_range ha]; rfl
theorem vals_ok {z : Nat} (hz : z < 2 ^ n) (hi : twoOf ps z &&& z = 0) : halfOk ps (valsOf n (twoOf ps z) z) = true ∧ valsOf n (twoOf ps z) z ∈ allL 1 n := by
  have h128 : z < 128 := Nat.lt_of_lt_of_le hz (Nat.le_trans (Nat.pow_le_pow_right (by omega) hn) (by decide))
  have hi2 := (indep_iff hn hps h7 hz).1 hi
  have hdis : ∀ a, ¬((twoOf ps z).testBit a = true ∧ z.testBit a = true) := by
    rintro a ⟨h1, h2⟩
    obtain ⟨u, h3, h4⟩ := (two_bit h7 z a h128).1 h1
    exact hi2 u a h4 ⟨h3, h2⟩
  refine ⟨?_, ?_⟩
  · rw [half_nb hps]
    intro a b hab
    have hl := nb_lt hps hab
    rw [vals_getD hn hps h7 _ _ hl.1, vals_getD hn hps h7 _ _ hl.2.1]
    simp only [bitI_eq]
    have t1 : z.testBit a = true → (twoOf ps z).testBit b = true := fun h => (two_bit h7 z b h128).2 ⟨a, h, hab⟩
    have t2 : z.testBit b = true → (twoOf ps z).testBit a = true := fun h => (two_bit h7 z a h128).2 ⟨b, h, nb_symm hab⟩
    have t3 := hi2 a b hab
    cases h1 : z.testBit a <;> cases h2 : z.testBit b <;> simp only [h1, h2, true_implies, Bool.false_eq_true, false_implies, and_self, not_true_eq_false] at t1 t2 t3
    · simp; split <;> split <;> omega
    · simp [t2]; split <;> omega
    · simp [t1]; split <;> omega
  · have hm := allL1_mem (valsOf n (twoOf ps z) z) (by
      intro x hx
      unfold valsOf at hx
      rw [List.mem_map] at hx
      obtain ⟨a, _, rfl⟩ := hx
      simp only [bitI_eq]
      split <;> split <;> omega)
    have hl : (valsOf n (twoOf ps z) z).length = n := by simp [valsOf]
    rwa [hl] at hm
/-- Values that are enough cost at least what those by their zeros cost; if as much they are these. -/
theorem vals_least {v : List Int} (hv : v ∈ allL 1 n) (hok : halfOk ps v = true) :
    zerosOf v < 2 ^ n ∧ twoOf ps (zerosOf v) &&& zerosOf v = 0 ∧ sumL (valsOf n (twoOf ps (zerosOf v)) (zerosOf v)) ≤ sumL v ∧ (sumL (valsOf n (twoOf ps (zerosOf v)) (zerosOf v)) = sumL v → valsOf n (twoOf ps (zerosOf v)) (zerosOf v) = v) := by
  obtain ⟨hl, hb⟩ := allL_in n v hv
  have hz : zerosOf v < 2 ^ n := by
    apply lt_two; intro i hi
    have h1 := (zeros_bit v i).1 hi
    have := (List.getElem?_eq_some_iff.1 h1).1
    omega
  have h128 : zerosOf v < 128 := Nat.lt_of_lt_of_le hz (Nat.le_trans (Nat.pow_le_pow_right (by omega) hn) (by decide))
  have hok2 := (half_nb hps v).1 hok
  have hgd : ∀ a, (zerosOf v).testBit a = true → v.getD a 0 = 0 := by
    intro a ha
    rw [List.getD_eq_getElem?_getD, (zeros_bit v a).1 ha]; rfl
  have hi : twoOf ps (zerosOf v) &&& zerosOf v = 0 := by
    rw [indep_iff hn hps h7 hz]
    rintro a b hab ⟨h1, h2⟩
    have := hok2 a b hab
    rw [hgd a h1, hgd b h2] at this
    omega
  have hle := sum_le (f := fun a => 1 + bitI (twoOf ps (zerosOf v)) a - bitI (zerosOf v) a) (g := fun a => v.getD a 0) (List.range n) (by
    intro a ha
    rw [List.mem_range] at ha
    simp only [bitI_eq]
    have hba : 0 ≤ v.getD a 0 := by
      rw [List.getD_eq_getElem?_getD, List.getElem?_eq_getElem (show a < v.length by omega)]; exact (hb _ (List.getElem_mem _)).1
    have hnz : (zerosOf v).testBit a = false → 1 ≤ v.getD a 0 := by
      intro h
      have h2 : ¬ v[a]? = some 0 := by rw [← zeros_bit, h]; simp
      rw [List.getElem?_eq_getElem (show a < v.length by omega)] at h2
      rw [List.getD_eq_getElem?_getD, List.getElem?_eq_getElem (show a < v.length by omega)] at hba ⊢
      simp at h2 hba ⊢
      omega
    have h2two : (twoOf ps (zerosOf v)).testBit a = true → 2 ≤ v.getD a 0 := by
      intro h
      obtain ⟨u, h3, h4⟩ := (two_bit h7 _ a h128).1 h
      have := hok2 u a h4
      rw [hgd u h3] at this; omega
    generalize v.getD a 0 = w at *
    cases h1 : (zerosOf v).testBit a
    · have := hnz h1
      cases h2 : (twoOf ps (zerosOf v)).testBit a
      · simp; omega
      · have := h2two h2; simp; omega
    · cases h2 : (twoOf ps (zerosOf v)).testBit a
      · simp; omega
      · have := h2two h2; simp; omega)
  refine ⟨hz, hi, ?_, ?_⟩
  · have := hle.1
    rwa [← list_range v n hl] at this
  · intro h
    have e := hle.2 (by rw [← list_range v n hl]; exact h)
    rw [← list_range v n hl] at e
    exact e
include hn1
theorem halves_spec : halvesV n ps ∈ cheap n 1 ps ∧ ∀ c ∈ cheap n 1 ps, lexLt c (halvesV n ps) = false := by
  have hfold : ∀ (l : List Nat) (s : List Int × Int), (∀ z ∈ l, z < 2 ^ n) → l.foldl (hStep n ps) s = ((l.filter fun z => decide (twoOf ps z &&& z = 0)).map fun z => valsOf n (twoOf ps z) z).foldl hG s := by
    intro l
    induction l with
    | nil => intro s _; rfl
    | cons z r ih =>
      intro s h
      rw [List.foldl_cons, ih _ (fun y hy => h y (by simp [hy]))]
      have hz := h z (by simp)
      by_cases p : twoOf ps z &&& z = 0
      · rw [List.filter_cons, if_pos (by simp [p]), List.map_cons, List.foldl_cons]
        congr 1
        unfold hStep hG
        rw [if_pos p, cost_sum hn (two_lt hn hps h7 hz) hz]
      · rw [List.filter_cons, if_neg (by simp [p])]
        congr 1
        unfold hStep
        rw [if_neg p]
  unfold halvesV
  rw [hfold _ _ (fun z hz => List.mem_range.1 hz)]
  generalize hY : ((List.range (2 ^ n)).filter fun z => decide (twoOf ps z &&& z = 0)).map (fun z => valsOf n (twoOf ps z) z) = Y
  have hmem : ∀ y, y ∈ Y ↔ ∃ z, z < 2 ^ n ∧ twoOf ps z &&& z = 0 ∧ valsOf n (twoOf ps z) z = y := by
    intro y; rw [← hY]; simp [and_assoc]
  have hok : ∀ y ∈ Y, halfOk ps y = true ∧ y ∈ allL 1 n := by
    intro y hy
    obtain ⟨z, h1, h2, rfl⟩ := (hmem y).1 hy
    exact vals_ok hn hps h7 h1 h2
  have hne : ∀ y ∈ Y, y ≠ [] := by
    intro y hy h
    have := (allL_in n y (hok y hy).2).1
    rw [h] at this; simp at this; omega
  have hY0 : Y ≠ [] := by
    have h0 := (half_ne (n := n) 1 hps)
    obtain ⟨v, hv⟩ := List.exists_mem_of_ne_nil _ h0
    rw [List.mem_filter] at hv
    obtain ⟨g1, g2, _⟩ := vals_least hn hps h7 hv.1 hv.2
    exact List.ne_nil_of_mem ((hmem _).2 ⟨_, g1, g2, rfl⟩)
  obtain ⟨k1, _, k3⟩ := hG_inv Y hne hY0
  generalize (Y.foldl hG ([], 0)).1 = r at *
  have hr := hok r k1
  refine ⟨?_, ?_⟩
  · rw [cheap_mem]
    refine ⟨⟨hr.2, hr.1⟩, fun y hy1 hy2 => ?_⟩
    obtain ⟨g1, g2, g3, _⟩ := vals_least hn hps h7 hy1 hy2
    have := (k3 _ ((hmem _).2 ⟨_, g1, g2, rfl⟩)).1
    omega
  · intro c hc
    obtain ⟨⟨c1, c2⟩, c3⟩ := cheap_mem.1 hc
    obtain ⟨g1, g2, g3, g4⟩ := vals_least hn hps h7 c1 c2
    have hin := (hmem _).2 ⟨_, g1, g2, rfl⟩
    have k := k3 _ hin
    have c4 := c3 r hr.2 hr.1
    have e := g4 (by omega)
    rw [e] at k
    exact k.2 (by omega)
theorem halves_head : ∃ r, cheap n 1 ps = halvesV n ps :: r := by
  obtain ⟨h1, h2⟩ := halves_spec hn1 hn hps h7
  cases e : cheap n 1 ps with
  | nil => exact absurd e (cheap_ne 1 hps)
  | cons x r =>
    have h3 := head_least (cheap_sorted n 1 (.inl rfl) ps) e
    have : halvesV n ps = x := pick_unique (X := cheap n 1 ps) h1 (by rw [e]; simp) h2 h3
    exact ⟨r, by rw [this]⟩
end
end Go.Proofs.YtpmbfgogpcjdlaaDoor.Vm
