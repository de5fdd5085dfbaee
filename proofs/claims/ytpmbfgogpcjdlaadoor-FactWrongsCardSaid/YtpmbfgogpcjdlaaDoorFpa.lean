/- What is proved: what functions of this program answer, by the evaluator. No condition. -/
import Derived.Test.YtpmbfgogpcjdlaaDoorF10
set_option linter.all false
namespace Go.Proofs.YtpmbfgogpcjdlaaDoor.Vm
open Go Go.Ev
set_option maxRecDepth 100000
attribute [local go_sem] cells_any storable_any ren1_any shaped_ptr cells_ptr storable_ptr ren1_ptr shaped_eptr cells_eptr storable_eptr ren1_eptr shaped_rsl cells_rsl storable_rsl ren1_rsl shaped_int cells_int storable_int ren1_int shaped_bool cells_bool storable_bool ren1_bool shaped_nils cells_nils storable_nils ren1_nils shaped_lst cells_lst storable_lst shaped_fn cells_fn storable_fn ren1_fn shaped_ifc cells_ifc storable_ifc ren1_ifc shaped_agg cells_agg storable_agg ren1_agg shaped_tup cells_tup storable_tup ren1_tup shaped_nif cells_nif storable_nif ren1_nif ren1_lany ren1_lfull ren1_lown len_lst len_rsl len_nil load_ptr load_eptr isRsl_lst isRsl_nil isRsl_rsl elems_nil elems_lst elems_sl isRsl_sl body_eq bodyK_normal bodyK_ret resK_some leaveK_some only_some code_skip code_exit code_ret code_ops code_seq code_cond code_block seqK_normal seqK_ret seqK_exit condK_true condK_false blockK_normal blockK_ret blockK_exit opsK_some ops_nil ops_cons wantK_true wantK_false stepK_some pubs pub pub_sl params okRef_loc storable_loc shaped_loc cells_loc isRsl_loc elems_loc len_loc untips untip untip_sl wantedAV setElems withO isAgg_v isAgg_agg isAgg_lst isAgg_ptr isAgg_fn isAgg_ifc isAgg_rsl isAgg_sl isAgg_loc List.replicate_succ List.replicate_zero opAV valAV aval avals ofVal Env.get setD canon gcAV renAll renEnv renStore renCells ren1_sl cutSt okEnv okStore okRefs okRef okRef_sl bin_int bin_bool bin_lst bin_rsl bin_nil bin_agg cellsEq cellEq isShift intOp boolOp min_int max_int beq_int bne resAV tupAV leave_eq fin_sl fin_loc fins fin_v fin_lst fin_agg fin_tup fin_fn storeAV readCells putCells cells_sl shaped_sl storable_sl fieldAddrAV len_sl goI List.getElem?_cons_zero List.getElem?_cons_succ List.getElem?_nil Option.bind_some Option.map_some List.length_cons List.length_nil List.all_cons List.all_nil Bool.and_true Bool.true_and Bool.and_false Bool.false_and and_true true_and and_false false_and Bool.false_eq_true List.set_cons_zero List.set_cons_succ List.append_nil List.nil_append List.cons_append List.take_zero List.take_succ_cons List.take_nil List.drop_zero List.drop_succ_cons List.map_cons List.map_nil decide_true decide_false beq_self_eq_true Bool.not_true Bool.not_false or_true true_or or_false false_or Nat.zero_add Nat.add_zero Nat.le_refl Nat.lt_irrefl decide_eq_true_eq eq_self_iff_true not_true_eq_false not_false_eq_true List.getD_cons_zero code_loop Nat.zero_le Nat.not_lt_zero Bool.true_beq Bool.false_beq beq_true beq_false ge_iff_le gt_iff_lt Lpure pus Option.map_none assert_ifc assert_nil idxA_ptr idxA_eptr idxV_agg Int.cast_ofNat_Int Nat.mul_one Nat.zero_mul Int.toNat_natCast Int.toNat_zero setParts withO2 hasKey eqnil_sl nenil_sl eqnil_loc nenil_loc map_nil_iff okRefs_ints renCells_ints

/-! ### the least of a list, kept in order -/
def keepF {α : Type} (f : α → Int) (out : List α) (a : α) : List α :=
  match out with
  | [] => [a]
  | x :: r => if f a < f x then [a] else if f a = f x then (x :: r) ++ [a] else x :: r
def leastOf {α : Type} (f : α → Int) (Y : List α) : List α := Y.filter fun a => Y.all fun y => decide (f a ≤ f y)

theorem mem_least {α : Type} {f : α → Int} {Y : List α} {a : α} : a ∈ leastOf f Y ↔ a ∈ Y ∧ ∀ y ∈ Y, f a ≤ f y := by
  simp [leastOf]
theorem rev_ind {α : Type} {P : List α → Prop} (h0 : P []) (h1 : ∀ l a, P l → P (l ++ [a])) : ∀ l, P l := by
  intro l
  have : ∀ l : List α, P l.reverse := by
    intro l
    induction l with
    | nil => exact h0
    | cons a l ih => rw [List.reverse_cons]; exact h1 _ _ ih
  have h := this l.reverse
  rwa [List.reverse_reverse] at h
theorem least_of_min {α : Type} {f : α → Int} {Y : List α} {x : α} (hx : x ∈ Y) (h : ∀ y ∈ Y, f x ≤ f y) : leastOf f Y = Y.filter fun a => decide (f a = f x) := by
  unfold leastOf
  apply List.filter_congr
  intro a ha
  rw [Bool.eq_iff_iff, List.all_eq_true, decide_eq_true_iff]
  constructor
  · intro h2
    have := of_decide_eq_true (h2 x hx)
    have := h a ha
    omega
  · intro h2 y hy
    have := h y hy
    exact decide_eq_true (by omega)
theorem keepF_inv {α : Type} (f : α → Int) : ∀ Y : List α, (Y = [] → Y.foldl (keepF f) [] = []) ∧ (Y ≠ [] → ∃ x r, Y.foldl (keepF f) [] = x :: r ∧ x ∈ Y ∧ (∀ y ∈ Y, f x ≤ f y) ∧ Y.foldl (keepF f) [] = Y.filter fun a => decide (f a = f x)) := by
  apply rev_ind
  · simp
  · intro Z a ih
    refine ⟨by simp, fun _ => ?_⟩
    rw [List.foldl_append, List.foldl_cons, List.foldl_nil]
    by_cases hz : Z = []
    · subst hz
      refine ⟨a, [], rfl, by simp, by simp, ?_⟩
      simp [keepF]
    · obtain ⟨x, r, h1, h2, h3, h4⟩ := ih.2 hz
      generalize hW : Z.foldl (keepF f) [] = W at *
      subst h1
      by_cases p1 : f a < f x
      · refine ⟨a, [], by simp [keepF, p1], by simp, ?_, ?_⟩
        · intro y hy
          rcases List.mem_append.1 hy with hy | hy
          · have := h3 y hy; omega
          · simp at hy; subst hy; omega
        · have e : Z.filter (fun y => decide (f y = f a)) = [] := by
            rw [List.filter_eq_nil_iff]; intro y hy; have := h3 y hy; simp; omega
          rw [List.filter_append, e]; simp [keepF, p1]
      · by_cases p2 : f a = f x
        · refine ⟨x, r ++ [a], by simp only [keepF]; rw [if_neg p1, if_pos p2]; rfl, by simp [h2], ?_, ?_⟩
          · intro y hy
            rcases List.mem_append.1 hy with hy | hy
            · exact h3 y hy
            · simp at hy; subst hy; omega
          · rw [List.filter_append, ← h4]; simp only [keepF]; rw [if_neg p1, if_pos p2]; simp [p2]
        · refine ⟨x, r, by simp only [keepF]; rw [if_neg p1, if_neg p2], by simp [h2], ?_, ?_⟩
          · intro y hy
            rcases List.mem_append.1 hy with hy | hy
            · exact h3 y hy
            · simp at hy; subst hy; omega
          · rw [List.filter_append, ← h4]; simp only [keepF]; rw [if_neg p1, if_neg p2]; simp [p2]
theorem keepF_spec {α : Type} (f : α → Int) (Y : List α) : Y.foldl (keepF f) [] = leastOf f Y := by
  by_cases h : Y = []
  · subst h; rfl
  · obtain ⟨x, r, h1, h2, h3, h4⟩ := (keepF_inv f Y).2 h
    rw [h4, least_of_min h2 h3]
theorem least_ne {α : Type} (f : α → Int) (Y : List α) (h : Y ≠ []) : leastOf f Y ≠ [] := by
  obtain ⟨x, r, h1, h2, h3, h4⟩ := (keepF_inv f Y).2 h
  rw [← keepF_spec, h1]; simp
theorem least_map {α β : Type} {f : α → Int} {g : β → Int} (W : α → β) (Y : List α) (h : ∀ a ∈ Y, ∀ b ∈ Y, f a ≤ f b ↔ g (W a) ≤ g (W b)) : (leastOf f Y).map W = leastOf g (Y.map W) := by
  unfold leastOf
  rw [List.filter_map]
  congr 1
  apply List.filter_congr
  intro a ha
  rw [Bool.eq_iff_iff]
  simp only [Function.comp, List.all_eq_true, decide_eq_true_iff, List.mem_map]
  constructor
  · rintro h2 _ ⟨b, hb, rfl⟩; exact (h a ha b hb).1 (h2 b hb)
  · intro h2 b hb; exact (h a ha b hb).2 (h2 _ ⟨b, hb, rfl⟩)
theorem least_perm {α : Type} (f : α → Int) {A B : List α} (h : A.Perm B) : (leastOf f A).Perm (leastOf f B) := by
  unfold leastOf
  have e : (fun a => A.all fun y => decide (f a ≤ f y)) = fun a => B.all fun y => decide (f a ≤ f y) := by
    funext a
    rw [Bool.eq_iff_iff]
    simp only [List.all_eq_true]
    constructor
    · intro h2 y hy; exact h2 y (h.mem_iff.2 hy)
    · intro h2 y hy; exact h2 y (h.mem_iff.1 hy)
  rw [e]
  exact h.filter _

/-! ### the order of lists -/
theorem lex_irrefl : ∀ a, lexLt a a = false
  | [] => rfl
  | a :: r => by simp [lexLt, lex_irrefl r]
theorem lex_total : ∀ a b, lexLt a b = false → lexLt b a = false → a = b
  | [], [], _, _ => rfl
  | [], b :: s, h, _ => by simp [lexLt] at h
  | a :: r, [], _, h => by simp [lexLt] at h
  | a :: r, b :: s, h1, h2 => by
    simp only [lexLt, Bool.or_eq_false_iff, Bool.and_eq_false_iff, decide_eq_false_iff_not] at h1 h2
    have e : a = b := by omega
    subst e
    simp at h1 h2
    rw [lex_total r s h1 h2]
theorem lex_trans : ∀ a b c, lexLt a b = true → lexLt b c = true → lexLt a c = true
  | a, [], c, h, _ => by cases a <;> simp [lexLt] at h
  | a, b :: s, [], _, h => by simp [lexLt] at h
  | [], b :: s, c :: t, _, _ => rfl
  | a :: r, b :: s, c :: t, h1, h2 => by
    simp only [lexLt, Bool.or_eq_true, Bool.and_eq_true, decide_eq_true_iff] at h1 h2 ⊢
    rcases h1 with h1 | ⟨rfl, h1⟩
    · rcases h2 with h2 | ⟨rfl, h2⟩
      · left; omega
      · left; exact h1
    · rcases h2 with h2 | ⟨rfl, h2⟩
      · left; exact h2
      · right; exact ⟨rfl, lex_trans r s t h1 h2⟩
theorem lex_asymm {a b : List Int} (h : lexLt a b = true) : lexLt b a = false := by
  cases h2 : lexLt b a
  · rfl
  · have := lex_trans _ _ _ h h2; rw [lex_irrefl] at this; simp at this
/-- not behind: transitive. -/
theorem lex_le {a b c : List Int} (h1 : lexLt b a = false) (h2 : lexLt c b = false) : lexLt c a = false := by
  cases h : lexLt c a
  · rfl
  · cases h3 : lexLt a b
    · have := lex_total _ _ h3 h1; subst this; rw [h2] at h; simp at h
    · have := lex_trans _ _ _ h h3; rw [h2] at this; simp at this

/-- The first one in this order. -/
def pickL (best c : List Int) : List Int := if lexLt c best = true then c else best
theorem pickL_spec : ∀ (r : List (List Int)) (b : List Int), r.foldl pickL b ∈ b :: r ∧ ∀ c ∈ b :: r, lexLt c (r.foldl pickL b) = false
  | [], b => by simp [lex_irrefl]
  | a :: r, b => by
    rw [List.foldl_cons]
    obtain ⟨h1, h2⟩ := pickL_spec r (pickL b a)
    have hp : pickL b a = a ∨ pickL b a = b := by unfold pickL; split <;> simp
    have ha : lexLt a (pickL b a) = false := by
      unfold pickL; split
      · exact lex_irrefl _
      · next h => simpa using h
    have hb : lexLt b (pickL b a) = false := by
      unfold pickL; split
      · next h => exact lex_asymm h
      · exact lex_irrefl _
    refine ⟨?_, ?_⟩
    · rcases List.mem_cons.1 h1 with h | h
      · rw [h]; rcases hp with h | h <;> simp [h]
      · simp [h]
    · intro c hc
      have hk := h2 _ (List.mem_cons_self)
      rcases List.mem_cons.1 hc with rfl | hc
      · exact lex_le hk hb
      · rcases List.mem_cons.1 hc with rfl | hc
        · exact lex_le hk ha
        · exact h2 c (List.mem_cons_of_mem _ hc)

/-! ### the first of the shortest ones, and how many there are -/
def shG (s : List Int × Nat) (c : List Int) : List Int × Nat :=
  if 0 < s.2 ∧ s.1.length < c.length then s
  else if s.2 = 0 ∨ c.length < s.1.length then (c, 1)
  else (if lexLt c s.1 = true then c else s.1, s.2 + 1)
def lenI (l : List Int) : Int := l.length
theorem shG_inv : ∀ Y : List (List Int), Y ≠ [] → 0 < (Y.foldl shG ([], 0)).2 ∧ (Y.foldl shG ([], 0)).1 ∈ Y ∧ (∀ y ∈ Y, lenI (Y.foldl shG ([], 0)).1 ≤ lenI y) ∧
    (∀ y ∈ Y, lenI y = lenI (Y.foldl shG ([], 0)).1 → lexLt y (Y.foldl shG ([], 0)).1 = false) ∧ (Y.foldl shG ([], 0)).2 = (Y.filter fun a => decide (lenI a = lenI (Y.foldl shG ([], 0)).1)).length := by
  apply rev_ind
  · simp
  · intro Z a ih _
    rw [List.foldl_append, List.foldl_cons, List.foldl_nil]
    by_cases hz : Z = []
    · subst hz
      have e : shG ([], 0) a = (a, 1) := by simp [shG]
      simp only [List.foldl_nil, e, List.nil_append]
      refine ⟨by simp, by simp, by simp, by simp [lex_irrefl], by simp⟩
    · obtain ⟨h1, h2, h3, h4, h5⟩ := ih hz
      generalize hW : Z.foldl shG ([], 0) = W at *
      obtain ⟨x, k⟩ := W
      simp only at h1 h2 h3 h4 h5
      by_cases p0 : x.length < a.length
      · have e : shG (x, k) a = (x, k) := by unfold shG; rw [if_pos ⟨h1, p0⟩]
        have q : ¬ lenI a = lenI x := by unfold lenI; omega
        rw [e]; simp only
        refine ⟨h1, by simp [h2], ?_, ?_, ?_⟩
        · intro y hy
          rcases List.mem_append.1 hy with hy | hy
          · exact h3 y hy
          · simp at hy; subst hy; unfold lenI; omega
        · intro y hy
          rcases List.mem_append.1 hy with hy | hy
          · exact h4 y hy
          · simp at hy; subst hy; intro h; exact absurd h q
        · rw [List.filter_append, List.length_append, ← h5]; simp [q]
      · by_cases p1 : a.length < x.length
        · have e : shG (x, k) a = (a, 1) := by unfold shG; rw [if_neg (by simp only; omega), if_pos (.inr p1)]
          have e2 : Z.filter (fun y => decide (lenI y = lenI a)) = [] := by
            rw [List.filter_eq_nil_iff]; intro y hy; have := h3 y hy; unfold lenI at this ⊢; simp; omega
          rw [e]; simp only
          refine ⟨by omega, by simp, ?_, ?_, ?_⟩
          · intro y hy
            rcases List.mem_append.1 hy with hy | hy
            · have := h3 y hy; unfold lenI at this ⊢; omega
            · simp at hy; subst hy; omega
          · intro y hy
            rcases List.mem_append.1 hy with hy | hy
            · have := h3 y hy; unfold lenI at this ⊢; omega
            · simp at hy; subst hy; intro _; exact lex_irrefl _
          · rw [List.filter_append, e2]; simp
        · have e : shG (x, k) a = (pickL x a, k + 1) := by unfold shG pickL; rw [if_neg (by simp only; omega), if_neg (by simp only; omega)]
          have q : lenI a = lenI x := by unfold lenI; omega
          have hp : pickL x a = a ∨ pickL x a = x := by unfold pickL; split <;> simp
          have q2 : lenI (pickL x a) = lenI x := by rcases hp with h | h <;> rw [h]; exact q
          obtain ⟨g1, g2⟩ := pickL_spec [a] x
          simp only [List.foldl_cons, List.foldl_nil] at g1 g2
          have ga := g2 a (by simp)
          have gx := g2 x (by simp)
          rw [e]; simp only
          refine ⟨by omega, ?_, ?_, ?_, ?_⟩
          · rcases hp with h | h <;> rw [h] <;> simp [h2]
          · intro y hy
            rw [q2]
            rcases List.mem_append.1 hy with hy | hy
            · exact h3 y hy
            · simp at hy; subst hy; omega
          · intro y hy
            rw [q2]
            rcases List.mem_append.1 hy with hy | hy
            · intro h; exact lex_le gx (h4 y hy h)
            · simp at hy; subst hy; intro _; exact ga
          · rw [q2, List.filter_append, List.length_append, ← h5]; simp [q]
theorem shG_spec (Y : List (List Int)) (h : Y ≠ []) : (Y.foldl shG ([], 0)).1 ∈ leastOf lenI Y ∧ (∀ c ∈ leastOf lenI Y, lexLt c (Y.foldl shG ([], 0)).1 = false) ∧ (Y.foldl shG ([], 0)).2 = (leastOf lenI Y).length := by
  obtain ⟨h1, h2, h3, h4, h5⟩ := shG_inv Y h
  rw [least_of_min h2 h3]
  refine ⟨?_, ?_, h5⟩
  · rw [List.mem_filter]; exact ⟨h2, by simp⟩
  · intro c hc
    rw [List.mem_filter] at hc
    exact h4 c hc.1 (of_decide_eq_true hc.2)
end Go.Proofs.YtpmbfgogpcjdlaaDoor.Vm
