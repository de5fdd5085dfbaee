/- What is proved: what each function of this program computes, as equations on the evaluator. No condition. -/
import Derived.Test.YtiifibgadipalaaC2
set_option linter.all false
namespace Go.Proofs.Ytiifibgadipalaa.Vm
open Go Go.Ev
set_option maxRecDepth 100000
attribute [local go_sem] cells_any storable_any ren1_any shaped_ptr cells_ptr storable_ptr ren1_ptr shaped_eptr cells_eptr storable_eptr ren1_eptr shaped_rsl cells_rsl storable_rsl ren1_rsl shaped_int cells_int storable_int ren1_int shaped_bool cells_bool storable_bool ren1_bool shaped_nils cells_nils storable_nils ren1_nils shaped_lst cells_lst storable_lst shaped_fn cells_fn storable_fn ren1_fn shaped_ifc cells_ifc storable_ifc ren1_ifc shaped_agg cells_agg storable_agg ren1_agg shaped_tup cells_tup storable_tup ren1_tup shaped_nif cells_nif storable_nif ren1_nif ren1_lany ren1_lfull ren1_lown len_lst len_rsl len_nil load_ptr load_eptr isRsl_lst isRsl_nil isRsl_rsl elems_nil elems_lst elems_sl isRsl_sl body_eq bodyK_normal bodyK_ret resK_some leaveK_some only_some code_skip code_exit code_ret code_ops code_seq code_cond code_block seqK_normal seqK_ret seqK_exit condK_true condK_false blockK_normal blockK_ret blockK_exit opsK_some ops_nil ops_cons wantK_true wantK_false stepK_some pubs pub pub_sl params okRef_loc storable_loc shaped_loc cells_loc isRsl_loc elems_loc len_loc untips untip untip_sl wantedAV setElems withO isAgg_v isAgg_agg isAgg_lst isAgg_ptr isAgg_fn isAgg_ifc isAgg_rsl isAgg_sl isAgg_loc List.replicate_succ List.replicate_zero opAV valAV aval avals ofVal Env.get setD canon gcAV renAll renEnv renStore renCells ren1_sl cutSt okEnv okStore okRefs okRef okRef_sl bin_int bin_bool bin_lst bin_rsl bin_nil bin_agg cellsEq cellEq isShift intOp boolOp min_int max_int beq_int bne resAV tupAV leave_eq fin_sl fin_loc fins fin_v fin_lst fin_agg fin_tup fin_fn storeAV readCells putCells cells_sl shaped_sl storable_sl fieldAddrAV len_sl goI List.getElem?_cons_zero List.getElem?_cons_succ List.getElem?_nil Option.bind_some Option.map_some List.length_cons List.length_nil List.all_cons List.all_nil Bool.and_true Bool.true_and Bool.and_false Bool.false_and and_true true_and and_false false_and Bool.false_eq_true List.set_cons_zero List.set_cons_succ List.append_nil List.nil_append List.cons_append List.take_zero List.take_succ_cons List.take_nil List.drop_zero List.drop_succ_cons List.map_cons List.map_nil decide_true decide_false beq_self_eq_true Bool.not_true Bool.not_false or_true true_or or_false false_or Nat.zero_add Nat.add_zero Nat.le_refl Nat.lt_irrefl decide_eq_true_eq eq_self_iff_true not_true_eq_false not_false_eq_true List.getD_cons_zero code_loop Nat.zero_le Nat.not_lt_zero Bool.true_beq Bool.false_beq beq_true beq_false ge_iff_le gt_iff_lt Lpure pus assert_ifc assert_nil idxA_ptr idxA_eptr idxV_agg Int.cast_ofNat_Int Nat.mul_one Nat.zero_mul Int.toNat_natCast Int.toNat_zero setParts withO2 eqnil_sl nenil_sl eqnil_loc nenil_loc map_nil_iff okRefs_ints renCells_ints

/-! ### plain laws on cuts -/

/-- The good cuts of the articles from b on. -/
def goods (n : Nat) (p : Int → Int → Bool) (b : Nat) : List (List Int) := (cutsOf n b).filter (okC p b)

theorem goods_end {n b : Nat} (p : Int → Int → Bool) (h : n ≤ b) : goods n p b = [[]] := by
  unfold goods; rw [cutsOf_end h]; rfl
theorem filter_flatMap' {α β : Type} (q : β → Bool) (f : α → List β) : ∀ l : List α, (l.flatMap f).filter q = l.flatMap fun x => (f x).filter q
  | [] => rfl
  | a :: r => by simp only [List.flatMap_cons, List.filter_append, filter_flatMap' q f r]
theorem goods_eq {n b : Nat} (p : Int → Int → Bool) (h : b < n) :
    goods n p b = (List.range' (b + 1) (n - b)).flatMap fun (e : Nat) => if p b e = true then (goods n p e).map ((e : Int) :: ·) else [] := by
  unfold goods
  rw [cutsOf_eq h, filter_flatMap']
  refine flatMap_congr' fun e _ => ?_
  rw [List.filter_map]
  split
  · next h1 =>
    congr 1
    apply List.filter_congr
    intro c _
    simp only [Function.comp, okC, h1, Bool.true_and]
  · next h1 =>
    have h1 : p b e = false := by simpa using h1
    have : (cutsOf n e).filter (okC p b ∘ fun x => (e : Int) :: x) = [] := by
      rw [List.filter_eq_nil_iff]
      intro c _
      simp [Function.comp, okC, h1]
    rw [this]; rfl

/-- A good cut, told without a list of them. -/
def IsGood (n : Nat) (p : Int → Int → Bool) : Nat → List Int → Prop
  | b, [] => n ≤ b
  | b, e :: r => ∃ e' : Nat, e = e' ∧ b < e' ∧ e' ≤ n ∧ p b e = true ∧ IsGood n p e' r
theorem goods_iff (n : Nat) (p : Int → Int → Bool) : ∀ (m b : Nat), n - b = m → ∀ c, c ∈ goods n p b ↔ IsGood n p b c := by
  intro m
  induction m using Nat.strongRecOn with
  | ind m ih =>
    intro b hm c
    by_cases h : b < n
    · rw [goods_eq p h]
      simp only [List.mem_flatMap, List.mem_range']
      constructor
      · rintro ⟨e, ⟨i, hi, rfl⟩, hc⟩
        split at hc
        · next hp =>
          obtain ⟨r, hr, rfl⟩ := List.mem_map.1 hc
          exact ⟨b + 1 + 1 * i, rfl, by omega, by omega, hp, (ih _ (by omega) _ rfl r).1 hr⟩
        · simp at hc
      · intro hg
        cases c with
        | nil => simp only [IsGood] at hg; omega
        | cons e r =>
          obtain ⟨e', rfl, h1, h2, h3, h4⟩ := hg
          refine ⟨e', ⟨e' - (b + 1), by omega, by omega⟩, ?_⟩
          rw [if_pos h3]
          exact List.mem_map.2 ⟨r, (ih _ (by omega) e' rfl r).2 h4, rfl⟩
    · rw [goods_end p (by omega)]
      cases c with
      | nil => simp [IsGood]; omega
      | cons e r =>
        simp only [List.mem_singleton, reduceCtorEq, false_iff]
        rintro ⟨e', _, h1, h2, _⟩
        omega

/-- The first of the shortest lists, and the last of them. -/
def firstMin : List (List Int) → Option (List Int)
  | [] => none
  | x :: r => match firstMin r with
    | none => some x
    | some y => if y.length < x.length then some y else some x
def lastMin : List (List Int) → Option (List Int)
  | [] => none
  | x :: r => match lastMin r with
    | none => some x
    | some y => if y.length ≤ x.length then some y else some x

theorem pickLe_eq : ∀ (l : List (List Int)) (b : List Int), pickLe b l = match lastMin l with | none => b | some y => if y.length ≤ b.length then y else b
  | [], b => rfl
  | x :: r, b => by
    have ih := pickLe_eq r
    simp only [pickLe, List.foldl_cons, lastMin] at ih ⊢
    rw [ih]
    cases lastMin r with
    | none => simp only
    | some y => by_cases h1 : x.length ≤ b.length <;> by_cases h2 : y.length ≤ x.length <;> by_cases h3 : y.length ≤ b.length <;> simp [h1, h2, h3] <;> omega
theorem pickLt_eq : ∀ (l : List (List Int)) (b : List Int), pickLt b l = match firstMin l with | none => b | some y => if y.length < b.length then y else b
  | [], b => rfl
  | x :: r, b => by
    have ih := pickLt_eq r
    simp only [pickLt, List.foldl_cons, firstMin] at ih ⊢
    rw [ih]
    cases firstMin r with
    | none => simp only
    | some y => by_cases h1 : x.length < b.length <;> by_cases h2 : y.length < x.length <;> by_cases h3 : y.length < b.length <;> simp [h1, h2, h3] <;> omega
theorem pickLe_cons (x : List Int) (r : List (List Int)) : lastMin (x :: r) = some (pickLe x r) := by
  rw [pickLe_eq]; simp only [lastMin]
  cases lastMin r with
  | none => rfl
  | some y => simp only; split <;> rfl
theorem pickLt_cons (x : List Int) (r : List (List Int)) : firstMin (x :: r) = some (pickLt x r) := by
  rw [pickLt_eq]; simp only [firstMin]
  cases firstMin r with
  | none => rfl
  | some y => simp only; split <;> rfl

theorem lastMin_none {l : List (List Int)} : lastMin l = none ↔ l = [] := by
  cases l with
  | nil => simp [lastMin]
  | cons x r => rw [pickLe_cons]; simp
theorem lastMin_mem : ∀ {l : List (List Int)} {y : List Int}, lastMin l = some y → y ∈ l ∧ ∀ z ∈ l, y.length ≤ z.length
  | [], y, h => by simp [lastMin] at h
  | x :: r, y, h => by
    simp only [lastMin] at h
    split at h
    · next hr =>
      rw [lastMin_none] at hr
      simp only [Option.some.injEq] at h
      subst hr; subst h
      simp
    · next w hw =>
      obtain ⟨h1, h2⟩ := lastMin_mem hw
      split at h
      · simp only [Option.some.injEq] at h
        subst h
        refine ⟨by simp [h1], fun z hz => ?_⟩
        rcases List.mem_cons.1 hz with rfl | hz
        · assumption
        · exact h2 z hz
      · next hlt =>
        simp only [Option.some.injEq] at h
        subst h
        refine ⟨by simp, fun z hz => ?_⟩
        rcases List.mem_cons.1 hz with rfl | hz
        · exact Nat.le_refl _
        · have := h2 z hz; omega
theorem lastMin_append {l1 l2 : List (List Int)} {y : List Int} (h : lastMin l2 = some y) (hle : ∀ z ∈ l1, y.length ≤ z.length) : lastMin (l1 ++ l2) = some y := by
  induction l1 with
  | nil => exact h
  | cons x r ih =>
    simp only [List.cons_append, lastMin]
    rw [ih fun z hz => hle z (by simp [hz])]
    simp only
    rw [if_pos (hle x (by simp))]
theorem lastMin_map (e : Int) (l : List (List Int)) : lastMin (l.map (e :: ·)) = (lastMin l).map (e :: ·) := by
  induction l with
  | nil => rfl
  | cons x r ih =>
    simp only [List.map_cons, lastMin, ih]
    cases lastMin r with
    | none => rfl
    | some y => simp only [Option.map_some, List.length_cons, Nat.add_le_add_iff_right]; split <;> rfl

/-- What is good stays good if it is made smaller. -/
def Mono (n : Nat) (p : Int → Int → Bool) : Prop := ∀ b b' e' e : Nat, b ≤ b' → b' ≤ e' → e' ≤ e → e ≤ n → p b e = true → p b' e' = true

/-- A good cut without its first articles. -/
theorem good_drop {n : Nat} {p : Int → Int → Bool} (hp : Mono n p) : ∀ (c : List Int) (b b' : Nat), b ≤ b' → b' ≤ n → IsGood n p b c → ∃ c', IsGood n p b' c' ∧ c'.length ≤ c.length
  | [], b, b', h, h2, hg => ⟨[], by simp only [IsGood] at hg ⊢; omega, Nat.le_refl _⟩
  | e :: r, b, b', h, h2, hg => by
    obtain ⟨e', rfl, h3, h4, h5, h6⟩ := hg
    by_cases hb : b' < e'
    · exact ⟨(e' : Int) :: r, ⟨e', rfl, hb, h4, hp b b' e' e' h (by omega) (Nat.le_refl _) h4 h5, h6⟩, Nat.le_refl _⟩
    · obtain ⟨c', h7, h8⟩ := good_drop hp r e' b' (by omega) h2 h6
      exact ⟨c', h7, by simp only [List.length_cons]; omega⟩

/-- The last shortest good cut begins with the longest good volume. -/
theorem lastMin_goods {n : Nat} {p : Int → Int → Bool} (hp : Mono n p) {b E : Nat} (hb : b < E) (hE : E ≤ n) (h1 : p b E = true) (h2 : ∀ e, E < e → e ≤ n → p b e = false) {y : List Int} (hy : lastMin (goods n p E) = some y) :
    lastMin (goods n p b) = some ((E : Int) :: y) := by
  rw [goods_eq p (by omega), show n - b = (E - (b + 1)) + ((n - E) + 1) by omega, ← List.range'_append_1, List.flatMap_append]
  refine lastMin_append ?_ fun z hz => ?_
  · rw [show b + 1 + (E - (b + 1)) = E by omega, List.range'_succ, List.flatMap_cons, if_pos h1]
    have : ((List.range' (E + 1) (n - E)).flatMap fun (e : Nat) => if p b e = true then (goods n p e).map ((e : Int) :: ·) else []) = [] := by
      rw [List.flatMap_eq_nil_iff]
      intro e he
      simp only [List.mem_range'] at he
      obtain ⟨i, hi, rfl⟩ := he
      rw [if_neg (by rw [h2 _ (by omega) (by omega)]; simp)]
    rw [this, List.append_nil, lastMin_map, hy]; rfl
  · simp only [List.mem_flatMap, List.mem_range'] at hz
    obtain ⟨e, ⟨i, hi, rfl⟩, hz⟩ := hz
    split at hz
    · obtain ⟨r, hr, rfl⟩ := List.mem_map.1 hz
      have hr := (goods_iff n p _ _ rfl r).1 hr
      obtain ⟨c', h7, h8⟩ := good_drop hp r _ E (by omega) hE hr
      have := (lastMin_mem hy).2 c' ((goods_iff n p _ _ rfl c').2 h7)
      simp only [List.length_cons]
      omega
    · simp at hz

/-- Greedily. -/
theorem fill_goods (l : List Int) (room : Int) (n : Nat) (hp : Mono n (fun b e => decide (seg l b e ≤ room))) (hsing : ∀ e : Nat, 1 ≤ e → e ≤ n → seg l ((e : Int) - 1) e ≤ room) :
    ∀ (k b e : Nat) (out : List Int), e + k = n + 1 → b < e → (e = b + 1 ∨ seg l b ((e : Int) - 1) ≤ room) → b < n →
      ∃ r, fillFrom l room k b e out = some (out ++ r) ∧ lastMin (goods n (fun b e => decide (seg l b e ≤ room)) b) = some (r ++ [(n : Int)])
  | 0, b, e, out, hk, hbe, hpre, hbn => by
    refine ⟨[], by simp [fillFrom], ?_⟩
    have h1 : decide (seg l b n ≤ room) = true := by
      rcases hpre with h | h
      · have := hsing (b + 1) (by omega) (by omega)
        rw [show ((b + 1 : Nat) : Int) - 1 = b by omega] at this
        rw [show n = b + 1 by omega]; simpa using this
      · rw [show (e : Int) - 1 = n by omega] at h; simpa using h
    exact lastMin_goods hp hbn (Nat.le_refl _) h1 (fun e h1 h2 => by omega) (by rw [goods_end _ (Nat.le_refl _)]; rfl)
  | k + 1, b, e, out, hk, hbe, hpre, hbn => by
    simp only [fillFrom]
    rw [if_neg (by have := hsing e (by omega) (by omega); omega)]
    split
    · next hlt =>
      have hb1 : b < e - 1 := by
        rcases hpre with h | h
        · exfalso
          have := hsing e (by omega) (by omega)
          rw [h] at this hlt
          rw [show ((b + 1 : Nat) : Int) - 1 = b by omega] at this
          omega
        · rcases Nat.lt_or_ge b (e - 1) with h1 | h1
          · exact h1
          · exfalso
            have := hsing e (by omega) (by omega)
            rw [show (e : Int) - 1 = b by omega] at this
            omega
      have hE : seg l b ((e : Int) - 1) ≤ room := by
        rcases hpre with h | h
        · omega
        · exact h
      obtain ⟨r, h1, h2⟩ := fill_goods l room n hp hsing k (e - 1) (e + 1) (out ++ [(e : Int) - 1]) (by omega) (by omega) (.inr (by
        have := hsing e (by omega) (by omega)
        rw [show ((e - 1 : Nat) : Int) = (e : Int) - 1 by omega, show ((e + 1 : Nat) : Int) - 1 = e by omega]; exact this)) (by omega)
      refine ⟨((e : Int) - 1) :: r, by rw [h1]; simp, ?_⟩
      have := lastMin_goods hp (b := b) (E := e - 1) hb1 (by omega) (by rw [show ((e - 1 : Nat) : Int) = (e : Int) - 1 by omega]; simpa using hE) (fun e' h3 h4 => by
        rw [decide_eq_false_iff_not]
        intro h5
        have := hp b b e e' (Nat.le_refl _) (by omega) (by omega) h4 (by simpa using h5)
        simp at this; omega) h2
      rw [this, show ((e - 1 : Nat) : Int) = (e : Int) - 1 by omega]; rfl
    · next hlt =>
      exact fill_goods l room n hp hsing k b (e + 1) out (by omega) (by omega) (.inr (by rw [show ((e + 1 : Nat) : Int) - 1 = e by omega]; omega)) hbn
end Go.Proofs.Ytiifibgadipalaa.Vm

namespace Go.Proofs.Ytiifibgadipalaa.Vm
open Go Go.Ev
set_option maxRecDepth 100000
attribute [local go_sem] cells_any storable_any ren1_any shaped_ptr cells_ptr storable_ptr ren1_ptr shaped_eptr cells_eptr storable_eptr ren1_eptr shaped_rsl cells_rsl storable_rsl ren1_rsl shaped_int cells_int storable_int ren1_int shaped_bool cells_bool storable_bool ren1_bool shaped_nils cells_nils storable_nils ren1_nils shaped_lst cells_lst storable_lst shaped_fn cells_fn storable_fn ren1_fn shaped_ifc cells_ifc storable_ifc ren1_ifc shaped_agg cells_agg storable_agg ren1_agg shaped_tup cells_tup storable_tup ren1_tup shaped_nif cells_nif storable_nif ren1_nif ren1_lany ren1_lfull ren1_lown len_lst len_rsl len_nil load_ptr load_eptr isRsl_lst isRsl_nil isRsl_rsl elems_nil elems_lst elems_sl isRsl_sl body_eq bodyK_normal bodyK_ret resK_some leaveK_some only_some code_skip code_exit code_ret code_ops code_seq code_cond code_block seqK_normal seqK_ret seqK_exit condK_true condK_false blockK_normal blockK_ret blockK_exit opsK_some ops_nil ops_cons wantK_true wantK_false stepK_some pubs pub pub_sl params okRef_loc storable_loc shaped_loc cells_loc isRsl_loc elems_loc len_loc untips untip untip_sl wantedAV setElems withO isAgg_v isAgg_agg isAgg_lst isAgg_ptr isAgg_fn isAgg_ifc isAgg_rsl isAgg_sl isAgg_loc List.replicate_succ List.replicate_zero opAV valAV aval avals ofVal Env.get setD canon gcAV renAll renEnv renStore renCells ren1_sl cutSt okEnv okStore okRefs okRef okRef_sl bin_int bin_bool bin_lst bin_rsl bin_nil bin_agg cellsEq cellEq isShift intOp boolOp min_int max_int beq_int bne resAV tupAV leave_eq fin_sl fin_loc fins fin_v fin_lst fin_agg fin_tup fin_fn storeAV readCells putCells cells_sl shaped_sl storable_sl fieldAddrAV len_sl goI List.getElem?_cons_zero List.getElem?_cons_succ List.getElem?_nil Option.bind_some Option.map_some List.length_cons List.length_nil List.all_cons List.all_nil Bool.and_true Bool.true_and Bool.and_false Bool.false_and and_true true_and and_false false_and Bool.false_eq_true List.set_cons_zero List.set_cons_succ List.append_nil List.nil_append List.cons_append List.take_zero List.take_succ_cons List.take_nil List.drop_zero List.drop_succ_cons List.map_cons List.map_nil decide_true decide_false beq_self_eq_true Bool.not_true Bool.not_false or_true true_or or_false false_or Nat.zero_add Nat.add_zero Nat.le_refl Nat.lt_irrefl decide_eq_true_eq eq_self_iff_true not_true_eq_false not_false_eq_true List.getD_cons_zero code_loop Nat.zero_le Nat.not_lt_zero Bool.true_beq Bool.false_beq beq_true beq_false ge_iff_le gt_iff_lt Lpure pus assert_ifc assert_nil idxA_ptr idxA_eptr idxV_agg Int.cast_ofNat_Int Nat.mul_one Nat.zero_mul Int.toNat_natCast Int.toNat_zero setParts withO2 eqnil_sl nenil_sl eqnil_loc nenil_loc map_nil_iff okRefs_ints renCells_ints

theorem sums_nil_getD (s : Int) (l : List Int) (j : Nat) (h : l.length < j) : (sums s l).getD j 0 = 0 := by
  rw [List.getD_eq_getElem?_getD, List.getElem?_eq_none (by rw [sums_len]; omega)]; rfl
theorem sums_mono {l : List Int} (hl : ∀ x ∈ l, 0 ≤ x) : ∀ (s : Int) (i j : Nat), i ≤ j → j ≤ l.length → (sums s l).getD i 0 ≤ (sums s l).getD j 0 := by
  intro s i j hij hj
  have h1 : i < (sums s l).length := by rw [sums_len]; omega
  have h2 : j < (sums s l).length := by rw [sums_len]; omega
  rw [List.getD_eq_getElem?_getD, List.getD_eq_getElem?_getD, List.getElem?_eq_getElem h1, List.getElem?_eq_getElem h2]
  simp only [Option.getD_some, sums_get]
  have h3 : l.take j = l.take i ++ (l.take j).drop i := by
    have := List.take_append_drop i (l.take j)
    rw [List.take_take, Nat.min_eq_left hij] at this
    exact this.symm
  have h4 : ∀ m : List Int, (∀ x ∈ m, 0 ≤ x) → 0 ≤ m.sum := by
    intro m hm
    induction m with
    | nil => simp
    | cons x r ih => simp only [List.sum_cons]; have := hm x (by simp); have := ih (fun y hy => hm y (by simp [hy])); omega
  have h5 := h4 ((l.take j).drop i) (fun x hx => hl x (List.mem_of_mem_take (List.mem_of_mem_drop hx)))
  rw [h3, List.sum_append]
  omega
theorem seg_mono {l : List Int} (hl : ∀ x ∈ l, 0 ≤ x) (b b' e' e : Nat) (h1 : b ≤ b') (h2 : b' ≤ e') (h3 : e' ≤ e) (h4 : e ≤ l.length) : seg (sums 0 l) b' e' ≤ seg (sums 0 l) b e := by
  have q1 := sums_mono hl 0 b b' h1 (by omega)
  have q2 := sums_mono hl 0 e' e h3 h4
  unfold seg
  simp only [Int.toNat_natCast]
  omega
theorem mono_room {arts : List (Int × Int)} {room floor : Int} (hc : check arts room floor = 0) : Mono arts.length (fun b e => decide (seg (mosts arts) b e ≤ room)) := by
  obtain ⟨_, _, k3, _⟩ := check_zero hc
  intro b b' e' e h1 h2 h3 h4 h5
  simp only [decide_eq_true_eq] at h5 ⊢
  have := seg_mono (l := arts.map (·.2)) (by intro x hx; obtain ⟨a, ha, rfl⟩ := List.mem_map.1 hx; have := k3 a ha; omega) b b' e' e h1 h2 h3 (by simpa using h4)
  simp only [mosts] at h5 ⊢
  omega

/-- Each article of a good cut fits by itself. -/
theorem good_single {n : Nat} {p : Int → Int → Bool} (hp : Mono n p) : ∀ (c : List Int) (b e : Nat), IsGood n p b c → b < e → e ≤ n → p ((e : Int) - 1) e = true
  | [], b, e, hg, h1, h2 => by simp only [IsGood] at hg; omega
  | x :: r, b, e, hg, h1, h2 => by
    obtain ⟨x', rfl, h3, h4, h5, h6⟩ := hg
    by_cases h : e ≤ x'
    · have := hp b (e - 1) e x' (by omega) (by omega) h h4 h5
      rw [show ((e - 1 : Nat) : Int) = (e : Int) - 1 by omega] at this
      exact this
    · exact good_single hp r x' e h6 (by omega) h2
theorem fill_none (l : List Int) (room : Int) : ∀ (k b e : Nat) (out : List Int), (∃ e' : Nat, e ≤ e' ∧ e' < e + k ∧ room < seg l ((e' : Int) - 1) e') → fillFrom l room k b e out = none
  | 0, b, e, out, ⟨e', h1, h2, _⟩ => by omega
  | k + 1, b, e, out, ⟨e', h1, h2, h3⟩ => by
    simp only [fillFrom]
    by_cases h : room < seg l ((e : Int) - 1) e
    · rw [if_pos h]
    · rw [if_neg h]
      have : ∃ e' : Nat, e + 1 ≤ e' ∧ e' < (e + 1) + k ∧ room < seg l ((e' : Int) - 1) e' := by
        refine ⟨e', ?_, by omega, h3⟩
        rcases Nat.eq_or_lt_of_le h1 with h4 | h4
        · subst h4; exact absurd h3 h
        · exact h4
      split
      · exact fill_none l room k _ _ _ this
      · exact fill_none l room k _ _ _ this

theorem goodL_goods (arts : List (Int × Int)) (room floor : Int) (safe : Bool) : goodL arts room floor safe = goods arts.length (goodP arts room floor safe) 0 := rfl
theorem goods_congr {n : Nat} {p q : Int → Int → Bool} (h : ∀ b e, p b e = q b e) (b : Nat) : goods n p b = goods n q b := by
  unfold goods; exact List.filter_congr fun c _ => okC_congr h b c

/-- The program's cut with the fewest volumes is the reference's. -/
theorem fewest_eq (arts : List (Int × Int)) (room floor : Int) : fewestV arts room floor = fewestR arts room floor := by
  unfold fewestV fewestR
  by_cases p0 : check arts room floor = 0
  · rw [if_pos p0, if_pos p0]
    obtain ⟨g1, g2, g3, g4⟩ := mosts_ok p0
    have hg : goodL arts room floor false = goods arts.length (fun b e => decide (seg (mosts arts) b e ≤ room)) 0 := by
      rw [goodL_goods]; exact goods_congr (fun b e => by simp [goodP]) 0
    rw [hg]
    have hm := mono_room p0
    by_cases hs : ∀ e : Nat, 1 ≤ e → e ≤ arts.length → seg (mosts arts) ((e : Int) - 1) e ≤ room
    · obtain ⟨r, h1, h2⟩ := fill_goods (mosts arts) room arts.length hm hs arts.length 0 1 [] (by omega) (by omega) (.inl rfl) (by omega)
      have hf : filled (mosts arts) room = r ++ [(arts.length : Int)] := by
        unfold filled
        rw [g2, Nat.add_sub_cancel, h1]
        simp only [List.nil_append]
        congr 2; omega
      rw [if_neg (by rw [hf]; simp), hf]
      generalize goods arts.length (fun b e => decide (seg (mosts arts) b e ≤ room)) 0 = G at *
      cases G with
      | nil => simp [lastMin] at h2
      | cons x G =>
        rw [pickLe_cons] at h2
        simp only [Option.some.injEq] at h2
        simp only [h2]
    · have : ∃ e : Nat, 1 ≤ e ∧ e ≤ arts.length ∧ room < seg (mosts arts) ((e : Int) - 1) e := by
        apply Classical.byContradiction
        intro hn
        apply hs
        intro e h1 h2
        apply Classical.byContradiction
        intro h3
        exact hn ⟨e, h1, h2, by omega⟩
      obtain ⟨e, h1, h2, h3⟩ := this
      have hf : filled (mosts arts) room = [] := by
        unfold filled
        rw [g2, Nat.add_sub_cancel, fill_none (mosts arts) room arts.length 0 1 [] ⟨e, h1, by omega, h3⟩]
      have he : goods arts.length (fun b e => decide (seg (mosts arts) b e ≤ room)) 0 = [] := by
        rw [List.eq_nil_iff_forall_not_mem]
        intro c hc
        have := good_single hm c 0 e ((goods_iff _ _ _ 0 rfl c).1 hc) (by omega) h2
        simp at this; omega
      rw [if_pos hf, he]
  · rw [if_neg p0, if_neg p0]

/-! ### plans -/

theorem firstMin_none {l : List (List Int)} : firstMin l = none ↔ l = [] := by
  cases l with
  | nil => simp [firstMin]
  | cons x r => rw [pickLt_cons]; simp
theorem firstMin_append (l1 l2 : List (List Int)) : firstMin (l1 ++ l2) = match firstMin l1, firstMin l2 with
    | none, o => o
    | some a, none => some a
    | some a, some c => if c.length < a.length then some c else some a := by
  induction l1 with
  | nil => rfl
  | cons x r ih =>
    simp only [List.cons_append, firstMin, ih]
    cases firstMin r with
    | none =>
      cases firstMin l2 with
      | none => rfl
      | some c => rfl
    | some a =>
      cases firstMin l2 with
      | none => simp only; split <;> rfl
      | some c => by_cases h1 : c.length < a.length <;> by_cases h2 : a.length < x.length <;> by_cases h3 : c.length < x.length <;> simp [h1, h2, h3] <;> omega
theorem firstMin_map (e : Int) (l : List (List Int)) : firstMin (l.map (e :: ·)) = (firstMin l).map (e :: ·) := by
  induction l with
  | nil => rfl
  | cons x r ih =>
    simp only [List.map_cons, firstMin, ih]
    cases firstMin r with
    | none => rfl
    | some y => simp only [Option.map_some, List.length_cons, Nat.add_lt_add_iff_right]; split <;> rfl

/-- The plan that is known from all good cuts. -/
def planOf (G : List (List Int)) : Option Plan := (firstMin G).map fun z => ((z.length : Int), z.headD 0, (G.length : Int))
theorem planOf_none {G : List (List Int)} : planOf G = none ↔ G = [] := by
  unfold planOf; rw [Option.map_eq_none_iff, firstMin_none]
theorem planOf_many (G : List (List Int)) : many1 (planOf G) = G.length := by
  cases h : firstMin G with
  | none => rw [firstMin_none] at h; subst h; rfl
  | some z => simp [planOf, h, many1]

/-- The good cuts from b on whose first end is e or later. -/
def laterGoods (n : Nat) (p : Int → Int → Bool) (b e : Nat) : List (List Int) := (List.range' e (n + 1 - e)).flatMap fun (e : Nat) => if p b e = true then (goods n p e).map ((e : Int) :: ·) else []

theorem pstep_plan (ok : Bool) (e : Nat) (G1 G2 : List (List Int)) : pstep ok e (planOf G1) (planOf G2) = planOf ((if ok = true then G1.map ((e : Int) :: ·) else []) ++ G2) := by
  unfold pstep
  cases ok with
  | false => simp
  | true =>
    simp only [if_true]
    unfold planOf
    rw [firstMin_append, firstMin_map]
    cases h1 : firstMin G1 with
    | none =>
      rw [firstMin_none] at h1
      subst h1
      simp
    | some z =>
      cases h2 : firstMin G2 with
      | none =>
        rw [firstMin_none] at h2
        subst h2
        simp
      | some w =>
        simp only [Option.map_some, List.length_cons]
        by_cases h : w.length < z.length + 1
        · rw [if_pos h, if_neg (by omega)]
          simp; omega
        · rw [if_neg h, if_pos (by omega)]
          simp; omega

theorem pnext_plan (n : Nat) (p : Int → Int → Bool) (b : Nat) : ∀ (k e : Nat), e + k = n + 1 →
    pnext (fun b e => p b e) b e ((List.range' e k).map fun e => planOf (goods n p e)) = planOf (laterGoods n p b e)
  | 0, e, h => by unfold laterGoods; rw [show n + 1 - e = 0 by omega]; rfl
  | k + 1, e, h => by
    rw [List.range'_succ, List.map_cons, pnext, pnext_plan n p b k (e + 1) (by omega), pstep_plan]
    unfold laterGoods
    rw [show n + 1 - e = (n + 1 - (e + 1)) + 1 by omega, List.range'_succ, List.flatMap_cons]
theorem laterGoods_eq {n : Nat} (p : Int → Int → Bool) {b : Nat} (h : b < n) : laterGoods n p b (b + 1) = goods n p b := by
  unfold laterGoods; rw [goods_eq p h, show n + 1 - (b + 1) = n - b by omega]

theorem plans_eq (n : Nat) (p : Int → Int → Bool) : ∀ j, j ≤ n → plansL n (fun b e => p b e) j = (List.range' (n - j) (j + 1)).map fun b => planOf (goods n p b)
  | 0, _ => by
    rw [Nat.sub_zero]
    show _ = [planOf (goods n p n)]
    rw [goods_end p (Nat.le_refl _)]; rfl
  | j + 1, h => by
    rw [plansL, plans_eq n p j (by omega), show n - j = (n - 1 - j) + 1 by omega, pnext_plan n p (n - 1 - j) (j + 1) (n - 1 - j + 1) (by omega), laterGoods_eq p (by omega), show n - (j + 1) = n - 1 - j by omega, show List.range' (n - 1 - j) (j + 1 + 1) = (n - 1 - j) :: List.range' (n - 1 - j + 1) (j + 1) from by rw [List.range'_succ], List.map_cons]

theorem firstMin_later (n : Nat) (p : Int → Int → Bool) (b : Nat) : ∀ (k e : Nat) (z : List Int), e + k = n + 1 → firstMin (laterGoods n p b e) = some z → ∃ (e' : Nat) (z' : List Int), z = (e' : Int) :: z' ∧ e ≤ e' ∧ e' ≤ n ∧ firstMin (goods n p e') = some z'
  | 0, e, z, h, hz => by unfold laterGoods at hz; rw [show n + 1 - e = 0 by omega] at hz; simp [firstMin] at hz
  | k + 1, e, z, h, hz => by
    unfold laterGoods at hz
    rw [show n + 1 - e = (n + 1 - (e + 1)) + 1 by omega, List.range'_succ, List.flatMap_cons, firstMin_append] at hz
    have ih := fun z => firstMin_later n p b k (e + 1) z (by omega)
    unfold laterGoods at ih
    have first : ∀ a, firstMin (if p b e = true then (goods n p e).map ((e : Int) :: ·) else []) = some a → ∃ z', a = (e : Int) :: z' ∧ firstMin (goods n p e) = some z' := by
      intro a ha
      split at ha
      · rw [firstMin_map] at ha
        obtain ⟨z', h1, rfl⟩ := Option.map_eq_some_iff.1 ha
        exact ⟨z', rfl, h1⟩
      · simp [firstMin] at ha
    split at hz
    · obtain ⟨e', z', h1, h2, h3, h4⟩ := ih z hz
      exact ⟨e', z', h1, by omega, h3, h4⟩
    · next a ha _ =>
      simp only [Option.some.injEq] at hz
      subst hz
      obtain ⟨z', h1, h2⟩ := first a ha
      exact ⟨e, z', h1, Nat.le_refl _, by omega, h2⟩
    · next a c ha hc =>
      split at hz
      · simp only [Option.some.injEq] at hz
        subst hz
        obtain ⟨e', z', h1, h2, h3, h4⟩ := ih c hc
        exact ⟨e', z', h1, by omega, h3, h4⟩
      · simp only [Option.some.injEq] at hz
        subst hz
        obtain ⟨z', h1, h2⟩ := first a ha
        exact ⟨e, z', h1, Nat.le_refl _, by omega, h2⟩

theorem plan_at (n : Nat) (p : Int → Int → Bool) (b : Nat) (h : b ≤ n) : (plansL n (fun b e => p b e) n).getD b none = planOf (goods n p b) := by
  rw [plans_eq n p n (Nat.le_refl _), Nat.sub_self, List.getD_eq_getElem?_getD]
  rw [List.getElem?_map, List.getElem?_range' (by omega)]
  simp

theorem cutFrom_eq (n : Nat) (p : Int → Int → Bool) : ∀ (k b : Nat), n ≤ b + k → b ≤ n → cutFrom n (plansL n (fun b e => p b e) n) k b = firstMin (goods n p b)
  | 0, b, h, h2 => by rw [goods_end p (by omega)]; rfl
  | k + 1, b, h, h2 => by
    simp only [cutFrom]
    by_cases hb : b < n
    · rw [if_pos hb, plan_at n p b h2]
      cases hz : firstMin (goods n p b) with
      | none => simp [planOf, hz]
      | some z =>
        have hz' := hz
        rw [← laterGoods_eq p hb] at hz'
        obtain ⟨e', z', rfl, h3, h4, h5⟩ := firstMin_later n p b (n - b) (b + 1) z (by omega) hz'
        simp only [planOf, hz, Option.map_some, List.headD_cons, Int.toNat_natCast]
        rw [cutFrom_eq n p k e' (by omega) h4, h5]
        rfl
    · rw [if_neg hb, goods_end p (by omega)]; rfl

theorem goodV_eq (arts : List (Int × Int)) (room floor : Int) : goodV arts room floor = fun (b e : Nat) => goodP arts room floor true b e := by
  funext b e; simp [goodV, goodP]

theorem cut_eq (arts : List (Int × Int)) (room floor : Int) : cutV arts room floor = cutR arts room floor := by
  unfold cutV cutR
  by_cases p0 : check arts room floor = 0
  · rw [if_pos p0, if_pos p0, goodV_eq, cutFrom_eq arts.length (goodP arts room floor true) arts.length 0 (by omega) (by omega), ← goodL_goods]
    cases goodL arts room floor true with
    | nil => rfl
    | cons x r => rw [pickLt_cons]
  · rw [if_neg p0, if_neg p0]

theorem count_eq (arts : List (Int × Int)) (room floor : Int) : countV arts room floor = countR arts room floor := by
  unfold countV countR
  by_cases p0 : check arts room floor = 0
  · rw [if_pos p0, if_pos p0, goodV_eq, plan_at arts.length (goodP arts room floor true) 0 (by omega), planOf_many, ← goodL_goods]
  · rw [if_neg p0, if_neg p0]
end Go.Proofs.Ytiifibgadipalaa.Vm

namespace Go.Proofs.Ytiifibgadipalaa.Vm
open Go Go.Ev
set_option maxRecDepth 100000
attribute [local go_sem] cells_any storable_any ren1_any shaped_ptr cells_ptr storable_ptr ren1_ptr shaped_eptr cells_eptr storable_eptr ren1_eptr shaped_rsl cells_rsl storable_rsl ren1_rsl shaped_int cells_int storable_int ren1_int shaped_bool cells_bool storable_bool ren1_bool shaped_nils cells_nils storable_nils ren1_nils shaped_lst cells_lst storable_lst shaped_fn cells_fn storable_fn ren1_fn shaped_ifc cells_ifc storable_ifc ren1_ifc shaped_agg cells_agg storable_agg ren1_agg shaped_tup cells_tup storable_tup ren1_tup shaped_nif cells_nif storable_nif ren1_nif ren1_lany ren1_lfull ren1_lown len_lst len_rsl len_nil load_ptr load_eptr isRsl_lst isRsl_nil isRsl_rsl elems_nil elems_lst elems_sl isRsl_sl body_eq bodyK_normal bodyK_ret resK_some leaveK_some only_some code_skip code_exit code_ret code_ops code_seq code_cond code_block seqK_normal seqK_ret seqK_exit condK_true condK_false blockK_normal blockK_ret blockK_exit opsK_some ops_nil ops_cons wantK_true wantK_false stepK_some pubs pub pub_sl params okRef_loc storable_loc shaped_loc cells_loc isRsl_loc elems_loc len_loc untips untip untip_sl wantedAV setElems withO isAgg_v isAgg_agg isAgg_lst isAgg_ptr isAgg_fn isAgg_ifc isAgg_rsl isAgg_sl isAgg_loc List.replicate_succ List.replicate_zero opAV valAV aval avals ofVal Env.get setD canon gcAV renAll renEnv renStore renCells ren1_sl cutSt okEnv okStore okRefs okRef okRef_sl bin_int bin_bool bin_lst bin_rsl bin_nil bin_agg cellsEq cellEq isShift intOp boolOp min_int max_int beq_int bne resAV tupAV leave_eq fin_sl fin_loc fins fin_v fin_lst fin_agg fin_tup fin_fn storeAV readCells putCells cells_sl shaped_sl storable_sl fieldAddrAV len_sl goI List.getElem?_cons_zero List.getElem?_cons_succ List.getElem?_nil Option.bind_some Option.map_some List.length_cons List.length_nil List.all_cons List.all_nil Bool.and_true Bool.true_and Bool.and_false Bool.false_and and_true true_and and_false false_and Bool.false_eq_true List.set_cons_zero List.set_cons_succ List.append_nil List.nil_append List.cons_append List.take_zero List.take_succ_cons List.take_nil List.drop_zero List.drop_succ_cons List.map_cons List.map_nil decide_true decide_false beq_self_eq_true Bool.not_true Bool.not_false or_true true_or or_false false_or Nat.zero_add Nat.add_zero Nat.le_refl Nat.lt_irrefl decide_eq_true_eq eq_self_iff_true not_true_eq_false not_false_eq_true List.getD_cons_zero code_loop Nat.zero_le Nat.not_lt_zero Bool.true_beq Bool.false_beq beq_true beq_false ge_iff_le gt_iff_lt Lpure pus assert_ifc assert_nil idxA_ptr idxA_eptr idxV_agg Int.cast_ofNat_Int Nat.mul_one Nat.zero_mul Int.toNat_natCast Int.toNat_zero setParts withO2 eqnil_sl nenil_sl eqnil_loc nenil_loc map_nil_iff okRefs_ints renCells_ints

/-- The lines of the longest volume of a cut. -/
def maxSeg (l : List Int) : Int → Int → List Int → Int
  | _, acc, [] => acc
  | b, acc, e :: r => maxSeg l e (max acc (seg l b e)) r
def levelF (l : List Int) (v best : Int) (L0 : List (List Int)) : Int := L0.foldl (fun best c => if (c.length : Int) ≤ v then min best (maxSeg l 0 0 c) else best) best

theorem loop34_0 (nl : Bool) (arts : List (Int × Int)) (room floor : Int) (hc : check arts room floor = 0) (v best : Int) (L0 : List (List Int)) (i : Nat) (hi : i < L0.length) (c : List Int) (hci : L0[i] = c) (hcl : c.length < 1000) (hcut : loopErr arts.length 0 c = 0) (j : Nat) (acc : Int) (hok : j ≤ c.length) (env : Env) (st : St)
    (hg : gcAV true 1 0 (canon env [1, 2, 7, 8, 9, 10, 11]) st = ([(1, I v), (2, .ptr 0 0), (7, I best), (8, sl 1 true (L0.map listAV)), (9, I i), (10, I acc), (11, I j)], ⟨[bookCells nl arts room floor], []⟩)) :
    ∃ x_1 en s, lim (headed pure (run L) true [1, 2, 7, 8, 9, 10, 11] lp34_0 1 0) env st = some (x_1, en, s) ∧ (x_1 = .exit 2 ∧ en.get 1 = I v ∧ en.get 2 = .ptr 0 0 ∧ en.get 7 = I best ∧ en.get 8 = sl 1 true (L0.map listAV) ∧ en.get 9 = I i ∧ en.get 10 = I (maxSeg (mosts arts) (beginOf c j) acc (c.drop j)) ∧ s = ⟨[bookCells nl arts room floor], []⟩) := by
  refine loop_wp (α := Nat × Int) (fun ⟨j, acc⟩ => c.length - j) (fun ⟨j, acc⟩ => j ≤ c.length) (fun ⟨j, acc⟩ => ([(1, I v), (2, .ptr 0 0), (7, I best), (8, sl 1 true (L0.map listAV)), (9, I i), (10, I acc), (11, I j)], ⟨[bookCells nl arts room floor], []⟩)) (fun ⟨j, acc⟩ x_1 en s => x_1 = .exit 2 ∧ en.get 1 = I v ∧ en.get 2 = .ptr 0 0 ∧ en.get 7 = I best ∧ en.get 8 = sl 1 true (L0.map listAV) ∧ en.get 9 = I i ∧ en.get 10 = I (maxSeg (mosts arts) (beginOf c j) acc (c.drop j)) ∧ s = ⟨[bookCells nl arts room floor], []⟩) (fun ⟨j, acc⟩ hok => ?_) ⟨j, acc⟩ hok env st hg
  simp only at hok
  have hx := index_lists true L0 i hi
  rw [hci] at hx
  by_cases q : (j : Int) < (c.length : Int)
  · have hxe := index_ints false c j (by omega)
    have hs := succ64 j (by omega)
    have h1 := ends_asc hcut j (by omega)
    have h2 := begin_nonneg hcut j hok
    have h3 := c78' nl arts room floor hc (beginOf c j) (c[j]'(by omega)) h2 (by omega) h1.2
    have h4 := c73 false c j hok hcl
    have hd : c.drop j = c[j]'(by omega) :: c.drop (j + 1) := List.drop_eq_getElem_cons (by omega)
    have hb := beginOf_succ c j (by omega)
    have hf : maxSeg (mosts arts) (beginOf c j) acc (c.drop j) = maxSeg (mosts arts) (beginOf c (j + 1)) (max acc (seg (mosts arts) (beginOf c j) (c[j]'(by omega)))) (c.drop (j + 1)) := by rw [hd, hb]; rfl
    have hok2 : j + 1 ≤ c.length := by omega
    have hmeas : c.length - (j + 1) < c.length - j := by omega
    simp only [go_sem, reduceIte, Nat.reduceEqDiff, Nat.reduceAdd, Nat.reduceSub, Nat.reduceLeDiff, Nat.reduceLT, reduceCtorEq, Int.reduceLT, Int.reduceLE, Int.reduceEq, Int.reduceBEq, Int.reduceSub, Int.reduceAdd, Int.reduceMul, Int.reduceNeg, Int.reduceToNat, Nat.reduceMul, Nat.reduceBEq, index_rsl_if, setm, make_ints, condK_dec, wantK_dec, not_dec, and_dec, or_dec, seqK_ite, seqK_none, blockK_ite, blockK_none, opsK_ite, opsK_none, stepK_ite, stepK_none, bodyK_ite, bodyK_none, resK_ite, resK_none, leaveK_ite, leaveK_none, only_ite, only_none, bind_ite, gives_some, gives_none, gives_ite, then_normal, then_ret, then_exit, then_none, then_ite, Option.bind_none, Option.map_none, Bool.not_eq_true', decide_eq_false_iff_not, Bool.and_eq_true, Bool.or_eq_true, Option.some.injEq, Int.not_lt, Int.not_le, lp34_0, q, hx, hxe, hs, h3, h4, List.length_map]
    refine ⟨(j + 1, max acc (seg (mosts arts) (beginOf c j) (c[j]'(by omega)))), by simp only [go_sem, reduceIte, Nat.reduceEqDiff, Nat.reduceAdd, Nat.reduceSub, Nat.reduceLeDiff, Nat.reduceLT, reduceCtorEq, Int.reduceLT, Int.reduceLE, Int.reduceEq, Int.reduceBEq, Int.reduceSub, Int.reduceAdd, Int.reduceMul, Int.reduceNeg, Int.reduceToNat, Nat.reduceMul, Nat.reduceBEq, ren1_locm, loc_tips, locT_eq] <;> rfl, ?_, ?_, fun x en s hq => ?_⟩
    · exact hok2
    · exact hmeas
    · rw [hf]; exact hq
  · have hdn : c.drop j = [] := List.drop_eq_nil_of_le (by omega)
    simp only [go_sem, reduceIte, Nat.reduceEqDiff, Nat.reduceAdd, Nat.reduceSub, Nat.reduceLeDiff, Nat.reduceLT, reduceCtorEq, Int.reduceLT, Int.reduceLE, Int.reduceEq, Int.reduceBEq, Int.reduceSub, Int.reduceAdd, Int.reduceMul, Int.reduceNeg, Int.reduceToNat, Nat.reduceMul, Nat.reduceBEq, index_rsl_if, setm, make_ints, condK_dec, wantK_dec, not_dec, and_dec, or_dec, seqK_ite, seqK_none, blockK_ite, blockK_none, opsK_ite, opsK_none, stepK_ite, stepK_none, bodyK_ite, bodyK_none, resK_ite, resK_none, leaveK_ite, leaveK_none, only_ite, only_none, bind_ite, gives_some, gives_none, gives_ite, then_normal, then_ret, then_exit, then_none, then_ite, Option.bind_none, Option.map_none, Bool.not_eq_true', decide_eq_false_iff_not, Bool.and_eq_true, Bool.or_eq_true, Option.some.injEq, Int.not_lt, Int.not_le, lp34_0, q, hx, List.length_map, hdn]
    rfl


theorem cut_len {n : Nat} (hn : n ≤ 12) {c : List Int} (h : c ∈ cutsOf n 0) : c.length < 1000 := by
  have h1 := (cuts_ok n n 0 rfl (by omega) _ h).1
  have : ∀ (n last : Int) (c : List Int), loopErr n last c = 0 → last + c.length ≤ n ∨ c = [] := by
    intro n last c
    induction c generalizing last with
    | nil => intro _; exact .inr rfl
    | cons e r ih =>
      intro h
      obtain ⟨q1, q2, q3, q4⟩ := loopErr_cons h
      rcases ih e q4 with h5 | h5
      · simp only [List.length_cons]; exact .inl (by omega)
      · subst h5; simp only [List.length_cons, List.length_nil]; exact .inl (by omega)
  rcases this _ _ _ h1 with h2 | h2
  · omega
  · rw [h2]; simp

theorem loop34_1 (nl : Bool) (arts : List (Int × Int)) (room floor : Int) (hc : check arts room floor = 0) (v : Int) (L0 : List (List Int)) (hL : L0 = cutsOf arts.length 0) (hlen : L0.length ≤ 5000) (i : Nat) (best : Int) (hok : i ≤ L0.length) (env : Env) (st : St)
    (hg : gcAV true 1 0 (canon env [1, 2, 7, 8, 9]) st = ([(1, I v), (2, .ptr 0 0), (7, I best), (8, sl 1 true (L0.map listAV)), (9, I i)], ⟨[bookCells nl arts room floor], []⟩)) :
    ∃ x_1 en s, lim (headed pure (run L) true [1, 2, 7, 8, 9] lp34_1 1 0) env st = some (x_1, en, s) ∧ (x_1 = .exit 0 ∧ en.get 7 = I (levelF (mosts arts) v best (L0.drop i))) := by
  refine loop_wp (α := Nat × Int) (fun ⟨i, best⟩ => L0.length - i) (fun ⟨i, best⟩ => i ≤ L0.length) (fun ⟨i, best⟩ => ([(1, I v), (2, .ptr 0 0), (7, I best), (8, sl 1 true (L0.map listAV)), (9, I i)], ⟨[bookCells nl arts room floor], []⟩)) (fun ⟨i, best⟩ x_1 en s => x_1 = .exit 0 ∧ en.get 7 = I (levelF (mosts arts) v best (L0.drop i))) (fun ⟨i, best⟩ hok => ?_) ⟨i, best⟩ hok env st hg
  simp only at hok
  obtain ⟨g1, g2, g3, g4⟩ := mosts_ok hc
  by_cases q : (i : Int) < (L0.length : Int)
  · have hx := index_lists true L0 i (by omega)
    have hs := succ64 i (by omega)
    have hmem : L0[i]'(by omega) ∈ cutsOf arts.length 0 := by rw [← hL]; exact List.getElem_mem _
    have hd : L0.drop i = L0[i]'(by omega) :: L0.drop (i + 1) := List.drop_eq_getElem_cons (by omega)
    have hok2 : i + 1 ≤ L0.length := by omega
    have hmeas : L0.length - (i + 1) < L0.length - i := by omega
    simp only [go_sem, reduceIte, Nat.reduceEqDiff, Nat.reduceAdd, Nat.reduceSub, Nat.reduceLeDiff, Nat.reduceLT, reduceCtorEq, Int.reduceLT, Int.reduceLE, Int.reduceEq, Int.reduceBEq, Int.reduceSub, Int.reduceAdd, Int.reduceMul, Int.reduceNeg, Int.reduceToNat, Nat.reduceMul, Nat.reduceBEq, index_rsl_if, setm, make_ints, condK_dec, wantK_dec, not_dec, and_dec, or_dec, seqK_ite, seqK_none, blockK_ite, blockK_none, opsK_ite, opsK_none, stepK_ite, stepK_none, bodyK_ite, bodyK_none, resK_ite, resK_none, leaveK_ite, leaveK_none, only_ite, only_none, bind_ite, gives_some, gives_none, gives_ite, then_normal, then_ret, then_exit, then_none, then_ite, Option.bind_none, Option.map_none, Bool.not_eq_true', decide_eq_false_iff_not, Bool.and_eq_true, Bool.or_eq_true, Option.some.injEq, Int.not_lt, Int.not_le, lp34_1, q, List.length_map]
    have h1 := (cuts_ok arts.length arts.length 0 rfl (by omega) _ hmem).1
    simp only [Int.natCast_zero] at h1
    generalize hg : lim (headed pure (run L) true _ lp34_0 _ _) _ _ = o
    obtain ⟨x, en, s, rfl, h2⟩ : ∃ x en s, o = some (x, en, s) ∧ _ := by rw [← hg]; exact loop34_0 nl arts room floor hc v best L0 i (by omega) _ rfl (cut_len g4 hmem) h1 0 0 (Nat.zero_le _) _ _ (by simp only [go_sem, reduceIte, Nat.reduceEqDiff, Nat.reduceAdd, Nat.reduceSub, Nat.reduceLeDiff, Nat.reduceLT, reduceCtorEq, Int.reduceLT, Int.reduceLE, Int.reduceEq, Int.reduceBEq, Int.reduceSub, Int.reduceAdd, Int.reduceMul, Int.reduceNeg, Int.reduceToNat, Nat.reduceMul, Nat.reduceBEq] <;> rfl)
    clear hg
    obtain ⟨rfl, h3, h4, h5, h6, h7, h8, rfl⟩ := h2
    have hb0 : beginOf (L0[i]'(by omega)) 0 = 0 := rfl
    rw [hb0, List.drop_zero] at h8
    generalize L0[i]'(by omega) = c at *
    by_cases p : (c.length : Int) ≤ v
    · have hf : levelF (mosts arts) v best (L0.drop i) = levelF (mosts arts) v (min best (maxSeg (mosts arts) 0 0 c)) (L0.drop (i + 1)) := by rw [hd]; simp only [levelF, List.foldl_cons]; rw [if_pos p]
      simp only [go_sem, reduceIte, Nat.reduceEqDiff, Nat.reduceAdd, Nat.reduceSub, Nat.reduceLeDiff, Nat.reduceLT, reduceCtorEq, Int.reduceLT, Int.reduceLE, Int.reduceEq, Int.reduceBEq, Int.reduceSub, Int.reduceAdd, Int.reduceMul, Int.reduceNeg, Int.reduceToNat, Nat.reduceMul, Nat.reduceBEq, index_rsl_if, setm, make_ints, condK_dec, wantK_dec, not_dec, and_dec, or_dec, seqK_ite, seqK_none, blockK_ite, blockK_none, opsK_ite, opsK_none, stepK_ite, stepK_none, bodyK_ite, bodyK_none, resK_ite, resK_none, leaveK_ite, leaveK_none, only_ite, only_none, bind_ite, gives_some, gives_none, gives_ite, then_normal, then_ret, then_exit, then_none, then_ite, Option.bind_none, Option.map_none, Bool.not_eq_true', decide_eq_false_iff_not, Bool.and_eq_true, Bool.or_eq_true, Option.some.injEq, Int.not_lt, Int.not_le, h3, h4, h5, h6, h7, h8, hx, p, hs, List.length_map]
      refine ⟨(i + 1, min best (maxSeg (mosts arts) 0 0 c)), by simp only [go_sem, reduceIte, Nat.reduceEqDiff, Nat.reduceAdd, Nat.reduceSub, Nat.reduceLeDiff, Nat.reduceLT, reduceCtorEq, Int.reduceLT, Int.reduceLE, Int.reduceEq, Int.reduceBEq, Int.reduceSub, Int.reduceAdd, Int.reduceMul, Int.reduceNeg, Int.reduceToNat, Nat.reduceMul, Nat.reduceBEq, ren1_locm, loc_tips, locT_eq, h3, h4, h5, h6, h7, h8] <;> rfl, ?_, ?_, fun x en s hq => ?_⟩
      · exact hok2
      · exact hmeas
      · rw [hf]; exact hq
    · have hf : levelF (mosts arts) v best (L0.drop i) = levelF (mosts arts) v best (L0.drop (i + 1)) := by rw [hd]; simp only [levelF, List.foldl_cons]; rw [if_neg p]
      simp only [go_sem, reduceIte, Nat.reduceEqDiff, Nat.reduceAdd, Nat.reduceSub, Nat.reduceLeDiff, Nat.reduceLT, reduceCtorEq, Int.reduceLT, Int.reduceLE, Int.reduceEq, Int.reduceBEq, Int.reduceSub, Int.reduceAdd, Int.reduceMul, Int.reduceNeg, Int.reduceToNat, Nat.reduceMul, Nat.reduceBEq, index_rsl_if, setm, make_ints, condK_dec, wantK_dec, not_dec, and_dec, or_dec, seqK_ite, seqK_none, blockK_ite, blockK_none, opsK_ite, opsK_none, stepK_ite, stepK_none, bodyK_ite, bodyK_none, resK_ite, resK_none, leaveK_ite, leaveK_none, only_ite, only_none, bind_ite, gives_some, gives_none, gives_ite, then_normal, then_ret, then_exit, then_none, then_ite, Option.bind_none, Option.map_none, Bool.not_eq_true', decide_eq_false_iff_not, Bool.and_eq_true, Bool.or_eq_true, Option.some.injEq, Int.not_lt, Int.not_le, h3, h4, h5, h6, h7, h8, hx, p, hs, List.length_map]
      refine ⟨(i + 1, best), by simp only [go_sem, reduceIte, Nat.reduceEqDiff, Nat.reduceAdd, Nat.reduceSub, Nat.reduceLeDiff, Nat.reduceLT, reduceCtorEq, Int.reduceLT, Int.reduceLE, Int.reduceEq, Int.reduceBEq, Int.reduceSub, Int.reduceAdd, Int.reduceMul, Int.reduceNeg, Int.reduceToNat, Nat.reduceMul, Nat.reduceBEq, ren1_locm, loc_tips, locT_eq, h3, h4, h5, h6, h7, h8] <;> rfl, ?_, ?_, fun x en s hq => ?_⟩
      · exact hok2
      · exact hmeas
      · rw [hf]; exact hq
  · have hdn : L0.drop i = [] := List.drop_eq_nil_of_le (by omega)
    simp only [go_sem, reduceIte, Nat.reduceEqDiff, Nat.reduceAdd, Nat.reduceSub, Nat.reduceLeDiff, Nat.reduceLT, reduceCtorEq, Int.reduceLT, Int.reduceLE, Int.reduceEq, Int.reduceBEq, Int.reduceSub, Int.reduceAdd, Int.reduceMul, Int.reduceNeg, Int.reduceToNat, Nat.reduceMul, Nat.reduceBEq, index_rsl_if, setm, make_ints, condK_dec, wantK_dec, not_dec, and_dec, or_dec, seqK_ite, seqK_none, blockK_ite, blockK_none, opsK_ite, opsK_none, stepK_ite, stepK_none, bodyK_ite, bodyK_none, resK_ite, resK_none, leaveK_ite, leaveK_none, only_ite, only_none, bind_ite, gives_some, gives_none, gives_ite, then_normal, then_ret, then_exit, then_none, then_ite, Option.bind_none, Option.map_none, Bool.not_eq_true', decide_eq_false_iff_not, Bool.and_eq_true, Bool.or_eq_true, Option.some.injEq, Int.not_lt, Int.not_le, lp34_1, q, List.length_map, hdn]
    rfl


def levelR (arts : List (Int × Int)) (room floor v : Int) : Int × Int :=
  if check arts room floor = 0 then
    (if v < 1 ∨ (arts.length : Int) < v then (0, 1) else (levelF (mosts arts) v (seg (mosts arts) 0 arts.length) (cutsOf arts.length 0), 0))
  else (0, check arts room floor)

theorem c34 (nl : Bool) (arts : List (Int × Int)) (room floor v : Int) (st : St) :
    run L 34 [bookAV nl arts room floor, I v] st = some (two (levelR arts room floor v), st) := by
  rw [run_pure (fn := ir34) rfl rfl]
  have hc := fun st => c26 nl arts room floor st
  unfold levelR
  by_cases p0 : check arts room floor = 0
  · rw [if_pos p0]
    obtain ⟨g1, g2, g3, g4⟩ := mosts_ok p0
    by_cases p1 : 1 ≤ v ∧ v ≤ (arts.length : Int)
    · rw [if_neg (by omega)]
      have h84 : ∀ st, run L 84 [I arts.length, .v (.slice none 0 0)] st = some (sl 1 true ((cutsOf arts.length 0).map listAV), st) := by
        intro st
        have := c84 arts.length g4 g3 (arts.length - 0) true [] 0 rfl (by omega) (by simp) rfl st
        rw [preL_nil] at this
        exact this
      have h78 := fun st => c78' nl arts room floor p0 0 arts.length (by omega) (by omega) (by omega) st
      have hlen := (cutsOf_len arts.length 12 0 (by omega)).1
      simp only [ir34, go_sem, reduceIte, Nat.reduceEqDiff, Nat.reduceAdd, Nat.reduceSub, Nat.reduceLeDiff, Nat.reduceLT, reduceCtorEq, Int.reduceLT, Int.reduceLE, Int.reduceEq, Int.reduceBEq, Int.reduceSub, Int.reduceAdd, Int.reduceMul, Int.reduceNeg, Int.reduceToNat, Nat.reduceMul, Nat.reduceBEq, hc, p0, c77, p1, h78, h84, List.length_map]
      generalize hg : lim (headed pure (run L) true _ lp34_1 _ _) _ _ = o
      obtain ⟨x, en, s, rfl, h2⟩ : ∃ x en s, o = some (x, en, s) ∧ _ := by rw [← hg]; exact loop34_1 nl arts room floor p0 v _ rfl (by omega) 0 (seg (mosts arts) 0 arts.length) (Nat.zero_le _) _ _ (by simp only [go_sem, reduceIte, Nat.reduceEqDiff, Nat.reduceAdd, Nat.reduceSub, Nat.reduceLeDiff, Nat.reduceLT, reduceCtorEq, Int.reduceLT, Int.reduceLE, Int.reduceEq, Int.reduceBEq, Int.reduceSub, Int.reduceAdd, Int.reduceMul, Int.reduceNeg, Int.reduceToNat, Nat.reduceMul, Nat.reduceBEq] <;> rfl)
      clear hg
      obtain ⟨rfl, h3⟩ := h2
      rw [List.drop_zero] at h3
      simp only [go_sem, reduceIte, Nat.reduceEqDiff, Nat.reduceAdd, Nat.reduceSub, Nat.reduceLeDiff, Nat.reduceLT, reduceCtorEq, Int.reduceLT, Int.reduceLE, Int.reduceEq, Int.reduceBEq, Int.reduceSub, Int.reduceAdd, Int.reduceMul, Int.reduceNeg, Int.reduceToNat, Nat.reduceMul, Nat.reduceBEq, h3]
    · rw [if_pos (by omega)]
      simp only [ir34, go_sem, reduceIte, Nat.reduceEqDiff, Nat.reduceAdd, Nat.reduceSub, Nat.reduceLeDiff, Nat.reduceLT, reduceCtorEq, Int.reduceLT, Int.reduceLE, Int.reduceEq, Int.reduceBEq, Int.reduceSub, Int.reduceAdd, Int.reduceMul, Int.reduceNeg, Int.reduceToNat, Nat.reduceMul, Nat.reduceBEq, hc, p0, c77, p1, List.length_map]
  · rw [if_neg p0]
    simp only [ir34, go_sem, reduceIte, Nat.reduceEqDiff, Nat.reduceAdd, Nat.reduceSub, Nat.reduceLeDiff, Nat.reduceLT, reduceCtorEq, Int.reduceLT, Int.reduceLE, Int.reduceEq, Int.reduceBEq, Int.reduceSub, Int.reduceAdd, Int.reduceMul, Int.reduceNeg, Int.reduceToNat, Nat.reduceMul, Nat.reduceBEq, hc, p0]

/-! ### the smallest room -/

theorem maxSeg_le (l : List Int) (room : Int) : ∀ (c : List Int) (b acc : Int), maxSeg l b acc c ≤ room ↔ acc ≤ room ∧ okC (fun b e => decide (seg l b e ≤ room)) b c = true
  | [], b, acc => by simp [maxSeg, okC]
  | e :: r, b, acc => by
    simp only [maxSeg, okC, Bool.and_eq_true, decide_eq_true_eq]
    rw [maxSeg_le l room r]
    constructor
    · rintro ⟨h1, h2⟩; exact ⟨by omega, by omega, h2⟩
    · rintro ⟨h1, h2, h3⟩; exact ⟨by omega, h3⟩
theorem levelF_le (l : List Int) (v : Int) : ∀ (L0 : List (List Int)) (best : Int), levelF l v best L0 ≤ best ∧ (∀ c ∈ L0, (c.length : Int) ≤ v → levelF l v best L0 ≤ maxSeg l 0 0 c) ∧
    (levelF l v best L0 = best ∨ ∃ c ∈ L0, (c.length : Int) ≤ v ∧ levelF l v best L0 = maxSeg l 0 0 c)
  | [], best => ⟨Int.le_refl _, by simp, .inl rfl⟩
  | x :: r, best => by
    have h := levelF_le l v r (if (x.length : Int) ≤ v then min best (maxSeg l 0 0 x) else best)
    have he : levelF l v best (x :: r) = levelF l v (if (x.length : Int) ≤ v then min best (maxSeg l 0 0 x) else best) r := rfl
    rw [he]
    obtain ⟨h1, h2, h3⟩ := h
    refine ⟨?_, ?_, ?_⟩
    · by_cases hx : (x.length : Int) ≤ v
      · rw [if_pos hx] at h1 ⊢; omega
      · rw [if_neg hx] at h1 ⊢; omega
    · intro c hc hl
      rcases List.mem_cons.1 hc with rfl | hc
      · rw [if_pos hl] at h1 ⊢; omega
      · exact h2 c hc hl
    · rcases h3 with h3 | ⟨c, h3, h4, h5⟩
      · split at h3
        · next hx =>
          rw [if_pos hx] at *
          by_cases hm : best ≤ maxSeg l 0 0 x
          · left; omega
          · right; exact ⟨x, by simp, hx, by omega⟩
        · next hx => rw [if_neg hx] at *; left; exact h3
      · right; exact ⟨c, by simp [h3], h4, h5⟩

theorem halve_eq (p : Int → Prop) [DecidablePred p] (m : Int) : ∀ (k : Nat) (low high : Int), low ≤ m → m ≤ high → high - low ≤ k → (∀ r, low ≤ r → (p r ↔ m ≤ r)) → halve p k low high = m
  | 0, low, high, h1, h2, h3, _ => by simp only [halve]; omega
  | k + 1, low, high, h1, h2, h3, h4 => by
    simp only [halve]
    by_cases h : low < high
    · rw [if_pos h]
      have hp := h4 ((low + high) / 2) (by omega)
      by_cases hq : p ((low + high) / 2)
      · rw [if_pos hq]
        exact halve_eq p m k low _ h1 (hp.1 hq) (by omega) h4
      · rw [if_neg hq]
        have : ¬ m ≤ (low + high) / 2 := fun h => hq (hp.2 h)
        exact halve_eq p m k _ high (by omega) h2 (by omega) (fun r hr => h4 r (by omega))
    · rw [if_neg h]; omega

/-- With some room so many volumes are enough just if a cut says so. -/
theorem fits_iff {arts : List (Int × Int)} {room0 floor : Int} (hc : check arts room0 floor = 0) (v room : Int) :
    fits (mosts arts) v room ↔ ∃ c ∈ cutsOf arts.length 0, (c.length : Int) ≤ v ∧ okC (fun b e => decide (seg (mosts arts) b e ≤ room)) 0 c = true := by
  obtain ⟨g1, g2, g3, g4⟩ := mosts_ok hc
  obtain ⟨_, _, k3, _⟩ := check_zero hc
  have hm : Mono arts.length (fun b e => decide (seg (mosts arts) b e ≤ room)) := by
    intro b b' e' e h1 h2 h3 h4 h5
    simp only [decide_eq_true_eq] at h5 ⊢
    have := seg_mono (l := arts.map (·.2)) (by intro x hx; obtain ⟨a, ha, rfl⟩ := List.mem_map.1 hx; have := k3 a ha; omega) b b' e' e h1 h2 h3 (by simpa using h4)
    simp only [mosts] at h5 ⊢
    omega
  have hmem : ∀ c, c ∈ goods arts.length (fun b e => decide (seg (mosts arts) b e ≤ room)) 0 ↔ c ∈ cutsOf arts.length 0 ∧ okC (fun b e => decide (seg (mosts arts) b e ≤ room)) 0 c = true := by
    intro c; unfold goods; rw [List.mem_filter]; rfl
  by_cases hs : ∀ e : Nat, 1 ≤ e → e ≤ arts.length → seg (mosts arts) ((e : Int) - 1) e ≤ room
  · obtain ⟨r, h1, h2⟩ := fill_goods (mosts arts) room arts.length hm hs arts.length 0 1 [] (by omega) (by omega) (.inl rfl) (by omega)
    have hf : filled (mosts arts) room = r ++ [(arts.length : Int)] := by
      unfold filled
      rw [g2, Nat.add_sub_cancel, h1]
      simp only [List.nil_append]
      congr 2; omega
    obtain ⟨q1, q2⟩ := lastMin_mem h2
    unfold fits
    rw [hf]
    constructor
    · rintro ⟨_, h⟩
      have := (hmem _).1 q1
      exact ⟨_, this.1, h, this.2⟩
    · rintro ⟨c, h3, h4, h5⟩
      have := q2 c ((hmem c).2 ⟨h3, h5⟩)
      exact ⟨by simp, by omega⟩
  · have : ∃ e : Nat, 1 ≤ e ∧ e ≤ arts.length ∧ room < seg (mosts arts) ((e : Int) - 1) e := by
      apply Classical.byContradiction
      intro hn
      apply hs
      intro e h1 h2
      apply Classical.byContradiction
      intro h3
      exact hn ⟨e, h1, h2, by omega⟩
    obtain ⟨e, h1, h2, h3⟩ := this
    have hf : filled (mosts arts) room = [] := by
      unfold filled
      rw [g2, Nat.add_sub_cancel, fill_none (mosts arts) room arts.length 0 1 [] ⟨e, h1, by omega, h3⟩]
    unfold fits
    rw [hf]
    constructor
    · rintro ⟨h, _⟩; exact absurd rfl h
    · rintro ⟨c, h4, h5, h6⟩
      exfalso
      have := good_single hm c 0 e ((goods_iff _ _ _ 0 rfl c).1 ((hmem c).2 ⟨h4, h6⟩)) (by omega) h2
      simp at this; omega

theorem all_in_one {n : Nat} (h : 0 < n) : [(n : Int)] ∈ cutsOf n 0 := by
  rw [cutsOf_eq h, List.mem_flatMap]
  exact ⟨n, by simp [List.mem_range']; exact ⟨n - 1, by omega, by omega⟩, by rw [cutsOf_end (Nat.le_refl _)]; simp⟩

theorem seg_pos {arts : List (Int × Int)} {room floor : Int} (hc : check arts room floor = 0) (b e : Nat) (h : b < e) (he : e ≤ arts.length) : 1 ≤ seg (mosts arts) b e := by
  obtain ⟨_, _, k3, _⟩ := check_zero hc
  have h1 := seg_mono (l := arts.map (·.2)) (by intro x hx; obtain ⟨a, ha, rfl⟩ := List.mem_map.1 hx; have := k3 a ha; omega) b b (b + 1) e (Nat.le_refl _) (by omega) (by omega) (by simpa using he)
  have h2 := seg_sums (·.2) arts b ((b + 1 : Nat) : Int) (by omega) (by omega) (by omega)
  rw [Int.toNat_natCast, Int.toNat_natCast, sumSeg_step _ _ _ _ (by omega) (by omega), sumSeg_end _ _ _ _ (by omega)] at h2
  have := k3 _ (List.getElem_mem (show b < arts.length by omega))
  simp only [mosts] at *
  omega

theorem level_eq (arts : List (Int × Int)) (room floor v : Int) : levelV arts room floor v = levelR arts room floor v := by
  unfold levelV levelR
  by_cases p0 : check arts room floor = 0
  · rw [if_pos p0, if_pos p0]
    by_cases p1 : v < 1 ∨ (arts.length : Int) < v
    · rw [if_pos p1, if_pos p1]
    · rw [if_neg p1, if_neg p1]
      obtain ⟨g1, g2, g3, g4⟩ := mosts_ok p0
      have hseg : seg (mosts arts) 0 arts.length = (mosts arts).getD arts.length 0 := by
        have : (mosts arts).getD 0 0 = 0 := by unfold mosts; cases arts <;> rfl
        unfold seg
        simp only [Int.toNat_natCast, Int.toNat_zero, this]; omega
      obtain ⟨h1, h2, h3⟩ := levelF_le (mosts arts) v (cutsOf arts.length 0) (seg (mosts arts) 0 arts.length)
      have hone := all_in_one (n := arts.length) (by omega)
      have hmax : maxSeg (mosts arts) 0 0 [(arts.length : Int)] = seg (mosts arts) 0 arts.length := by
        have := seg_pos p0 0 arts.length (by omega) (by omega)
        simp only [maxSeg, Int.natCast_zero] at this ⊢; omega
      have hwit : ∃ c ∈ cutsOf arts.length 0, (c.length : Int) ≤ v ∧ levelF (mosts arts) v (seg (mosts arts) 0 arts.length) (cutsOf arts.length 0) = maxSeg (mosts arts) 0 0 c := by
        rcases h3 with h3 | h3
        · exact ⟨_, hone, by simp; omega, by rw [h3, hmax]⟩
        · exact h3
      obtain ⟨c, hc1, hc2, hc3⟩ := hwit
      have hpos : 1 ≤ levelF (mosts arts) v (seg (mosts arts) 0 arts.length) (cutsOf arts.length 0) := by
        rw [hc3]
        have hg : IsGood arts.length (fun _ _ => true) 0 c := by
          rw [← goods_iff arts.length (fun _ _ => true) _ 0 rfl]
          unfold goods
          rw [List.mem_filter]
          refine ⟨hc1, ?_⟩
          have : ∀ (b : Int) (c : List Int), okC (fun _ _ => true) b c = true := by
            intro b c
            induction c generalizing b with
            | nil => rfl
            | cons e r ih => simp [okC, ih]
          exact this _ _
        cases c with
        | nil => simp only [IsGood] at hg; omega
        | cons e r =>
          obtain ⟨e', rfl, q1, q2, _, _⟩ := hg
          have := seg_pos p0 0 e' q1 q2
          simp only [Int.natCast_zero] at this
          have hle := (maxSeg_le (mosts arts) (maxSeg (mosts arts) 0 0 ((e' : Int) :: r)) ((e' : Int) :: r) 0 0).1 (Int.le_refl _)
          simp only [okC, Bool.and_eq_true, decide_eq_true_eq] at hle
          omega
      generalize levelF (mosts arts) v (seg (mosts arts) 0 arts.length) (cutsOf arts.length 0) = m at *
      have hb : (mosts arts).getD arts.length 0 ≤ 100000 := by
        rw [List.getD_eq_getElem?_getD, List.getElem?_eq_getElem (show arts.length < (mosts arts).length by omega)]
        exact (g1 _ (List.getElem_mem _)).2
      rw [halve_eq (fits (mosts arts) v) m 100000 1 _ hpos (by omega) (by omega) fun r hr => ?_]
      rw [fits_iff p0]
      constructor
      · rintro ⟨c', q1, q2, q3⟩
        have := (maxSeg_le (mosts arts) r c' 0 0).2 ⟨by omega, q3⟩
        have := h2 c' q1 q2
        omega
      · intro hmr
        exact ⟨c, hc1, hc2, ((maxSeg_le (mosts arts) r c 0 0).1 (by omega)).2⟩
  · rw [if_neg p0, if_neg p0]
end Go.Proofs.Ytiifibgadipalaa.Vm

namespace Go.Proofs.Ytiifibgadipalaa.Vm
open Go Go.Ev
set_option maxRecDepth 100000
attribute [local go_sem] cells_any storable_any ren1_any shaped_ptr cells_ptr storable_ptr ren1_ptr shaped_eptr cells_eptr storable_eptr ren1_eptr shaped_rsl cells_rsl storable_rsl ren1_rsl shaped_int cells_int storable_int ren1_int shaped_bool cells_bool storable_bool ren1_bool shaped_nils cells_nils storable_nils ren1_nils shaped_lst cells_lst storable_lst shaped_fn cells_fn storable_fn ren1_fn shaped_ifc cells_ifc storable_ifc ren1_ifc shaped_agg cells_agg storable_agg ren1_agg shaped_tup cells_tup storable_tup ren1_tup shaped_nif cells_nif storable_nif ren1_nif ren1_lany ren1_lfull ren1_lown len_lst len_rsl len_nil load_ptr load_eptr isRsl_lst isRsl_nil isRsl_rsl elems_nil elems_lst elems_sl isRsl_sl body_eq bodyK_normal bodyK_ret resK_some leaveK_some only_some code_skip code_exit code_ret code_ops code_seq code_cond code_block seqK_normal seqK_ret seqK_exit condK_true condK_false blockK_normal blockK_ret blockK_exit opsK_some ops_nil ops_cons wantK_true wantK_false stepK_some pubs pub pub_sl params okRef_loc storable_loc shaped_loc cells_loc isRsl_loc elems_loc len_loc untips untip untip_sl wantedAV setElems withO isAgg_v isAgg_agg isAgg_lst isAgg_ptr isAgg_fn isAgg_ifc isAgg_rsl isAgg_sl isAgg_loc List.replicate_succ List.replicate_zero opAV valAV aval avals ofVal Env.get setD canon gcAV renAll renEnv renStore renCells ren1_sl cutSt okEnv okStore okRefs okRef okRef_sl bin_int bin_bool bin_lst bin_rsl bin_nil bin_agg cellsEq cellEq isShift intOp boolOp min_int max_int beq_int bne resAV tupAV leave_eq fin_sl fin_loc fins fin_v fin_lst fin_agg fin_tup fin_fn storeAV readCells putCells cells_sl shaped_sl storable_sl fieldAddrAV len_sl goI List.getElem?_cons_zero List.getElem?_cons_succ List.getElem?_nil Option.bind_some Option.map_some List.length_cons List.length_nil List.all_cons List.all_nil Bool.and_true Bool.true_and Bool.and_false Bool.false_and and_true true_and and_false false_and Bool.false_eq_true List.set_cons_zero List.set_cons_succ List.append_nil List.nil_append List.cons_append List.take_zero List.take_succ_cons List.take_nil List.drop_zero List.drop_succ_cons List.map_cons List.map_nil decide_true decide_false beq_self_eq_true Bool.not_true Bool.not_false or_true true_or or_false false_or Nat.zero_add Nat.add_zero Nat.le_refl Nat.lt_irrefl decide_eq_true_eq eq_self_iff_true not_true_eq_false not_false_eq_true List.getD_cons_zero code_loop Nat.zero_le Nat.not_lt_zero Bool.true_beq Bool.false_beq beq_true beq_false ge_iff_le gt_iff_lt Lpure pus assert_ifc assert_nil idxA_ptr idxA_eptr idxV_agg Int.cast_ofNat_Int Nat.mul_one Nat.zero_mul Int.toNat_natCast Int.toNat_zero setParts withO2 eqnil_sl nenil_sl eqnil_loc nenil_loc map_nil_iff okRefs_ints renCells_ints

theorem fewest_len (arts : List (Int × Int)) (room floor : Int) : (fewestV arts room floor).1.length < 1000000 := by
  unfold fewestV
  split
  · next p0 =>
    obtain ⟨g1, g2, g3, g4⟩ := mosts_ok p0
    have : (filled (mosts arts) room).length ≤ 20 := by
      unfold filled
      split
      · simp
      · next r h =>
        have := fillFrom_len _ _ _ _ _ _ _ h
        simp only [List.length_nil] at this
        simp only [List.length_append, List.length_cons, List.length_nil]; omega
    split
    · simp
    · simp only; omega
  · simp
theorem cut_lenV (arts : List (Int × Int)) (room floor : Int) : (cutV arts room floor).1.length < 1000000 := by
  have key : ∀ (n : Nat) (l : List (Option Plan)) (k b : Nat) (r : List Int), cutFrom n l k b = some r → r.length ≤ k := by
    intro n l k
    induction k with
    | zero => intro b r h; simp [cutFrom] at h; subst h; simp
    | succ k ih =>
      intro b r h
      simp only [cutFrom] at h
      split at h
      · split at h
        · simp at h
        · obtain ⟨r', h1, rfl⟩ := Option.map_eq_some_iff.1 h
          have := ih _ _ h1
          simp only [List.length_cons]; omega
      · simp at h; subst h; simp
  unfold cutV
  split
  · next p0 =>
    obtain ⟨g1, g2, g3, g4⟩ := mosts_ok p0
    split
    · simp
    · next r h => have := key _ _ _ _ _ h; simp only; omega
  · simp

theorem c4 (nl : Bool) (arts : List (Int × Int)) (room floor v : Int) (st : St) :
    run L 4 [bookAV nl arts room floor, I v] st = some (B true, st) := by
  rw [run_pure (fn := ir4) rfl rfl]
  by_cases p1 : 40 < (arts.length : Int)
  · simp only [ir4, go_sem, reduceIte, Nat.reduceEqDiff, Nat.reduceAdd, Nat.reduceSub, Nat.reduceLeDiff, Nat.reduceLT, reduceCtorEq, Int.reduceLT, Int.reduceLE, Int.reduceEq, Int.reduceBEq, Int.reduceSub, Int.reduceAdd, Int.reduceMul, Int.reduceNeg, Int.reduceToNat, Nat.reduceMul, Nat.reduceBEq, p1, c17, List.length_map]
  · have h18 := fun st => c18 nl arts (by omega) room floor st
    have h31 := fun st => c31 nl arts room floor st
    have h32 := fun st => c32 true arts room floor st
    have h33 := fun st => c33 nl arts room floor v st
    have h34 := fun st => c34 true arts room floor v st
    rw [← fewest_eq] at h32
    rw [← level_eq] at h34
    have h35 := fun b st => c35 true b (fewestV arts room floor).1 (fewestV arts room floor).1 (fewest_len _ _ _) st
    simp only [ir4, go_sem, reduceIte, Nat.reduceEqDiff, Nat.reduceAdd, Nat.reduceSub, Nat.reduceLeDiff, Nat.reduceLT, reduceCtorEq, Int.reduceLT, Int.reduceLE, Int.reduceEq, Int.reduceBEq, Int.reduceSub, Int.reduceAdd, Int.reduceMul, Int.reduceNeg, Int.reduceToNat, Nat.reduceMul, Nat.reduceBEq, p1, c17, List.length_map, h18, h31, h32, h33, h34, h35]

theorem c6 (nl : Bool) (arts : List (Int × Int)) (room floor : Int) (st : St) :
    run L 6 [bookAV nl arts room floor] st = some (B true, st) := by
  rw [run_pure (fn := ir6) rfl rfl]
  by_cases p1 : 40 < (arts.length : Int)
  · simp only [ir6, go_sem, reduceIte, Nat.reduceEqDiff, Nat.reduceAdd, Nat.reduceSub, Nat.reduceLeDiff, Nat.reduceLT, reduceCtorEq, Int.reduceLT, Int.reduceLE, Int.reduceEq, Int.reduceBEq, Int.reduceSub, Int.reduceAdd, Int.reduceMul, Int.reduceNeg, Int.reduceToNat, Nat.reduceMul, Nat.reduceBEq, p1, c17, List.length_map]
  · have h18 := fun st => c18 nl arts (by omega) room floor st
    have h41 := fun st => c41 nl arts room floor st
    have h42 := fun st => c42 true arts room floor st
    have h43 := fun st => c43 nl arts room floor st
    have h44 := fun st => c44 true arts room floor st
    rw [← cut_eq] at h42
    rw [← count_eq] at h44
    have h35 := fun b st => c35 true b (cutV arts room floor).1 (cutV arts room floor).1 (cut_lenV _ _ _) st
    simp only [ir6, go_sem, reduceIte, Nat.reduceEqDiff, Nat.reduceAdd, Nat.reduceSub, Nat.reduceLeDiff, Nat.reduceLT, reduceCtorEq, Int.reduceLT, Int.reduceLE, Int.reduceEq, Int.reduceBEq, Int.reduceSub, Int.reduceAdd, Int.reduceMul, Int.reduceNeg, Int.reduceToNat, Nat.reduceMul, Nat.reduceBEq, p1, c17, List.length_map, h18, h41, h42, h43, h44, h35]
end Go.Proofs.Ytiifibgadipalaa.Vm

namespace Go.Proofs.Ytiifibgadipalaa.Vm
open Go Go.Ev
set_option maxRecDepth 100000
attribute [local go_sem] cells_any storable_any ren1_any shaped_ptr cells_ptr storable_ptr ren1_ptr shaped_eptr cells_eptr storable_eptr ren1_eptr shaped_rsl cells_rsl storable_rsl ren1_rsl shaped_int cells_int storable_int ren1_int shaped_bool cells_bool storable_bool ren1_bool shaped_nils cells_nils storable_nils ren1_nils shaped_lst cells_lst storable_lst shaped_fn cells_fn storable_fn ren1_fn shaped_ifc cells_ifc storable_ifc ren1_ifc shaped_agg cells_agg storable_agg ren1_agg shaped_tup cells_tup storable_tup ren1_tup shaped_nif cells_nif storable_nif ren1_nif ren1_lany ren1_lfull ren1_lown len_lst len_rsl len_nil load_ptr load_eptr isRsl_lst isRsl_nil isRsl_rsl elems_nil elems_lst elems_sl isRsl_sl body_eq bodyK_normal bodyK_ret resK_some leaveK_some only_some code_skip code_exit code_ret code_ops code_seq code_cond code_block seqK_normal seqK_ret seqK_exit condK_true condK_false blockK_normal blockK_ret blockK_exit opsK_some ops_nil ops_cons wantK_true wantK_false stepK_some pubs pub pub_sl params okRef_loc storable_loc shaped_loc cells_loc isRsl_loc elems_loc len_loc untips untip untip_sl wantedAV setElems withO isAgg_v isAgg_agg isAgg_lst isAgg_ptr isAgg_fn isAgg_ifc isAgg_rsl isAgg_sl isAgg_loc List.replicate_succ List.replicate_zero opAV valAV aval avals ofVal Env.get setD canon gcAV renAll renEnv renStore renCells ren1_sl cutSt okEnv okStore okRefs okRef okRef_sl bin_int bin_bool bin_lst bin_rsl bin_nil bin_agg cellsEq cellEq isShift intOp boolOp min_int max_int beq_int bne resAV tupAV leave_eq fin_sl fin_loc fins fin_v fin_lst fin_agg fin_tup fin_fn storeAV readCells putCells cells_sl shaped_sl storable_sl fieldAddrAV len_sl goI List.getElem?_cons_zero List.getElem?_cons_succ List.getElem?_nil Option.bind_some Option.map_some List.length_cons List.length_nil List.all_cons List.all_nil Bool.and_true Bool.true_and Bool.and_false Bool.false_and and_true true_and and_false false_and Bool.false_eq_true List.set_cons_zero List.set_cons_succ List.append_nil List.nil_append List.cons_append List.take_zero List.take_succ_cons List.take_nil List.drop_zero List.drop_succ_cons List.map_cons List.map_nil decide_true decide_false beq_self_eq_true Bool.not_true Bool.not_false or_true true_or or_false false_or Nat.zero_add Nat.add_zero Nat.le_refl Nat.lt_irrefl decide_eq_true_eq eq_self_iff_true not_true_eq_false not_false_eq_true List.getD_cons_zero code_loop Nat.zero_le Nat.not_lt_zero Bool.true_beq Bool.false_beq beq_true beq_false ge_iff_le gt_iff_lt Lpure pus assert_ifc assert_nil idxA_ptr idxA_eptr idxV_agg Int.cast_ofNat_Int Nat.mul_one Nat.zero_mul Int.toNat_natCast Int.toNat_zero setParts withO2 eqnil_sl nenil_sl eqnil_loc nenil_loc map_nil_iff okRefs_ints renCells_ints

theorem c86 (nl : Bool) (arts : List (Int × Int)) (room floor : Int) (hc : check arts room floor = 0) (x y : Int) (h0 : 0 ≤ x) (h1 : y < arts.length) (st : St) :
    run L 86 [bookAV nl arts room floor, artAV (x, y)] st = some (B (decide (x < y ∧ room < seg (mosts arts) x (y + 1))), st) := by
  rw [run_pure (fn := ir86) rfl rfl]
  obtain ⟨g1, g2, g3, g4⟩ := mosts_ok hc
  by_cases p : x < y
  · have hw := wrap64 (y + 1) (by omega) (by omega)
    have h78 := fun st => c78' nl arts room floor hc x (y + 1) h0 (by omega) (by omega) st
    simp only [ir86, go_sem, reduceIte, Nat.reduceEqDiff, Nat.reduceAdd, Nat.reduceSub, Nat.reduceLeDiff, Nat.reduceLT, reduceCtorEq, Int.reduceLT, Int.reduceLE, Int.reduceEq, Int.reduceBEq, Int.reduceSub, Int.reduceAdd, Int.reduceMul, Int.reduceNeg, Int.reduceToNat, Nat.reduceMul, Nat.reduceBEq, p, hw, h78]
  · simp only [ir86, go_sem, reduceIte, Nat.reduceEqDiff, Nat.reduceAdd, Nat.reduceSub, Nat.reduceLeDiff, Nat.reduceLT, reduceCtorEq, Int.reduceLT, Int.reduceLE, Int.reduceEq, Int.reduceBEq, Int.reduceSub, Int.reduceAdd, Int.reduceMul, Int.reduceNeg, Int.reduceToNat, Nat.reduceMul, Nat.reduceBEq, p]

/-- The first of the longest rows of stretches from article x on. -/
def rowD (n : Nat) (la : Nat → Nat) (x : Nat) : List (Int × Int) :=
  if x < n then
    (if la x < n ∧ (rowD n la (x + 1)).length ≤ (rowD n la (max (x + 1) (la x))).length + 1 then ((x : Int), (la x : Int)) :: rowD n la (max (x + 1) (la x)) else rowD n la (x + 1))
  else []
termination_by n - x
theorem rowD_len (n : Nat) (la : Nat → Nat) : ∀ (m x : Nat), n - x = m → (rowD n la x).length = rowOf n la x := by
  intro m
  induction m using Nat.strongRecOn with
  | ind m ih =>
    intro x hm
    rw [rowD, rowOf]
    by_cases h : x < n
    · rw [if_pos h, if_pos h]
      have h1 := ih (n - (x + 1)) (by omega) (x + 1) rfl
      have h2 := ih (n - (max (x + 1) (la x))) (by omega) _ rfl
      rw [h1, h2]
      by_cases h3 : la x < n
      · rw [if_pos h3]
        by_cases h4 : rowOf n la (x + 1) ≤ rowOf n la (max (x + 1) (la x)) + 1
        · rw [if_pos ⟨h3, h4⟩, List.length_cons, h2]; omega
        · rw [if_neg (fun h => h4 h.2), h1]; omega
      · rw [if_neg h3, if_neg (fun h => h3 h.1), h1]
    · rw [if_neg h, if_neg h]; rfl
theorem rowWalk_eq (n : Nat) (la : Nat → Nat) (hla : ∀ x, x < n → x < la x ∧ la x ≤ n) : ∀ (k x : Nat), n ≤ x + k → rowWalk n la (rowOf n la) k x = rowD n la x
  | 0, x, h => by
    rw [rowD, if_neg (by omega)]; rfl
  | k + 1, x, h => by
    simp only [rowWalk]
    have hl := rowD_len n la _ x rfl
    by_cases hx : x < n
    · have hla' := hla x hx
      have e1 : max (x + 1) (la x) = la x := by omega
      have h1 := rowD_len n la _ (x + 1) rfl
      have h2 := rowD_len n la _ (la x) rfl
      have hro : rowOf n la x = if la x < n then max (rowOf n la (x + 1)) (1 + rowOf n la (la x)) else rowOf n la (x + 1) := by
        rw [rowOf, if_pos hx, e1]
      have hrd : rowD n la x = if la x < n ∧ (rowD n la (x + 1)).length ≤ (rowD n la (la x)).length + 1 then ((x : Int), (la x : Int)) :: rowD n la (la x) else rowD n la (x + 1) := by
        rw [rowD, if_pos hx, e1]
      rw [rowWalk_eq n la hla k (x + 1) (by omega), rowWalk_eq n la hla k (la x) (by omega), hrd, h1, h2]
      by_cases h3 : la x < n
      · rw [if_pos h3] at hro
        by_cases h4 : rowOf n la (x + 1) ≤ rowOf n la (la x) + 1
        · rw [if_pos (show 0 < rowOf n la x by omega), if_neg (show ¬(la x = n ∨ 1 + rowOf n la (la x) < rowOf n la x) by omega), if_pos ⟨h3, h4⟩]
        · rw [if_pos (show 0 < rowOf n la x by omega), if_pos (show la x = n ∨ 1 + rowOf n la (la x) < rowOf n la x by omega), if_neg (fun h => h4 h.2)]
      · rw [if_neg h3] at hro
        by_cases h5 : 0 < rowOf n la x
        · rw [if_pos h5, if_pos (show la x = n ∨ 1 + rowOf n la (la x) < rowOf n la x by omega), if_neg (fun h => h3 h.1)]
        · rw [if_neg h5, if_neg (fun h => h3 h.1)]
          have : (rowD n la (x + 1)).length = 0 := by omega
          exact (List.eq_nil_of_length_eq_zero this).symm
    · rw [rowOf, if_neg hx, if_neg (by omega), rowD, if_neg hx]

/-- The best row so far, as it lies. -/
def bestAV (b : List (Int × Int)) : AV := if b = [] then .v (.slice none 0 0) else loc 2 1 (b.map artAV)
def bestT (b : List (Int × Int)) : List Nat := if b = [] then [] else locT 1 (b.map artAV)
theorem len_best (b : List (Int × Int)) : lenAV (bestAV b) = some (I b.length) := by
  unfold bestAV; split
  · next h => subst h; rfl
  · rw [len_loc]; simp
theorem okRef_best (n : Nat) (b : List (Int × Int)) : okRef n (bestAV b) = true := by
  unfold bestAV; split
  · rfl
  · exact okRef_loc _ _ _ _
theorem ren1_bestH (b : List (Int × Int)) : ren1 (bestT b).length (bestT b) [] (bestAV b) = (bestAV b, []) := by
  unfold bestAV bestT
  split
  · rfl
  · unfold loc locT
    split
    · rfl
    · simp [ren1]
def bestAcc (b : List (Int × Int)) : List (Nat × Nat) := if b = [] then [] else if b.length = 1 then [] else [(0, b.length)]
theorem ren1_best (b : List (Int × Int)) : ren1 0 (bestT b) [] (bestAV b) = (bestAV b, bestAcc b) := by
  unfold bestAV bestT bestAcc
  split
  · rfl
  · rw [ren1_loc]; simp
theorem bestAcc_T (b : List (Int × Int)) : (bestAcc b).map (fun x => x.2) = bestT b := by
  unfold bestAcc bestT
  split
  · rfl
  · simp only [locT, List.length_map]; split <;> rfl
theorem bestT_len (b : List (Int × Int)) : (bestT b).length ≤ 1 := by
  unfold bestT locT
  split
  · simp
  · split <;> simp

/-- The best row is taken over if it is longer. -/
def bestNext (n : Nat) (la : Nat → Nat) (x : Nat) (b : List (Int × Int)) : List (Int × Int) := if la x < n ∧ b.length < (rowD n la (la x)).length + 1 then ((x : Int), (la x : Int)) :: rowD n la (la x) else b

theorem rowD_short (n : Nat) (la : Nat → Nat) (x : Nat) : (rowD n la x).length ≤ n - x := by rw [rowD_len n la _ x rfl]; exact rowOf_le n la x

theorem app_pair (p : Int × Int) {R : List (Int × Int)} (hR : R ≠ []) (hm : R.length ≤ 1000) (st : St) :
    appendAV 2 (.lst .full 2 [artAV p]) (R.map artAV) st = some (.lst (.own st.tips.length (R.length + 1)) 2 ((p :: R).map artAV), ⟨st.store, st.tips ++ [R.length + 1]⟩) := by
  obtain ⟨y, r, rfl⟩ : ∃ y r, R = y :: r := by cases R with | nil => exact absurd rfl hR | cons y r => exact ⟨y, r, rfl⟩
  simp only [List.length_cons] at hm
  simp [appendAV, maxGrow]
  omega
theorem ren_pair (T : List Nat) (m : Nat) (xs : List AV) : ren1 0 (T ++ [m]) [] (.lst (.own T.length m) 2 xs) = (.lst (.own 0 xs.length) 2 xs, [(T.length, xs.length)]) := by
  simp [ren1]
theorem best_cons (p : Int × Int) (R : List (Int × Int)) (hR : R ≠ []) : bestAV (p :: R) = .lst (.own 0 ((p :: R).map artAV).length) 2 ((p :: R).map artAV) ∧ bestT (p :: R) = [((p :: R).map artAV).length] := by
  have : ¬ ((p :: R).map artAV).length = 1 := by
    cases R with
    | nil => exact absurd rfl hR
    | cons y r => simp
  unfold bestAV bestT
  rw [if_neg (by simp), if_neg (by simp)]
  unfold loc locT
  rw [if_neg this, if_neg this]
  exact ⟨rfl, rfl⟩

theorem loop85_0 (nl : Bool) (arts : List (Int × Int)) (room floor : Int) (hc : check arts room floor = 0) (n : Nat) (hn : n = arts.length) (la : Nat → Nat) (hla : la = lastOfArt (mosts arts) room n) (x : Nat) (hx : x < n) (b : List (Int × Int)) (hi : Nat) (hhi : hi = (bestT b).length) (hrec : ∀ y, x < y → y ≤ n → ∀ st, run L 85 [bookAV nl arts room floor, I y] st = some (sl 2 true ((rowD n la y).map artAV), st)) (k : Nat) (y : Nat) (hok : y + k = n ∧ x < y ∧ stretchEnd (mosts arts) room n x k y = la x ∧ b.length ≤ 100) (env : Env) (st : St)
    (hg : gcAV true 1 hi (canon env [2, 5, 6, 7]) st = ([(2, .ptr 0 0), (5, bestAV b), (6, I x), (7, I y)], ⟨[bookCells nl arts room floor], bestT b⟩)) :
    ∃ x_1 en s, lim (headed pure (run L) true [2, 5, 6, 7] lp85_0 1 hi) env st = some (x_1, en, s) ∧ (x_1 = .exit 2 ∧ en.get 2 = .ptr 0 0 ∧ en.get 6 = I x ∧ s.store = [bookCells nl arts room floor] ∧ okRef 1 (en.get 5) = true ∧ ∃ acc, ren1 0 s.tips [] (en.get 5) = (bestAV (bestNext n la x b), acc) ∧ acc.map (fun p => p.2) = bestT (bestNext n la x b)) := by
  refine loop_wp (α := Nat × Nat) (fun ⟨k, y⟩ => k) (fun ⟨k, y⟩ => y + k = n ∧ x < y ∧ stretchEnd (mosts arts) room n x k y = la x ∧ b.length ≤ 100) (fun ⟨k, y⟩ => ([(2, .ptr 0 0), (5, bestAV b), (6, I x), (7, I y)], ⟨[bookCells nl arts room floor], bestT b⟩)) (fun ⟨k, y⟩ x_1 en s => x_1 = .exit 2 ∧ en.get 2 = .ptr 0 0 ∧ en.get 6 = I x ∧ s.store = [bookCells nl arts room floor] ∧ okRef 1 (en.get 5) = true ∧ ∃ acc, ren1 0 s.tips [] (en.get 5) = (bestAV (bestNext n la x b), acc) ∧ acc.map (fun p => p.2) = bestT (bestNext n la x b)) (fun ⟨k, y⟩ hok => ?_) ⟨k, y⟩ hok env st hg
  simp only at hok
  obtain ⟨g1, g2, g3, g4⟩ := mosts_ok hc
  obtain ⟨hk, hxy, hend, hbl⟩ := hok
  subst hhi
  have hlx : x < la x ∧ la x ≤ n := by rw [hla]; exact lastOfArt_ok _ _ _ _ hx
  by_cases q : (y : Int) < (arts.length : Int)
  · obtain ⟨k, rfl⟩ : ∃ k', k = k' + 1 := ⟨k - 1, by omega⟩
    have hs := succ64 y (by omega)
    have h86 := fun st => c86 nl arts room floor hc x y (by omega) q st
    simp only [stretchEnd] at hend
    by_cases p : seg (mosts arts) x ((y : Int) + 1) ≤ room
    · rw [if_pos ⟨by omega, p⟩] at hend
      have hp : ((x : Int) < (y : Int) ∧ room < seg (mosts arts) x ((y : Int) + 1)) = False := eq_false (by omega)
      have hok2 : y + 1 + k = n ∧ x < y + 1 ∧ stretchEnd (mosts arts) room n x k (y + 1) = la x ∧ b.length ≤ 100 := ⟨by omega, by omega, hend, hbl⟩
      have hmeas : k < k + 1 := by omega
      simp only [go_sem, reduceIte, Nat.reduceEqDiff, Nat.reduceAdd, Nat.reduceSub, Nat.reduceLeDiff, Nat.reduceLT, reduceCtorEq, Int.reduceLT, Int.reduceLE, Int.reduceEq, Int.reduceBEq, Int.reduceSub, Int.reduceAdd, Int.reduceMul, Int.reduceNeg, Int.reduceToNat, Nat.reduceMul, Nat.reduceBEq, index_rsl_if, setm, make_ints, condK_dec, wantK_dec, not_dec, and_dec, or_dec, seqK_ite, seqK_none, blockK_ite, blockK_none, opsK_ite, opsK_none, stepK_ite, stepK_none, bodyK_ite, bodyK_none, resK_ite, resK_none, leaveK_ite, leaveK_none, only_ite, only_none, bind_ite, gives_some, gives_none, gives_ite, then_normal, then_ret, then_exit, then_none, then_ite, Option.bind_none, Option.map_none, Bool.not_eq_true', decide_eq_false_iff_not, Bool.and_eq_true, Bool.or_eq_true, Option.some.injEq, Int.not_lt, Int.not_le, lp85_0, q, hs, h86, hp, List.length_map]
      refine ⟨(k, y + 1), by simp only [go_sem, reduceIte, Nat.reduceEqDiff, Nat.reduceAdd, Nat.reduceSub, Nat.reduceLeDiff, Nat.reduceLT, reduceCtorEq, Int.reduceLT, Int.reduceLE, Int.reduceEq, Int.reduceBEq, Int.reduceSub, Int.reduceAdd, Int.reduceMul, Int.reduceNeg, Int.reduceToNat, Nat.reduceMul, Nat.reduceBEq, ren1_locm, loc_tips, locT_eq, okRef_best, ren1_bestH, List.take_length] <;> rfl, ?_, ?_, fun x en s hq => ?_⟩
      · exact hok2
      · exact hmeas
      · exact hq
    · rw [if_neg (fun h => p h.2)] at hend
      have hp : ((x : Int) < (y : Int) ∧ room < seg (mosts arts) x ((y : Int) + 1)) = True := eq_true (by omega)
      have h85 := fun st => hrec y hxy (by omega) st
      have hsh := rowD_short n la y
      have hw : IntKind.i64.wrap (((rowD n la y).length : Int) + 1) = ((rowD n la y).length : Int) + 1 := by rw [wrap64] <;> omega
      by_cases p2 : (b.length : Int) < ((rowD n la y).length : Int) + 1
      · have hbn : bestNext n la x b = ((x : Int), (y : Int)) :: rowD n la y := by unfold bestNext; rw [← hend, if_pos ⟨by omega, by omega⟩]
        rw [hbn]
        generalize rowD n la y = R at *
        by_cases hR : R = []
        · subst hR
          have hw1 : IntKind.i64.wrap 1 = 1 := by rw [wrap64] <;> omega
          have p3 : ((b.length : Int) < 1) = True := eq_true (by simpa using p2)
          have happ := fun st : St => show appendAV 2 (.lst .full 2 [artAV ((x : Int), (y : Int))]) [] st = some (.lst .full 2 [artAV ((x : Int), (y : Int))], st) by simp [appendAV]
          simp only [go_sem, reduceIte, Nat.reduceEqDiff, Nat.reduceAdd, Nat.reduceSub, Nat.reduceLeDiff, Nat.reduceLT, reduceCtorEq, Int.reduceLT, Int.reduceLE, Int.reduceEq, Int.reduceBEq, Int.reduceSub, Int.reduceAdd, Int.reduceMul, Int.reduceNeg, Int.reduceToNat, Nat.reduceMul, Nat.reduceBEq, index_rsl_if, setm, make_ints, condK_dec, wantK_dec, not_dec, and_dec, or_dec, seqK_ite, seqK_none, blockK_ite, blockK_none, opsK_ite, opsK_none, stepK_ite, stepK_none, bodyK_ite, bodyK_none, resK_ite, resK_none, leaveK_ite, leaveK_none, only_ite, only_none, bind_ite, gives_some, gives_none, gives_ite, then_normal, then_ret, then_exit, then_none, then_ite, Option.bind_none, Option.map_none, Bool.not_eq_true', decide_eq_false_iff_not, Bool.and_eq_true, Bool.or_eq_true, Option.some.injEq, Int.not_lt, Int.not_le, lp85_0, q, hs, h86, hp, h85, hw1, p3, len_best, happ, List.length_map]
          exact ⟨_, rfl, rfl⟩
        · have happ := fun st => app_pair ((x : Int), (y : Int)) hR (by omega) st
          obtain ⟨b1, b2⟩ := best_cons ((x : Int), (y : Int)) R hR
          simp only [go_sem, reduceIte, Nat.reduceEqDiff, Nat.reduceAdd, Nat.reduceSub, Nat.reduceLeDiff, Nat.reduceLT, reduceCtorEq, Int.reduceLT, Int.reduceLE, Int.reduceEq, Int.reduceBEq, Int.reduceSub, Int.reduceAdd, Int.reduceMul, Int.reduceNeg, Int.reduceToNat, Nat.reduceMul, Nat.reduceBEq, index_rsl_if, setm, make_ints, condK_dec, wantK_dec, not_dec, and_dec, or_dec, seqK_ite, seqK_none, blockK_ite, blockK_none, opsK_ite, opsK_none, stepK_ite, stepK_none, bodyK_ite, bodyK_none, resK_ite, resK_none, leaveK_ite, leaveK_none, only_ite, only_none, bind_ite, gives_some, gives_none, gives_ite, then_normal, then_ret, then_exit, then_none, then_ite, Option.bind_none, Option.map_none, Bool.not_eq_true', decide_eq_false_iff_not, Bool.and_eq_true, Bool.or_eq_true, Option.some.injEq, Int.not_lt, Int.not_le, lp85_0, q, hs, h86, hp, h85, hw, p2, len_best, happ, List.length_map]
          refine ⟨[((bestT b).length, ((((x : Int), (y : Int)) :: R).map artAV).length)], ?_, ?_⟩
          · rw [b1, if_pos (by simp)]; simp
          · rw [b2]; rfl
      · have hbn : bestNext n la x b = b := by unfold bestNext; rw [← hend, if_neg (by omega)]
        simp only [go_sem, reduceIte, Nat.reduceEqDiff, Nat.reduceAdd, Nat.reduceSub, Nat.reduceLeDiff, Nat.reduceLT, reduceCtorEq, Int.reduceLT, Int.reduceLE, Int.reduceEq, Int.reduceBEq, Int.reduceSub, Int.reduceAdd, Int.reduceMul, Int.reduceNeg, Int.reduceToNat, Nat.reduceMul, Nat.reduceBEq, index_rsl_if, setm, make_ints, condK_dec, wantK_dec, not_dec, and_dec, or_dec, seqK_ite, seqK_none, blockK_ite, blockK_none, opsK_ite, opsK_none, stepK_ite, stepK_none, bodyK_ite, bodyK_none, resK_ite, resK_none, leaveK_ite, leaveK_none, only_ite, only_none, bind_ite, gives_some, gives_none, gives_ite, then_normal, then_ret, then_exit, then_none, then_ite, Option.bind_none, Option.map_none, Bool.not_eq_true', decide_eq_false_iff_not, Bool.and_eq_true, Bool.or_eq_true, Option.some.injEq, Int.not_lt, Int.not_le, lp85_0, q, hs, h86, hp, h85, hw, p2, len_best, List.length_map, okRef_best, hbn]
        exact ⟨_, ren1_best b, bestAcc_T b⟩
  · have hk0 : k = 0 := by omega
    subst hk0
    have hln : la x = n := by simp only [stretchEnd] at hend; omega
    have hbn : bestNext n la x b = b := by unfold bestNext; rw [if_neg (by omega)]
    simp only [go_sem, reduceIte, Nat.reduceEqDiff, Nat.reduceAdd, Nat.reduceSub, Nat.reduceLeDiff, Nat.reduceLT, reduceCtorEq, Int.reduceLT, Int.reduceLE, Int.reduceEq, Int.reduceBEq, Int.reduceSub, Int.reduceAdd, Int.reduceMul, Int.reduceNeg, Int.reduceToNat, Nat.reduceMul, Nat.reduceBEq, index_rsl_if, setm, make_ints, condK_dec, wantK_dec, not_dec, and_dec, or_dec, seqK_ite, seqK_none, blockK_ite, blockK_none, opsK_ite, opsK_none, stepK_ite, stepK_none, bodyK_ite, bodyK_none, resK_ite, resK_none, leaveK_ite, leaveK_none, only_ite, only_none, bind_ite, gives_some, gives_none, gives_ite, then_normal, then_ret, then_exit, then_none, then_ite, Option.bind_none, Option.map_none, Bool.not_eq_true', decide_eq_false_iff_not, Bool.and_eq_true, Bool.or_eq_true, Option.some.injEq, Int.not_lt, Int.not_le, lp85_0, q, List.length_map, okRef_best, hbn]
    exact ⟨_, ren1_best b, bestAcc_T b⟩


/-- The loop over the first articles. -/
def rowLoop (n : Nat) (la : Nat → Nat) : Nat → Nat → List (Int × Int) → List (Int × Int)
  | 0, _, b => b
  | k + 1, x, b => rowLoop n la k (x + 1) (bestNext n la x b)
theorem rowLoop_eq (n : Nat) (la : Nat → Nat) (hla : ∀ x, x < n → x < la x ∧ la x ≤ n) : ∀ (k x : Nat) (b : List (Int × Int)), x + k = n → rowLoop n la k x b = if (rowD n la x).length ≤ b.length then b else rowD n la x
  | 0, x, b, h => by
    have h0 : rowD n la x = [] := by rw [rowD, if_neg (by omega)]
    rw [h0, if_pos (by simp)]; rfl
  | k + 1, x, b, h => by
    have hl := hla x (by omega)
    have e1 : max (x + 1) (la x) = la x := by omega
    have hrd : rowD n la x = if la x < n ∧ (rowD n la (x + 1)).length ≤ (rowD n la (la x)).length + 1 then ((x : Int), (la x : Int)) :: rowD n la (la x) else rowD n la (x + 1) := by
      rw [rowD, if_pos (by omega), e1]
    have hbd : bestNext n la x b = if la x < n ∧ b.length < (rowD n la (la x)).length + 1 then ((x : Int), (la x : Int)) :: rowD n la (la x) else b := rfl
    simp only [rowLoop]
    rw [rowLoop_eq n la hla k (x + 1) _ (by omega)]
    by_cases h3 : la x < n
    · by_cases h4 : (rowD n la (x + 1)).length ≤ (rowD n la (la x)).length + 1
      · rw [if_pos ⟨h3, h4⟩] at hrd
        by_cases h5 : b.length < (rowD n la (la x)).length + 1
        · rw [if_pos ⟨h3, h5⟩] at hbd
          rw [hbd, hrd, List.length_cons, if_pos (by omega), if_neg (by omega)]
        · rw [if_neg (fun h => h5 h.2)] at hbd
          rw [hbd, hrd, List.length_cons, if_pos (by omega), if_pos (by omega)]
      · rw [if_neg (fun h => h4 h.2)] at hrd
        by_cases h5 : b.length < (rowD n la (la x)).length + 1
        · rw [if_pos ⟨h3, h5⟩] at hbd
          rw [hbd, hrd, List.length_cons, if_neg (by omega), if_neg (by omega)]
        · rw [if_neg (fun h => h5 h.2)] at hbd
          rw [hbd, hrd]
    · rw [if_neg (fun h => h3 h.1)] at hrd hbd
      rw [hrd, hbd]

theorem loop85_1 (nl : Bool) (arts : List (Int × Int)) (room floor : Int) (hc : check arts room floor = 0) (n : Nat) (hn : n = arts.length) (la : Nat → Nat) (hla : la = lastOfArt (mosts arts) room n) (x0 : Nat) (hrec : ∀ y, x0 < y → y ≤ n → ∀ st, run L 85 [bookAV nl arts room floor, I y] st = some (sl 2 true ((rowD n la y).map artAV), st)) (k : Nat) (x : Nat) (b : List (Int × Int)) (hok : x + k = n ∧ x0 ≤ x ∧ b.length ≤ 100) (env : Env) (st : St)
    (hg : gcAV true 1 0 (canon env [2, 5, 6]) st = ([(2, .ptr 0 0), (5, bestAV b), (6, I x)], ⟨[bookCells nl arts room floor], bestT b⟩)) :
    ∃ x_1 en s, lim (headed pure (run L) true [2, 5, 6] lp85_1 1 0) env st = some (x_1, en, s) ∧ (x_1 = .exit 0 ∧ en.get 5 = bestAV (rowLoop n la k x b)) := by
  refine loop_wp (α := Nat × Nat × List (Int × Int)) (fun ⟨k, x, b⟩ => k) (fun ⟨k, x, b⟩ => x + k = n ∧ x0 ≤ x ∧ b.length ≤ 100) (fun ⟨k, x, b⟩ => ([(2, .ptr 0 0), (5, bestAV b), (6, I x)], ⟨[bookCells nl arts room floor], bestT b⟩)) (fun ⟨k, x, b⟩ x_1 en s => x_1 = .exit 0 ∧ en.get 5 = bestAV (rowLoop n la k x b)) (fun ⟨k, x, b⟩ hok => ?_) ⟨k, x, b⟩ hok env st hg
  simp only at hok
  obtain ⟨g1, g2, g3, g4⟩ := mosts_ok hc
  obtain ⟨hk, hxx, hbl⟩ := hok
  by_cases q : (x : Int) < (arts.length : Int)
  · obtain ⟨k, rfl⟩ : ∃ k', k = k' + 1 := ⟨k - 1, by omega⟩
    have hs := succ64 x (by omega)
    have hsh := rowD_short n la (la x)
    have hbl2 : (bestNext n la x b).length ≤ 100 := by
      unfold bestNext; split
      · simp only [List.length_cons]; omega
      · exact hbl
    have hok2 : x + 1 + k = n ∧ x0 ≤ x + 1 ∧ (bestNext n la x b).length ≤ 100 := ⟨by omega, by omega, hbl2⟩
    have hmeas : k < k + 1 := by omega
    simp only [go_sem, reduceIte, Nat.reduceEqDiff, Nat.reduceAdd, Nat.reduceSub, Nat.reduceLeDiff, Nat.reduceLT, reduceCtorEq, Int.reduceLT, Int.reduceLE, Int.reduceEq, Int.reduceBEq, Int.reduceSub, Int.reduceAdd, Int.reduceMul, Int.reduceNeg, Int.reduceToNat, Nat.reduceMul, Nat.reduceBEq, index_rsl_if, setm, make_ints, condK_dec, wantK_dec, not_dec, and_dec, or_dec, seqK_ite, seqK_none, blockK_ite, blockK_none, opsK_ite, opsK_none, stepK_ite, stepK_none, bodyK_ite, bodyK_none, resK_ite, resK_none, leaveK_ite, leaveK_none, only_ite, only_none, bind_ite, gives_some, gives_none, gives_ite, then_normal, then_ret, then_exit, then_none, then_ite, Option.bind_none, Option.map_none, Bool.not_eq_true', decide_eq_false_iff_not, Bool.and_eq_true, Bool.or_eq_true, Option.some.injEq, Int.not_lt, Int.not_le, lp85_1, q, hs, List.length_map]
    generalize hg : lim (headed pure (run L) true _ lp85_0 _ _) _ _ = o
    obtain ⟨x, en, s, rfl, h2⟩ : ∃ x en s, o = some (x, en, s) ∧ _ := by rw [← hg]; exact loop85_0 nl arts room floor hc n hn la hla x (by omega) b _ rfl (fun y h1 h2 => hrec y (by omega) h2) (n - (x + 1)) (x + 1) ⟨by omega, by omega, by rw [hla]; rfl, hbl⟩ _ _ (by simp only [go_sem, reduceIte, Nat.reduceEqDiff, Nat.reduceAdd, Nat.reduceSub, Nat.reduceLeDiff, Nat.reduceLT, reduceCtorEq, Int.reduceLT, Int.reduceLE, Int.reduceEq, Int.reduceBEq, Int.reduceSub, Int.reduceAdd, Int.reduceMul, Int.reduceNeg, Int.reduceToNat, Nat.reduceMul, Nat.reduceBEq, okRef_best, ren1_bestH, List.take_length] <;> rfl)
    clear hg
    obtain ⟨rfl, h3, h4, h5, h6, acc, h7, h8⟩ := h2
    obtain ⟨s1, s2⟩ := s
    simp only at h5 h7
    subst h5
    simp only [go_sem, reduceIte, Nat.reduceEqDiff, Nat.reduceAdd, Nat.reduceSub, Nat.reduceLeDiff, Nat.reduceLT, reduceCtorEq, Int.reduceLT, Int.reduceLE, Int.reduceEq, Int.reduceBEq, Int.reduceSub, Int.reduceAdd, Int.reduceMul, Int.reduceNeg, Int.reduceToNat, Nat.reduceMul, Nat.reduceBEq, index_rsl_if, setm, make_ints, condK_dec, wantK_dec, not_dec, and_dec, or_dec, seqK_ite, seqK_none, blockK_ite, blockK_none, opsK_ite, opsK_none, stepK_ite, stepK_none, bodyK_ite, bodyK_none, resK_ite, resK_none, leaveK_ite, leaveK_none, only_ite, only_none, bind_ite, gives_some, gives_none, gives_ite, then_normal, then_ret, then_exit, then_none, then_ite, Option.bind_none, Option.map_none, Bool.not_eq_true', decide_eq_false_iff_not, Bool.and_eq_true, Bool.or_eq_true, Option.some.injEq, Int.not_lt, Int.not_le, h3, h4, hs]
    refine ⟨(k, x + 1, bestNext n la x b), by simp only [go_sem, reduceIte, Nat.reduceEqDiff, Nat.reduceAdd, Nat.reduceSub, Nat.reduceLeDiff, Nat.reduceLT, reduceCtorEq, Int.reduceLT, Int.reduceLE, Int.reduceEq, Int.reduceBEq, Int.reduceSub, Int.reduceAdd, Int.reduceMul, Int.reduceNeg, Int.reduceToNat, Nat.reduceMul, Nat.reduceBEq, h3, h4, h6, h7, h8], hok2, hmeas, fun x en s hq => ?_⟩
    exact hq
  · obtain rfl : k = 0 := by omega
    simp only [go_sem, reduceIte, Nat.reduceEqDiff, Nat.reduceAdd, Nat.reduceSub, Nat.reduceLeDiff, Nat.reduceLT, reduceCtorEq, Int.reduceLT, Int.reduceLE, Int.reduceEq, Int.reduceBEq, Int.reduceSub, Int.reduceAdd, Int.reduceMul, Int.reduceNeg, Int.reduceToNat, Nat.reduceMul, Nat.reduceBEq, index_rsl_if, setm, make_ints, condK_dec, wantK_dec, not_dec, and_dec, or_dec, seqK_ite, seqK_none, blockK_ite, blockK_none, opsK_ite, opsK_none, stepK_ite, stepK_none, bodyK_ite, bodyK_none, resK_ite, resK_none, leaveK_ite, leaveK_none, only_ite, only_none, bind_ite, gives_some, gives_none, gives_ite, then_normal, then_ret, then_exit, then_none, then_ite, Option.bind_none, Option.map_none, Bool.not_eq_true', decide_eq_false_iff_not, Bool.and_eq_true, Bool.or_eq_true, Option.some.injEq, Int.not_lt, Int.not_le, lp85_1, q, List.length_map]
    rfl


theorem c85 (nl : Bool) (arts : List (Int × Int)) (room floor : Int) (hc : check arts room floor = 0) : ∀ (m x : Nat), arts.length - x = m → x ≤ arts.length → ∀ st,
    run L 85 [bookAV nl arts room floor, I x] st = some (sl 2 true ((rowD arts.length (lastOfArt (mosts arts) room arts.length) x).map artAV), st) := by
  intro m
  induction m using Nat.strongRecOn with
  | ind m ih =>
    intro x hm hx st
    rw [run_pure (fn := ir85) rfl rfl]
    simp only [ir85, go_sem, reduceIte, Nat.reduceEqDiff, Nat.reduceAdd, Nat.reduceSub, Nat.reduceLeDiff, Nat.reduceLT, reduceCtorEq, Int.reduceLT, Int.reduceLE, Int.reduceEq, Int.reduceBEq, Int.reduceSub, Int.reduceAdd, Int.reduceMul, Int.reduceNeg, Int.reduceToNat, Nat.reduceMul, Nat.reduceBEq]
    generalize hg : lim (headed pure (run L) true _ lp85_1 _ _) _ _ = o
    obtain ⟨x, en, s, rfl, h2⟩ : ∃ x en s, o = some (x, en, s) ∧ _ := by rw [← hg]; exact loop85_1 nl arts room floor hc arts.length rfl _ rfl x (fun y h1 h2 st => ih (arts.length - y) (by omega) y rfl h2 st) (arts.length - x) x [] ⟨by omega, by omega, by simp⟩ _ _ (by simp only [go_sem, reduceIte, Nat.reduceEqDiff, Nat.reduceAdd, Nat.reduceSub, Nat.reduceLeDiff, Nat.reduceLT, reduceCtorEq, Int.reduceLT, Int.reduceLE, Int.reduceEq, Int.reduceBEq, Int.reduceSub, Int.reduceAdd, Int.reduceMul, Int.reduceNeg, Int.reduceToNat, Nat.reduceMul, Nat.reduceBEq, bestAV, bestT] <;> rfl)
    clear hg
    obtain ⟨rfl, h3⟩ := h2
    rw [rowLoop_eq _ _ (lastOfArt_ok _ _ _) _ _ _ (by omega)] at h3
    have h4 : (if (rowD arts.length (lastOfArt (mosts arts) room arts.length) x).length ≤ ([] : List (Int × Int)).length then [] else rowD arts.length (lastOfArt (mosts arts) room arts.length) x) = rowD arts.length (lastOfArt (mosts arts) room arts.length) x := by
      split
      · next h => exact (List.eq_nil_of_length_eq_zero (by simpa using h)).symm
      · rfl
    rw [h4] at h3
    generalize rowD arts.length (lastOfArt (mosts arts) room arts.length) x = R at *
    have hfin : ∀ st, fin st (bestAV R) = sl 2 true (R.map artAV) := by
      intro st
      unfold bestAV
      split
      · next h => subst h; simp [fin, sl]
      · next h => rw [fin_loc]; cases R with
          | nil => exact absurd rfl h
          | cons a r => rfl
    simp only [go_sem, reduceIte, Nat.reduceEqDiff, Nat.reduceAdd, Nat.reduceSub, Nat.reduceLeDiff, Nat.reduceLT, reduceCtorEq, Int.reduceLT, Int.reduceLE, Int.reduceEq, Int.reduceBEq, Int.reduceSub, Int.reduceAdd, Int.reduceMul, Int.reduceNeg, Int.reduceToNat, Nat.reduceMul, Nat.reduceBEq, h3, hfin]

def whyR (arts : List (Int × Int)) (room floor : Int) : List (Int × Int) × Int :=
  if (fewestR arts room floor).2 = 0 then (if rowD arts.length (lastOfArt (mosts arts) room arts.length) 0 = [] then ([], 13) else (rowD arts.length (lastOfArt (mosts arts) room arts.length) 0, 0)) else ([], (fewestR arts room floor).2)

theorem c37 (nl : Bool) (arts : List (Int × Int)) (room floor : Int) (st : St) :
    run L 37 [bookAV nl arts room floor] st = some (perr (whyR arts room floor), st) := by
  rw [run_pure (fn := ir37) rfl rfl]
  have h32 := fun st => c32 nl arts room floor st
  unfold whyR
  by_cases p0 : (fewestR arts room floor).2 = 0
  · rw [if_pos p0]
    have p1 : check arts room floor = 0 := by
      rw [← fewest_eq] at p0
      unfold fewestV at p0
      split at p0
      · assumption
      · next h => exact absurd p0 h
    have h85 := fun st => c85 nl arts room floor p1 arts.length 0 (by omega) (by omega) st
    simp only [Int.natCast_zero] at h85
    generalize rowD arts.length (lastOfArt (mosts arts) room arts.length) 0 = R at *
    cases R with
    | nil => simp only [ir37, go_sem, reduceIte, Nat.reduceEqDiff, Nat.reduceAdd, Nat.reduceSub, Nat.reduceLeDiff, Nat.reduceLT, reduceCtorEq, Int.reduceLT, Int.reduceLE, Int.reduceEq, Int.reduceBEq, Int.reduceSub, Int.reduceAdd, Int.reduceMul, Int.reduceNeg, Int.reduceToNat, Nat.reduceMul, Nat.reduceBEq, h32, p0, h85] <;> rfl
    | cons a r =>
      have q1 : (((a :: r).length : Int) = 0) = False := eq_false (by simp; omega)
      rw [if_neg (by simp)]
      generalize a :: r = R at *
      simp only [ir37, go_sem, reduceIte, Nat.reduceEqDiff, Nat.reduceAdd, Nat.reduceSub, Nat.reduceLeDiff, Nat.reduceLT, reduceCtorEq, Int.reduceLT, Int.reduceLE, Int.reduceEq, Int.reduceBEq, Int.reduceSub, Int.reduceAdd, Int.reduceMul, Int.reduceNeg, Int.reduceToNat, Nat.reduceMul, Nat.reduceBEq, h32, p0, h85, q1, List.length_map] <;> rfl
  · rw [if_neg p0]
    simp only [ir37, go_sem, reduceIte, Nat.reduceEqDiff, Nat.reduceAdd, Nat.reduceSub, Nat.reduceLeDiff, Nat.reduceLT, reduceCtorEq, Int.reduceLT, Int.reduceLE, Int.reduceEq, Int.reduceBEq, Int.reduceSub, Int.reduceAdd, Int.reduceMul, Int.reduceNeg, Int.reduceToNat, Nat.reduceMul, Nat.reduceBEq, h32, p0] <;> rfl

theorem why_eq (arts : List (Int × Int)) (room floor : Int) : whyV arts room floor = whyR arts room floor := by
  unfold whyV whyR whyL
  rw [fewest_eq, rowWalk_eq _ _ (lastOfArt_ok _ _ _) _ _ (by omega)]
end Go.Proofs.Ytiifibgadipalaa.Vm

namespace Go.Proofs.Ytiifibgadipalaa.Vm
open Go Go.Ev
set_option maxRecDepth 100000
attribute [local go_sem] cells_any storable_any ren1_any shaped_ptr cells_ptr storable_ptr ren1_ptr shaped_eptr cells_eptr storable_eptr ren1_eptr shaped_rsl cells_rsl storable_rsl ren1_rsl shaped_int cells_int storable_int ren1_int shaped_bool cells_bool storable_bool ren1_bool shaped_nils cells_nils storable_nils ren1_nils shaped_lst cells_lst storable_lst shaped_fn cells_fn storable_fn ren1_fn shaped_ifc cells_ifc storable_ifc ren1_ifc shaped_agg cells_agg storable_agg ren1_agg shaped_tup cells_tup storable_tup ren1_tup shaped_nif cells_nif storable_nif ren1_nif ren1_lany ren1_lfull ren1_lown len_lst len_rsl len_nil load_ptr load_eptr isRsl_lst isRsl_nil isRsl_rsl elems_nil elems_lst elems_sl isRsl_sl body_eq bodyK_normal bodyK_ret resK_some leaveK_some only_some code_skip code_exit code_ret code_ops code_seq code_cond code_block seqK_normal seqK_ret seqK_exit condK_true condK_false blockK_normal blockK_ret blockK_exit opsK_some ops_nil ops_cons wantK_true wantK_false stepK_some pubs pub pub_sl params okRef_loc storable_loc shaped_loc cells_loc isRsl_loc elems_loc len_loc untips untip untip_sl wantedAV setElems withO isAgg_v isAgg_agg isAgg_lst isAgg_ptr isAgg_fn isAgg_ifc isAgg_rsl isAgg_sl isAgg_loc List.replicate_succ List.replicate_zero opAV valAV aval avals ofVal Env.get setD canon gcAV renAll renEnv renStore renCells ren1_sl cutSt okEnv okStore okRefs okRef okRef_sl bin_int bin_bool bin_lst bin_rsl bin_nil bin_agg cellsEq cellEq isShift intOp boolOp min_int max_int beq_int bne resAV tupAV leave_eq fin_sl fin_loc fins fin_v fin_lst fin_agg fin_tup fin_fn storeAV readCells putCells cells_sl shaped_sl storable_sl fieldAddrAV len_sl goI List.getElem?_cons_zero List.getElem?_cons_succ List.getElem?_nil Option.bind_some Option.map_some List.length_cons List.length_nil List.all_cons List.all_nil Bool.and_true Bool.true_and Bool.and_false Bool.false_and and_true true_and and_false false_and Bool.false_eq_true List.set_cons_zero List.set_cons_succ List.append_nil List.nil_append List.cons_append List.take_zero List.take_succ_cons List.take_nil List.drop_zero List.drop_succ_cons List.map_cons List.map_nil decide_true decide_false beq_self_eq_true Bool.not_true Bool.not_false or_true true_or or_false false_or Nat.zero_add Nat.add_zero Nat.le_refl Nat.lt_irrefl decide_eq_true_eq eq_self_iff_true not_true_eq_false not_false_eq_true List.getD_cons_zero code_loop Nat.zero_le Nat.not_lt_zero Bool.true_beq Bool.false_beq beq_true beq_false ge_iff_le gt_iff_lt Lpure pus assert_ifc assert_nil idxA_ptr idxA_eptr idxV_agg Int.cast_ofNat_Int Nat.mul_one Nat.zero_mul Int.toNat_natCast Int.toNat_zero setParts withO2 eqnil_sl nenil_sl eqnil_loc nenil_loc map_nil_iff okRefs_ints renCells_ints

def provesOr (n : Int) (l : List Int) (room : Int) (ss : List (Int × Int)) (i : Nat) (er : Int) : Int := if er = 0 then provesFrom n l room (lastOf ss i) (ss.drop i) else er
theorem provesOr_err (n : Int) (l : List Int) (room : Int) (ss : List (Int × Int)) (i : Nat) {er : Int} (h : er ≠ 0) : provesOr n l room ss i er = er := if_neg h

theorem loop40 (nl n2 : Bool) (arts : List (Int × Int)) (room floor v : Int) (hc : check arts room floor = 0 ∨ True) (ss : List (Int × Int)) (hlen : ss.length < 1000) (i : Nat) (er : Int) (hok : (i ≤ ss.length ∧ check arts room floor = 0) ∨ er ≠ 0) (env : Env) (st : St)
    (hg : gcAV true 1 0 (canon env [1, 2, 3, 7, 8, 9]) st = ([(1, I v), (2, sl 2 n2 (ss.map artAV)), (3, .ptr 0 0), (7, I er), (8, I arts.length), (9, I i)], ⟨[bookCells nl arts room floor], []⟩)) :
    ∃ x_1 en s, lim (headed pure (run L) true [1, 2, 3, 7, 8, 9] lp40_0 1 0) env st = some (x_1, en, s) ∧ (x_1 = .exit 0 ∧ en.get 1 = I v ∧ en.get 2 = sl 2 n2 (ss.map artAV) ∧ en.get 7 = I (provesOr arts.length (mosts arts) room ss i er)) := by
  refine loop_wp (α := Nat × Int) (fun ⟨i, er⟩ => if er = 0 then ss.length + 1 - i else 0) (fun ⟨i, er⟩ => (i ≤ ss.length ∧ check arts room floor = 0) ∨ er ≠ 0) (fun ⟨i, er⟩ => ([(1, I v), (2, sl 2 n2 (ss.map artAV)), (3, .ptr 0 0), (7, I er), (8, I arts.length), (9, I i)], ⟨[bookCells nl arts room floor], []⟩)) (fun ⟨i, er⟩ x_1 en s => x_1 = .exit 0 ∧ en.get 1 = I v ∧ en.get 2 = sl 2 n2 (ss.map artAV) ∧ en.get 7 = I (provesOr arts.length (mosts arts) room ss i er)) (fun ⟨i, er⟩ hok => ?_) ⟨i, er⟩ hok env st hg
  simp only at hok
  by_cases h0 : er = 0
  · subst h0
    have hc : check arts room floor = 0 := by
      rcases hok with h | h
      · exact h.2
      · exact absurd rfl h
    have hi : i ≤ ss.length := by
      rcases hok with h | h
      · exact h.1
      · exact absurd rfl h
    obtain ⟨g1, g2, g3, g4⟩ := mosts_ok hc
    by_cases h : i < ss.length
    · have hlt : ((i : Int) < (ss.length : Int)) = True := eq_true (by omega)
      have hd : ss.drop i = ss[i] :: ss.drop (i + 1) := List.drop_eq_getElem_cons h
      have hx := index_arts n2 ss i h
      have hs := succ64 i (by omega)
      have hl := lastOf_succ ss i h
      have hwn : IntKind.i64.wrap ((arts.length : Int) - 1) = (arts.length : Int) - 1 := by rw [wrap64] <;> omega
      have hfirst : 0 < i → indexSAV 2 (sl 2 n2 (ss.map artAV)) (.v (.int .i64 ((i : Int) - 1))) = some (.eptr (artAV (ss[i - 1]'(by omega))) 0) ∧ (ss[i - 1]'(by omega)).2 = lastOf ss i := by
        intro hpos
        have := index_arts n2 ss (i - 1) (by omega)
        rw [show ((i - 1 : Nat) : Int) = (i : Int) - 1 by omega] at this
        refine ⟨this, ?_⟩
        have := lastOf_succ ss (i - 1) (by omega)
        rw [← this]; congr 1; omega
      have hzero : ¬ 0 < i → lastOf ss i = 0 := by intro hn; have : i = 0 := by omega
                                                   subst this; rfl
      generalize ss[i] = s at *
      obtain ⟨a, b⟩ := s
      simp only at hx hl
      have hpo : provesOr arts.length (mosts arts) room ss i 0 = if min a b < 0 ∨ (arts.length : Int) ≤ max a b then 2 else if b ≤ a ∨ a < lastOf ss i then 7 else if seg (mosts arts) a (b + 1) ≤ room then 14 else provesOr arts.length (mosts arts) room ss (i + 1) 0 := by
        unfold provesOr; rw [if_pos rfl, if_pos rfl, hd, hl]; rfl
      dsimp only
      rw [hpo]
      by_cases p1 : 0 ≤ a ∧ a ≤ (arts.length : Int) - 1
      · by_cases p2 : 0 ≤ b ∧ b ≤ (arts.length : Int) - 1
        · rw [if_neg (show ¬(min a b < 0 ∨ (arts.length : Int) ≤ max a b) by omega)]
          have h86 := fun st => c86 nl arts room floor hc a b p1.1 (by omega) st
          by_cases p3 : b ≤ a
          · rw [if_pos (show b ≤ a ∨ a < lastOf ss i from .inl p3)]
            simp only [go_sem, reduceIte, Nat.reduceEqDiff, Nat.reduceAdd, Nat.reduceSub, Nat.reduceLeDiff, Nat.reduceLT, reduceCtorEq, Int.reduceLT, Int.reduceLE, Int.reduceEq, Int.reduceBEq, Int.reduceSub, Int.reduceAdd, Int.reduceMul, Int.reduceNeg, Int.reduceToNat, Nat.reduceMul, Nat.reduceBEq, index_rsl_if, setm, make_ints, condK_dec, wantK_dec, not_dec, and_dec, or_dec, seqK_ite, seqK_none, blockK_ite, blockK_none, opsK_ite, opsK_none, stepK_ite, stepK_none, bodyK_ite, bodyK_none, resK_ite, resK_none, leaveK_ite, leaveK_none, only_ite, only_none, bind_ite, gives_some, gives_none, gives_ite, then_normal, then_ret, then_exit, then_none, then_ite, Option.bind_none, Option.map_none, Bool.not_eq_true', decide_eq_false_iff_not, Bool.and_eq_true, Bool.or_eq_true, Option.some.injEq, Int.not_lt, Int.not_le, lp40_0, hlt, hx, hs, c77, hwn, p1, p2, p3, List.length_map]
            refine ⟨(i + 1, 7), by simp only [go_sem, reduceIte, Nat.reduceEqDiff, Nat.reduceAdd, Nat.reduceSub, Nat.reduceLeDiff, Nat.reduceLT, reduceCtorEq, Int.reduceLT, Int.reduceLE, Int.reduceEq, Int.reduceBEq, Int.reduceSub, Int.reduceAdd, Int.reduceMul, Int.reduceNeg, Int.reduceToNat, Nat.reduceMul, Nat.reduceBEq, ren1_locm, loc_tips, locT_eq] <;> rfl, ?_, ?_, fun x en s hq => ?_⟩
            · exact .inr (by omega)
            · simp; omega
            · simp only [provesOr_err _ _ _ _ _ (show (7 : Int) ≠ 0 by omega)] at hq; exact hq
          · by_cases p4 : 0 < (i : Int)
            · obtain ⟨hx2, hx3⟩ := hfirst (by omega)
              have hw2 : IntKind.i64.wrap ((i : Int) - 1) = (i : Int) - 1 := by rw [wrap64] <;> omega
              generalize ss[i - 1]'(by omega) = t at hx2 hx3
              obtain ⟨t1, t2⟩ := t
              simp only at hx3
              by_cases p5 : a < t2
              · rw [if_pos (show b ≤ a ∨ a < lastOf ss i by omega)]
                simp only [go_sem, reduceIte, Nat.reduceEqDiff, Nat.reduceAdd, Nat.reduceSub, Nat.reduceLeDiff, Nat.reduceLT, reduceCtorEq, Int.reduceLT, Int.reduceLE, Int.reduceEq, Int.reduceBEq, Int.reduceSub, Int.reduceAdd, Int.reduceMul, Int.reduceNeg, Int.reduceToNat, Nat.reduceMul, Nat.reduceBEq, index_rsl_if, setm, make_ints, condK_dec, wantK_dec, not_dec, and_dec, or_dec, seqK_ite, seqK_none, blockK_ite, blockK_none, opsK_ite, opsK_none, stepK_ite, stepK_none, bodyK_ite, bodyK_none, resK_ite, resK_none, leaveK_ite, leaveK_none, only_ite, only_none, bind_ite, gives_some, gives_none, gives_ite, then_normal, then_ret, then_exit, then_none, then_ite, Option.bind_none, Option.map_none, Bool.not_eq_true', decide_eq_false_iff_not, Bool.and_eq_true, Bool.or_eq_true, Option.some.injEq, Int.not_lt, Int.not_le, lp40_0, hlt, hx, hx2, hs, c77, hwn, hw2, p1, p2, p3, p4, p5, List.length_map]
                refine ⟨(i + 1, 7), by simp only [go_sem, reduceIte, Nat.reduceEqDiff, Nat.reduceAdd, Nat.reduceSub, Nat.reduceLeDiff, Nat.reduceLT, reduceCtorEq, Int.reduceLT, Int.reduceLE, Int.reduceEq, Int.reduceBEq, Int.reduceSub, Int.reduceAdd, Int.reduceMul, Int.reduceNeg, Int.reduceToNat, Nat.reduceMul, Nat.reduceBEq, ren1_locm, loc_tips, locT_eq] <;> rfl, ?_, ?_, fun x en s hq => ?_⟩
                · exact .inr (by omega)
                · simp; omega
                · simp only [provesOr_err _ _ _ _ _ (show (7 : Int) ≠ 0 by omega)] at hq; exact hq
              · rw [if_neg (show ¬(b ≤ a ∨ a < lastOf ss i) by omega)]
                by_cases p6 : seg (mosts arts) a (b + 1) ≤ room
                · rw [if_pos p6]
                  have hp6 : (a < b ∧ room < seg (mosts arts) a (b + 1)) = False := eq_false (by omega)
                  simp only [go_sem, reduceIte, Nat.reduceEqDiff, Nat.reduceAdd, Nat.reduceSub, Nat.reduceLeDiff, Nat.reduceLT, reduceCtorEq, Int.reduceLT, Int.reduceLE, Int.reduceEq, Int.reduceBEq, Int.reduceSub, Int.reduceAdd, Int.reduceMul, Int.reduceNeg, Int.reduceToNat, Nat.reduceMul, Nat.reduceBEq, index_rsl_if, setm, make_ints, condK_dec, wantK_dec, not_dec, and_dec, or_dec, seqK_ite, seqK_none, blockK_ite, blockK_none, opsK_ite, opsK_none, stepK_ite, stepK_none, bodyK_ite, bodyK_none, resK_ite, resK_none, leaveK_ite, leaveK_none, only_ite, only_none, bind_ite, gives_some, gives_none, gives_ite, then_normal, then_ret, then_exit, then_none, then_ite, Option.bind_none, Option.map_none, Bool.not_eq_true', decide_eq_false_iff_not, Bool.and_eq_true, Bool.or_eq_true, Option.some.injEq, Int.not_lt, Int.not_le, lp40_0, hlt, hx, hx2, hs, c77, hwn, hw2, p1, p2, p3, p4, p5, h86, hp6, List.length_map]
                  refine ⟨(i + 1, 14), by simp only [go_sem, reduceIte, Nat.reduceEqDiff, Nat.reduceAdd, Nat.reduceSub, Nat.reduceLeDiff, Nat.reduceLT, reduceCtorEq, Int.reduceLT, Int.reduceLE, Int.reduceEq, Int.reduceBEq, Int.reduceSub, Int.reduceAdd, Int.reduceMul, Int.reduceNeg, Int.reduceToNat, Nat.reduceMul, Nat.reduceBEq, ren1_locm, loc_tips, locT_eq] <;> rfl, ?_, ?_, fun x en s hq => ?_⟩
                  · exact .inr (by omega)
                  · simp; omega
                  · simp only [provesOr_err _ _ _ _ _ (show (14 : Int) ≠ 0 by omega)] at hq; exact hq
                · rw [if_neg p6]
                  have hp6 : (a < b ∧ room < seg (mosts arts) a (b + 1)) = True := eq_true (by omega)
                  simp only [go_sem, reduceIte, Nat.reduceEqDiff, Nat.reduceAdd, Nat.reduceSub, Nat.reduceLeDiff, Nat.reduceLT, reduceCtorEq, Int.reduceLT, Int.reduceLE, Int.reduceEq, Int.reduceBEq, Int.reduceSub, Int.reduceAdd, Int.reduceMul, Int.reduceNeg, Int.reduceToNat, Nat.reduceMul, Nat.reduceBEq, index_rsl_if, setm, make_ints, condK_dec, wantK_dec, not_dec, and_dec, or_dec, seqK_ite, seqK_none, blockK_ite, blockK_none, opsK_ite, opsK_none, stepK_ite, stepK_none, bodyK_ite, bodyK_none, resK_ite, resK_none, leaveK_ite, leaveK_none, only_ite, only_none, bind_ite, gives_some, gives_none, gives_ite, then_normal, then_ret, then_exit, then_none, then_ite, Option.bind_none, Option.map_none, Bool.not_eq_true', decide_eq_false_iff_not, Bool.and_eq_true, Bool.or_eq_true, Option.some.injEq, Int.not_lt, Int.not_le, lp40_0, hlt, hx, hx2, hs, c77, hwn, hw2, p1, p2, p3, p4, p5, h86, hp6, List.length_map]
                  refine ⟨(i + 1, 0), by simp only [go_sem, reduceIte, Nat.reduceEqDiff, Nat.reduceAdd, Nat.reduceSub, Nat.reduceLeDiff, Nat.reduceLT, reduceCtorEq, Int.reduceLT, Int.reduceLE, Int.reduceEq, Int.reduceBEq, Int.reduceSub, Int.reduceAdd, Int.reduceMul, Int.reduceNeg, Int.reduceToNat, Nat.reduceMul, Nat.reduceBEq, ren1_locm, loc_tips, locT_eq] <;> rfl, ?_, ?_, fun x en s hq => ?_⟩
                  · exact .inl ⟨by omega, hc⟩
                  · simp; omega
                  · exact hq
            · have hz := hzero (by omega)
              rw [if_neg (show ¬(b ≤ a ∨ a < lastOf ss i) by omega)]
              by_cases p6 : seg (mosts arts) a (b + 1) ≤ room
              · rw [if_pos p6]
                have hp6 : (a < b ∧ room < seg (mosts arts) a (b + 1)) = False := eq_false (by omega)
                simp only [go_sem, reduceIte, Nat.reduceEqDiff, Nat.reduceAdd, Nat.reduceSub, Nat.reduceLeDiff, Nat.reduceLT, reduceCtorEq, Int.reduceLT, Int.reduceLE, Int.reduceEq, Int.reduceBEq, Int.reduceSub, Int.reduceAdd, Int.reduceMul, Int.reduceNeg, Int.reduceToNat, Nat.reduceMul, Nat.reduceBEq, index_rsl_if, setm, make_ints, condK_dec, wantK_dec, not_dec, and_dec, or_dec, seqK_ite, seqK_none, blockK_ite, blockK_none, opsK_ite, opsK_none, stepK_ite, stepK_none, bodyK_ite, bodyK_none, resK_ite, resK_none, leaveK_ite, leaveK_none, only_ite, only_none, bind_ite, gives_some, gives_none, gives_ite, then_normal, then_ret, then_exit, then_none, then_ite, Option.bind_none, Option.map_none, Bool.not_eq_true', decide_eq_false_iff_not, Bool.and_eq_true, Bool.or_eq_true, Option.some.injEq, Int.not_lt, Int.not_le, lp40_0, hlt, hx, hs, c77, hwn, p1, p2, p3, p4, h86, hp6, List.length_map]
                refine ⟨(i + 1, 14), by simp only [go_sem, reduceIte, Nat.reduceEqDiff, Nat.reduceAdd, Nat.reduceSub, Nat.reduceLeDiff, Nat.reduceLT, reduceCtorEq, Int.reduceLT, Int.reduceLE, Int.reduceEq, Int.reduceBEq, Int.reduceSub, Int.reduceAdd, Int.reduceMul, Int.reduceNeg, Int.reduceToNat, Nat.reduceMul, Nat.reduceBEq, ren1_locm, loc_tips, locT_eq] <;> rfl, ?_, ?_, fun x en s hq => ?_⟩
                · exact .inr (by omega)
                · simp; omega
                · simp only [provesOr_err _ _ _ _ _ (show (14 : Int) ≠ 0 by omega)] at hq; exact hq
              · rw [if_neg p6]
                have hp6 : (a < b ∧ room < seg (mosts arts) a (b + 1)) = True := eq_true (by omega)
                simp only [go_sem, reduceIte, Nat.reduceEqDiff, Nat.reduceAdd, Nat.reduceSub, Nat.reduceLeDiff, Nat.reduceLT, reduceCtorEq, Int.reduceLT, Int.reduceLE, Int.reduceEq, Int.reduceBEq, Int.reduceSub, Int.reduceAdd, Int.reduceMul, Int.reduceNeg, Int.reduceToNat, Nat.reduceMul, Nat.reduceBEq, index_rsl_if, setm, make_ints, condK_dec, wantK_dec, not_dec, and_dec, or_dec, seqK_ite, seqK_none, blockK_ite, blockK_none, opsK_ite, opsK_none, stepK_ite, stepK_none, bodyK_ite, bodyK_none, resK_ite, resK_none, leaveK_ite, leaveK_none, only_ite, only_none, bind_ite, gives_some, gives_none, gives_ite, then_normal, then_ret, then_exit, then_none, then_ite, Option.bind_none, Option.map_none, Bool.not_eq_true', decide_eq_false_iff_not, Bool.and_eq_true, Bool.or_eq_true, Option.some.injEq, Int.not_lt, Int.not_le, lp40_0, hlt, hx, hs, c77, hwn, p1, p2, p3, p4, h86, hp6, List.length_map]
                refine ⟨(i + 1, 0), by simp only [go_sem, reduceIte, Nat.reduceEqDiff, Nat.reduceAdd, Nat.reduceSub, Nat.reduceLeDiff, Nat.reduceLT, reduceCtorEq, Int.reduceLT, Int.reduceLE, Int.reduceEq, Int.reduceBEq, Int.reduceSub, Int.reduceAdd, Int.reduceMul, Int.reduceNeg, Int.reduceToNat, Nat.reduceMul, Nat.reduceBEq, ren1_locm, loc_tips, locT_eq] <;> rfl, ?_, ?_, fun x en s hq => ?_⟩
                · exact .inl ⟨by omega, hc⟩
                · simp; omega
                · exact hq
        · rw [if_pos (show min a b < 0 ∨ (arts.length : Int) ≤ max a b by omega)]
          simp only [go_sem, reduceIte, Nat.reduceEqDiff, Nat.reduceAdd, Nat.reduceSub, Nat.reduceLeDiff, Nat.reduceLT, reduceCtorEq, Int.reduceLT, Int.reduceLE, Int.reduceEq, Int.reduceBEq, Int.reduceSub, Int.reduceAdd, Int.reduceMul, Int.reduceNeg, Int.reduceToNat, Nat.reduceMul, Nat.reduceBEq, index_rsl_if, setm, make_ints, condK_dec, wantK_dec, not_dec, and_dec, or_dec, seqK_ite, seqK_none, blockK_ite, blockK_none, opsK_ite, opsK_none, stepK_ite, stepK_none, bodyK_ite, bodyK_none, resK_ite, resK_none, leaveK_ite, leaveK_none, only_ite, only_none, bind_ite, gives_some, gives_none, gives_ite, then_normal, then_ret, then_exit, then_none, then_ite, Option.bind_none, Option.map_none, Bool.not_eq_true', decide_eq_false_iff_not, Bool.and_eq_true, Bool.or_eq_true, Option.some.injEq, Int.not_lt, Int.not_le, lp40_0, hlt, hx, hs, c77, hwn, p1, p2, List.length_map]
          refine ⟨(i + 1, 2), by simp only [go_sem, reduceIte, Nat.reduceEqDiff, Nat.reduceAdd, Nat.reduceSub, Nat.reduceLeDiff, Nat.reduceLT, reduceCtorEq, Int.reduceLT, Int.reduceLE, Int.reduceEq, Int.reduceBEq, Int.reduceSub, Int.reduceAdd, Int.reduceMul, Int.reduceNeg, Int.reduceToNat, Nat.reduceMul, Nat.reduceBEq, ren1_locm, loc_tips, locT_eq] <;> rfl, ?_, ?_, fun x en s hq => ?_⟩
          · exact .inr (by omega)
          · simp; omega
          · simp only [provesOr_err _ _ _ _ _ (show (2 : Int) ≠ 0 by omega)] at hq; exact hq
      · rw [if_pos (show min a b < 0 ∨ (arts.length : Int) ≤ max a b by omega)]
        simp only [go_sem, reduceIte, Nat.reduceEqDiff, Nat.reduceAdd, Nat.reduceSub, Nat.reduceLeDiff, Nat.reduceLT, reduceCtorEq, Int.reduceLT, Int.reduceLE, Int.reduceEq, Int.reduceBEq, Int.reduceSub, Int.reduceAdd, Int.reduceMul, Int.reduceNeg, Int.reduceToNat, Nat.reduceMul, Nat.reduceBEq, index_rsl_if, setm, make_ints, condK_dec, wantK_dec, not_dec, and_dec, or_dec, seqK_ite, seqK_none, blockK_ite, blockK_none, opsK_ite, opsK_none, stepK_ite, stepK_none, bodyK_ite, bodyK_none, resK_ite, resK_none, leaveK_ite, leaveK_none, only_ite, only_none, bind_ite, gives_some, gives_none, gives_ite, then_normal, then_ret, then_exit, then_none, then_ite, Option.bind_none, Option.map_none, Bool.not_eq_true', decide_eq_false_iff_not, Bool.and_eq_true, Bool.or_eq_true, Option.some.injEq, Int.not_lt, Int.not_le, lp40_0, hlt, hx, hs, c77, hwn, p1, List.length_map]
        refine ⟨(i + 1, 2), by simp only [go_sem, reduceIte, Nat.reduceEqDiff, Nat.reduceAdd, Nat.reduceSub, Nat.reduceLeDiff, Nat.reduceLT, reduceCtorEq, Int.reduceLT, Int.reduceLE, Int.reduceEq, Int.reduceBEq, Int.reduceSub, Int.reduceAdd, Int.reduceMul, Int.reduceNeg, Int.reduceToNat, Nat.reduceMul, Nat.reduceBEq, ren1_locm, loc_tips, locT_eq] <;> rfl, ?_, ?_, fun x en s hq => ?_⟩
        · exact .inr (by omega)
        · simp; omega
        · simp only [provesOr_err _ _ _ _ _ (show (2 : Int) ≠ 0 by omega)] at hq; exact hq
    · have hlt : ((i : Int) < (ss.length : Int)) = False := eq_false (by omega)
      have hpo : provesOr arts.length (mosts arts) room ss i 0 = 0 := by unfold provesOr; rw [if_pos rfl, List.drop_eq_nil_of_le (by omega)]; rfl
      simp only [go_sem, reduceIte, Nat.reduceEqDiff, Nat.reduceAdd, Nat.reduceSub, Nat.reduceLeDiff, Nat.reduceLT, reduceCtorEq, Int.reduceLT, Int.reduceLE, Int.reduceEq, Int.reduceBEq, Int.reduceSub, Int.reduceAdd, Int.reduceMul, Int.reduceNeg, Int.reduceToNat, Nat.reduceMul, Nat.reduceBEq, index_rsl_if, setm, make_ints, condK_dec, wantK_dec, not_dec, and_dec, or_dec, seqK_ite, seqK_none, blockK_ite, blockK_none, opsK_ite, opsK_none, stepK_ite, stepK_none, bodyK_ite, bodyK_none, resK_ite, resK_none, leaveK_ite, leaveK_none, only_ite, only_none, bind_ite, gives_some, gives_none, gives_ite, then_normal, then_ret, then_exit, then_none, then_ite, Option.bind_none, Option.map_none, Bool.not_eq_true', decide_eq_false_iff_not, Bool.and_eq_true, Bool.or_eq_true, Option.some.injEq, Int.not_lt, Int.not_le, lp40_0, hlt, hpo, List.length_map]
  · have hpo := provesOr_err arts.length (mosts arts) room ss i h0
    by_cases h : (i : Int) < (ss.length : Int)
    · simp only [go_sem, reduceIte, Nat.reduceEqDiff, Nat.reduceAdd, Nat.reduceSub, Nat.reduceLeDiff, Nat.reduceLT, reduceCtorEq, Int.reduceLT, Int.reduceLE, Int.reduceEq, Int.reduceBEq, Int.reduceSub, Int.reduceAdd, Int.reduceMul, Int.reduceNeg, Int.reduceToNat, Nat.reduceMul, Nat.reduceBEq, index_rsl_if, setm, make_ints, condK_dec, wantK_dec, not_dec, and_dec, or_dec, seqK_ite, seqK_none, blockK_ite, blockK_none, opsK_ite, opsK_none, stepK_ite, stepK_none, bodyK_ite, bodyK_none, resK_ite, resK_none, leaveK_ite, leaveK_none, only_ite, only_none, bind_ite, gives_some, gives_none, gives_ite, then_normal, then_ret, then_exit, then_none, then_ite, Option.bind_none, Option.map_none, Bool.not_eq_true', decide_eq_false_iff_not, Bool.and_eq_true, Bool.or_eq_true, Option.some.injEq, Int.not_lt, Int.not_le, lp40_0, h, h0, hpo, List.length_map]
    · simp only [go_sem, reduceIte, Nat.reduceEqDiff, Nat.reduceAdd, Nat.reduceSub, Nat.reduceLeDiff, Nat.reduceLT, reduceCtorEq, Int.reduceLT, Int.reduceLE, Int.reduceEq, Int.reduceBEq, Int.reduceSub, Int.reduceAdd, Int.reduceMul, Int.reduceNeg, Int.reduceToNat, Nat.reduceMul, Nat.reduceBEq, index_rsl_if, setm, make_ints, condK_dec, wantK_dec, not_dec, and_dec, or_dec, seqK_ite, seqK_none, blockK_ite, blockK_none, opsK_ite, opsK_none, stepK_ite, stepK_none, bodyK_ite, bodyK_none, resK_ite, resK_none, leaveK_ite, leaveK_none, only_ite, only_none, bind_ite, gives_some, gives_none, gives_ite, then_normal, then_ret, then_exit, then_none, then_ite, Option.bind_none, Option.map_none, Bool.not_eq_true', decide_eq_false_iff_not, Bool.and_eq_true, Bool.or_eq_true, Option.some.injEq, Int.not_lt, Int.not_le, lp40_0, h, h0, hpo, List.length_map]


theorem c40 (nl n2 : Bool) (arts : List (Int × Int)) (room floor v : Int) (hv : v ≤ 9223372036854775807) (ss : List (Int × Int)) (hlen : ss.length < 1000) (st : St) :
    run L 40 [bookAV nl arts room floor, I v, sl 2 n2 (ss.map artAV)] st = some (I (provesV arts room floor v ss), st) := by
  rw [run_pure (fn := ir40) rfl rfl]
  have hc := fun st => c26 nl arts room floor st
  unfold provesV
  by_cases p0 : check arts room floor = 0
  · rw [if_pos p0]
    by_cases p1 : v < 1
    · rw [if_pos p1]
      simp only [ir40, go_sem, reduceIte, Nat.reduceEqDiff, Nat.reduceAdd, Nat.reduceSub, Nat.reduceLeDiff, Nat.reduceLT, reduceCtorEq, Int.reduceLT, Int.reduceLE, Int.reduceEq, Int.reduceBEq, Int.reduceSub, Int.reduceAdd, Int.reduceMul, Int.reduceNeg, Int.reduceToNat, Nat.reduceMul, Nat.reduceBEq, hc, p0, p1, List.length_map]
      generalize hg : lim (headed pure (run L) true _ lp40_0 _ _) _ _ = o
      obtain ⟨x, en, s, rfl, h2⟩ : ∃ x en s, o = some (x, en, s) ∧ _ := by rw [← hg]; exact loop40 nl n2 arts room floor v (.inr trivial) ss hlen 0 1 (.inr (by omega)) _ _ (by simp only [go_sem, reduceIte, Nat.reduceEqDiff, Nat.reduceAdd, Nat.reduceSub, Nat.reduceLeDiff, Nat.reduceLT, reduceCtorEq, Int.reduceLT, Int.reduceLE, Int.reduceEq, Int.reduceBEq, Int.reduceSub, Int.reduceAdd, Int.reduceMul, Int.reduceNeg, Int.reduceToNat, Nat.reduceMul, Nat.reduceBEq] <;> rfl)
      clear hg
      obtain ⟨rfl, h3, h4, h5⟩ := h2
      rw [provesOr_err _ _ _ _ _ (by omega)] at h5
      simp only [go_sem, reduceIte, Nat.reduceEqDiff, Nat.reduceAdd, Nat.reduceSub, Nat.reduceLeDiff, Nat.reduceLT, reduceCtorEq, Int.reduceLT, Int.reduceLE, Int.reduceEq, Int.reduceBEq, Int.reduceSub, Int.reduceAdd, Int.reduceMul, Int.reduceNeg, Int.reduceToNat, Nat.reduceMul, Nat.reduceBEq, h3, h4, h5]
    · rw [if_neg p1]
      simp only [ir40, go_sem, reduceIte, Nat.reduceEqDiff, Nat.reduceAdd, Nat.reduceSub, Nat.reduceLeDiff, Nat.reduceLT, reduceCtorEq, Int.reduceLT, Int.reduceLE, Int.reduceEq, Int.reduceBEq, Int.reduceSub, Int.reduceAdd, Int.reduceMul, Int.reduceNeg, Int.reduceToNat, Nat.reduceMul, Nat.reduceBEq, hc, p0, p1, List.length_map]
      have hw := wrap64 (v - 1) (by omega) (by omega)
      generalize hg : lim (headed pure (run L) true _ lp40_0 _ _) _ _ = o
      obtain ⟨x, en, s, rfl, h2⟩ : ∃ x en s, o = some (x, en, s) ∧ _ := by rw [← hg]; exact loop40 nl n2 arts room floor v (.inr trivial) ss hlen 0 0 (.inl ⟨Nat.zero_le _, p0⟩) _ _ (by simp only [go_sem, reduceIte, Nat.reduceEqDiff, Nat.reduceAdd, Nat.reduceSub, Nat.reduceLeDiff, Nat.reduceLT, reduceCtorEq, Int.reduceLT, Int.reduceLE, Int.reduceEq, Int.reduceBEq, Int.reduceSub, Int.reduceAdd, Int.reduceMul, Int.reduceNeg, Int.reduceToNat, Nat.reduceMul, Nat.reduceBEq] <;> rfl)
      clear hg
      obtain ⟨rfl, h3, h4, h5⟩ := h2
      have hpo : provesOr arts.length (mosts arts) room ss 0 0 = provesFrom arts.length (mosts arts) room 0 ss := rfl
      rw [hpo] at h5
      by_cases p2 : provesFrom arts.length (mosts arts) room 0 ss = 0
      · rw [if_pos p2]
        by_cases p3 : (ss.length : Int) < v - 1
        · simp only [go_sem, reduceIte, Nat.reduceEqDiff, Nat.reduceAdd, Nat.reduceSub, Nat.reduceLeDiff, Nat.reduceLT, reduceCtorEq, Int.reduceLT, Int.reduceLE, Int.reduceEq, Int.reduceBEq, Int.reduceSub, Int.reduceAdd, Int.reduceMul, Int.reduceNeg, Int.reduceToNat, Nat.reduceMul, Nat.reduceBEq, h3, h4, h5, p2, p3, hw, List.length_map]
        · simp only [go_sem, reduceIte, Nat.reduceEqDiff, Nat.reduceAdd, Nat.reduceSub, Nat.reduceLeDiff, Nat.reduceLT, reduceCtorEq, Int.reduceLT, Int.reduceLE, Int.reduceEq, Int.reduceBEq, Int.reduceSub, Int.reduceAdd, Int.reduceMul, Int.reduceNeg, Int.reduceToNat, Nat.reduceMul, Nat.reduceBEq, h3, h4, h5, p2, p3, hw, List.length_map]
      · rw [if_neg p2]
        simp only [go_sem, reduceIte, Nat.reduceEqDiff, Nat.reduceAdd, Nat.reduceSub, Nat.reduceLeDiff, Nat.reduceLT, reduceCtorEq, Int.reduceLT, Int.reduceLE, Int.reduceEq, Int.reduceBEq, Int.reduceSub, Int.reduceAdd, Int.reduceMul, Int.reduceNeg, Int.reduceToNat, Nat.reduceMul, Nat.reduceBEq, h3, h4, h5, p2]
  · rw [if_neg p0]
    simp only [ir40, go_sem, reduceIte, Nat.reduceEqDiff, Nat.reduceAdd, Nat.reduceSub, Nat.reduceLeDiff, Nat.reduceLT, reduceCtorEq, Int.reduceLT, Int.reduceLE, Int.reduceEq, Int.reduceBEq, Int.reduceSub, Int.reduceAdd, Int.reduceMul, Int.reduceNeg, Int.reduceToNat, Nat.reduceMul, Nat.reduceBEq, hc, p0, List.length_map]
    generalize hg : lim (headed pure (run L) true _ lp40_0 _ _) _ _ = o
    obtain ⟨x, en, s, rfl, h2⟩ : ∃ x en s, o = some (x, en, s) ∧ _ := by rw [← hg]; exact loop40 nl n2 arts room floor v (.inr trivial) ss hlen 0 (check arts room floor) (.inr p0) _ _ (by simp only [go_sem, reduceIte, Nat.reduceEqDiff, Nat.reduceAdd, Nat.reduceSub, Nat.reduceLeDiff, Nat.reduceLT, reduceCtorEq, Int.reduceLT, Int.reduceLE, Int.reduceEq, Int.reduceBEq, Int.reduceSub, Int.reduceAdd, Int.reduceMul, Int.reduceNeg, Int.reduceToNat, Nat.reduceMul, Nat.reduceBEq] <;> rfl)
    clear hg
    obtain ⟨rfl, h3, h4, h5⟩ := h2
    rw [provesOr_err _ _ _ _ _ p0] at h5
    simp only [go_sem, reduceIte, Nat.reduceEqDiff, Nat.reduceAdd, Nat.reduceSub, Nat.reduceLeDiff, Nat.reduceLT, reduceCtorEq, Int.reduceLT, Int.reduceLE, Int.reduceEq, Int.reduceBEq, Int.reduceSub, Int.reduceAdd, Int.reduceMul, Int.reduceNeg, Int.reduceToNat, Nat.reduceMul, Nat.reduceBEq, h3, h4, h5, p0]

theorem why_len (arts : List (Int × Int)) (room floor : Int) : (whyV arts room floor).1.length < 1000000 := by
  rw [why_eq]
  unfold whyR
  split
  · next h =>
    have p1 : check arts room floor = 0 := by
      rw [← fewest_eq] at h
      unfold fewestV at h
      split at h
      · assumption
      · next h2 => exact absurd h h2
    obtain ⟨g1, g2, g3, g4⟩ := mosts_ok p1
    have := rowD_short arts.length (lastOfArt (mosts arts) room arts.length) 0
    split
    · simp
    · simp only; omega
  · simp

theorem c5 (nl n2 : Bool) (arts : List (Int × Int)) (room floor v : Int) (hv : v ≤ 9223372036854775807) (ss : List (Int × Int)) (st : St) :
    run L 5 [bookAV nl arts room floor, I v, sl 2 n2 (ss.map artAV)] st = some (B true, st) := by
  rw [run_pure (fn := ir5) rfl rfl]
  by_cases p1 : 40 < (arts.length : Int)
  · simp only [ir5, go_sem, reduceIte, Nat.reduceEqDiff, Nat.reduceAdd, Nat.reduceSub, Nat.reduceLeDiff, Nat.reduceLT, reduceCtorEq, Int.reduceLT, Int.reduceLE, Int.reduceEq, Int.reduceBEq, Int.reduceSub, Int.reduceAdd, Int.reduceMul, Int.reduceNeg, Int.reduceToNat, Nat.reduceMul, Nat.reduceBEq, p1, c17, List.length_map]
  · by_cases p2 : 40 < (ss.length : Int)
    · simp only [ir5, go_sem, reduceIte, Nat.reduceEqDiff, Nat.reduceAdd, Nat.reduceSub, Nat.reduceLeDiff, Nat.reduceLT, reduceCtorEq, Int.reduceLT, Int.reduceLE, Int.reduceEq, Int.reduceBEq, Int.reduceSub, Int.reduceAdd, Int.reduceMul, Int.reduceNeg, Int.reduceToNat, Nat.reduceMul, Nat.reduceBEq, p1, p2, c17, List.length_map]
    · have h18 := fun st => c18 nl arts (by omega) room floor st
      have h36 := fun st => c36 nl arts room floor st
      have h37 := fun st => c37 true arts room floor st
      have h39 := fun st => c39 nl n2 arts room floor v hv ss (by omega) st
      have h40 := fun st => c40 true n2 arts room floor v hv ss (by omega) st
      rw [← why_eq] at h37
      have h38 := fun b c st => c38 b c (whyV arts room floor).1 (whyV arts room floor).1 (why_len _ _ _) st
      simp only [ir5, go_sem, reduceIte, Nat.reduceEqDiff, Nat.reduceAdd, Nat.reduceSub, Nat.reduceLeDiff, Nat.reduceLT, reduceCtorEq, Int.reduceLT, Int.reduceLE, Int.reduceEq, Int.reduceBEq, Int.reduceSub, Int.reduceAdd, Int.reduceMul, Int.reduceNeg, Int.reduceToNat, Nat.reduceMul, Nat.reduceBEq, p1, p2, c17, List.length_map, h18, h36, h37, h38, h39, h40]
end Go.Proofs.Ytiifibgadipalaa.Vm

