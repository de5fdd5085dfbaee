/- What is proved: what each function of this program computes, as equations on the evaluator. No condition. -/
import Derived.Test.YtiifibgadipalaaC2
set_option linter.all false
namespace Go.Proofs.Ytiifibgadipalaa.Vm
open Go Go.Ev
set_option maxRecDepth 100000
attribute [local go_sem] cells_any storable_any ren1_any shaped_ptr cells_ptr storable_ptr ren1_ptr shaped_eptr cells_eptr storable_eptr ren1_eptr shaped_rsl cells_rsl storable_rsl ren1_rsl shaped_int cells_int storable_int ren1_int shaped_bool cells_bool storable_bool ren1_bool shaped_nils cells_nils storable_nils ren1_nils shaped_lst cells_lst storable_lst shaped_fn cells_fn storable_fn ren1_fn shaped_ifc cells_ifc storable_ifc ren1_ifc shaped_agg cells_agg storable_agg ren1_agg shaped_tup cells_tup storable_tup ren1_tup shaped_nif cells_nif storable_nif ren1_nif ren1_lany ren1_lfull ren1_lown len_lst len_rsl len_nil load_ptr load_eptr isRsl_lst isRsl_nil isRsl_rsl elems_nil elems_lst elems_sl isRsl_sl body_eq bodyK_normal bodyK_ret resK_some leaveK_some only_some code_skip code_exit code_ret code_ops code_seq code_cond code_block seqK_normal seqK_ret seqK_exit condK_true condK_false blockK_normal blockK_ret blockK_exit opsK_some ops_nil ops_cons wantK_true wantK_false stepK_some pubs pub pub_sl params okRef_loc storable_loc shaped_loc cells_loc isRsl_loc elems_loc len_loc untips untip untip_sl wantedAV setElems withO isAgg_v isAgg_agg isAgg_lst isAgg_ptr isAgg_fn isAgg_ifc isAgg_rsl isAgg_sl isAgg_loc List.replicate_succ List.replicate_zero opAV valAV aval avals ofVal Env.get setD canon gcAV renAll renEnv renStore renCells ren1_sl cutSt okEnv okStore okRefs okRef okRef_sl bin_int bin_bool bin_lst bin_rsl bin_nil bin_agg cellsEq cellEq isShift intOp boolOp min_int max_int beq_int bne resAV tupAV leave_eq fin_sl fin_loc fins fin_v fin_lst fin_agg fin_tup fin_fn storeAV readCells putCells cells_sl shaped_sl storable_sl fieldAddrAV len_sl goI List.getElem?_cons_zero List.getElem?_cons_succ List.getElem?_nil Option.bind_some Option.map_some List.length_cons List.length_nil List.all_cons List.all_nil Bool.and_true Bool.true_and Bool.and_false Bool.false_and and_true true_and and_false false_and Bool.false_eq_true List.set_cons_zero List.set_cons_succ List.append_nil List.nil_append List.cons_append List.take_zero List.take_succ_cons List.take_nil List.drop_zero List.drop_succ_cons List.map_cons List.map_nil decide_true decide_false beq_self_eq_true Bool.not_true Bool.not_false or_true true_or or_false false_or Nat.zero_add Nat.add_zero Nat.le_refl Nat.lt_irrefl decide_eq_true_eq eq_self_iff_true not_true_eq_false not_false_eq_true List.getD_cons_zero code_loop Nat.zero_le Nat.not_lt_zero Bool.true_beq Bool.false_beq beq_true beq_false ge_iff_le gt_iff_lt Lpure pus Option.map_none assert_ifc assert_nil idxA_ptr idxA_eptr idxV_agg Int.cast_ofNat_Int Nat.mul_one Nat.zero_mul Int.toNat_natCast Int.toNat_zero setParts withO2 eqnil_sl nenil_sl eqnil_loc nenil_loc map_nil_iff okRefs_ints renCells_ints

/-! ### all rows of stretches -/

abbrev Rows := List (Int × Int)
/-- The longer one; of two as long the first. -/
def pick1 (b c : Rows) : Rows := if b.length < c.length then c else b
def pickGt (b : Rows) (l : List Rows) : Rows := l.foldl pick1 b
theorem pickGt_append (b : Rows) (l1 l2 : List Rows) : pickGt b (l1 ++ l2) = pickGt (pickGt b l1) l2 := by simp [pickGt]

/-- All rows that are not empty, from article x on, in the order in which they are tried (k: how many steps at most). -/
def rowsT (n : Nat) (p : Nat → Nat → Bool) : Nat → Nat → List Rows
  | 0, _ => []
  | k + 1, x => if x < n then ((List.range' (x + 1) (n - (x + 1))).flatMap fun y => if p x y = true then [((x : Int), (y : Int))] :: (rowsT n p k y).map (((x : Int), (y : Int)) :: ·) else []) ++ rowsT n p k (x + 1) else []
def rowsF (n : Nat) (p : Nat → Nat → Bool) (x : Nat) : List Rows := rowsT n p (n - x) x
theorem rowsT_fuel (n : Nat) (p : Nat → Nat → Bool) : ∀ k x, n ≤ x + k → rowsT n p k x = rowsF n p x := by
  have key : ∀ m k x, n ≤ x + k → n ≤ x + m → rowsT n p k x = rowsT n p m x := by
    intro m
    induction m with
    | zero =>
      intro k x h1 h2
      cases k with
      | zero => rfl
      | succ k => simp only [rowsT]; rw [if_neg (by omega)]
    | succ m ih =>
      intro k x h1 h2
      cases k with
      | zero => simp only [rowsT]; rw [if_neg (by omega)]
      | succ k =>
        simp only [rowsT]
        split
        · rw [ih k (x + 1) (by omega) (by omega)]
          congr 1
          refine flatMap_congr' fun y hy => ?_
          simp only [List.mem_range'] at hy
          obtain ⟨i, hi, rfl⟩ := hy
          rw [ih k _ (by omega) (by omega)]
        · rfl
  intro k x h
  exact key (n - x) k x h (by omega)
/-- Those that begin with article x, and end their first stretch with y or later. -/
def groupF (n : Nat) (p : Nat → Nat → Bool) (x y : Nat) : List Rows := (List.range' y (n - y)).flatMap fun y => if p x y = true then [((x : Int), (y : Int))] :: (rowsF n p y).map (((x : Int), (y : Int)) :: ·) else []
theorem rowsF_eq {n x : Nat} (p : Nat → Nat → Bool) (h : x < n) : rowsF n p x = groupF n p x (x + 1) ++ rowsF n p (x + 1) := by
  unfold rowsF groupF
  obtain ⟨k, hk⟩ : ∃ k, n - x = k + 1 := ⟨n - x - 1, by omega⟩
  rw [hk]
  conv => lhs; simp only [rowsT]
  rw [if_pos h, rowsT_fuel n p k (x + 1) (by omega)]
  congr 1
  refine flatMap_congr' fun y hy => ?_
  simp only [List.mem_range'] at hy
  obtain ⟨i, hi, rfl⟩ := hy
  rw [rowsT_fuel n p k _ (by omega)]
theorem rowsF_end {n x : Nat} (p : Nat → Nat → Bool) (h : n ≤ x) : rowsF n p x = [] := by
  unfold rowsF; rw [show n - x = 0 by omega]; rfl
theorem groupF_end {n x y : Nat} (p : Nat → Nat → Bool) (h : n ≤ y) : groupF n p x y = [] := by
  unfold groupF; rw [show n - y = 0 by omega]; rfl
theorem groupF_step {n x y : Nat} (p : Nat → Nat → Bool) (h : y < n) : groupF n p x y = (if p x y = true then [((x : Int), (y : Int))] :: (rowsF n p y).map (((x : Int), (y : Int)) :: ·) else []) ++ groupF n p x (y + 1) := by
  unfold groupF
  rw [show n - y = (n - (y + 1)) + 1 by omega, List.range'_succ, List.flatMap_cons]

/-- The first of the longest. -/
theorem pickGt_len : ∀ (l : List Rows) (b : Rows), b.length ≤ (pickGt b l).length ∧ ∀ c ∈ l, c.length ≤ (pickGt b l).length
  | [], b => ⟨Nat.le_refl _, by simp⟩
  | x :: r, b => by
    have h := pickGt_len r (pick1 b x)
    have h1 : b.length ≤ (pick1 b x).length ∧ x.length ≤ (pick1 b x).length := by unfold pick1; split <;> omega
    have he : pickGt b (x :: r) = pickGt (pick1 b x) r := rfl
    rw [he]
    refine ⟨by omega, fun c hc => ?_⟩
    rcases List.mem_cons.1 hc with rfl | hc
    · omega
    · exact h.2 c hc
theorem pickGt_stay : ∀ (l : List Rows) (b : Rows), (∀ c ∈ l, c.length ≤ b.length) → pickGt b l = b
  | [], b, _ => rfl
  | x :: r, b, h => by
    have he : pickGt b (x :: r) = pickGt (pick1 b x) r := rfl
    have hx : pick1 b x = b := by unfold pick1; rw [if_neg (by have := h x (by simp); omega)]
    rw [he, hx]
    exact pickGt_stay r b fun c hc => h c (by simp [hc])
/-- What is picked from a list is the best of it, unless what was there is as long. -/
theorem pickGt_from : ∀ (l : List Rows) (b : Rows), pickGt b l = pick1 b (pickGt [] l)
  | [], b => by simp [pickGt, pick1]
  | x :: r, b => by
    have he : ∀ b, pickGt b (x :: r) = pickGt (pick1 b x) r := fun _ => rfl
    rw [he, he, pickGt_from r (pick1 b x), pickGt_from r (pick1 [] x)]
    generalize pickGt [] r = q
    unfold pick1
    simp only [List.length_nil]
    by_cases h1 : b.length < x.length <;> by_cases h2 : 0 < x.length <;> by_cases h3 : x.length < q.length <;> by_cases h4 : b.length < q.length <;> by_cases h5 : 0 < q.length <;> simp [h1, h2, h3, h4, h5] <;> omega
theorem pickGt_map (s : Int × Int) : ∀ (l : List Rows) (b : Rows), pickGt (s :: b) (l.map (s :: ·)) = s :: pickGt b l
  | [], b => rfl
  | x :: r, b => by
    have h1 : pick1 (s :: b) (s :: x) = s :: pick1 b x := by unfold pick1; simp only [List.length_cons, Nat.add_lt_add_iff_right]; split <;> rfl
    have he : pickGt (s :: b) ((x :: r).map (s :: ·)) = pickGt (pick1 (s :: b) (s :: x)) (r.map (s :: ·)) := rfl
    rw [he, h1, pickGt_map s r]
    rfl

/-- Rows from a later article are rows from an earlier one. -/
theorem rowsF_later {n : Nat} (p : Nat → Nat → Bool) {x y : Nat} (h : x ≤ y) : (pickGt [] (rowsF n p y)).length ≤ (pickGt [] (rowsF n p x)).length := by
  obtain ⟨d, rfl⟩ : ∃ d, y = x + d := ⟨y - x, by omega⟩
  induction d with
  | zero => exact Nat.le_refl _
  | succ d ih =>
    refine Nat.le_trans ?_ (ih (by omega))
    by_cases hx : x + d < n
    · rw [rowsF_eq p hx, pickGt_append, pickGt_from (rowsF n p (x + d + 1)) (pickGt [] (groupF n p (x + d) (x + d + 1)))]
      unfold pick1
      split
      · exact Nat.le_refl _
      · rw [show x + (d + 1) = x + d + 1 by omega]; omega
    · rw [rowsF_end p (by omega)]; simp [pickGt]

/-- Of the rows that begin with x the first longest one has the first stretch. -/
theorem group_best {n : Nat} {p : Nat → Nat → Bool} {x : Nat} (hmono : ∀ y y', y ≤ y' → p x y = true → p x y' = true) : ∀ (m y la : Nat), n - y = m → y ≤ la → (∀ z, y ≤ z → z < la → p x z = false) → (la < n → p x la = true) → la ≤ n →
    pickGt [] (groupF n p x y) = if la < n then ((x : Int), (la : Int)) :: pickGt [] (rowsF n p la) else [] := by
  intro m
  induction m with
  | zero => intro y la hm h1 h2 h3 h4; rw [groupF_end p (by omega), if_neg (by omega)]; rfl
  | succ m ih =>
    intro y la hm h1 h2 h3 h4
    rw [groupF_step p (by omega)]
    by_cases hy : y = la
    · subst hy
      rw [if_pos (h3 (by omega)), if_pos (show y < n by omega)]
      have he : pickGt [] (([((x : Int), (y : Int))] :: (rowsF n p y).map (((x : Int), (y : Int)) :: ·)) ++ groupF n p x (y + 1)) = pickGt (pickGt [((x : Int), (y : Int))] ((rowsF n p y).map (((x : Int), (y : Int)) :: ·))) (groupF n p x (y + 1)) := by
        rw [pickGt_append]; rfl
      rw [he, pickGt_map]
      apply pickGt_stay
      intro c hc
      unfold groupF at hc
      simp only [List.mem_flatMap, List.mem_range'] at hc
      obtain ⟨z, ⟨i, hi, rfl⟩, hc⟩ := hc
      split at hc
      · have hl := rowsF_later (n := n) p (show y ≤ y + 1 + 1 * i by omega)
        simp only [List.length_cons]
        rcases List.mem_cons.1 hc with rfl | hc
        · simp
        · obtain ⟨r, hr, rfl⟩ := List.mem_map.1 hc
          have := (pickGt_len (rowsF n p (y + 1 + 1 * i)) []).2 r hr
          simp only [List.length_cons]
          omega
      · simp at hc
    · rw [if_neg (by rw [h2 y (Nat.le_refl _) (by omega)]; simp), List.nil_append]
      exact ih (y + 1) la (by omega) (by omega) (fun z q1 q2 => h2 z (by omega) q2) h3 h4

theorem rows_best {n : Nat} {p : Nat → Nat → Bool} {la : Nat → Nat} (hmono : ∀ x y y', y ≤ y' → p x y = true → p x y' = true) (hla : ∀ x, x < n → x < la x ∧ la x ≤ n ∧ (∀ z, x < z → z < la x → p x z = false) ∧ (la x < n → p x (la x) = true)) :
    ∀ (m x : Nat), n - x = m → pickGt [] (rowsF n p x) = rowD n la x := by
  intro m
  induction m using Nat.strongRecOn with
  | ind m ih =>
    intro x hm
    by_cases hx : x < n
    · obtain ⟨l1, l2, l3, l4⟩ := hla x hx
      rw [rowsF_eq p hx, pickGt_append, pickGt_from, group_best (hmono x) (n - (x + 1)) (x + 1) (la x) rfl (by omega) (fun z q1 q2 => l3 z (by omega) q2) l4 l2, ih (n - (x + 1)) (by omega) (x + 1) rfl]
      have hrd : rowD n la x = if la x < n ∧ (rowD n la (x + 1)).length ≤ (rowD n la (la x)).length + 1 then ((x : Int), (la x : Int)) :: rowD n la (la x) else rowD n la (x + 1) := by
        rw [rowD, if_pos hx, show max (x + 1) (la x) = la x by omega]
      rw [hrd]
      by_cases h3 : la x < n
      · rw [if_pos h3, ih (n - la x) (by omega) (la x) rfl]
        unfold pick1
        simp only [List.length_cons]
        by_cases h4 : (rowD n la (x + 1)).length ≤ (rowD n la (la x)).length + 1
        · rw [if_neg (by omega), if_pos ⟨h3, h4⟩]
        · rw [if_pos (by omega), if_neg (fun h => h4 h.2)]
      · rw [if_neg h3, if_neg (fun h => h3 h.1)]
        unfold pick1
        split
        · rfl
        · next h => exact (List.eq_nil_of_length_eq_zero (by simpa using h)).symm
    · rw [rowsF_end p (by omega), rowD, if_neg hx]; rfl
end Go.Proofs.Ytiifibgadipalaa.Vm

namespace Go.Proofs.Ytiifibgadipalaa.Vm
open Go Go.Ev
set_option maxRecDepth 100000
attribute [local go_sem] cells_any storable_any ren1_any shaped_ptr cells_ptr storable_ptr ren1_ptr shaped_eptr cells_eptr storable_eptr ren1_eptr shaped_rsl cells_rsl storable_rsl ren1_rsl shaped_int cells_int storable_int ren1_int shaped_bool cells_bool storable_bool ren1_bool shaped_nils cells_nils storable_nils ren1_nils shaped_lst cells_lst storable_lst shaped_fn cells_fn storable_fn ren1_fn shaped_ifc cells_ifc storable_ifc ren1_ifc shaped_agg cells_agg storable_agg ren1_agg shaped_tup cells_tup storable_tup ren1_tup shaped_nif cells_nif storable_nif ren1_nif ren1_lany ren1_lfull ren1_lown len_lst len_rsl len_nil load_ptr load_eptr isRsl_lst isRsl_nil isRsl_rsl elems_nil elems_lst elems_sl isRsl_sl body_eq bodyK_normal bodyK_ret resK_some leaveK_some only_some code_skip code_exit code_ret code_ops code_seq code_cond code_block seqK_normal seqK_ret seqK_exit condK_true condK_false blockK_normal blockK_ret blockK_exit opsK_some ops_nil ops_cons wantK_true wantK_false stepK_some pubs pub pub_sl params okRef_loc storable_loc shaped_loc cells_loc isRsl_loc elems_loc len_loc untips untip untip_sl wantedAV setElems withO isAgg_v isAgg_agg isAgg_lst isAgg_ptr isAgg_fn isAgg_ifc isAgg_rsl isAgg_sl isAgg_loc List.replicate_succ List.replicate_zero opAV valAV aval avals ofVal Env.get setD canon gcAV renAll renEnv renStore renCells ren1_sl cutSt okEnv okStore okRefs okRef okRef_sl bin_int bin_bool bin_lst bin_rsl bin_nil bin_agg cellsEq cellEq isShift intOp boolOp min_int max_int beq_int bne resAV tupAV leave_eq fin_sl fin_loc fins fin_v fin_lst fin_agg fin_tup fin_fn storeAV readCells putCells cells_sl shaped_sl storable_sl fieldAddrAV len_sl goI List.getElem?_cons_zero List.getElem?_cons_succ List.getElem?_nil Option.bind_some Option.map_some List.length_cons List.length_nil List.all_cons List.all_nil Bool.and_true Bool.true_and Bool.and_false Bool.false_and and_true true_and and_false false_and Bool.false_eq_true List.set_cons_zero List.set_cons_succ List.append_nil List.nil_append List.cons_append List.take_zero List.take_succ_cons List.take_nil List.drop_zero List.drop_succ_cons List.map_cons List.map_nil decide_true decide_false beq_self_eq_true Bool.not_true Bool.not_false or_true true_or or_false false_or Nat.zero_add Nat.add_zero Nat.le_refl Nat.lt_irrefl decide_eq_true_eq eq_self_iff_true not_true_eq_false not_false_eq_true List.getD_cons_zero code_loop Nat.zero_le Nat.not_lt_zero Bool.true_beq Bool.false_beq beq_true beq_false ge_iff_le gt_iff_lt Lpure pus Option.map_none assert_ifc assert_nil idxA_ptr idxA_eptr idxV_agg Int.cast_ofNat_Int Nat.mul_one Nat.zero_mul Int.toNat_natCast Int.toNat_zero setParts withO2 eqnil_sl nenil_sl eqnil_loc nenil_loc map_nil_iff okRefs_ints renCells_ints

theorem c59 (g : Tag) (l : Rows) (h : l ≠ []) (hm : l.length ≤ maxGrow) (st : St) : run L 59 [.lst g 2 (l.map artAV)] st = some (sl 2 true (l.map artAV), st) := by
  rw [run_pure (fn := ir59) rfl rfl]
  have hne : l.map artAV ≠ [] := by simpa using h
  have hc := fun st => copy_some (z := 2) hne (by simpa using hm) st
  have hsl : sl 2 true (l.map artAV) = .lst .any 2 (l.map artAV) := sl_ne hne
  rw [hsl]
  simp only [ir59, go_sem, reduceIte, Nat.reduceEqDiff, Nat.reduceAdd, Nat.reduceSub, Nat.reduceLeDiff, Nat.reduceLT, reduceCtorEq, Int.reduceLT, Int.reduceLE, Int.reduceEq, Int.reduceBEq, Int.reduceSub, Int.reduceAdd, Int.reduceMul, Int.reduceNeg, Int.reduceToNat, Nat.reduceMul, Nat.reduceBEq, hc]

abbrev putFn58 : AV := .fn (.func 58) [] [.ptr 3 0, .ptr 2 0, .ptr 1 0, .ptr 4 0]
abbrev rowSt (s0 : Shelf) (arts : List (Int × Int)) (room floor : Int) (best : Rows) : List (List AV) := [s0.cells, bookCells true arts room floor, [I arts.length], [sl 2 true (best.map artAV)], [putFn58]]
/-- Two stretches can't be on one volume. -/
def aloneP (arts : List (Int × Int)) (room : Int) (x y : Nat) : Bool := decide (x < y ∧ x < arts.length ∧ room < seg (mosts arts) x ((min (y + 1) arts.length : Nat) : Int))
/-- What is a row in a register: nil, or a list. -/
def IsRow (l0 : AV) (l : Rows) : Prop := (l = [] ∧ l0 = .v (.slice none 0 0)) ∨ ∃ g, l0 = .lst g 2 (l.map artAV)
theorem slice_full (g : Tag) (l : Rows) : sliceAV 2 (.lst g 2 (l.map artAV)) none (some (.v (.int .i64 l.length))) (some (.v (.int .i64 l.length))) = some (.lst .full 2 (l.map artAV)) := by
  simp only [sliceAV, if_true, natOr, natOf]
  simp [← List.map_take]
theorem slice_nil3 : sliceAV 2 (.v (.slice none 0 0)) none (some (.v (.int .i64 0))) (some (.v (.int .i64 0))) = some (.v (.slice none 0 0)) := by
  simp [sliceAV, natOr, natOf]
theorem append_full (l : Rows) (x y : Int) (s : List (List AV)) (T : List Nat) (hm : l.length + 1 ≤ maxGrow) :
    appendAV 2 (.lst .full 2 (l.map artAV)) [.agg [I x, I y]] ⟨s, T⟩ = some (.lst (.own T.length (l.length + 1)) 2 ((l ++ [(x, y)]).map artAV), ⟨s, T ++ [l.length + 1]⟩) := by
  simp [appendAV, hm]
theorem append_nil1 (x y : Int) (s : List (List AV)) (T : List Nat) :
    appendAV 2 (.v (.slice none 0 0)) [.agg [I x, I y]] ⟨s, T⟩ = some (.lst (.own T.length 1) 2 [.agg [I x, I y]], ⟨s, T ++ [1]⟩) := by
  simp [appendAV, maxGrow]

abbrev Tried (s0 : Shelf) (arts : List (Int × Int)) (room floor : Int) (l : Rows) (y : Nat) (l0 : AV) (best : Rows) (T : List Nat) : Prop :=
  ∃ T', run L 58 [l0, I y, .ptr 3 0, .ptr 2 0, .ptr 1 0, .ptr 4 0] ⟨rowSt s0 arts room floor best, T⟩ = some (.tup [], ⟨rowSt s0 arts room floor (pickGt (pick1 best l) ((rowsF arts.length (aloneP arts room) y).map (l ++ ·))), T'⟩)

theorem tried_step (l : Rows) (s : Int × Int) (best : Rows) (R G : List Rows) :
    pickGt best (([s] :: R.map (s :: ·) ++ G).map (l ++ ·)) = pickGt (pickGt (pick1 best (l ++ [s])) (R.map ((l ++ [s]) ++ ·))) (G.map (l ++ ·)) := by
  rw [List.map_append, pickGt_append]
  congr 1
  simp [pickGt, Function.comp_def]

theorem loop58_0 (s0 : Shelf) (arts : List (Int × Int)) (room floor : Int) (hck : check arts room floor = 0) (hlen : arts.length ≤ 12) (l : Rows) (l0 : AV) (hl0 : IsRow l0 l) (x : Nat) (hx : x < arts.length) (hlx : l.length ≤ x) (lo hi2 : Nat) (hrec : ∀ y, x < y → y < arts.length → ∀ l0 best T, IsRow l0 (l ++ [((x : Int), (y : Int))]) → Tried s0 arts room floor (l ++ [((x : Int), (y : Int))]) y l0 best T) (y : Nat) (best : Rows) (T : List Nat) (hok : x < y ∧ y ≤ arts.length) (env : Env) (st : St)
    (hg : gcAV false lo hi2 (canon env [0, 3, 4, 5, 8, 9]) st = ([(0, l0), (3, .ptr 2 0), (4, .ptr 1 0), (5, .ptr 4 0), (8, I x), (9, I y)], ⟨rowSt s0 arts room floor best, T⟩)) :
    ∃ x_1 en s, lim (headed pure (run L) false [0, 3, 4, 5, 8, 9] lp58_0 lo hi2) env st = some (x_1, en, s) ∧ (x_1 = .exit 2 ∧ en.get 0 = l0 ∧ en.get 3 = .ptr 2 0 ∧ en.get 4 = .ptr 1 0 ∧ en.get 5 = .ptr 4 0 ∧ en.get 8 = I x ∧ ∃ T', s = ⟨rowSt s0 arts room floor (pickGt best ((groupF arts.length (aloneP arts room) x y).map (l ++ ·))), T'⟩) := by
  refine loop_wp (α := Nat × Rows × List Nat) (fun ⟨y, best, T⟩ => arts.length - y) (fun ⟨y, best, T⟩ => x < y ∧ y ≤ arts.length) (fun ⟨y, best, T⟩ => ([(0, l0), (3, .ptr 2 0), (4, .ptr 1 0), (5, .ptr 4 0), (8, I x), (9, I y)], ⟨rowSt s0 arts room floor best, T⟩)) (fun ⟨y, best, T⟩ x_1 en s => x_1 = .exit 2 ∧ en.get 0 = l0 ∧ en.get 3 = .ptr 2 0 ∧ en.get 4 = .ptr 1 0 ∧ en.get 5 = .ptr 4 0 ∧ en.get 8 = I x ∧ ∃ T', s = ⟨rowSt s0 arts room floor (pickGt best ((groupF arts.length (aloneP arts room) x y).map (l ++ ·))), T'⟩) (fun ⟨y, best, T⟩ hok => ?_) ⟨y, best, T⟩ hok env st hg
  simp only at hok
  obtain ⟨h1, h2⟩ := hok
  by_cases q : (y : Int) < (arts.length : Int)
  · have hs := succ64 y (by omega)
    have hmo := fun st => c50 true arts room floor hck x ((y + 1 : Nat) : Int) (by omega) (by omega) (by omega) st
    have hp : aloneP arts room x y = decide (room < seg (mosts arts) x ((y + 1 : Nat) : Int)) := by
      unfold aloneP
      rw [show min (y + 1) arts.length = y + 1 by omega]
      simp [h1, hx]
    have hg := groupF_step (n := arts.length) (x := x) (y := y) (aloneP arts room) (by omega)
    dsimp only
    rw [hg, hp]
    have hmg : l.length + 1 ≤ maxGrow := by unfold maxGrow; omega
    have q1 : arts.length - (y + 1) < arts.length - y := by omega
    have q2 : x < y + 1 ∧ y + 1 ≤ arts.length := ⟨by omega, by omega⟩
    have hst := tried_step l ((x : Int), (y : Int)) best (rowsF arts.length (aloneP arts room) y) (groupF arts.length (aloneP arts room) x (y + 1))
    by_cases p : room < seg (mosts arts) x ((y + 1 : Nat) : Int)
    · rw [if_pos (decide_eq_true p), hst]
      clear hst
      rcases hl0 with ⟨rfl, rfl⟩ | ⟨g, rfl⟩
      · obtain ⟨T', hr⟩ := hrec y h1 (by omega) (.lst (.own T.length 1) 2 [.agg [I x, I y]]) best (T ++ [1]) (.inr ⟨_, rfl⟩)
        have ha := append_nil1 x y (rowSt s0 arts room floor best) T
        generalize hB : pickGt (pick1 best ([] ++ [((x : Int), (y : Int))])) ((rowsF arts.length (aloneP arts room) y).map (([] ++ [((x : Int), (y : Int))]) ++ ·)) = B' at *
        generalize hG : (groupF arts.length (aloneP arts room) x (y + 1)).map (([] : Rows) ++ ·) = G at *
        simp only [go_sem, reduceIte, Nat.reduceEqDiff, Nat.reduceAdd, Nat.reduceSub, Nat.reduceLeDiff, Nat.reduceLT, reduceCtorEq, Int.reduceLT, Int.reduceLE, Int.reduceEq, Int.reduceBEq, Int.reduceSub, Int.reduceAdd, Int.reduceMul, Int.reduceNeg, Int.reduceToNat, Nat.reduceMul, Nat.reduceBEq, index_rsl_if, setm, make_ints, condK_dec, wantK_dec, not_dec, and_dec, or_dec, seqK_ite, seqK_none, blockK_ite, blockK_none, opsK_ite, opsK_none, stepK_ite, stepK_none, bodyK_ite, bodyK_none, resK_ite, resK_none, leaveK_ite, leaveK_none, only_ite, only_none, bind_ite, gives_some, gives_none, gives_ite, then_normal, then_ret, then_exit, then_none, then_ite, Option.bind_none, Bool.not_eq_true', decide_eq_false_iff_not, Bool.and_eq_true, Bool.or_eq_true, Option.some.injEq, Int.not_lt, Int.not_le, lp58_0, q, hs, hmo, p, hr, ha, slice_nil3]
        refine ⟨(y + 1, B', T'), rfl, q2, q1, fun x_1 en s hq => ?_⟩
        rw [← hG]
        exact hq
      · obtain ⟨T', hr⟩ := hrec y h1 (by omega) (.lst (.own T.length (l.length + 1)) 2 ((l ++ [((x : Int), (y : Int))]).map artAV)) best (T ++ [l.length + 1]) (.inr ⟨_, rfl⟩)
        have ha := append_full l x y (rowSt s0 arts room floor best) T hmg
        have hsf := slice_full g l
        generalize hB : pickGt (pick1 best (l ++ [((x : Int), (y : Int))])) ((rowsF arts.length (aloneP arts room) y).map ((l ++ [((x : Int), (y : Int))]) ++ ·)) = B' at *
        generalize hL2 : (l ++ [((x : Int), (y : Int))]).map artAV = L2 at *
        generalize hG : (groupF arts.length (aloneP arts room) x (y + 1)).map (l ++ ·) = G at *
        simp only [go_sem, reduceIte, Nat.reduceEqDiff, Nat.reduceAdd, Nat.reduceSub, Nat.reduceLeDiff, Nat.reduceLT, reduceCtorEq, Int.reduceLT, Int.reduceLE, Int.reduceEq, Int.reduceBEq, Int.reduceSub, Int.reduceAdd, Int.reduceMul, Int.reduceNeg, Int.reduceToNat, Nat.reduceMul, Nat.reduceBEq, index_rsl_if, setm, make_ints, condK_dec, wantK_dec, not_dec, and_dec, or_dec, seqK_ite, seqK_none, blockK_ite, blockK_none, opsK_ite, opsK_none, stepK_ite, stepK_none, bodyK_ite, bodyK_none, resK_ite, resK_none, leaveK_ite, leaveK_none, only_ite, only_none, bind_ite, gives_some, gives_none, gives_ite, then_normal, then_ret, then_exit, then_none, then_ite, Option.bind_none, Bool.not_eq_true', decide_eq_false_iff_not, Bool.and_eq_true, Bool.or_eq_true, Option.some.injEq, Int.not_lt, Int.not_le, lp58_0, q, hs, hmo, p, hr, ha, hsf, List.length_map]
        refine ⟨(y + 1, B', T'), rfl, q2, q1, fun x_1 en s hq => ?_⟩
        rw [← hG]
        exact hq
    · rw [if_neg (by simpa using p), List.nil_append]
      clear hst
      rcases hl0 with ⟨rfl, rfl⟩ | ⟨g, rfl⟩ <;> (
      generalize hG : (groupF arts.length (aloneP arts room) x (y + 1)).map _ = G at *
      simp only [go_sem, reduceIte, Nat.reduceEqDiff, Nat.reduceAdd, Nat.reduceSub, Nat.reduceLeDiff, Nat.reduceLT, reduceCtorEq, Int.reduceLT, Int.reduceLE, Int.reduceEq, Int.reduceBEq, Int.reduceSub, Int.reduceAdd, Int.reduceMul, Int.reduceNeg, Int.reduceToNat, Nat.reduceMul, Nat.reduceBEq, index_rsl_if, setm, make_ints, condK_dec, wantK_dec, not_dec, and_dec, or_dec, seqK_ite, seqK_none, blockK_ite, blockK_none, opsK_ite, opsK_none, stepK_ite, stepK_none, bodyK_ite, bodyK_none, resK_ite, resK_none, leaveK_ite, leaveK_none, only_ite, only_none, bind_ite, gives_some, gives_none, gives_ite, then_normal, then_ret, then_exit, then_none, then_ite, Option.bind_none, Bool.not_eq_true', decide_eq_false_iff_not, Bool.and_eq_true, Bool.or_eq_true, Option.some.injEq, Int.not_lt, Int.not_le, lp58_0, q, hs, hmo, p]
      refine ⟨(y + 1, best, T), rfl, q2, q1, fun x_1 en s hq => ?_⟩
      rw [← hG]
      exact hq)
  · obtain rfl : y = arts.length := by omega
    dsimp only
    rw [groupF_end _ (by omega)]
    rcases hl0 with ⟨rfl, rfl⟩ | ⟨g, rfl⟩ <;> (
    simp only [go_sem, reduceIte, Nat.reduceEqDiff, Nat.reduceAdd, Nat.reduceSub, Nat.reduceLeDiff, Nat.reduceLT, reduceCtorEq, Int.reduceLT, Int.reduceLE, Int.reduceEq, Int.reduceBEq, Int.reduceSub, Int.reduceAdd, Int.reduceMul, Int.reduceNeg, Int.reduceToNat, Nat.reduceMul, Nat.reduceBEq, index_rsl_if, setm, make_ints, condK_dec, wantK_dec, not_dec, and_dec, or_dec, seqK_ite, seqK_none, blockK_ite, blockK_none, opsK_ite, opsK_none, stepK_ite, stepK_none, bodyK_ite, bodyK_none, resK_ite, resK_none, leaveK_ite, leaveK_none, only_ite, only_none, bind_ite, gives_some, gives_none, gives_ite, then_normal, then_ret, then_exit, then_none, then_ite, Option.bind_none, Bool.not_eq_true', decide_eq_false_iff_not, Bool.and_eq_true, Bool.or_eq_true, Option.some.injEq, Int.not_lt, Int.not_le, lp58_0, q]
    exact ⟨T, rfl⟩)

theorem loop58_1 (s0 : Shelf) (arts : List (Int × Int)) (room floor : Int) (hck : check arts room floor = 0) (hlen : arts.length ≤ 12) (l : Rows) (l0 : AV) (hl0 : IsRow l0 l) (from' : Nat) (hlx : l.length ≤ from') (lo hi2 : Nat) (hrec : ∀ x, from' ≤ x → ∀ y, x < y → y < arts.length → ∀ l0 best T, IsRow l0 (l ++ [((x : Int), (y : Int))]) → Tried s0 arts room floor (l ++ [((x : Int), (y : Int))]) y l0 best T) (x : Nat) (best : Rows) (T : List Nat) (hok : from' ≤ x ∧ x ≤ arts.length) (env : Env) (st : St)
    (hg : gcAV false lo hi2 (canon env [0, 3, 4, 5, 8]) st = ([(0, l0), (3, .ptr 2 0), (4, .ptr 1 0), (5, .ptr 4 0), (8, I x)], ⟨rowSt s0 arts room floor best, T⟩)) :
    ∃ x_1 en s, lim (headed pure (run L) false [0, 3, 4, 5, 8] lp58_1 lo hi2) env st = some (x_1, en, s) ∧ (x_1 = .exit 0 ∧ ∃ T', s = ⟨rowSt s0 arts room floor (pickGt best ((rowsF arts.length (aloneP arts room) x).map (l ++ ·))), T'⟩) := by
  refine loop_wp (α := Nat × Rows × List Nat) (fun ⟨x, best, T⟩ => arts.length - x) (fun ⟨x, best, T⟩ => from' ≤ x ∧ x ≤ arts.length) (fun ⟨x, best, T⟩ => ([(0, l0), (3, .ptr 2 0), (4, .ptr 1 0), (5, .ptr 4 0), (8, I x)], ⟨rowSt s0 arts room floor best, T⟩)) (fun ⟨x, best, T⟩ x_1 en s => x_1 = .exit 0 ∧ ∃ T', s = ⟨rowSt s0 arts room floor (pickGt best ((rowsF arts.length (aloneP arts room) x).map (l ++ ·))), T'⟩) (fun ⟨x, best, T⟩ hok => ?_) ⟨x, best, T⟩ hok env st hg
  simp only at hok
  obtain ⟨h1, h2⟩ := hok
  by_cases q : (x : Int) < (arts.length : Int)
  · have hs := succ64 x (by omega)
    have q1 : arts.length - (x + 1) < arts.length - x := by omega
    have q2 : from' ≤ x + 1 ∧ x + 1 ≤ arts.length := ⟨by omega, by omega⟩
    have hrf := rowsF_eq (n := arts.length) (x := x) (aloneP arts room) (by omega)
    dsimp only
    rw [hrf, List.map_append, pickGt_append]
    have hl0' := hl0
    rcases hl0' with ⟨rfl, rfl⟩ | ⟨g, rfl⟩ <;> (
    generalize hR : (rowsF arts.length (aloneP arts room) (x + 1)).map _ = R'
    generalize hB : pickGt best _ = B'
    simp only [go_sem, reduceIte, Nat.reduceEqDiff, Nat.reduceAdd, Nat.reduceSub, Nat.reduceLeDiff, Nat.reduceLT, reduceCtorEq, Int.reduceLT, Int.reduceLE, Int.reduceEq, Int.reduceBEq, Int.reduceSub, Int.reduceAdd, Int.reduceMul, Int.reduceNeg, Int.reduceToNat, Nat.reduceMul, Nat.reduceBEq, index_rsl_if, setm, make_ints, condK_dec, wantK_dec, not_dec, and_dec, or_dec, seqK_ite, seqK_none, blockK_ite, blockK_none, opsK_ite, opsK_none, stepK_ite, stepK_none, bodyK_ite, bodyK_none, resK_ite, resK_none, leaveK_ite, leaveK_none, only_ite, only_none, bind_ite, gives_some, gives_none, gives_ite, then_normal, then_ret, then_exit, then_none, then_ite, Option.bind_none, Bool.not_eq_true', decide_eq_false_iff_not, Bool.and_eq_true, Bool.or_eq_true, Option.some.injEq, Int.not_lt, Int.not_le, lp58_1, q, hs]
    generalize hg : lim (headed pure (run L) false _ lp58_0 _ _) _ _ = o
    obtain ⟨x, en, s, rfl, h2⟩ : ∃ x en s, o = some (x, en, s) ∧ _ := by rw [← hg]; exact loop58_0 s0 arts room floor hck hlen _ _ hl0 x (by omega) (by omega) _ _ (fun y q1 q2 => hrec x h1 y q1 q2) (x + 1) best T ⟨by omega, by omega⟩ _ _ (by simp only [go_sem, reduceIte, Nat.reduceEqDiff, Nat.reduceAdd, Nat.reduceSub, Nat.reduceLeDiff, Nat.reduceLT, reduceCtorEq, Int.reduceLT, Int.reduceLE, Int.reduceEq, Int.reduceBEq, Int.reduceSub, Int.reduceAdd, Int.reduceMul, Int.reduceNeg, Int.reduceToNat, Nat.reduceMul, Nat.reduceBEq] <;> rfl)
    clear hg
    obtain ⟨rfl, g1, g2, g3, g4, g5, T', h5⟩ := h2
    subst h5
    simp only [go_sem, reduceIte, Nat.reduceEqDiff, Nat.reduceAdd, Nat.reduceSub, Nat.reduceLeDiff, Nat.reduceLT, reduceCtorEq, Int.reduceLT, Int.reduceLE, Int.reduceEq, Int.reduceBEq, Int.reduceSub, Int.reduceAdd, Int.reduceMul, Int.reduceNeg, Int.reduceToNat, Nat.reduceMul, Nat.reduceBEq, index_rsl_if, setm, make_ints, condK_dec, wantK_dec, not_dec, and_dec, or_dec, seqK_ite, seqK_none, blockK_ite, blockK_none, opsK_ite, opsK_none, stepK_ite, stepK_none, bodyK_ite, bodyK_none, resK_ite, resK_none, leaveK_ite, leaveK_none, only_ite, only_none, bind_ite, gives_some, gives_none, gives_ite, then_normal, then_ret, then_exit, then_none, then_ite, Option.bind_none, Bool.not_eq_true', decide_eq_false_iff_not, Bool.and_eq_true, Bool.or_eq_true, Option.some.injEq, Int.not_lt, Int.not_le, g1, g2, g3, g4, g5, hs]
    refine ⟨(x + 1, B', T'), by simp only [go_sem, reduceIte, Nat.reduceEqDiff, Nat.reduceAdd, Nat.reduceSub, Nat.reduceLeDiff, Nat.reduceLT, reduceCtorEq, Int.reduceLT, Int.reduceLE, Int.reduceEq, Int.reduceBEq, Int.reduceSub, Int.reduceAdd, Int.reduceMul, Int.reduceNeg, Int.reduceToNat, Nat.reduceMul, Nat.reduceBEq, g1, g2, g3, g4, g5] <;> (subst hB; rfl), q2, q1, fun x_1 en s hq => ?_⟩
    rw [← hR]
    exact hq)
  · obtain rfl : x = arts.length := by omega
    dsimp only
    rw [rowsF_end _ (by omega)]
    rcases hl0 with ⟨rfl, rfl⟩ | ⟨g, rfl⟩ <;> (
    simp only [go_sem, reduceIte, Nat.reduceEqDiff, Nat.reduceAdd, Nat.reduceSub, Nat.reduceLeDiff, Nat.reduceLT, reduceCtorEq, Int.reduceLT, Int.reduceLE, Int.reduceEq, Int.reduceBEq, Int.reduceSub, Int.reduceAdd, Int.reduceMul, Int.reduceNeg, Int.reduceToNat, Nat.reduceMul, Nat.reduceBEq, index_rsl_if, setm, make_ints, condK_dec, wantK_dec, not_dec, and_dec, or_dec, seqK_ite, seqK_none, blockK_ite, blockK_none, opsK_ite, opsK_none, stepK_ite, stepK_none, bodyK_ite, bodyK_none, resK_ite, resK_none, leaveK_ite, leaveK_none, only_ite, only_none, bind_ite, gives_some, gives_none, gives_ite, then_normal, then_ret, then_exit, then_none, then_ite, Option.bind_none, Bool.not_eq_true', decide_eq_false_iff_not, Bool.and_eq_true, Bool.or_eq_true, Option.some.injEq, Int.not_lt, Int.not_le, lp58_1, q]
    exact ⟨T, rfl⟩)

theorem c58 (s0 : Shelf) (arts : List (Int × Int)) (room floor : Int) (hck : check arts room floor = 0) (hlen : arts.length ≤ 12) : ∀ (m x : Nat), arts.length - x = m → x ≤ arts.length → ∀ (l : Rows) (l0 : AV) (best : Rows) (T : List Nat), l.length ≤ x → IsRow l0 l → Tried s0 arts room floor l x l0 best T := by
  intro m
  induction m using Nat.strongRecOn with
  | ind m ih =>
    intro x hm hx l l0 best T hlx hl0
    unfold Tried
    rw [run_shared (fn := ir58) rfl rfl]
    have hrec : ∀ x', x ≤ x' → ∀ y, x' < y → y < arts.length → ∀ l0 best T, IsRow l0 (l ++ [((x' : Int), (y : Int))]) → Tried s0 arts room floor (l ++ [((x' : Int), (y : Int))]) y l0 best T := by
      intro x' q1 y q2 q3 l0 best T h
      exact ih (arts.length - y) (by omega) y rfl (by omega) _ _ _ _ (by simp; omega) h
    have hmg : l.length ≤ maxGrow := by unfold maxGrow; omega
    have hl0' := hl0
    by_cases p : best.length < l.length
    · have hp1 : pick1 best l = l := by unfold pick1; rw [if_pos p]
      have hne : l ≠ [] := by intro h; subst h; simp at p
      have p' : ((best.length : Int) < (l.length : Int)) = True := eq_true (by omega)
      rw [hp1]
      rcases hl0' with ⟨rfl, rfl⟩ | ⟨g, rfl⟩
      · exact absurd rfl hne
      · have h59 := fun st => c59 g l hne hmg st
        simp only [ir58, go_sem, reduceIte, Nat.reduceEqDiff, Nat.reduceAdd, Nat.reduceSub, Nat.reduceLeDiff, Nat.reduceLT, reduceCtorEq, Int.reduceLT, Int.reduceLE, Int.reduceEq, Int.reduceBEq, Int.reduceSub, Int.reduceAdd, Int.reduceMul, Int.reduceNeg, Int.reduceToNat, Nat.reduceMul, Nat.reduceBEq, p', h59, List.length_map]
        generalize hg : lim (headed pure (run L) false _ lp58_1 _ _) _ _ = o
        obtain ⟨x, en, s, rfl, h2⟩ : ∃ x en s, o = some (x, en, s) ∧ _ := by rw [← hg]; exact loop58_1 s0 arts room floor hck hlen _ _ hl0 x hlx _ _ hrec x l T ⟨by omega, by omega⟩ _ _ (by simp only [go_sem, reduceIte, Nat.reduceEqDiff, Nat.reduceAdd, Nat.reduceSub, Nat.reduceLeDiff, Nat.reduceLT, reduceCtorEq, Int.reduceLT, Int.reduceLE, Int.reduceEq, Int.reduceBEq, Int.reduceSub, Int.reduceAdd, Int.reduceMul, Int.reduceNeg, Int.reduceToNat, Nat.reduceMul, Nat.reduceBEq] <;> rfl)
        clear hg
        obtain ⟨rfl, T', h5⟩ := h2
        subst h5
        simp only [go_sem, reduceIte, Nat.reduceEqDiff, Nat.reduceAdd, Nat.reduceSub, Nat.reduceLeDiff, Nat.reduceLT, reduceCtorEq, Int.reduceLT, Int.reduceLE, Int.reduceEq, Int.reduceBEq, Int.reduceSub, Int.reduceAdd, Int.reduceMul, Int.reduceNeg, Int.reduceToNat, Nat.reduceMul, Nat.reduceBEq]
        exact ⟨T', rfl⟩
    · have hp1 : pick1 best l = best := by unfold pick1; rw [if_neg p]
      have p' : ((best.length : Int) < (l.length : Int)) = False := eq_false (by omega)
      rw [hp1]
      rcases hl0' with ⟨rfl, rfl⟩ | ⟨g, rfl⟩
      · have p'' : ((best.length : Int) < (0 : Int)) = False := eq_false (by omega)
        simp only [ir58, go_sem, reduceIte, Nat.reduceEqDiff, Nat.reduceAdd, Nat.reduceSub, Nat.reduceLeDiff, Nat.reduceLT, reduceCtorEq, Int.reduceLT, Int.reduceLE, Int.reduceEq, Int.reduceBEq, Int.reduceSub, Int.reduceAdd, Int.reduceMul, Int.reduceNeg, Int.reduceToNat, Nat.reduceMul, Nat.reduceBEq, p'', List.length_map]
        generalize hg : lim (headed pure (run L) false _ lp58_1 _ _) _ _ = o
        obtain ⟨x, en, s, rfl, h2⟩ : ∃ x en s, o = some (x, en, s) ∧ _ := by rw [← hg]; exact loop58_1 s0 arts room floor hck hlen _ _ hl0 x hlx _ _ hrec x best T ⟨by omega, by omega⟩ _ _ (by simp only [go_sem, reduceIte, Nat.reduceEqDiff, Nat.reduceAdd, Nat.reduceSub, Nat.reduceLeDiff, Nat.reduceLT, reduceCtorEq, Int.reduceLT, Int.reduceLE, Int.reduceEq, Int.reduceBEq, Int.reduceSub, Int.reduceAdd, Int.reduceMul, Int.reduceNeg, Int.reduceToNat, Nat.reduceMul, Nat.reduceBEq] <;> rfl)
        clear hg
        obtain ⟨rfl, T', h5⟩ := h2
        subst h5
        simp only [go_sem, reduceIte, Nat.reduceEqDiff, Nat.reduceAdd, Nat.reduceSub, Nat.reduceLeDiff, Nat.reduceLT, reduceCtorEq, Int.reduceLT, Int.reduceLE, Int.reduceEq, Int.reduceBEq, Int.reduceSub, Int.reduceAdd, Int.reduceMul, Int.reduceNeg, Int.reduceToNat, Nat.reduceMul, Nat.reduceBEq]
        exact ⟨T', rfl⟩
      · simp only [ir58, go_sem, reduceIte, Nat.reduceEqDiff, Nat.reduceAdd, Nat.reduceSub, Nat.reduceLeDiff, Nat.reduceLT, reduceCtorEq, Int.reduceLT, Int.reduceLE, Int.reduceEq, Int.reduceBEq, Int.reduceSub, Int.reduceAdd, Int.reduceMul, Int.reduceNeg, Int.reduceToNat, Nat.reduceMul, Nat.reduceBEq, p', List.length_map]
        generalize hg : lim (headed pure (run L) false _ lp58_1 _ _) _ _ = o
        obtain ⟨x, en, s, rfl, h2⟩ : ∃ x en s, o = some (x, en, s) ∧ _ := by rw [← hg]; exact loop58_1 s0 arts room floor hck hlen _ _ hl0 x hlx _ _ hrec x best T ⟨by omega, by omega⟩ _ _ (by simp only [go_sem, reduceIte, Nat.reduceEqDiff, Nat.reduceAdd, Nat.reduceSub, Nat.reduceLeDiff, Nat.reduceLT, reduceCtorEq, Int.reduceLT, Int.reduceLE, Int.reduceEq, Int.reduceBEq, Int.reduceSub, Int.reduceAdd, Int.reduceMul, Int.reduceNeg, Int.reduceToNat, Nat.reduceMul, Nat.reduceBEq] <;> rfl)
        clear hg
        obtain ⟨rfl, T', h5⟩ := h2
        subst h5
        simp only [go_sem, reduceIte, Nat.reduceEqDiff, Nat.reduceAdd, Nat.reduceSub, Nat.reduceLeDiff, Nat.reduceLT, reduceCtorEq, Int.reduceLT, Int.reduceLE, Int.reduceEq, Int.reduceBEq, Int.reduceSub, Int.reduceAdd, Int.reduceMul, Int.reduceNeg, Int.reduceToNat, Nat.reduceMul, Nat.reduceBEq]
        exact ⟨T', rfl⟩
end Go.Proofs.Ytiifibgadipalaa.Vm

namespace Go.Proofs.Ytiifibgadipalaa.Vm
open Go Go.Ev
set_option maxRecDepth 100000
attribute [local go_sem] cells_any storable_any ren1_any shaped_ptr cells_ptr storable_ptr ren1_ptr shaped_eptr cells_eptr storable_eptr ren1_eptr shaped_rsl cells_rsl storable_rsl ren1_rsl shaped_int cells_int storable_int ren1_int shaped_bool cells_bool storable_bool ren1_bool shaped_nils cells_nils storable_nils ren1_nils shaped_lst cells_lst storable_lst shaped_fn cells_fn storable_fn ren1_fn shaped_ifc cells_ifc storable_ifc ren1_ifc shaped_agg cells_agg storable_agg ren1_agg shaped_tup cells_tup storable_tup ren1_tup shaped_nif cells_nif storable_nif ren1_nif ren1_lany ren1_lfull ren1_lown len_lst len_rsl len_nil load_ptr load_eptr isRsl_lst isRsl_nil isRsl_rsl elems_nil elems_lst elems_sl isRsl_sl body_eq bodyK_normal bodyK_ret resK_some leaveK_some only_some code_skip code_exit code_ret code_ops code_seq code_cond code_block seqK_normal seqK_ret seqK_exit condK_true condK_false blockK_normal blockK_ret blockK_exit opsK_some ops_nil ops_cons wantK_true wantK_false stepK_some pubs pub pub_sl params okRef_loc storable_loc shaped_loc cells_loc isRsl_loc elems_loc len_loc untips untip untip_sl wantedAV setElems withO isAgg_v isAgg_agg isAgg_lst isAgg_ptr isAgg_fn isAgg_ifc isAgg_rsl isAgg_sl isAgg_loc List.replicate_succ List.replicate_zero opAV valAV aval avals ofVal Env.get setD canon gcAV renAll renEnv renStore renCells ren1_sl cutSt okEnv okStore okRefs okRef okRef_sl bin_int bin_bool bin_lst bin_rsl bin_nil bin_agg cellsEq cellEq isShift intOp boolOp min_int max_int beq_int bne resAV tupAV leave_eq fin_sl fin_loc fins fin_v fin_lst fin_agg fin_tup fin_fn storeAV readCells putCells cells_sl shaped_sl storable_sl fieldAddrAV len_sl goI List.getElem?_cons_zero List.getElem?_cons_succ List.getElem?_nil Option.bind_some Option.map_some List.length_cons List.length_nil List.all_cons List.all_nil Bool.and_true Bool.true_and Bool.and_false Bool.false_and and_true true_and and_false false_and Bool.false_eq_true List.set_cons_zero List.set_cons_succ List.append_nil List.nil_append List.cons_append List.take_zero List.take_succ_cons List.take_nil List.drop_zero List.drop_succ_cons List.map_cons List.map_nil decide_true decide_false beq_self_eq_true Bool.not_true Bool.not_false or_true true_or or_false false_or Nat.zero_add Nat.add_zero Nat.le_refl Nat.lt_irrefl decide_eq_true_eq eq_self_iff_true not_true_eq_false not_false_eq_true List.getD_cons_zero code_loop Nat.zero_le Nat.not_lt_zero Bool.true_beq Bool.false_beq beq_true beq_false ge_iff_le gt_iff_lt Lpure pus Option.map_none assert_ifc assert_nil idxA_ptr idxA_eptr idxV_agg Int.cast_ofNat_Int Nat.mul_one Nat.zero_mul Int.toNat_natCast Int.toNat_zero setParts withO2 eqnil_sl nenil_sl eqnil_loc nenil_loc map_nil_iff okRefs_ints renCells_ints

theorem stretchEnd_spec (l : List Int) (room : Int) (n x : Nat) : ∀ k y, y + k = n → (∀ z, y ≤ z → z < stretchEnd l room n x k y → seg l x ((z : Int) + 1) ≤ room) ∧ (stretchEnd l room n x k y < n → room < seg l x ((stretchEnd l room n x k y : Int) + 1))
  | 0, y, h => by
    simp only [stretchEnd]
    exact ⟨fun z h1 h2 => by omega, fun h1 => by omega⟩
  | k + 1, y, h => by
    simp only [stretchEnd]
    split
    · next hc =>
      obtain ⟨h1, h2⟩ := stretchEnd_spec l room n x k (y + 1) (by omega)
      refine ⟨fun z q1 q2 => ?_, h2⟩
      by_cases hz : z = y
      · subst hz; exact hc.2
      · exact h1 z (by omega) q2
    · next hc =>
      exact ⟨fun z h1 h2 => by omega, fun h1 => by omega⟩
theorem alone_mono {arts : List (Int × Int)} {room0 floor : Int} (hck : check arts room0 floor = 0) (room : Int) (x y y' : Nat) (h : y ≤ y') (hp : aloneP arts room x y = true) : aloneP arts room x y' = true := by
  obtain ⟨_, _, k3, _⟩ := check_zero hck
  unfold aloneP at *
  rw [decide_eq_true_eq] at *
  obtain ⟨h1, h2, h3⟩ := hp
  refine ⟨by omega, h2, Int.lt_of_lt_of_le h3 ?_⟩
  exact seg_mono (fun a ha => by simp only [List.mem_map] at ha; obtain ⟨b, hb, rfl⟩ := ha; have := k3 b hb; omega) x x (min (y + 1) arts.length) (min (y' + 1) arts.length) (by omega) (by omega) (by omega) (by simp; omega)
theorem last_alone (arts : List (Int × Int)) (room : Int) (x : Nat) (hx : x < arts.length) :
    x < lastOfArt (mosts arts) room arts.length x ∧ lastOfArt (mosts arts) room arts.length x ≤ arts.length ∧ (∀ z, x < z → z < lastOfArt (mosts arts) room arts.length x → aloneP arts room x z = false) ∧
    (lastOfArt (mosts arts) room arts.length x < arts.length → aloneP arts room x (lastOfArt (mosts arts) room arts.length x) = true) := by
  obtain ⟨h1, h2⟩ := lastOfArt_ok (mosts arts) room arts.length x hx
  obtain ⟨h3, h4⟩ := stretchEnd_spec (mosts arts) room arts.length x (arts.length - (x + 1)) (x + 1) (by omega)
  refine ⟨h1, h2, fun z q1 q2 => ?_, fun q => ?_⟩
  · have := h3 z (by omega) q2
    unfold aloneP
    rw [decide_eq_false_iff_not, show min (z + 1) arts.length = z + 1 by omega, Int.natCast_add, Int.natCast_one]
    omega
  · have := h4 q
    unfold aloneP
    rw [decide_eq_true_eq, show min (lastOfArt (mosts arts) room arts.length x + 1) arts.length = lastOfArt (mosts arts) room arts.length x + 1 by omega, Int.natCast_add, Int.natCast_one]
    exact ⟨h1, hx, this⟩

theorem c13 (s0 : Shelf) (hs : s0.ok) (st : St) : run L 13 [s0.av] st = some (B true, st) := by
  rw [run_pure (fn := ir13) rfl rfl]
  have h45 := fun st => c45 s0 hs 7 12 (by omega) (by omega) (by omega) (by omega) st
  have hck := made_check (s := s0) (many := 7) (lines := 12) (by omega) (by omega) (by omega) (by omega)
  obtain ⟨_, _, hsing, _⟩ := made_ok (s := s0) (many := 7) (lines := 12) (by omega) (by omega) (by omega) (by omega)
  generalize madeArts s0 7 12 = arts at *
  generalize madeRoom s0 7 12 = room at *
  generalize madeFloor s0 7 12 = floor at *
  obtain ⟨g1, g2, g3, g4⟩ := mosts_ok hck
  obtain ⟨u1, u2⟩ := filled_some hck (r := room) (fun a ha => (hsing a ha).2.2.2)
  have hfv : fewestV arts room floor = (filled (mosts arts) room, 0) := by unfold fewestV; rw [if_pos hck, if_neg u2]
  have hrb := rows_best (n := arts.length) (p := aloneP arts room) (la := lastOfArt (mosts arts) room arts.length) (alone_mono hck room) (last_alone arts room) arts.length 0 rfl
  have hwl : whyL arts room = rowD arts.length (lastOfArt (mosts arts) room arts.length) 0 := by
    unfold whyL
    exact rowWalk_eq _ _ (lastOfArt_ok _ _ _) _ _ (by omega)
  have hw : whyV arts room floor = if rowD arts.length (lastOfArt (mosts arts) room arts.length) 0 = [] then ([], 13) else (rowD arts.length (lastOfArt (mosts arts) room arts.length) 0, 0) := by
    unfold whyV; rw [hfv, hwl]; simp only [if_true]
  have h36 := fun st => c36 true arts room floor st
  have hlen : (rowD arts.length (lastOfArt (mosts arts) room arts.length) 0).length < 1000000 := by
    have := rowD_len arts.length (lastOfArt (mosts arts) room arts.length) _ 0 rfl
    have := rowOf_le arts.length (lastOfArt (mosts arts) room arts.length) 0
    omega
  rw [hw] at h36
  generalize rowD arts.length (lastOfArt (mosts arts) room arts.length) 0 = rows at *
  obtain ⟨T, h58⟩ := c58 s0 arts room floor hck (by omega) arts.length 0 rfl (by omega) [] (.v (.slice none 0 0)) [] [] (by simp) (.inl ⟨rfl, rfl⟩)
  have hpk : pickGt (pick1 [] []) ((rowsF arts.length (aloneP arts room) 0).map (([] : Rows) ++ ·)) = rows := by
    rw [← hrb]
    have : pick1 [] [] = [] := by simp [pick1]
    rw [this]
    simp
  rw [hpk] at h58
  have h38 := fun st => c38 true true rows rows hlen st
  simp only [Int.natCast_zero, rowSt, List.map_nil, ← sl_nil] at h58
  simp only [ir13, go_sem, reduceIte, Nat.reduceEqDiff, Nat.reduceAdd, Nat.reduceSub, Nat.reduceLeDiff, Nat.reduceLT, reduceCtorEq, Int.reduceLT, Int.reduceLE, Int.reduceEq, Int.reduceBEq, Int.reduceSub, Int.reduceAdd, Int.reduceMul, Int.reduceNeg, Int.reduceToNat, Nat.reduceMul, Nat.reduceBEq, pubs_shelf, shelf_storable, shelf_len hs, shelf_take hs, h45, h58, List.length_map]
  by_cases q : rows = []
  · rw [if_pos q] at h36
    subst q
    simp only [go_sem, reduceIte, Nat.reduceEqDiff, Nat.reduceAdd, Nat.reduceSub, Nat.reduceLeDiff, Nat.reduceLT, reduceCtorEq, Int.reduceLT, Int.reduceLE, Int.reduceEq, Int.reduceBEq, Int.reduceSub, Int.reduceAdd, Int.reduceMul, Int.reduceNeg, Int.reduceToNat, Nat.reduceMul, Nat.reduceBEq, h36, c17, ← sl_nil]
  · rw [if_neg q] at h36
    have q' : ((rows.length : Int) = 0) = False := eq_false (by have := List.length_pos_iff.2 q; omega)
    simp only [go_sem, reduceIte, Nat.reduceEqDiff, Nat.reduceAdd, Nat.reduceSub, Nat.reduceLeDiff, Nat.reduceLT, reduceCtorEq, Int.reduceLT, Int.reduceLE, Int.reduceEq, Int.reduceBEq, Int.reduceSub, Int.reduceAdd, Int.reduceMul, Int.reduceNeg, Int.reduceToNat, Nat.reduceMul, Nat.reduceBEq, h36, h38, c17, q', List.length_map]
end Go.Proofs.Ytiifibgadipalaa.Vm
