/- What is proved: what functions of this program answer, by the evaluator. No condition. -/
import Derived.Test.YtpmbfgogpcjdlaaDoorF7
set_option linter.all false
namespace Go.Proofs.YtpmbfgogpcjdlaaDoor.Vm
open Go Go.Ev
set_option maxRecDepth 100000
attribute [local go_sem] cells_any storable_any ren1_any shaped_ptr cells_ptr storable_ptr ren1_ptr shaped_eptr cells_eptr storable_eptr ren1_eptr shaped_rsl cells_rsl storable_rsl ren1_rsl shaped_int cells_int storable_int ren1_int shaped_bool cells_bool storable_bool ren1_bool shaped_nils cells_nils storable_nils ren1_nils shaped_lst cells_lst storable_lst shaped_fn cells_fn storable_fn ren1_fn shaped_ifc cells_ifc storable_ifc ren1_ifc shaped_agg cells_agg storable_agg ren1_agg shaped_tup cells_tup storable_tup ren1_tup shaped_nif cells_nif storable_nif ren1_nif ren1_lany ren1_lfull ren1_lown len_lst len_rsl len_nil load_ptr load_eptr isRsl_lst isRsl_nil isRsl_rsl elems_nil elems_lst elems_sl isRsl_sl body_eq bodyK_normal bodyK_ret resK_some leaveK_some only_some code_skip code_exit code_ret code_ops code_seq code_cond code_block seqK_normal seqK_ret seqK_exit condK_true condK_false blockK_normal blockK_ret blockK_exit opsK_some ops_nil ops_cons wantK_true wantK_false stepK_some pubs pub pub_sl params okRef_loc storable_loc shaped_loc cells_loc isRsl_loc elems_loc len_loc untips untip untip_sl wantedAV setElems withO isAgg_v isAgg_agg isAgg_lst isAgg_ptr isAgg_fn isAgg_ifc isAgg_rsl isAgg_sl isAgg_loc List.replicate_succ List.replicate_zero opAV valAV aval avals ofVal Env.get setD canon gcAV renAll renEnv renStore renCells ren1_sl cutSt okEnv okStore okRefs okRef okRef_sl bin_int bin_bool bin_lst bin_rsl bin_nil bin_agg cellsEq cellEq isShift intOp boolOp min_int max_int beq_int bne resAV tupAV leave_eq fin_sl fin_loc fins fin_v fin_lst fin_agg fin_tup fin_fn storeAV readCells putCells cells_sl shaped_sl storable_sl fieldAddrAV len_sl goI List.getElem?_cons_zero List.getElem?_cons_succ List.getElem?_nil Option.bind_some Option.map_some List.length_cons List.length_nil List.all_cons List.all_nil Bool.and_true Bool.true_and Bool.and_false Bool.false_and and_true true_and and_false false_and Bool.false_eq_true List.set_cons_zero List.set_cons_succ List.append_nil List.nil_append List.cons_append List.take_zero List.take_succ_cons List.take_nil List.drop_zero List.drop_succ_cons List.map_cons List.map_nil decide_true decide_false beq_self_eq_true Bool.not_true Bool.not_false or_true true_or or_false false_or Nat.zero_add Nat.add_zero Nat.le_refl Nat.lt_irrefl decide_eq_true_eq eq_self_iff_true not_true_eq_false not_false_eq_true List.getD_cons_zero code_loop Nat.zero_le Nat.not_lt_zero Bool.true_beq Bool.false_beq beq_true beq_false ge_iff_le gt_iff_lt Lpure pus Option.map_none assert_ifc assert_nil idxA_ptr idxA_eptr idxV_agg Int.cast_ofNat_Int Nat.mul_one Nat.zero_mul Int.toNat_natCast Int.toNat_zero setParts withO2 hasKey eqnil_sl nenil_sl eqnil_loc nenil_loc map_nil_iff okRefs_ints renCells_ints

abbrev listAV (l : List Int) : AV := sl 1 false (l.map I)
theorem pub_list (l : List Int) : pub (listAV l) = listAV l := pub_sl _ _ _

/-- The numbers from 0 to 2, or 0 and 2; those from one on. -/
def vals (s : Nat) : List Nat := if s = 2 then [0, 2] else [0, 1, 2]
def later (s v : Nat) : List Nat := (vals s).filter fun x => decide (v ≤ x)
/-- All lists of so many such numbers, in ascending order. -/
def allL (s : Nat) : Nat → List (List Int)
  | 0 => [[]]
  | k + 1 => (vals s).flatMap fun (v : Nat) => (allL s k).map ((v : Int) :: ·)
def laterL (s k v : Nat) : List (List Int) := (later s v).flatMap fun (v : Nat) => (allL s k).map ((v : Int) :: ·)

theorem later_step {s v : Nat} (hs : s = 1 ∨ s = 2) (hv : v ∈ vals s) : later s v = v :: later s (v + s) ∧ (v + s ∈ vals s ∨ 2 < v + s) ∧ v ≤ 2 := by
  rcases hs with rfl | rfl
  · have : v = 0 ∨ v = 1 ∨ v = 2 := by simpa [vals] using hv
    rcases this with rfl | rfl | rfl <;> decide
  · have : v = 0 ∨ v = 2 := by simpa [vals] using hv
    rcases this with rfl | rfl <;> decide
theorem vals_le {s v : Nat} (hv : v ∈ vals s) : v ≤ 2 := by
  unfold vals at hv
  split at hv <;> simp at hv <;> omega
theorem later_end {s v : Nat} (h : 2 < v) : later s v = [] := by
  unfold later
  rw [List.filter_eq_nil_iff]
  intro x hx
  have := vals_le hx
  simp; omega
theorem zero_vals (s : Nat) : 0 ∈ vals s := by unfold vals; split <;> simp
theorem later_zero (s : Nat) : later s 0 = vals s := by unfold later; rw [List.filter_eq_self]; simp
theorem laterL_step {s k v : Nat} (hs : s = 1 ∨ s = 2) (hv : v ∈ vals s) : laterL s k v = (allL s k).map ((v : Int) :: ·) ++ laterL s k (v + s) := by
  unfold laterL; rw [(later_step hs hv).1, List.flatMap_cons]
theorem laterL_end {s k v : Nat} (h : 2 < v) : laterL s k v = [] := by unfold laterL; rw [later_end h]; rfl
theorem laterL_zero (s k : Nat) : laterL s k 0 = allL s (k + 1) := by unfold laterL; rw [later_zero]; rfl
theorem allL_len {s : Nat} (hs : s = 1 ∨ s = 2) : ∀ k, (allL s k).length ≤ 3 ^ k ∧ 0 < (allL s k).length := by
  intro k
  induction k with
  | zero => simp [allL]
  | succ k ih =>
    rcases hs with rfl | rfl
    · simp only [allL, vals, if_neg (show ¬(1 : Nat) = 2 by omega), List.flatMap_cons, List.flatMap_nil, List.length_append, List.length_map, List.length_nil, Nat.pow_succ]; omega
    · simp only [allL, vals, if_true, List.flatMap_cons, List.flatMap_nil, List.length_append, List.length_map, List.length_nil, Nat.pow_succ]; omega
theorem allL_in {s : Nat} : ∀ k, ∀ l ∈ allL s k, l.length = k ∧ ∀ x ∈ l, 0 ≤ x ∧ x ≤ 2 := by
  intro k
  induction k with
  | zero => intro l hl; simp [allL] at hl; subst hl; simp
  | succ k ih =>
    intro l hl
    simp only [allL, List.mem_flatMap, List.mem_map] at hl
    obtain ⟨v, hv, r, hr, rfl⟩ := hl
    have h1 := ih r hr
    have h2 := vals_le hv
    refine ⟨by simp [h1.1], fun x hx => ?_⟩
    rcases List.mem_cons.1 hx with rfl | hx
    · omega
    · exact h1.2 x hx

/-- Lists with the same beginning. -/
def preL (b : List Int) (l : List (List Int)) : List (List Int) := l.map (b ++ ·)
theorem preL_nil (l : List (List Int)) : preL [] l = l := by simp [preL]
theorem preL_len (b : List Int) (l : List (List Int)) : (preL b l).length = l.length := by simp [preL]

theorem run_args {f : FuncId} {fn : IF} (hf : L.fns f = some fn) (hp : L.pure f = true) {args args' : List AV} (st : St) (h : pubs args = pubs args') : run L f args st = run L f args' st := by
  rw [run_pure hf hp, run_pure hf hp, h]

theorem loop105 (n t : Nat) (hss : t = 1 ∨ t = 2) (nl : Bool) (begun : List Int) (k : Nat) (hk : k ≤ 6) (hbl : begun.length ≤ 7) (hrec : ∀ v, v ∈ vals t → ∀ st, run L 105 [I n, I t, sl 1 false ((begun ++ [(v : Int)]).map I)] st = some (sl 1 true ((preL (begun ++ [(v : Int)]) (allL t k)).map listAV), st)) (v : Nat) (out : List (List Int)) (hok : (v ∈ vals t ∨ 2 < v) ∧ v ≤ 4 ∧ out.length + (laterL t k v).length ≤ 5000) (env : Env) (st : St)
    (hg : gcAV true 0 0 (canon env [0, 1, 2, 7, 8]) st = ([(0, I n), (1, I t), (2, sl 1 nl (begun.map I)), (7, loc 1 0 (out.map listAV)), (8, I v)], ⟨[], locT 0 (out.map listAV)⟩)) :
    ∃ x_1 en s, lim (headed pure (run L) true [0, 1, 2, 7, 8] lp105_0 0 0) env st = some (x_1, en, s) ∧ (x_1 = .exit 0 ∧ en.get 7 = loc 1 0 ((out ++ preL begun (laterL t k v)).map listAV)) := by
  refine loop_wp (α := Nat × List (List Int)) (fun ⟨v, out⟩ => 5 - v) (fun ⟨v, out⟩ => (v ∈ vals t ∨ 2 < v) ∧ v ≤ 4 ∧ out.length + (laterL t k v).length ≤ 5000) (fun ⟨v, out⟩ => ([(0, I n), (1, I t), (2, sl 1 nl (begun.map I)), (7, loc 1 0 (out.map listAV)), (8, I v)], ⟨[], locT 0 (out.map listAV)⟩)) (fun ⟨v, out⟩ x_1 en s => x_1 = .exit 0 ∧ en.get 7 = loc 1 0 ((out ++ preL begun (laterL t k v)).map listAV)) (fun ⟨v, out⟩ hok => ?_) ⟨v, out⟩ hok env st hg
  simp only at hok
  obtain ⟨hv, hv4, hok⟩ := hok
  by_cases q : (v : Int) ≤ 2
  · have hvm : v ∈ vals t := by rcases hv with h | h; exact h; omega
    have hr := hrec v hvm
    have hsw : IntKind.i64.wrap ((v : Int) + (t : Int)) = ((v + t : Nat) : Int) := by rw [wrap64] <;> omega
    have hst := laterL_step (k := k) hss hvm
    have hvn := (later_step hss hvm).2.1
    have hcl := allL_len hss k
    have hpos := hcl.2
    have hlen : out.length + (allL t k).length ≤ 5000 := by rw [hst, List.length_append, List.length_map] at hok; omega
    have hnext : (out ++ preL (begun ++ [(v : Int)]) (allL t k)) ++ preL begun (laterL t k (v + t)) = out ++ preL begun (laterL t k v) := by
      rw [hst, preL, preL, preL, List.map_append, List.map_map, List.append_assoc]
      congr 2
      apply List.map_congr_left
      intro l _
      simp
    have hGl : (preL (begun ++ [(v : Int)]) (allL t k)).length = (allL t k).length := preL_len _ _
    have h84 : ∀ g st, run L 105 [I n, I t, .lst g 1 ((begun ++ [(v : Int)]).map I)] st = some (sl 1 true ((preL (begun ++ [(v : Int)]) (allL t k)).map listAV), st) := by
      intro g st
      rw [← hr st]
      exact run_args (fn := ir105) rfl rfl st (by simp only [pubs, pub, pub_sl]; rw [sl_false])
    generalize preL (begun ++ [(v : Int)]) (allL t k) = G at *
    have hys : G.map listAV ≠ [] := by
      intro h; rw [List.map_eq_nil_iff] at h; rw [h] at hGl; simp at hGl; omega
    have happ := fun s T => append_more (z := 1) (k := 0) (xs := out.map listAV) hys s T (by simp [maxGrow]; omega) (by omega)
    have hne : (out.map listAV ++ G.map listAV).length ≠ 0 := by simp only [List.length_append, List.length_map]; omega
    have hmap : out.map listAV ++ G.map listAV = (out ++ G).map listAV := by rw [List.map_append]
    have hok' : (v + t ∈ vals t ∨ 2 < v + t) ∧ v + t ≤ 4 ∧ (out ++ G).length + (laterL t k (v + t)).length ≤ 5000 := by
      rw [hst, List.length_append, List.length_map] at hok
      simp only [List.length_append]
      refine ⟨hvn, ?_, ?_⟩
      · rcases hss with rfl | rfl <;> omega
      · omega
    have hmeas : 5 - (v + t) < 5 - v := by rcases hss with rfl | rfl <;> omega
    by_cases hbn : begun = []
    · subst hbn
      have h33 := fun st => copy_nil 1 st
      have h36 := fun st => copy_some (z := 1) (xs := [I (v : Int)]) (by simp) (by simp [maxGrow]) st
      simp only [List.nil_append, List.map_cons, List.map_nil] at h84
      simp only [go_sem, reduceIte, Nat.reduceEqDiff, Nat.reduceAdd, Nat.reduceSub, Nat.reduceLeDiff, Nat.reduceLT, reduceCtorEq, Int.reduceLT, Int.reduceLE, Int.reduceEq, Int.reduceBEq, Int.reduceSub, Int.reduceAdd, Int.reduceMul, Int.reduceNeg, Int.reduceToNat, Nat.reduceMul, Nat.reduceBEq, index_rsl_if, setm, make_ints, condK_dec, wantK_dec, not_dec, and_dec, or_dec, seqK_ite, seqK_none, blockK_ite, blockK_none, opsK_ite, opsK_none, stepK_ite, stepK_none, bodyK_ite, bodyK_none, resK_ite, resK_none, leaveK_ite, leaveK_none, only_ite, only_none, bind_ite, gives_some, gives_none, gives_ite, then_normal, then_ret, then_exit, then_none, then_ite, Option.bind_none, Bool.not_eq_true', decide_eq_false_iff_not, Bool.and_eq_true, Bool.or_eq_true, Option.some.injEq, Int.not_lt, Int.not_le, lp105_0, q, h33, h36, h84, hsw, happ, List.length_cons, List.length_nil]
      refine ⟨(v + t, out ++ G), by simp only [go_sem, reduceIte, Nat.reduceEqDiff, Nat.reduceAdd, Nat.reduceSub, Nat.reduceLeDiff, Nat.reduceLT, reduceCtorEq, Int.reduceLT, Int.reduceLE, Int.reduceEq, Int.reduceBEq, Int.reduceSub, Int.reduceAdd, Int.reduceMul, Int.reduceNeg, Int.reduceToNat, Nat.reduceMul, Nat.reduceBEq, okRef_more, ren1_more]; rw [loc_own hne, hmap, locT_own (k := 0) (xs := (out ++ G).map listAV) (by rw [← hmap]; exact hne)], hok', hmeas, fun x en s hq => ?_⟩
      simp only at hq ⊢
      rw [hnext] at hq
      exact hq
    · have hbm : begun.map I ≠ [] := by simpa using hbn
      have h33 := fun st => copy_some (z := 1) hbm (by simp [maxGrow]; omega) st
      have h36 : ∀ s T, appendAV 1 (.lst (.own T.length begun.length) 1 (begun.map I)) [I (v : Int)] ⟨s, T ++ [begun.length]⟩ = some (.lst (.own T.length (begun.length + 1)) 1 ((begun ++ [(v : Int)]).map I), ⟨s, T ++ [begun.length + 1]⟩) := by
        intro s T
        have := copy_one (z := 1) (xs := begun.map I) (I (v : Int)) s T (by simp [maxGrow]; omega)
        simpa using this
      simp only [go_sem, reduceIte, Nat.reduceEqDiff, Nat.reduceAdd, Nat.reduceSub, Nat.reduceLeDiff, Nat.reduceLT, reduceCtorEq, Int.reduceLT, Int.reduceLE, Int.reduceEq, Int.reduceBEq, Int.reduceSub, Int.reduceAdd, Int.reduceMul, Int.reduceNeg, Int.reduceToNat, Nat.reduceMul, Nat.reduceBEq, index_rsl_if, setm, make_ints, condK_dec, wantK_dec, not_dec, and_dec, or_dec, seqK_ite, seqK_none, blockK_ite, blockK_none, opsK_ite, opsK_none, stepK_ite, stepK_none, bodyK_ite, bodyK_none, resK_ite, resK_none, leaveK_ite, leaveK_none, only_ite, only_none, bind_ite, gives_some, gives_none, gives_ite, then_normal, then_ret, then_exit, then_none, then_ite, Option.bind_none, Bool.not_eq_true', decide_eq_false_iff_not, Bool.and_eq_true, Bool.or_eq_true, Option.some.injEq, Int.not_lt, Int.not_le, lp105_0, q, h33, h36, h84, hsw, happ, List.length_map]
      refine ⟨(v + t, out ++ G), by simp only [go_sem, reduceIte, Nat.reduceEqDiff, Nat.reduceAdd, Nat.reduceSub, Nat.reduceLeDiff, Nat.reduceLT, reduceCtorEq, Int.reduceLT, Int.reduceLE, Int.reduceEq, Int.reduceBEq, Int.reduceSub, Int.reduceAdd, Int.reduceMul, Int.reduceNeg, Int.reduceToNat, Nat.reduceMul, Nat.reduceBEq, okRef_more, ren1_more]; rw [loc_own hne, hmap, locT_own (k := 0) (xs := (out ++ G).map listAV) (by rw [← hmap]; exact hne)], hok', hmeas, fun x en s hq => ?_⟩
      simp only at hq ⊢
      rw [hnext] at hq
      exact hq
  · simp only [go_sem, reduceIte, Nat.reduceEqDiff, Nat.reduceAdd, Nat.reduceSub, Nat.reduceLeDiff, Nat.reduceLT, reduceCtorEq, Int.reduceLT, Int.reduceLE, Int.reduceEq, Int.reduceBEq, Int.reduceSub, Int.reduceAdd, Int.reduceMul, Int.reduceNeg, Int.reduceToNat, Nat.reduceMul, Nat.reduceBEq, index_rsl_if, setm, make_ints, condK_dec, wantK_dec, not_dec, and_dec, or_dec, seqK_ite, seqK_none, blockK_ite, blockK_none, opsK_ite, opsK_none, stepK_ite, stepK_none, bodyK_ite, bodyK_none, resK_ite, resK_none, leaveK_ite, leaveK_none, only_ite, only_none, bind_ite, gives_some, gives_none, gives_ite, then_normal, then_ret, then_exit, then_none, then_ite, Option.bind_none, Bool.not_eq_true', decide_eq_false_iff_not, Bool.and_eq_true, Bool.or_eq_true, Option.some.injEq, Int.not_lt, Int.not_le, lp105_0, q]
    rw [laterL_end (by omega)]; simp [preL]


theorem c105 (n t : Nat) (hss : t = 1 ∨ t = 2) (hn : n ≤ 7) : ∀ (k : Nat) (nl : Bool) (begun : List Int), begun.length + k = n → (nl = true → begun = [] → k ≠ 0) → ∀ st,
    run L 105 [I n, I t, sl 1 nl (begun.map I)] st = some (sl 1 true ((preL begun (allL t k)).map listAV), st) := by
  intro k
  induction k with
  | zero =>
    intro nl begun hb hnl st
    rw [run_pure (fn := ir105) rfl rfl]
    have p : ((begun.length : Int) = (n : Int)) = True := eq_true (by omega)
    have e : sl 1 nl (begun.map I) = listAV begun := by
      show (if nl = true ∧ begun.map I = [] then AV.v (.slice none 0 0) else AV.lst .any 1 (begun.map I)) = listAV begun
      rw [if_neg (fun h => absurd rfl (hnl h.1 (by simpa using h.2))), sl_false]
    simp only [ir105, go_sem, reduceIte, Nat.reduceEqDiff, Nat.reduceAdd, Nat.reduceSub, Nat.reduceLeDiff, Nat.reduceLT, reduceCtorEq, Int.reduceLT, Int.reduceLE, Int.reduceEq, Int.reduceBEq, Int.reduceSub, Int.reduceAdd, Int.reduceMul, Int.reduceNeg, Int.reduceToNat, Nat.reduceMul, Nat.reduceBEq, p, List.length_map]
    rw [e]
    simp [preL, allL, sl]
  | succ k ih =>
    intro nl begun hb hnl st
    rw [run_pure (fn := ir105) rfl rfl]
    have p : ((begun.length : Int) = (n : Int)) = False := eq_false (by omega)
    have hrec : ∀ v, v ∈ vals t → ∀ st, run L 105 [I n, I t, sl 1 false ((begun ++ [(v : Int)]).map I)] st = some (sl 1 true ((preL (begun ++ [(v : Int)]) (allL t k)).map listAV), st) := by
      intro v hv st
      exact ih false (begun ++ [(v : Int)]) (by simp; omega) (by simp) st
    have hcl := (allL_len hss (k + 1)).1
    have hpow : 3 ^ (k + 1) ≤ 2187 := Nat.le_trans (Nat.pow_le_pow_right (by omega) (show k + 1 ≤ 7 by omega)) (by decide)
    simp only [ir105, go_sem, reduceIte, Nat.reduceEqDiff, Nat.reduceAdd, Nat.reduceSub, Nat.reduceLeDiff, Nat.reduceLT, reduceCtorEq, Int.reduceLT, Int.reduceLE, Int.reduceEq, Int.reduceBEq, Int.reduceSub, Int.reduceAdd, Int.reduceMul, Int.reduceNeg, Int.reduceToNat, Nat.reduceMul, Nat.reduceBEq, p, List.length_map]
    generalize hg : lim (headed pure (run L) true _ lp105_0 _ _) _ _ = o
    obtain ⟨x, en, s, rfl, h2⟩ : ∃ x en s, o = some (x, en, s) ∧ _ := by rw [← hg]; exact loop105 n t hss nl begun k (by omega) (by omega) hrec 0 [] ⟨.inl (zero_vals t), by omega, by rw [laterL_zero]; simp; omega⟩ _ _ (by simp only [go_sem, reduceIte, Nat.reduceEqDiff, Nat.reduceAdd, Nat.reduceSub, Nat.reduceLeDiff, Nat.reduceLT, reduceCtorEq, Int.reduceLT, Int.reduceLE, Int.reduceEq, Int.reduceBEq, Int.reduceSub, Int.reduceAdd, Int.reduceMul, Int.reduceNeg, Int.reduceToNat, Nat.reduceMul, Nat.reduceBEq, loc_start, locT] <;> rfl)
    clear hg
    obtain ⟨rfl, h3⟩ := h2
    rw [laterL_zero, List.nil_append] at h3
    simp only [go_sem, reduceIte, Nat.reduceEqDiff, Nat.reduceAdd, Nat.reduceSub, Nat.reduceLeDiff, Nat.reduceLT, reduceCtorEq, Int.reduceLT, Int.reduceLE, Int.reduceEq, Int.reduceBEq, Int.reduceSub, Int.reduceAdd, Int.reduceMul, Int.reduceNeg, Int.reduceToNat, Nat.reduceMul, Nat.reduceBEq, h3]
end Go.Proofs.YtpmbfgogpcjdlaaDoor.Vm
