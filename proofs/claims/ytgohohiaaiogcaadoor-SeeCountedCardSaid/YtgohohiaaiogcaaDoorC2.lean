/- What is proved: what each function of this program computes, as equations on the evaluator. No condition. -/
import Derived.Test.YtgohohiaaiogcaaDoorC1
import Derived.Test.YtgohohiaaiogcaaDoorS0
set_option linter.all false
namespace Go.Proofs.YtgohohiaaiogcaaDoor.Vm
open Go Go.Ev
set_option maxRecDepth 100000
attribute [local go_sem] cells_any storable_any ren1_any shaped_ptr cells_ptr storable_ptr ren1_ptr shaped_eptr cells_eptr storable_eptr ren1_eptr shaped_rsl cells_rsl storable_rsl ren1_rsl shaped_int cells_int storable_int ren1_int shaped_bool cells_bool storable_bool ren1_bool shaped_nils cells_nils storable_nils ren1_nils shaped_lst cells_lst storable_lst shaped_fn cells_fn storable_fn ren1_fn shaped_ifc cells_ifc storable_ifc ren1_ifc shaped_agg cells_agg storable_agg ren1_agg shaped_tup cells_tup storable_tup ren1_tup shaped_nif cells_nif storable_nif ren1_nif ren1_lany ren1_lfull ren1_lown len_lst len_rsl len_nil load_ptr load_eptr isRsl_lst isRsl_nil isRsl_rsl elems_nil elems_lst elems_sl isRsl_sl body_eq bodyK_normal bodyK_ret resK_some leaveK_some only_some code_skip code_exit code_ret code_ops code_seq code_cond code_block seqK_normal seqK_ret seqK_exit condK_true condK_false blockK_normal blockK_ret blockK_exit opsK_some ops_nil ops_cons wantK_true wantK_false stepK_some pubs pub pub_sl params okRef_loc storable_loc shaped_loc cells_loc isRsl_loc elems_loc len_loc untips untip untip_sl wantedAV setElems withO isAgg_v isAgg_agg isAgg_lst isAgg_ptr isAgg_fn isAgg_ifc isAgg_rsl isAgg_sl isAgg_loc List.replicate_succ List.replicate_zero opAV valAV aval avals ofVal Env.get setD canon gcAV renAll renEnv renStore renCells ren1_sl cutSt okEnv okStore okRefs okRef okRef_sl bin_int bin_bool bin_lst bin_rsl bin_nil bin_agg cellsEq cellEq isShift intOp boolOp min_int max_int beq_int bne resAV tupAV leave_eq fin_sl fin_loc fins fin_v fin_lst fin_agg fin_tup fin_fn storeAV readCells putCells cells_sl shaped_sl storable_sl fieldAddrAV len_sl goI List.getElem?_cons_zero List.getElem?_cons_succ List.getElem?_nil Option.bind_some Option.map_some List.length_cons List.length_nil List.all_cons List.all_nil Bool.and_true Bool.true_and Bool.and_false Bool.false_and and_true true_and and_false false_and Bool.false_eq_true List.set_cons_zero List.set_cons_succ List.append_nil List.nil_append List.cons_append List.take_zero List.take_succ_cons List.take_nil List.drop_zero List.drop_succ_cons List.map_cons List.map_nil decide_true decide_false beq_self_eq_true Bool.not_true Bool.not_false or_true true_or or_false false_or Nat.zero_add Nat.add_zero Nat.le_refl Nat.lt_irrefl decide_eq_true_eq eq_self_iff_true not_true_eq_false not_false_eq_true List.getD_cons_zero code_loop Nat.zero_le Nat.not_lt_zero Bool.true_beq Bool.false_beq beq_true beq_false ge_iff_le gt_iff_lt keepR keepT ownTop Lpure pus Option.map_none assert_ifc assert_nil idxA_ptr idxA_eptr idxV_agg Int.cast_ofNat_Int Nat.mul_one Nat.zero_mul Int.toNat_natCast Int.toNat_zero setParts withO2 hasKey eqnil_sl nenil_sl eqnil_loc nenil_loc map_nil_iff okRefs_ints renCells_ints
attribute [local go_sem] shaped_t cells_t isAgg_t storable_t okRef_t pub_t

/-! ### two lists of references, one after the other -/
def fP (p : Int × Int) : List AV := [I p.1, I p.2]
def cellsP (D : List (Int × Int)) (k : Nat) : List AV := D.flatMap fP ++ (List.replicate k [I 0, I 0]).flatten
theorem fP_len : ∀ D : List (Int × Int), (D.flatMap fP).length = 2 * D.length
  | [] => rfl
  | p :: r => by rw [List.flatMap_cons, List.length_append, fP_len r]; simp [fP]; omega
theorem zP_len : ∀ k : Nat, (List.replicate k [I 0, I 0]).flatten.length = 2 * k
  | 0 => rfl
  | k + 1 => by rw [List.replicate_succ, List.flatten_cons, List.length_append, zP_len k]; simp; omega
theorem cellsP_len (D : List (Int × Int)) (k : Nat) : (cellsP D k).length = 2 * (D.length + k) := by
  unfold cellsP; rw [List.length_append, fP_len, zP_len]; omega
theorem flatP : ∀ A : List (Int × Int), flatAV (A.map prAV) = A.flatMap fP
  | [] => rfl
  | p :: r => by
    have := flatP r
    unfold flatAV at this ⊢
    rw [List.map_cons, List.flatMap_cons, this, List.flatMap_cons]; rfl
theorem dropP : ∀ (a k : Nat), (List.replicate (a + k) [I 0, I 0]).flatten.drop (2 * a) = (List.replicate k [I 0, I 0]).flatten
  | 0, k => by simp
  | a + 1, k => by
    rw [show a + 1 + k = (a + k) + 1 by omega, List.replicate_succ, List.flatten_cons, show 2 * (a + 1) = 2 * a + 2 by omega]
    simp only [List.cons_append, List.nil_append, List.drop_succ_cons]
    exact dropP a k
theorem appendP (D A : List (Int × Int)) (k c : Nat) (hc : c = D.length + (A.length + k)) (h0 : 0 < c) (T : List Nat) :
    appendmAV 2 true (.rsl 0 0 D.length c 2 true) (A.map prAV) ⟨[cellsP D (A.length + k)], T⟩ = some (.rsl 0 0 (D ++ A).length c 2 true, ⟨[cellsP (D ++ A) k], T⟩) := by
  have hl := cellsP_len D (A.length + k)
  simp only [appendmAV, List.getElem?_cons_zero, List.length_map, Nat.zero_add, flatP]
  rw [if_pos ⟨trivial, trivial, by omega, by omega, by omega⟩, if_pos (by omega), if_pos (by omega), List.length_append]
  have e : (cellsP D (A.length + k)).take (D.length * 2) ++ A.flatMap fP ++ (cellsP D (A.length + k)).drop (D.length * 2 + (A.flatMap fP).length) = cellsP (D ++ A) k := by
    unfold cellsP
    rw [List.take_left' (by rw [fP_len]; omega), fP_len, show D.length * 2 + 2 * A.length = (D.flatMap fP).length + 2 * A.length by rw [fP_len]; omega, List.drop_append, List.drop_of_length_le (by omega), List.nil_append, Nat.add_sub_cancel_left, dropP, List.flatMap_append]
  rw [e]; rfl
def catX (n1 n2 : Bool) (A B : List (Int × Int)) : AV := .lst .any 1 [sl 2 n1 (A.map prAV), sl 2 n2 (B.map prAV)]
def catT (A B : List (Int × Int)) : Nat → Nat
  | 0 => 0
  | 1 => A.length
  | _ => A.length + B.length
theorem loop84_0 (n1 n2 : Bool) (A B : List (Int × Int)) (hA : A.length < 1000) (hB : B.length < 1000) (i : Nat) (hok : i ≤ 2) (env : Env) (st : St)
    (hg : gcAV true 0 0 (canon env [0, 3, 9, 10, 11]) st = ([(0, catX n1 n2 A B), (3, I (catT A B i)), (9, catX n1 n2 A B), (10, I 2), (11, I i)], ⟨[], []⟩)) :
    ∃ x_1 en s, lim (headed pure (run L) true [0, 3, 9, 10, 11] lp84_0 0 0) env st = some (x_1, en, s) ∧ (x_1 = .exit 0 ∧ en.get 0 = catX n1 n2 A B ∧ en.get 3 = I (catT A B 2) ∧ s = ⟨[], []⟩) := by
  refine loop_wp (α := Nat) (fun i => 2 - i) (fun i => i ≤ 2) (fun i => ([(0, catX n1 n2 A B), (3, I (catT A B i)), (9, catX n1 n2 A B), (10, I 2), (11, I i)], ⟨[], []⟩)) (fun i x_1 en s => x_1 = .exit 0 ∧ en.get 0 = catX n1 n2 A B ∧ en.get 3 = I (catT A B 2) ∧ s = ⟨[], []⟩) (fun i hok => ?_) i hok env st hg
  have hX : catX n1 n2 A B = .lst .any 1 [sl 2 n1 (A.map prAV), sl 2 n2 (B.map prAV)] := rfl
  rcases (show i = 0 ∨ i = 1 ∨ i = 2 by omega) with rfl | rfl | rfl
  · have h0 : indexSAV 1 (.lst .any 1 [sl 2 n1 (A.map prAV), sl 2 n2 (B.map prAV)]) (.v (.int .i64 0)) = some (.eptr (sl 2 n1 (A.map prAV)) 0) := rfl
    have hlt : (((0 : Nat) : Int) < 2) = True := eq_true (by omega)
    have hw1 : IntKind.i64.wrap (((catT A B 0 : Nat) : Int) + (A.length : Int)) = ((catT A B 1 : Nat) : Int) := by show IntKind.i64.wrap ((0 : Int) + (A.length : Int)) = (A.length : Int); rw [wrap64] <;> omega
    have hs : IntKind.i64.wrap 1 = 1 := rfl
    have hn : ((catT A B 1 : Int) < 0) = False := eq_false (by omega)
    simp only [go_sem, reduceIte, Nat.reduceEqDiff, Nat.reduceAdd, Nat.reduceSub, Nat.reduceLeDiff, Nat.reduceLT, reduceCtorEq, Int.reduceLT, Int.reduceLE, Int.reduceEq, Int.reduceBEq, Int.reduceSub, Int.reduceAdd, Int.reduceMul, Int.reduceNeg, Int.reduceToNat, Nat.reduceMul, Nat.reduceBEq, index_rsl_if, setm, make_ints, condK_dec, wantK_dec, not_dec, and_dec, or_dec, seqK_ite, seqK_none, blockK_ite, blockK_none, opsK_ite, opsK_none, stepK_ite, stepK_none, bodyK_ite, bodyK_none, resK_ite, resK_none, leaveK_ite, leaveK_none, only_ite, only_none, bind_ite, gives_some, gives_none, gives_ite, then_normal, then_ret, then_exit, then_none, then_ite, Option.bind_none, Bool.not_eq_true', decide_eq_false_iff_not, Bool.and_eq_true, Bool.or_eq_true, Option.some.injEq, Int.not_lt, Int.not_le, lp84_0, hX, h0, hlt, hw1, hs, hn, List.length_map]
    refine ⟨0 + 1, by simp only [go_sem, reduceIte, Nat.reduceEqDiff, Nat.reduceAdd, Nat.reduceSub, Nat.reduceLeDiff, Nat.reduceLT, reduceCtorEq, Int.reduceLT, Int.reduceLE, Int.reduceEq, Int.reduceBEq, Int.reduceSub, Int.reduceAdd, Int.reduceMul, Int.reduceNeg, Int.reduceToNat, Nat.reduceMul, Nat.reduceBEq, ren1_locm, loc_tips, locT_eq, hX] <;> rfl, ?_, ?_, fun x en s hq => ?_⟩
    · omega
    · omega
    · exact hq
  · have h0 : indexSAV 1 (.lst .any 1 [sl 2 n1 (A.map prAV), sl 2 n2 (B.map prAV)]) (.v (.int .i64 1)) = some (.eptr (sl 2 n2 (B.map prAV)) 0) := rfl
    have hlt : (((1 : Nat) : Int) < 2) = True := eq_true (by omega)
    have hw1 : IntKind.i64.wrap (((catT A B 1 : Nat) : Int) + (B.length : Int)) = ((catT A B 2 : Nat) : Int) := by show IntKind.i64.wrap ((A.length : Int) + (B.length : Int)) = ((A.length + B.length : Nat) : Int); rw [wrap64] <;> omega
    have hs : IntKind.i64.wrap 2 = 2 := rfl
    have hn : ((catT A B 2 : Int) < 0) = False := eq_false (by omega)
    simp only [go_sem, reduceIte, Nat.reduceEqDiff, Nat.reduceAdd, Nat.reduceSub, Nat.reduceLeDiff, Nat.reduceLT, reduceCtorEq, Int.reduceLT, Int.reduceLE, Int.reduceEq, Int.reduceBEq, Int.reduceSub, Int.reduceAdd, Int.reduceMul, Int.reduceNeg, Int.reduceToNat, Nat.reduceMul, Nat.reduceBEq, index_rsl_if, setm, make_ints, condK_dec, wantK_dec, not_dec, and_dec, or_dec, seqK_ite, seqK_none, blockK_ite, blockK_none, opsK_ite, opsK_none, stepK_ite, stepK_none, bodyK_ite, bodyK_none, resK_ite, resK_none, leaveK_ite, leaveK_none, only_ite, only_none, bind_ite, gives_some, gives_none, gives_ite, then_normal, then_ret, then_exit, then_none, then_ite, Option.bind_none, Bool.not_eq_true', decide_eq_false_iff_not, Bool.and_eq_true, Bool.or_eq_true, Option.some.injEq, Int.not_lt, Int.not_le, lp84_0, hX, h0, hlt, hw1, hs, hn, List.length_map]
    refine ⟨1 + 1, by simp only [go_sem, reduceIte, Nat.reduceEqDiff, Nat.reduceAdd, Nat.reduceSub, Nat.reduceLeDiff, Nat.reduceLT, reduceCtorEq, Int.reduceLT, Int.reduceLE, Int.reduceEq, Int.reduceBEq, Int.reduceSub, Int.reduceAdd, Int.reduceMul, Int.reduceNeg, Int.reduceToNat, Nat.reduceMul, Nat.reduceBEq, ren1_locm, loc_tips, locT_eq, hX] <;> rfl, ?_, ?_, fun x en s hq => ?_⟩
    · omega
    · omega
    · exact hq
  · have hlt : (((2 : Nat) : Int) < 2) = False := eq_false (by omega)
    simp only [go_sem, reduceIte, Nat.reduceEqDiff, Nat.reduceAdd, Nat.reduceSub, Nat.reduceLeDiff, Nat.reduceLT, reduceCtorEq, Int.reduceLT, Int.reduceLE, Int.reduceEq, Int.reduceBEq, Int.reduceSub, Int.reduceAdd, Int.reduceMul, Int.reduceNeg, Int.reduceToNat, Nat.reduceMul, Nat.reduceBEq, index_rsl_if, setm, make_ints, condK_dec, wantK_dec, not_dec, and_dec, or_dec, seqK_ite, seqK_none, blockK_ite, blockK_none, opsK_ite, opsK_none, stepK_ite, stepK_none, bodyK_ite, bodyK_none, resK_ite, resK_none, leaveK_ite, leaveK_none, only_ite, only_none, bind_ite, gives_some, gives_none, gives_ite, then_normal, then_ret, then_exit, then_none, then_ite, Option.bind_none, Bool.not_eq_true', decide_eq_false_iff_not, Bool.and_eq_true, Bool.or_eq_true, Option.some.injEq, Int.not_lt, Int.not_le, lp84_0, hlt]

theorem c97 (t : Nat) (h : 1 ≤ t) (h2 : t < 10000) : run L 97 [.v (.slice none 0 0), I t] ⟨[], []⟩ = some (.rsl 0 0 0 t 2 true, ⟨[cellsP [] t], []⟩) := by
  rw [run_shared (fn := ir97) rfl rfl]
  have p1 : ((t : Int) < 0) = False := eq_false (by omega)
  have p2 : ((0 : Int) < (t : Int)) = True := eq_true (by omega)
  have hw : IntKind.i64.wrap ((t : Int) - 0) = (t : Int) := by rw [wrap64] <;> omega
  have hg : growAV 2 true [.v (.int .i64 0), .v (.int .i64 0)] ⟨[], []⟩ (.v (.slice none 0 0)) (.v (.int .i64 (t : Int))) = some (.rsl 0 0 t t 2 true, ⟨[cellsP [] t], []⟩) := by
    have hm : t ≤ maxGrow := by unfold maxGrow; omega
    simp [growAV, makeAV, natOf, hm, show t ≠ 0 by omega, cellsP]
  have hs : sliceAV 2 (.rsl 0 0 t t 2 true) none (some (.v (.int .i64 0))) none = some (.rsl 0 0 0 t 2 true) := by
    simp [sliceAV, natOr, natOf]
  have hs0 : sliceAV 2 (.v (.slice none 0 0)) none (some (.v (.int .i64 0))) none = some (.v (.slice none 0 0)) := rfl
  have hw0 : IntKind.i64.wrap 0 = 0 := rfl
  simp only [ir97, go_sem, reduceIte, Nat.reduceEqDiff, Nat.reduceAdd, Nat.reduceSub, Nat.reduceLeDiff, Nat.reduceLT, reduceCtorEq, Int.reduceLT, Int.reduceLE, Int.reduceEq, Int.reduceBEq, Int.reduceSub, Int.reduceAdd, Int.reduceMul, Int.reduceNeg, Int.reduceToNat, Nat.reduceMul, Nat.reduceBEq, p1, p2, hw0, hw, hg, hs, hs0, capAV]
def catD (A B : List (Int × Int)) : Nat → List (Int × Int)
  | 0 => []
  | 1 => A
  | _ => A ++ B
theorem okRefsP (k : Nat) (D : List (Int × Int)) (m : Nat) : okRefs k (cellsP D m) = true := by
  have h1 : ∀ xs : List AV, (∀ v ∈ xs, ∃ y, v = .v y) → okRefs k xs = true := by
    intro xs
    induction xs with
    | nil => intro _; rfl
    | cons x r ih =>
      intro h
      obtain ⟨y, rfl⟩ := h x (by simp)
      simp only [okRefs, okRef, ih (fun v hv => h v (by simp [hv])), Bool.and_true]
  refine h1 _ fun v hv => ?_
  unfold cellsP at hv
  rcases List.mem_append.1 hv with hv | hv
  · obtain ⟨p, _, hp⟩ := List.mem_flatMap.1 hv
    unfold fP at hp
    simp at hp
    rcases hp with rfl | rfl <;> exact ⟨_, rfl⟩
  · obtain ⟨l, hl, hv⟩ := List.mem_flatten.1 hv
    rw [(List.mem_replicate.1 hl).2] at hv
    simp at hv
    exact ⟨_, hv⟩
theorem renCellsP (n : Nat) (T : List Nat) (acc : List (Nat × Nat)) (D : List (Int × Int)) (m : Nat) : renCells n T acc (cellsP D m) = (cellsP D m, acc) := by
  have h1 : ∀ xs : List AV, (∀ v ∈ xs, ∃ y, v = .v y) → ∀ acc, renCells n T acc xs = (xs, acc) := by
    intro xs
    induction xs with
    | nil => intro _ acc; rfl
    | cons x r ih =>
      intro h acc
      obtain ⟨y, rfl⟩ := h x (by simp)
      simp only [renCells, ren1, ih (fun v hv => h v (by simp [hv]))]
  refine h1 _ (fun v hv => ?_) acc
  unfold cellsP at hv
  rcases List.mem_append.1 hv with hv | hv
  · obtain ⟨p, _, hp⟩ := List.mem_flatMap.1 hv
    unfold fP at hp
    simp at hp
    rcases hp with rfl | rfl <;> exact ⟨_, rfl⟩
  · obtain ⟨l, hl, hv⟩ := List.mem_flatten.1 hv
    rw [(List.mem_replicate.1 hl).2] at hv
    simp at hv
    exact ⟨_, hv⟩

theorem loop84_1 (n1 n2 : Bool) (A B : List (Int × Int)) (c : Nat) (hc : c = A.length + B.length) (h0 : 0 < c) (i : Nat) (hok : i ≤ 2) (env : Env) (st : St)
    (hg : gcAV true 1 0 (canon env [6, 25, 26, 27]) st = ([(6, .rsl 0 0 (catD A B i).length c 2 true), (25, catX n1 n2 A B), (26, I 2), (27, I i)], ⟨[cellsP (catD A B i) (c - (catD A B i).length)], []⟩)) :
    ∃ x_1 en s, lim (headed pure (run L) true [6, 25, 26, 27] lp84_1 1 0) env st = some (x_1, en, s) ∧ (x_1 = .exit 2 ∧ en.get 6 = .rsl 0 0 c c 2 true ∧ s = ⟨[cellsP (A ++ B) 0], []⟩) := by
  refine loop_wp (α := Nat) (fun i => 2 - i) (fun i => i ≤ 2) (fun i => ([(6, .rsl 0 0 (catD A B i).length c 2 true), (25, catX n1 n2 A B), (26, I 2), (27, I i)], ⟨[cellsP (catD A B i) (c - (catD A B i).length)], []⟩)) (fun i x_1 en s => x_1 = .exit 2 ∧ en.get 6 = .rsl 0 0 c c 2 true ∧ s = ⟨[cellsP (A ++ B) 0], []⟩) (fun i hok => ?_) i hok env st hg
  have hX : catX n1 n2 A B = .lst .any 1 [sl 2 n1 (A.map prAV), sl 2 n2 (B.map prAV)] := rfl
  rcases (show i = 0 ∨ i = 1 ∨ i = 2 by omega) with rfl | rfl | rfl
  · have h1 : indexSAV 1 (.lst .any 1 [sl 2 n1 (A.map prAV), sl 2 n2 (B.map prAV)]) (.v (.int .i64 0)) = some (.eptr (sl 2 n1 (A.map prAV)) 0) := rfl
    have hs : IntKind.i64.wrap 1 = 1 := rfl
    have ha := appendP [] A B.length c (by simp; omega) h0 []
    rw [List.nil_append, show A.length + B.length = c by omega] at ha
    have e0 : catD A B 0 = [] := rfl
    have e1 : c - ([] : List (Int × Int)).length = c := by simp
    have e2 : ([] : List (Int × Int)).length = 0 := rfl
    have e3 : c - A.length = B.length := by omega
    have e4 : catD A B 1 = A := rfl
    rw [e2] at ha e1
    rw [e0, e2, e1]
    simp only [go_sem, reduceIte, Nat.reduceEqDiff, Nat.reduceAdd, Nat.reduceSub, Nat.reduceLeDiff, Nat.reduceLT, reduceCtorEq, Int.reduceLT, Int.reduceLE, Int.reduceEq, Int.reduceBEq, Int.reduceSub, Int.reduceAdd, Int.reduceMul, Int.reduceNeg, Int.reduceToNat, Nat.reduceMul, Nat.reduceBEq, index_rsl_if, setm, make_ints, condK_dec, wantK_dec, not_dec, and_dec, or_dec, seqK_ite, seqK_none, blockK_ite, blockK_none, opsK_ite, opsK_none, stepK_ite, stepK_none, bodyK_ite, bodyK_none, resK_ite, resK_none, leaveK_ite, leaveK_none, only_ite, only_none, bind_ite, gives_some, gives_none, gives_ite, then_normal, then_ret, then_exit, then_none, then_ite, Option.bind_none, Bool.not_eq_true', decide_eq_false_iff_not, Bool.and_eq_true, Bool.or_eq_true, Option.some.injEq, Int.not_lt, Int.not_le, lp84_1, hX, h1, hs, ha]
    refine ⟨0 + 1, by simp only [go_sem, reduceIte, Nat.reduceEqDiff, Nat.reduceAdd, Nat.reduceSub, Nat.reduceLeDiff, Nat.reduceLT, reduceCtorEq, Int.reduceLT, Int.reduceLE, Int.reduceEq, Int.reduceBEq, Int.reduceSub, Int.reduceAdd, Int.reduceMul, Int.reduceNeg, Int.reduceToNat, Nat.reduceMul, Nat.reduceBEq, ren1_locm, loc_tips, locT_eq, hX, okRefsP, renCellsP, e3, e4] <;> rfl, ?_, ?_, fun x en s hq => ?_⟩
    · omega
    · omega
    · exact hq
  · have h1 : indexSAV 1 (.lst .any 1 [sl 2 n1 (A.map prAV), sl 2 n2 (B.map prAV)]) (.v (.int .i64 1)) = some (.eptr (sl 2 n2 (B.map prAV)) 0) := rfl
    have hs : IntKind.i64.wrap 2 = 2 := rfl
    have ha := appendP A B 0 c (by omega) h0 []
    rw [Nat.add_zero] at ha
    have e0 : catD A B 1 = A := rfl
    have e3 : c - A.length = B.length := by omega
    have e4 : catD A B 2 = A ++ B := rfl
    have e5 : c - (A ++ B).length = 0 := by rw [List.length_append]; omega
    rw [e0, e3]
    simp only [go_sem, reduceIte, Nat.reduceEqDiff, Nat.reduceAdd, Nat.reduceSub, Nat.reduceLeDiff, Nat.reduceLT, reduceCtorEq, Int.reduceLT, Int.reduceLE, Int.reduceEq, Int.reduceBEq, Int.reduceSub, Int.reduceAdd, Int.reduceMul, Int.reduceNeg, Int.reduceToNat, Nat.reduceMul, Nat.reduceBEq, index_rsl_if, setm, make_ints, condK_dec, wantK_dec, not_dec, and_dec, or_dec, seqK_ite, seqK_none, blockK_ite, blockK_none, opsK_ite, opsK_none, stepK_ite, stepK_none, bodyK_ite, bodyK_none, resK_ite, resK_none, leaveK_ite, leaveK_none, only_ite, only_none, bind_ite, gives_some, gives_none, gives_ite, then_normal, then_ret, then_exit, then_none, then_ite, Option.bind_none, Bool.not_eq_true', decide_eq_false_iff_not, Bool.and_eq_true, Bool.or_eq_true, Option.some.injEq, Int.not_lt, Int.not_le, lp84_1, hX, h1, hs, ha]
    refine ⟨1 + 1, by simp only [go_sem, reduceIte, Nat.reduceEqDiff, Nat.reduceAdd, Nat.reduceSub, Nat.reduceLeDiff, Nat.reduceLT, reduceCtorEq, Int.reduceLT, Int.reduceLE, Int.reduceEq, Int.reduceBEq, Int.reduceSub, Int.reduceAdd, Int.reduceMul, Int.reduceNeg, Int.reduceToNat, Nat.reduceMul, Nat.reduceBEq, ren1_locm, loc_tips, locT_eq, hX, okRefsP, renCellsP, e4, e5] <;> rfl, ?_, ?_, fun x en s hq => ?_⟩
    · omega
    · omega
    · exact hq
  · have hlt : (((2 : Nat) : Int) < 2) = False := eq_false (by omega)
    have e4 : catD A B 2 = A ++ B := rfl
    have e5 : (A ++ B).length = c := by rw [List.length_append]; omega
    rw [e4, e5, Nat.sub_self]
    simp only [go_sem, reduceIte, Nat.reduceEqDiff, Nat.reduceAdd, Nat.reduceSub, Nat.reduceLeDiff, Nat.reduceLT, reduceCtorEq, Int.reduceLT, Int.reduceLE, Int.reduceEq, Int.reduceBEq, Int.reduceSub, Int.reduceAdd, Int.reduceMul, Int.reduceNeg, Int.reduceToNat, Nat.reduceMul, Nat.reduceBEq, index_rsl_if, setm, make_ints, condK_dec, wantK_dec, not_dec, and_dec, or_dec, seqK_ite, seqK_none, blockK_ite, blockK_none, opsK_ite, opsK_none, stepK_ite, stepK_none, bodyK_ite, bodyK_none, resK_ite, resK_none, leaveK_ite, leaveK_none, only_ite, only_none, bind_ite, gives_some, gives_none, gives_ite, then_normal, then_ret, then_exit, then_none, then_ite, Option.bind_none, Bool.not_eq_true', decide_eq_false_iff_not, Bool.and_eq_true, Bool.or_eq_true, Option.some.injEq, Int.not_lt, Int.not_le, lp84_1, hlt]

theorem c97n : run L 97 [.v (.slice none 0 0), I 0] ⟨[], []⟩ = some (.v (.slice none 0 0), ⟨[], []⟩) := by
  rw [run_shared (fn := ir97) rfl rfl]
  have hw0 : IntKind.i64.wrap 0 = 0 := rfl
  simp only [ir97, go_sem, reduceIte, Nat.reduceEqDiff, Nat.reduceAdd, Nat.reduceSub, Nat.reduceLeDiff, Nat.reduceLT, reduceCtorEq, Int.reduceLT, Int.reduceLE, Int.reduceEq, Int.reduceBEq, Int.reduceSub, Int.reduceAdd, Int.reduceMul, Int.reduceNeg, Int.reduceToNat, Nat.reduceMul, Nat.reduceBEq, hw0, capAV]

theorem loop84_1n (n1 n2 : Bool) (i : Nat) (hok : i ≤ 2) (env : Env) (st : St)
    (hg : gcAV true 0 0 (canon env [6, 25, 26, 27]) st = ([(6, .v (.slice none 0 0)), (25, catX n1 n2 [] []), (26, I 2), (27, I i)], ⟨[], []⟩)) :
    ∃ x_1 en s, lim (headed pure (run L) true [6, 25, 26, 27] lp84_1 0 0) env st = some (x_1, en, s) ∧ (x_1 = .exit 2 ∧ en.get 6 = .v (.slice none 0 0)) := by
  refine loop_wp (α := Nat) (fun i => 2 - i) (fun i => i ≤ 2) (fun i => ([(6, .v (.slice none 0 0)), (25, catX n1 n2 [] []), (26, I 2), (27, I i)], ⟨[], []⟩)) (fun i x_1 en s => x_1 = .exit 2 ∧ en.get 6 = .v (.slice none 0 0)) (fun i hok => ?_) i hok env st hg
  have hX : catX n1 n2 [] [] = .lst .any 1 [sl 2 n1 [], sl 2 n2 []] := rfl
  have ha : appendmAV 2 true (.v (.slice none 0 0)) [] ⟨[], []⟩ = some (.v (.slice none 0 0), ⟨[], []⟩) := rfl
  rcases (show i = 0 ∨ i = 1 ∨ i = 2 by omega) with rfl | rfl | rfl
  · have h1 : indexSAV 1 (.lst .any 1 [sl 2 n1 [], sl 2 n2 []]) (.v (.int .i64 0)) = some (.eptr (sl 2 n1 []) 0) := rfl
    have hs : IntKind.i64.wrap 1 = 1 := rfl
    simp only [go_sem, reduceIte, Nat.reduceEqDiff, Nat.reduceAdd, Nat.reduceSub, Nat.reduceLeDiff, Nat.reduceLT, reduceCtorEq, Int.reduceLT, Int.reduceLE, Int.reduceEq, Int.reduceBEq, Int.reduceSub, Int.reduceAdd, Int.reduceMul, Int.reduceNeg, Int.reduceToNat, Nat.reduceMul, Nat.reduceBEq, index_rsl_if, setm, make_ints, condK_dec, wantK_dec, not_dec, and_dec, or_dec, seqK_ite, seqK_none, blockK_ite, blockK_none, opsK_ite, opsK_none, stepK_ite, stepK_none, bodyK_ite, bodyK_none, resK_ite, resK_none, leaveK_ite, leaveK_none, only_ite, only_none, bind_ite, gives_some, gives_none, gives_ite, then_normal, then_ret, then_exit, then_none, then_ite, Option.bind_none, Bool.not_eq_true', decide_eq_false_iff_not, Bool.and_eq_true, Bool.or_eq_true, Option.some.injEq, Int.not_lt, Int.not_le, lp84_1, hX, h1, hs, ha]
    refine ⟨0 + 1, by simp only [go_sem, reduceIte, Nat.reduceEqDiff, Nat.reduceAdd, Nat.reduceSub, Nat.reduceLeDiff, Nat.reduceLT, reduceCtorEq, Int.reduceLT, Int.reduceLE, Int.reduceEq, Int.reduceBEq, Int.reduceSub, Int.reduceAdd, Int.reduceMul, Int.reduceNeg, Int.reduceToNat, Nat.reduceMul, Nat.reduceBEq, ren1_locm, loc_tips, locT_eq, hX] <;> rfl, ?_, ?_, fun x en s hq => ?_⟩
    · omega
    · omega
    · exact hq
  · have h1 : indexSAV 1 (.lst .any 1 [sl 2 n1 [], sl 2 n2 []]) (.v (.int .i64 1)) = some (.eptr (sl 2 n2 []) 0) := rfl
    have hs : IntKind.i64.wrap 2 = 2 := rfl
    simp only [go_sem, reduceIte, Nat.reduceEqDiff, Nat.reduceAdd, Nat.reduceSub, Nat.reduceLeDiff, Nat.reduceLT, reduceCtorEq, Int.reduceLT, Int.reduceLE, Int.reduceEq, Int.reduceBEq, Int.reduceSub, Int.reduceAdd, Int.reduceMul, Int.reduceNeg, Int.reduceToNat, Nat.reduceMul, Nat.reduceBEq, index_rsl_if, setm, make_ints, condK_dec, wantK_dec, not_dec, and_dec, or_dec, seqK_ite, seqK_none, blockK_ite, blockK_none, opsK_ite, opsK_none, stepK_ite, stepK_none, bodyK_ite, bodyK_none, resK_ite, resK_none, leaveK_ite, leaveK_none, only_ite, only_none, bind_ite, gives_some, gives_none, gives_ite, then_normal, then_ret, then_exit, then_none, then_ite, Option.bind_none, Bool.not_eq_true', decide_eq_false_iff_not, Bool.and_eq_true, Bool.or_eq_true, Option.some.injEq, Int.not_lt, Int.not_le, lp84_1, hX, h1, hs, ha]
    refine ⟨1 + 1, by simp only [go_sem, reduceIte, Nat.reduceEqDiff, Nat.reduceAdd, Nat.reduceSub, Nat.reduceLeDiff, Nat.reduceLT, reduceCtorEq, Int.reduceLT, Int.reduceLE, Int.reduceEq, Int.reduceBEq, Int.reduceSub, Int.reduceAdd, Int.reduceMul, Int.reduceNeg, Int.reduceToNat, Nat.reduceMul, Nat.reduceBEq, ren1_locm, loc_tips, locT_eq, hX] <;> rfl, ?_, ?_, fun x en s hq => ?_⟩
    · omega
    · omega
    · exact hq
  · have hlt : (((2 : Nat) : Int) < 2) = False := eq_false (by omega)
    simp only [go_sem, reduceIte, Nat.reduceEqDiff, Nat.reduceAdd, Nat.reduceSub, Nat.reduceLeDiff, Nat.reduceLT, reduceCtorEq, Int.reduceLT, Int.reduceLE, Int.reduceEq, Int.reduceBEq, Int.reduceSub, Int.reduceAdd, Int.reduceMul, Int.reduceNeg, Int.reduceToNat, Nat.reduceMul, Nat.reduceBEq, index_rsl_if, setm, make_ints, condK_dec, wantK_dec, not_dec, and_dec, or_dec, seqK_ite, seqK_none, blockK_ite, blockK_none, opsK_ite, opsK_none, stepK_ite, stepK_none, bodyK_ite, bodyK_none, resK_ite, resK_none, leaveK_ite, leaveK_none, only_ite, only_none, bind_ite, gives_some, gives_none, gives_ite, then_normal, then_ret, then_exit, then_none, then_ite, Option.bind_none, Bool.not_eq_true', decide_eq_false_iff_not, Bool.and_eq_true, Bool.or_eq_true, Option.some.injEq, Int.not_lt, Int.not_le, lp84_1, hlt]

theorem fin_cat (A : List (Int × Int)) (h : A ≠ []) : frzV 0 (cellsP A 0) (.rsl 0 0 A.length A.length 2 true) = sl 2 true (A.map prAV) := by
  have hl := cellsP_len A 0
  have hc : cellsP A 0 = A.flatMap fP := by unfold cellsP; simp
  have hp : ∀ A : List (Int × Int), pubs (A.flatMap fP) = A.flatMap fP := by
    intro A
    induction A with
    | nil => rfl
    | cons p r ih =>
      rw [List.flatMap_cons]
      unfold fP at *
      simp only [List.cons_append, List.nil_append, pubs, pub, ih]
  simp only [frzV]
  rw [if_pos ⟨trivial, by omega, .inl trivial, Nat.le_refl _⟩, List.drop_zero, hc, hp, groupm_agg fP 2 (fun _ => rfl), sl_ne (by simpa using h)]
  rfl
theorem c84 (n1 n2 : Bool) (A B : List (Int × Int)) (hA : A.length < 1000) (hB : B.length < 1000) (st : St) : run L 84 [catX n1 n2 A B] st = some (sl 2 true ((A ++ B).map prAV), st) := by
  rw [run_pure (fn := ir84) rfl rfl]
  have hX : catX n1 n2 A B = .lst .any 1 [sl 2 n1 (A.map prAV), sl 2 n2 (B.map prAV)] := rfl
  simp only [ir84, go_sem, reduceIte, Nat.reduceEqDiff, Nat.reduceAdd, Nat.reduceSub, Nat.reduceLeDiff, Nat.reduceLT, reduceCtorEq, Int.reduceLT, Int.reduceLE, Int.reduceEq, Int.reduceBEq, Int.reduceSub, Int.reduceAdd, Int.reduceMul, Int.reduceNeg, Int.reduceToNat, Nat.reduceMul, Nat.reduceBEq, hX]
  generalize hg : lim (headed pure (run L) true _ lp84_0 _ _) _ _ = o
  obtain ⟨x, en, s, rfl, h2⟩ : ∃ x en s, o = some (x, en, s) ∧ _ := by rw [← hg]; exact loop84_0 n1 n2 A B hA hB 0 (by omega) _ _ (by simp only [go_sem, reduceIte, Nat.reduceEqDiff, Nat.reduceAdd, Nat.reduceSub, Nat.reduceLeDiff, Nat.reduceLT, reduceCtorEq, Int.reduceLT, Int.reduceLE, Int.reduceEq, Int.reduceBEq, Int.reduceSub, Int.reduceAdd, Int.reduceMul, Int.reduceNeg, Int.reduceToNat, Nat.reduceMul, Nat.reduceBEq, hX, show catT A B 0 = 0 from rfl, Int.natCast_zero] <;> rfl)
  clear hg
  obtain ⟨rfl, e0, e3, rfl⟩ := h2
  have hct : catT A B 2 = A.length + B.length := rfl
  rw [hct] at e3
  rw [hX] at e0
  by_cases h : A.length + B.length = 0
  · have hA0 : A = [] := List.eq_nil_of_length_eq_zero (by omega)
    have hB0 : B = [] := List.eq_nil_of_length_eq_zero (by omega)
    subst hA0; subst hB0
    have e3' : en.get 3 = I 0 := e3
    have h97 := c97n
    simp only [List.map_nil] at e0
    simp only [go_sem, reduceIte, Nat.reduceEqDiff, Nat.reduceAdd, Nat.reduceSub, Nat.reduceLeDiff, Nat.reduceLT, reduceCtorEq, Int.reduceLT, Int.reduceLE, Int.reduceEq, Int.reduceBEq, Int.reduceSub, Int.reduceAdd, Int.reduceMul, Int.reduceNeg, Int.reduceToNat, Nat.reduceMul, Nat.reduceBEq, e0, e3', h97, shV, shStore, show pure 97 = false from rfl]
    generalize hg : lim (headed pure (run L) true _ lp84_1 _ _) _ _ = o
    obtain ⟨x, en, s, rfl, h2⟩ : ∃ x en s, o = some (x, en, s) ∧ _ := by rw [← hg]; exact loop84_1n n1 n2 0 (by omega) _ _ (by simp only [go_sem, reduceIte, Nat.reduceEqDiff, Nat.reduceAdd, Nat.reduceSub, Nat.reduceLeDiff, Nat.reduceLT, reduceCtorEq, Int.reduceLT, Int.reduceLE, Int.reduceEq, Int.reduceBEq, Int.reduceSub, Int.reduceAdd, Int.reduceMul, Int.reduceNeg, Int.reduceToNat, Nat.reduceMul, Nat.reduceBEq, show catX n1 n2 [] [] = .lst .any 1 [sl 2 n1 [], sl 2 n2 []] from rfl, e0, e3', Int.natCast_zero] <;> rfl)
    clear hg
    obtain ⟨rfl, e6⟩ := h2
    simp only [go_sem, reduceIte, Nat.reduceEqDiff, Nat.reduceAdd, Nat.reduceSub, Nat.reduceLeDiff, Nat.reduceLT, reduceCtorEq, Int.reduceLT, Int.reduceLE, Int.reduceEq, Int.reduceBEq, Int.reduceSub, Int.reduceAdd, Int.reduceMul, Int.reduceNeg, Int.reduceToNat, Nat.reduceMul, Nat.reduceBEq, e6, code_frz, frzAV, frzT, frzLs, rslsOf, frzEnv, frzEnv_get, frzV_v, frzV_ptr, frzV_sl]
    rfl
  · have h97 := c97 (A.length + B.length) (by omega) (by omega)
    have hcz : shVs 0 (cellsP [] (A.length + B.length)) = cellsP [] (A.length + B.length) := by
      have h1 : ∀ k, shVs 0 (List.replicate k [I 0, I 0]).flatten = (List.replicate k [I 0, I 0]).flatten := by
        intro k
        induction k with
        | zero => rfl
        | succ k ih => rw [List.replicate_succ, List.flatten_cons]; simp only [List.cons_append, List.nil_append, shVs, shV, ih]
      unfold cellsP
      simp only [List.flatMap_nil, List.nil_append, h1]
    have hfz : ∀ env, frzL 0 env ⟨[cellsP (A ++ B) 0], []⟩ = (frzEnv 0 (cellsP (A ++ B) 0) env, ⟨[[]], []⟩) := fun env => by
      have hl := cellsP_len (A ++ B) 0
      rw [List.length_append] at hl
      unfold frzL
      simp only [List.getElem?_cons_zero]
      cases hc : cellsP (A ++ B) 0 with
      | nil => rw [hc] at hl; simp at hl; omega
      | cons x r => rfl
    have hfv := fin_cat (A ++ B) (by intro e; apply h; rw [← List.length_append, e]; rfl)
    rw [List.length_append] at hfv
    simp only [go_sem, reduceIte, Nat.reduceEqDiff, Nat.reduceAdd, Nat.reduceSub, Nat.reduceLeDiff, Nat.reduceLT, reduceCtorEq, Int.reduceLT, Int.reduceLE, Int.reduceEq, Int.reduceBEq, Int.reduceSub, Int.reduceAdd, Int.reduceMul, Int.reduceNeg, Int.reduceToNat, Nat.reduceMul, Nat.reduceBEq, e0, e3, h97, shV, shStore, hcz, show pure 97 = false from rfl]
    generalize hg : lim (headed pure (run L) true _ lp84_1 _ _) _ _ = o
    obtain ⟨x, en, s, rfl, h2⟩ : ∃ x en s, o = some (x, en, s) ∧ _ := by rw [← hg]; exact loop84_1 n1 n2 A B (A.length + B.length) rfl (by omega) 0 (by omega) _ _ (by simp only [go_sem, reduceIte, Nat.reduceEqDiff, Nat.reduceAdd, Nat.reduceSub, Nat.reduceLeDiff, Nat.reduceLT, reduceCtorEq, Int.reduceLT, Int.reduceLE, Int.reduceEq, Int.reduceBEq, Int.reduceSub, Int.reduceAdd, Int.reduceMul, Int.reduceNeg, Int.reduceToNat, Nat.reduceMul, Nat.reduceBEq, hX, show catD A B 0 = [] from rfl, okRefsP, renCellsP, Nat.sub_zero, e0, e3] <;> rfl)
    clear hg
    obtain ⟨rfl, e6, rfl⟩ := h2
    simp only [go_sem, reduceIte, Nat.reduceEqDiff, Nat.reduceAdd, Nat.reduceSub, Nat.reduceLeDiff, Nat.reduceLT, reduceCtorEq, Int.reduceLT, Int.reduceLE, Int.reduceEq, Int.reduceBEq, Int.reduceSub, Int.reduceAdd, Int.reduceMul, Int.reduceNeg, Int.reduceToNat, Nat.reduceMul, Nat.reduceBEq, e6, code_frz, frzAV, frzT, frzLs, rslsOf, hfz, frzEnv, frzEnv_get, frzV_v, frzV_ptr, frzV_sl, hfv]

attribute [local go_sem] shaped_t cells_t isAgg_t storable_t okRef_t pub_t

/-! ### a book without a reference -/
def cutP (ps : List (Int × Int)) (k : Nat) : List (Int × Int) := ps.take k ++ ps.drop (k + 1)
def woN (n : Int) (ps : List (Int × Int)) (r : Int) : Int := if chk n ps = 0 then if r < 0 ∨ (ps.length : Int) ≤ r then 0 else n else 0
def woP (n : Int) (ps : List (Int × Int)) (r : Int) : List (Int × Int) := if chk n ps = 0 then if r < 0 ∨ (ps.length : Int) ≤ r then [] else cutP ps r.toNat else []
theorem c42 (nl : Bool) (n : Int) (ps : List (Int × Int)) (r : Int) (st : St) : run L 42 [bkAV nl n ps, I r] st = some (.tup [bkAV true (woN n ps r) (woP n ps r), I (thrE n ps r)], st) := by
  rw [run_pure (fn := ir42) rfl rfl]
  have h24 := fun st => c24 nl n ps st
  unfold thrE woN woP
  by_cases h : chk n ps = 0
  · obtain ⟨h1, hl16, h3, h4, h5⟩ := chk_zero h
    rw [if_pos h, if_pos h, if_pos h]
    by_cases p1 : r < 0
    · simp only [if_pos (Or.inl p1 : r < 0 ∨ (ps.length : Int) ≤ r)]
      simp only [ir42, go_sem, reduceIte, Nat.reduceEqDiff, Nat.reduceAdd, Nat.reduceSub, Nat.reduceLeDiff, Nat.reduceLT, reduceCtorEq, Int.reduceLT, Int.reduceLE, Int.reduceEq, Int.reduceBEq, Int.reduceSub, Int.reduceAdd, Int.reduceMul, Int.reduceNeg, Int.reduceToNat, Nat.reduceMul, Nat.reduceBEq, h24, h, p1, List.length_map]
      rfl
    · by_cases p2 : (ps.length : Int) ≤ r
      · simp only [if_pos (Or.inr p2 : r < 0 ∨ (ps.length : Int) ≤ r)]
        simp only [ir42, go_sem, reduceIte, Nat.reduceEqDiff, Nat.reduceAdd, Nat.reduceSub, Nat.reduceLeDiff, Nat.reduceLT, reduceCtorEq, Int.reduceLT, Int.reduceLE, Int.reduceEq, Int.reduceBEq, Int.reduceSub, Int.reduceAdd, Int.reduceMul, Int.reduceNeg, Int.reduceToNat, Nat.reduceMul, Nat.reduceBEq, h24, h, p1, p2, List.length_map]
        rfl
      · obtain ⟨k, rfl⟩ := Int.eq_ofNat_of_zero_le (show 0 ≤ r by omega)
        simp only [if_neg (show ¬((k : Int) < 0 ∨ (ps.length : Int) ≤ (k : Int)) by omega), Int.toNat_natCast]
        have hk : k < ps.length := by omega
        have hne : ps ≠ [] := by intro e; rw [e] at hk; simp at hk
        have hw := succ64 k (by omega)
        have hs1 : sliceAV 2 (sl 2 nl (ps.map prAV)) none (some (.v (.int .i64 (k : Int)))) none = some (sl 2 false ((ps.take k).map prAV)) := by
          rw [sl_ne (by simpa using hne), ← sl_false]
          have h9 : k ≤ ps.length := by omega
          simp [sliceAV, natOr, natOf, tagSlice, h9, List.map_take]
        have hs2 : sliceAV 2 (sl 2 nl (ps.map prAV)) (some (.v (.int .i64 ((k + 1 : Nat) : Int)))) none none = some (sl 2 false ((ps.drop (k + 1)).map prAV)) := by
          rw [sl_ne (by simpa using hne), ← sl_false]
          have h9 : k + 1 ≤ ps.length := by omega
          have h10 : ((k : Int) + 1).toNat = k + 1 := by omega
          have h11 : (0 : Int) ≤ (k : Int) + 1 := by omega
          simp [sliceAV, natOr, natOf, tagSlice, h9, h10, h11, List.map_drop, List.take_of_length_le]
        have h84 : ∀ st, run L 84 [.lst .full 1 [sl 2 false ((ps.take k).map prAV), sl 2 false ((ps.drop (k + 1)).map prAV)]] st = some (sl 2 true ((cutP ps k).map prAV), st) := fun st => by
          have h9 := c84 false false (ps.take k) (ps.drop (k + 1)) (by rw [List.length_take]; omega) (by rw [List.length_drop]; omega) st
          unfold cutP
          rw [← h9]
          exact run_args (fn := ir84) rfl rfl st rfl
        simp only [ir42, go_sem, reduceIte, Nat.reduceEqDiff, Nat.reduceAdd, Nat.reduceSub, Nat.reduceLeDiff, Nat.reduceLT, reduceCtorEq, Int.reduceLT, Int.reduceLE, Int.reduceEq, Int.reduceBEq, Int.reduceSub, Int.reduceAdd, Int.reduceMul, Int.reduceNeg, Int.reduceToNat, Nat.reduceMul, Nat.reduceBEq, h24, h, p1, p2, hw, hs1, hs2, h84, List.length_map]
  · rw [if_neg h, if_neg h, if_neg h]
    simp only [ir42, go_sem, reduceIte, Nat.reduceEqDiff, Nat.reduceAdd, Nat.reduceSub, Nat.reduceLeDiff, Nat.reduceLT, reduceCtorEq, Int.reduceLT, Int.reduceLE, Int.reduceEq, Int.reduceBEq, Int.reduceSub, Int.reduceAdd, Int.reduceMul, Int.reduceNeg, Int.reduceToNat, Nat.reduceMul, Nat.reduceBEq, h24, h, List.length_map]
    rfl

/-! ### whether two lists of references are equal -/
theorem loop44_0 (n1 n2 : Bool) (xs ys : List (Int × Int)) (hl : xs.length = ys.length) (hlen : xs.length < 1000000) (i : Nat) (hok : i ≤ xs.length) (env : Env) (st : St)
    (hg : gcAV true 0 0 (canon env [0, 1, 5]) st = ([(0, sl 2 n1 (xs.map prAV)), (1, sl 2 n2 (ys.map prAV)), (5, I i)], ⟨[], []⟩)) :
    ∃ x_1 en s, lim (headed pure (run L) true [0, 1, 5] lp44_0 0 0) env st = some (x_1, en, s) ∧ (if xs.drop i = ys.drop i then x_1 = .exit 0 else x_1 = .ret ∧ en.get 4 = B false) := by
  refine loop_wp (α := Nat) (fun i => xs.length - i) (fun i => i ≤ xs.length) (fun i => ([(0, sl 2 n1 (xs.map prAV)), (1, sl 2 n2 (ys.map prAV)), (5, I i)], ⟨[], []⟩)) (fun i x_1 en s => if xs.drop i = ys.drop i then x_1 = .exit 0 else x_1 = .ret ∧ en.get 4 = B false) (fun i hok => ?_) i hok env st hg
  by_cases h : i < xs.length
  · have hx := index_prs n1 xs i h
    have hy := index_prs n2 ys i (by omega)
    have hs := succ64 i (by omega)
    have hlt : ((i : Int) < (xs.length : Int)) = True := eq_true (by omega)
    have hd : xs.drop i = xs[i] :: xs.drop (i + 1) := List.drop_eq_getElem_cons h
    have hd2 : ys.drop i = ys[i]'(by omega) :: ys.drop (i + 1) := List.drop_eq_getElem_cons (by omega)
    rw [hd, hd2]
    generalize xs[i] = a at *
    generalize ys[i]'(by omega) = b at *
    obtain ⟨a1, a2⟩ := a
    obtain ⟨b1, b2⟩ := b
    simp only at hx hy
    by_cases p : a1 = b1 ∧ a2 = b2
    · obtain ⟨rfl, rfl⟩ := p
      have e : ((a1, a2) :: xs.drop (i + 1) = (a1, a2) :: ys.drop (i + 1)) = (xs.drop (i + 1) = ys.drop (i + 1)) := propext (by simp)
      simp only [e]
      simp only [go_sem, reduceIte, Nat.reduceEqDiff, Nat.reduceAdd, Nat.reduceSub, Nat.reduceLeDiff, Nat.reduceLT, reduceCtorEq, Int.reduceLT, Int.reduceLE, Int.reduceEq, Int.reduceBEq, Int.reduceSub, Int.reduceAdd, Int.reduceMul, Int.reduceNeg, Int.reduceToNat, Nat.reduceMul, Nat.reduceBEq, index_rsl_if, setm, make_ints, condK_dec, wantK_dec, not_dec, and_dec, or_dec, seqK_ite, seqK_none, blockK_ite, blockK_none, opsK_ite, opsK_none, stepK_ite, stepK_none, bodyK_ite, bodyK_none, resK_ite, resK_none, leaveK_ite, leaveK_none, only_ite, only_none, bind_ite, gives_some, gives_none, gives_ite, then_normal, then_ret, then_exit, then_none, then_ite, Option.bind_none, Bool.not_eq_true', decide_eq_false_iff_not, Bool.and_eq_true, Bool.or_eq_true, Option.some.injEq, Int.not_lt, Int.not_le, lp44_0, hx, hy, hlt, hs, List.length_map]
      refine ⟨i + 1, by simp only [go_sem, reduceIte, Nat.reduceEqDiff, Nat.reduceAdd, Nat.reduceSub, Nat.reduceLeDiff, Nat.reduceLT, reduceCtorEq, Int.reduceLT, Int.reduceLE, Int.reduceEq, Int.reduceBEq, Int.reduceSub, Int.reduceAdd, Int.reduceMul, Int.reduceNeg, Int.reduceToNat, Nat.reduceMul, Nat.reduceBEq, ren1_locm, loc_tips, locT_eq] <;> rfl, ?_, ?_, fun x en s hq => ?_⟩
      · omega
      · omega
      · exact hq
    · have e : ¬ ((a1, a2) :: xs.drop (i + 1) = (b1, b2) :: ys.drop (i + 1)) := fun hh => p (by simp at hh; exact hh.1)
      simp only [if_neg e]
      have hpb : (decide (a1 = b1) && decide (a2 = b2)) = false := by
        cases hh : (decide (a1 = b1) && decide (a2 = b2))
        · rfl
        · rw [Bool.and_eq_true, decide_eq_true_iff, decide_eq_true_iff] at hh; exact absurd hh p
      by_cases p1 : a1 = b1
      · have p2 : (a2 = b2) = False := eq_false (fun h2 => p ⟨p1, h2⟩)
        simp only [go_sem, reduceIte, Nat.reduceEqDiff, Nat.reduceAdd, Nat.reduceSub, Nat.reduceLeDiff, Nat.reduceLT, reduceCtorEq, Int.reduceLT, Int.reduceLE, Int.reduceEq, Int.reduceBEq, Int.reduceSub, Int.reduceAdd, Int.reduceMul, Int.reduceNeg, Int.reduceToNat, Nat.reduceMul, Nat.reduceBEq, index_rsl_if, setm, make_ints, condK_dec, wantK_dec, not_dec, and_dec, or_dec, seqK_ite, seqK_none, blockK_ite, blockK_none, opsK_ite, opsK_none, stepK_ite, stepK_none, bodyK_ite, bodyK_none, resK_ite, resK_none, leaveK_ite, leaveK_none, only_ite, only_none, bind_ite, gives_some, gives_none, gives_ite, then_normal, then_ret, then_exit, then_none, then_ite, Option.bind_none, Bool.not_eq_true', decide_eq_false_iff_not, Bool.and_eq_true, Bool.or_eq_true, Option.some.injEq, Int.not_lt, Int.not_le, lp44_0, hx, hy, hlt, p1, p2, List.length_map]
      · simp only [go_sem, reduceIte, Nat.reduceEqDiff, Nat.reduceAdd, Nat.reduceSub, Nat.reduceLeDiff, Nat.reduceLT, reduceCtorEq, Int.reduceLT, Int.reduceLE, Int.reduceEq, Int.reduceBEq, Int.reduceSub, Int.reduceAdd, Int.reduceMul, Int.reduceNeg, Int.reduceToNat, Nat.reduceMul, Nat.reduceBEq, index_rsl_if, setm, make_ints, condK_dec, wantK_dec, not_dec, and_dec, or_dec, seqK_ite, seqK_none, blockK_ite, blockK_none, opsK_ite, opsK_none, stepK_ite, stepK_none, bodyK_ite, bodyK_none, resK_ite, resK_none, leaveK_ite, leaveK_none, only_ite, only_none, bind_ite, gives_some, gives_none, gives_ite, then_normal, then_ret, then_exit, then_none, then_ite, Option.bind_none, Bool.not_eq_true', decide_eq_false_iff_not, Bool.and_eq_true, Bool.or_eq_true, Option.some.injEq, Int.not_lt, Int.not_le, lp44_0, hx, hy, hlt, p1, List.length_map]
  · have hd : xs.drop i = [] := List.drop_eq_nil_of_le (by omega)
    have hd2 : ys.drop i = [] := List.drop_eq_nil_of_le (by omega)
    have hlt : ((i : Int) < (xs.length : Int)) = False := eq_false (by omega)
    rw [hd, hd2]
    simp only [go_sem, reduceIte, Nat.reduceEqDiff, Nat.reduceAdd, Nat.reduceSub, Nat.reduceLeDiff, Nat.reduceLT, reduceCtorEq, Int.reduceLT, Int.reduceLE, Int.reduceEq, Int.reduceBEq, Int.reduceSub, Int.reduceAdd, Int.reduceMul, Int.reduceNeg, Int.reduceToNat, Nat.reduceMul, Nat.reduceBEq, index_rsl_if, setm, make_ints, condK_dec, wantK_dec, not_dec, and_dec, or_dec, seqK_ite, seqK_none, blockK_ite, blockK_none, opsK_ite, opsK_none, stepK_ite, stepK_none, bodyK_ite, bodyK_none, resK_ite, resK_none, leaveK_ite, leaveK_none, only_ite, only_none, bind_ite, gives_some, gives_none, gives_ite, then_normal, then_ret, then_exit, then_none, then_ite, Option.bind_none, Bool.not_eq_true', decide_eq_false_iff_not, Bool.and_eq_true, Bool.or_eq_true, Option.some.injEq, Int.not_lt, Int.not_le, lp44_0, hlt, List.length_map]

theorem c44 (n1 n2 : Bool) (xs ys : List (Int × Int)) (hlen : xs.length < 1000000) (st : St) : run L 44 [sl 2 n1 (xs.map prAV), sl 2 n2 (ys.map prAV)] st = some (B (decide (xs = ys)), st) := by
  rw [run_pure (fn := ir44) rfl rfl]
  by_cases hl : xs.length = ys.length
  · simp only [ir44, go_sem, reduceIte, Nat.reduceEqDiff, Nat.reduceAdd, Nat.reduceSub, Nat.reduceLeDiff, Nat.reduceLT, reduceCtorEq, Int.reduceLT, Int.reduceLE, Int.reduceEq, Int.reduceBEq, Int.reduceSub, Int.reduceAdd, Int.reduceMul, Int.reduceNeg, Int.reduceToNat, Nat.reduceMul, Nat.reduceBEq, List.length_map, hl]
    generalize hg : lim (headed pure (run L) true _ lp44_0 _ _) _ _ = o
    obtain ⟨x, en, s, rfl, h2⟩ : ∃ x en s, o = some (x, en, s) ∧ _ := by rw [← hg]; exact loop44_0 n1 n2 xs ys hl hlen 0 (by omega) _ _ (by simp only [go_sem, reduceIte, Nat.reduceEqDiff, Nat.reduceAdd, Nat.reduceSub, Nat.reduceLeDiff, Nat.reduceLT, reduceCtorEq, Int.reduceLT, Int.reduceLE, Int.reduceEq, Int.reduceBEq, Int.reduceSub, Int.reduceAdd, Int.reduceMul, Int.reduceNeg, Int.reduceToNat, Nat.reduceMul, Nat.reduceBEq] <;> rfl)
    clear hg
    simp only [List.drop_zero] at h2
    by_cases h : xs = ys
    · rw [if_pos h] at h2
      subst h2
      simp only [go_sem, reduceIte, Nat.reduceEqDiff, Nat.reduceAdd, Nat.reduceSub, Nat.reduceLeDiff, Nat.reduceLT, reduceCtorEq, Int.reduceLT, Int.reduceLE, Int.reduceEq, Int.reduceBEq, Int.reduceSub, Int.reduceAdd, Int.reduceMul, Int.reduceNeg, Int.reduceToNat, Nat.reduceMul, Nat.reduceBEq, h]
    · rw [if_neg h] at h2
      obtain ⟨rfl, h3⟩ := h2
      simp only [go_sem, reduceIte, Nat.reduceEqDiff, Nat.reduceAdd, Nat.reduceSub, Nat.reduceLeDiff, Nat.reduceLT, reduceCtorEq, Int.reduceLT, Int.reduceLE, Int.reduceEq, Int.reduceBEq, Int.reduceSub, Int.reduceAdd, Int.reduceMul, Int.reduceNeg, Int.reduceToNat, Nat.reduceMul, Nat.reduceBEq, h3, h]
  · have hl2 : ((xs.length : Int) = (ys.length : Int)) = False := eq_false (by omega)
    have hne : ¬ xs = ys := fun h => hl (by rw [h])
    simp only [ir44, go_sem, reduceIte, Nat.reduceEqDiff, Nat.reduceAdd, Nat.reduceSub, Nat.reduceLeDiff, Nat.reduceLT, reduceCtorEq, Int.reduceLT, Int.reduceLE, Int.reduceEq, Int.reduceBEq, Int.reduceSub, Int.reduceAdd, Int.reduceMul, Int.reduceNeg, Int.reduceToNat, Nat.reduceMul, Nat.reduceBEq, List.length_map, hl2, hne]

attribute [local go_sem] shaped_t cells_t isAgg_t storable_t okRef_t pub_t

/-! ### the reference's ways -/
/-- A list of circles, as a value. -/
def LA (X : List (List Nat)) : AV := sl 1 true (X.map oA)
theorem len_LA (X : List (List Nat)) : lenAV (LA X) = some (I X.length) := by unfold LA; rw [len_sl, List.length_map]
theorem index_LA (X : List (List Nat)) (i : Nat) (h : i < X.length) : indexSAV 1 (LA X) (.v (.int .i64 (i : Int))) = some (.eptr (oA X[i]) 0) := by
  unfold LA
  rw [index_sl _ _ _ _ _ (by omega) (by simpa using h)]
  simp
theorem ren1_LA (n : Nat) (T : List Nat) (acc : List (Nat × Nat)) (X : List (List Nat)) : ren1 n T acc (LA X) = (LA X, acc) := ren1_sl _ _ _ _ _ _
theorem okRef_LA (n : Nat) (X : List (List Nat)) : okRef n (LA X) = true := okRef_sl _ _ _ _

attribute [local go_sem] shaped_t cells_t isAgg_t storable_t okRef_t pub_t

/-! ### circles come in ascending order -/
theorem lex_app (s t : List Nat) : ∀ c : List Nat, lexLt (up (c ++ s)) (up (c ++ t)) = lexLt (up s) (up t)
  | [] => rfl
  | x :: r => by
    have := lex_app s t r
    have e0 : lexLt (up (x :: r ++ s)) (up (x :: r ++ t)) = lexLt ((x : Int) :: up (r ++ s)) ((x : Int) :: up (r ++ t)) := rfl
    rw [e0]
    have e : lexLt ((x : Int) :: up (r ++ s)) ((x : Int) :: up (r ++ t)) = (decide ((x : Int) < x) || (decide ((x : Int) = x) && lexLt (up (r ++ s)) (up (r ++ t)))) := rfl
    rw [e, this]; simp
theorem rg_pre (w : List Nat) : ∀ (k : Nat) (c : List Nat) (free : Nat), ∀ x ∈ rg w k c free, ∃ s, x = c ++ s
  | 0, c, _, x, hx => by
    have := (mem_hdR.1 (show x ∈ hdR w c from hx)).1
    exact ⟨[], by simp [this]⟩
  | k + 1, c, free, x, hx => by
    have hx' : x ∈ hdR w c ++ (bitsL (w.getD (lastW c) 0 &&& free)).flatMap fun x => rg w k (c ++ [x]) (dfN free (2 ^ x)) := hx
    rcases List.mem_append.1 hx' with h | h
    · exact ⟨[], by simp [(mem_hdR.1 h).1]⟩
    · obtain ⟨y, _, h⟩ := List.mem_flatMap.1 h
      obtain ⟨s, e⟩ := rg_pre w k _ _ x h
      exact ⟨y :: s, by rw [e]; simp⟩
def Asc (l : List (List Nat)) : Prop := l.Pairwise fun a b => lexLt (up a) (up b) = true
theorem asc_flat {f : Nat → List (List Nat)} {c : List Nat} {l : List Nat} (h1 : ∀ x, Asc (f x)) (h2 : ∀ x, ∀ y ∈ f x, ∃ s, y = c ++ x :: s) (hl : l.Pairwise (· < ·)) : Asc (l.flatMap f) := by
  unfold Asc
  rw [List.pairwise_flatMap]
  refine ⟨fun x _ => h1 x, hl.imp fun {a b} hab x hx y hy => ?_⟩
  obtain ⟨s, rfl⟩ := h2 a x hx
  obtain ⟨t, rfl⟩ := h2 b y hy
  rw [lex_app]
  show lexLt ((a : Int) :: up s) ((b : Int) :: up t) = true
  unfold lexLt
  rw [decide_eq_true (show (a : Int) < (b : Int) by omega)]; rfl
theorem bits_asc (m : Nat) : (bitsL m).Pairwise (· < ·) := List.pairwise_lt_range.filter _
theorem rg_asc (w : List Nat) : ∀ (k : Nat) (c : List Nat) (free : Nat), Asc (rg w k c free)
  | 0, c, _ => by
    show Asc (hdR w c)
    unfold hdR Asc; split <;> simp
  | k + 1, c, free => by
    show Asc (hdR w c ++ (bitsL (w.getD (lastW c) 0 &&& free)).flatMap fun x => rg w k (c ++ [x]) (dfN free (2 ^ x)))
    have hp : ∀ x, ∀ y ∈ rg w k (c ++ [x]) (dfN free (2 ^ x)), ∃ s, y = c ++ x :: s := fun x y hy => by
      obtain ⟨s, e⟩ := rg_pre w k _ _ y hy
      exact ⟨s, by rw [e]; simp⟩
    unfold Asc
    rw [List.pairwise_append]
    refine ⟨by unfold hdR; split <;> simp, asc_flat (c := c) (fun x => rg_asc w k _ _) hp (bits_asc _), fun a ha b hb => ?_⟩
    have ea := (mem_hdR.1 ha).1
    obtain ⟨x, _, hb⟩ := List.mem_flatMap.1 hb
    obtain ⟨s, rfl⟩ := hp x b hb
    subst ea
    have := lex_app [] (x :: s) a
    rw [List.append_nil] at this
    rw [this]; rfl
theorem circ_asc (n : Nat) (w : List Nat) : Asc (circL n w) := by
  unfold circL
  refine asc_flat (c := []) (fun x => rg_asc w 7 _ _) (fun x y hy => ?_) List.pairwise_lt_range'
  obtain ⟨s, e⟩ := rg_pre w 7 _ _ y hy
  exact ⟨s, by rw [e]; simp⟩

/-! ### the first shortest odd one -/

attribute [local go_sem] shaped_t cells_t isAgg_t storable_t okRef_t pub_t shaped_oA cells_oA storable_oA

/-! ### the reference counts circles on a reference -/
theorem len_oA (c : List Nat) : lenAV (oA c) = some (I c.length) := by unfold oA; rw [len_lst, List.length_map]
theorem index_oA (c : List Nat) (i : Nat) (h : i < c.length) : indexSAV 1 (oA c) (.v (.int .i64 (i : Int))) = some (.eptr (J (c.getD i 0)) 0) := index_lstJ .any c i h

theorem thN_cons (c : List Nat) (r : List (List Nat)) (p : Nat) : thN (c :: r) p = cntC c p + thN r p := by unfold thN; rw [List.map_cons, List.sum_cons]


/-! ### without circles: one choice, the words whose number is 0 -/
theorem single {α : Type} {l : List α} (hn : l.Nodup) {a : α} (ha : a ∈ l) (h : ∀ x ∈ l, x = a) : l = [a] := by
  cases l with
  | nil => simp at ha
  | cons x r =>
    have hx := h x (by simp)
    subst hx
    cases r with
    | nil => rfl
    | cons y r =>
      have hy := h y (by simp)
      subst hy
      rw [List.nodup_cons] at hn
      exact absurd (by simp) hn.1

attribute [local go_sem] shaped_t cells_t isAgg_t storable_t okRef_t pub_t shaped_oA cells_oA storable_oA

/-! ### the loops of SeeCounted -/
def sumL (X : List (List Nat)) : Nat := (X.map List.length).sum
theorem sumL_cons (c : List Nat) (r : List (List Nat)) : sumL (c :: r) = c.length + sumL r := by unfold sumL; rw [List.map_cons, List.sum_cons]
theorem okRef_oA (k : Nat) (c : List Nat) : okRef k (oA c) = true := rfl
theorem ren1_oA (k : Nat) (T : List Nat) (acc : List (Nat × Nat)) (c : List Nat) : ren1 k T acc (oA c) = (oA c, acc) := rfl

theorem loop11_0 (zs : List Int) (n : Int) (ps : List (Int × Int)) (rf : Int) (X : List (List Nat)) (hX : ∀ c ∈ X, c.length ≤ 7) (hXl : X.length < 100000000) (k7 su wo mo : Int) (i : Nat) (t : Nat) (hok : i ≤ X.length ∧ t ≤ 7 * i) (env : Env) (st : St)
    (hg : gcAV true 2 0 (canon env [1, 5, 6, 7, 9, 10, 11, 12, 49, 50, 51]) st = ([(1, B8 rf), (5, .ptr 1 0), (6, LA X), (7, I k7), (9, I su), (10, J t), (11, I wo), (12, I mo), (49, LA X), (50, J X.length), (51, J i)], ⟨[zs.map B8, bkCells true n ps], []⟩)) :
    ∃ x_1 en s, lim (headed pure (run L) true [1, 5, 6, 7, 9, 10, 11, 12, 49, 50, 51] lp11_0 2 0) env st = some (x_1, en, s) ∧ (x_1 = .exit 0 ∧ en.get 1 = B8 rf ∧ en.get 5 = .ptr 1 0 ∧ en.get 6 = LA X ∧ en.get 7 = I k7 ∧ en.get 9 = I su ∧ en.get 10 = J (t + sumL (X.drop i)) ∧ en.get 11 = I wo ∧ en.get 12 = I mo ∧ s = ⟨[zs.map B8, bkCells true n ps], []⟩) := by
  refine loop_wp (α := Nat × Nat) (fun ⟨i, t⟩ => X.length - i) (fun ⟨i, t⟩ => i ≤ X.length ∧ t ≤ 7 * i) (fun ⟨i, t⟩ => ([(1, B8 rf), (5, .ptr 1 0), (6, LA X), (7, I k7), (9, I su), (10, J t), (11, I wo), (12, I mo), (49, LA X), (50, J X.length), (51, J i)], ⟨[zs.map B8, bkCells true n ps], []⟩)) (fun ⟨i, t⟩ x_1 en s => x_1 = .exit 0 ∧ en.get 1 = B8 rf ∧ en.get 5 = .ptr 1 0 ∧ en.get 6 = LA X ∧ en.get 7 = I k7 ∧ en.get 9 = I su ∧ en.get 10 = J (t + sumL (X.drop i)) ∧ en.get 11 = I wo ∧ en.get 12 = I mo ∧ s = ⟨[zs.map B8, bkCells true n ps], []⟩) (fun ⟨i, t⟩ hok => ?_) ⟨i, t⟩ hok env st hg
  simp only at hok
  obtain ⟨h1, h2⟩ := hok
  dsimp only at h1 h2 ⊢
  by_cases h : i < X.length
  · have hs : IntKind.i64.wrap ((i : Int) + 1) = ((i + 1 : Nat) : Int) := by rw [wrap64] <;> omega
    have hlt : ((i : Int) < (X.length : Int)) = True := eq_true (by omega)
    have hd : X.drop i = X[i] :: X.drop (i + 1) := List.drop_eq_getElem_cons h
    have hix := index_LA X i h
    have hcl := hX _ (List.getElem_mem h)
    rw [hd, sumL_cons]
    generalize X[i] = c at *
    have hlo := len_oA c
    have hst : IntKind.i64.wrap ((t : Int) + (c.length : Int)) = ((t + c.length : Nat) : Int) := by rw [wrap64] <;> omega
    simp only [go_sem, reduceIte, Nat.reduceEqDiff, Nat.reduceAdd, Nat.reduceSub, Nat.reduceLeDiff, Nat.reduceLT, reduceCtorEq, Int.reduceLT, Int.reduceLE, Int.reduceEq, Int.reduceBEq, Int.reduceSub, Int.reduceAdd, Int.reduceMul, Int.reduceNeg, Int.reduceToNat, Nat.reduceMul, Nat.reduceBEq, index_rsl_if, setm, make_ints, condK_dec, wantK_dec, not_dec, and_dec, or_dec, seqK_ite, seqK_none, blockK_ite, blockK_none, opsK_ite, opsK_none, stepK_ite, stepK_none, bodyK_ite, bodyK_none, resK_ite, resK_none, leaveK_ite, leaveK_none, only_ite, only_none, bind_ite, gives_some, gives_none, gives_ite, then_normal, then_ret, then_exit, then_none, then_ite, Option.bind_none, Bool.not_eq_true', decide_eq_false_iff_not, Bool.and_eq_true, Bool.or_eq_true, Option.some.injEq, Int.not_lt, Int.not_le, lp11_0, hix, hlo, hlt, hs, hst]
    refine ⟨(i + 1, t + c.length), by simp only [go_sem, reduceIte, Nat.reduceEqDiff, Nat.reduceAdd, Nat.reduceSub, Nat.reduceLeDiff, Nat.reduceLT, reduceCtorEq, Int.reduceLT, Int.reduceLE, Int.reduceEq, Int.reduceBEq, Int.reduceSub, Int.reduceAdd, Int.reduceMul, Int.reduceNeg, Int.reduceToNat, Nat.reduceMul, Nat.reduceBEq, ren1_locm, loc_tips, locT_eq, okRefsB, renCellsB, ren1_LA, okRef_LA] <;> rfl, ?_, ?_, fun x en s hq => ?_⟩
    · dsimp only; omega
    · dsimp only; omega
    · rw [show ∀ a : Nat, t + (c.length + a) = t + c.length + a from fun a => by omega]; exact hq
  · have hd : X.drop i = [] := List.drop_eq_nil_of_le (by omega)
    have hlt : ((i : Int) < (X.length : Int)) = False := eq_false (by omega)
    rw [hd]
    simp only [go_sem, reduceIte, Nat.reduceEqDiff, Nat.reduceAdd, Nat.reduceSub, Nat.reduceLeDiff, Nat.reduceLT, reduceCtorEq, Int.reduceLT, Int.reduceLE, Int.reduceEq, Int.reduceBEq, Int.reduceSub, Int.reduceAdd, Int.reduceMul, Int.reduceNeg, Int.reduceToNat, Nat.reduceMul, Nat.reduceBEq, index_rsl_if, setm, make_ints, condK_dec, wantK_dec, not_dec, and_dec, or_dec, seqK_ite, seqK_none, blockK_ite, blockK_none, opsK_ite, opsK_none, stepK_ite, stepK_none, bodyK_ite, bodyK_none, resK_ite, resK_none, leaveK_ite, leaveK_none, only_ite, only_none, bind_ite, gives_some, gives_none, gives_ite, then_normal, then_ret, then_exit, then_none, then_ite, Option.bind_none, Bool.not_eq_true', decide_eq_false_iff_not, Bool.and_eq_true, Bool.or_eq_true, Option.some.injEq, Int.not_lt, Int.not_le, lp11_0, hlt]
    rfl

set_option maxHeartbeats 1000000 in
theorem loop11_1 (zs : List Int) (n : Int) (ps : List (Int × Int)) (rf : Int) (X : List (List Nat)) (k7 su wd wo mo : Int) (ri ci : Nat) (p q : Nat) (hp : p < 7) (hq7 : q < 7) (c : List Nat) (hcl : c.length ≤ 7) (hc7 : ∀ x ∈ c, x < 7) (Tb : Nat) (hTb : Tb ≤ 1000000000) (k : Nat) (t : Nat) (hok : k ≤ c.length ∧ t ≤ Tb + k) (env : Env) (st : St)
    (hg : gcAV true 3 0 (canon env [1, 5, 6, 7, 9, 10, 11, 12, 15, 16, 17, 19, 61, 62, 63, 68, 69, 70, 74, 75, 76]) st = ([(1, B8 rf), (5, .ptr 1 0), (6, LA X), (7, I k7), (9, I su), (10, I wd), (11, I wo), (12, I mo), (15, J ri), (16, .ptr 2 0), (17, J t), (19, oA c), (61, sl 2 true (ps.map prAV)), (62, J ps.length), (63, J ri), (68, LA X), (69, J X.length), (70, J ci), (74, oA c), (75, J c.length), (76, J k)], ⟨[zs.map B8, bkCells true n ps, [J p, J q]], []⟩)) :
    ∃ x_1 en s, lim (headed pure (run L) true [1, 5, 6, 7, 9, 10, 11, 12, 15, 16, 17, 19, 61, 62, 63, 68, 69, 70, 74, 75, 76] lp11_1 3 0) env st = some (x_1, en, s) ∧ (x_1 = .exit 6 ∧ en.get 1 = B8 rf ∧ en.get 5 = .ptr 1 0 ∧ en.get 6 = LA X ∧ en.get 7 = I k7 ∧ en.get 9 = I su ∧ en.get 10 = I wd ∧ en.get 11 = I wo ∧ en.get 12 = I mo ∧ en.get 15 = J ri ∧ en.get 16 = .ptr 2 0 ∧ en.get 17 = J (t + ((List.range' k (c.length - k)).filter fun j => atP c j == p * 7 + q).length) ∧ en.get 61 = sl 2 true (ps.map prAV) ∧ en.get 62 = J ps.length ∧ en.get 63 = J ri ∧ en.get 68 = LA X ∧ en.get 69 = J X.length ∧ en.get 70 = J ci ∧ s = ⟨[zs.map B8, bkCells true n ps, [J p, J q]], []⟩) := by
  refine loop_wp (α := Nat × Nat) (fun ⟨k, t⟩ => c.length - k) (fun ⟨k, t⟩ => k ≤ c.length ∧ t ≤ Tb + k) (fun ⟨k, t⟩ => ([(1, B8 rf), (5, .ptr 1 0), (6, LA X), (7, I k7), (9, I su), (10, I wd), (11, I wo), (12, I mo), (15, J ri), (16, .ptr 2 0), (17, J t), (19, oA c), (61, sl 2 true (ps.map prAV)), (62, J ps.length), (63, J ri), (68, LA X), (69, J X.length), (70, J ci), (74, oA c), (75, J c.length), (76, J k)], ⟨[zs.map B8, bkCells true n ps, [J p, J q]], []⟩)) (fun ⟨k, t⟩ x_1 en s => x_1 = .exit 6 ∧ en.get 1 = B8 rf ∧ en.get 5 = .ptr 1 0 ∧ en.get 6 = LA X ∧ en.get 7 = I k7 ∧ en.get 9 = I su ∧ en.get 10 = I wd ∧ en.get 11 = I wo ∧ en.get 12 = I mo ∧ en.get 15 = J ri ∧ en.get 16 = .ptr 2 0 ∧ en.get 17 = J (t + ((List.range' k (c.length - k)).filter fun j => atP c j == p * 7 + q).length) ∧ en.get 61 = sl 2 true (ps.map prAV) ∧ en.get 62 = J ps.length ∧ en.get 63 = J ri ∧ en.get 68 = LA X ∧ en.get 69 = J X.length ∧ en.get 70 = J ci ∧ s = ⟨[zs.map B8, bkCells true n ps, [J p, J q]], []⟩) (fun ⟨k, t⟩ hok => ?_) ⟨k, t⟩ hok env st hg
  simp only at hok
  obtain ⟨h1, h2⟩ := hok
  dsimp only at h1 h2 ⊢
  have hlo := len_oA c
  by_cases h : k < c.length
  · have hs := succ64 k (by omega)
    have hlt : ((k : Int) < (c.length : Int)) = True := eq_true (by omega)
    have hr : List.range' k (c.length - k) = k :: List.range' (k + 1) (c.length - (k + 1)) := by
      rw [show c.length - k = (c.length - (k + 1)) + 1 by omega, List.range'_succ]
    have hmod : (k + 1) % c.length < c.length := Nat.mod_lt _ (by omega)
    have hx := index_oA c k h
    have hy := index_oA c ((k + 1) % c.length) hmod
    have hx7 := getD_lt hc7 k h
    have hy7 := getD_lt hc7 _ hmod
    have htm : (((k + 1 : Nat) : Int)).tmod (c.length : Int) = (((k + 1) % c.length : Nat) : Int) := tmod_nat _ _
    have hz : ((c.length : Int) = 0) = False := eq_false (by omega)
    have hst : IntKind.i64.wrap ((t : Int) + 1) = ((t + 1 : Nat) : Int) := by rw [wrap64] <;> omega
    have hat : atP c k = c.getD k 0 * 7 + c.getD ((k + 1) % c.length) 0 := rfl
    rw [hr]
    generalize c.getD ((k + 1) % c.length) 0 = y at *
    generalize c.getD k 0 = x at *
    by_cases p1 : x = p
    · subst p1
      by_cases p2 : y = q
      · subst p2
        rw [List.filter_cons_of_pos (by rw [hat]; simp), List.length_cons]
        simp only [go_sem, reduceIte, Nat.reduceEqDiff, Nat.reduceAdd, Nat.reduceSub, Nat.reduceLeDiff, Nat.reduceLT, reduceCtorEq, Int.reduceLT, Int.reduceLE, Int.reduceEq, Int.reduceBEq, Int.reduceSub, Int.reduceAdd, Int.reduceMul, Int.reduceNeg, Int.reduceToNat, Nat.reduceMul, Nat.reduceBEq, index_rsl_if, setm, make_ints, condK_dec, wantK_dec, not_dec, and_dec, or_dec, seqK_ite, seqK_none, blockK_ite, blockK_none, opsK_ite, opsK_none, stepK_ite, stepK_none, bodyK_ite, bodyK_none, resK_ite, resK_none, leaveK_ite, leaveK_none, only_ite, only_none, bind_ite, gives_some, gives_none, gives_ite, then_normal, then_ret, then_exit, then_none, then_ite, Option.bind_none, Bool.not_eq_true', decide_eq_false_iff_not, Bool.and_eq_true, Bool.or_eq_true, Option.some.injEq, Int.not_lt, Int.not_le, lp11_1, hlo, hx, hy, htm, hz, hlt, hs, hst]
        refine ⟨(k + 1, t + 1), by simp only [go_sem, reduceIte, Nat.reduceEqDiff, Nat.reduceAdd, Nat.reduceSub, Nat.reduceLeDiff, Nat.reduceLT, reduceCtorEq, Int.reduceLT, Int.reduceLE, Int.reduceEq, Int.reduceBEq, Int.reduceSub, Int.reduceAdd, Int.reduceMul, Int.reduceNeg, Int.reduceToNat, Nat.reduceMul, Nat.reduceBEq, ren1_locm, loc_tips, locT_eq, okRefsB, renCellsB, ren1_LA, okRef_LA, okRef_oA, ren1_oA] <;> rfl, ?_, ?_, fun x en s hq => ?_⟩
        · dsimp only; omega
        · dsimp only; omega
        · rw [show ∀ a : Nat, t + (a + 1) = t + 1 + a from fun a => by omega]; exact hq
      · have q2 : (((y : Nat) : Int) = (q : Int)) = False := eq_false (by omega)
        rw [List.filter_cons_of_neg (by rw [hat]; simp; omega)]
        simp only [go_sem, reduceIte, Nat.reduceEqDiff, Nat.reduceAdd, Nat.reduceSub, Nat.reduceLeDiff, Nat.reduceLT, reduceCtorEq, Int.reduceLT, Int.reduceLE, Int.reduceEq, Int.reduceBEq, Int.reduceSub, Int.reduceAdd, Int.reduceMul, Int.reduceNeg, Int.reduceToNat, Nat.reduceMul, Nat.reduceBEq, index_rsl_if, setm, make_ints, condK_dec, wantK_dec, not_dec, and_dec, or_dec, seqK_ite, seqK_none, blockK_ite, blockK_none, opsK_ite, opsK_none, stepK_ite, stepK_none, bodyK_ite, bodyK_none, resK_ite, resK_none, leaveK_ite, leaveK_none, only_ite, only_none, bind_ite, gives_some, gives_none, gives_ite, then_normal, then_ret, then_exit, then_none, then_ite, Option.bind_none, Bool.not_eq_true', decide_eq_false_iff_not, Bool.and_eq_true, Bool.or_eq_true, Option.some.injEq, Int.not_lt, Int.not_le, lp11_1, hlo, hx, hy, htm, hz, hlt, hs, q2]
        refine ⟨(k + 1, t), by simp only [go_sem, reduceIte, Nat.reduceEqDiff, Nat.reduceAdd, Nat.reduceSub, Nat.reduceLeDiff, Nat.reduceLT, reduceCtorEq, Int.reduceLT, Int.reduceLE, Int.reduceEq, Int.reduceBEq, Int.reduceSub, Int.reduceAdd, Int.reduceMul, Int.reduceNeg, Int.reduceToNat, Nat.reduceMul, Nat.reduceBEq, ren1_locm, loc_tips, locT_eq, okRefsB, renCellsB, ren1_LA, okRef_LA, okRef_oA, ren1_oA] <;> rfl, ?_, ?_, fun x en s hq => ?_⟩
        · dsimp only; omega
        · dsimp only; omega
        · exact hq
    · have q1 : (((x : Nat) : Int) = (p : Int)) = False := eq_false (by omega)
      rw [List.filter_cons_of_neg (by rw [hat]; simp; omega)]
      simp only [go_sem, reduceIte, Nat.reduceEqDiff, Nat.reduceAdd, Nat.reduceSub, Nat.reduceLeDiff, Nat.reduceLT, reduceCtorEq, Int.reduceLT, Int.reduceLE, Int.reduceEq, Int.reduceBEq, Int.reduceSub, Int.reduceAdd, Int.reduceMul, Int.reduceNeg, Int.reduceToNat, Nat.reduceMul, Nat.reduceBEq, index_rsl_if, setm, make_ints, condK_dec, wantK_dec, not_dec, and_dec, or_dec, seqK_ite, seqK_none, blockK_ite, blockK_none, opsK_ite, opsK_none, stepK_ite, stepK_none, bodyK_ite, bodyK_none, resK_ite, resK_none, leaveK_ite, leaveK_none, only_ite, only_none, bind_ite, gives_some, gives_none, gives_ite, then_normal, then_ret, then_exit, then_none, then_ite, Option.bind_none, Bool.not_eq_true', decide_eq_false_iff_not, Bool.and_eq_true, Bool.or_eq_true, Option.some.injEq, Int.not_lt, Int.not_le, lp11_1, hlo, hx, hlt, hs, q1]
      refine ⟨(k + 1, t), by simp only [go_sem, reduceIte, Nat.reduceEqDiff, Nat.reduceAdd, Nat.reduceSub, Nat.reduceLeDiff, Nat.reduceLT, reduceCtorEq, Int.reduceLT, Int.reduceLE, Int.reduceEq, Int.reduceBEq, Int.reduceSub, Int.reduceAdd, Int.reduceMul, Int.reduceNeg, Int.reduceToNat, Nat.reduceMul, Nat.reduceBEq, ren1_locm, loc_tips, locT_eq, okRefsB, renCellsB, ren1_LA, okRef_LA, okRef_oA, ren1_oA] <;> rfl, ?_, ?_, fun x en s hq => ?_⟩
      · dsimp only; omega
      · dsimp only; omega
      · exact hq
  · have hr : c.length - k = 0 := by omega
    have hlt : ((k : Int) < (c.length : Int)) = False := eq_false (by omega)
    rw [hr]
    simp only [go_sem, reduceIte, Nat.reduceEqDiff, Nat.reduceAdd, Nat.reduceSub, Nat.reduceLeDiff, Nat.reduceLT, reduceCtorEq, Int.reduceLT, Int.reduceLE, Int.reduceEq, Int.reduceBEq, Int.reduceSub, Int.reduceAdd, Int.reduceMul, Int.reduceNeg, Int.reduceToNat, Nat.reduceMul, Nat.reduceBEq, index_rsl_if, setm, make_ints, condK_dec, wantK_dec, not_dec, and_dec, or_dec, seqK_ite, seqK_none, blockK_ite, blockK_none, opsK_ite, opsK_none, stepK_ite, stepK_none, bodyK_ite, bodyK_none, resK_ite, resK_none, leaveK_ite, leaveK_none, only_ite, only_none, bind_ite, gives_some, gives_none, gives_ite, then_normal, then_ret, then_exit, then_none, then_ite, Option.bind_none, Bool.not_eq_true', decide_eq_false_iff_not, Bool.and_eq_true, Bool.or_eq_true, Option.some.injEq, Int.not_lt, Int.not_le, lp11_1, hlt]
    rfl

theorem loop11_2 (zs : List Int) (n : Int) (ps : List (Int × Int)) (rf : Int) (X : List (List Nat)) (hX : ∀ c ∈ X, c.length ≤ 7 ∧ ∀ x ∈ c, x < 7) (hXl : X.length < 100000000) (k7 su wd wo mo : Int) (ri : Nat) (p q : Nat) (hp : p < 7) (hq7 : q < 7) (i : Nat) (t : Nat) (hok : i ≤ X.length ∧ t ≤ 7 * i) (env : Env) (st : St)
    (hg : gcAV true 3 0 (canon env [1, 5, 6, 7, 9, 10, 11, 12, 15, 16, 17, 61, 62, 63, 68, 69, 70]) st = ([(1, B8 rf), (5, .ptr 1 0), (6, LA X), (7, I k7), (9, I su), (10, I wd), (11, I wo), (12, I mo), (15, J ri), (16, .ptr 2 0), (17, J t), (61, sl 2 true (ps.map prAV)), (62, J ps.length), (63, J ri), (68, LA X), (69, J X.length), (70, J i)], ⟨[zs.map B8, bkCells true n ps, [J p, J q]], []⟩)) :
    ∃ x_1 en s, lim (headed pure (run L) true [1, 5, 6, 7, 9, 10, 11, 12, 15, 16, 17, 61, 62, 63, 68, 69, 70] lp11_2 3 0) env st = some (x_1, en, s) ∧ (x_1 = .exit 4 ∧ en.get 1 = B8 rf ∧ en.get 5 = .ptr 1 0 ∧ en.get 6 = LA X ∧ en.get 7 = I k7 ∧ en.get 9 = I su ∧ en.get 10 = I wd ∧ en.get 11 = I wo ∧ en.get 12 = I mo ∧ en.get 15 = J ri ∧ en.get 17 = J (t + thN (X.drop i) (p * 7 + q)) ∧ en.get 61 = sl 2 true (ps.map prAV) ∧ en.get 62 = J ps.length ∧ en.get 63 = J ri ∧ s = ⟨[zs.map B8, bkCells true n ps, [J p, J q]], []⟩) := by
  refine loop_wp (α := Nat × Nat) (fun ⟨i, t⟩ => X.length - i) (fun ⟨i, t⟩ => i ≤ X.length ∧ t ≤ 7 * i) (fun ⟨i, t⟩ => ([(1, B8 rf), (5, .ptr 1 0), (6, LA X), (7, I k7), (9, I su), (10, I wd), (11, I wo), (12, I mo), (15, J ri), (16, .ptr 2 0), (17, J t), (61, sl 2 true (ps.map prAV)), (62, J ps.length), (63, J ri), (68, LA X), (69, J X.length), (70, J i)], ⟨[zs.map B8, bkCells true n ps, [J p, J q]], []⟩)) (fun ⟨i, t⟩ x_1 en s => x_1 = .exit 4 ∧ en.get 1 = B8 rf ∧ en.get 5 = .ptr 1 0 ∧ en.get 6 = LA X ∧ en.get 7 = I k7 ∧ en.get 9 = I su ∧ en.get 10 = I wd ∧ en.get 11 = I wo ∧ en.get 12 = I mo ∧ en.get 15 = J ri ∧ en.get 17 = J (t + thN (X.drop i) (p * 7 + q)) ∧ en.get 61 = sl 2 true (ps.map prAV) ∧ en.get 62 = J ps.length ∧ en.get 63 = J ri ∧ s = ⟨[zs.map B8, bkCells true n ps, [J p, J q]], []⟩) (fun ⟨i, t⟩ hok => ?_) ⟨i, t⟩ hok env st hg
  simp only at hok
  obtain ⟨h1, h2⟩ := hok
  dsimp only at h1 h2 ⊢
  by_cases h : i < X.length
  · have hs : IntKind.i64.wrap ((i : Int) + 1) = ((i + 1 : Nat) : Int) := by rw [wrap64] <;> omega
    have hlt : ((i : Int) < (X.length : Int)) = True := eq_true (by omega)
    have hd : X.drop i = X[i] :: X.drop (i + 1) := List.drop_eq_getElem_cons h
    have hix := index_LA X i h
    obtain ⟨hcl, hc7⟩ := hX _ (List.getElem_mem h)
    rw [hd, thN_cons]
    generalize X[i] = c at *
    have hlo := len_oA c
    have hle : cntC c (p * 7 + q) ≤ 7 := by
      have := List.length_filter_le (fun j => atP c j == p * 7 + q) (List.range' 0 c.length)
      rw [List.length_range'] at this
      unfold cntC; omega
    simp only [go_sem, reduceIte, Nat.reduceEqDiff, Nat.reduceAdd, Nat.reduceSub, Nat.reduceLeDiff, Nat.reduceLT, reduceCtorEq, Int.reduceLT, Int.reduceLE, Int.reduceEq, Int.reduceBEq, Int.reduceSub, Int.reduceAdd, Int.reduceMul, Int.reduceNeg, Int.reduceToNat, Nat.reduceMul, Nat.reduceBEq, index_rsl_if, setm, make_ints, condK_dec, wantK_dec, not_dec, and_dec, or_dec, seqK_ite, seqK_none, blockK_ite, blockK_none, opsK_ite, opsK_none, stepK_ite, stepK_none, bodyK_ite, bodyK_none, resK_ite, resK_none, leaveK_ite, leaveK_none, only_ite, only_none, bind_ite, gives_some, gives_none, gives_ite, then_normal, then_ret, then_exit, then_none, then_ite, Option.bind_none, Bool.not_eq_true', decide_eq_false_iff_not, Bool.and_eq_true, Bool.or_eq_true, Option.some.injEq, Int.not_lt, Int.not_le, lp11_2, hix, hlo, hlt, hs]
    generalize hg : lim (headed pure (run L) true _ lp11_1 _ _) _ _ = o
    obtain ⟨x, en, s, rfl, h2⟩ : ∃ x en s, o = some (x, en, s) ∧ _ := by rw [← hg]; exact loop11_1 zs n ps rf X k7 su wd wo mo ri i p q hp hq7 c hcl hc7 t (by omega) 0 t ⟨by omega, by omega⟩ _ _ (by simp only [go_sem, reduceIte, Nat.reduceEqDiff, Nat.reduceAdd, Nat.reduceSub, Nat.reduceLeDiff, Nat.reduceLT, reduceCtorEq, Int.reduceLT, Int.reduceLE, Int.reduceEq, Int.reduceBEq, Int.reduceSub, Int.reduceAdd, Int.reduceMul, Int.reduceNeg, Int.reduceToNat, Nat.reduceMul, Nat.reduceBEq, okRefsB, renCellsB, ren1_LA, okRef_LA, okRef_oA, ren1_oA, Int.natCast_zero] <;> rfl)
    clear hg
    rw [Nat.sub_zero] at h2
    have hcc : ((List.range' 0 c.length).filter fun j => atP c j == p * 7 + q).length = cntC c (p * 7 + q) := rfl
    rw [hcc] at h2
    obtain ⟨rfl, e1, e5, e6, e7, e9, e10, e11, e12, e15, e16, e17, e61, e62, e63, e68, e69, e70, rfl⟩ := h2
    generalize cntC c (p * 7 + q) = d at *
    simp only [go_sem, reduceIte, Nat.reduceEqDiff, Nat.reduceAdd, Nat.reduceSub, Nat.reduceLeDiff, Nat.reduceLT, reduceCtorEq, Int.reduceLT, Int.reduceLE, Int.reduceEq, Int.reduceBEq, Int.reduceSub, Int.reduceAdd, Int.reduceMul, Int.reduceNeg, Int.reduceToNat, Nat.reduceMul, Nat.reduceBEq, index_rsl_if, setm, make_ints, condK_dec, wantK_dec, not_dec, and_dec, or_dec, seqK_ite, seqK_none, blockK_ite, blockK_none, opsK_ite, opsK_none, stepK_ite, stepK_none, bodyK_ite, bodyK_none, resK_ite, resK_none, leaveK_ite, leaveK_none, only_ite, only_none, bind_ite, gives_some, gives_none, gives_ite, then_normal, then_ret, then_exit, then_none, then_ite, Option.bind_none, Bool.not_eq_true', decide_eq_false_iff_not, Bool.and_eq_true, Bool.or_eq_true, Option.some.injEq, Int.not_lt, Int.not_le, lp11_2, hs, e1, e5, e6, e7, e9, e10, e11, e12, e15, e16, e17, e61, e62, e63, e68, e69, e70]
    refine ⟨(i + 1, t + d), by simp only [go_sem, reduceIte, Nat.reduceEqDiff, Nat.reduceAdd, Nat.reduceSub, Nat.reduceLeDiff, Nat.reduceLT, reduceCtorEq, Int.reduceLT, Int.reduceLE, Int.reduceEq, Int.reduceBEq, Int.reduceSub, Int.reduceAdd, Int.reduceMul, Int.reduceNeg, Int.reduceToNat, Nat.reduceMul, Nat.reduceBEq, ren1_locm, loc_tips, locT_eq, okRefsB, renCellsB, ren1_LA, okRef_LA, e1, e5, e6, e7, e9, e10, e11, e12, e15, e16, e17, e61, e62, e63, e68, e69, e70] <;> rfl, ?_, ?_, fun x en s hq => ?_⟩
    · dsimp only; omega
    · dsimp only; omega
    · rw [show ∀ a : Nat, t + (d + a) = t + d + a from fun a => by omega]; exact hq
  · have hd : X.drop i = [] := List.drop_eq_nil_of_le (by omega)
    have hlt : ((i : Int) < (X.length : Int)) = False := eq_false (by omega)
    rw [hd]
    simp only [go_sem, reduceIte, Nat.reduceEqDiff, Nat.reduceAdd, Nat.reduceSub, Nat.reduceLeDiff, Nat.reduceLT, reduceCtorEq, Int.reduceLT, Int.reduceLE, Int.reduceEq, Int.reduceBEq, Int.reduceSub, Int.reduceAdd, Int.reduceMul, Int.reduceNeg, Int.reduceToNat, Nat.reduceMul, Nat.reduceBEq, index_rsl_if, setm, make_ints, condK_dec, wantK_dec, not_dec, and_dec, or_dec, seqK_ite, seqK_none, blockK_ite, blockK_none, opsK_ite, opsK_none, stepK_ite, stepK_none, bodyK_ite, bodyK_none, resK_ite, resK_none, leaveK_ite, leaveK_none, only_ite, only_none, bind_ite, gives_some, gives_none, gives_ite, then_normal, then_ret, then_exit, then_none, then_ite, Option.bind_none, Bool.not_eq_true', decide_eq_false_iff_not, Bool.and_eq_true, Bool.or_eq_true, Option.some.injEq, Int.not_lt, Int.not_le, lp11_2, hlt]
    rfl

attribute [local go_sem] shaped_t cells_t isAgg_t storable_t okRef_t pub_t shaped_oA cells_oA storable_oA

theorem loop11_3 (zs : List Int) (n : Int) (ps : List (Int × Int)) (h : chk n ps = 0) (rf : Int) (k7 wd : Int) (i : Nat) (su : Nat) (wo : Int) (mo : Int) (hok : i ≤ ps.length ∧ su ≤ i * 200000000) (env : Env) (st : St)
    (hg : gcAV true 2 0 (canon env [1, 5, 6, 7, 9, 10, 11, 12, 61, 62, 63]) st = ([(1, B8 rf), (5, .ptr 1 0), (6, LA (allN n ps)), (7, I k7), (9, J su), (10, I wd), (11, I wo), (12, I mo), (61, sl 2 true (ps.map prAV)), (62, J ps.length), (63, J i)], ⟨[zs.map B8, bkCells true n ps], []⟩)) :
    ∃ x_1 en s, lim (headed pure (run L) true [1, 5, 6, 7, 9, 10, 11, 12, 61, 62, 63] lp11_3 2 0) env st = some (x_1, en, s) ∧ (x_1 = .exit 2 ∧ en.get 1 = B8 rf ∧ en.get 5 = .ptr 1 0 ∧ en.get 7 = I k7 ∧ en.get 9 = J (su + ((List.range' i (ps.length - i)).map fun i => thN (allN n ps) (refP ps i)).sum) ∧ en.get 10 = I wd ∧ en.get 11 = I ((List.range' i (ps.length - i)).foldl (wstep fun i => thN (allN n ps) (refP ps i)) (wo, mo)).1 ∧ s = ⟨[zs.map B8, bkCells true n ps], []⟩) := by
  refine loop_wp (α := Nat × Nat × Int × Int) (fun ⟨i, su, wo, mo⟩ => ps.length - i) (fun ⟨i, su, wo, mo⟩ => i ≤ ps.length ∧ su ≤ i * 200000000) (fun ⟨i, su, wo, mo⟩ => ([(1, B8 rf), (5, .ptr 1 0), (6, LA (allN n ps)), (7, I k7), (9, J su), (10, I wd), (11, I wo), (12, I mo), (61, sl 2 true (ps.map prAV)), (62, J ps.length), (63, J i)], ⟨[zs.map B8, bkCells true n ps], []⟩)) (fun ⟨i, su, wo, mo⟩ x_1 en s => x_1 = .exit 2 ∧ en.get 1 = B8 rf ∧ en.get 5 = .ptr 1 0 ∧ en.get 7 = I k7 ∧ en.get 9 = J (su + ((List.range' i (ps.length - i)).map fun i => thN (allN n ps) (refP ps i)).sum) ∧ en.get 10 = I wd ∧ en.get 11 = I ((List.range' i (ps.length - i)).foldl (wstep fun i => thN (allN n ps) (refP ps i)) (wo, mo)).1 ∧ s = ⟨[zs.map B8, bkCells true n ps], []⟩) (fun ⟨i, su, wo, mo⟩ hok => ?_) ⟨i, su, wo, mo⟩ hok env st hg
  simp only at hok
  obtain ⟨hk1, hk2⟩ := hok
  dsimp only at hk1 hk2 ⊢
  obtain ⟨h1, hl16, h3, h4, h5⟩ := chk_zero h
  obtain ⟨g1, g2⟩ := allN_ok h
  by_cases hi : i < ps.length
  · have hs := succ64 i (by omega)
    have hlt : ((i : Int) < (ps.length : Int)) = True := eq_true (by omega)
    have hr : List.range' i (ps.length - i) = i :: List.range' (i + 1) (ps.length - (i + 1)) := by
      rw [show ps.length - i = (ps.length - (i + 1)) + 1 by omega, List.range'_succ]
    have hx := index_prs true ps i hi
    have h38 := fun st => c38 true n ps (i : Int) st
    have hv : thrV n ps (i : Int) = (thN (allN n ps) (refP ps i) : Int) := by
      unfold thrV; rw [if_pos h, if_neg (by omega), Int.toNat_natCast]
    have he : thrE n ps (i : Int) = 0 := by unfold thrE; rw [if_pos h, if_neg (by omega)]
    rw [hv, he] at h38
    have hp := h4 ps[i] (List.getElem_mem hi)
    have hrf : refP ps i = ps[i].1.toNat * 7 + ps[i].2.toNat := by
      unfold refP
      rw [List.getD_eq_getElem?_getD, List.getElem?_eq_getElem hi]; rfl
    have hthl := thN_le (allN n ps) (refP ps i) (fun c hc => (g2 c hc).2.1)
    have hst : IntKind.i64.wrap ((su : Int) + ((thN (allN n ps) (refP ps i) : Nat) : Int)) = ((su + thN (allN n ps) (refP ps i) : Nat) : Int) := by rw [wrap64] <;> omega
    have hw : wstep (fun i => thN (allN n ps) (refP ps i)) (wo, mo) i = if mo < (thN (allN n ps) (refP ps i) : Int) then ((i : Int), (thN (allN n ps) (refP ps i) : Int)) else (wo, mo) := rfl
    rw [hr, List.map_cons, List.sum_cons, List.foldl_cons, hw]
    generalize hc : ps[i] = c at *
    obtain ⟨u, v⟩ := c
    obtain ⟨a1, a2, a3, a4⟩ := hp
    simp only at a1 a2 a3 a4 hx hrf
    obtain ⟨u, rfl⟩ := Int.eq_ofNat_of_zero_le a1
    obtain ⟨v, rfl⟩ := Int.eq_ofNat_of_zero_le a3
    simp only [Int.toNat_natCast] at hrf
    have hXc : ∀ c ∈ allN n ps, c.length ≤ 7 ∧ ∀ x ∈ c, x < 7 := fun c hc => ⟨(g2 c hc).2.1, (g2 c hc).2.2.1⟩
    simp only [go_sem, reduceIte, Nat.reduceEqDiff, Nat.reduceAdd, Nat.reduceSub, Nat.reduceLeDiff, Nat.reduceLT, reduceCtorEq, Int.reduceLT, Int.reduceLE, Int.reduceEq, Int.reduceBEq, Int.reduceSub, Int.reduceAdd, Int.reduceMul, Int.reduceNeg, Int.reduceToNat, Nat.reduceMul, Nat.reduceBEq, index_rsl_if, setm, make_ints, condK_dec, wantK_dec, not_dec, and_dec, or_dec, seqK_ite, seqK_none, blockK_ite, blockK_none, opsK_ite, opsK_none, stepK_ite, stepK_none, bodyK_ite, bodyK_none, resK_ite, resK_none, leaveK_ite, leaveK_none, only_ite, only_none, bind_ite, gives_some, gives_none, gives_ite, then_normal, then_ret, then_exit, then_none, then_ite, Option.bind_none, Bool.not_eq_true', decide_eq_false_iff_not, Bool.and_eq_true, Bool.or_eq_true, Option.some.injEq, Int.not_lt, Int.not_le, lp11_3, hx, hlt, hs, len_LA, List.length_map]
    generalize hg : lim (headed pure (run L) true _ lp11_2 _ _) _ _ = o
    obtain ⟨x, en, s, rfl, h2⟩ : ∃ x en s, o = some (x, en, s) ∧ _ := by rw [← hg]; exact loop11_2 zs n ps rf (allN n ps) hXc (by omega) k7 (su : Int) wd wo mo i u v (by omega) (by omega) 0 0 ⟨by omega, by omega⟩ _ _ (by simp only [go_sem, reduceIte, Nat.reduceEqDiff, Nat.reduceAdd, Nat.reduceSub, Nat.reduceLeDiff, Nat.reduceLT, reduceCtorEq, Int.reduceLT, Int.reduceLE, Int.reduceEq, Int.reduceBEq, Int.reduceSub, Int.reduceAdd, Int.reduceMul, Int.reduceNeg, Int.reduceToNat, Nat.reduceMul, Nat.reduceBEq, okRefsB, renCellsB, ren1_LA, okRef_LA, Int.natCast_zero] <;> rfl)
    clear hg
    rw [List.drop_zero, Nat.zero_add, ← hrf] at h2
    obtain ⟨rfl, e1, e5, e6, e7, e9, e10, e11, e12, e15, e17, e61, e62, e63, rfl⟩ := h2
    generalize thN (allN n ps) (refP ps i) = d at *
    by_cases p : mo < (d : Int)
    · rw [if_pos p]
      simp only [go_sem, reduceIte, Nat.reduceEqDiff, Nat.reduceAdd, Nat.reduceSub, Nat.reduceLeDiff, Nat.reduceLT, reduceCtorEq, Int.reduceLT, Int.reduceLE, Int.reduceEq, Int.reduceBEq, Int.reduceSub, Int.reduceAdd, Int.reduceMul, Int.reduceNeg, Int.reduceToNat, Nat.reduceMul, Nat.reduceBEq, index_rsl_if, setm, make_ints, condK_dec, wantK_dec, not_dec, and_dec, or_dec, seqK_ite, seqK_none, blockK_ite, blockK_none, opsK_ite, opsK_none, stepK_ite, stepK_none, bodyK_ite, bodyK_none, resK_ite, resK_none, leaveK_ite, leaveK_none, only_ite, only_none, bind_ite, gives_some, gives_none, gives_ite, then_normal, then_ret, then_exit, then_none, then_ite, Option.bind_none, Bool.not_eq_true', decide_eq_false_iff_not, Bool.and_eq_true, Bool.or_eq_true, Option.some.injEq, Int.not_lt, Int.not_le, lp11_3, hs, e1, e5, e6, e7, e9, e10, e11, e12, e15, e17, e61, e62, e63, h38, hst, p]
      refine ⟨(i + 1, su + d, (i : Int), (d : Int)), by simp only [go_sem, reduceIte, Nat.reduceEqDiff, Nat.reduceAdd, Nat.reduceSub, Nat.reduceLeDiff, Nat.reduceLT, reduceCtorEq, Int.reduceLT, Int.reduceLE, Int.reduceEq, Int.reduceBEq, Int.reduceSub, Int.reduceAdd, Int.reduceMul, Int.reduceNeg, Int.reduceToNat, Nat.reduceMul, Nat.reduceBEq, ren1_locm, loc_tips, locT_eq, okRefsB, renCellsB, ren1_LA, okRef_LA, e1, e5, e6, e7, e9, e10, e11, e12, e15, e17, e61, e62, e63] <;> rfl, ?_, ?_, fun x en s hq => ?_⟩
      · dsimp only; omega
      · dsimp only; omega
      · rw [show ∀ a : Nat, su + (d + a) = su + d + a from fun a => by omega]; exact hq
    · rw [if_neg p]
      simp only [go_sem, reduceIte, Nat.reduceEqDiff, Nat.reduceAdd, Nat.reduceSub, Nat.reduceLeDiff, Nat.reduceLT, reduceCtorEq, Int.reduceLT, Int.reduceLE, Int.reduceEq, Int.reduceBEq, Int.reduceSub, Int.reduceAdd, Int.reduceMul, Int.reduceNeg, Int.reduceToNat, Nat.reduceMul, Nat.reduceBEq, index_rsl_if, setm, make_ints, condK_dec, wantK_dec, not_dec, and_dec, or_dec, seqK_ite, seqK_none, blockK_ite, blockK_none, opsK_ite, opsK_none, stepK_ite, stepK_none, bodyK_ite, bodyK_none, resK_ite, resK_none, leaveK_ite, leaveK_none, only_ite, only_none, bind_ite, gives_some, gives_none, gives_ite, then_normal, then_ret, then_exit, then_none, then_ite, Option.bind_none, Bool.not_eq_true', decide_eq_false_iff_not, Bool.and_eq_true, Bool.or_eq_true, Option.some.injEq, Int.not_lt, Int.not_le, lp11_3, hs, e1, e5, e6, e7, e9, e10, e11, e12, e15, e17, e61, e62, e63, h38, hst, p]
      refine ⟨(i + 1, su + d, wo, mo), by simp only [go_sem, reduceIte, Nat.reduceEqDiff, Nat.reduceAdd, Nat.reduceSub, Nat.reduceLeDiff, Nat.reduceLT, reduceCtorEq, Int.reduceLT, Int.reduceLE, Int.reduceEq, Int.reduceBEq, Int.reduceSub, Int.reduceAdd, Int.reduceMul, Int.reduceNeg, Int.reduceToNat, Nat.reduceMul, Nat.reduceBEq, ren1_locm, loc_tips, locT_eq, okRefsB, renCellsB, ren1_LA, okRef_LA, e1, e5, e6, e7, e9, e10, e11, e12, e15, e17, e61, e62, e63] <;> rfl, ?_, ?_, fun x en s hq => ?_⟩
      · dsimp only; omega
      · dsimp only; omega
      · rw [show ∀ a : Nat, su + (d + a) = su + d + a from fun a => by omega]; exact hq
  · have hr : ps.length - i = 0 := by omega
    have hlt : ((i : Int) < (ps.length : Int)) = False := eq_false (by omega)
    rw [hr]
    simp only [go_sem, reduceIte, Nat.reduceEqDiff, Nat.reduceAdd, Nat.reduceSub, Nat.reduceLeDiff, Nat.reduceLT, reduceCtorEq, Int.reduceLT, Int.reduceLE, Int.reduceEq, Int.reduceBEq, Int.reduceSub, Int.reduceAdd, Int.reduceMul, Int.reduceNeg, Int.reduceToNat, Nat.reduceMul, Nat.reduceBEq, index_rsl_if, setm, make_ints, condK_dec, wantK_dec, not_dec, and_dec, or_dec, seqK_ite, seqK_none, blockK_ite, blockK_none, opsK_ite, opsK_none, stepK_ite, stepK_none, bodyK_ite, bodyK_none, resK_ite, resK_none, leaveK_ite, leaveK_none, only_ite, only_none, bind_ite, gives_some, gives_none, gives_ite, then_normal, then_ret, then_exit, then_none, then_ite, Option.bind_none, Bool.not_eq_true', decide_eq_false_iff_not, Bool.and_eq_true, Bool.or_eq_true, Option.some.injEq, Int.not_lt, Int.not_le, lp11_3, hlt, List.length_map]
    exact ⟨rfl, rfl⟩


/-! ### circles and references, counted two ways -/
theorem nodup_get {α : Type} {l : List α} (h : l.Nodup) {i j : Nat} (hi : i < l.length) (hj : j < l.length) (e : l[i] = l[j]) : i = j := by
  rcases Nat.lt_trichotomy i j with h1 | h1 | h1
  · exact absurd e (List.pairwise_iff_getElem.1 h i j hi hj h1)
  · exact h1
  · exact absurd e.symm (List.pairwise_iff_getElem.1 h j i hj hi h1)
theorem ch_at {J : Nat → Nat → Prop} : ∀ (c : List Nat), Ch J c → ∀ k, k + 1 < c.length → J (c.getD k 0) (c.getD (k + 1) 0)
  | [], _, k, h => by simp at h
  | [a], _, k, h => by simp at h
  | a :: b :: r, hc, 0, _ => hc.1
  | a :: b :: r, hc, k + 1, h => by
    have := ch_at (b :: r) hc.2 k (by simpa using h)
    simpa using this
/-- Each word of a circle sees the next one. -/
theorem circ_edge {n : Nat} (hn : n ≤ 7) {ps : List (Int × Int)} (h7 : ∀ p ∈ ps, okP p) {c : List Nat} (hc : c ∈ circL n (seeL 7 ps)) {k : Nat} (hk : k < c.length) : (((c.getD k 0 : Nat) : Int), ((c.getD ((k + 1) % c.length) 0 : Nat) : Int)) ∈ ps := by
  obtain ⟨a, s, e, ha, h2, h3, h4, h5, h6⟩ := (circ_iff hn _ c).1 hc
  have key : Jw (seeL 7 ps) (c.getD k 0) (c.getD ((k + 1) % c.length) 0) := by
    by_cases h : k + 1 < c.length
    · rw [Nat.mod_eq_of_lt h]
      exact ch_at c h5 k h
    · obtain rfl : k = c.length - 1 := by omega
      rw [show c.length - 1 + 1 = c.length by omega, Nat.mod_self]
      have e0 : c.getD 0 0 = a := by rw [e]; rfl
      rw [e0]; exact h6
  unfold Jw at key
  rwa [seeL_bit (Nat.le_refl 7) h7, decide_eq_true_iff] at key
theorem refP_inj {ps : List (Int × Int)} (h7 : ∀ p ∈ ps, okP p) (hn : ps.Nodup) {i j : Nat} (hi : i < ps.length) (hj : j < ps.length) (h : refP ps i = refP ps j) : i = j := by
  have h1 := h7 ps[i] (List.getElem_mem hi)
  have h2 := h7 ps[j] (List.getElem_mem hj)
  unfold okP at h1 h2
  unfold refP at h
  rw [List.getD_eq_getElem?_getD, List.getElem?_eq_getElem hi, List.getD_eq_getElem?_getD, List.getElem?_eq_getElem hj, Option.getD_some, Option.getD_some] at h
  have e : ps[i] = ps[j] := Prod.ext (by omega) (by omega)
  exact nodup_get hn hi hj e
theorem atP_ref {ps : List (Int × Int)} {c : List Nat} {k i : Nat} (hi : i < ps.length) (he : ps[i] = (((c.getD k 0 : Nat) : Int), ((c.getD ((k + 1) % c.length) 0 : Nat) : Int))) : refP ps i = atP c k := by
  unfold refP atP
  rw [List.getD_eq_getElem?_getD, List.getElem?_eq_getElem hi, Option.getD_some, he]; simp
theorem sum_swap {α β : Type} (f : α → β → Nat) : ∀ (A : List α) (B : List β), (A.map fun a => (B.map fun b => f a b).sum).sum = (B.map fun b => (A.map fun a => f a b).sum).sum
  | [], B => by
    induction B with
    | nil => rfl
    | cons b r ih => simp only [List.map_nil, List.sum_nil, List.map_cons, List.sum_cons] at ih ⊢; omega
  | a :: r, B => by
    have ih := sum_swap f r B
    have hadd : ∀ (g h : β → Nat) (B : List β), (B.map fun b => g b + h b).sum = (B.map g).sum + (B.map h).sum := by
      intro g h B
      induction B with
      | nil => rfl
      | cons b r ih => simp only [List.map_cons, List.sum_cons, ih]; omega
    simp only [List.map_cons, List.sum_cons]
    rw [ih, hadd]
/-- Of some numbers just one has a property. -/
theorem sum_one {k m : Nat} (p : Nat → Bool) (hm : m < k) (h1 : p m = true) (h2 : ∀ j, j < k → p j = true → j = m) : ((List.range' 0 k).filter p).length = 1 := by
  have : (List.range' 0 k).filter p = [m] := by
    refine single (List.Pairwise.imp (fun {a b} hab => Nat.ne_of_lt hab) (List.Pairwise.filter _ (List.pairwise_lt_range' (s := 0) (n := k)))) (List.mem_filter.2 ⟨by rw [List.mem_range'_1]; omega, h1⟩) fun x hx => ?_
    obtain ⟨a, b⟩ := List.mem_filter.1 hx
    rw [List.mem_range'_1] at a
    exact h2 x (by omega) b
  rw [this]; rfl
theorem filter_sum {α : Type} (p : α → Bool) : ∀ l : List α, (l.filter p).length = (l.map fun x => if p x = true then 1 else 0).sum
  | [] => rfl
  | x :: r => by
    rw [List.map_cons, List.sum_cons, ← filter_sum p r]
    cases h : p x
    · rw [List.filter_cons_of_neg (by simp [h])]; simp
    · rw [List.filter_cons_of_pos h]; simp; omega
/-- All references together lie on as many circles as these have words. -/
theorem ref_words {n : Nat} (hn : n ≤ 7) {ps : List (Int × Int)} (h7 : ∀ p ∈ ps, okP p) (hnd : ps.Nodup) : ((List.range' 0 ps.length).map fun i => thN (circL n (seeL 7 ps)) (refP ps i)).sum = sumL (circL n (seeL 7 ps)) := by
  have key : ∀ X : List (List Nat), (∀ c ∈ X, c ∈ circL n (seeL 7 ps)) → ((List.range' 0 ps.length).map fun i => thN X (refP ps i)).sum = sumL X := by
    intro X
    induction X with
    | nil =>
      intro _
      have : ∀ l : List Nat, (l.map fun i => thN [] (refP ps i)).sum = 0 := by
        intro l
        induction l with
        | nil => rfl
        | cons x r ih => rw [List.map_cons, List.sum_cons, ih]; rfl
      rw [this]; rfl
    | cons c r ih =>
      intro hX
      have hc := hX c (by simp)
      rw [sumL_cons, ← ih (fun d hd => hX d (by simp [hd]))]
      have hone : ((List.range' 0 ps.length).map fun i => cntC c (refP ps i)).sum = c.length := by
        have e : (fun i => cntC c (refP ps i)) = fun i => ((List.range' 0 c.length).map fun k => if (atP c k == refP ps i) = true then 1 else 0).sum := by
          funext i
          exact filter_sum _ _
        rw [e, sum_swap (fun i k => if (atP c k == refP ps i) = true then 1 else 0)]
        have h1 : ∀ k ∈ List.range' 0 c.length, ((List.range' 0 ps.length).map fun i => if (atP c k == refP ps i) = true then 1 else 0).sum = 1 := fun k hk => by
          rw [List.mem_range'_1] at hk
          rw [← filter_sum fun i => atP c k == refP ps i]
          obtain ⟨m, hm, hme⟩ := List.getElem_of_mem (circ_edge hn h7 hc (show k < c.length by omega))
          have hr := atP_ref hm hme
          exact sum_one _ hm (by rw [beq_iff_eq, hr]) fun j hj hp => refP_inj h7 hnd hj hm (by rw [beq_iff_eq] at hp; rw [← hp, hr])
        have h2 : ∀ l : List Nat, (∀ k ∈ l, ((List.range' 0 ps.length).map fun i => if (atP c k == refP ps i) = true then 1 else 0).sum = 1) → (l.map fun k => ((List.range' 0 ps.length).map fun i => if (atP c k == refP ps i) = true then 1 else 0).sum).sum = l.length := by
          intro l
          induction l with
          | nil => intro _; rfl
          | cons x r ih =>
            intro hl
            rw [List.map_cons, List.sum_cons, hl x (by simp), ih (fun k hk => hl k (by simp [hk])), List.length_cons]; omega
        rw [h2 _ h1, List.length_range']
      have hadd : ∀ l : List Nat, (l.map fun i => thN (c :: r) (refP ps i)).sum = (l.map fun i => cntC c (refP ps i)).sum + (l.map fun i => thN r (refP ps i)).sum := by
        intro l
        induction l with
        | nil => rfl
        | cons x r ih => rw [List.map_cons, List.sum_cons, List.map_cons, List.sum_cons, List.map_cons, List.sum_cons, ih, thN_cons]; omega
      rw [hadd, hone]
  exact key _ (fun _ h => h)
/-- A circle lies on a reference once, or not. -/
theorem cnt_le {c : List Nat} (hn : c.Nodup) (hc : ∀ x ∈ c, x < 7) (p : Nat) : cntC c p ≤ 1 := by
  unfold cntC
  have key : ∀ i j, i < c.length → j < c.length → atP c i = atP c j → i = j := fun i j hi hj h => by
    have h1 := getD_lt hc i hi
    have h2 := getD_lt hc j hj
    have h3 := getD_lt hc ((i + 1) % c.length) (Nat.mod_lt _ (by omega))
    have h4 := getD_lt hc ((j + 1) % c.length) (Nat.mod_lt _ (by omega))
    unfold atP at h
    have e : c.getD i 0 = c.getD j 0 := by omega
    rw [List.getD_eq_getElem?_getD, List.getElem?_eq_getElem hi, List.getD_eq_getElem?_getD, List.getElem?_eq_getElem hj] at e
    exact nodup_get hn hi hj (by simpa using e)
  cases hf : (List.range' 0 c.length).filter fun i => atP c i == p with
  | nil => simp
  | cons m r =>
    have hm : m ∈ (List.range' 0 c.length).filter fun i => atP c i == p := by rw [hf]; simp
    obtain ⟨a1, a2⟩ := List.mem_filter.1 hm
    rw [List.mem_range'_1] at a1
    rw [beq_iff_eq] at a2
    have := sum_one (fun i => atP c i == p) (show m < c.length by omega) (by rw [beq_iff_eq]; exact a2) (fun j hj hp => key j m hj (by omega) (by rw [beq_iff_eq] at hp; rw [hp, a2]))
    rw [hf] at this; omega


/-! ### without a reference: as many circles fewer as it lies on -/
theorem ch_of {J : Nat → Nat → Prop} : ∀ (c : List Nat), (∀ k, k + 1 < c.length → J (c.getD k 0) (c.getD (k + 1) 0)) → Ch J c
  | [], _ => trivial
  | [_], _ => trivial
  | a :: b :: r, h => ⟨by simpa using h 0 (by simp), ch_of (b :: r) fun k hk => by simpa using h (k + 1) (by simpa using hk)⟩
/-- Circles by their references. -/
theorem circ_edges {n : Nat} (hn : n ≤ 7) {ps : List (Int × Int)} (h7 : ∀ p ∈ ps, okP p) (c : List Nat) : c ∈ circL n (seeL 7 ps) ↔ (∃ a s, c = a :: s ∧ a < n ∧ (∀ y ∈ s, a < y ∧ y < n) ∧ c.Nodup ∧ 1 < c.length) ∧ ∀ k, k < c.length → (((c.getD k 0 : Nat) : Int), ((c.getD ((k + 1) % c.length) 0 : Nat) : Int)) ∈ ps := by
  constructor
  · intro hc
    obtain ⟨a, s, e, ha, h2, h3, h4, _, _⟩ := (circ_iff hn _ c).1 hc
    exact ⟨⟨a, s, e, ha, h2, h3, h4⟩, fun k hk => circ_edge hn h7 hc hk⟩
  · rintro ⟨⟨a, s, e, ha, h2, h3, h4⟩, h⟩
    have hj : ∀ k, k < c.length → Jw (seeL 7 ps) (c.getD k 0) (c.getD ((k + 1) % c.length) 0) := fun k hk => by
      unfold Jw
      rw [seeL_bit (Nat.le_refl 7) h7, decide_eq_true_iff]
      exact h k hk
    refine (circ_iff hn _ c).2 ⟨a, s, e, ha, h2, h3, h4, ch_of c fun k hk => ?_, ?_⟩
    · have := hj k (by omega)
      rwa [Nat.mod_eq_of_lt hk] at this
    · have := hj (c.length - 1) (by omega)
      rw [show c.length - 1 + 1 = c.length by omega, Nat.mod_self] at this
      have e0 : c.getD 0 0 = a := by rw [e]; rfl
      rw [e0] at this; exact this
theorem asc_nodup {l : List (List Nat)} (h : Asc l) : l.Nodup := by
  unfold Asc at h
  exact List.Pairwise.imp (fun {a b} hab e => by subst e; rw [lex_irrefl] at hab; simp at hab) h
theorem cutP_mem {ps : List (Int × Int)} (hn : ps.Nodup) {k : Nat} (hk : k < ps.length) (q : Int × Int) : q ∈ cutP ps k ↔ q ∈ ps ∧ q ≠ ps[k] := by
  unfold cutP
  have e : ps = ps.take k ++ ps[k] :: ps.drop (k + 1) := by rw [← List.drop_eq_getElem_cons hk, List.take_append_drop]
  have hnd : (ps.take k ++ ps[k] :: ps.drop (k + 1)).Nodup := by rw [← e]; exact hn
  rw [List.nodup_append, List.nodup_cons] at hnd
  constructor
  · intro h
    rcases List.mem_append.1 h with h | h
    · exact ⟨List.mem_of_mem_take h, fun eq => hnd.2.2 q h ps[k] List.mem_cons_self eq⟩
    · exact ⟨List.mem_of_mem_drop h, fun eq => hnd.2.1.1 (by rw [← eq]; exact h)⟩
  · rintro ⟨h1, h2⟩
    rw [e] at h1
    rcases List.mem_append.1 h1 with h | h
    · exact List.mem_append_left _ h
    · rcases List.mem_cons.1 h with h | h
      · exact absurd h h2
      · exact List.mem_append_right _ h
theorem cut_good {n : Int} {ps : List (Int × Int)} (h : chk n ps = 0) {k : Nat} (hk : k < ps.length) : chk n (cutP ps k) = 0 ∧ (∀ p ∈ cutP ps k, okP p) ∧ (cutP ps k).length ≤ 16 := by
  obtain ⟨h1, hl16, h3, h4, h5⟩ := chk_zero h
  have hm := fun q => cutP_mem h5 hk q
  have hl : (cutP ps k).length ≤ 16 := by unfold cutP; rw [List.length_append, List.length_take, List.length_drop]; omega
  have hnd : (cutP ps k).Nodup := by
    have e : ps = ps.take k ++ ps[k] :: ps.drop (k + 1) := by rw [← List.drop_eq_getElem_cons hk, List.take_append_drop]
    have hnd : (ps.take k ++ ps[k] :: ps.drop (k + 1)).Nodup := by rw [← e]; exact h5
    rw [List.nodup_append, List.nodup_cons] at hnd
    unfold cutP
    rw [List.nodup_append]
    exact ⟨hnd.1, hnd.2.1.2, fun a ha b hb => hnd.2.2 a ha b (List.mem_cons_of_mem _ hb)⟩
  refine ⟨?_, fun p hp => h4 p ((hm p).1 hp).1, hl⟩
  unfold chk
  rw [if_neg (by omega), if_neg (by omega)]
  exact prsErr_ok _ [] (fun p hp => h3 p ((hm p).1 hp).1) (by simpa using hnd)
theorem th_filter : ∀ (X : List (List Nat)) (p : Nat), (∀ c ∈ X, cntC c p ≤ 1) → (X.filter fun c => decide (cntC c p = 0)).length + thN X p = X.length
  | [], _, _ => rfl
  | c :: r, p, h => by
    have ih := th_filter r p (fun d hd => h d (by simp [hd]))
    have hc := h c (by simp)
    rw [thN_cons, List.length_cons]
    by_cases e : cntC c p = 0
    · rw [List.filter_cons_of_pos (by simpa using e), List.length_cons]; omega
    · rw [List.filter_cons_of_neg (by simpa using e)]; omega
theorem cut_circ {n : Nat} {ps : List (Int × Int)} (h : chk (n : Int) ps = 0) {k : Nat} (hk : k < ps.length) : (circL n (seeL 7 (cutP ps k))).length + thN (circL n (seeL 7 ps)) (refP ps k) = (circL n (seeL 7 ps)).length := by
  obtain ⟨h1, hl16, h3, h4, h5⟩ := chk_zero h
  obtain ⟨_, g2, _⟩ := cut_good h hk
  have hn : n ≤ 7 := by omega
  have hcl := circ_lt hn (w := seeL 7 ps)
  have hone : ∀ c ∈ circL n (seeL 7 ps), cntC c (refP ps k) ≤ 1 := fun c hc => by
    obtain ⟨_, _, a3, a4⟩ := hcl c hc
    exact cnt_le a4 (fun x hx => by have := a3 x hx; omega) _
  rw [← th_filter _ _ hone]
  congr 1
  have hmem : ∀ c, c ∈ circL n (seeL 7 (cutP ps k)) ↔ c ∈ (circL n (seeL 7 ps)).filter fun c => decide (cntC c (refP ps k) = 0) := fun c => by
    rw [List.mem_filter, circ_edges hn g2, circ_edges hn h4, decide_eq_true_iff]
    constructor
    · rintro ⟨hs, he⟩
      refine ⟨⟨hs, fun j hj => ((cutP_mem h5 hk _).1 (he j hj)).1⟩, ?_⟩
      unfold cntC
      rw [List.length_eq_zero_iff, List.filter_eq_nil_iff]
      intro j hj
      rw [List.mem_range'_1] at hj
      have h6 := (cutP_mem h5 hk _).1 (he j (by omega))
      obtain ⟨m, hm, hme⟩ := List.getElem_of_mem h6.1
      intro hp
      rw [beq_iff_eq, ← atP_ref hm hme] at hp
      have := refP_inj h4 h5 hm hk hp
      subst this
      exact h6.2 hme.symm
    · rintro ⟨⟨hs, he⟩, hz⟩
      refine ⟨hs, fun j hj => (cutP_mem h5 hk _).2 ⟨he j hj, fun eq => ?_⟩⟩
      unfold cntC at hz
      rw [List.length_eq_zero_iff, List.filter_eq_nil_iff] at hz
      apply hz j (by rw [List.mem_range'_1]; omega)
      rw [beq_iff_eq, ← atP_ref hk eq.symm]
  have n1 := asc_nodup (circ_asc n (seeL 7 (cutP ps k)))
  have n2 : ((circL n (seeL 7 ps)).filter fun c => decide (cntC c (refP ps k) = 0)).Nodup := List.Pairwise.filter _ (asc_nodup (circ_asc n (seeL 7 ps)))
  exact Nat.le_antisymm (nodup_len_le _ _ n1 fun c hc => (hmem c).1 hc) (nodup_len_le _ _ n2 fun c hc => (hmem c).2 hc)

attribute [local go_sem] shaped_t cells_t isAgg_t storable_t okRef_t pub_t shaped_oA cells_oA storable_oA

/-! ### a copy of a list of references, and what it gains -/
theorem c55 (A : List (Int × Int)) (hl : A.length ≤ 1000) : run L 55 [sl 2 false (A.map prAV)] ⟨[], []⟩ = some (if A = [] then .lst .full 2 [] else .lst (.own 0 A.length) 2 (A.map prAV), ⟨[], if A = [] then [] else [A.length]⟩) := by
  rw [run_shared (fn := ir55) rfl rfl]
  have hm : A.length ≤ maxGrow := by unfold maxGrow; omega
  have hs : sl 2 false (A.map prAV) = .lst .any 2 (A.map prAV) := rfl
  have hap : appendAV 2 (.lst .full 2 []) (A.map prAV) ⟨[], []⟩ = some (if A = [] then .lst .full 2 [] else .lst (.own 0 A.length) 2 (A.map prAV), ⟨[], if A = [] then [] else [A.length]⟩) := by
    cases A with
    | nil => rfl
    | cons x r =>
      rw [List.map_cons, if_neg (by simp), if_neg (by simp)]
      simp only [appendAV, if_true, List.length_nil, Nat.zero_add, List.length_cons, List.length_map] at hm ⊢
      rw [if_pos hm]; rfl
  rw [hs]
  simp only [ir55, go_sem, reduceIte, Nat.reduceEqDiff, Nat.reduceAdd, Nat.reduceSub, Nat.reduceLeDiff, Nat.reduceLT, reduceCtorEq, Int.reduceLT, Int.reduceLE, Int.reduceEq, Int.reduceBEq, Int.reduceSub, Int.reduceAdd, Int.reduceMul, Int.reduceNeg, Int.reduceToNat, Nat.reduceMul, Nat.reduceBEq, hap]
theorem clone_app (ps : List (Int × Int)) (i : Nat) (hi : i < ps.length) (hl : ps.length ≤ 1000) : ∃ r1 st1 g T, run L 55 [sl 2 false ((ps.take i).map prAV)] ⟨[], []⟩ = some (r1, st1) ∧ st1.store = [] ∧ (∀ S : List (List AV), appendAV 2 (keepR S.length 0 st1 r1) ((ps.drop (i + 1)).map prAV) ⟨S, keepT st1 r1⟩ = some (.lst g 2 ((cutP ps i).map prAV), ⟨S, T⟩)) := by
  have h := c55 (ps.take i) (by rw [List.length_take]; omega)
  have hlt : (ps.take i).length = i := by rw [List.length_take]; omega
  rw [hlt] at h
  by_cases h0 : i = 0
  · subst h0
    rw [if_pos List.take_zero, if_pos List.take_zero] at h
    have hc : cutP ps 0 = ps.drop (0 + 1) := by unfold cutP; simp
    rw [hc]
    generalize hd : ps.drop (0 + 1) = D at *
    have hD : D.length ≤ maxGrow := by rw [← hd, List.length_drop]; unfold maxGrow; omega
    cases D with
    | nil => exact ⟨_, _, .full, [], h, rfl, fun S => rfl⟩
    | cons x r =>
      refine ⟨_, _, .own 0 (r.length + 1), [r.length + 1], h, rfl, fun S => ?_⟩
      simp only [keepR, keepT, List.map_cons, appendAV, if_true, List.length_nil, Nat.zero_add, List.length_cons, List.length_map] at hD ⊢
      rw [if_pos hD]; rfl
  · have hne : ¬ ps.take i = [] := fun e => by rw [e] at hlt; simp at hlt; omega
    rw [if_neg hne, if_neg hne] at h
    have ho : ownTop ⟨[], [i]⟩ (.lst (.own 0 i) 2 ((ps.take i).map prAV)) = true := by
      simp [ownTop, List.length_map]; omega
    have hr : keepR = keepR := rfl
    have hk1 : ∀ n, keepR n 0 ⟨[], [i]⟩ (.lst (.own 0 i) 2 ((ps.take i).map prAV)) = .lst (.own 0 i) 2 ((ps.take i).map prAV) := fun n => by
      simp only [keepR, ho, if_true]
    have hk2 : keepT ⟨[], [i]⟩ (.lst (.own 0 i) 2 ((ps.take i).map prAV)) = [i] := by
      simp only [keepT, ho, if_true]
    have hcl : i + (ps.drop (i + 1)).length ≤ maxGrow := by rw [List.length_drop]; unfold maxGrow; omega
    have hcm : (cutP ps i).map prAV = (ps.take i).map prAV ++ (ps.drop (i + 1)).map prAV := by unfold cutP; rw [List.map_append]
    rw [hcm]
    generalize hd : ps.drop (i + 1) = D at *
    cases D with
    | nil =>
      refine ⟨_, _, .own 0 i, [i], h, rfl, fun S => ?_⟩
      rw [hk1, hk2]
      simp only [List.map_nil, appendAV, if_true, List.append_nil]
    | cons x r =>
      refine ⟨_, _, .own 0 (i + (r.length + 1)), [i + (r.length + 1)], h, rfl, fun S => ?_⟩
      rw [hk1, hk2]
      simp only [List.map_cons, appendAV, if_true, List.length_cons, List.length_map, hlt] at hcl ⊢
      rw [if_pos hcl]; simp

attribute [local go_sem] shaped_t cells_t isAgg_t storable_t okRef_t pub_t shaped_oA cells_oA storable_oA

set_option maxHeartbeats 2000000 in
theorem c11 (zs : List Int) (hzl : zs.length = 34) (hz : ∀ a ∈ zs, Byte a) (rf : Int) (hrf : Byte rf) (st : St) :
    run L 11 [qAV zs, B8 rf] st = some (B true, st) := by
  rw [run_pure (fn := ir11) rfl rfl]
  obtain ⟨n, hN, h1, h2, h3, h4, h5, h6, h7, h8⟩ := made_ok (.inr rfl) zs
  have h45 := fun st => c45 zs hzl hz 7 (.inr rfl) st
  rw [hN] at h45
  generalize madeP 7 zs = ps at *
  have htk : (zs.map B8).take 34 = zs.map B8 := List.take_of_length_le (by rw [List.length_map]; omega)
  obtain ⟨g1, g2⟩ := allN_ok h8
  have hXe : circL n (seeL 7 ps) = allN (n : Int) ps := by unfold allN; rw [Int.toNat_natCast]
  have h47 : ∀ st, run L 47 [bkAV true (n : Int) ps] st = some (LA (allN (n : Int) ps), st) := fun st => by
    rw [c47 true n ps h8 st, ← oA_t circ_ne, hXe]; rfl
  have h36 := fun st => c36 true (n : Int) ps st
  have hcv : circV (n : Int) ps = ((allN (n : Int) ps).length : Int) := by unfold circV; rw [if_pos h8]
  rw [hcv, h8] at h36
  have hli := len_LA (allN (n : Int) ps)
  have hX1 : ∀ c ∈ allN (n : Int) ps, c.length ≤ 7 := fun c hc => (g2 c hc).2.1
  have hrw := ref_words h3 h6 h7
  rw [hXe] at hrw
  have h40 := fun st => c40 true (n : Int) ps st
  have h38e := fun st => c38 true (n : Int) ps (ps.length : Int) st
  have hve : thrE (n : Int) ps (ps.length : Int) = 2 := by unfold thrE; rw [if_pos h8, if_pos (.inr (Int.le_refl _))]
  rw [hve] at h38e
  generalize thrV (n : Int) ps (ps.length : Int) = tv at *
  simp only [ir11, go_sem, reduceIte, Nat.reduceEqDiff, Nat.reduceAdd, Nat.reduceSub, Nat.reduceLeDiff, Nat.reduceLT, reduceCtorEq, Int.reduceLT, Int.reduceLE, Int.reduceEq, Int.reduceBEq, Int.reduceSub, Int.reduceAdd, Int.reduceMul, Int.reduceNeg, Int.reduceToNat, Nat.reduceMul, Nat.reduceBEq, okRefsB, renCellsB, pubsB, storableB, h45, h47, h36, hzl, htk, hli, List.length_map]
  generalize hg : lim (headed pure (run L) true _ lp11_0 _ _) _ _ = o
  obtain ⟨x, en, s, rfl, h2⟩ : ∃ x en s, o = some (x, en, s) ∧ _ := by rw [← hg]; exact loop11_0 zs (n : Int) ps rf (allN (n : Int) ps) hX1 (by omega) ((allN (n : Int) ps).length : Int) 0 (-1) 0 0 0 ⟨by omega, by omega⟩ _ _ (by simp only [go_sem, reduceIte, Nat.reduceEqDiff, Nat.reduceAdd, Nat.reduceSub, Nat.reduceLeDiff, Nat.reduceLT, reduceCtorEq, Int.reduceLT, Int.reduceLE, Int.reduceEq, Int.reduceBEq, Int.reduceSub, Int.reduceAdd, Int.reduceMul, Int.reduceNeg, Int.reduceToNat, Nat.reduceMul, Nat.reduceBEq, okRefsB, renCellsB, ren1_LA, okRef_LA, Int.natCast_zero] <;> rfl)
  clear hg
  rw [List.drop_zero, Nat.zero_add] at h2
  obtain ⟨rfl, e1, e5, e6, e7, e9, e10, e11, e12, rfl⟩ := h2
  simp only [go_sem, reduceIte, Nat.reduceEqDiff, Nat.reduceAdd, Nat.reduceSub, Nat.reduceLeDiff, Nat.reduceLT, reduceCtorEq, Int.reduceLT, Int.reduceLE, Int.reduceEq, Int.reduceBEq, Int.reduceSub, Int.reduceAdd, Int.reduceMul, Int.reduceNeg, Int.reduceToNat, Nat.reduceMul, Nat.reduceBEq, e1, e5, e6, e7, e9, e10, e11, e12, List.length_map]
  generalize hg : lim (headed pure (run L) true _ lp11_3 _ _) _ _ = o
  obtain ⟨x, en, s, rfl, h2⟩ : ∃ x en s, o = some (x, en, s) ∧ _ := by rw [← hg]; exact loop11_3 zs (n : Int) ps h8 rf ((allN (n : Int) ps).length : Int) (sumL (allN (n : Int) ps) : Int) 0 0 (-1) 0 ⟨by omega, by omega⟩ _ _ (by simp only [go_sem, reduceIte, Nat.reduceEqDiff, Nat.reduceAdd, Nat.reduceSub, Nat.reduceLeDiff, Nat.reduceLT, reduceCtorEq, Int.reduceLT, Int.reduceLE, Int.reduceEq, Int.reduceBEq, Int.reduceSub, Int.reduceAdd, Int.reduceMul, Int.reduceNeg, Int.reduceToNat, Nat.reduceMul, Nat.reduceBEq, okRefsB, renCellsB, ren1_LA, okRef_LA, e1, e5, e6, e7, e9, e10, e11, e12, Int.natCast_zero] <;> rfl)
  clear hg
  rw [Nat.sub_zero, Nat.zero_add, hrw] at h2
  have hwi : ((List.range' 0 ps.length).foldl (wstep fun i => thN (allN (n : Int) ps) (refP ps i)) (-1, 0)).1 = worstI (n : Int) ps := rfl
  rw [hwi] at h2
  obtain ⟨rfl, e1, e5, e7, e9, e10, e11, rfl⟩ := h2
  generalize sumL (allN (n : Int) ps) = sm at *
  have hwn : ∀ p : worstI (n : Int) ps < 0, worstV (n : Int) ps = 0 ∧ worstE (n : Int) ps = 12 := fun p => by
    unfold worstV worstE; rw [if_pos h8, if_pos p, if_pos h8, if_pos p]; exact ⟨rfl, rfl⟩
  have hwp : ∀ p : ¬ worstI (n : Int) ps < 0, worstV (n : Int) ps = worstI (n : Int) ps ∧ worstE (n : Int) ps = 0 := fun p => by
    unfold worstV worstE; rw [if_pos h8, if_neg p, if_pos h8, if_neg p]; exact ⟨rfl, rfl⟩
  generalize worstV (n : Int) ps = wv at *
  generalize worstE (n : Int) ps = we at *
  generalize worstI (n : Int) ps = wi at *
  have key : ∀ b : Bool, decide (wi < 0) = b → True := fun _ _ => trivial
  by_cases hps : ps = []
  · have hz0 : ((ps.length : Int) = 0) = True := eq_true (by rw [hps]; rfl)
    by_cases p : wi < 0
    · obtain ⟨rfl, rfl⟩ := hwn p
      have p2 : ((0 : Int) ≤ wi) = False := eq_false (by omega)
      simp only [go_sem, reduceIte, Nat.reduceEqDiff, Nat.reduceAdd, Nat.reduceSub, Nat.reduceLeDiff, Nat.reduceLT, reduceCtorEq, Int.reduceLT, Int.reduceLE, Int.reduceEq, Int.reduceBEq, Int.reduceSub, Int.reduceAdd, Int.reduceMul, Int.reduceNeg, Int.reduceToNat, Nat.reduceMul, Nat.reduceBEq, e1, e5, e7, e9, e10, e11, h40, h38e, p, p2, hz0, List.length_map, c17]
    · obtain ⟨rfl, rfl⟩ := hwp p
      have p2 : ((0 : Int) ≤ wv) = True := eq_true (by omega)
      simp only [go_sem, reduceIte, Nat.reduceEqDiff, Nat.reduceAdd, Nat.reduceSub, Nat.reduceLeDiff, Nat.reduceLT, reduceCtorEq, Int.reduceLT, Int.reduceLE, Int.reduceEq, Int.reduceBEq, Int.reduceSub, Int.reduceAdd, Int.reduceMul, Int.reduceNeg, Int.reduceToNat, Nat.reduceMul, Nat.reduceBEq, e1, e5, e7, e9, e10, e11, h40, h38e, p, p2, hz0, List.length_map, c17]
  · have hlen : 0 < ps.length := List.length_pos_iff.2 hps
    obtain ⟨q0, q1⟩ := hrf
    obtain ⟨r, rfl⟩ := Int.eq_ofNat_of_zero_le q0
    have hk : r % ps.length < ps.length := Nat.mod_lt _ hlen
    have htm : ((r : Int)).tmod (ps.length : Int) = ((r % ps.length : Nat) : Int) := tmod_nat _ _
    have hz0 : ((ps.length : Int) = 0) = False := eq_false (by omega)
    have hwr := wrap64 (r : Int) (by omega) (by omega)
    generalize r % ps.length = k at *
    have h42 := fun st => c42 true (n : Int) ps (k : Int) st
    have h38k := fun st => c38 true (n : Int) ps (k : Int) st
    have hno : ¬ ((k : Int) < 0 ∨ (ps.length : Int) ≤ (k : Int)) := by omega
    have a1 : thrE (n : Int) ps (k : Int) = 0 := by unfold thrE; rw [if_pos h8, if_neg hno]
    have a2 : thrV (n : Int) ps (k : Int) = (thN (allN (n : Int) ps) (refP ps k) : Int) := by unfold thrV; rw [if_pos h8, if_neg hno, Int.toNat_natCast]
    have a3 : woN (n : Int) ps (k : Int) = (n : Int) := by unfold woN; rw [if_pos h8, if_neg hno]
    have a4 : woP (n : Int) ps (k : Int) = cutP ps k := by unfold woP; rw [if_pos h8, if_neg hno, Int.toNat_natCast]
    rw [a1, a3, a4] at h42
    rw [a1, a2] at h38k
    obtain ⟨b1, b2, b3⟩ := cut_good h8 hk
    have h36c := fun st => c36 true (n : Int) (cutP ps k) st
    have hcvc : circV (n : Int) (cutP ps k) = ((allN (n : Int) (cutP ps k)).length : Int) := by unfold circV; rw [if_pos b1]
    rw [hcvc, b1] at h36c
    have hcc := cut_circ (n := n) h8 hk
    have hXe2 : circL n (seeL 7 (cutP ps k)) = allN (n : Int) (cutP ps k) := by unfold allN; rw [Int.toNat_natCast]
    rw [hXe, hXe2] at hcc
    obtain ⟨r1, st1, g, T, h55, hst1, happ⟩ := clone_app ps k hk (by omega)
    have h44 : ∀ st, run L 44 [sl 2 true ((cutP ps k).map prAV), .lst g 2 ((cutP ps k).map prAV)] st = some (B true, st) := fun st => by
      have := c44 true false (cutP ps k) (cutP ps k) (by omega) st
      rw [decide_eq_true rfl] at this
      rw [← this]
      exact run_args (fn := ir44) rfl rfl st rfl
    have hsl := slice_prs true ps k hk
    have hs := succ64 k (by omega)
    have hsl2 : sliceAV 2 (sl 2 true (ps.map prAV)) (some (J (k + 1))) none none = some (sl 2 false ((ps.drop (k + 1)).map prAV)) := by
      have e : sl 2 true (ps.map prAV) = .lst .any 2 (ps.map prAV) := by
        unfold sl; rw [if_neg]; rintro ⟨_, h2⟩
        simp at h2; subst h2; simp at hk
      have h9 : k + 1 ≤ ps.length := by omega
      have h10 : ((0 : Int) ≤ (k : Int) + 1) := by omega
      have h11 : ((k : Int) + 1).toNat = k + 1 := by omega
      rw [e]
      simp [sliceAV, natOr, natOf, tagSlice, sl, List.map_drop, List.take_of_length_le, h9, h10, h11]
    have happ3 : appendAV 2 (keepR 3 0 st1 r1) ((ps.drop (k + 1)).map prAV) ⟨[zs.map B8, bkCells true (n : Int) ps, [I (n : Int), sl 2 true ((cutP ps k).map prAV)]], keepT st1 r1⟩ = some (.lst g 2 ((cutP ps k).map prAV), ⟨[zs.map B8, bkCells true (n : Int) ps, [I (n : Int), sl 2 true ((cutP ps k).map prAV)]], T⟩) := happ [zs.map B8, bkCells true (n : Int) ps, [I (n : Int), sl 2 true ((cutP ps k).map prAV)]]
    simp only [keepR, keepT, ownTop] at happ3
    have hsub : IntKind.i64.wrap (((allN (n : Int) ps).length : Int) - (thN (allN (n : Int) ps) (refP ps k) : Int)) = ((allN (n : Int) (cutP ps k)).length : Int) := by
      rw [wrap64] <;> omega
    generalize (allN (n : Int) (cutP ps k)).length = m1 at *
    generalize thN (allN (n : Int) ps) (refP ps k) = m2 at *
    generalize cutP ps k = P at *
    by_cases p : wi < 0
    · obtain ⟨rfl, rfl⟩ := hwn p
      have p2 : ((0 : Int) ≤ wi) = False := eq_false (by omega)
      simp only [go_sem, reduceIte, Nat.reduceEqDiff, Nat.reduceAdd, Nat.reduceSub, Nat.reduceLeDiff, Nat.reduceLT, reduceCtorEq, Int.reduceLT, Int.reduceLE, Int.reduceEq, Int.reduceBEq, Int.reduceSub, Int.reduceAdd, Int.reduceMul, Int.reduceNeg, Int.reduceToNat, Nat.reduceMul, Nat.reduceBEq, e1, e5, e7, e9, e10, e11, h40, h38e, p, p2, hwr, htm, hz0, h42, h38k, h36c, hsl, h55, hs, hsl2, hst1, happ3, hsub, show shStore 3 [] = [] from rfl, h44, List.length_map, c17]
    · obtain ⟨rfl, rfl⟩ := hwp p
      have p2 : ((0 : Int) ≤ wv) = True := eq_true (by omega)
      simp only [go_sem, reduceIte, Nat.reduceEqDiff, Nat.reduceAdd, Nat.reduceSub, Nat.reduceLeDiff, Nat.reduceLT, reduceCtorEq, Int.reduceLT, Int.reduceLE, Int.reduceEq, Int.reduceBEq, Int.reduceSub, Int.reduceAdd, Int.reduceMul, Int.reduceNeg, Int.reduceToNat, Nat.reduceMul, Nat.reduceBEq, e1, e5, e7, e9, e10, e11, h40, h38e, p, p2, hwr, htm, hz0, h42, h38k, h36c, hsl, h55, hs, hsl2, hst1, happ3, hsub, show shStore 3 [] = [] from rfl, h44, List.length_map, c17]
end Go.Proofs.YtgohohiaaiogcaaDoor.Vm
