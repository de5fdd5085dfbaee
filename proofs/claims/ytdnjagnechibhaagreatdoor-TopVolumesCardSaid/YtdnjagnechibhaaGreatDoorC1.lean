/- What is proved: what each function of this program computes, as equations on the evaluator. No condition. -/
import Derived.Test.YtdnjagnechibhaaGreatDoorLib
import Derived.Test.YtdnjagnechibhaaGreatDoorSy
import Derived.Test.YtdnjagnechibhaaGreatDoorT0
import Derived.WalkKit
import Derived.ProofKit
import Derived.OpenShut
set_option linter.all false
namespace Go.Proofs.YtdnjagnechibhaaGreatDoor.Vm
open Go Go.Ev
set_option maxRecDepth 100000
attribute [local go_sem] cells_any storable_any ren1_any shaped_ptr cells_ptr storable_ptr ren1_ptr shaped_eptr cells_eptr storable_eptr ren1_eptr shaped_rsl cells_rsl storable_rsl ren1_rsl shaped_int cells_int storable_int ren1_int shaped_bool cells_bool storable_bool ren1_bool shaped_nils cells_nils storable_nils ren1_nils shaped_lst cells_lst storable_lst shaped_fn cells_fn storable_fn ren1_fn shaped_ifc cells_ifc storable_ifc ren1_ifc shaped_agg cells_agg storable_agg ren1_agg shaped_tup cells_tup storable_tup ren1_tup shaped_nif cells_nif storable_nif ren1_nif ren1_lany ren1_lfull ren1_lown len_lst len_rsl len_nil load_ptr load_eptr isRsl_lst isRsl_nil isRsl_rsl elems_nil elems_lst elems_sl isRsl_sl body_eq bodyK_normal bodyK_ret resK_some leaveK_some only_some code_skip code_exit code_ret code_ops code_seq code_cond code_block seqK_normal seqK_ret seqK_exit condK_true condK_false blockK_normal blockK_ret blockK_exit opsK_some ops_nil ops_cons wantK_true wantK_false stepK_some pubs pub pub_sl params okRef_loc storable_loc shaped_loc cells_loc isRsl_loc elems_loc len_loc untips untip untip_sl wantedAV setElems withO isAgg_v isAgg_agg isAgg_lst isAgg_ptr isAgg_fn isAgg_ifc isAgg_rsl isAgg_sl isAgg_loc List.replicate_succ List.replicate_zero opAV valAV aval avals ofVal Env.get setD canon gcAV renAll renEnv renStore renCells ren1_sl cutSt okEnv okStore okRefs okRef okRef_sl bin_int bin_bool bin_lst bin_rsl bin_nil bin_agg cellsEq cellEq isShift intOp boolOp min_int max_int beq_int bne resAV tupAV leave_eq fin_sl fin_loc fins fin_v fin_lst fin_agg fin_tup fin_fn storeAV readCells putCells cells_sl shaped_sl storable_sl fieldAddrAV len_sl goI List.getElem?_cons_zero List.getElem?_cons_succ List.getElem?_nil Option.bind_some Option.map_some List.length_cons List.length_nil List.all_cons List.all_nil Bool.and_true Bool.true_and Bool.and_false Bool.false_and and_true true_and and_false false_and Bool.false_eq_true List.set_cons_zero List.set_cons_succ List.append_nil List.nil_append List.cons_append List.take_zero List.take_succ_cons List.take_nil List.drop_zero List.drop_succ_cons List.map_cons List.map_nil decide_true decide_false beq_self_eq_true Bool.not_true Bool.not_false or_true true_or or_false false_or Nat.zero_add Nat.add_zero Nat.le_refl Nat.lt_irrefl decide_eq_true_eq eq_self_iff_true not_true_eq_false not_false_eq_true List.getD_cons_zero code_loop Nat.zero_le Nat.not_lt_zero Bool.true_beq Bool.false_beq beq_true beq_false ge_iff_le gt_iff_lt keepR keepT ownTop Lpure pus Option.map_none assert_ifc assert_nil idxA_ptr idxA_eptr idxV_agg Int.cast_ofNat_Int Nat.mul_one Nat.zero_mul Int.toNat_natCast Int.toNat_zero setParts withO2 hasKey eqnil_sl nenil_sl eqnil_loc nenil_loc map_nil_iff okRefs_ints renCells_ints

abbrev artAV (a : Int × Int) : AV := .agg [I a.1, I a.2]
def artErr (a : Int × Int) : Int := if a.1 < 1 ∨ a.2 < 1 ∨ a.1 > 30 ∨ a.2 > 30 then 1 else if a.1 > a.2 then 7 else 0
def artsErr : List (Int × Int) → Int
  | [] => 0
  | a :: r => if artErr a = 0 then artsErr r else artErr a

theorem index_arts (nl : Bool) (arts : List (Int × Int)) (i : Nat) (h : i < arts.length) : indexSAV 2 (sl 2 nl (arts.map artAV)) (.v (.int .i64 i)) = some (.eptr (.agg [.v (.int .i64 arts[i].1), .v (.int .i64 arts[i].2)]) 0) := by
  rw [index_sl _ _ _ _ _ (by omega) (by simpa using h)]
  simp
theorem succ64 (i : Nat) (h : i < 1000000) : IntKind.i64.wrap ((i : Int) + 1) = ((i + 1 : Nat) : Int) := by
  rw [wrap64] <;> omega

theorem loop85 (nl : Bool) (arts : List (Int × Int)) (room floor : Int) (hlen : arts.length < 1000000) (i : Nat) (hi : i ≤ arts.length) (env : Env) (st : St)
    (hg : gcAV true 1 0 (canon env [1, 16, 17, 18]) st = ([(1, .ptr 0 0), (16, sl 2 nl (arts.map artAV)), (17, I arts.length), (18, I i)], ⟨[[sl 2 nl (arts.map artAV), I room, I floor]], []⟩)) :
    ∃ x e s, lim (headed pure (run L) true [1, 16, 17, 18] lp85_0 1 0) env st = some (x, e, s) ∧
      (if artsErr (arts.drop i) = 0 then x = .exit 1 ∧ e.get 1 = .ptr 0 0 ∧ s = ⟨[[sl 2 nl (arts.map artAV), I room, I floor]], []⟩ else x = .ret ∧ e.get 2 = I (artsErr (arts.drop i))) := by
  refine loop_post (α := Nat) (fun i => arts.length - i) (fun i => i ≤ arts.length) (fun i => ([(1, .ptr 0 0), (16, sl 2 nl (arts.map artAV)), (17, I arts.length), (18, I i)], ⟨[[sl 2 nl (arts.map artAV), I room, I floor]], []⟩))
    (fun i x e s => if artsErr (arts.drop i) = 0 then x = .exit 1 ∧ e.get 1 = .ptr 0 0 ∧ s = ⟨[[sl 2 nl (arts.map artAV), I room, I floor]], []⟩ else x = .ret ∧ e.get 2 = I (artsErr (arts.drop i))) (fun i hi => ?_) i hi env st hg
  by_cases h : i < arts.length
  · have hd : arts.drop i = arts[i] :: arts.drop (i + 1) := List.drop_eq_getElem_cons h
    have hlt : ((i : Int) < (arts.length : Int)) = True := by simp; omega
    have hx := index_arts nl arts i h
    have hs := succ64 i (by omega)
    rw [hd]
    simp only [artsErr]
    generalize arts[i] = a at *
    obtain ⟨l, m⟩ := a
    simp only at hx
    by_cases p1 : min l m < 1
    · have he : artErr (l, m) = 1 := by unfold artErr; simp only; rw [if_pos]; omega
      refine .inr ⟨.ret, _, _, by simp only [go_sem, reduceIte, Nat.reduceEqDiff, Nat.reduceAdd, Nat.reduceSub, Nat.reduceLeDiff, Nat.reduceLT, reduceCtorEq, Int.reduceLT, Int.reduceLE, Int.reduceEq, Int.reduceBEq, Int.reduceSub, Int.reduceAdd, Int.reduceMul, Int.reduceNeg, Int.reduceToNat, Nat.reduceMul, Nat.reduceBEq, lp85_0, hlt, hx, p1] <;> rfl, by simp, ?_⟩
      simp only [he]
      exact ⟨trivial, rfl⟩
    · by_cases p2 : 30 < max l m
      · have he : artErr (l, m) = 1 := by unfold artErr; simp only; rw [if_pos]; omega
        refine .inr ⟨.ret, _, _, by simp only [go_sem, reduceIte, Nat.reduceEqDiff, Nat.reduceAdd, Nat.reduceSub, Nat.reduceLeDiff, Nat.reduceLT, reduceCtorEq, Int.reduceLT, Int.reduceLE, Int.reduceEq, Int.reduceBEq, Int.reduceSub, Int.reduceAdd, Int.reduceMul, Int.reduceNeg, Int.reduceToNat, Nat.reduceMul, Nat.reduceBEq, lp85_0, hlt, hx, p1, p2] <;> rfl, by simp, ?_⟩
        simp only [he]
        exact ⟨trivial, rfl⟩
      · by_cases p3 : m < l
        · have he : artErr (l, m) = 7 := by unfold artErr; simp only; rw [if_neg, if_pos p3]; omega
          refine .inr ⟨.ret, _, _, by simp only [go_sem, reduceIte, Nat.reduceEqDiff, Nat.reduceAdd, Nat.reduceSub, Nat.reduceLeDiff, Nat.reduceLT, reduceCtorEq, Int.reduceLT, Int.reduceLE, Int.reduceEq, Int.reduceBEq, Int.reduceSub, Int.reduceAdd, Int.reduceMul, Int.reduceNeg, Int.reduceToNat, Nat.reduceMul, Nat.reduceBEq, lp85_0, hlt, hx, p1, p2, p3] <;> rfl, by simp, ?_⟩
          simp only [he]
          exact ⟨trivial, rfl⟩
        · have he : artErr (l, m) = 0 := by unfold artErr; simp only; rw [if_neg, if_neg p3]; omega
          refine .inl ⟨i + 1, _, _, h, by omega, by simp only [go_sem, reduceIte, Nat.reduceEqDiff, Nat.reduceAdd, Nat.reduceSub, Nat.reduceLeDiff, Nat.reduceLT, reduceCtorEq, Int.reduceLT, Int.reduceLE, Int.reduceEq, Int.reduceBEq, Int.reduceSub, Int.reduceAdd, Int.reduceMul, Int.reduceNeg, Int.reduceToNat, Nat.reduceMul, Nat.reduceBEq, lp85_0, hlt, hx, p1, p2, p3, hs] <;> rfl, by simp only [go_sem, reduceIte, Nat.reduceEqDiff, Nat.reduceAdd, Nat.reduceSub, Nat.reduceLeDiff, Nat.reduceLT, reduceCtorEq, Int.reduceLT, Int.reduceLE, Int.reduceEq, Int.reduceBEq, Int.reduceSub, Int.reduceAdd, Int.reduceMul, Int.reduceNeg, Int.reduceToNat, Nat.reduceMul, Nat.reduceBEq], fun x e s hq => ?_⟩
          simp only [he, if_true]
          exact hq
  · have hd : arts.drop i = [] := List.drop_eq_nil_of_le (by omega)
    have hlt : ((i : Int) < (arts.length : Int)) = False := by simp; omega
    refine .inr ⟨.exit 1, _, _, by simp only [go_sem, reduceIte, Nat.reduceEqDiff, Nat.reduceAdd, Nat.reduceSub, Nat.reduceLeDiff, Nat.reduceLT, reduceCtorEq, Int.reduceLT, Int.reduceLE, Int.reduceEq, Int.reduceBEq, Int.reduceSub, Int.reduceAdd, Int.reduceMul, Int.reduceNeg, Int.reduceToNat, Nat.reduceMul, Nat.reduceBEq, lp85_0, hlt] <;> rfl, by simp, ?_⟩
    simp only [hd, artsErr, if_true]
    exact ⟨trivial, rfl, trivial⟩

def check (arts : List (Int × Int)) (room floor : Int) : Int :=
  if arts.length = 0 then 4 else if arts.length > 12 then 3 else if artsErr arts = 0 then (if room < 1 ∨ room > 100 ∨ floor < 0 ∨ floor > room then 1 else 0) else artsErr arts

theorem c85 (nl : Bool) (arts : List (Int × Int)) (room floor : Int) (st : St) :
    run L 85 [.agg [sl 2 nl (arts.map artAV), I room, I floor]] st = some (I (check arts room floor), st) := by
  rw [run_pure (fn := ir85) rfl rfl]
  unfold check
  by_cases p1 : arts.length = 0
  · have q1 : ((arts.length : Int) = 0) = True := by simp [p1]
    rw [if_pos p1]
    simp only [ir85, go_sem, reduceIte, Nat.reduceEqDiff, Nat.reduceAdd, Nat.reduceSub, Nat.reduceLeDiff, Nat.reduceLT, reduceCtorEq, Int.reduceLT, Int.reduceLE, Int.reduceEq, Int.reduceBEq, Int.reduceSub, Int.reduceAdd, Int.reduceMul, Int.reduceNeg, Int.reduceToNat, Nat.reduceMul, Nat.reduceBEq, q1, List.length_map]
  · have q1 : ((arts.length : Int) = 0) = False := by simp [p1]
    rw [if_neg p1]
    by_cases p2 : arts.length > 12
    · have q2 : ((12 : Int) < (arts.length : Int)) = True := by simp; omega
      rw [if_pos p2]
      simp only [ir85, go_sem, reduceIte, Nat.reduceEqDiff, Nat.reduceAdd, Nat.reduceSub, Nat.reduceLeDiff, Nat.reduceLT, reduceCtorEq, Int.reduceLT, Int.reduceLE, Int.reduceEq, Int.reduceBEq, Int.reduceSub, Int.reduceAdd, Int.reduceMul, Int.reduceNeg, Int.reduceToNat, Nat.reduceMul, Nat.reduceBEq, q1, q2, List.length_map]
    · have q2 : ((12 : Int) < (arts.length : Int)) = False := by simp; omega
      rw [if_neg p2]
      simp only [ir85, go_sem, reduceIte, Nat.reduceEqDiff, Nat.reduceAdd, Nat.reduceSub, Nat.reduceLeDiff, Nat.reduceLT, reduceCtorEq, Int.reduceLT, Int.reduceLE, Int.reduceEq, Int.reduceBEq, Int.reduceSub, Int.reduceAdd, Int.reduceMul, Int.reduceNeg, Int.reduceToNat, Nat.reduceMul, Nat.reduceBEq, q1, q2, List.length_map]
      generalize hg : lim (headed pure (run L) true [1, 16, 17, 18] lp85_0 1 0) _ _ = o
      obtain ⟨x, e, s, rfl, h2⟩ : ∃ x e s, o = some (x, e, s) ∧ _ := by rw [← hg]; exact loop85 nl arts room floor (by omega) 0 (Nat.zero_le _) _ _ (by simp only [go_sem, reduceIte, Nat.reduceEqDiff, Nat.reduceAdd, Nat.reduceSub, Nat.reduceLeDiff, Nat.reduceLT, reduceCtorEq, Int.reduceLT, Int.reduceLE, Int.reduceEq, Int.reduceBEq, Int.reduceSub, Int.reduceAdd, Int.reduceMul, Int.reduceNeg, Int.reduceToNat, Nat.reduceMul, Nat.reduceBEq] <;> rfl)
      clear hg
      simp only [List.drop_zero] at h2
      by_cases p3 : artsErr arts = 0
      · rw [if_pos p3] at h2
        obtain ⟨rfl, h3, rfl⟩ := h2
        rw [if_pos p3]
        by_cases r1 : room < 1
        · simp only [go_sem, reduceIte, Nat.reduceEqDiff, Nat.reduceAdd, Nat.reduceSub, Nat.reduceLeDiff, Nat.reduceLT, reduceCtorEq, Int.reduceLT, Int.reduceLE, Int.reduceEq, Int.reduceBEq, Int.reduceSub, Int.reduceAdd, Int.reduceMul, Int.reduceNeg, Int.reduceToNat, Nat.reduceMul, Nat.reduceBEq, h3, r1]
        · by_cases r2 : 100 < room
          · simp only [go_sem, reduceIte, Nat.reduceEqDiff, Nat.reduceAdd, Nat.reduceSub, Nat.reduceLeDiff, Nat.reduceLT, reduceCtorEq, Int.reduceLT, Int.reduceLE, Int.reduceEq, Int.reduceBEq, Int.reduceSub, Int.reduceAdd, Int.reduceMul, Int.reduceNeg, Int.reduceToNat, Nat.reduceMul, Nat.reduceBEq, h3, r1, r2]
          · by_cases r3 : floor < 0
            · simp only [go_sem, reduceIte, Nat.reduceEqDiff, Nat.reduceAdd, Nat.reduceSub, Nat.reduceLeDiff, Nat.reduceLT, reduceCtorEq, Int.reduceLT, Int.reduceLE, Int.reduceEq, Int.reduceBEq, Int.reduceSub, Int.reduceAdd, Int.reduceMul, Int.reduceNeg, Int.reduceToNat, Nat.reduceMul, Nat.reduceBEq, h3, r1, r2, r3]
            · by_cases r4 : room < floor <;> simp only [go_sem, reduceIte, Nat.reduceEqDiff, Nat.reduceAdd, Nat.reduceSub, Nat.reduceLeDiff, Nat.reduceLT, reduceCtorEq, Int.reduceLT, Int.reduceLE, Int.reduceEq, Int.reduceBEq, Int.reduceSub, Int.reduceAdd, Int.reduceMul, Int.reduceNeg, Int.reduceToNat, Nat.reduceMul, Nat.reduceBEq, h3, r1, r2, r3, r4]
      · rw [if_neg p3] at h2
        obtain ⟨rfl, h3⟩ := h2
        simp only [go_sem, reduceIte, Nat.reduceEqDiff, Nat.reduceAdd, Nat.reduceSub, Nat.reduceLeDiff, Nat.reduceLT, reduceCtorEq, Int.reduceLT, Int.reduceLE, Int.reduceEq, Int.reduceBEq, Int.reduceSub, Int.reduceAdd, Int.reduceMul, Int.reduceNeg, Int.reduceToNat, Nat.reduceMul, Nat.reduceBEq, h3, p3]
theorem c87 (a : Int × Int) (st : St) : run L 87 [artAV a] st = some (I a.2, st) := by
  rw [run_pure (fn := ir87) rfl rfl]
  simp only [ir87, go_sem, reduceIte, Nat.reduceEqDiff, Nat.reduceAdd, Nat.reduceSub, Nat.reduceLeDiff, Nat.reduceLT, reduceCtorEq, Int.reduceLT, Int.reduceLE, Int.reduceEq, Int.reduceBEq, Int.reduceSub, Int.reduceAdd, Int.reduceMul, Int.reduceNeg, Int.reduceToNat, Nat.reduceMul, Nat.reduceBEq]
/-- The sums of the first elements. -/
def sums : Int → List Int → List Int
  | s, [] => [s]
  | s, x :: r => s :: sums (s + x) r
theorem sums_len (s : Int) (l : List Int) : (sums s l).length = l.length + 1 := by
  induction l generalizing s with
  | nil => rfl
  | cons x r ih => simp [sums, ih]
theorem sums_get (s : Int) (l : List Int) (i : Nat) (h : i < (sums s l).length) : (sums s l)[i] = s + (l.take i).sum := by
  induction l generalizing s i with
  | nil => simp [sums] at h; subst h; simp [sums]
  | cons x r ih =>
    cases i with
    | zero => simp [sums]
    | succ i => simp [sums]; rw [ih]; omega
theorem sums_snoc (s : Int) (l : List Int) (x : Int) : sums s (l ++ [x]) = sums s l ++ [s + l.sum + x] := by
  induction l generalizing s with
  | nil => simp [sums]
  | cons y r ih => simp [sums, ih, Int.add_assoc]

theorem loop86 (g : FuncId) (f : Int × Int → Int) (hp : pure g = true) (hf : ∀ a st, run L g [artAV a] st = some (I (f a), st)) (nl : Bool) (arts : List (Int × Int)) (hlen : arts.length < 1000) (hr : ∀ a ∈ arts, 0 ≤ f a ∧ f a ≤ 100) (room floor : Int) (i : Nat) (hok : i ≤ arts.length) (env : Env) (st : St)
    (hg : gcAV true 1 0 (canon env [1, 5, 10, 11, 12]) st = ([(1, .fn (.func g) [] []), (5, loc 1 1 ((sums 0 ((arts.take i).map f)).map I)), (10, sl 2 nl (arts.map artAV)), (11, I arts.length), (12, I i)], ⟨[[sl 2 nl (arts.map artAV), I room, I floor]], locT 1 ((sums 0 ((arts.take i).map f)).map I)⟩)) :
    ∃ x e s, (lim (headed pure (run L) true [1, 5, 10, 11, 12] lp86_0 1 0) env st) = some (x, e, s) ∧ (x = .exit 0 ∧ e.get 5 = loc 1 1 ((sums 0 (arts.map f)).map I) ∧ s = ⟨[[sl 2 nl (arts.map artAV), I room, I floor]], locT 1 ((sums 0 (arts.map f)).map I)⟩) := by
  refine loop_post (α := Nat) (fun i => arts.length - i) (fun i => i ≤ arts.length) (fun i => ([(1, .fn (.func g) [] []), (5, loc 1 1 ((sums 0 ((arts.take i).map f)).map I)), (10, sl 2 nl (arts.map artAV)), (11, I arts.length), (12, I i)], ⟨[[sl 2 nl (arts.map artAV), I room, I floor]], locT 1 ((sums 0 ((arts.take i).map f)).map I)⟩)) (fun i x e s => x = .exit 0 ∧ e.get 5 = loc 1 1 ((sums 0 (arts.map f)).map I) ∧ s = ⟨[[sl 2 nl (arts.map artAV), I room, I floor]], locT 1 ((sums 0 (arts.map f)).map I)⟩) (fun i hok => ?_) i hok env st hg
  by_cases h : i < arts.length
  · have hlt : ((i : Int) < (arts.length : Int)) = True := by simp; omega
    have hx := index_arts nl arts i h
    have hs := succ64 i (by omega)
    have hfa := hf arts[i]
    have htk : arts.take (i + 1) = arts.take i ++ [arts[i]] := (List.take_append_getElem h).symm
    have hlen2 : ((sums 0 ((arts.take i).map f)).map I).length = i + 1 := by simp [sums_len]; omega
    have hst : (((arts.take (i + 1)).map f)) = (arts.take i).map f ++ [f arts[i]] := by rw [htk, List.map_append]; rfl
    have hb := hr arts[i] (List.getElem_mem h)
    have hsum : ∀ l : List (Int × Int), (∀ a ∈ l, 0 ≤ f a ∧ f a ≤ 100) → 0 ≤ (l.map f).sum ∧ (l.map f).sum ≤ 100 * l.length := by
      intro l hl
      induction l with
      | nil => simp
      | cons a r ih =>
        have h1 := ih (fun x hx => hl x (by simp [hx]))
        have h2 := hl a (by simp)
        simp only [List.map_cons, List.sum_cons, List.length_cons]
        omega
    have hs2 := hsum (arts.take i) (fun a ha => hr a (List.mem_of_mem_take ha))
    have hs3 : (arts.take i).length = i := by simp; omega
    have hidx := index_loc 1 1 ((sums 0 ((arts.take i).map f)).map I) .i64 i (by omega) (by rw [hlen2]; omega)
    have hget : ((sums 0 ((arts.take i).map f)).map I)[(i : Int).toNat]'(by rw [hlen2]; omega) = I ((arts.take i).map f).sum := by
      simp only [List.getElem_map, sums_get, Int.toNat_natCast]
      rw [List.take_of_length_le (by simp [Nat.min_le_left])]
      simp
    rw [hget] at hidx
    have hnew : (sums 0 ((arts.take (i + 1)).map f)).map I = (sums 0 ((arts.take i).map f)).map I ++ [I (((arts.take i).map f).sum + f arts[i])] := by
      rw [hst, sums_snoc]; simp
    have happ := append_loc (z := 1) (k := 1) (xs := (sums 0 ((arts.take i).map f)).map I) (I (((arts.take i).map f).sum + f arts[i])) [[sl 2 nl (arts.map artAV), I room, I floor], [I arts[i].1, I arts[i].2]] (by omega) (by rw [hlen2]; unfold maxGrow; omega)
    rw [← hnew] at happ
    have hw1 : IntKind.i64.wrap (((i + 1 : Nat) : Int) - 1) = (i : Int) := by rw [wrap64] <;> omega
    have hw2 := wrap64 (((arts.take i).map f).sum + f arts[i]) (by omega) (by omega)
    clear hget hnew hst htk
    have hlen3 : ((sums 0 ((arts.take (i + 1)).map f)).map I).length = i + 2 := by simp [sums_len]; omega
    generalize (sums 0 ((arts.take i).map f)).map I = xs at *
    generalize hys : (sums 0 ((arts.take (i + 1)).map f)).map I = ys at happ hlen3
    generalize ((arts.take i).map f).sum = tot at *
    refine .inl ⟨i + 1, _, _, h, by omega, by simp only [go_sem, reduceIte, Nat.reduceEqDiff, Nat.reduceAdd, Nat.reduceSub, Nat.reduceLeDiff, Nat.reduceLT, reduceCtorEq, Int.reduceLT, Int.reduceLE, Int.reduceEq, Int.reduceBEq, Int.reduceSub, Int.reduceAdd, Int.reduceMul, Int.reduceNeg, Int.reduceToNat, Nat.reduceMul, Nat.reduceBEq, lp86_0, hlt, hx, hp, len_loc, hlen2, hw1, hidx, hfa, hw2, happ, hs] <;> rfl, ?_, fun x e s hq => hq⟩
    have hne : (ys.length = 1) = False := by simp; omega
    simp only [go_sem, reduceIte, Nat.reduceEqDiff, Nat.reduceAdd, Nat.reduceSub, Nat.reduceLeDiff, Nat.reduceLT, reduceCtorEq, Int.reduceLT, Int.reduceLE, Int.reduceEq, Int.reduceBEq, Int.reduceSub, Int.reduceAdd, Int.reduceMul, Int.reduceNeg, Int.reduceToNat, Nat.reduceMul, Nat.reduceBEq, ren1_loc, hne, hys]
    simp only [locT, hne, if_false]
  · have hlt : ((i : Int) < (arts.length : Int)) = False := by simp; omega
    have htk : arts.take i = arts := List.take_of_length_le (by omega)
    rw [htk]
    refine .inr ⟨.exit 0, _, _, by simp only [go_sem, reduceIte, Nat.reduceEqDiff, Nat.reduceAdd, Nat.reduceSub, Nat.reduceLeDiff, Nat.reduceLT, reduceCtorEq, Int.reduceLT, Int.reduceLE, Int.reduceEq, Int.reduceBEq, Int.reduceSub, Int.reduceAdd, Int.reduceMul, Int.reduceNeg, Int.reduceToNat, Nat.reduceMul, Nat.reduceBEq, lp86_0, hlt] <;> rfl, by simp, ?_⟩
    exact ⟨rfl, rfl, rfl⟩

theorem c86 (g : FuncId) (f : Int × Int → Int) (hp : pure g = true) (hf : ∀ a st, run L g [artAV a] st = some (I (f a), st)) (nl : Bool) (arts : List (Int × Int)) (hlen : arts.length < 1000) (hr : ∀ a ∈ arts, 0 ≤ f a ∧ f a ≤ 100) (room floor : Int) (st : St) :
    run L 86 [.agg [sl 2 nl (arts.map artAV), I room, I floor], .fn (.func g) [] []] st = some (sl 1 false ((sums 0 (arts.map f)).map I), st) := by
  rw [run_pure (fn := ir86) rfl rfl]
  simp only [ir86, go_sem, reduceIte, Nat.reduceEqDiff, Nat.reduceAdd, Nat.reduceSub, Nat.reduceLeDiff, Nat.reduceLT, reduceCtorEq, Int.reduceLT, Int.reduceLE, Int.reduceEq, Int.reduceBEq, Int.reduceSub, Int.reduceAdd, Int.reduceMul, Int.reduceNeg, Int.reduceToNat, Nat.reduceMul, Nat.reduceBEq, List.length_map]
  generalize hg : lim (headed pure (run L) true [1, 5, 10, 11, 12] lp86_0 1 0) _ _ = o
  obtain ⟨x, e, s, rfl, h2⟩ : ∃ x e s, o = some (x, e, s) ∧ _ := by rw [← hg]; exact loop86 g f hp hf nl arts hlen hr room floor 0 (Nat.zero_le _) _ _ (by simp only [go_sem, reduceIte, Nat.reduceEqDiff, Nat.reduceAdd, Nat.reduceSub, Nat.reduceLeDiff, Nat.reduceLT, reduceCtorEq, Int.reduceLT, Int.reduceLE, Int.reduceEq, Int.reduceBEq, Int.reduceSub, Int.reduceAdd, Int.reduceMul, Int.reduceNeg, Int.reduceToNat, Nat.reduceMul, Nat.reduceBEq, List.take_zero, sums, loc_lit, locT] <;> rfl)
  clear hg
  obtain ⟨rfl, h3, rfl⟩ := h2
  simp only [go_sem, reduceIte, Nat.reduceEqDiff, Nat.reduceAdd, Nat.reduceSub, Nat.reduceLeDiff, Nat.reduceLT, reduceCtorEq, Int.reduceLT, Int.reduceLE, Int.reduceEq, Int.reduceBEq, Int.reduceSub, Int.reduceAdd, Int.reduceMul, Int.reduceNeg, Int.reduceToNat, Nat.reduceMul, Nat.reduceBEq, h3]


def seg (l : List Int) (b e : Int) : Int := l.getD e.toNat 0 - l.getD b.toNat 0
abbrev bookCells (nl : Bool) (arts : List (Int × Int)) (room floor : Int) : List AV := [sl 2 nl (arts.map artAV), I room, I floor]
abbrev bookAV (nl : Bool) (arts : List (Int × Int)) (room floor : Int) : AV := .agg (bookCells nl arts room floor)

/-- The articles of a book that is accepted. -/
theorem artsErr_zero {arts : List (Int × Int)} (h : artsErr arts = 0) : ∀ a ∈ arts, 1 ≤ a.1 ∧ a.1 ≤ a.2 ∧ a.2 ≤ 30 := by
  induction arts with
  | nil => simp
  | cons a r ih =>
    simp only [artsErr] at h
    split at h
    · next h1 =>
      intro x hx
      rcases List.mem_cons.1 hx with rfl | hx
      · unfold artErr at h1
        split at h1
        · omega
        · split at h1 <;> omega
      · exact ih h x hx
    · next h1 => exact absurd h h1

theorem check_zero {arts : List (Int × Int)} {room floor : Int} (h : check arts room floor = 0) :
    0 < arts.length ∧ arts.length ≤ 12 ∧ (∀ a ∈ arts, 1 ≤ a.1 ∧ a.1 ≤ a.2 ∧ a.2 ≤ 30) ∧ 1 ≤ room ∧ room ≤ 100 ∧ 0 ≤ floor ∧ floor ≤ room := by
  unfold check at h
  split at h
  · omega
  · split at h
    · omega
    · split at h
      · next h3 =>
        split at h
        · omega
        · exact ⟨by omega, by omega, artsErr_zero h3, by omega, by omega, by omega, by omega⟩
      · next h3 => exact absurd h h3

theorem sums_bound (l : List Int) (hl : ∀ x ∈ l, 0 ≤ x ∧ x ≤ 100) : ∀ (s : Int), 0 ≤ s → ∀ x ∈ sums s l, 0 ≤ x ∧ x ≤ s + 100 * l.length := by
  induction l with
  | nil => intro s hs x hx; simp [sums] at hx; subst hx; simp; exact hs
  | cons y r ih =>
    intro s hs x hx
    have hy := hl y (by simp)
    simp only [sums, List.mem_cons] at hx
    rcases hx with rfl | hx
    · simp only [List.length_cons]; omega
    · have := ih (fun z hz => hl z (by simp [hz])) (s + y) (by omega) x hx
      simp only [List.length_cons]; omega

abbrev mosts (arts : List (Int × Int)) : List Int := sums 0 (arts.map (·.2))
/-- The lines of some articles, by one of their numbers: the list of the sums. -/
theorem c86' (g : FuncId) (f : Int × Int → Int) (hp : pure g = true) (hf : ∀ a st, run L g [artAV a] st = some (I (f a), st)) (nl : Bool) (arts : List (Int × Int)) (hlen : arts.length < 1000) (hr : ∀ a ∈ arts, 0 ≤ f a ∧ f a ≤ 100) (room floor : Int) (st : St) :
    run L 86 [bookAV nl arts room floor, .fn (.func g) [] []] st = some (sl 1 false ((sums 0 (arts.map f)).map I), st) := c86 g f hp hf nl arts hlen hr room floor st

abbrev two (p : Int × Int) : AV := .tup [I p.1, I p.2]

theorem c143t (nl : Bool) (l : List Int) (hl : ∀ x ∈ l, 0 ≤ x ∧ x ≤ 100000) (b e : Int) (st : St) :
    run L 143 [sl 1 nl (l.map I), I b, I e] st = if 0 ≤ e ∧ e < l.length then if 0 ≤ b ∧ b < l.length then some (I (seg l b e), st) else none else none := by
  rw [run_pure (fn := ir143) rfl rfl]
  have hw : IntKind.i64.wrap (l.getD e.toNat 0 - l.getD b.toNat 0) = seg l b e := by
    have h : ∀ i : Nat, 0 ≤ l.getD i 0 ∧ l.getD i 0 ≤ 100000 := by
      intro i
      rw [List.getD_eq_getElem?_getD]
      by_cases h : i < l.length
      · rw [List.getElem?_eq_getElem h]; exact hl _ (List.getElem_mem h)
      · rw [List.getElem?_eq_none (by omega)]; simp
    have h1 := h e.toNat
    have h2 := h b.toNat
    rw [wrap64 _ (by omega) (by omega)]; rfl
  simp only [ir143, go_sem, reduceIte, Nat.reduceEqDiff, Nat.reduceAdd, Nat.reduceSub, Nat.reduceLeDiff, Nat.reduceLT, reduceCtorEq, Int.reduceLT, Int.reduceLE, Int.reduceEq, Int.reduceBEq, Int.reduceSub, Int.reduceAdd, Int.reduceMul, Int.reduceNeg, Int.reduceToNat, Nat.reduceMul, Nat.reduceBEq, index_rsl_if, setm, make_ints, condK_dec, wantK_dec, not_dec, and_dec, or_dec, seqK_ite, seqK_none, blockK_ite, blockK_none, opsK_ite, opsK_none, stepK_ite, stepK_none, bodyK_ite, bodyK_none, resK_ite, resK_none, leaveK_ite, leaveK_none, only_ite, only_none, bind_ite, gives_some, gives_none, gives_ite, then_normal, then_ret, then_exit, then_none, then_ite, Option.bind_none, Bool.not_eq_true', decide_eq_false_iff_not, Bool.and_eq_true, Bool.or_eq_true, Option.some.injEq, Int.not_lt, Int.not_le, index_sl_if 1 nl I l 0, hw]

def fillFrom (l : List Int) (room : Int) : Nat → Nat → Nat → List Int → Option (List Int)
  | 0, _, _, out => some out
  | k + 1, b, e, out => if room < seg l ((e : Int) - 1) e then none else if room < seg l b e then fillFrom l room k (e - 1) (e + 1) (out ++ [(e : Int) - 1]) else fillFrom l room k b (e + 1) out

theorem loop88 (nl : Bool) (l : List Int) (hl : ∀ x ∈ l, 0 ≤ x ∧ x ≤ 100000) (hlen : l.length < 1000) (room : Int) (k : Nat) (b : Nat) (e : Nat) (out : List Int) (hok : e + k = l.length ∧ 1 ≤ e ∧ b < e ∧ out.length < e) (env : Env) (st : St)
    (hg : gcAV true 0 0 (canon env [0, 1, 5, 6, 7]) st = ([(0, sl 1 nl (l.map I)), (1, I room), (5, loc 1 0 (out.map I)), (6, I b), (7, I e)], ⟨[], locT 0 (out.map I)⟩)) :
    ∃ x_1 en s, lim (headed pure (run L) true [0, 1, 5, 6, 7] lp88_0 0 0) env st = some (x_1, en, s) ∧ (match fillFrom l room k b e out with | none => x_1 = .ret ∧ en.get 4 = .v (.slice none 0 0) | some r => x_1 = .exit 0 ∧ en.get 0 = sl 1 nl (l.map I) ∧ en.get 5 = loc 1 0 (r.map I) ∧ s = ⟨[], locT 0 (r.map I)⟩) := by
  refine loop_wp (α := Nat × Nat × Nat × List Int) (fun ⟨k, b, e, out⟩ => k) (fun ⟨k, b, e, out⟩ => e + k = l.length ∧ 1 ≤ e ∧ b < e ∧ out.length < e) (fun ⟨k, b, e, out⟩ => ([(0, sl 1 nl (l.map I)), (1, I room), (5, loc 1 0 (out.map I)), (6, I b), (7, I e)], ⟨[], locT 0 (out.map I)⟩)) (fun ⟨k, b, e, out⟩ x_1 en s => match fillFrom l room k b e out with | none => x_1 = .ret ∧ en.get 4 = .v (.slice none 0 0) | some r => x_1 = .exit 0 ∧ en.get 0 = sl 1 nl (l.map I) ∧ en.get 5 = loc 1 0 (r.map I) ∧ s = ⟨[], locT 0 (r.map I)⟩) (fun ⟨k, b, e, out⟩ hok => ?_) ⟨k, b, e, out⟩ hok env st hg
  simp only at hok
  have hw : IntKind.i64.wrap ((e : Int) - 1) = (e : Int) - 1 := by rw [wrap64] <;> omega
  have hs := succ64 e (by omega)
  have happ := append_locm (z := 1) (k := 0) I out ((e : Int) - 1) [] (by omega) (by simp [maxGrow]; omega)
  simp only [go_sem, reduceIte, Nat.reduceEqDiff, Nat.reduceAdd, Nat.reduceSub, Nat.reduceLeDiff, Nat.reduceLT, reduceCtorEq, Int.reduceLT, Int.reduceLE, Int.reduceEq, Int.reduceBEq, Int.reduceSub, Int.reduceAdd, Int.reduceMul, Int.reduceNeg, Int.reduceToNat, Nat.reduceMul, Nat.reduceBEq, index_rsl_if, setm, make_ints, condK_dec, wantK_dec, not_dec, and_dec, or_dec, seqK_ite, seqK_none, blockK_ite, blockK_none, opsK_ite, opsK_none, stepK_ite, stepK_none, bodyK_ite, bodyK_none, resK_ite, resK_none, leaveK_ite, leaveK_none, only_ite, only_none, bind_ite, gives_some, gives_none, gives_ite, then_normal, then_ret, then_exit, then_none, then_ite, Option.bind_none, Bool.not_eq_true', decide_eq_false_iff_not, Bool.and_eq_true, Bool.or_eq_true, Option.some.injEq, Int.not_lt, Int.not_le, lp88_0, c143t nl l hl, hw, hs, happ, List.length_map]
  refine ⟨fun h1 => ⟨fun _ => ⟨fun _ => ?_, by omega⟩, by omega⟩, fun h1 => ?_⟩
  · obtain ⟨k', rfl⟩ : ∃ k', k = k' + 1 := ⟨k - 1, by omega⟩
    refine ⟨fun p => ?_, fun p => ⟨fun _ => ⟨fun _ => ⟨fun q => ?_, fun q => ?_⟩, by omega⟩, by omega⟩⟩
    · simp only [fillFrom, if_pos p]
    · refine ⟨(k', e - 1, e + 1, out ++ [(e : Int) - 1]), by simp only [go_sem, reduceIte, Nat.reduceEqDiff, Nat.reduceAdd, Nat.reduceSub, Nat.reduceLeDiff, Nat.reduceLT, reduceCtorEq, Int.reduceLT, Int.reduceLE, Int.reduceEq, Int.reduceBEq, Int.reduceSub, Int.reduceAdd, Int.reduceMul, Int.reduceNeg, Int.reduceToNat, Nat.reduceMul, Nat.reduceBEq, ren1_locm, loc_tips, locT_eq, show ((e - 1 : Nat) : Int) = (e : Int) - 1 by omega] <;> rfl, ?_, ?_, fun x en s hq => ?_⟩
      · simp; omega
      · simp
      · simp only [fillFrom, if_neg (Int.not_lt.2 p), if_pos q]; exact hq
    · refine ⟨(k', b, e + 1, out), by simp only [go_sem, reduceIte, Nat.reduceEqDiff, Nat.reduceAdd, Nat.reduceSub, Nat.reduceLeDiff, Nat.reduceLT, reduceCtorEq, Int.reduceLT, Int.reduceLE, Int.reduceEq, Int.reduceBEq, Int.reduceSub, Int.reduceAdd, Int.reduceMul, Int.reduceNeg, Int.reduceToNat, Nat.reduceMul, Nat.reduceBEq, ren1_locm, loc_tips, locT_eq] <;> rfl, ?_, ?_, fun x en s hq => ?_⟩
      · simp; omega
      · simp
      · simp only [fillFrom, if_neg (Int.not_lt.2 p), if_neg (Int.not_lt.2 q)]; exact hq
  · obtain rfl : k = 0 := by omega
    simp [fillFrom]

/-- The ends of the cut in which each volume has as many articles as it can; none: there is none. -/
def filled (l : List Int) (room : Int) : List Int :=
  match fillFrom l room (l.length - 1) 0 1 [] with
  | none => []
  | some r => r ++ [(l.length : Int) - 1]

theorem fillFrom_len (l : List Int) (room : Int) : ∀ k b e out r, fillFrom l room k b e out = some r → r.length ≤ out.length + k
  | 0, b, e, out, r, h => by simp [fillFrom] at h; rw [← h]; omega
  | k + 1, b, e, out, r, h => by
    simp only [fillFrom] at h
    split at h
    · simp at h
    · split at h
      · have := fillFrom_len l room k _ _ _ _ h; simp at this; omega
      · have := fillFrom_len l room k _ _ _ _ h; omega

theorem c88 (nl : Bool) (l : List Int) (hl : ∀ x ∈ l, 0 ≤ x ∧ x ≤ 100000) (h1 : 1 ≤ l.length) (hlen : l.length < 1000) (room : Int) (st : St) :
    run L 88 [sl 1 nl (l.map I), I room] st = some (sl 1 true ((filled l room).map I), st) := by
  rw [run_pure (fn := ir88) rfl rfl]
  have hw : IntKind.i64.wrap ((l.length : Int) - 1) = (l.length : Int) - 1 := by rw [wrap64] <;> omega
  simp only [ir88, go_sem, reduceIte, Nat.reduceEqDiff, Nat.reduceAdd, Nat.reduceSub, Nat.reduceLeDiff, Nat.reduceLT, reduceCtorEq, Int.reduceLT, Int.reduceLE, Int.reduceEq, Int.reduceBEq, Int.reduceSub, Int.reduceAdd, Int.reduceMul, Int.reduceNeg, Int.reduceToNat, Nat.reduceMul, Nat.reduceBEq]
  generalize hg : lim (headed pure (run L) true _ lp88_0 _ _) _ _ = o
  obtain ⟨x, en, s, rfl, h2⟩ : ∃ x en s, o = some (x, en, s) ∧ _ := by rw [← hg]; exact loop88 nl l hl hlen room (l.length - 1) 0 1 [] ⟨by omega, by omega, by omega, by simp⟩ _ _ (by simp only [go_sem, reduceIte, Nat.reduceEqDiff, Nat.reduceAdd, Nat.reduceSub, Nat.reduceLeDiff, Nat.reduceLT, reduceCtorEq, Int.reduceLT, Int.reduceLE, Int.reduceEq, Int.reduceBEq, Int.reduceSub, Int.reduceAdd, Int.reduceMul, Int.reduceNeg, Int.reduceToNat, Nat.reduceMul, Nat.reduceBEq, loc_start, locT] <;> rfl)
  clear hg
  unfold filled
  split at h2
  · next hf =>
    obtain ⟨rfl, h3⟩ := h2
    simp only [go_sem, reduceIte, Nat.reduceEqDiff, Nat.reduceAdd, Nat.reduceSub, Nat.reduceLeDiff, Nat.reduceLT, reduceCtorEq, Int.reduceLT, Int.reduceLE, Int.reduceEq, Int.reduceBEq, Int.reduceSub, Int.reduceAdd, Int.reduceMul, Int.reduceNeg, Int.reduceToNat, Nat.reduceMul, Nat.reduceBEq, h3, hf, ← sl_nil]
  · next r hf =>
    obtain ⟨rfl, h3, h4, rfl⟩ := h2
    have hk := fillFrom_len _ _ _ _ _ _ _ hf
    have happ := append_locm (z := 1) (k := 0) I r ((l.length : Int) - 1) [] (by omega) (by simp at hk; simp [maxGrow]; omega)
    simp only [go_sem, reduceIte, Nat.reduceEqDiff, Nat.reduceAdd, Nat.reduceSub, Nat.reduceLeDiff, Nat.reduceLT, reduceCtorEq, Int.reduceLT, Int.reduceLE, Int.reduceEq, Int.reduceBEq, Int.reduceSub, Int.reduceAdd, Int.reduceMul, Int.reduceNeg, Int.reduceToNat, Nat.reduceMul, Nat.reduceBEq, h3, h4, hf, hw, happ, List.length_map]


/-- The sums of the lines of a book that is accepted. -/
theorem mosts_ok {arts : List (Int × Int)} {room floor : Int} (h : check arts room floor = 0) :
    (∀ x ∈ mosts arts, 0 ≤ x ∧ x ≤ 100000) ∧ (mosts arts).length = arts.length + 1 ∧ 1 ≤ arts.length ∧ arts.length ≤ 12 := by
  obtain ⟨k1, k2, k3, _⟩ := check_zero h
  refine ⟨fun x hx => ?_, by simp [sums_len], by omega, by omega⟩
  have hb := sums_bound (arts.map (·.2)) (by intro x hx; obtain ⟨a, ha, rfl⟩ := List.mem_map.1 hx; have := k3 a ha; omega) 0 (by omega) x hx
  simp at hb; omega
theorem cmost (nl : Bool) {arts : List (Int × Int)} {room floor : Int} (h : check arts room floor = 0) (st : St) :
    run L 86 [bookAV nl arts room floor, .fn (.func 87) [] []] st = some (sl 1 false ((mosts arts).map I), st) := by
  obtain ⟨k1, k2, k3, _⟩ := check_zero h
  exact c86' 87 (·.2) rfl c87 nl arts (by omega) (fun a ha => by have := k3 a ha; omega) room floor st
/-- A list and an error. -/
abbrev lerr (p : List Int × Int) : AV := .tup [sl 1 true (p.1.map I), I p.2]

def fewestV (arts : List (Int × Int)) (room floor : Int) : List Int × Int :=
  if check arts room floor = 0 then (if filled (mosts arts) room = [] then ([], 12) else (filled (mosts arts) room, 0)) else ([], check arts room floor)

theorem c33 (nl : Bool) (arts : List (Int × Int)) (room floor : Int) (st : St) :
    run L 33 [bookAV nl arts room floor] st = some (lerr (fewestV arts room floor), st) := by
  rw [run_pure (fn := ir33) rfl rfl]
  have hc := fun st => c85 nl arts room floor st
  unfold fewestV
  by_cases p0 : check arts room floor = 0
  · obtain ⟨g1, g2, g3, g4⟩ := mosts_ok p0
    have h75 := fun st => cmost nl p0 st
    have h82 := fun st => c88 false (mosts arts) g1 (by omega) (by omega) room st
    by_cases p1 : filled (mosts arts) room = []
    · simp only [ir33, go_sem, reduceIte, Nat.reduceEqDiff, Nat.reduceAdd, Nat.reduceSub, Nat.reduceLeDiff, Nat.reduceLT, reduceCtorEq, Int.reduceLT, Int.reduceLE, Int.reduceEq, Int.reduceBEq, Int.reduceSub, Int.reduceAdd, Int.reduceMul, Int.reduceNeg, Int.reduceToNat, Nat.reduceMul, Nat.reduceBEq, hc, p0, h75, h82, p1] <;> rfl
    · simp only [ir33, go_sem, reduceIte, Nat.reduceEqDiff, Nat.reduceAdd, Nat.reduceSub, Nat.reduceLeDiff, Nat.reduceLT, reduceCtorEq, Int.reduceLT, Int.reduceLE, Int.reduceEq, Int.reduceBEq, Int.reduceSub, Int.reduceAdd, Int.reduceMul, Int.reduceNeg, Int.reduceToNat, Nat.reduceMul, Nat.reduceBEq, hc, p0, h75, h82, p1]
  · simp only [ir33, go_sem, reduceIte, Nat.reduceEqDiff, Nat.reduceAdd, Nat.reduceSub, Nat.reduceLeDiff, Nat.reduceLT, reduceCtorEq, Int.reduceLT, Int.reduceLE, Int.reduceEq, Int.reduceBEq, Int.reduceSub, Int.reduceAdd, Int.reduceMul, Int.reduceNeg, Int.reduceToNat, Nat.reduceMul, Nat.reduceBEq, hc, p0] <;> rfl

/-- The least number from low on with a property that is found by halving. -/
def halve (p : Int → Prop) [DecidablePred p] : Nat → Int → Int → Int
  | 0, low, _ => low
  | k + 1, low, high => if low < high then (if p ((low + high) / 2) then halve p k low ((low + high) / 2) else halve p k ((low + high) / 2 + 1) high) else low

abbrev fits (l : List Int) (v : Int) (room : Int) : Prop := filled l room ≠ [] ∧ ((filled l room).length : Int) ≤ v

theorem loop34 (nl : Bool) (l : List Int) (hl : ∀ x ∈ l, 0 ≤ x ∧ x ≤ 100000) (h1 : 1 ≤ l.length) (hlen : l.length < 1000) (v : Int) (n2 : Bool) (arts : List (Int × Int)) (r0 floor : Int) (k : Nat) (low : Int) (high : Int) (hok : 1 ≤ low ∧ 0 ≤ high ∧ high ≤ 1000000 ∧ low ≤ 1000000 ∧ high - low ≤ k) (env : Env) (st : St)
    (hg : gcAV true 1 0 (canon env [1, 7, 8, 9]) st = ([(1, I v), (7, sl 1 nl (l.map I)), (8, I low), (9, I high)], ⟨[bookCells n2 arts r0 floor], []⟩)) :
    ∃ x_1 en s, lim (headed pure (run L) true [1, 7, 8, 9] lp34_0 1 0) env st = some (x_1, en, s) ∧ (x_1 = .exit 1 ∧ en.get 8 = I (halve (fits l v) k low high)) := by
  refine loop_wp (α := Nat × Int × Int) (fun ⟨k, low, high⟩ => k) (fun ⟨k, low, high⟩ => 1 ≤ low ∧ 0 ≤ high ∧ high ≤ 1000000 ∧ low ≤ 1000000 ∧ high - low ≤ k) (fun ⟨k, low, high⟩ => ([(1, I v), (7, sl 1 nl (l.map I)), (8, I low), (9, I high)], ⟨[bookCells n2 arts r0 floor], []⟩)) (fun ⟨k, low, high⟩ x_1 en s => x_1 = .exit 1 ∧ en.get 8 = I (halve (fits l v) k low high)) (fun ⟨k, low, high⟩ hok => ?_) ⟨k, low, high⟩ hok env st hg
  simp only at hok
  have h82 := fun room st => c88 nl l hl h1 hlen room st
  by_cases q : low < high
  · obtain ⟨k', rfl⟩ : ∃ k', k = k' + 1 := ⟨k - 1, by omega⟩
    have hw := wrap64 (low + high) (by omega) (by omega)
    have hd : (low + high).tdiv 2 = (low + high) / 2 := Int.tdiv_eq_ediv_of_nonneg (by omega)
    have hw2 := wrap64 ((low + high) / 2) (by omega) (by omega)
    have hw3 := wrap64 ((low + high) / 2 + 1) (by omega) (by omega)
    have hb1 : (low + high) / 2 < high := by omega
    have hb2 : low ≤ (low + high) / 2 := by omega
    by_cases p1 : filled l ((low + high) / 2) = []
    · simp only [go_sem, reduceIte, Nat.reduceEqDiff, Nat.reduceAdd, Nat.reduceSub, Nat.reduceLeDiff, Nat.reduceLT, reduceCtorEq, Int.reduceLT, Int.reduceLE, Int.reduceEq, Int.reduceBEq, Int.reduceSub, Int.reduceAdd, Int.reduceMul, Int.reduceNeg, Int.reduceToNat, Nat.reduceMul, Nat.reduceBEq, index_rsl_if, setm, make_ints, condK_dec, wantK_dec, not_dec, and_dec, or_dec, seqK_ite, seqK_none, blockK_ite, blockK_none, opsK_ite, opsK_none, stepK_ite, stepK_none, bodyK_ite, bodyK_none, resK_ite, resK_none, leaveK_ite, leaveK_none, only_ite, only_none, bind_ite, gives_some, gives_none, gives_ite, then_normal, then_ret, then_exit, then_none, then_ite, Option.bind_none, Bool.not_eq_true', decide_eq_false_iff_not, Bool.and_eq_true, Bool.or_eq_true, Option.some.injEq, Int.not_lt, Int.not_le, lp34_0, q, hw, hd, hw2, hw3, h82, p1]
      refine ⟨(k', (low + high) / 2 + 1, high), by simp only [go_sem, reduceIte, Nat.reduceEqDiff, Nat.reduceAdd, Nat.reduceSub, Nat.reduceLeDiff, Nat.reduceLT, reduceCtorEq, Int.reduceLT, Int.reduceLE, Int.reduceEq, Int.reduceBEq, Int.reduceSub, Int.reduceAdd, Int.reduceMul, Int.reduceNeg, Int.reduceToNat, Nat.reduceMul, Nat.reduceBEq, ren1_locm, loc_tips, locT_eq] <;> rfl, ?_, ?_, fun x en s hq => ?_⟩
      · simp only; omega
      · simp
      · simp only [halve, if_pos q, fits, p1, ne_eq, not_true_eq_false, false_and, if_false]; exact hq
    · by_cases p2 : ((filled l ((low + high) / 2)).length : Int) ≤ v
      · simp only [go_sem, reduceIte, Nat.reduceEqDiff, Nat.reduceAdd, Nat.reduceSub, Nat.reduceLeDiff, Nat.reduceLT, reduceCtorEq, Int.reduceLT, Int.reduceLE, Int.reduceEq, Int.reduceBEq, Int.reduceSub, Int.reduceAdd, Int.reduceMul, Int.reduceNeg, Int.reduceToNat, Nat.reduceMul, Nat.reduceBEq, index_rsl_if, setm, make_ints, condK_dec, wantK_dec, not_dec, and_dec, or_dec, seqK_ite, seqK_none, blockK_ite, blockK_none, opsK_ite, opsK_none, stepK_ite, stepK_none, bodyK_ite, bodyK_none, resK_ite, resK_none, leaveK_ite, leaveK_none, only_ite, only_none, bind_ite, gives_some, gives_none, gives_ite, then_normal, then_ret, then_exit, then_none, then_ite, Option.bind_none, Bool.not_eq_true', decide_eq_false_iff_not, Bool.and_eq_true, Bool.or_eq_true, Option.some.injEq, Int.not_lt, Int.not_le, lp34_0, q, hw, hd, hw2, hw3, h82, p1, p2, List.length_map]
        refine ⟨(k', low, (low + high) / 2), by simp only [go_sem, reduceIte, Nat.reduceEqDiff, Nat.reduceAdd, Nat.reduceSub, Nat.reduceLeDiff, Nat.reduceLT, reduceCtorEq, Int.reduceLT, Int.reduceLE, Int.reduceEq, Int.reduceBEq, Int.reduceSub, Int.reduceAdd, Int.reduceMul, Int.reduceNeg, Int.reduceToNat, Nat.reduceMul, Nat.reduceBEq, ren1_locm, loc_tips, locT_eq] <;> rfl, ?_, ?_, fun x en s hq => ?_⟩
        · simp only; omega
        · simp
        · simp only [halve, if_pos q, fits, p1, ne_eq, not_false_eq_true, p2, true_and, if_true]; exact hq
      · simp only [go_sem, reduceIte, Nat.reduceEqDiff, Nat.reduceAdd, Nat.reduceSub, Nat.reduceLeDiff, Nat.reduceLT, reduceCtorEq, Int.reduceLT, Int.reduceLE, Int.reduceEq, Int.reduceBEq, Int.reduceSub, Int.reduceAdd, Int.reduceMul, Int.reduceNeg, Int.reduceToNat, Nat.reduceMul, Nat.reduceBEq, index_rsl_if, setm, make_ints, condK_dec, wantK_dec, not_dec, and_dec, or_dec, seqK_ite, seqK_none, blockK_ite, blockK_none, opsK_ite, opsK_none, stepK_ite, stepK_none, bodyK_ite, bodyK_none, resK_ite, resK_none, leaveK_ite, leaveK_none, only_ite, only_none, bind_ite, gives_some, gives_none, gives_ite, then_normal, then_ret, then_exit, then_none, then_ite, Option.bind_none, Bool.not_eq_true', decide_eq_false_iff_not, Bool.and_eq_true, Bool.or_eq_true, Option.some.injEq, Int.not_lt, Int.not_le, lp34_0, q, hw, hd, hw2, hw3, h82, p1, p2, List.length_map]
        refine ⟨(k', (low + high) / 2 + 1, high), by simp only [go_sem, reduceIte, Nat.reduceEqDiff, Nat.reduceAdd, Nat.reduceSub, Nat.reduceLeDiff, Nat.reduceLT, reduceCtorEq, Int.reduceLT, Int.reduceLE, Int.reduceEq, Int.reduceBEq, Int.reduceSub, Int.reduceAdd, Int.reduceMul, Int.reduceNeg, Int.reduceToNat, Nat.reduceMul, Nat.reduceBEq, ren1_locm, loc_tips, locT_eq] <;> rfl, ?_, ?_, fun x en s hq => ?_⟩
        · simp only; omega
        · simp
        · simp only [halve, if_pos q, fits, p1, ne_eq, not_false_eq_true, p2, true_and, if_false]; exact hq
  · simp only [go_sem, reduceIte, Nat.reduceEqDiff, Nat.reduceAdd, Nat.reduceSub, Nat.reduceLeDiff, Nat.reduceLT, reduceCtorEq, Int.reduceLT, Int.reduceLE, Int.reduceEq, Int.reduceBEq, Int.reduceSub, Int.reduceAdd, Int.reduceMul, Int.reduceNeg, Int.reduceToNat, Nat.reduceMul, Nat.reduceBEq, index_rsl_if, setm, make_ints, condK_dec, wantK_dec, not_dec, and_dec, or_dec, seqK_ite, seqK_none, blockK_ite, blockK_none, opsK_ite, opsK_none, stepK_ite, stepK_none, bodyK_ite, bodyK_none, resK_ite, resK_none, leaveK_ite, leaveK_none, only_ite, only_none, bind_ite, gives_some, gives_none, gives_ite, then_normal, then_ret, then_exit, then_none, then_ite, Option.bind_none, Bool.not_eq_true', decide_eq_false_iff_not, Bool.and_eq_true, Bool.or_eq_true, Option.some.injEq, Int.not_lt, Int.not_le, lp34_0, q]
    cases k <;> simp [halve, q]

def levelV (arts : List (Int × Int)) (room floor v : Int) : Int × Int :=
  if check arts room floor = 0 then
    (if v < 1 ∨ (arts.length : Int) < v then (0, 1) else (halve (fits (mosts arts) v) 100000 1 ((mosts arts).getD arts.length 0), 0))
  else (0, check arts room floor)

theorem c34 (nl : Bool) (arts : List (Int × Int)) (room floor v : Int) (st : St) :
    run L 34 [bookAV nl arts room floor, I v] st = some (two (levelV arts room floor v), st) := by
  rw [run_pure (fn := ir34) rfl rfl]
  have hc := fun st => c85 nl arts room floor st
  unfold levelV
  by_cases p0 : check arts room floor = 0
  · rw [if_pos p0]
    obtain ⟨g1, g2, g3, g4⟩ := mosts_ok p0
    have h75 := fun st => cmost nl p0 st
    have hw : IntKind.i64.wrap (((arts.length + 1 : Nat) : Int) - 1) = (arts.length : Int) := by rw [wrap64] <;> omega
    have hi := index_sl 1 false ((mosts arts).map I) .i64 arts.length (by omega) (by simp [g2])
    have hm : ((mosts arts).map I)[(arts.length : Int).toNat]'(by simp [g2]) = I ((mosts arts).getD arts.length 0) := by
      simp [List.getD_eq_getElem?_getD, List.getElem?_eq_getElem (show arts.length < (mosts arts).length by omega)]
    rw [hm] at hi
    have hb : 0 ≤ (mosts arts).getD arts.length 0 ∧ (mosts arts).getD arts.length 0 ≤ 100000 := by
      rw [List.getD_eq_getElem?_getD, List.getElem?_eq_getElem (show arts.length < (mosts arts).length by omega)]
      exact g1 _ (List.getElem_mem _)
    by_cases p1 : v < 1
    · rw [if_pos (.inl p1)]
      simp only [ir34, go_sem, reduceIte, Nat.reduceEqDiff, Nat.reduceAdd, Nat.reduceSub, Nat.reduceLeDiff, Nat.reduceLT, reduceCtorEq, Int.reduceLT, Int.reduceLE, Int.reduceEq, Int.reduceBEq, Int.reduceSub, Int.reduceAdd, Int.reduceMul, Int.reduceNeg, Int.reduceToNat, Nat.reduceMul, Nat.reduceBEq, hc, p0, p1]
    · by_cases p2 : (arts.length : Int) < v
      · rw [if_pos (.inr p2)]
        simp only [ir34, go_sem, reduceIte, Nat.reduceEqDiff, Nat.reduceAdd, Nat.reduceSub, Nat.reduceLeDiff, Nat.reduceLT, reduceCtorEq, Int.reduceLT, Int.reduceLE, Int.reduceEq, Int.reduceBEq, Int.reduceSub, Int.reduceAdd, Int.reduceMul, Int.reduceNeg, Int.reduceToNat, Nat.reduceMul, Nat.reduceBEq, hc, p0, p1, p2, List.length_map]
      · rw [if_neg (by omega)]
        simp only [ir34, go_sem, reduceIte, Nat.reduceEqDiff, Nat.reduceAdd, Nat.reduceSub, Nat.reduceLeDiff, Nat.reduceLT, reduceCtorEq, Int.reduceLT, Int.reduceLE, Int.reduceEq, Int.reduceBEq, Int.reduceSub, Int.reduceAdd, Int.reduceMul, Int.reduceNeg, Int.reduceToNat, Nat.reduceMul, Nat.reduceBEq, hc, p0, p1, p2, List.length_map, h75, g2, hw, hi]
        generalize hg : lim (headed pure (run L) true _ lp34_0 _ _) _ _ = o
        obtain ⟨x, en, s, rfl, h2⟩ : ∃ x en s, o = some (x, en, s) ∧ _ := by rw [← hg]; exact loop34 false (mosts arts) g1 (by omega) (by omega) v nl arts room floor 100000 1 ((mosts arts).getD arts.length 0) ⟨by omega, by omega, by omega, by omega, by omega⟩ _ _ (by simp only [go_sem, reduceIte, Nat.reduceEqDiff, Nat.reduceAdd, Nat.reduceSub, Nat.reduceLeDiff, Nat.reduceLT, reduceCtorEq, Int.reduceLT, Int.reduceLE, Int.reduceEq, Int.reduceBEq, Int.reduceSub, Int.reduceAdd, Int.reduceMul, Int.reduceNeg, Int.reduceToNat, Nat.reduceMul, Nat.reduceBEq] <;> rfl)
        clear hg
        obtain ⟨rfl, h3⟩ := h2
        simp only [go_sem, reduceIte, Nat.reduceEqDiff, Nat.reduceAdd, Nat.reduceSub, Nat.reduceLeDiff, Nat.reduceLT, reduceCtorEq, Int.reduceLT, Int.reduceLE, Int.reduceEq, Int.reduceBEq, Int.reduceSub, Int.reduceAdd, Int.reduceMul, Int.reduceNeg, Int.reduceToNat, Nat.reduceMul, Nat.reduceBEq, h3]
  · rw [if_neg p0]
    simp only [ir34, go_sem, reduceIte, Nat.reduceEqDiff, Nat.reduceAdd, Nat.reduceSub, Nat.reduceLeDiff, Nat.reduceLT, reduceCtorEq, Int.reduceLT, Int.reduceLE, Int.reduceEq, Int.reduceBEq, Int.reduceSub, Int.reduceAdd, Int.reduceMul, Int.reduceNeg, Int.reduceToNat, Nat.reduceMul, Nat.reduceBEq, hc, p0]


/-! ### a list of numbers that grows in a struct -/
def liAV (k : Nat) (o : List Int) : AV := loc 1 k (o.map I)
def liT (k : Nat) (o : List Int) : List Nat := locT k (o.map I)
def liAcc (k : Nat) (o : List Int) : List (Nat × Nat) := if (o.map I).length = k then [] else [(0, (o.map I).length)]
theorem okRef_li (n k : Nat) (o : List Int) : okRef n (liAV k o) = true := okRef_loc _ _ _ _
theorem storable_li (k : Nat) (o : List Int) : storable (liAV k o) = true := storable_loc _ _ _
theorem shaped_li (k : Nat) (o : List Int) : (liAV k o).shaped = true := shaped_loc _ _ _
theorem cells_li (k : Nat) (o : List Int) : (liAV k o).cells = [liAV k o] := cells_loc _ _ _
theorem ren1_li (k : Nat) (o : List Int) : ren1 0 (liT k o) [] (liAV k o) = (liAV k o, liAcc k o) := ren1_loc (k := k) 1 (o.map I)
theorem liAcc_snd (k : Nat) (o : List Int) : (liAcc k o).map (fun x => x.2) = liT k o := by
  unfold liAcc liT locT; split <;> rfl
theorem fin_li1 (st : St) (o : List Int) : fin st (liAV 1 o) = sl 1 false (o.map I) := fin_loc st 1 1 _
theorem fin_li0 (st : St) (o : List Int) : fin st (liAV 0 o) = sl 1 true (o.map I) := fin_loc st 1 0 _
theorem pub_li1 (o : List Int) : pub (liAV 1 o) = sl 1 false (o.map I) := pub_loc 1 1 _
theorem pub_li0 (o : List Int) : pub (liAV 0 o) = sl 1 true (o.map I) := pub_loc 1 0 _
theorem append_li (k : Nat) (o : List Int) (x : Int) (s : List (List AV)) (hk : k ≤ o.length) (h : o.length < 1000000) : appendAV 1 (liAV k o) [I x] ⟨s, liT k o⟩ = some (liAV k (o ++ [x]), ⟨s, liT k (o ++ [x])⟩) :=
  append_locm (z := 1) (k := k) I o x s hk (by unfold maxGrow; omega)
theorem index_li1 (o : List Int) (i : Nat) (h : i < o.length) : indexSAV 1 (liAV 1 o) (.v (.int .i64 i)) = some (.eptr (I (o.getD i 0)) 0) := by
  unfold liAV
  rw [index_loc_if (d := 0) 1 1 I o .i64 i (.inr (by omega)), if_pos (by omega)]
  simp
theorem li_lit (x : Int) : .lst .full 1 [I x] = liAV 1 [x] := by simp [liAV, loc]
theorem liT_lit (x : Int) : liT 1 [x] = [] := rfl
theorem li_start : .v (.slice none 0 0) = liAV 0 [] := rfl
theorem liT_nil : liT 0 [] = [] := rfl
attribute [local go_sem] okRef_li storable_li shaped_li cells_li fin_li1 fin_li0 pub_li1 pub_li0

/-! ### a text -/
abbrev txAV (nl : Bool) (w : Int) (ws : List Int) : AV := .agg [I w, sl 1 nl (ws.map I)]
structure TextOk (w : Int) (ws : List Int) : Prop where
  w1 : 1 ≤ w
  w2 : w ≤ 40
  n1 : 0 < ws.length
  n2 : ws.length ≤ 10
  each : ∀ x ∈ ws, 1 ≤ x ∧ x ≤ w
/-- The sums of words and blanks. -/
abbrev lsum (ws : List Int) : List Int := sums 0 (ws.map (· + 1))
theorem lsum_len (ws : List Int) : (lsum ws).length = ws.length + 1 := by simp [sums_len]
theorem lsum_take (ws : List Int) (i : Nat) (h : i < ws.length) : lsum (ws.take (i + 1)) = lsum (ws.take i) ++ [(lsum (ws.take i)).getD i 0 + ws[i] + 1] := by
  have ht : ws.take (i + 1) = ws.take i ++ [ws[i]] := (List.take_append_getElem h).symm
  unfold lsum
  rw [ht, List.map_append, List.map_cons, List.map_nil, sums_snoc]
  have hl : i < (sums 0 ((ws.take i).map (· + 1))).length := by simp [sums_len]; omega
  have e : (sums 0 ((ws.take i).map (· + 1))).getD i 0 = ((ws.take i).map (· + 1)).sum := by
    rw [List.getD_eq_getElem?_getD, List.getElem?_eq_getElem hl, Option.getD_some, sums_get, List.take_of_length_le (l := (ws.take i).map (· + 1)) (by rw [List.length_map, List.length_take]; omega)]
    omega
  rw [e]
  congr 2
  omega
theorem lsum_bound {w : Int} {ws : List Int} (h : ∀ x ∈ ws, 1 ≤ x ∧ x ≤ w) (hw : w ≤ 40) : ∀ x ∈ lsum ws, 0 ≤ x ∧ x ≤ 100 * ws.length := by
  intro x hx
  have := sums_bound (ws.map (· + 1)) (by intro y hy; obtain ⟨z, hz, rfl⟩ := List.mem_map.1 hy; have := h z hz; omega) 0 (by omega) x hx
  simpa using this
theorem getD_bound {l : List Int} {b : Int} (h : ∀ x ∈ l, 0 ≤ x ∧ x ≤ b) (hb : 0 ≤ b) (i : Nat) : 0 ≤ l.getD i 0 ∧ l.getD i 0 ≤ b := by
  rw [List.getD_eq_getElem?_getD]
  by_cases hi : i < l.length
  · rw [List.getElem?_eq_getElem hi]; exact h _ (List.getElem_mem hi)
  · rw [List.getElem?_eq_none (by omega)]; simpa using hb

theorem index_ints (nl : Bool) (xs : List Int) (i : Nat) (h : i < xs.length) : indexSAV 1 (sl 1 nl (xs.map I)) (.v (.int .i64 i)) = some (.eptr (.v (.int .i64 xs[i])) 0) := by
  rw [index_sl _ _ _ _ _ (by omega) (by simpa using h)]
  simp

theorem loop82 (nl : Bool) (w : Int) (ws : List Int) (hT : TextOk w ws) (i : Nat) (hok : i ≤ ws.length) (env : Env) (st : St)
    (hg : gcAV true 3 0 (canon env [1, 2, 4, 34, 35, 36]) st = ([(1, .ptr 0 0), (2, .ptr 1 0), (4, .ptr 2 0), (34, sl 1 nl (ws.map I)), (35, I ws.length), (36, I i)], ⟨[[I w, sl 1 nl (ws.map I)], [I 0, sl 1 true []], [I w, liAV 1 (lsum (ws.take i))]], liT 1 (lsum (ws.take i))⟩)) :
    ∃ x_1 en s, lim (headed pure (run L) true [1, 2, 4, 34, 35, 36] lp82_0 3 0) env st = some (x_1, en, s) ∧ (x_1 = .exit 1 ∧ en.get 2 = .ptr 1 0 ∧ en.get 4 = .ptr 2 0 ∧ s = ⟨[[I w, sl 1 nl (ws.map I)], [I 0, sl 1 true []], [I w, liAV 1 (lsum ws)]], liT 1 (lsum ws)⟩) := by
  refine loop_wp (α := Nat) (fun i => ws.length - i) (fun i => i ≤ ws.length) (fun i => ([(1, .ptr 0 0), (2, .ptr 1 0), (4, .ptr 2 0), (34, sl 1 nl (ws.map I)), (35, I ws.length), (36, I i)], ⟨[[I w, sl 1 nl (ws.map I)], [I 0, sl 1 true []], [I w, liAV 1 (lsum (ws.take i))]], liT 1 (lsum (ws.take i))⟩)) (fun i x_1 en s => x_1 = .exit 1 ∧ en.get 2 = .ptr 1 0 ∧ en.get 4 = .ptr 2 0 ∧ s = ⟨[[I w, sl 1 nl (ws.map I)], [I 0, sl 1 true []], [I w, liAV 1 (lsum ws)]], liT 1 (lsum ws)⟩) (fun i hok => ?_) i hok env st hg
  by_cases h : i < ws.length
  · have hs := succ64 i (by have := hT.n2; omega)
    have hlt : ((i : Int) < (ws.length : Int)) = True := eq_true (by omega)
    have hx := index_ints nl ws i h
    have hb := hT.each ws[i] (List.getElem_mem h)
    have h12 := hT.n2
    have hlen : (lsum (ws.take i)).length = i + 1 := by rw [lsum_len, List.length_take]; omega
    have hx2 := index_li1 (lsum (ws.take i)) i (by omega)
    have hbd := getD_bound (lsum_bound (ws := ws.take i) (fun x hx => hT.each x (List.mem_of_mem_take hx)) hT.w2) (by omega) i
    have h10 : (ws.take i).length ≤ 10 := by have := hT.n2; rw [List.length_take]; omega
    have hw1 := wrap64 ((lsum (ws.take i)).getD i 0 + ws[i]) (by omega) (by have := hT.w2; omega)
    have hw2 := wrap64 ((lsum (ws.take i)).getD i 0 + ws[i] + 1) (by omega) (by have := hT.w2; omega)
    have happ := fun s => append_li 1 (lsum (ws.take i)) ((lsum (ws.take i)).getD i 0 + ws[i] + 1) s (by omega) (by omega)
    rw [← lsum_take ws i h] at happ
    generalize hA : lsum (ws.take i) = A at *
    generalize hB : lsum (ws.take (i + 1)) = B at *
    have c1 : (ws[i] < 1) = False := eq_false (by omega)
    have c2 : (w < ws[i]) = False := eq_false (by omega)
    generalize ws[i] = c at *
    have hren : ∀ o : List Int, ren1 0 (liT 1 o) [] (liAV 1 o) = (liAV 1 o, liAcc 1 o) := ren1_li 1
    simp only [go_sem, reduceIte, Nat.reduceEqDiff, Nat.reduceAdd, Nat.reduceSub, Nat.reduceLeDiff, Nat.reduceLT, reduceCtorEq, Int.reduceLT, Int.reduceLE, Int.reduceEq, Int.reduceBEq, Int.reduceSub, Int.reduceAdd, Int.reduceMul, Int.reduceNeg, Int.reduceToNat, Nat.reduceMul, Nat.reduceBEq, index_rsl_if, setm, make_ints, condK_dec, wantK_dec, not_dec, and_dec, or_dec, seqK_ite, seqK_none, blockK_ite, blockK_none, opsK_ite, opsK_none, stepK_ite, stepK_none, bodyK_ite, bodyK_none, resK_ite, resK_none, leaveK_ite, leaveK_none, only_ite, only_none, bind_ite, gives_some, gives_none, gives_ite, then_normal, then_ret, then_exit, then_none, then_ite, Option.bind_none, Bool.not_eq_true', decide_eq_false_iff_not, Bool.and_eq_true, Bool.or_eq_true, Option.some.injEq, Int.not_lt, Int.not_le, lp82_0, hlt, hx, c1, c2, hx2, hw1, hw2, happ, hs]
    refine ⟨(i + 1), by simp only [go_sem, reduceIte, Nat.reduceEqDiff, Nat.reduceAdd, Nat.reduceSub, Nat.reduceLeDiff, Nat.reduceLT, reduceCtorEq, Int.reduceLT, Int.reduceLE, Int.reduceEq, Int.reduceBEq, Int.reduceSub, Int.reduceAdd, Int.reduceMul, Int.reduceNeg, Int.reduceToNat, Nat.reduceMul, Nat.reduceBEq, ren1_locm, loc_tips, locT_eq, hB, hren, liAcc_snd] <;> rfl, ?_, ?_, fun x en s hq => ?_⟩
    all_goals first | exact hq | omega
  · have hlt : ((i : Int) < (ws.length : Int)) = False := eq_false (by omega)
    have ht : ws.take i = ws := List.take_of_length_le (by omega)
    rw [ht]
    simp only [go_sem, reduceIte, Nat.reduceEqDiff, Nat.reduceAdd, Nat.reduceSub, Nat.reduceLeDiff, Nat.reduceLT, reduceCtorEq, Int.reduceLT, Int.reduceLE, Int.reduceEq, Int.reduceBEq, Int.reduceSub, Int.reduceAdd, Int.reduceMul, Int.reduceNeg, Int.reduceToNat, Nat.reduceMul, Nat.reduceBEq, index_rsl_if, setm, make_ints, condK_dec, wantK_dec, not_dec, and_dec, or_dec, seqK_ite, seqK_none, blockK_ite, blockK_none, opsK_ite, opsK_none, stepK_ite, stepK_none, bodyK_ite, bodyK_none, resK_ite, resK_none, leaveK_ite, leaveK_none, only_ite, only_none, bind_ite, gives_some, gives_none, gives_ite, then_normal, then_ret, then_exit, then_none, then_ite, Option.bind_none, Bool.not_eq_true', decide_eq_false_iff_not, Bool.and_eq_true, Bool.or_eq_true, Option.some.injEq, Int.not_lt, Int.not_le, lp82_0, hlt]

theorem c82 (nl : Bool) (w : Int) (ws : List Int) (hT : TextOk w ws) (st : St) : run L 82 [txAV nl w ws] st = some (.tup [.agg [I w, sl 1 false ((lsum ws).map I)], I 0], st) := by
  rw [run_pure (fn := ir82) rfl rfl]
  have q1 : (w < 1) = False := eq_false (by have := hT.w1; omega)
  have q2 : (40 < w) = False := eq_false (by have := hT.w2; omega)
  have q3 : ((ws.length : Int) = 0) = False := eq_false (by have := hT.n1; omega)
  have q4 : ((10 : Int) < (ws.length : Int)) = False := eq_false (by have := hT.n2; omega)
  simp only [ir82, go_sem, reduceIte, Nat.reduceEqDiff, Nat.reduceAdd, Nat.reduceSub, Nat.reduceLeDiff, Nat.reduceLT, reduceCtorEq, Int.reduceLT, Int.reduceLE, Int.reduceEq, Int.reduceBEq, Int.reduceSub, Int.reduceAdd, Int.reduceMul, Int.reduceNeg, Int.reduceToNat, Nat.reduceMul, Nat.reduceBEq, q1, q2, q3, q4, List.length_map]
  generalize hg : lim (headed pure (run L) true _ lp82_0 _ _) _ _ = o
  obtain ⟨x, en, s, rfl, h2⟩ : ∃ x en s, o = some (x, en, s) ∧ _ := by rw [← hg]; exact loop82 nl w ws hT 0 (Nat.zero_le _) _ _ (by simp only [go_sem, reduceIte, Nat.reduceEqDiff, Nat.reduceAdd, Nat.reduceSub, Nat.reduceLeDiff, Nat.reduceLT, reduceCtorEq, Int.reduceLT, Int.reduceLE, Int.reduceEq, Int.reduceBEq, Int.reduceSub, Int.reduceAdd, Int.reduceMul, Int.reduceNeg, Int.reduceToNat, Nat.reduceMul, Nat.reduceBEq, List.take_zero, lsum, sums, List.map_nil, li_lit, liT_lit, ← sl_nil] <;> rfl)
  clear hg
  obtain ⟨rfl, h3, h4, rfl⟩ := h2
  simp only [go_sem, reduceIte, Nat.reduceEqDiff, Nat.reduceAdd, Nat.reduceSub, Nat.reduceLeDiff, Nat.reduceLT, reduceCtorEq, Int.reduceLT, Int.reduceLE, Int.reduceEq, Int.reduceBEq, Int.reduceSub, Int.reduceAdd, Int.reduceMul, Int.reduceNeg, Int.reduceToNat, Nat.reduceMul, Nat.reduceBEq, h3, h4]

abbrev opAV' (w : Int) (l : List Int) : AV := .agg [I w, sl 1 false (l.map I)]
theorem c83 (w : Int) (l : List Int) (h : 1 ≤ l.length) (h2 : l.length < 1000) (st : St) : run L 83 [opAV' w l] st = some (I ((l.length - 1 : Nat) : Int), st) := by
  rw [run_pure (fn := ir83) rfl rfl]
  have hw : IntKind.i64.wrap ((l.length : Int) - 1) = ((l.length - 1 : Nat) : Int) := by rw [wrap64] <;> omega
  simp only [ir83, go_sem, reduceIte, Nat.reduceEqDiff, Nat.reduceAdd, Nat.reduceSub, Nat.reduceLeDiff, Nat.reduceLT, reduceCtorEq, Int.reduceLT, Int.reduceLE, Int.reduceEq, Int.reduceBEq, Int.reduceSub, Int.reduceAdd, Int.reduceMul, Int.reduceNeg, Int.reduceToNat, Nat.reduceMul, Nat.reduceBEq, List.length_map, hw]

attribute [local go_sem] okRef_li storable_li shaped_li cells_li fin_li1 fin_li0 pub_li1 pub_li0

theorem c142 (w : Int) (hw0 : 0 ≤ w ∧ w ≤ 1000) (l : List Int) (hl : ∀ x ∈ l, 0 ≤ x ∧ x ≤ 100000) (b e : Nat) (hb : b < l.length) (he : e < l.length) (st : St) :
    run L 142 [opAV' w l, .agg [I b, I e]] st = some (I (w + 1 - seg l b e), st) := by
  rw [run_pure (fn := ir142) rfl rfl]
  have h1 := getD_bound hl (by omega) b
  have h2 := getD_bound hl (by omega) e
  have hs : seg l b e = l.getD e 0 - l.getD b 0 := by simp [seg]
  have w1 := wrap64 (w + 1) (by omega) (by omega)
  have w2 := wrap64 (l.getD e 0 - l.getD b 0) (by omega) (by omega)
  have w3 := wrap64 (w + 1 - (l.getD e 0 - l.getD b 0)) (by omega) (by omega)
  have x1 := index_sl_if 1 false I l 0 .i64 b
  have x2 := index_sl_if 1 false I l 0 .i64 e
  rw [if_pos (by omega)] at x1 x2
  simp only [Int.toNat_natCast] at x1 x2
  rw [hs]
  simp only [ir142, go_sem, reduceIte, Nat.reduceEqDiff, Nat.reduceAdd, Nat.reduceSub, Nat.reduceLeDiff, Nat.reduceLT, reduceCtorEq, Int.reduceLT, Int.reduceLE, Int.reduceEq, Int.reduceBEq, Int.reduceSub, Int.reduceAdd, Int.reduceMul, Int.reduceNeg, Int.reduceToNat, Nat.reduceMul, Nat.reduceBEq, x1, x2, w1, w2, w3]

/-- The greatest place, at most e, to which a line from b fits. -/
def endD (l : List Int) (w : Int) (b : Nat) : Nat → Nat
  | 0 => 0
  | e + 1 => if w + 1 < seg l b ((e + 1 : Nat) : Int) then endD l w b e else e + 1

theorem loop84 (w : Int) (hw0 : 0 ≤ w ∧ w ≤ 1000) (l : List Int) (hl : ∀ x ∈ l, 0 ≤ x ∧ x ≤ 100000) (hlen : l.length < 1000) (b : Nat) (e : Nat) (hok : b ≤ e ∧ e < l.length) (env : Env) (st : St)
    (hg : gcAV true 1 0 (canon env [1, 2, 3]) st = ([(1, I b), (2, I e), (3, .ptr 0 0)], ⟨[[I w, sl 1 false (l.map I)]], []⟩)) :
    ∃ x_1 en s, lim (headed pure (run L) true [1, 2, 3] lp84_0 1 0) env st = some (x_1, en, s) ∧ (x_1 = .exit 0 ∧ en.get 2 = I ((endD l w b e : Nat) : Int)) := by
  refine loop_wp (α := Nat) (fun e => e) (fun e => b ≤ e ∧ e < l.length) (fun e => ([(1, I b), (2, I e), (3, .ptr 0 0)], ⟨[[I w, sl 1 false (l.map I)]], []⟩)) (fun e x_1 en s => x_1 = .exit 0 ∧ en.get 2 = I ((endD l w b e : Nat) : Int)) (fun e hok => ?_) e hok env st hg
  have hc := fun st => c142 w hw0 l hl b e (by omega) (by omega) st
  cases e with
  | zero =>
    have hb0 : b = 0 := by omega
    subst hb0
    have hs : seg l ((0 : Nat) : Int) ((0 : Nat) : Int) = 0 := by simp [seg]
    rw [hs] at hc
    have hc : ∀ st, run L 142 [opAV' w l, .agg [I 0, I 0]] st = some (I (w + 1 - 0), st) := hc
    have hlt : (w + 1 - 0 < 0) = False := eq_false (by omega)
    have he : endD l w 0 0 = 0 := rfl
    rw [he]
    simp only [go_sem, reduceIte, Nat.reduceEqDiff, Nat.reduceAdd, Nat.reduceSub, Nat.reduceLeDiff, Nat.reduceLT, reduceCtorEq, Int.reduceLT, Int.reduceLE, Int.reduceEq, Int.reduceBEq, Int.reduceSub, Int.reduceAdd, Int.reduceMul, Int.reduceNeg, Int.reduceToNat, Nat.reduceMul, Nat.reduceBEq, index_rsl_if, setm, make_ints, condK_dec, wantK_dec, not_dec, and_dec, or_dec, seqK_ite, seqK_none, blockK_ite, blockK_none, opsK_ite, opsK_none, stepK_ite, stepK_none, bodyK_ite, bodyK_none, resK_ite, resK_none, leaveK_ite, leaveK_none, only_ite, only_none, bind_ite, gives_some, gives_none, gives_ite, then_normal, then_ret, then_exit, then_none, then_ite, Option.bind_none, Bool.not_eq_true', decide_eq_false_iff_not, Bool.and_eq_true, Bool.or_eq_true, Option.some.injEq, Int.not_lt, Int.not_le, lp84_0, hc, hlt, Int.natCast_zero]
  | succ e =>
    have hd : IntKind.i64.wrap (((e + 1 : Nat) : Int) - 1) = (e : Int) := by rw [wrap64] <;> omega
    by_cases h : w + 1 < seg l b ((e + 1 : Nat) : Int)
    · have hlt : (w + 1 - seg l b ((e + 1 : Nat) : Int) < 0) = True := eq_true (by omega)
      have hbe : b ≠ e + 1 := by
        rintro rfl
        simp [seg] at h; omega
      simp only [go_sem, reduceIte, Nat.reduceEqDiff, Nat.reduceAdd, Nat.reduceSub, Nat.reduceLeDiff, Nat.reduceLT, reduceCtorEq, Int.reduceLT, Int.reduceLE, Int.reduceEq, Int.reduceBEq, Int.reduceSub, Int.reduceAdd, Int.reduceMul, Int.reduceNeg, Int.reduceToNat, Nat.reduceMul, Nat.reduceBEq, index_rsl_if, setm, make_ints, condK_dec, wantK_dec, not_dec, and_dec, or_dec, seqK_ite, seqK_none, blockK_ite, blockK_none, opsK_ite, opsK_none, stepK_ite, stepK_none, bodyK_ite, bodyK_none, resK_ite, resK_none, leaveK_ite, leaveK_none, only_ite, only_none, bind_ite, gives_some, gives_none, gives_ite, then_normal, then_ret, then_exit, then_none, then_ite, Option.bind_none, Bool.not_eq_true', decide_eq_false_iff_not, Bool.and_eq_true, Bool.or_eq_true, Option.some.injEq, Int.not_lt, Int.not_le, lp84_0, hc, hlt, hd]
      refine ⟨(e), by simp only [go_sem, reduceIte, Nat.reduceEqDiff, Nat.reduceAdd, Nat.reduceSub, Nat.reduceLeDiff, Nat.reduceLT, reduceCtorEq, Int.reduceLT, Int.reduceLE, Int.reduceEq, Int.reduceBEq, Int.reduceSub, Int.reduceAdd, Int.reduceMul, Int.reduceNeg, Int.reduceToNat, Nat.reduceMul, Nat.reduceBEq, ren1_locm, loc_tips, locT_eq] <;> rfl, ?_, ?_, fun x en s hq => ?_⟩
      all_goals first | (simp only [endD, if_pos h]; exact hq) | omega
    · have hlt : (w + 1 - seg l b ((e + 1 : Nat) : Int) < 0) = False := eq_false (by omega)
      have he : endD l w b (e + 1) = e + 1 := by simp only [endD]; rw [if_neg h]
      rw [he]
      simp only [go_sem, reduceIte, Nat.reduceEqDiff, Nat.reduceAdd, Nat.reduceSub, Nat.reduceLeDiff, Nat.reduceLT, reduceCtorEq, Int.reduceLT, Int.reduceLE, Int.reduceEq, Int.reduceBEq, Int.reduceSub, Int.reduceAdd, Int.reduceMul, Int.reduceNeg, Int.reduceToNat, Nat.reduceMul, Nat.reduceBEq, index_rsl_if, setm, make_ints, condK_dec, wantK_dec, not_dec, and_dec, or_dec, seqK_ite, seqK_none, blockK_ite, blockK_none, opsK_ite, opsK_none, stepK_ite, stepK_none, bodyK_ite, bodyK_none, resK_ite, resK_none, leaveK_ite, leaveK_none, only_ite, only_none, bind_ite, gives_some, gives_none, gives_ite, then_normal, then_ret, then_exit, then_none, then_ite, Option.bind_none, Bool.not_eq_true', decide_eq_false_iff_not, Bool.and_eq_true, Bool.or_eq_true, Option.some.injEq, Int.not_lt, Int.not_le, lp84_0, hc, hlt, hd]

theorem c84 (w : Int) (hw0 : 0 ≤ w ∧ w ≤ 1000) (l : List Int) (hl : ∀ x ∈ l, 0 ≤ x ∧ x ≤ 100000) (hlen : l.length < 1000) (b e : Nat) (hb : b ≤ e) (he : e < l.length) (st : St) :
    run L 84 [opAV' w l, I b, I e] st = some (I ((endD l w b e : Nat) : Int), st) := by
  rw [run_pure (fn := ir84) rfl rfl]
  simp only [ir84, go_sem, reduceIte, Nat.reduceEqDiff, Nat.reduceAdd, Nat.reduceSub, Nat.reduceLeDiff, Nat.reduceLT, reduceCtorEq, Int.reduceLT, Int.reduceLE, Int.reduceEq, Int.reduceBEq, Int.reduceSub, Int.reduceAdd, Int.reduceMul, Int.reduceNeg, Int.reduceToNat, Nat.reduceMul, Nat.reduceBEq]
  generalize hg : lim (headed pure (run L) true _ lp84_0 _ _) _ _ = o
  obtain ⟨x, en, s, rfl, h2⟩ : ∃ x en s, o = some (x, en, s) ∧ _ := by rw [← hg]; exact loop84 w hw0 l hl hlen b e ⟨hb, he⟩ _ _ (by simp only [go_sem, reduceIte, Nat.reduceEqDiff, Nat.reduceAdd, Nat.reduceSub, Nat.reduceLeDiff, Nat.reduceLT, reduceCtorEq, Int.reduceLT, Int.reduceLE, Int.reduceEq, Int.reduceBEq, Int.reduceSub, Int.reduceAdd, Int.reduceMul, Int.reduceNeg, Int.reduceToNat, Nat.reduceMul, Nat.reduceBEq] <;> rfl)
  clear hg
  obtain ⟨rfl, h3⟩ := h2
  simp only [go_sem, reduceIte, Nat.reduceEqDiff, Nat.reduceAdd, Nat.reduceSub, Nat.reduceLeDiff, Nat.reduceLT, reduceCtorEq, Int.reduceLT, Int.reduceLE, Int.reduceEq, Int.reduceBEq, Int.reduceSub, Int.reduceAdd, Int.reduceMul, Int.reduceNeg, Int.reduceToNat, Nat.reduceMul, Nat.reduceBEq, h3]

/-- The ends of lines that are as full as they can be, from a place on. -/
def fullF (l : List Int) (w : Int) (n : Nat) : Nat → Nat → List Int
  | 0, _ => []
  | k + 1, at_ => if at_ < n then ((endD l w at_ n : Nat) : Int) :: fullF l w n k (endD l w at_ n) else []
theorem endD_le (l : List Int) (w : Int) (b : Nat) : ∀ e, endD l w b e ≤ e
  | 0 => Nat.le_refl _
  | e + 1 => by
    simp only [endD]
    split
    · have := endD_le l w b e; omega
    · exact Nat.le_refl _
theorem endD_ge {l : List Int} {w : Int} {b m : Nat} (hm : ¬ w + 1 < seg l b m) : ∀ e, m ≤ e → m ≤ endD l w b e
  | 0, h => h
  | e + 1, h => by
    simp only [endD]
    split
    · next h2 =>
      have : m ≠ e + 1 := by rintro rfl; exact hm h2
      exact endD_ge hm e (by omega)
    · exact h

/-- A line holds a word at least. -/
def Steps1 (l : List Int) (w : Int) (n : Nat) : Prop := ∀ b : Nat, b < n → seg l b ((b + 1 : Nat) : Int) ≤ w + 1

theorem loop32 (w : Int) (hw0 : 0 ≤ w ∧ w ≤ 1000) (l : List Int) (hl : ∀ x ∈ l, 0 ≤ x ∧ x ≤ 100000) (hlen : 1 ≤ l.length ∧ l.length < 1000) (hst : Steps1 l w (l.length - 1)) (tx : List AV) (htx : okRefs 2 tx = true) (hrc : ∀ T A, renCells 0 T A tx = (tx, A)) (k : Nat) (b : Nat) (out : List Int) (hok : b ≤ l.length - 1 ∧ l.length - 1 ≤ b + k ∧ out.length ≤ b) (env : Env) (st : St)
    (hg : gcAV true 2 0 (canon env [4, 6, 7]) st = ([(4, .ptr 1 0), (6, liAV 0 out), (7, I b)], ⟨[tx, [I w, sl 1 false (l.map I)]], liT 0 out⟩)) :
    ∃ x_1 en s, lim (headed pure (run L) true [4, 6, 7] lp32_0 2 0) env st = some (x_1, en, s) ∧ (x_1 = .exit 0 ∧ en.get 6 = liAV 0 (out ++ fullF l w (l.length - 1) k b) ∧ s = ⟨[tx, [I w, sl 1 false (l.map I)]], liT 0 (out ++ fullF l w (l.length - 1) k b)⟩) := by
  refine loop_wp (α := Nat × Nat × List Int) (fun ⟨k, b, out⟩ => k) (fun ⟨k, b, out⟩ => b ≤ l.length - 1 ∧ l.length - 1 ≤ b + k ∧ out.length ≤ b) (fun ⟨k, b, out⟩ => ([(4, .ptr 1 0), (6, liAV 0 out), (7, I b)], ⟨[tx, [I w, sl 1 false (l.map I)]], liT 0 out⟩)) (fun ⟨k, b, out⟩ x_1 en s => x_1 = .exit 0 ∧ en.get 6 = liAV 0 (out ++ fullF l w (l.length - 1) k b) ∧ s = ⟨[tx, [I w, sl 1 false (l.map I)]], liT 0 (out ++ fullF l w (l.length - 1) k b)⟩) (fun ⟨k, b, out⟩ hok => ?_) ⟨k, b, out⟩ hok env st hg
  simp only at hok
  have h83 := fun st => c83 w l hlen.1 hlen.2 st
  by_cases h : b < l.length - 1
  · obtain ⟨k', rfl⟩ : ∃ k', k = k' + 1 := ⟨k - 1, by omega⟩
    have h84 := fun st => c84 w hw0 l hl hlen.2 b (l.length - 1) (by omega) (by omega) st
    have e1 := endD_le l w b (l.length - 1)
    have e2 := endD_ge (l := l) (w := w) (b := b) (m := b + 1) (by have := hst b h; omega) (l.length - 1) (by omega)
    have happ := fun s => append_li 0 out ((endD l w b (l.length - 1) : Nat) : Int) s (by omega) (by omega)
    have hlt : ((b : Int) < ((l.length - 1 : Nat) : Int)) = True := eq_true (by omega)
    have hf : fullF l w (l.length - 1) (k' + 1) b = ((endD l w b (l.length - 1) : Nat) : Int) :: fullF l w (l.length - 1) k' (endD l w b (l.length - 1)) := by simp only [fullF, if_pos h]
    dsimp only
    rw [hf]
    generalize endD l w b (l.length - 1) = c at *
    have hren : ∀ o : List Int, ren1 0 (liT 0 o) [] (liAV 0 o) = (liAV 0 o, liAcc 0 o) := ren1_li 0
    simp only [go_sem, reduceIte, Nat.reduceEqDiff, Nat.reduceAdd, Nat.reduceSub, Nat.reduceLeDiff, Nat.reduceLT, reduceCtorEq, Int.reduceLT, Int.reduceLE, Int.reduceEq, Int.reduceBEq, Int.reduceSub, Int.reduceAdd, Int.reduceMul, Int.reduceNeg, Int.reduceToNat, Nat.reduceMul, Nat.reduceBEq, index_rsl_if, setm, make_ints, condK_dec, wantK_dec, not_dec, and_dec, or_dec, seqK_ite, seqK_none, blockK_ite, blockK_none, opsK_ite, opsK_none, stepK_ite, stepK_none, bodyK_ite, bodyK_none, resK_ite, resK_none, leaveK_ite, leaveK_none, only_ite, only_none, bind_ite, gives_some, gives_none, gives_ite, then_normal, then_ret, then_exit, then_none, then_ite, Option.bind_none, Bool.not_eq_true', decide_eq_false_iff_not, Bool.and_eq_true, Bool.or_eq_true, Option.some.injEq, Int.not_lt, Int.not_le, lp32_0, hlt, h83, h84, happ]
    refine ⟨(k', c, out ++ [(c : Int)]), by simp only [go_sem, reduceIte, Nat.reduceEqDiff, Nat.reduceAdd, Nat.reduceSub, Nat.reduceLeDiff, Nat.reduceLT, reduceCtorEq, Int.reduceLT, Int.reduceLE, Int.reduceEq, Int.reduceBEq, Int.reduceSub, Int.reduceAdd, Int.reduceMul, Int.reduceNeg, Int.reduceToNat, Nat.reduceMul, Nat.reduceBEq, ren1_locm, loc_tips, locT_eq, hren, liAcc_snd, htx, hrc] <;> rfl, ?_, ?_, fun x en s hq => ?_⟩
    all_goals first | (simp only [List.append_assoc, List.singleton_append] at hq; exact hq) | (simp; omega) | omega
  · have hlt : ((b : Int) < ((l.length - 1 : Nat) : Int)) = False := eq_false (by omega)
    have hf : fullF l w (l.length - 1) k b = [] := by cases k <;> simp [fullF, h]
    dsimp only
    rw [hf, List.append_nil]
    simp only [go_sem, reduceIte, Nat.reduceEqDiff, Nat.reduceAdd, Nat.reduceSub, Nat.reduceLeDiff, Nat.reduceLT, reduceCtorEq, Int.reduceLT, Int.reduceLE, Int.reduceEq, Int.reduceBEq, Int.reduceSub, Int.reduceAdd, Int.reduceMul, Int.reduceNeg, Int.reduceToNat, Nat.reduceMul, Nat.reduceBEq, index_rsl_if, setm, make_ints, condK_dec, wantK_dec, not_dec, and_dec, or_dec, seqK_ite, seqK_none, blockK_ite, blockK_none, opsK_ite, opsK_none, stepK_ite, stepK_none, bodyK_ite, bodyK_none, resK_ite, resK_none, leaveK_ite, leaveK_none, only_ite, only_none, bind_ite, gives_some, gives_none, gives_ite, then_normal, then_ret, then_exit, then_none, then_ite, Option.bind_none, Bool.not_eq_true', decide_eq_false_iff_not, Bool.and_eq_true, Bool.or_eq_true, Option.some.injEq, Int.not_lt, Int.not_le, lp32_0, hlt, h83]

theorem lsum_getD (ws : List Int) (i : Nat) (h : i ≤ ws.length) : (lsum ws).getD i 0 = ((ws.take i).map (· + 1)).sum := by
  have hl : i < (lsum ws).length := by rw [lsum_len]; omega
  rw [List.getD_eq_getElem?_getD, List.getElem?_eq_getElem hl, Option.getD_some, sums_get, ← List.map_take]
  omega
theorem lsum_seg (ws : List Int) (b : Nat) (h : b < ws.length) : seg (lsum ws) b ((b + 1 : Nat) : Int) = ws[b] + 1 := by
  simp only [seg, Int.toNat_natCast]
  rw [lsum_getD ws (b + 1) (by omega), lsum_getD ws b (by omega), ← List.take_append_getElem h, List.map_append, List.sum_append]
  simp only [List.map_cons, List.map_nil, List.sum_cons, List.sum_nil]
  omega
theorem steps1_ok {w : Int} {ws : List Int} (h : TextOk w ws) : Steps1 (lsum ws) w ((lsum ws).length - 1) := by
  intro b hb
  rw [lsum_len] at hb
  have hb' : b < ws.length := by omega
  rw [lsum_seg ws b hb']
  have := h.each _ (List.getElem_mem hb')
  omega

def fullL (w : Int) (ws : List Int) : List Int := fullF (lsum ws) w ws.length ws.length 0
theorem c32 (nl : Bool) (w : Int) (ws : List Int) (hT : TextOk w ws) (st : St) : run L 32 [txAV nl w ws] st = some (.tup [sl 1 true ((fullL w ws).map I), I 0], st) := by
  rw [run_pure (fn := ir32) rfl rfl]
  have h82 := fun st => c82 nl w ws hT st
  have hb : ∀ x ∈ lsum ws, 0 ≤ x ∧ x ≤ 100000 := fun x hx => by
    have := lsum_bound hT.each hT.w2 x hx
    have := hT.n2
    omega
  have hl : (lsum ws).length - 1 = ws.length := by rw [lsum_len]; omega
  have hlen : 1 ≤ (lsum ws).length ∧ (lsum ws).length < 1000 := by rw [lsum_len]; have := hT.n2; omega
  simp only [ir32, go_sem, reduceIte, Nat.reduceEqDiff, Nat.reduceAdd, Nat.reduceSub, Nat.reduceLeDiff, Nat.reduceLT, reduceCtorEq, Int.reduceLT, Int.reduceLE, Int.reduceEq, Int.reduceBEq, Int.reduceSub, Int.reduceAdd, Int.reduceMul, Int.reduceNeg, Int.reduceToNat, Nat.reduceMul, Nat.reduceBEq, h82]
  generalize hg : lim (headed pure (run L) true _ lp32_0 _ _) _ _ = o
  obtain ⟨x, en, s, rfl, h2⟩ : ∃ x en s, o = some (x, en, s) ∧ _ := by rw [← hg]; exact loop32 w (by have := hT.w1; have := hT.w2; omega) (lsum ws) hb hlen (steps1_ok hT) [I w, sl 1 nl (ws.map I)] (by simp only [go_sem, reduceIte, Nat.reduceEqDiff, Nat.reduceAdd, Nat.reduceSub, Nat.reduceLeDiff, Nat.reduceLT, reduceCtorEq, Int.reduceLT, Int.reduceLE, Int.reduceEq, Int.reduceBEq, Int.reduceSub, Int.reduceAdd, Int.reduceMul, Int.reduceNeg, Int.reduceToNat, Nat.reduceMul, Nat.reduceBEq]) (fun T A => by simp only [go_sem, reduceIte, Nat.reduceEqDiff, Nat.reduceAdd, Nat.reduceSub, Nat.reduceLeDiff, Nat.reduceLT, reduceCtorEq, Int.reduceLT, Int.reduceLE, Int.reduceEq, Int.reduceBEq, Int.reduceSub, Int.reduceAdd, Int.reduceMul, Int.reduceNeg, Int.reduceToNat, Nat.reduceMul, Nat.reduceBEq]) ws.length 0 [] ⟨by omega, by omega, by simp⟩ _ _ (by simp only [go_sem, reduceIte, Nat.reduceEqDiff, Nat.reduceAdd, Nat.reduceSub, Nat.reduceLeDiff, Nat.reduceLT, reduceCtorEq, Int.reduceLT, Int.reduceLE, Int.reduceEq, Int.reduceBEq, Int.reduceSub, Int.reduceAdd, Int.reduceMul, Int.reduceNeg, Int.reduceToNat, Nat.reduceMul, Nat.reduceBEq, li_start, liT_nil, Int.natCast_zero] <;> rfl)
  clear hg
  rw [hl, List.nil_append] at h2
  obtain ⟨rfl, h3, rfl⟩ := h2
  simp only [go_sem, reduceIte, Nat.reduceEqDiff, Nat.reduceAdd, Nat.reduceSub, Nat.reduceLeDiff, Nat.reduceLT, reduceCtorEq, Int.reduceLT, Int.reduceLE, Int.reduceEq, Int.reduceBEq, Int.reduceSub, Int.reduceAdd, Int.reduceMul, Int.reduceNeg, Int.reduceToNat, Nat.reduceMul, Nat.reduceBEq, h3, fullL]

attribute [local go_sem] okRef_li storable_li shaped_li cells_li fin_li1 fin_li0 pub_li1 pub_li0

/-! ### bytes -/
abbrev B8 (n : Int) : AV := .v (.int .u8 n)
def Byte (n : Int) : Prop := 0 ≤ n ∧ n ≤ 255
theorem okRefsB (n : Nat) (xs : List Int) : okRefs n (xs.map B8) = true := okRefs_map B8 n (fun _ => rfl) xs
theorem renCellsB (n : Nat) (tips : List Nat) (acc : List (Nat × Nat)) (xs : List Int) : renCells n tips acc (xs.map B8) = (xs.map B8, acc) := renCells_map B8 n tips (fun _ _ => rfl) xs acc
theorem pubsB (xs : List Int) : pubs (xs.map B8) = xs.map B8 := pubs_map B8 (fun _ => rfl) xs
theorem storableB (xs : List Int) : (xs.map B8).all storable = true := by
  rw [List.all_eq_true]; intro x hx; rw [List.mem_map] at hx; obtain ⟨n, _, rfl⟩ := hx; rfl
theorem getB (zs : List Int) (a : Nat) (h : a < zs.length) : (zs.map B8)[a]? = some (B8 (zs.getD a 0)) := by
  rw [getm B8 zs 0 a, if_pos h]
theorem byte_getD {l : List Int} (h : ∀ n ∈ l, Byte n) (i : Nat) : Byte (l.getD i 0) := by
  rw [List.getD_eq_getElem?_getD]
  by_cases hi : i < l.length
  · rw [List.getElem?_eq_getElem hi]; exact h _ (List.getElem_mem hi)
  · rw [List.getElem?_eq_none (by omega)]; exact ⟨by simp, by simp⟩
theorem mod_range (a b : Int) (hb : 0 < b) : 0 ≤ a % b ∧ a % b < b := ⟨Int.emod_nonneg a (by omega), Int.emod_lt_of_pos a hb⟩
theorem tmod8 {a n : Int} (h : 0 ≤ a) : a.tmod n = a % n := Int.tmod_eq_emod_of_nonneg h

/-! ### two lists that are the same -/
theorem loop14 (n1 n2 : Bool) (a : List Int) (hlen : a.length < 1000000) (i : Nat) (hok : i ≤ a.length) (env : Env) (st : St)
    (hg : gcAV true 0 0 (canon env [0, 1, 12, 13]) st = ([(0, sl 1 n1 (a.map I)), (1, sl 1 n2 (a.map I)), (12, I a.length), (13, I i)], ⟨[], []⟩)) :
    ∃ x_1 en s, lim (headed pure (run L) true [0, 1, 12, 13] lp14_0 0 0) env st = some (x_1, en, s) ∧ (x_1 = .exit 0) := by
  refine loop_wp (α := Nat) (fun i => a.length - i) (fun i => i ≤ a.length) (fun i => ([(0, sl 1 n1 (a.map I)), (1, sl 1 n2 (a.map I)), (12, I a.length), (13, I i)], ⟨[], []⟩)) (fun i x_1 en s => x_1 = .exit 0) (fun i hok => ?_) i hok env st hg
  by_cases h : i < a.length
  · have hs := succ64 i (by omega)
    have hlt : ((i : Int) < (a.length : Int)) = True := eq_true (by omega)
    have h1 := index_ints n1 a i h
    have h2 := index_ints n2 a i h
    simp only [go_sem, reduceIte, Nat.reduceEqDiff, Nat.reduceAdd, Nat.reduceSub, Nat.reduceLeDiff, Nat.reduceLT, reduceCtorEq, Int.reduceLT, Int.reduceLE, Int.reduceEq, Int.reduceBEq, Int.reduceSub, Int.reduceAdd, Int.reduceMul, Int.reduceNeg, Int.reduceToNat, Nat.reduceMul, Nat.reduceBEq, index_rsl_if, setm, make_ints, condK_dec, wantK_dec, not_dec, and_dec, or_dec, seqK_ite, seqK_none, blockK_ite, blockK_none, opsK_ite, opsK_none, stepK_ite, stepK_none, bodyK_ite, bodyK_none, resK_ite, resK_none, leaveK_ite, leaveK_none, only_ite, only_none, bind_ite, gives_some, gives_none, gives_ite, then_normal, then_ret, then_exit, then_none, then_ite, Option.bind_none, Bool.not_eq_true', decide_eq_false_iff_not, Bool.and_eq_true, Bool.or_eq_true, Option.some.injEq, Int.not_lt, Int.not_le, lp14_0, hlt, h1, h2, hs]
    refine ⟨(i + 1), by simp only [go_sem, reduceIte, Nat.reduceEqDiff, Nat.reduceAdd, Nat.reduceSub, Nat.reduceLeDiff, Nat.reduceLT, reduceCtorEq, Int.reduceLT, Int.reduceLE, Int.reduceEq, Int.reduceBEq, Int.reduceSub, Int.reduceAdd, Int.reduceMul, Int.reduceNeg, Int.reduceToNat, Nat.reduceMul, Nat.reduceBEq, ren1_locm, loc_tips, locT_eq] <;> rfl, ?_, ?_, fun x en s hq => ?_⟩
    all_goals first | exact hq | omega
  · have hlt : ((i : Int) < (a.length : Int)) = False := eq_false (by omega)
    simp only [go_sem, reduceIte, Nat.reduceEqDiff, Nat.reduceAdd, Nat.reduceSub, Nat.reduceLeDiff, Nat.reduceLT, reduceCtorEq, Int.reduceLT, Int.reduceLE, Int.reduceEq, Int.reduceBEq, Int.reduceSub, Int.reduceAdd, Int.reduceMul, Int.reduceNeg, Int.reduceToNat, Nat.reduceMul, Nat.reduceBEq, index_rsl_if, setm, make_ints, condK_dec, wantK_dec, not_dec, and_dec, or_dec, seqK_ite, seqK_none, blockK_ite, blockK_none, opsK_ite, opsK_none, stepK_ite, stepK_none, bodyK_ite, bodyK_none, resK_ite, resK_none, leaveK_ite, leaveK_none, only_ite, only_none, bind_ite, gives_some, gives_none, gives_ite, then_normal, then_ret, then_exit, then_none, then_ite, Option.bind_none, Bool.not_eq_true', decide_eq_false_iff_not, Bool.and_eq_true, Bool.or_eq_true, Option.some.injEq, Int.not_lt, Int.not_le, lp14_0, hlt]

theorem c14e (n1 n2 : Bool) (a : List Int) (hlen : a.length < 1000000) (st : St) : run L 14 [sl 1 n1 (a.map I), sl 1 n2 (a.map I)] st = some (B true, st) := by
  rw [run_pure (fn := ir14) rfl rfl]
  simp only [ir14, go_sem, reduceIte, Nat.reduceEqDiff, Nat.reduceAdd, Nat.reduceSub, Nat.reduceLeDiff, Nat.reduceLT, reduceCtorEq, Int.reduceLT, Int.reduceLE, Int.reduceEq, Int.reduceBEq, Int.reduceSub, Int.reduceAdd, Int.reduceMul, Int.reduceNeg, Int.reduceToNat, Nat.reduceMul, Nat.reduceBEq, List.length_map]
  generalize hg : lim (headed pure (run L) true _ lp14_0 _ _) _ _ = o
  obtain ⟨x, en, s, rfl, h2⟩ : ∃ x en s, o = some (x, en, s) ∧ _ := by rw [← hg]; exact loop14 n1 n2 a hlen 0 (Nat.zero_le _) _ _ (by simp only [go_sem, reduceIte, Nat.reduceEqDiff, Nat.reduceAdd, Nat.reduceSub, Nat.reduceLeDiff, Nat.reduceLT, reduceCtorEq, Int.reduceLT, Int.reduceLE, Int.reduceEq, Int.reduceBEq, Int.reduceSub, Int.reduceAdd, Int.reduceMul, Int.reduceNeg, Int.reduceToNat, Nat.reduceMul, Nat.reduceBEq, Int.natCast_zero] <;> rfl)
  clear hg
  subst h2
  simp only [go_sem, reduceIte, Nat.reduceEqDiff, Nat.reduceAdd, Nat.reduceSub, Nat.reduceLeDiff, Nat.reduceLT, reduceCtorEq, Int.reduceLT, Int.reduceLE, Int.reduceEq, Int.reduceBEq, Int.reduceSub, Int.reduceAdd, Int.reduceMul, Int.reduceNeg, Int.reduceToNat, Nat.reduceMul, Nat.reduceBEq]

/-! ### a text by numbers -/
def setW (w : Int) (zs : List Int) (k : Nat) : List Int := (zs.take k).map fun x => 1 + x % w
theorem setW_succ (w : Int) (zs : List Int) (i : Nat) (h : i < zs.length) : setW w zs (i + 1) = setW w zs i ++ [1 + zs.getD i 0 % w] := by
  unfold setW
  rw [List.take_succ_eq_append_getElem h, List.map_append, List.getD_eq_getElem?_getD, List.getElem?_eq_getElem h]
  rfl

theorem loop31 (w : Int) (hw : 1 ≤ w ∧ w ≤ 40) (zs : List Int) (hzl : zs.length = 8) (hz : ∀ a ∈ zs, Byte a) (k : Nat) (hk : k ≤ 8) (i : Nat) (hok : i ≤ k) (env : Env) (st : St)
    (hg : gcAV true 3 0 (canon env [8, 9, 21, 22, 23]) st = ([(8, .ptr 1 0), (9, .ptr 2 0), (21, .rsl 0 0 k 8 1 false), (22, I k), (23, I i)], ⟨[zs.map B8, [I 0, sl 1 true []], [I w, liAV 0 (setW w zs i)]], liT 0 (setW w zs i)⟩)) :
    ∃ x_1 en s, lim (headed pure (run L) true [8, 9, 21, 22, 23] lp31_0 3 0) env st = some (x_1, en, s) ∧ (x_1 = .exit 0 ∧ en.get 8 = .ptr 1 0 ∧ en.get 9 = .ptr 2 0 ∧ s = ⟨[zs.map B8, [I 0, sl 1 true []], [I w, liAV 0 (setW w zs k)]], liT 0 (setW w zs k)⟩) := by
  refine loop_wp (α := Nat) (fun i => k - i) (fun i => i ≤ k) (fun i => ([(8, .ptr 1 0), (9, .ptr 2 0), (21, .rsl 0 0 k 8 1 false), (22, I k), (23, I i)], ⟨[zs.map B8, [I 0, sl 1 true []], [I w, liAV 0 (setW w zs i)]], liT 0 (setW w zs i)⟩)) (fun i x_1 en s => x_1 = .exit 0 ∧ en.get 8 = .ptr 1 0 ∧ en.get 9 = .ptr 2 0 ∧ s = ⟨[zs.map B8, [I 0, sl 1 true []], [I w, liAV 0 (setW w zs k)]], liT 0 (setW w zs k)⟩) (fun i hok => ?_) i hok env st hg
  by_cases h : i < k
  · have hs := succ64 i (by omega)
    have hlt : ((i : Int) < (k : Int)) = True := eq_true (by omega)
    have hi0 : ((0 : Int) ≤ (i : Int)) = True := eq_true (by omega)
    have hg := getB zs i (by omega)
    have hb := byte_getD hz i
    have hl : (setW w zs i).length ≤ 8 := by simp [setW]; omega
    have happ := fun s => append_li 0 (setW w zs i) (1 + zs.getD i 0 % w) s (by omega) (by omega)
    rw [← setW_succ w zs i (by omega)] at happ
    generalize zs.getD i 0 = c at *
    unfold Byte at hb
    have hw1 := wrap64 c (by omega) (by omega)
    have hm := mod_range c w (by omega)
    have hw2 := wrap64 (1 + c % w) (by omega) (by omega)
    have hne : (w = 0) = False := eq_false (by omega)
    have htm := tmod8 (n := w) hb.1
    have hren : ∀ o : List Int, ren1 0 (liT 0 o) [] (liAV 0 o) = (liAV 0 o, liAcc 0 o) := ren1_li 0
    generalize setW w zs i = A at *
    generalize hB : setW w zs (i + 1) = B at *
    simp only [go_sem, reduceIte, Nat.reduceEqDiff, Nat.reduceAdd, Nat.reduceSub, Nat.reduceLeDiff, Nat.reduceLT, reduceCtorEq, Int.reduceLT, Int.reduceLE, Int.reduceEq, Int.reduceBEq, Int.reduceSub, Int.reduceAdd, Int.reduceMul, Int.reduceNeg, Int.reduceToNat, Nat.reduceMul, Nat.reduceBEq, index_rsl_if, setm, make_ints, condK_dec, wantK_dec, not_dec, and_dec, or_dec, seqK_ite, seqK_none, blockK_ite, blockK_none, opsK_ite, opsK_none, stepK_ite, stepK_none, bodyK_ite, bodyK_none, resK_ite, resK_none, leaveK_ite, leaveK_none, only_ite, only_none, bind_ite, gives_some, gives_none, gives_ite, then_normal, then_ret, then_exit, then_none, then_ite, Option.bind_none, Bool.not_eq_true', decide_eq_false_iff_not, Bool.and_eq_true, Bool.or_eq_true, Option.some.injEq, Int.not_lt, Int.not_le, lp31_0, hlt, hi0, hg, hw1, hw2, hne, htm, happ, hs]
    refine ⟨(i + 1), by simp only [go_sem, reduceIte, Nat.reduceEqDiff, Nat.reduceAdd, Nat.reduceSub, Nat.reduceLeDiff, Nat.reduceLT, reduceCtorEq, Int.reduceLT, Int.reduceLE, Int.reduceEq, Int.reduceBEq, Int.reduceSub, Int.reduceAdd, Int.reduceMul, Int.reduceNeg, Int.reduceToNat, Nat.reduceMul, Nat.reduceBEq, ren1_locm, loc_tips, locT_eq, hren, liAcc_snd, okRefsB, renCellsB, hB] <;> rfl, ?_, ?_, fun x en s hq => ?_⟩
    all_goals first | exact hq | omega
  · have hlt : ((i : Int) < (k : Int)) = False := eq_false (by omega)
    obtain rfl : i = k := by omega
    simp only [go_sem, reduceIte, Nat.reduceEqDiff, Nat.reduceAdd, Nat.reduceSub, Nat.reduceLeDiff, Nat.reduceLT, reduceCtorEq, Int.reduceLT, Int.reduceLE, Int.reduceEq, Int.reduceBEq, Int.reduceSub, Int.reduceAdd, Int.reduceMul, Int.reduceNeg, Int.reduceToNat, Nat.reduceMul, Nat.reduceBEq, index_rsl_if, setm, make_ints, condK_dec, wantK_dec, not_dec, and_dec, or_dec, seqK_ite, seqK_none, blockK_ite, blockK_none, opsK_ite, opsK_none, stepK_ite, stepK_none, bodyK_ite, bodyK_none, resK_ite, resK_none, leaveK_ite, leaveK_none, only_ite, only_none, bind_ite, gives_some, gives_none, gives_ite, then_normal, then_ret, then_exit, then_none, then_ite, Option.bind_none, Bool.not_eq_true', decide_eq_false_iff_not, Bool.and_eq_true, Bool.or_eq_true, Option.some.injEq, Int.not_lt, Int.not_le, lp31_0, hlt]

theorem c31 (a m : Int) (ha : 0 ≤ a ∧ a ≤ 255) (hm : 1 ≤ m ∧ m ≤ 39) (k : Int) (hk : Byte k) (zs : List Int) (hzl : zs.length = 8) (hz : ∀ x ∈ zs, Byte x) (st : St) :
    run L 31 [I a, I m, B8 k, .agg (zs.map B8)] st = some (txAV true (1 + a % m) (setW (1 + a % m) zs (1 + k % 8).toNat), st) := by
  rw [run_pure (fn := ir31) rfl rfl]
  have h1 := mod_range a m (by omega)
  have h2 := mod_range k 8 (by omega)
  have hw1 := wrap64 (1 + a % m) (by omega) (by omega)
  unfold Byte at hk
  have hw2 := wrap64 k (by omega) (by omega)
  have hw3 := wrap64 (1 + k % 8) (by omega) (by omega)
  have t1 := tmod8 (n := m) ha.1
  have t2 := tmod8 (n := 8) hk.1
  have n1 : (m = 0) = False := eq_false (by omega)
  have hK : (((1 + k % 8).toNat : Nat) : Int) = 1 + k % 8 := by omega
  have hK8 : (1 + k % 8).toNat ≤ 8 := by omega
  have hp : (0 ≤ 1 + k % 8) = True := eq_true (by omega)
  generalize hKK : (1 + k % 8).toNat = K at *
  have hle : (K ≤ 8) = True := eq_true hK8
  have hsl : sliceaAV 8 1 false (.ptr 0 0) none (some (I (1 + k % 8))) none = some (.rsl 0 0 K 8 1 false) := by
    rw [← hK]
    simp [sliceaAV, natOr, natOf, hK8]
  simp only [ir31, go_sem, reduceIte, Nat.reduceEqDiff, Nat.reduceAdd, Nat.reduceSub, Nat.reduceLeDiff, Nat.reduceLT, reduceCtorEq, Int.reduceLT, Int.reduceLE, Int.reduceEq, Int.reduceBEq, Int.reduceSub, Int.reduceAdd, Int.reduceMul, Int.reduceNeg, Int.reduceToNat, Nat.reduceMul, Nat.reduceBEq, hw1, hw2, hw3, t1, t2, n1, hsl, List.length_map, hzl, okRefsB, storableB, pubsB]
  generalize hg : lim (headed pure (run L) true _ lp31_0 _ _) _ _ = o
  obtain ⟨x, en, s, rfl, h2⟩ : ∃ x en s, o = some (x, en, s) ∧ _ := by rw [← hg]; exact loop31 (1 + a % m) (by omega) zs hzl hz K hK8 0 (Nat.zero_le _) _ _ (by simp only [go_sem, reduceIte, Nat.reduceEqDiff, Nat.reduceAdd, Nat.reduceSub, Nat.reduceLeDiff, Nat.reduceLT, reduceCtorEq, Int.reduceLT, Int.reduceLE, Int.reduceEq, Int.reduceBEq, Int.reduceSub, Int.reduceAdd, Int.reduceMul, Int.reduceNeg, Int.reduceToNat, Nat.reduceMul, Nat.reduceBEq, Int.natCast_zero, hK, setW, List.take_zero, List.map_nil, ← li_start, liT_nil, ← sl_nil, okRefsB, renCellsB] <;> rfl)
  clear hg
  obtain ⟨rfl, h3, h4, rfl⟩ := h2
  simp only [go_sem, reduceIte, Nat.reduceEqDiff, Nat.reduceAdd, Nat.reduceSub, Nat.reduceLeDiff, Nat.reduceLT, reduceCtorEq, Int.reduceLT, Int.reduceLE, Int.reduceEq, Int.reduceBEq, Int.reduceSub, Int.reduceAdd, Int.reduceMul, Int.reduceNeg, Int.reduceToNat, Nat.reduceMul, Nat.reduceBEq, h3, h4]


/-! ### lines that are full are volumes that are filled -/
theorem segN (l : List Int) (b e : Nat) : seg l b e = l.getD e 0 - l.getD b 0 := by simp [seg]
def MonoL (l : List Int) (n : Nat) : Prop := ∀ i j : Nat, i ≤ j → j ≤ n → l.getD i 0 ≤ l.getD j 0
theorem endD_eq {l : List Int} {w : Int} {b m : Nat} (h1 : seg l b m ≤ w + 1) : ∀ N, m ≤ N → (∀ e : Nat, m < e → e ≤ N → w + 1 < seg l b e) → endD l w b N = m
  | 0, h, _ => by simp only [endD]; omega
  | N + 1, h, h2 => by
    simp only [endD]
    by_cases hm : m = N + 1
    · subst hm; rw [if_neg (by omega)]
    · rw [if_pos (h2 (N + 1) (by omega) (by omega)), endD_eq h1 N (by omega) (fun e a c => h2 e a (by omega))]
theorem endD_seg {l : List Int} {w : Int} {b : Nat} : ∀ N, b ≤ N → 0 ≤ w + 1 → seg l b ((endD l w b N : Nat) : Int) ≤ w + 1
  | 0, h, hw => by obtain rfl : b = 0 := by omega
                   simp only [endD, segN]; omega
  | N + 1, h, hw => by
    simp only [endD]
    split
    · next hs =>
      by_cases hb : b = N + 1
      · subst hb; rw [segN] at hs; omega
      · exact endD_seg N (by omega) hw
    · omega
theorem fullF_end (l : List Int) (w : Int) (n k : Nat) : fullF l w n k n = [] := by cases k <;> simp [fullF]
theorem fill_full {l : List Int} {w : Int} {n : Nat} (hm : MonoL l n) (hst : Steps1 l w n) (hw : 0 ≤ w) : ∀ (k b e : Nat) (out : List Int) (K : Nat), e + k = n + 1 → b < e → b < n → seg l b ((e : Int) - 1) ≤ w + 1 → n - b ≤ K →
    ∃ r, fillFrom l (w + 1) k b e out = some (out ++ r) ∧ fullF l w n K b = r ++ [(n : Int)]
  | 0, b, e, out, K, he, h1, h2, h3, hK => by
    obtain ⟨K', rfl⟩ : ∃ K', K = K' + 1 := ⟨K - 1, by omega⟩
    refine ⟨[], by simp [fillFrom], ?_⟩
    have he' : (e : Int) - 1 = (n : Int) := by omega
    rw [he'] at h3
    simp only [fullF, if_pos h2, endD_eq h3 n (Nat.le_refl _) (fun e a c => by omega), fullF_end, List.nil_append]
  | k + 1, b, e, out, K, he, h1, h2, h3, hK => by
    obtain ⟨K', rfl⟩ : ∃ K', K = K' + 1 := ⟨K - 1, by omega⟩
    have hs := hst (e - 1) (by omega)
    rw [show e - 1 + 1 = e by omega, show ((e - 1 : Nat) : Int) = (e : Int) - 1 by omega] at hs
    simp only [fillFrom]
    rw [if_neg (by omega)]
    by_cases hc : w + 1 < seg l b e
    · rw [if_pos hc]
      have hb1 : b < e - 1 := by
        have := hst b h2
        by_cases hbe : b = e - 1
        · subst hbe
          rw [show e - 1 + 1 = e by omega] at this
          omega
        · omega
      obtain ⟨r, q1, q2⟩ := fill_full hm hst hw k (e - 1) (e + 1) (out ++ [(e : Int) - 1]) K' (by omega) (by omega) (by omega) (by
        rw [show ((e - 1 : Nat) : Int) = (e : Int) - 1 by omega, show ((e + 1 : Nat) : Int) - 1 = (e : Int) by omega]; exact hs) (by omega)
      refine ⟨((e : Int) - 1) :: r, by rw [q1]; simp, ?_⟩
      have hee : endD l w b n = e - 1 := endD_eq (by rw [show ((e - 1 : Nat) : Int) = (e : Int) - 1 by omega]; exact h3) n (by omega) (fun e' a c => by
        have := hm e e' (by omega) c
        rw [segN] at hc ⊢
        omega)
      simp only [fullF, if_pos h2, hee, q2, show ((e - 1 : Nat) : Int) = (e : Int) - 1 by omega, List.cons_append]
    · rw [if_neg hc]
      exact fill_full hm hst hw k b (e + 1) out (K' + 1) (by omega) (by omega) h2 (by rw [show ((e + 1 : Nat) : Int) - 1 = (e : Int) by omega]; omega) hK
theorem fill_none' (l : List Int) (room : Int) : ∀ (k b e : Nat) (out : List Int), (∃ e' : Nat, e ≤ e' ∧ e' < e + k ∧ room < seg l ((e' : Int) - 1) e') → fillFrom l room k b e out = none
  | 0, b, e, out, ⟨e', h1, h2, _⟩ => by omega
  | k + 1, b, e, out, ⟨e', h1, h2, h3⟩ => by
    simp only [fillFrom]
    by_cases h : room < seg l ((e : Int) - 1) e
    · rw [if_pos h]
    · rw [if_neg h]
      have : e ≠ e' := by rintro rfl; exact h h3
      split
      · exact fill_none' l room k _ _ _ ⟨e', by omega, by omega, h3⟩
      · exact fill_none' l room k _ _ _ ⟨e', by omega, by omega, h3⟩

theorem lsum_mono {ws : List Int} (h : ∀ x ∈ ws, 1 ≤ x) : MonoL (lsum ws) ws.length := by
  intro i j hij
  induction j with
  | zero => intro _; obtain rfl : i = 0 := by omega
            exact Int.le_refl _
  | succ j ih =>
    intro hj
    by_cases hc : i = j + 1
    · subst hc; exact Int.le_refl _
    · have := ih (by omega) (by omega)
      have h2 := lsum_seg ws j (by omega)
      rw [segN] at h2
      have := h _ (List.getElem_mem (show j < ws.length by omega))
      omega
theorem filled_full {w : Int} {ws : List Int} (h : TextOk w ws) : filled (lsum ws) (w + 1) = fullL w ws ∧ fullL w ws ≠ [] := by
  have h1 := h.n1
  have hst : Steps1 (lsum ws) w ws.length := by have := steps1_ok h; rwa [lsum_len, Nat.add_sub_cancel] at this
  obtain ⟨r, q1, q2⟩ := fill_full (lsum_mono fun x hx => (h.each x hx).1) hst (by have := h.w1; omega) ws.length 0 1 [] ws.length (by omega) (by omega) (by omega) (by simp only [show ((1 : Nat) : Int) - 1 = ((0 : Nat) : Int) by omega, segN]; have := h.w1; omega) (by omega)
  have hl : ((lsum ws).length : Int) - 1 = (ws.length : Int) := by rw [lsum_len]; omega
  unfold filled fullL
  rw [lsum_len, Nat.add_sub_cancel, q1, q2]
  simp only [List.nil_append]
  exact ⟨by congr 2; omega, by simp⟩
theorem filled_empty {ws : List Int} {r : Int} (h : ∃ x ∈ ws, r < x + 1) : filled (lsum ws) r = [] := by
  obtain ⟨x, hx, hr⟩ := h
  obtain ⟨i, hi, rfl⟩ := List.getElem_of_mem hx
  unfold filled
  rw [lsum_len, Nat.add_sub_cancel, fill_none' (lsum ws) r ws.length 0 1 [] ⟨i + 1, by omega, by omega, ?_⟩]
  have h1 := lsum_seg ws i hi
  rw [show (((i + 1 : Nat) : Int) - 1) = (i : Int) by omega, h1]
  exact hr

/-! ### more room, fewer lines -/
theorem fullF_mono {l : List Int} {n : Nat} (hm : MonoL l n) {w w' : Int} (hw : w ≤ w') (hw0 : 0 ≤ w) (hst : Steps1 l w n) : ∀ (k b b' : Nat), b ≤ b' → b' ≤ n → (fullF l w' n k b').length ≤ (fullF l w n k b).length
  | 0, b, b', _, _ => by simp [fullF]
  | k + 1, b, b', h1, h2 => by
    simp only [fullF]
    by_cases hb : b' < n
    · rw [if_pos hb, if_pos (by omega)]
      have hle := endD_le l w b n
      have hs := endD_seg (l := l) (w := w) (b := b) n (by omega) (by omega)
      have : endD l w b n ≤ endD l w' b' n := by
        by_cases hc : endD l w b n ≤ b'
        · have := endD_ge (l := l) (w := w') (b := b') (m := b') (by rw [segN]; omega) n (by omega)
          omega
        · refine endD_ge ?_ n hle
          have := hm b b' h1 (by omega)
          rw [segN] at hs ⊢
          omega
      have := fullF_mono hm hw hw0 hst k _ _ this (endD_le l w' b' n)
      simp only [List.length_cons]
      omega
    · rw [if_neg hb]; simp

theorem halve_eq (p : Int → Prop) [DecidablePred p] (m : Int) : ∀ (k : Nat) (low high : Int), low ≤ m → m ≤ high → high - low ≤ k → (∀ r, low ≤ r → (p r ↔ m ≤ r)) → halve p k low high = m
  | 0, low, high, h1, h2, h3, _ => by simp only [halve]; omega
  | k + 1, low, high, h1, h2, h3, h4 => by
    simp only [halve]
    by_cases h : low < high
    · rw [if_pos h]
      have hp := h4 ((low + high) / 2) (by omega)
      by_cases hq : p ((low + high) / 2)
      · rw [if_pos hq]
        exact halve_eq p m k low _ h1 (hp.1 hq) (by omega) h4
      · rw [if_neg hq]
        have : ¬ m ≤ (low + high) / 2 := fun h => hq (hp.2 h)
        exact halve_eq p m k _ high (by omega) h2 (by omega) (fun r hr => h4 r (by omega))
    · rw [if_neg h]; omega
theorem least_of {p : Int → Prop} (hup : ∀ r r', 1 ≤ r → r ≤ r' → p r → p r') : ∀ (k : Nat), p (k : Int) → 1 ≤ k → ∃ m, 1 ≤ m ∧ m ≤ (k : Int) ∧ ∀ r, 1 ≤ r → (p r ↔ m ≤ r)
  | 0, _, h => by omega
  | k + 1, hp, _ => by
    by_cases hk : 1 ≤ k ∧ p (k : Int)
    · obtain ⟨m, h1, h2, h3⟩ := least_of hup k hk.2 hk.1
      exact ⟨m, h1, by omega, h3⟩
    · refine ⟨((k + 1 : Nat) : Int), by omega, Int.le_refl _, fun r hr => ⟨fun h => ?_, fun h => hup _ _ (by omega) h hp⟩⟩
      apply Classical.byContradiction
      intro hn
      exact hk ⟨by omega, hup r k hr (by omega) h⟩

/-- The smallest room in which a text has no more lines than in its own. -/
theorem level_text {w : Int} {ws : List Int} (h : TextOk w ws) : ∃ m, halve (fits (lsum ws) (fullL w ws).length) 100000 1 ((lsum ws).getD ws.length 0) = m ∧ 1 ≤ m ∧ m ≤ w + 1 ∧ (∀ x ∈ ws, x + 1 ≤ m) ∧
    (fullL (m - 1) ws).length ≤ (fullL w ws).length ∧ ∀ r, 1 ≤ r → r < m → (∀ x ∈ ws, x + 1 ≤ r) → (fullL w ws).length < (fullL (r - 1) ws).length := by
  have hn := h.n1
  obtain ⟨g1, g2⟩ := filled_full h
  have hmono := lsum_mono fun x hx => (h.each x hx).1
  have hpos : ∃ x ∈ ws, 1 ≤ x := by
    have hm := List.getElem_mem (show 0 < ws.length from hn)
    exact ⟨_, hm, (h.each _ hm).1⟩
  have tok : ∀ r : Int, r ≤ 41 → (∀ x ∈ ws, x + 1 ≤ r) → TextOk (r - 1) ws := fun r hr hx => by
    obtain ⟨x, hx1, hx2⟩ := hpos
    exact ⟨by have := hx x hx1; omega, by omega, h.n1, h.n2, fun y hy => ⟨(h.each y hy).1, by have := hx y hy; omega⟩⟩
  have big : ∀ r : Int, (∀ x ∈ ws, x + 1 ≤ r) → filled (lsum ws) r = fullF (lsum ws) (r - 1) ws.length ws.length 0 ∧ filled (lsum ws) r ≠ [] ∧ Steps1 (lsum ws) (r - 1) ws.length ∧ 0 ≤ r - 1 := fun r hx => by
    have hst : Steps1 (lsum ws) (r - 1) ws.length := by
      intro b hb
      rw [lsum_seg ws b hb]
      have := hx _ (List.getElem_mem hb)
      omega
    have hr0 : 0 ≤ r - 1 := by obtain ⟨x, hx1, hx2⟩ := hpos; have := hx x hx1; omega
    obtain ⟨q, q1, q2⟩ := fill_full hmono hst hr0 ws.length 0 1 [] ws.length (by omega) (by omega) (by omega) (by simp only [show ((1 : Nat) : Int) - 1 = ((0 : Nat) : Int) by omega, segN]; omega) (by omega)
    rw [show r - 1 + 1 = r by omega] at q1
    refine ⟨?_, ?_, hst, hr0⟩
    · unfold filled
      rw [lsum_len, Nat.add_sub_cancel, q1, q2]
      simp only [List.nil_append]
      congr 2; omega
    · unfold filled
      rw [lsum_len, Nat.add_sub_cancel, q1]
      simp
  have hfit : ∀ r : Int, fits (lsum ws) (fullL w ws).length r ↔ (∀ x ∈ ws, x + 1 ≤ r) ∧ (fullL (r - 1) ws).length ≤ (fullL w ws).length := fun r => by
    by_cases hx : ∀ x ∈ ws, x + 1 ≤ r
    · obtain ⟨b1, b2, _, _⟩ := big r hx
      unfold fits
      rw [b1] at b2 ⊢
      unfold fullL
      constructor
      · rintro ⟨_, a⟩; exact ⟨hx, by omega⟩
      · rintro ⟨_, a⟩; exact ⟨b2, by omega⟩
    · have : ∃ x ∈ ws, r < x + 1 := by
        apply Classical.byContradiction
        intro hno
        exact hx fun x hxx => by
          apply Classical.byContradiction
          intro hlt
          exact hno ⟨x, hxx, by omega⟩
      unfold fits
      rw [filled_empty this]
      constructor
      · rintro ⟨a, _⟩; exact absurd rfl a
      · rintro ⟨a, _⟩; exact absurd a hx
  have hup : ∀ r r' : Int, 1 ≤ r → r ≤ r' → fits (lsum ws) (fullL w ws).length r → fits (lsum ws) (fullL w ws).length r' := fun r r' _ hrr hf => by
    rw [hfit] at hf ⊢
    obtain ⟨_, _, b3, b4⟩ := big r hf.1
    refine ⟨fun x hx => by have := hf.1 x hx; omega, ?_⟩
    have := fullF_mono hmono (w := r - 1) (w' := r' - 1) (by omega) b4 b3 ws.length 0 0 (Nat.le_refl _) (Nat.zero_le _)
    have := hf.2
    unfold fullL at *
    omega
  have hown : fits (lsum ws) (fullL w ws).length (w + 1) := by
    rw [hfit]
    refine ⟨fun x hx => by have := (h.each x hx).2; omega, ?_⟩
    rw [show w + 1 - 1 = w by omega]
    exact Nat.le_refl _
  have hlen1 : 1 ≤ (fullL w ws).length := by
    cases hc : fullL w ws with
    | nil => exact absurd hc g2
    | cons _ _ => simp
  have hw := h.w1
  have hw2 := h.w2
  obtain ⟨m, m1, m2, m3⟩ := least_of hup (w + 1).toNat (by rw [show ((w + 1).toNat : Int) = w + 1 by omega]; exact hown) (by omega)
  have hbd := getD_bound (lsum_bound h.each h.w2) (by omega) ws.length
  have htot : fits (lsum ws) (fullL w ws).length ((lsum ws).getD ws.length 0) := by
    rw [hfit]
    have hz : (lsum ws).getD 0 0 = 0 := by rw [lsum_getD ws 0 (by omega)]; simp
    have hx : ∀ x ∈ ws, x + 1 ≤ (lsum ws).getD ws.length 0 := fun x hx => by
      obtain ⟨i, hi, rfl⟩ := List.getElem_of_mem hx
      have a1 := lsum_seg ws i hi
      rw [segN] at a1
      have a2 := hmono 0 i (by omega) (by omega)
      have a3 := hmono (i + 1) ws.length (by omega) (by omega)
      omega
    refine ⟨hx, ?_⟩
    have he : endD (lsum ws) ((lsum ws).getD ws.length 0 - 1) 0 ws.length = ws.length := endD_eq (by rw [segN]; omega) _ (Nat.le_refl _) (fun e a b => by omega)
    have : fullL ((lsum ws).getD ws.length 0 - 1) ws = [(ws.length : Int)] := by
      unfold fullL
      obtain ⟨K, hK⟩ : ∃ K, ws.length = K + 1 := ⟨ws.length - 1, by omega⟩
      generalize hG : (lsum ws).getD ws.length 0 - 1 = G at *
      have : ∀ k, fullF (lsum ws) G ws.length (k + 1) 0 = [(ws.length : Int)] := fun k => by
        simp only [fullF, if_pos hn, he, fullF_end]
      conv => lhs; rw [show fullF (lsum ws) G ws.length ws.length 0 = fullF (lsum ws) G ws.length (K + 1) 0 by rw [← hK]]
      exact this K
    rw [this]
    simpa using hlen1
  have hm_le : m ≤ (lsum ws).getD ws.length 0 := by
    obtain ⟨x, hx1, hx2⟩ := hpos
    have := ((hfit _).1 htot).1 x hx1
    exact (m3 _ (by omega)).1 htot
  have hfm := (hfit m).1 ((m3 m m1).2 (Int.le_refl _))
  have hn2 := h.n2
  refine ⟨m, halve_eq _ m 100000 1 _ m1 hm_le (by omega) m3, m1, by omega, hfm.1, hfm.2, fun r r1 r2 hx => ?_⟩
  have : ¬ fits (lsum ws) (fullL w ws).length r := fun hf => by have := (m3 r r1).1 hf; omega
  rw [hfit] at this
  apply Classical.byContradiction
  intro hc
  exact this ⟨hx, by omega⟩
theorem fullF_len (l : List Int) (w : Int) (n : Nat) : ∀ k b, (fullF l w n k b).length ≤ k
  | 0, _ => by simp [fullF]
  | k + 1, b => by
    simp only [fullF]
    split
    · have := fullF_len l w n k (endD l w b n)
      simp only [List.length_cons]; omega
    · simp


/-! ### a list of articles that grows in a book -/
def arAV (k : Nat) (o : List (Int × Int)) : AV := loc 2 k (o.map artAV)
def arT (k : Nat) (o : List (Int × Int)) : List Nat := locT k (o.map artAV)
def arAcc (k : Nat) (o : List (Int × Int)) : List (Nat × Nat) := if (o.map artAV).length = k then [] else [(0, (o.map artAV).length)]
theorem okRef_ar (n k : Nat) (o : List (Int × Int)) : okRef n (arAV k o) = true := okRef_loc _ _ _ _
theorem storable_ar (k : Nat) (o : List (Int × Int)) : storable (arAV k o) = true := storable_loc _ _ _
theorem shaped_ar (k : Nat) (o : List (Int × Int)) : (arAV k o).shaped = true := shaped_loc _ _ _
theorem cells_ar (k : Nat) (o : List (Int × Int)) : (arAV k o).cells = [arAV k o] := cells_loc _ _ _
theorem ren1_ar (k : Nat) (o : List (Int × Int)) : ren1 0 (arT k o) [] (arAV k o) = (arAV k o, arAcc k o) := ren1_loc (k := k) 2 (o.map artAV)
theorem arAcc_snd (k : Nat) (o : List (Int × Int)) : (arAcc k o).map (fun x => x.2) = arT k o := by
  unfold arAcc arT locT; split <;> rfl
theorem fin_ar0 (st : St) (o : List (Int × Int)) : fin st (arAV 0 o) = sl 2 true (o.map artAV) := fin_loc st 2 0 _
theorem pub_ar0 (o : List (Int × Int)) : pub (arAV 0 o) = sl 2 true (o.map artAV) := pub_loc 2 0 _
theorem append_ar (o : List (Int × Int)) (x : Int × Int) (s : List (List AV)) (h : o.length < 1000000) : appendAV 2 (arAV 0 o) [artAV x] ⟨s, arT 0 o⟩ = some (arAV 0 (o ++ [x]), ⟨s, arT 0 (o ++ [x])⟩) :=
  append_locm (z := 2) (k := 0) artAV o x s (by omega) (by unfold maxGrow; omega)
theorem ar_start : .v (.slice none 0 0) = arAV 0 [] := rfl
theorem arT_nil : arT 0 [] = [] := rfl
attribute [local go_sem] okRef_li storable_li shaped_li cells_li fin_li1 fin_li0 pub_li1 pub_li0
attribute [local go_sem] okRef_ar storable_ar shaped_ar cells_ar fin_ar0 pub_ar0

/-! ### the words of a text as articles -/
def artsOf (ws : List Int) : List (Int × Int) := ws.map fun x => (x + 1, x + 1)
theorem artsOf_take (ws : List Int) (i : Nat) (h : i < ws.length) : artsOf (ws.take (i + 1)) = artsOf (ws.take i) ++ [(ws[i] + 1, ws[i] + 1)] := by
  unfold artsOf
  rw [(List.take_append_getElem h).symm, List.map_append]
  rfl
theorem mosts_arts (ws : List Int) : mosts (artsOf ws) = lsum ws := by simp [mosts, artsOf, lsum, List.map_map, Function.comp_def]
theorem artsOf_len (ws : List Int) : (artsOf ws).length = ws.length := by simp [artsOf]
theorem artsErr_ok : ∀ {arts : List (Int × Int)}, (∀ a ∈ arts, artErr a = 0) → artsErr arts = 0
  | [], _ => rfl
  | a :: r, h => by
    simp only [artsErr, h a (by simp), if_pos]
    exact artsErr_ok fun b hb => h b (by simp [hb])
theorem check_arts {w : Int} {ws : List Int} (h : TextOk w ws) (hw : w ≤ 29) : check (artsOf ws) (w + 1) 0 = 0 := by
  have h1 := h.n1
  have h2 := h.n2
  have h3 := h.w1
  unfold check
  rw [artsOf_len, if_neg (by omega), if_neg (by omega), if_pos (artsErr_ok fun a ha => ?_), if_neg (by omega)]
  obtain ⟨x, hx, rfl⟩ := List.mem_map.1 ha
  have := h.each x hx
  unfold artErr
  simp only
  rw [if_neg (by omega), if_neg (by omega)]
def longest : List Int → Int → Int
  | [], a => a
  | x :: r, a => longest r (max a x)
theorem longest_snoc : ∀ (l : List Int) (x a : Int), longest (l ++ [x]) a = max (longest l a) x
  | [], x, a => rfl
  | y :: r, x, a => longest_snoc r x (max a y)
theorem longest_le : ∀ (l : List Int) (a b : Int), longest l a ≤ b ↔ a ≤ b ∧ ∀ x ∈ l, x ≤ b
  | [], a, b => by simp [longest]
  | y :: r, a, b => by
    simp only [longest, longest_le r, List.mem_cons, forall_eq_or_imp, Int.max_le, and_assoc]
theorem longest_take (ws : List Int) (i : Nat) (h : i < ws.length) : longest (ws.take (i + 1)) 0 = max (longest (ws.take i) 0) ws[i] := by
  rw [(List.take_append_getElem h).symm, longest_snoc]

theorem loop6 (w : Int) (ws : List Int) (hT : TextOk w ws) (zs : List Int) (i : Nat) (hok : i ≤ ws.length) (env : Env) (st : St)
    (hg : gcAV true 3 0 (canon env [7, 8, 9, 29, 30, 31]) st = ([(7, .ptr 1 0), (8, .ptr 2 0), (9, I (longest (ws.take i) 0)), (29, sl 1 true (ws.map I)), (30, I ws.length), (31, I i)], ⟨[zs.map B8, [I w, sl 1 true (ws.map I)], [arAV 0 (artsOf (ws.take i)), I (w + 1), I 0]], arT 0 (artsOf (ws.take i))⟩)) :
    ∃ x_1 en s, lim (headed pure (run L) true [7, 8, 9, 29, 30, 31] lp6_0 3 0) env st = some (x_1, en, s) ∧ (x_1 = .exit 0 ∧ en.get 7 = .ptr 1 0 ∧ en.get 8 = .ptr 2 0 ∧ en.get 9 = I (longest ws 0) ∧ s = ⟨[zs.map B8, [I w, sl 1 true (ws.map I)], [arAV 0 (artsOf ws), I (w + 1), I 0]], arT 0 (artsOf ws)⟩) := by
  refine loop_wp (α := Nat) (fun i => ws.length - i) (fun i => i ≤ ws.length) (fun i => ([(7, .ptr 1 0), (8, .ptr 2 0), (9, I (longest (ws.take i) 0)), (29, sl 1 true (ws.map I)), (30, I ws.length), (31, I i)], ⟨[zs.map B8, [I w, sl 1 true (ws.map I)], [arAV 0 (artsOf (ws.take i)), I (w + 1), I 0]], arT 0 (artsOf (ws.take i))⟩)) (fun i x_1 en s => x_1 = .exit 0 ∧ en.get 7 = .ptr 1 0 ∧ en.get 8 = .ptr 2 0 ∧ en.get 9 = I (longest ws 0) ∧ s = ⟨[zs.map B8, [I w, sl 1 true (ws.map I)], [arAV 0 (artsOf ws), I (w + 1), I 0]], arT 0 (artsOf ws)⟩) (fun i hok => ?_) i hok env st hg
  by_cases h : i < ws.length
  · have hs := succ64 i (by have := hT.n2; omega)
    have hlt : ((i : Int) < (ws.length : Int)) = True := eq_true (by omega)
    have hx := index_ints true ws i h
    have hb := hT.each ws[i] (List.getElem_mem h)
    have h40 := hT.w2
    have h12 := hT.n2
    have hlen : (artsOf (ws.take i)).length = i := by rw [artsOf_len, List.length_take]; omega
    have hw1 := wrap64 (ws[i] + 1) (by omega) (by omega)
    have happ := fun s => append_ar (artsOf (ws.take i)) (ws[i] + 1, ws[i] + 1) s (by omega)
    rw [← artsOf_take ws i h] at happ
    have hlo := longest_take ws i h
    have hren : ∀ o : List (Int × Int), ren1 0 (arT 0 o) [] (arAV 0 o) = (arAV 0 o, arAcc 0 o) := ren1_ar 0
    generalize hA : artsOf (ws.take i) = A at *
    generalize hB : artsOf (ws.take (i + 1)) = Bb at *
    generalize longest (ws.take i) 0 = lo at *
    generalize ws[i] = c at *
    simp only [go_sem, reduceIte, Nat.reduceEqDiff, Nat.reduceAdd, Nat.reduceSub, Nat.reduceLeDiff, Nat.reduceLT, reduceCtorEq, Int.reduceLT, Int.reduceLE, Int.reduceEq, Int.reduceBEq, Int.reduceSub, Int.reduceAdd, Int.reduceMul, Int.reduceNeg, Int.reduceToNat, Nat.reduceMul, Nat.reduceBEq, index_rsl_if, setm, make_ints, condK_dec, wantK_dec, not_dec, and_dec, or_dec, seqK_ite, seqK_none, blockK_ite, blockK_none, opsK_ite, opsK_none, stepK_ite, stepK_none, bodyK_ite, bodyK_none, resK_ite, resK_none, leaveK_ite, leaveK_none, only_ite, only_none, bind_ite, gives_some, gives_none, gives_ite, then_normal, then_ret, then_exit, then_none, then_ite, Option.bind_none, Bool.not_eq_true', decide_eq_false_iff_not, Bool.and_eq_true, Bool.or_eq_true, Option.some.injEq, Int.not_lt, Int.not_le, lp6_0, hlt, hx, hw1, happ, hs]
    refine ⟨(i + 1), by simp only [go_sem, reduceIte, Nat.reduceEqDiff, Nat.reduceAdd, Nat.reduceSub, Nat.reduceLeDiff, Nat.reduceLT, reduceCtorEq, Int.reduceLT, Int.reduceLE, Int.reduceEq, Int.reduceBEq, Int.reduceSub, Int.reduceAdd, Int.reduceMul, Int.reduceNeg, Int.reduceToNat, Nat.reduceMul, Nat.reduceBEq, ren1_locm, loc_tips, locT_eq, hB, hren, arAcc_snd, hlo, okRefsB, renCellsB] <;> rfl, ?_, ?_, fun x en s hq => ?_⟩
    all_goals first | exact hq | omega
  · have hlt : ((i : Int) < (ws.length : Int)) = False := eq_false (by omega)
    have ht : ws.take i = ws := List.take_of_length_le (by omega)
    rw [ht]
    simp only [go_sem, reduceIte, Nat.reduceEqDiff, Nat.reduceAdd, Nat.reduceSub, Nat.reduceLeDiff, Nat.reduceLT, reduceCtorEq, Int.reduceLT, Int.reduceLE, Int.reduceEq, Int.reduceBEq, Int.reduceSub, Int.reduceAdd, Int.reduceMul, Int.reduceNeg, Int.reduceToNat, Nat.reduceMul, Nat.reduceBEq, index_rsl_if, setm, make_ints, condK_dec, wantK_dec, not_dec, and_dec, or_dec, seqK_ite, seqK_none, blockK_ite, blockK_none, opsK_ite, opsK_none, stepK_ite, stepK_none, bodyK_ite, bodyK_none, resK_ite, resK_none, leaveK_ite, leaveK_none, only_ite, only_none, bind_ite, gives_some, gives_none, gives_ite, then_normal, then_ret, then_exit, then_none, then_ite, Option.bind_none, Bool.not_eq_true', decide_eq_false_iff_not, Bool.and_eq_true, Bool.or_eq_true, Option.some.injEq, Int.not_lt, Int.not_le, lp6_0, hlt]

attribute [local go_sem] okRef_li storable_li shaped_li cells_li fin_li1 fin_li0 pub_li1 pub_li0
attribute [local go_sem] okRef_ar storable_ar shaped_ar cells_ar fin_ar0 pub_ar0

theorem run_args {f : FuncId} {fn : IF} (hf : L.fns f = some fn) (hp : L.pure f = true) {args args' : List AV} (st : St) (h : pubs args = pubs args') : run L f args st = run L f args' st := by
  rw [run_pure hf hp, run_pure hf hp, h]
theorem setW_ok {w : Int} (hw : 1 ≤ w ∧ w ≤ 29) {zs : List Int} (hz : ∀ x ∈ zs, Byte x) {k : Nat} (hk : 1 ≤ k ∧ k ≤ 8) (hzl : zs.length = 8) : TextOk w (setW w zs k) := by
  refine ⟨hw.1, by omega, ?_, ?_, fun x hx => ?_⟩
  · simp [setW]; omega
  · simp [setW]; omega
  · obtain ⟨y, hy, rfl⟩ := List.mem_map.1 hx
    have := mod_range y w (by omega)
    omega

theorem c6 (a k : Int) (ha : Byte a) (hk : Byte k) (zs : List Int) (hzl : zs.length = 8) (hz : ∀ x ∈ zs, Byte x) (st : St) : run L 6 [B8 a, B8 k, .agg (zs.map B8)] st = some (B true, st) := by
  rw [run_pure (fn := ir6) rfl rfl]
  unfold Byte at ha hk
  have hm := mod_range a 29 (by omega)
  have hm8 := mod_range k 8 (by omega)
  have hw1 := wrap64 a (by omega) (by omega)
  have h31 := fun st => c31 a 29 ha (by omega) k hk zs hzl hz st
  generalize hW : 1 + a % 29 = w at *
  have hwr : 1 ≤ w ∧ w ≤ 29 := by omega
  have hT : TextOk w (setW w zs (1 + k % 8).toNat) := setW_ok hwr hz (by omega) hzl
  generalize setW w zs (1 + k % 8).toNat = ws at *
  have hw2 := wrap64 (w + 1) (by omega) (by omega)
  have hck := check_arts hT hwr.2
  obtain ⟨hff, hne⟩ := filled_full hT
  have h33 := fun st => c33 true (artsOf ws) (w + 1) 0 st
  have h33 : ∀ st, run L 33 [.agg [arAV 0 (artsOf ws), I (w + 1), I 0]] st = some (lerr (fewestV (artsOf ws) (w + 1) 0), st) := fun st => (run_args (fn := ir33) rfl rfl st (by simp only [pubs, pub, pub_ar0, pub_sl])).trans (h33 st)
  have hfv : fewestV (artsOf ws) (w + 1) 0 = (fullL w ws, 0) := by
    unfold fewestV
    rw [if_pos hck, mosts_arts, hff, if_neg hne]
  rw [hfv] at h33
  have h32 := fun st => c32 true w ws hT st
  have hlen : (fullL w ws).length ≤ ws.length := fullF_len _ _ _ _ _
  have hlen1 : 1 ≤ (fullL w ws).length := by
    cases hc : fullL w ws with
    | nil => exact absurd hc hne
    | cons _ _ => simp
  have hn2 := hT.n2
  have h14 := fun st => c14e true true (fullL w ws) (by omega) st
  obtain ⟨m, e1, e2, e3, e4, e5, e6⟩ := level_text hT
  have h34 := fun st => c34 true (artsOf ws) (w + 1) 0 (fullL w ws).length st
  have h34 : ∀ st, run L 34 [.agg [arAV 0 (artsOf ws), I (w + 1), I 0], I (fullL w ws).length] st = some (two (levelV (artsOf ws) (w + 1) 0 (fullL w ws).length), st) := fun st => (run_args (fn := ir34) rfl rfl st (by simp only [pubs, pub, pub_ar0, pub_sl])).trans (h34 st)
  have hlv : levelV (artsOf ws) (w + 1) 0 (fullL w ws).length = (m, 0) := by
    unfold levelV
    rw [if_pos hck, mosts_arts, artsOf_len, if_neg (by omega), e1]
  rw [hlv] at h34
  have hlo : longest ws 0 + 1 ≤ m := by
    have : longest ws 0 ≤ m - 1 := (longest_le ws 0 (m - 1)).2 ⟨by omega, fun x hx => by have := e4 x hx; omega⟩
    omega
  have hlo0 : 0 ≤ longest ws 0 := ((longest_le ws 0 (longest ws 0)).1 (Int.le_refl _)).1
  have hlox := ((longest_le ws 0 (longest ws 0)).1 (Int.le_refl _)).2
  have tok : ∀ r : Int, r ≤ 40 → longest ws 0 ≤ r → TextOk r ws := fun r hr hx => by
    have hm0 := List.getElem_mem (show 0 < ws.length from hT.n1)
    exact ⟨by have := hT.each _ hm0; have := hlox _ hm0; omega, hr, hT.n1, hn2, fun y hy => ⟨(hT.each y hy).1, by have := hlox y hy; omega⟩⟩
  have h32b := fun st => c32 true (m - 1) ws (tok _ (by omega) (by omega)) st
  have w3 := wrap64 (longest ws 0 + 1) (by omega) (by omega)
  have w4 := wrap64 (m - 1) (by omega) (by omega)
  have w5 := wrap64 (m - 2) (by omega) (by omega)
  have q1 : (m < longest ws 0 + 1) = False := eq_false (by omega)
  have q2 : (w + 1 < m) = False := eq_false (by omega)
  have q3 : (((fullL w ws).length : Int) < ((fullL (m - 1) ws).length : Int)) = False := eq_false (by omega)
  have q3' : (((fullL (m - 1) ws).length : Int) > ((fullL w ws).length : Int)) = False := eq_false (by omega)
  have htk : (zs.map B8).take 8 = zs.map B8 := List.take_of_length_le (by rw [List.length_map]; omega)
  simp only [ir6, go_sem, reduceIte, Nat.reduceEqDiff, Nat.reduceAdd, Nat.reduceSub, Nat.reduceLeDiff, Nat.reduceLT, reduceCtorEq, Int.reduceLT, Int.reduceLE, Int.reduceEq, Int.reduceBEq, Int.reduceSub, Int.reduceAdd, Int.reduceMul, Int.reduceNeg, Int.reduceToNat, Nat.reduceMul, Nat.reduceBEq, hw1, h31, hw2, htk, List.length_map, hzl, okRefsB, storableB, pubsB]
  have hz0 : longest [] 0 = 0 := rfl
  have ha0 : artsOf [] = [] := rfl
  generalize hg : lim (headed pure (run L) true _ lp6_0 _ _) _ _ = o
  obtain ⟨x, en, s, rfl, h2⟩ : ∃ x en s, o = some (x, en, s) ∧ _ := by rw [← hg]; exact loop6 w ws hT zs 0 (Nat.zero_le _) _ _ (by simp only [go_sem, reduceIte, Nat.reduceEqDiff, Nat.reduceAdd, Nat.reduceSub, Nat.reduceLeDiff, Nat.reduceLT, reduceCtorEq, Int.reduceLT, Int.reduceLE, Int.reduceEq, Int.reduceBEq, Int.reduceSub, Int.reduceAdd, Int.reduceMul, Int.reduceNeg, Int.reduceToNat, Nat.reduceMul, Nat.reduceBEq, List.take_zero, hz0, ha0, Int.natCast_zero, List.length_map, ← ar_start, arT_nil, okRefsB, renCellsB] <;> rfl)
  clear hg
  obtain ⟨rfl, g7, g8, g9, rfl⟩ := h2
  by_cases hc : m - 2 < longest ws 0
  · simp only [go_sem, reduceIte, Nat.reduceEqDiff, Nat.reduceAdd, Nat.reduceSub, Nat.reduceLeDiff, Nat.reduceLT, reduceCtorEq, Int.reduceLT, Int.reduceLE, Int.reduceEq, Int.reduceBEq, Int.reduceSub, Int.reduceAdd, Int.reduceMul, Int.reduceNeg, Int.reduceToNat, Nat.reduceMul, Nat.reduceBEq, g7, g8, g9, h32, h33, h14, h34, h32b, List.length_map, hw2, w3, w4, w5, q1, q2, q3, q3', hc, c35]
  · have h32c := fun st => c32 true (m - 2) ws (tok _ (by omega) (by omega)) st
    have q4 : (((fullL w ws).length : Int) < ((fullL (m - 2) ws).length : Int)) = True := eq_true (by
      have := e6 (m - 1) (by omega) (by omega) (fun x hx => by have := hlox x hx; omega)
      rw [show m - 1 - 1 = m - 2 by omega] at this
      omega)
    simp only [go_sem, reduceIte, Nat.reduceEqDiff, Nat.reduceAdd, Nat.reduceSub, Nat.reduceLeDiff, Nat.reduceLT, reduceCtorEq, Int.reduceLT, Int.reduceLE, Int.reduceEq, Int.reduceBEq, Int.reduceSub, Int.reduceAdd, Int.reduceMul, Int.reduceNeg, Int.reduceToNat, Nat.reduceMul, Nat.reduceBEq, g7, g8, g9, h32, h33, h14, h34, h32b, h32c, List.length_map, hw2, w3, w4, w5, q1, q2, q3, q3', q4, hc, c35]
end Go.Proofs.YtdnjagnechibhaaGreatDoor.Vm

namespace Go.Proofs.YtdnjagnechibhaaGreatDoor.Vm
open Go Go.Ev Go.ChangeShapes Go.WideShapes Go.ChangeAt Go.RowKit
set_option maxRecDepth 100000
attribute [local go_sem] cells_any storable_any ren1_any shaped_ptr cells_ptr storable_ptr ren1_ptr shaped_eptr cells_eptr storable_eptr ren1_eptr shaped_rsl cells_rsl storable_rsl ren1_rsl shaped_int cells_int storable_int ren1_int shaped_bool cells_bool storable_bool ren1_bool shaped_nils cells_nils storable_nils ren1_nils shaped_lst cells_lst storable_lst shaped_fn cells_fn storable_fn ren1_fn shaped_ifc cells_ifc storable_ifc ren1_ifc shaped_agg cells_agg storable_agg ren1_agg shaped_tup cells_tup storable_tup ren1_tup shaped_nif cells_nif storable_nif ren1_nif ren1_lany ren1_lfull ren1_lown len_lst len_rsl len_nil load_ptr load_eptr isRsl_lst isRsl_nil isRsl_rsl elems_nil elems_lst elems_sl isRsl_sl body_eq bodyK_normal bodyK_ret resK_some leaveK_some only_some code_skip code_exit code_ret code_ops code_seq code_cond code_block seqK_normal seqK_ret seqK_exit condK_true condK_false blockK_normal blockK_ret blockK_exit opsK_some ops_nil ops_cons wantK_true wantK_false stepK_some pubs pub pub_sl params okRef_loc storable_loc shaped_loc cells_loc isRsl_loc elems_loc len_loc untips untip untip_sl wantedAV setElems withO isAgg_v isAgg_agg isAgg_lst isAgg_ptr isAgg_fn isAgg_ifc isAgg_rsl isAgg_sl isAgg_loc List.replicate_succ List.replicate_zero opAV valAV aval avals ofVal Env.get setD canon gcAV renAll renEnv renStore renCells ren1_sl cutSt okEnv okStore okRefs okRef okRef_sl bin_int bin_bool bin_lst bin_rsl bin_nil bin_agg cellsEq cellEq isShift intOp boolOp min_int max_int beq_int bne resAV tupAV leave_eq fin_sl fin_loc fins fin_v fin_lst fin_agg fin_tup fin_fn storeAV readCells putCells cells_sl shaped_sl storable_sl fieldAddrAV len_sl goI List.getElem?_cons_zero List.getElem?_cons_succ List.getElem?_nil Option.bind_some Option.map_some List.length_cons List.length_nil List.all_cons List.all_nil Bool.and_true Bool.true_and Bool.and_false Bool.false_and and_true true_and and_false false_and Bool.false_eq_true List.set_cons_zero List.set_cons_succ List.append_nil List.nil_append List.cons_append List.take_zero List.take_succ_cons List.take_nil List.drop_zero List.drop_succ_cons List.map_cons List.map_nil decide_true decide_false beq_self_eq_true Bool.not_true Bool.not_false or_true true_or or_false false_or Nat.zero_add Nat.add_zero Nat.le_refl Nat.lt_irrefl decide_eq_true_eq eq_self_iff_true not_true_eq_false not_false_eq_true List.getD_cons_zero code_loop Nat.zero_le Nat.not_lt_zero Bool.true_beq Bool.false_beq beq_true beq_false ge_iff_le gt_iff_lt keepR keepT ownTop Lpure pus Option.map_none assert_ifc assert_nil idxA_ptr idxA_eptr idxV_agg Int.cast_ofNat_Int Nat.mul_one Nat.zero_mul Int.toNat_natCast Int.toNat_zero setParts withO2 hasKey eqnil_sl nenil_sl eqnil_loc nenil_loc map_nil_iff okRefs_ints renCells_ints

theorem cells5 : Tryz.prog.cellsOf 5 = 1 := by kernel_rfl
theorem cells22 : Tryz.prog.cellsOf 22 = 8 := by kernel_rfl
theorem one_byte {d : Nat} {bs : List AV} (h : Sh Tryz.prog (d + 1) 5 bs) : ∃ n : Int, bs = [B8 n] ∧ Byte n := by
  simp only [Sh, Tryz.underlying5] at h
  obtain ⟨n, h1, h2⟩ := h
  have hb := bounds_u8 h2
  exact ⟨n, h1, by unfold Byte; omega⟩
/-- So many bytes. -/
theorem all_bytes : ∀ (k : Nat) (bs : List AV), bs.length = k → (∀ i, i < k → ∃ n : Int, (bs.drop i).take 1 = [B8 n] ∧ Byte n) → ∃ zs : List Int, bs = zs.map B8 ∧ zs.length = k ∧ ∀ n ∈ zs, Byte n
  | 0, bs, hl, _ => ⟨[], by simpa using hl, rfl, by simp⟩
  | k + 1, b :: bs, hl, h => by
    obtain ⟨n, h1, h2⟩ := h 0 (by omega)
    simp only [List.drop_zero, List.take_succ_cons, List.take_zero, List.cons.injEq, and_true] at h1
    obtain ⟨zs, g1, g2, g3⟩ := all_bytes k bs (by simpa using hl) (fun i hi => by
      obtain ⟨x, q1, q2⟩ := h (i + 1) (by omega)
      exact ⟨x, by simpa using q1, q2⟩)
    refine ⟨n :: zs, by rw [List.map_cons, ← h1, ← g1], by simp [g2], fun x hx => ?_⟩
    rw [List.mem_cons] at hx
    rcases hx with rfl | hx
    · exact h2
    · exact g3 x hx
theorem sh_eight {a : AV} (h : ShV Tryz.prog 8 22 a) : ∃ zs : List Int, a = .agg (zs.map B8) ∧ zs.length = 8 ∧ ∀ n ∈ zs, Byte n := by
  unfold ShV at h
  rw [if_pos (by unfold aggB; rw [Tryz.underlying22])] at h
  obtain ⟨cs, rfl, hs⟩ := h
  unfold Sh at hs
  simp only [Tryz.underlying22, cells22, cells5] at hs
  obtain ⟨zs, h1, h2, h3⟩ := all_bytes 8 cs (by omega) (fun i hi => by
    have := hs.2 i hi
    rw [Nat.mul_one] at this
    exact one_byte this)
  exact ⟨zs, by rw [h1], h2, h3⟩
theorem sh_byte {a : AV} (h : ShV Tryz.prog 8 5 a) : ∃ n : Int, a = B8 n ∧ Byte n := by
  unfold ShV at h
  rw [if_neg (by unfold aggB; rw [Tryz.underlying5]; simp)] at h
  obtain ⟨n, h1, h2⟩ := one_byte h
  simp only [List.cons.injEq, and_true] at h1
  exact ⟨n, h1, h2⟩
end Go.Proofs.YtdnjagnechibhaaGreatDoor.Vm
