/- What is proved: what each function of this program computes, as equations on the evaluator. No condition. -/
import Derived.Test.YtiifibgadipalaaLib
import Derived.Test.YtiifibgadipalaaSy
import Derived.KernelRfl
import Derived.Test.YtiifibgadipalaaRows
import Derived.WalkKit
import Derived.ProofKit
import Derived.OpenShut
set_option linter.all false
namespace Go.Proofs.Ytiifibgadipalaa.Vm
open Go Go.Ev
set_option maxRecDepth 100000
attribute [local go_sem] cells_any storable_any ren1_any shaped_ptr cells_ptr storable_ptr ren1_ptr shaped_eptr cells_eptr storable_eptr ren1_eptr shaped_rsl cells_rsl storable_rsl ren1_rsl shaped_int cells_int storable_int ren1_int shaped_bool cells_bool storable_bool ren1_bool shaped_nils cells_nils storable_nils ren1_nils shaped_lst cells_lst storable_lst shaped_fn cells_fn storable_fn ren1_fn shaped_ifc cells_ifc storable_ifc ren1_ifc shaped_agg cells_agg storable_agg ren1_agg shaped_tup cells_tup storable_tup ren1_tup shaped_nif cells_nif storable_nif ren1_nif ren1_lany ren1_lfull ren1_lown len_lst len_rsl len_nil load_ptr load_eptr isRsl_lst isRsl_nil isRsl_rsl elems_nil elems_lst elems_sl isRsl_sl body_eq bodyK_normal bodyK_ret resK_some leaveK_some only_some code_skip code_exit code_ret code_ops code_seq code_cond code_block seqK_normal seqK_ret seqK_exit condK_true condK_false blockK_normal blockK_ret blockK_exit opsK_some ops_nil ops_cons wantK_true wantK_false stepK_some pubs pub pub_sl params okRef_loc storable_loc shaped_loc cells_loc isRsl_loc elems_loc len_loc untips untip untip_sl wantedAV setElems withO isAgg_v isAgg_agg isAgg_lst isAgg_ptr isAgg_fn isAgg_ifc isAgg_rsl isAgg_sl isAgg_loc List.replicate_succ List.replicate_zero opAV valAV aval avals ofVal Env.get setD canon gcAV renAll renEnv renStore renCells ren1_sl cutSt okEnv okStore okRefs okRef okRef_sl bin_int bin_bool bin_lst bin_rsl bin_nil bin_agg cellsEq cellEq isShift intOp boolOp min_int max_int beq_int bne resAV tupAV leave_eq fin_sl fin_loc fins fin_v fin_lst fin_agg fin_tup fin_fn storeAV readCells putCells cells_sl shaped_sl storable_sl fieldAddrAV len_sl goI List.getElem?_cons_zero List.getElem?_cons_succ List.getElem?_nil Option.bind_some Option.map_some List.length_cons List.length_nil List.all_cons List.all_nil Bool.and_true Bool.true_and Bool.and_false Bool.false_and and_true true_and and_false false_and Bool.false_eq_true List.set_cons_zero List.set_cons_succ List.append_nil List.nil_append List.cons_append List.take_zero List.take_succ_cons List.take_nil List.drop_zero List.drop_succ_cons List.map_cons List.map_nil decide_true decide_false beq_self_eq_true Bool.not_true Bool.not_false or_true true_or or_false false_or Nat.zero_add Nat.add_zero Nat.le_refl Nat.lt_irrefl decide_eq_true_eq eq_self_iff_true not_true_eq_false not_false_eq_true List.getD_cons_zero code_loop Nat.zero_le Nat.not_lt_zero Bool.true_beq Bool.false_beq beq_true beq_false ge_iff_le gt_iff_lt Lpure pus Option.map_none assert_ifc assert_nil idxA_ptr idxA_eptr idxV_agg Int.cast_ofNat_Int Nat.mul_one Nat.zero_mul Int.toNat_natCast Int.toNat_zero setParts withO2 hasKey eqnil_sl nenil_sl eqnil_loc nenil_loc map_nil_iff okRefs_ints renCells_ints

theorem c77 (n lo hi : Int) (st : St) : run L 77 [I n, I lo, I hi] st = some (B (decide (lo ≤ n ∧ n ≤ hi)), st) := by
  rw [run_pure (fn := ir77) rfl rfl]
  by_cases h1 : lo ≤ n <;> simp only [ir77, go_sem, reduceIte, Nat.reduceEqDiff, Nat.reduceAdd, Nat.reduceSub, Nat.reduceLeDiff, Nat.reduceLT, reduceCtorEq, Int.reduceLT, Int.reduceLE, Int.reduceEq, Int.reduceBEq, Int.reduceSub, Int.reduceAdd, Int.reduceMul, Int.reduceNeg, Int.reduceToNat, Nat.reduceMul, Nat.reduceBEq, h1]


abbrev artAV (a : Int × Int) : AV := .agg [I a.1, I a.2]
def artErr (a : Int × Int) : Int := if a.1 < 1 ∨ a.2 < 1 ∨ a.1 > 30 ∨ a.2 > 30 then 1 else if a.1 > a.2 then 7 else 0
def artsErr : List (Int × Int) → Int
  | [] => 0
  | a :: r => if artErr a = 0 then artsErr r else artErr a

theorem index_arts (nl : Bool) (arts : List (Int × Int)) (i : Nat) (h : i < arts.length) : indexSAV 2 (sl 2 nl (arts.map artAV)) (.v (.int .i64 i)) = some (.eptr (.agg [.v (.int .i64 arts[i].1), .v (.int .i64 arts[i].2)]) 0) := by
  rw [index_sl _ _ _ _ _ (by omega) (by simpa using h)]
  simp
theorem succ64 (i : Nat) (h : i < 1000000) : IntKind.i64.wrap ((i : Int) + 1) = ((i + 1 : Nat) : Int) := by
  rw [wrap64] <;> omega

theorem loop25 (nl : Bool) (arts : List (Int × Int)) (room floor : Int) (hlen : arts.length < 1000000) (i : Nat) (hi : i ≤ arts.length) (env : Env) (st : St)
    (hg : gcAV true 1 0 (canon env [1, 16, 17, 18]) st = ([(1, .ptr 0 0), (16, sl 2 nl (arts.map artAV)), (17, I arts.length), (18, I i)], ⟨[[sl 2 nl (arts.map artAV), I room, I floor]], []⟩)) :
    ∃ x e s, lim (headed pure (run L) true [1, 16, 17, 18] lp25_0 1 0) env st = some (x, e, s) ∧
      (if artsErr (arts.drop i) = 0 then x = .exit 1 ∧ e.get 1 = .ptr 0 0 ∧ s = ⟨[[sl 2 nl (arts.map artAV), I room, I floor]], []⟩ else x = .ret ∧ e.get 2 = I (artsErr (arts.drop i))) := by
  refine loop_post (α := Nat) (fun i => arts.length - i) (fun i => i ≤ arts.length) (fun i => ([(1, .ptr 0 0), (16, sl 2 nl (arts.map artAV)), (17, I arts.length), (18, I i)], ⟨[[sl 2 nl (arts.map artAV), I room, I floor]], []⟩))
    (fun i x e s => if artsErr (arts.drop i) = 0 then x = .exit 1 ∧ e.get 1 = .ptr 0 0 ∧ s = ⟨[[sl 2 nl (arts.map artAV), I room, I floor]], []⟩ else x = .ret ∧ e.get 2 = I (artsErr (arts.drop i))) (fun i hi => ?_) i hi env st hg
  by_cases h : i < arts.length
  · have hd : arts.drop i = arts[i] :: arts.drop (i + 1) := List.drop_eq_getElem_cons h
    have hlt : ((i : Int) < (arts.length : Int)) = True := by simp; omega
    have hx := index_arts nl arts i h
    have hs := succ64 i (by omega)
    rw [hd]
    simp only [artsErr]
    generalize arts[i] = a at *
    obtain ⟨l, m⟩ := a
    simp only at hx
    by_cases p1 : min l m < 1
    · have he : artErr (l, m) = 1 := by unfold artErr; simp only; rw [if_pos]; omega
      refine .inr ⟨.ret, _, _, by simp only [go_sem, reduceIte, Nat.reduceEqDiff, Nat.reduceAdd, Nat.reduceSub, Nat.reduceLeDiff, Nat.reduceLT, reduceCtorEq, Int.reduceLT, Int.reduceLE, Int.reduceEq, Int.reduceBEq, Int.reduceSub, Int.reduceAdd, Int.reduceMul, Int.reduceNeg, Int.reduceToNat, Nat.reduceMul, Nat.reduceBEq, lp25_0, hlt, hx, p1] <;> rfl, by simp, ?_⟩
      simp only [he]
      exact ⟨trivial, rfl⟩
    · by_cases p2 : 30 < max l m
      · have he : artErr (l, m) = 1 := by unfold artErr; simp only; rw [if_pos]; omega
        refine .inr ⟨.ret, _, _, by simp only [go_sem, reduceIte, Nat.reduceEqDiff, Nat.reduceAdd, Nat.reduceSub, Nat.reduceLeDiff, Nat.reduceLT, reduceCtorEq, Int.reduceLT, Int.reduceLE, Int.reduceEq, Int.reduceBEq, Int.reduceSub, Int.reduceAdd, Int.reduceMul, Int.reduceNeg, Int.reduceToNat, Nat.reduceMul, Nat.reduceBEq, lp25_0, hlt, hx, p1, p2] <;> rfl, by simp, ?_⟩
        simp only [he]
        exact ⟨trivial, rfl⟩
      · by_cases p3 : m < l
        · have he : artErr (l, m) = 7 := by unfold artErr; simp only; rw [if_neg, if_pos p3]; omega
          refine .inr ⟨.ret, _, _, by simp only [go_sem, reduceIte, Nat.reduceEqDiff, Nat.reduceAdd, Nat.reduceSub, Nat.reduceLeDiff, Nat.reduceLT, reduceCtorEq, Int.reduceLT, Int.reduceLE, Int.reduceEq, Int.reduceBEq, Int.reduceSub, Int.reduceAdd, Int.reduceMul, Int.reduceNeg, Int.reduceToNat, Nat.reduceMul, Nat.reduceBEq, lp25_0, hlt, hx, p1, p2, p3] <;> rfl, by simp, ?_⟩
          simp only [he]
          exact ⟨trivial, rfl⟩
        · have he : artErr (l, m) = 0 := by unfold artErr; simp only; rw [if_neg, if_neg p3]; omega
          refine .inl ⟨i + 1, _, _, h, by omega, by simp only [go_sem, reduceIte, Nat.reduceEqDiff, Nat.reduceAdd, Nat.reduceSub, Nat.reduceLeDiff, Nat.reduceLT, reduceCtorEq, Int.reduceLT, Int.reduceLE, Int.reduceEq, Int.reduceBEq, Int.reduceSub, Int.reduceAdd, Int.reduceMul, Int.reduceNeg, Int.reduceToNat, Nat.reduceMul, Nat.reduceBEq, lp25_0, hlt, hx, p1, p2, p3, hs] <;> rfl, by simp only [go_sem, reduceIte, Nat.reduceEqDiff, Nat.reduceAdd, Nat.reduceSub, Nat.reduceLeDiff, Nat.reduceLT, reduceCtorEq, Int.reduceLT, Int.reduceLE, Int.reduceEq, Int.reduceBEq, Int.reduceSub, Int.reduceAdd, Int.reduceMul, Int.reduceNeg, Int.reduceToNat, Nat.reduceMul, Nat.reduceBEq], fun x e s hq => ?_⟩
          simp only [he, if_true]
          exact hq
  · have hd : arts.drop i = [] := List.drop_eq_nil_of_le (by omega)
    have hlt : ((i : Int) < (arts.length : Int)) = False := by simp; omega
    refine .inr ⟨.exit 1, _, _, by simp only [go_sem, reduceIte, Nat.reduceEqDiff, Nat.reduceAdd, Nat.reduceSub, Nat.reduceLeDiff, Nat.reduceLT, reduceCtorEq, Int.reduceLT, Int.reduceLE, Int.reduceEq, Int.reduceBEq, Int.reduceSub, Int.reduceAdd, Int.reduceMul, Int.reduceNeg, Int.reduceToNat, Nat.reduceMul, Nat.reduceBEq, lp25_0, hlt] <;> rfl, by simp, ?_⟩
    simp only [hd, artsErr, if_true]
    exact ⟨trivial, rfl, trivial⟩

def check (arts : List (Int × Int)) (room floor : Int) : Int :=
  if arts.length = 0 then 4 else if arts.length > 12 then 3 else if artsErr arts = 0 then (if room < 1 ∨ room > 100 ∨ floor < 0 ∨ floor > room then 1 else 0) else artsErr arts

theorem c25 (nl : Bool) (arts : List (Int × Int)) (room floor : Int) (st : St) :
    run L 25 [.agg [sl 2 nl (arts.map artAV), I room, I floor]] st = some (I (check arts room floor), st) := by
  rw [run_pure (fn := ir25) rfl rfl]
  unfold check
  by_cases p1 : arts.length = 0
  · have q1 : ((arts.length : Int) = 0) = True := by simp [p1]
    rw [if_pos p1]
    simp only [ir25, go_sem, reduceIte, Nat.reduceEqDiff, Nat.reduceAdd, Nat.reduceSub, Nat.reduceLeDiff, Nat.reduceLT, reduceCtorEq, Int.reduceLT, Int.reduceLE, Int.reduceEq, Int.reduceBEq, Int.reduceSub, Int.reduceAdd, Int.reduceMul, Int.reduceNeg, Int.reduceToNat, Nat.reduceMul, Nat.reduceBEq, q1, List.length_map]
  · have q1 : ((arts.length : Int) = 0) = False := by simp [p1]
    rw [if_neg p1]
    by_cases p2 : arts.length > 12
    · have q2 : ((12 : Int) < (arts.length : Int)) = True := by simp; omega
      rw [if_pos p2]
      simp only [ir25, go_sem, reduceIte, Nat.reduceEqDiff, Nat.reduceAdd, Nat.reduceSub, Nat.reduceLeDiff, Nat.reduceLT, reduceCtorEq, Int.reduceLT, Int.reduceLE, Int.reduceEq, Int.reduceBEq, Int.reduceSub, Int.reduceAdd, Int.reduceMul, Int.reduceNeg, Int.reduceToNat, Nat.reduceMul, Nat.reduceBEq, q1, q2, List.length_map]
    · have q2 : ((12 : Int) < (arts.length : Int)) = False := by simp; omega
      rw [if_neg p2]
      simp only [ir25, go_sem, reduceIte, Nat.reduceEqDiff, Nat.reduceAdd, Nat.reduceSub, Nat.reduceLeDiff, Nat.reduceLT, reduceCtorEq, Int.reduceLT, Int.reduceLE, Int.reduceEq, Int.reduceBEq, Int.reduceSub, Int.reduceAdd, Int.reduceMul, Int.reduceNeg, Int.reduceToNat, Nat.reduceMul, Nat.reduceBEq, q1, q2, List.length_map]
      generalize hg : lim (headed pure (run L) true [1, 16, 17, 18] lp25_0 1 0) _ _ = o
      obtain ⟨x, e, s, rfl, h2⟩ : ∃ x e s, o = some (x, e, s) ∧ _ := by rw [← hg]; exact loop25 nl arts room floor (by omega) 0 (Nat.zero_le _) _ _ (by simp only [go_sem, reduceIte, Nat.reduceEqDiff, Nat.reduceAdd, Nat.reduceSub, Nat.reduceLeDiff, Nat.reduceLT, reduceCtorEq, Int.reduceLT, Int.reduceLE, Int.reduceEq, Int.reduceBEq, Int.reduceSub, Int.reduceAdd, Int.reduceMul, Int.reduceNeg, Int.reduceToNat, Nat.reduceMul, Nat.reduceBEq] <;> rfl)
      clear hg
      simp only [List.drop_zero] at h2
      by_cases p3 : artsErr arts = 0
      · rw [if_pos p3] at h2
        obtain ⟨rfl, h3, rfl⟩ := h2
        rw [if_pos p3]
        by_cases r1 : room < 1
        · simp only [go_sem, reduceIte, Nat.reduceEqDiff, Nat.reduceAdd, Nat.reduceSub, Nat.reduceLeDiff, Nat.reduceLT, reduceCtorEq, Int.reduceLT, Int.reduceLE, Int.reduceEq, Int.reduceBEq, Int.reduceSub, Int.reduceAdd, Int.reduceMul, Int.reduceNeg, Int.reduceToNat, Nat.reduceMul, Nat.reduceBEq, h3, r1]
        · by_cases r2 : 100 < room
          · simp only [go_sem, reduceIte, Nat.reduceEqDiff, Nat.reduceAdd, Nat.reduceSub, Nat.reduceLeDiff, Nat.reduceLT, reduceCtorEq, Int.reduceLT, Int.reduceLE, Int.reduceEq, Int.reduceBEq, Int.reduceSub, Int.reduceAdd, Int.reduceMul, Int.reduceNeg, Int.reduceToNat, Nat.reduceMul, Nat.reduceBEq, h3, r1, r2]
          · by_cases r3 : floor < 0
            · simp only [go_sem, reduceIte, Nat.reduceEqDiff, Nat.reduceAdd, Nat.reduceSub, Nat.reduceLeDiff, Nat.reduceLT, reduceCtorEq, Int.reduceLT, Int.reduceLE, Int.reduceEq, Int.reduceBEq, Int.reduceSub, Int.reduceAdd, Int.reduceMul, Int.reduceNeg, Int.reduceToNat, Nat.reduceMul, Nat.reduceBEq, h3, r1, r2, r3]
            · by_cases r4 : room < floor <;> simp only [go_sem, reduceIte, Nat.reduceEqDiff, Nat.reduceAdd, Nat.reduceSub, Nat.reduceLeDiff, Nat.reduceLT, reduceCtorEq, Int.reduceLT, Int.reduceLE, Int.reduceEq, Int.reduceBEq, Int.reduceSub, Int.reduceAdd, Int.reduceMul, Int.reduceNeg, Int.reduceToNat, Nat.reduceMul, Nat.reduceBEq, h3, r1, r2, r3, r4]
      · rw [if_neg p3] at h2
        obtain ⟨rfl, h3⟩ := h2
        simp only [go_sem, reduceIte, Nat.reduceEqDiff, Nat.reduceAdd, Nat.reduceSub, Nat.reduceLeDiff, Nat.reduceLT, reduceCtorEq, Int.reduceLT, Int.reduceLE, Int.reduceEq, Int.reduceBEq, Int.reduceSub, Int.reduceAdd, Int.reduceMul, Int.reduceNeg, Int.reduceToNat, Nat.reduceMul, Nat.reduceBEq, h3, p3]


theorem loop26 (nl : Bool) (arts : List (Int × Int)) (room floor : Int) (hlen : arts.length < 1000000) (i : Nat) (hi : i ≤ arts.length) (env : Env) (st : St)
    (hg : gcAV true 1 0 (canon env [1, 3]) st = ([(1, .ptr 0 0), (3, I i)], ⟨[[sl 2 nl (arts.map artAV), I room, I floor]], []⟩)) :
    ∃ x e s, lim (headed pure (run L) true [1, 3] lp26_0 1 0) env st = some (x, e, s) ∧
      (if artsErr (arts.drop i) = 0 then x = .exit 0 ∧ e.get 1 = .ptr 0 0 ∧ s = ⟨[[sl 2 nl (arts.map artAV), I room, I floor]], []⟩ else x = .ret ∧ e.get 2 = I (artsErr (arts.drop i))) := by
  refine loop_post (α := Nat) (fun i => arts.length - i) (fun i => i ≤ arts.length) (fun i => ([(1, .ptr 0 0), (3, I i)], ⟨[[sl 2 nl (arts.map artAV), I room, I floor]], []⟩))
    (fun i x e s => if artsErr (arts.drop i) = 0 then x = .exit 0 ∧ e.get 1 = .ptr 0 0 ∧ s = ⟨[[sl 2 nl (arts.map artAV), I room, I floor]], []⟩ else x = .ret ∧ e.get 2 = I (artsErr (arts.drop i))) (fun i hi => ?_) i hi env st hg
  by_cases h : i < arts.length
  · have hd : arts.drop i = arts[i] :: arts.drop (i + 1) := List.drop_eq_getElem_cons h
    have hlt : ((i : Int) < (arts.length : Int)) = True := by simp; omega
    have hx := index_arts nl arts i h
    have hs := succ64 i (by omega)
    rw [hd]
    simp only [artsErr]
    generalize arts[i] = a at *
    obtain ⟨l, m⟩ := a
    simp only at hx
    by_cases p1 : 1 ≤ l ∧ l ≤ 30
    · by_cases p2 : 1 ≤ m ∧ m ≤ 30
      · by_cases p3 : m < l
        · have he : artErr (l, m) = 7 := by unfold artErr; simp only; rw [if_neg, if_pos p3]; omega
          refine .inr ⟨.ret, _, _, by simp only [go_sem, reduceIte, Nat.reduceEqDiff, Nat.reduceAdd, Nat.reduceSub, Nat.reduceLeDiff, Nat.reduceLT, reduceCtorEq, Int.reduceLT, Int.reduceLE, Int.reduceEq, Int.reduceBEq, Int.reduceSub, Int.reduceAdd, Int.reduceMul, Int.reduceNeg, Int.reduceToNat, Nat.reduceMul, Nat.reduceBEq, lp26_0, hlt, hx, c77, p1, p2, p3, List.length_map] <;> rfl, by simp, ?_⟩
          simp only [he]
          exact ⟨trivial, rfl⟩
        · have he : artErr (l, m) = 0 := by unfold artErr; simp only; rw [if_neg, if_neg p3]; omega
          refine .inl ⟨i + 1, _, _, h, by omega, by simp only [go_sem, reduceIte, Nat.reduceEqDiff, Nat.reduceAdd, Nat.reduceSub, Nat.reduceLeDiff, Nat.reduceLT, reduceCtorEq, Int.reduceLT, Int.reduceLE, Int.reduceEq, Int.reduceBEq, Int.reduceSub, Int.reduceAdd, Int.reduceMul, Int.reduceNeg, Int.reduceToNat, Nat.reduceMul, Nat.reduceBEq, lp26_0, hlt, hx, c77, p1, p2, p3, hs, List.length_map] <;> rfl, by simp only [go_sem, reduceIte, Nat.reduceEqDiff, Nat.reduceAdd, Nat.reduceSub, Nat.reduceLeDiff, Nat.reduceLT, reduceCtorEq, Int.reduceLT, Int.reduceLE, Int.reduceEq, Int.reduceBEq, Int.reduceSub, Int.reduceAdd, Int.reduceMul, Int.reduceNeg, Int.reduceToNat, Nat.reduceMul, Nat.reduceBEq], fun x e s hq => ?_⟩
          simp only [he, if_true]
          exact hq
      · have he : artErr (l, m) = 1 := by unfold artErr; simp only; rw [if_pos]; omega
        refine .inr ⟨.ret, _, _, by simp only [go_sem, reduceIte, Nat.reduceEqDiff, Nat.reduceAdd, Nat.reduceSub, Nat.reduceLeDiff, Nat.reduceLT, reduceCtorEq, Int.reduceLT, Int.reduceLE, Int.reduceEq, Int.reduceBEq, Int.reduceSub, Int.reduceAdd, Int.reduceMul, Int.reduceNeg, Int.reduceToNat, Nat.reduceMul, Nat.reduceBEq, lp26_0, hlt, hx, c77, p1, p2, List.length_map] <;> rfl, by simp, ?_⟩
        simp only [he]
        exact ⟨trivial, rfl⟩
    · have he : artErr (l, m) = 1 := by unfold artErr; simp only; rw [if_pos]; omega
      refine .inr ⟨.ret, _, _, by simp only [go_sem, reduceIte, Nat.reduceEqDiff, Nat.reduceAdd, Nat.reduceSub, Nat.reduceLeDiff, Nat.reduceLT, reduceCtorEq, Int.reduceLT, Int.reduceLE, Int.reduceEq, Int.reduceBEq, Int.reduceSub, Int.reduceAdd, Int.reduceMul, Int.reduceNeg, Int.reduceToNat, Nat.reduceMul, Nat.reduceBEq, lp26_0, hlt, hx, c77, p1, List.length_map] <;> rfl, by simp, ?_⟩
      simp only [he]
      exact ⟨trivial, rfl⟩
  · have hd : arts.drop i = [] := List.drop_eq_nil_of_le (by omega)
    have hlt : ((i : Int) < (arts.length : Int)) = False := by simp; omega
    refine .inr ⟨.exit 0, _, _, by simp only [go_sem, reduceIte, Nat.reduceEqDiff, Nat.reduceAdd, Nat.reduceSub, Nat.reduceLeDiff, Nat.reduceLT, reduceCtorEq, Int.reduceLT, Int.reduceLE, Int.reduceEq, Int.reduceBEq, Int.reduceSub, Int.reduceAdd, Int.reduceMul, Int.reduceNeg, Int.reduceToNat, Nat.reduceMul, Nat.reduceBEq, lp26_0, hlt, List.length_map] <;> rfl, by simp, ?_⟩
    simp only [hd, artsErr, if_true]
    exact ⟨trivial, rfl, trivial⟩

theorem c26 (nl : Bool) (arts : List (Int × Int)) (room floor : Int) (st : St) :
    run L 26 [.agg [sl 2 nl (arts.map artAV), I room, I floor]] st = some (I (check arts room floor), st) := by
  rw [run_pure (fn := ir26) rfl rfl]
  unfold check
  by_cases p1 : arts.length = 0
  · have q1 : ((arts.length : Int) = 0) = True := by simp [p1]
    rw [if_pos p1]
    simp only [ir26, go_sem, reduceIte, Nat.reduceEqDiff, Nat.reduceAdd, Nat.reduceSub, Nat.reduceLeDiff, Nat.reduceLT, reduceCtorEq, Int.reduceLT, Int.reduceLE, Int.reduceEq, Int.reduceBEq, Int.reduceSub, Int.reduceAdd, Int.reduceMul, Int.reduceNeg, Int.reduceToNat, Nat.reduceMul, Nat.reduceBEq, q1, List.length_map]
  · have q1 : ((arts.length : Int) = 0) = False := by simp [p1]
    rw [if_neg p1]
    by_cases p2 : arts.length > 12
    · have q2 : ((12 : Int) < (arts.length : Int)) = True := by simp; omega
      rw [if_pos p2]
      simp only [ir26, go_sem, reduceIte, Nat.reduceEqDiff, Nat.reduceAdd, Nat.reduceSub, Nat.reduceLeDiff, Nat.reduceLT, reduceCtorEq, Int.reduceLT, Int.reduceLE, Int.reduceEq, Int.reduceBEq, Int.reduceSub, Int.reduceAdd, Int.reduceMul, Int.reduceNeg, Int.reduceToNat, Nat.reduceMul, Nat.reduceBEq, q1, q2, List.length_map]
    · have q2 : ((12 : Int) < (arts.length : Int)) = False := by simp; omega
      rw [if_neg p2]
      simp only [ir26, go_sem, reduceIte, Nat.reduceEqDiff, Nat.reduceAdd, Nat.reduceSub, Nat.reduceLeDiff, Nat.reduceLT, reduceCtorEq, Int.reduceLT, Int.reduceLE, Int.reduceEq, Int.reduceBEq, Int.reduceSub, Int.reduceAdd, Int.reduceMul, Int.reduceNeg, Int.reduceToNat, Nat.reduceMul, Nat.reduceBEq, q1, q2, List.length_map]
      generalize hg : lim (headed pure (run L) true [1, 3] lp26_0 1 0) _ _ = o
      obtain ⟨x, e, s, rfl, h2⟩ : ∃ x e s, o = some (x, e, s) ∧ _ := by rw [← hg]; exact loop26 nl arts room floor (by omega) 0 (Nat.zero_le _) _ _ (by simp only [go_sem, reduceIte, Nat.reduceEqDiff, Nat.reduceAdd, Nat.reduceSub, Nat.reduceLeDiff, Nat.reduceLT, reduceCtorEq, Int.reduceLT, Int.reduceLE, Int.reduceEq, Int.reduceBEq, Int.reduceSub, Int.reduceAdd, Int.reduceMul, Int.reduceNeg, Int.reduceToNat, Nat.reduceMul, Nat.reduceBEq] <;> rfl)
      clear hg
      simp only [List.drop_zero] at h2
      by_cases p3 : artsErr arts = 0
      · rw [if_pos p3] at h2
        obtain ⟨rfl, h3, rfl⟩ := h2
        rw [if_pos p3]
        by_cases r1 : 1 ≤ room ∧ room ≤ 100
        · by_cases r2 : 0 ≤ floor ∧ floor ≤ room
          · rw [if_neg (by omega)]
            simp only [go_sem, reduceIte, Nat.reduceEqDiff, Nat.reduceAdd, Nat.reduceSub, Nat.reduceLeDiff, Nat.reduceLT, reduceCtorEq, Int.reduceLT, Int.reduceLE, Int.reduceEq, Int.reduceBEq, Int.reduceSub, Int.reduceAdd, Int.reduceMul, Int.reduceNeg, Int.reduceToNat, Nat.reduceMul, Nat.reduceBEq, h3, r1, r2, c77]
          · rw [if_pos (by omega)]
            simp only [go_sem, reduceIte, Nat.reduceEqDiff, Nat.reduceAdd, Nat.reduceSub, Nat.reduceLeDiff, Nat.reduceLT, reduceCtorEq, Int.reduceLT, Int.reduceLE, Int.reduceEq, Int.reduceBEq, Int.reduceSub, Int.reduceAdd, Int.reduceMul, Int.reduceNeg, Int.reduceToNat, Nat.reduceMul, Nat.reduceBEq, h3, r1, r2, c77]
        · rw [if_pos (by omega)]
          simp only [go_sem, reduceIte, Nat.reduceEqDiff, Nat.reduceAdd, Nat.reduceSub, Nat.reduceLeDiff, Nat.reduceLT, reduceCtorEq, Int.reduceLT, Int.reduceLE, Int.reduceEq, Int.reduceBEq, Int.reduceSub, Int.reduceAdd, Int.reduceMul, Int.reduceNeg, Int.reduceToNat, Nat.reduceMul, Nat.reduceBEq, h3, r1, c77]
      · rw [if_neg p3] at h2
        obtain ⟨rfl, h3⟩ := h2
        simp only [go_sem, reduceIte, Nat.reduceEqDiff, Nat.reduceAdd, Nat.reduceSub, Nat.reduceLeDiff, Nat.reduceLT, reduceCtorEq, Int.reduceLT, Int.reduceLE, Int.reduceEq, Int.reduceBEq, Int.reduceSub, Int.reduceAdd, Int.reduceMul, Int.reduceNeg, Int.reduceToNat, Nat.reduceMul, Nat.reduceBEq, h3, p3]


theorem c68 (a : Int × Int) (st : St) : run L 68 [artAV a] st = some (I a.2, st) := by
  rw [run_pure (fn := ir68) rfl rfl]
  simp only [ir68, go_sem, reduceIte, Nat.reduceEqDiff, Nat.reduceAdd, Nat.reduceSub, Nat.reduceLeDiff, Nat.reduceLT, reduceCtorEq, Int.reduceLT, Int.reduceLE, Int.reduceEq, Int.reduceBEq, Int.reduceSub, Int.reduceAdd, Int.reduceMul, Int.reduceNeg, Int.reduceToNat, Nat.reduceMul, Nat.reduceBEq]
theorem c71 (a : Int × Int) (st : St) : run L 71 [artAV a] st = some (I a.1, st) := by
  rw [run_pure (fn := ir71) rfl rfl]
  simp only [ir71, go_sem, reduceIte, Nat.reduceEqDiff, Nat.reduceAdd, Nat.reduceSub, Nat.reduceLeDiff, Nat.reduceLT, reduceCtorEq, Int.reduceLT, Int.reduceLE, Int.reduceEq, Int.reduceBEq, Int.reduceSub, Int.reduceAdd, Int.reduceMul, Int.reduceNeg, Int.reduceToNat, Nat.reduceMul, Nat.reduceBEq]

theorem c66 (v : Int) (st : St) : run L 66 [I v] st = some (if v < 0 then .tup [I 0, I 13] else .tup [I v, I 0], st) := by
  rw [run_pure (fn := ir66) rfl rfl]
  by_cases h : v < 0 <;> simp only [ir66, go_sem, reduceIte, Nat.reduceEqDiff, Nat.reduceAdd, Nat.reduceSub, Nat.reduceLeDiff, Nat.reduceLT, reduceCtorEq, Int.reduceLT, Int.reduceLE, Int.reduceEq, Int.reduceBEq, Int.reduceSub, Int.reduceAdd, Int.reduceMul, Int.reduceNeg, Int.reduceToNat, Nat.reduceMul, Nat.reduceBEq, h]

theorem c76 (nl : Bool) (l : List Int) (hl : ∀ x ∈ l, 0 ≤ x ∧ x ≤ 100000) (b e : Int) (hb : 0 ≤ b) (he : 0 ≤ e) (hb' : b.toNat < l.length) (he' : e.toNat < l.length) (st : St) :
    run L 76 [sl 1 nl (l.map I), I b, I e] st = some (I (l[e.toNat] - l[b.toNat]), st) := by
  rw [run_pure (fn := ir76) rfl rfl]
  have h1 := index_sl 1 nl (l.map I) .i64 b hb (by simpa using hb')
  have h2 := index_sl 1 nl (l.map I) .i64 e he (by simpa using he')
  simp only [List.getElem_map] at h1 h2
  have h3 := hl _ (List.getElem_mem hb')
  have h4 := hl _ (List.getElem_mem he')
  have h5 := wrap64 (l[e.toNat] - l[b.toNat]) (by omega) (by omega)
  simp only [ir76, go_sem, reduceIte, Nat.reduceEqDiff, Nat.reduceAdd, Nat.reduceSub, Nat.reduceLeDiff, Nat.reduceLT, reduceCtorEq, Int.reduceLT, Int.reduceLE, Int.reduceEq, Int.reduceBEq, Int.reduceSub, Int.reduceAdd, Int.reduceMul, Int.reduceNeg, Int.reduceToNat, Nat.reduceMul, Nat.reduceBEq, h1, h2, h5]

/-- The sums of the first elements. -/
def sums : Int → List Int → List Int
  | s, [] => [s]
  | s, x :: r => s :: sums (s + x) r
theorem sums_len (s : Int) (l : List Int) : (sums s l).length = l.length + 1 := by
  induction l generalizing s with
  | nil => rfl
  | cons x r ih => simp [sums, ih]
theorem sums_get (s : Int) (l : List Int) (i : Nat) (h : i < (sums s l).length) : (sums s l)[i] = s + (l.take i).sum := by
  induction l generalizing s i with
  | nil => simp [sums] at h; subst h; simp [sums]
  | cons x r ih =>
    cases i with
    | zero => simp [sums]
    | succ i => simp [sums]; rw [ih]; omega
theorem sums_snoc (s : Int) (l : List Int) (x : Int) : sums s (l ++ [x]) = sums s l ++ [s + l.sum + x] := by
  induction l generalizing s with
  | nil => simp [sums]
  | cons y r ih => simp [sums, ih, Int.add_assoc]

theorem loop75 (g : FuncId) (f : Int × Int → Int) (hp : pure g = true) (hf : ∀ a st, run L g [artAV a] st = some (I (f a), st)) (nl : Bool) (arts : List (Int × Int)) (hlen : arts.length < 1000) (hr : ∀ a ∈ arts, 0 ≤ f a ∧ f a ≤ 100) (room floor : Int) (i : Nat) (hok : i ≤ arts.length) (env : Env) (st : St)
    (hg : gcAV true 1 0 (canon env [1, 5, 10, 11, 12]) st = ([(1, .fn (.func g) [] []), (5, loc 1 1 ((sums 0 ((arts.take i).map f)).map I)), (10, sl 2 nl (arts.map artAV)), (11, I arts.length), (12, I i)], ⟨[[sl 2 nl (arts.map artAV), I room, I floor]], locT 1 ((sums 0 ((arts.take i).map f)).map I)⟩)) :
    ∃ x e s, (lim (headed pure (run L) true [1, 5, 10, 11, 12] lp75_0 1 0) env st) = some (x, e, s) ∧ (x = .exit 0 ∧ e.get 5 = loc 1 1 ((sums 0 (arts.map f)).map I) ∧ s = ⟨[[sl 2 nl (arts.map artAV), I room, I floor]], locT 1 ((sums 0 (arts.map f)).map I)⟩) := by
  refine loop_post (α := Nat) (fun i => arts.length - i) (fun i => i ≤ arts.length) (fun i => ([(1, .fn (.func g) [] []), (5, loc 1 1 ((sums 0 ((arts.take i).map f)).map I)), (10, sl 2 nl (arts.map artAV)), (11, I arts.length), (12, I i)], ⟨[[sl 2 nl (arts.map artAV), I room, I floor]], locT 1 ((sums 0 ((arts.take i).map f)).map I)⟩)) (fun i x e s => x = .exit 0 ∧ e.get 5 = loc 1 1 ((sums 0 (arts.map f)).map I) ∧ s = ⟨[[sl 2 nl (arts.map artAV), I room, I floor]], locT 1 ((sums 0 (arts.map f)).map I)⟩) (fun i hok => ?_) i hok env st hg
  by_cases h : i < arts.length
  · have hlt : ((i : Int) < (arts.length : Int)) = True := by simp; omega
    have hx := index_arts nl arts i h
    have hs := succ64 i (by omega)
    have hfa := hf arts[i]
    have htk : arts.take (i + 1) = arts.take i ++ [arts[i]] := (List.take_append_getElem h).symm
    have hlen2 : ((sums 0 ((arts.take i).map f)).map I).length = i + 1 := by simp [sums_len]; omega
    have hst : (((arts.take (i + 1)).map f)) = (arts.take i).map f ++ [f arts[i]] := by rw [htk, List.map_append]; rfl
    have hb := hr arts[i] (List.getElem_mem h)
    have hsum : ∀ l : List (Int × Int), (∀ a ∈ l, 0 ≤ f a ∧ f a ≤ 100) → 0 ≤ (l.map f).sum ∧ (l.map f).sum ≤ 100 * l.length := by
      intro l hl
      induction l with
      | nil => simp
      | cons a r ih =>
        have h1 := ih (fun x hx => hl x (by simp [hx]))
        have h2 := hl a (by simp)
        simp only [List.map_cons, List.sum_cons, List.length_cons]
        omega
    have hs2 := hsum (arts.take i) (fun a ha => hr a (List.mem_of_mem_take ha))
    have hs3 : (arts.take i).length = i := by simp; omega
    have hidx := index_loc 1 1 ((sums 0 ((arts.take i).map f)).map I) .i64 i (by omega) (by rw [hlen2]; omega)
    have hget : ((sums 0 ((arts.take i).map f)).map I)[(i : Int).toNat]'(by rw [hlen2]; omega) = I ((arts.take i).map f).sum := by
      simp only [List.getElem_map, sums_get, Int.toNat_natCast]
      rw [List.take_of_length_le (by simp [Nat.min_le_left])]
      simp
    rw [hget] at hidx
    have hnew : (sums 0 ((arts.take (i + 1)).map f)).map I = (sums 0 ((arts.take i).map f)).map I ++ [I (((arts.take i).map f).sum + f arts[i])] := by
      rw [hst, sums_snoc]; simp
    have happ := append_loc (z := 1) (k := 1) (xs := (sums 0 ((arts.take i).map f)).map I) (I (((arts.take i).map f).sum + f arts[i])) [[sl 2 nl (arts.map artAV), I room, I floor], [I arts[i].1, I arts[i].2]] (by omega) (by rw [hlen2]; unfold maxGrow; omega)
    rw [← hnew] at happ
    have hw1 : IntKind.i64.wrap (((i + 1 : Nat) : Int) - 1) = (i : Int) := by rw [wrap64] <;> omega
    have hw2 := wrap64 (((arts.take i).map f).sum + f arts[i]) (by omega) (by omega)
    clear hget hnew hst htk
    have hlen3 : ((sums 0 ((arts.take (i + 1)).map f)).map I).length = i + 2 := by simp [sums_len]; omega
    generalize (sums 0 ((arts.take i).map f)).map I = xs at *
    generalize hys : (sums 0 ((arts.take (i + 1)).map f)).map I = ys at happ hlen3
    generalize ((arts.take i).map f).sum = tot at *
    refine .inl ⟨i + 1, _, _, h, by omega, by simp only [go_sem, reduceIte, Nat.reduceEqDiff, Nat.reduceAdd, Nat.reduceSub, Nat.reduceLeDiff, Nat.reduceLT, reduceCtorEq, Int.reduceLT, Int.reduceLE, Int.reduceEq, Int.reduceBEq, Int.reduceSub, Int.reduceAdd, Int.reduceMul, Int.reduceNeg, Int.reduceToNat, Nat.reduceMul, Nat.reduceBEq, lp75_0, hlt, hx, hp, len_loc, hlen2, hw1, hidx, hfa, hw2, happ, hs] <;> rfl, ?_, fun x e s hq => hq⟩
    have hne : (ys.length = 1) = False := by simp; omega
    simp only [go_sem, reduceIte, Nat.reduceEqDiff, Nat.reduceAdd, Nat.reduceSub, Nat.reduceLeDiff, Nat.reduceLT, reduceCtorEq, Int.reduceLT, Int.reduceLE, Int.reduceEq, Int.reduceBEq, Int.reduceSub, Int.reduceAdd, Int.reduceMul, Int.reduceNeg, Int.reduceToNat, Nat.reduceMul, Nat.reduceBEq, ren1_loc, hne, hys]
    simp only [locT, hne, if_false]
  · have hlt : ((i : Int) < (arts.length : Int)) = False := by simp; omega
    have htk : arts.take i = arts := List.take_of_length_le (by omega)
    rw [htk]
    refine .inr ⟨.exit 0, _, _, by simp only [go_sem, reduceIte, Nat.reduceEqDiff, Nat.reduceAdd, Nat.reduceSub, Nat.reduceLeDiff, Nat.reduceLT, reduceCtorEq, Int.reduceLT, Int.reduceLE, Int.reduceEq, Int.reduceBEq, Int.reduceSub, Int.reduceAdd, Int.reduceMul, Int.reduceNeg, Int.reduceToNat, Nat.reduceMul, Nat.reduceBEq, lp75_0, hlt] <;> rfl, by simp, ?_⟩
    exact ⟨rfl, rfl, rfl⟩

theorem c75 (g : FuncId) (f : Int × Int → Int) (hp : pure g = true) (hf : ∀ a st, run L g [artAV a] st = some (I (f a), st)) (nl : Bool) (arts : List (Int × Int)) (hlen : arts.length < 1000) (hr : ∀ a ∈ arts, 0 ≤ f a ∧ f a ≤ 100) (room floor : Int) (st : St) :
    run L 75 [.agg [sl 2 nl (arts.map artAV), I room, I floor], .fn (.func g) [] []] st = some (sl 1 false ((sums 0 (arts.map f)).map I), st) := by
  rw [run_pure (fn := ir75) rfl rfl]
  simp only [ir75, go_sem, reduceIte, Nat.reduceEqDiff, Nat.reduceAdd, Nat.reduceSub, Nat.reduceLeDiff, Nat.reduceLT, reduceCtorEq, Int.reduceLT, Int.reduceLE, Int.reduceEq, Int.reduceBEq, Int.reduceSub, Int.reduceAdd, Int.reduceMul, Int.reduceNeg, Int.reduceToNat, Nat.reduceMul, Nat.reduceBEq, List.length_map]
  generalize hg : lim (headed pure (run L) true [1, 5, 10, 11, 12] lp75_0 1 0) _ _ = o
  obtain ⟨x, e, s, rfl, h2⟩ : ∃ x e s, o = some (x, e, s) ∧ _ := by rw [← hg]; exact loop75 g f hp hf nl arts hlen hr room floor 0 (Nat.zero_le _) _ _ (by simp only [go_sem, reduceIte, Nat.reduceEqDiff, Nat.reduceAdd, Nat.reduceSub, Nat.reduceLeDiff, Nat.reduceLT, reduceCtorEq, Int.reduceLT, Int.reduceLE, Int.reduceEq, Int.reduceBEq, Int.reduceSub, Int.reduceAdd, Int.reduceMul, Int.reduceNeg, Int.reduceToNat, Nat.reduceMul, Nat.reduceBEq, List.take_zero, sums, loc_lit, locT] <;> rfl)
  clear hg
  obtain ⟨rfl, h3, rfl⟩ := h2
  simp only [go_sem, reduceIte, Nat.reduceEqDiff, Nat.reduceAdd, Nat.reduceSub, Nat.reduceLeDiff, Nat.reduceLT, reduceCtorEq, Int.reduceLT, Int.reduceLE, Int.reduceEq, Int.reduceBEq, Int.reduceSub, Int.reduceAdd, Int.reduceMul, Int.reduceNeg, Int.reduceToNat, Nat.reduceMul, Nat.reduceBEq, h3]


def seg (l : List Int) (b e : Int) : Int := l.getD e.toNat 0 - l.getD b.toNat 0
theorem c76' (nl : Bool) (l : List Int) (hl : ∀ x ∈ l, 0 ≤ x ∧ x ≤ 100000) (b e : Int) (hb : 0 ≤ b) (he : 0 ≤ e) (hb' : b.toNat < l.length) (he' : e.toNat < l.length) (st : St) :
    run L 76 [sl 1 nl (l.map I), I b, I e] st = some (I (seg l b e), st) := by
  rw [c76 nl l hl b e hb he hb' he' st]
  simp only [seg, List.getD_eq_getElem?_getD, List.getElem?_eq_getElem hb', List.getElem?_eq_getElem he', Option.getD_some]

theorem run_args {f : FuncId} {fn : IF} (hf : L.fns f = some fn) (hp : L.pure f = true) {args args' : List AV} (st : St) (h : pubs args = pubs args') : run L f args st = run L f args' st := by
  rw [run_pure hf hp, run_pure hf hp, h]
theorem c76'' {a0 : AV} (nl : Bool) (l : List Int) (ha : pub a0 = sl 1 nl (l.map I)) (hl : ∀ x ∈ l, 0 ≤ x ∧ x ≤ 100000) (b e : Int) (hb : 0 ≤ b) (he : 0 ≤ e) (hb' : b.toNat < l.length) (he' : e.toNat < l.length) (st : St) :
    run L 76 [a0, I b, I e] st = some (I (seg l b e), st) := by
  rw [← c76' nl l hl b e hb he hb' he' st]
  exact run_args (fn := ir76) rfl rfl st (by simp only [pubs, ha, pub_sl])

/-- The first volume for whose lines something holds, from volume v on, or -1. -/
def firstV (l : List Int) (p : Int → Bool) : Int → Nat → List Int → Int
  | _, _, [] => -1
  | b, v, e :: r => if p (seg l b e) = true then v else firstV l p e (v + 1) r

theorem index_ints (nl : Bool) (xs : List Int) (i : Nat) (h : i < xs.length) : indexSAV 1 (sl 1 nl (xs.map I)) (.v (.int .i64 i)) = some (.eptr (.v (.int .i64 xs[i])) 0) := by
  rw [index_sl _ _ _ _ _ (by omega) (by simpa using h)]
  simp

/-- Where volume i begins. -/
def beginOf (ends : List Int) (i : Nat) : Int := if i = 0 then 0 else ends.getD (i - 1) 0
theorem beginOf_succ (ends : List Int) (i : Nat) (h : i < ends.length) : beginOf ends (i + 1) = ends[i] := by
  simp [beginOf, h]
theorem beginOf_ok (ends : List Int) (P : Int → Prop) (h0 : P 0) (h : ∀ e ∈ ends, P e) (i : Nat) (hi : i ≤ ends.length) : P (beginOf ends i) := by
  unfold beginOf
  split
  · exact h0
  · next e =>
    have : i - 1 < ends.length := by omega
    rw [List.getD_eq_getElem?_getD, List.getElem?_eq_getElem this]
    exact h _ (List.getElem_mem this)

theorem loop79 (h : FuncId) (caps : List AV) (p : Int → Bool) (hpu : pure h = false) (l : List Int) (a0 : AV) (hl : ∀ x ∈ l, 0 ≤ x ∧ x ≤ 100000) (hl0 : 0 < l.length) (n1 n2 : Bool) (ha : pub a0 = sl 1 n1 (l.map I)) (ends : List Int) (hlen : ends.length < 1000) (he : ∀ e ∈ ends, 0 ≤ e ∧ e.toNat < l.length) (st0 : St) (hh : ∀ n, run L h (I n :: caps) st0 = some (B (p n), st0)) (lo hi : Nat) (i : Nat) (hok : i ≤ ends.length) (env : Env) (st : St)
    (hg : gcAV false lo hi (canon env [0, 2, 7, 10, 11, 12]) st = ([(0, a0), (2, .fn (.func h) [] caps), (7, I (beginOf ends i)), (10, sl 1 n2 (ends.map I)), (11, I ends.length), (12, I i)], st0)) :
    ∃ x e s, (lim (headed pure (run L) false [0, 2, 7, 10, 11, 12] lp79_0 lo hi) env st) = some (x, e, s) ∧ (s = st0 ∧ if firstV l p (beginOf ends i) i (ends.drop i) < 0 then x = .exit 0 ∧ firstV l p (beginOf ends i) i (ends.drop i) = -1 else x = .ret ∧ e.get 6 = I (firstV l p (beginOf ends i) i (ends.drop i))) := by
  refine loop_post (α := Nat) (fun i => ends.length - i) (fun i => i ≤ ends.length) (fun i => ([(0, a0), (2, .fn (.func h) [] caps), (7, I (beginOf ends i)), (10, sl 1 n2 (ends.map I)), (11, I ends.length), (12, I i)], st0)) (fun i x e s => s = st0 ∧ if firstV l p (beginOf ends i) i (ends.drop i) < 0 then x = .exit 0 ∧ firstV l p (beginOf ends i) i (ends.drop i) = -1 else x = .ret ∧ e.get 6 = I (firstV l p (beginOf ends i) i (ends.drop i))) (fun i hok => ?_) i hok env st hg
  by_cases h : i < ends.length
  · have hd : ends.drop i = ends[i] :: ends.drop (i + 1) := List.drop_eq_getElem_cons h
    have hlt : ((i : Int) < (ends.length : Int)) = True := by simp; omega
    have hx := index_ints n2 ends i h
    have hs := succ64 i (by omega)
    have h1 := he ends[i] (List.getElem_mem h)
    have h2 := beginOf_ok ends (fun e => 0 ≤ e ∧ e.toNat < l.length) ⟨by omega, by simpa using hl0⟩ he i hok
    have h3 := c76'' n1 l ha hl (beginOf ends i) ends[i] h2.1 h1.1 h2.2 h1.2
    have h4 := beginOf_succ ends i h
    rw [hd]
    by_cases hp : p (seg l (beginOf ends i) ends[i]) = true
    · refine .inr ⟨.ret, _, _, by simp only [go_sem, reduceIte, Nat.reduceEqDiff, Nat.reduceAdd, Nat.reduceSub, Nat.reduceLeDiff, Nat.reduceLT, reduceCtorEq, Int.reduceLT, Int.reduceLE, Int.reduceEq, Int.reduceBEq, Int.reduceSub, Int.reduceAdd, Int.reduceMul, Int.reduceNeg, Int.reduceToNat, Nat.reduceMul, Nat.reduceBEq, lp79_0, hlt, hx, hpu, h3, hh, hp] <;> rfl, by simp, ?_⟩
      have hf : firstV l p (beginOf ends i) i (ends[i] :: ends.drop (i + 1)) = i := by simp [firstV, hp]
      simp only [hf]
      rw [if_neg (by omega)]
      exact ⟨by trivial, by trivial, by trivial⟩
    · refine .inl ⟨i + 1, _, _, h, by omega, by simp only [go_sem, reduceIte, Nat.reduceEqDiff, Nat.reduceAdd, Nat.reduceSub, Nat.reduceLeDiff, Nat.reduceLT, reduceCtorEq, Int.reduceLT, Int.reduceLE, Int.reduceEq, Int.reduceBEq, Int.reduceSub, Int.reduceAdd, Int.reduceMul, Int.reduceNeg, Int.reduceToNat, Nat.reduceMul, Nat.reduceBEq, lp79_0, hlt, hx, hpu, h3, hh, hp, hs] <;> rfl, by simp only [go_sem, reduceIte, Nat.reduceEqDiff, Nat.reduceAdd, Nat.reduceSub, Nat.reduceLeDiff, Nat.reduceLT, reduceCtorEq, Int.reduceLT, Int.reduceLE, Int.reduceEq, Int.reduceBEq, Int.reduceSub, Int.reduceAdd, Int.reduceMul, Int.reduceNeg, Int.reduceToNat, Nat.reduceMul, Nat.reduceBEq, h4], fun x e s hq => ?_⟩
      have hf : firstV l p (beginOf ends i) i (ends[i] :: ends.drop (i + 1)) = firstV l p ends[i] (i + 1) (ends.drop (i + 1)) := by simp [firstV, hp]
      simp only [hf]
      simp only [h4] at hq
      exact hq
  · have hd : ends.drop i = [] := List.drop_eq_nil_of_le (by omega)
    have hlt : ((i : Int) < (ends.length : Int)) = False := by simp; omega
    refine .inr ⟨.exit 0, _, _, by simp only [go_sem, reduceIte, Nat.reduceEqDiff, Nat.reduceAdd, Nat.reduceSub, Nat.reduceLeDiff, Nat.reduceLT, reduceCtorEq, Int.reduceLT, Int.reduceLE, Int.reduceEq, Int.reduceBEq, Int.reduceSub, Int.reduceAdd, Int.reduceMul, Int.reduceNeg, Int.reduceToNat, Nat.reduceMul, Nat.reduceBEq, lp79_0, hlt] <;> rfl, by simp, ?_⟩
    simp only [hd, firstV]
    exact ⟨by trivial, by trivial, by trivial⟩

theorem c79 (h : FuncId) (caps : List AV) (p : Int → Bool) (hpu : pure h = false) (l : List Int) (a0 : AV) (hl : ∀ x ∈ l, 0 ≤ x ∧ x ≤ 100000) (hl0 : 0 < l.length) (n1 n2 : Bool) (ha : pub a0 = sl 1 n1 (l.map I)) (ends : List Int) (hlen : ends.length < 1000) (he : ∀ e ∈ ends, 0 ≤ e ∧ e.toNat < l.length) (st0 : St) (hh : ∀ n, run L h (I n :: caps) st0 = some (B (p n), st0)) :
    run L 79 [a0, sl 1 n2 (ends.map I), .fn (.func h) [] caps] st0 = some (I (firstV l p 0 0 ends), st0) := by
  rw [run_shared (fn := ir79) rfl rfl]
  simp only [ir79, go_sem, reduceIte, Nat.reduceEqDiff, Nat.reduceAdd, Nat.reduceSub, Nat.reduceLeDiff, Nat.reduceLT, reduceCtorEq, Int.reduceLT, Int.reduceLE, Int.reduceEq, Int.reduceBEq, Int.reduceSub, Int.reduceAdd, Int.reduceMul, Int.reduceNeg, Int.reduceToNat, Nat.reduceMul, Nat.reduceBEq, List.length_map]
  generalize hg : lim (headed pure (run L) false _ lp79_0 _ _) _ _ = o
  obtain ⟨x, e, s, rfl, h2⟩ : ∃ x e s, o = some (x, e, s) ∧ _ := by rw [← hg]; exact loop79 h caps p hpu l a0 hl hl0 n1 n2 ha ends hlen he st0 hh _ _ 0 (Nat.zero_le _) _ _ (by simp only [go_sem, reduceIte, Nat.reduceEqDiff, Nat.reduceAdd, Nat.reduceSub, Nat.reduceLeDiff, Nat.reduceLT, reduceCtorEq, Int.reduceLT, Int.reduceLE, Int.reduceEq, Int.reduceBEq, Int.reduceSub, Int.reduceAdd, Int.reduceMul, Int.reduceNeg, Int.reduceToNat, Nat.reduceMul, Nat.reduceBEq, beginOf] <;> rfl)
  clear hg
  obtain ⟨rfl, h2⟩ := h2
  simp only [List.drop_zero, beginOf, if_true] at h2
  split at h2
  · obtain ⟨rfl, h3⟩ := h2
    simp only [go_sem, reduceIte, Nat.reduceEqDiff, Nat.reduceAdd, Nat.reduceSub, Nat.reduceLeDiff, Nat.reduceLT, reduceCtorEq, Int.reduceLT, Int.reduceLE, Int.reduceEq, Int.reduceBEq, Int.reduceSub, Int.reduceAdd, Int.reduceMul, Int.reduceNeg, Int.reduceToNat, Nat.reduceMul, Nat.reduceBEq, h3]
  · obtain ⟨rfl, h3⟩ := h2
    simp only [go_sem, reduceIte, Nat.reduceEqDiff, Nat.reduceAdd, Nat.reduceSub, Nat.reduceLeDiff, Nat.reduceLT, reduceCtorEq, Int.reduceLT, Int.reduceLE, Int.reduceEq, Int.reduceBEq, Int.reduceSub, Int.reduceAdd, Int.reduceMul, Int.reduceNeg, Int.reduceToNat, Nat.reduceMul, Nat.reduceBEq, h3]


abbrev bookCells (nl : Bool) (arts : List (Int × Int)) (room floor : Int) : List AV := [sl 2 nl (arts.map artAV), I room, I floor]
abbrev bookAV (nl : Bool) (arts : List (Int × Int)) (room floor : Int) : AV := .agg (bookCells nl arts room floor)

theorem c93 (n room : Int) (l : Nat) (nl : Bool) (arts : List (Int × Int)) (floor : Int) (st : St) (h : st.store[l]? = some (bookCells nl arts room floor)) :
    run L 93 [I n, .ptr l 0] st = some (B (decide (n > room)), st) := by
  rw [run_shared (fn := ir93) rfl rfl]
  simp only [ir93, go_sem, reduceIte, Nat.reduceEqDiff, Nat.reduceAdd, Nat.reduceSub, Nat.reduceLeDiff, Nat.reduceLT, reduceCtorEq, Int.reduceLT, Int.reduceLE, Int.reduceEq, Int.reduceBEq, Int.reduceSub, Int.reduceAdd, Int.reduceMul, Int.reduceNeg, Int.reduceToNat, Nat.reduceMul, Nat.reduceBEq, h]
theorem c80 (n room : Int) (l : Nat) (nl : Bool) (arts : List (Int × Int)) (floor : Int) (st : St) (h : st.store[l]? = some (bookCells nl arts room floor)) :
    run L 80 [I n, .ptr l 0] st = some (B (decide (n < floor)), st) := by
  rw [run_shared (fn := ir80) rfl rfl]
  simp only [ir80, go_sem, reduceIte, Nat.reduceEqDiff, Nat.reduceAdd, Nat.reduceSub, Nat.reduceLeDiff, Nat.reduceLT, reduceCtorEq, Int.reduceLT, Int.reduceLE, Int.reduceEq, Int.reduceBEq, Int.reduceSub, Int.reduceAdd, Int.reduceMul, Int.reduceNeg, Int.reduceToNat, Nat.reduceMul, Nat.reduceBEq, h]

/-- The articles of a book that is accepted. -/
theorem artsErr_zero {arts : List (Int × Int)} (h : artsErr arts = 0) : ∀ a ∈ arts, 1 ≤ a.1 ∧ a.1 ≤ a.2 ∧ a.2 ≤ 30 := by
  induction arts with
  | nil => simp
  | cons a r ih =>
    simp only [artsErr] at h
    split at h
    · next h1 =>
      intro x hx
      rcases List.mem_cons.1 hx with rfl | hx
      · unfold artErr at h1
        split at h1
        · omega
        · split at h1 <;> omega
      · exact ih h x hx
    · next h1 => exact absurd h h1

theorem check_zero {arts : List (Int × Int)} {room floor : Int} (h : check arts room floor = 0) :
    0 < arts.length ∧ arts.length ≤ 12 ∧ (∀ a ∈ arts, 1 ≤ a.1 ∧ a.1 ≤ a.2 ∧ a.2 ≤ 30) ∧ 1 ≤ room ∧ room ≤ 100 ∧ 0 ≤ floor ∧ floor ≤ room := by
  unfold check at h
  split at h
  · omega
  · split at h
    · omega
    · split at h
      · next h3 =>
        split at h
        · omega
        · exact ⟨by omega, by omega, artsErr_zero h3, by omega, by omega, by omega, by omega⟩
      · next h3 => exact absurd h h3

theorem sums_bound (l : List Int) (hl : ∀ x ∈ l, 0 ≤ x ∧ x ≤ 100) : ∀ (s : Int), 0 ≤ s → ∀ x ∈ sums s l, 0 ≤ x ∧ x ≤ s + 100 * l.length := by
  induction l with
  | nil => intro s hs x hx; simp [sums] at hx; subst hx; simp; exact hs
  | cons y r ih =>
    intro s hs x hx
    have hy := hl y (by simp)
    simp only [sums, List.mem_cons] at hx
    rcases hx with rfl | hx
    · simp only [List.length_cons]; omega
    · have := ih (fun z hz => hl z (by simp [hz])) (s + y) (by omega) x hx
      simp only [List.length_cons]; omega

/-- Over: the first volume with more lines than there is room for. -/
theorem c67 (g : FuncId) (f : Int × Int → Int) (hp : pure g = true) (hf : ∀ a st, run L g [artAV a] st = some (I (f a), st)) (nl n2 : Bool) (arts : List (Int × Int)) (hlen : arts.length < 1000) (hr : ∀ a ∈ arts, 0 ≤ f a ∧ f a ≤ 100)
    (room floor : Int) (ends : List Int) (hlen2 : ends.length < 1000) (he : ∀ e ∈ ends, 0 ≤ e ∧ e ≤ arts.length) (st : St) :
    run L 67 [bookAV nl arts room floor, sl 1 n2 (ends.map I), .fn (.func g) [] []] st = some (I (firstV (sums 0 (arts.map f)) (fun n => decide (n > room)) 0 0 ends), st) := by
  rw [run_pure (fn := ir67) rfl rfl]
  have q1 := fun st => c75 g f hp hf nl arts hlen hr room floor st
  have hb := sums_bound (arts.map f) (by intro x hx; obtain ⟨a, ha, rfl⟩ := List.mem_map.1 hx; exact hr a ha) 0 (by omega)
  have hsl : (sums 0 (arts.map f)).length = arts.length + 1 := by simp [sums_len]
  have h79 := c79 93 [.ptr 0 0] (fun n => decide (n > room)) rfl (sums 0 (arts.map f)) (sl 1 false ((sums 0 (arts.map f)).map I)) (fun x hx => by have := hb x hx; simp at this; omega) (by omega) false n2 (pub_sl _ _ _) ends hlen2 (fun e h => by have := he e h; omega) ⟨[bookCells nl arts room floor], []⟩
    (fun n => c93 n room 0 nl arts floor _ rfl)
  simp only [ir67, go_sem, reduceIte, Nat.reduceEqDiff, Nat.reduceAdd, Nat.reduceSub, Nat.reduceLeDiff, Nat.reduceLT, reduceCtorEq, Int.reduceLT, Int.reduceLE, Int.reduceEq, Int.reduceBEq, Int.reduceSub, Int.reduceAdd, Int.reduceMul, Int.reduceNeg, Int.reduceToNat, Nat.reduceMul, Nat.reduceBEq, q1, h79]


def loopErr (n : Int) : Int → List Int → Int
  | _, [] => 0
  | last, e :: r => if e < 1 ∨ e > n then 2 else if e ≤ last then 7 else loopErr n e r

def cutErr (arts : List (Int × Int)) (room floor : Int) (ends : List Int) : Int :=
  if check arts room floor = 0 then (if loopErr arts.length 0 ends = 0 then (if beginOf ends ends.length = arts.length then 0 else 5) else loopErr arts.length 0 ends) else check arts room floor

theorem loop65 (nl n2 : Bool) (arts : List (Int × Int)) (room floor : Int) (ends : List Int) (hlen : ends.length < 1000) (i : Nat) (hok : i ≤ ends.length ∧ 0 ≤ beginOf ends i ∧ (0 < i → 1 ≤ beginOf ends i)) (env : Env) (st : St)
    (hg : gcAV true 1 0 (canon env [2, 6, 14, 15, 16]) st = ([(2, .ptr 0 0), (6, I (beginOf ends i)), (14, sl 1 n2 (ends.map I)), (15, I ends.length), (16, I i)], ⟨[bookCells nl arts room floor], []⟩)) :
    ∃ x e s, (lim (headed pure (run L) true [2, 6, 14, 15, 16] lp65_0 1 0) env st) = some (x, e, s) ∧ (if loopErr arts.length (beginOf ends i) (ends.drop i) = 0 then x = .exit 0 ∧ e.get 2 = .ptr 0 0 ∧ e.get 6 = I (beginOf ends ends.length) ∧ s = ⟨[bookCells nl arts room floor], []⟩ else x = .ret ∧ e.get 4 = I (loopErr arts.length (beginOf ends i) (ends.drop i))) := by
  refine loop_post (α := Nat) (fun i => ends.length - i) (fun i => i ≤ ends.length ∧ 0 ≤ beginOf ends i ∧ (0 < i → 1 ≤ beginOf ends i)) (fun i => ([(2, .ptr 0 0), (6, I (beginOf ends i)), (14, sl 1 n2 (ends.map I)), (15, I ends.length), (16, I i)], ⟨[bookCells nl arts room floor], []⟩)) (fun i x e s => if loopErr arts.length (beginOf ends i) (ends.drop i) = 0 then x = .exit 0 ∧ e.get 2 = .ptr 0 0 ∧ e.get 6 = I (beginOf ends ends.length) ∧ s = ⟨[bookCells nl arts room floor], []⟩ else x = .ret ∧ e.get 4 = I (loopErr arts.length (beginOf ends i) (ends.drop i))) (fun i hok => ?_) i hok env st hg
  obtain ⟨hi, hl1, hl2⟩ := hok
  by_cases h : i < ends.length
  · have hd : ends.drop i = ends[i] :: ends.drop (i + 1) := List.drop_eq_getElem_cons h
    have hlt : ((i : Int) < (ends.length : Int)) = True := by simp; omega
    have hx := index_ints n2 ends i h
    have hs := succ64 i (by omega)
    have h4 := beginOf_succ ends i h
    rw [hd]
    by_cases p1 : ends[i] < 1
    · have hf : loopErr arts.length (beginOf ends i) (ends[i] :: ends.drop (i + 1)) = 2 := by simp [loopErr, p1]
      refine .inr ⟨.ret, _, _, by simp only [go_sem, reduceIte, Nat.reduceEqDiff, Nat.reduceAdd, Nat.reduceSub, Nat.reduceLeDiff, Nat.reduceLT, reduceCtorEq, Int.reduceLT, Int.reduceLE, Int.reduceEq, Int.reduceBEq, Int.reduceSub, Int.reduceAdd, Int.reduceMul, Int.reduceNeg, Int.reduceToNat, Nat.reduceMul, Nat.reduceBEq, lp65_0, hlt, hx, p1] <;> rfl, by simp, ?_⟩
      simp only [hf]
      rw [if_neg (by omega)]
      exact ⟨by trivial, by trivial⟩
    · by_cases p2 : (arts.length : Int) < ends[i]
      · have hf : loopErr arts.length (beginOf ends i) (ends[i] :: ends.drop (i + 1)) = 2 := by simp [loopErr, p2]
        refine .inr ⟨.ret, _, _, by simp only [go_sem, reduceIte, Nat.reduceEqDiff, Nat.reduceAdd, Nat.reduceSub, Nat.reduceLeDiff, Nat.reduceLT, reduceCtorEq, Int.reduceLT, Int.reduceLE, Int.reduceEq, Int.reduceBEq, Int.reduceSub, Int.reduceAdd, Int.reduceMul, Int.reduceNeg, Int.reduceToNat, Nat.reduceMul, Nat.reduceBEq, lp65_0, hlt, hx, p1, p2, List.length_map] <;> rfl, by simp, ?_⟩
        simp only [hf]
        rw [if_neg (by omega)]
        exact ⟨by trivial, by trivial⟩
      · have p12 : ¬ (ends[i] < 1 ∨ ends[i] > (arts.length : Int)) := by omega
        by_cases p3 : (0 : Int) < (i : Int)
        · by_cases p4 : ends[i] ≤ beginOf ends i
          · have hf : loopErr arts.length (beginOf ends i) (ends[i] :: ends.drop (i + 1)) = 7 := by simp only [loopErr]; rw [if_neg p12, if_pos p4]
            refine .inr ⟨.ret, _, _, by simp only [go_sem, reduceIte, Nat.reduceEqDiff, Nat.reduceAdd, Nat.reduceSub, Nat.reduceLeDiff, Nat.reduceLT, reduceCtorEq, Int.reduceLT, Int.reduceLE, Int.reduceEq, Int.reduceBEq, Int.reduceSub, Int.reduceAdd, Int.reduceMul, Int.reduceNeg, Int.reduceToNat, Nat.reduceMul, Nat.reduceBEq, lp65_0, hlt, hx, p1, p2, p3, p4, List.length_map] <;> rfl, by simp, ?_⟩
            simp only [hf]
            rw [if_neg (by omega)]
            exact ⟨by trivial, by trivial⟩
          · have hf : loopErr arts.length (beginOf ends i) (ends[i] :: ends.drop (i + 1)) = loopErr arts.length ends[i] (ends.drop (i + 1)) := by simp only [loopErr]; rw [if_neg p12, if_neg p4]
            refine .inl ⟨i + 1, _, _, ⟨h, by omega, by omega⟩, by omega, by simp only [go_sem, reduceIte, Nat.reduceEqDiff, Nat.reduceAdd, Nat.reduceSub, Nat.reduceLeDiff, Nat.reduceLT, reduceCtorEq, Int.reduceLT, Int.reduceLE, Int.reduceEq, Int.reduceBEq, Int.reduceSub, Int.reduceAdd, Int.reduceMul, Int.reduceNeg, Int.reduceToNat, Nat.reduceMul, Nat.reduceBEq, lp65_0, hlt, hx, p1, p2, p3, p4, hs, List.length_map] <;> rfl, by simp only [go_sem, reduceIte, Nat.reduceEqDiff, Nat.reduceAdd, Nat.reduceSub, Nat.reduceLeDiff, Nat.reduceLT, reduceCtorEq, Int.reduceLT, Int.reduceLE, Int.reduceEq, Int.reduceBEq, Int.reduceSub, Int.reduceAdd, Int.reduceMul, Int.reduceNeg, Int.reduceToNat, Nat.reduceMul, Nat.reduceBEq, h4], fun x e s hq => ?_⟩
            simp only [hf]
            simp only [h4] at hq
            exact hq
        · have p4 : ¬ ends[i] ≤ beginOf ends i := by
            have : i = 0 := by omega
            subst this
            simp [beginOf]; omega
          have hf : loopErr arts.length (beginOf ends i) (ends[i] :: ends.drop (i + 1)) = loopErr arts.length ends[i] (ends.drop (i + 1)) := by simp only [loopErr]; rw [if_neg p12, if_neg p4]
          refine .inl ⟨i + 1, _, _, ⟨h, by omega, by omega⟩, by omega, by simp only [go_sem, reduceIte, Nat.reduceEqDiff, Nat.reduceAdd, Nat.reduceSub, Nat.reduceLeDiff, Nat.reduceLT, reduceCtorEq, Int.reduceLT, Int.reduceLE, Int.reduceEq, Int.reduceBEq, Int.reduceSub, Int.reduceAdd, Int.reduceMul, Int.reduceNeg, Int.reduceToNat, Nat.reduceMul, Nat.reduceBEq, lp65_0, hlt, hx, p1, p2, p3, hs, List.length_map] <;> rfl, by simp only [go_sem, reduceIte, Nat.reduceEqDiff, Nat.reduceAdd, Nat.reduceSub, Nat.reduceLeDiff, Nat.reduceLT, reduceCtorEq, Int.reduceLT, Int.reduceLE, Int.reduceEq, Int.reduceBEq, Int.reduceSub, Int.reduceAdd, Int.reduceMul, Int.reduceNeg, Int.reduceToNat, Nat.reduceMul, Nat.reduceBEq, h4], fun x e s hq => ?_⟩
          simp only [hf]
          simp only [h4] at hq
          exact hq
  · have hd : ends.drop i = [] := List.drop_eq_nil_of_le (by omega)
    have hlt : ((i : Int) < (ends.length : Int)) = False := by simp; omega
    have hie : i = ends.length := by omega
    refine .inr ⟨.exit 0, _, _, by simp only [go_sem, reduceIte, Nat.reduceEqDiff, Nat.reduceAdd, Nat.reduceSub, Nat.reduceLeDiff, Nat.reduceLT, reduceCtorEq, Int.reduceLT, Int.reduceLE, Int.reduceEq, Int.reduceBEq, Int.reduceSub, Int.reduceAdd, Int.reduceMul, Int.reduceNeg, Int.reduceToNat, Nat.reduceMul, Nat.reduceBEq, lp65_0, hlt] <;> rfl, by simp, ?_⟩
    simp only [hd, loopErr, if_true]
    rw [hie]
    exact ⟨by trivial, by trivial, by trivial, by trivial⟩

theorem c65 (nl n2 : Bool) (arts : List (Int × Int)) (room floor : Int) (ends : List Int) (hlen : ends.length < 1000) (st : St) :
    run L 65 [bookAV nl arts room floor, sl 1 n2 (ends.map I)] st = some (I (cutErr arts room floor ends), st) := by
  rw [run_pure (fn := ir65) rfl rfl]
  have hc := fun st => c25 nl arts room floor st
  unfold cutErr
  by_cases p0 : check arts room floor = 0
  · rw [if_pos p0]
    simp only [ir65, go_sem, reduceIte, Nat.reduceEqDiff, Nat.reduceAdd, Nat.reduceSub, Nat.reduceLeDiff, Nat.reduceLT, reduceCtorEq, Int.reduceLT, Int.reduceLE, Int.reduceEq, Int.reduceBEq, Int.reduceSub, Int.reduceAdd, Int.reduceMul, Int.reduceNeg, Int.reduceToNat, Nat.reduceMul, Nat.reduceBEq, hc, p0, List.length_map]
    generalize hg : lim (headed pure (run L) true _ lp65_0 _ _) _ _ = o
    obtain ⟨x, e, s, rfl, h2⟩ : ∃ x e s, o = some (x, e, s) ∧ _ := by rw [← hg]; exact loop65 nl n2 arts room floor ends hlen 0 ⟨Nat.zero_le _, by simp [beginOf], by omega⟩ _ _ (by simp only [go_sem, reduceIte, Nat.reduceEqDiff, Nat.reduceAdd, Nat.reduceSub, Nat.reduceLeDiff, Nat.reduceLT, reduceCtorEq, Int.reduceLT, Int.reduceLE, Int.reduceEq, Int.reduceBEq, Int.reduceSub, Int.reduceAdd, Int.reduceMul, Int.reduceNeg, Int.reduceToNat, Nat.reduceMul, Nat.reduceBEq, beginOf] <;> rfl)
    clear hg
    simp only [List.drop_zero, show beginOf ends 0 = 0 from rfl] at h2
    by_cases p1 : loopErr arts.length 0 ends = 0
    · rw [if_pos p1] at h2
      obtain ⟨rfl, h3, h4, rfl⟩ := h2
      rw [if_pos p1]
      by_cases p2 : beginOf ends ends.length = (arts.length : Int)
      · rw [if_pos p2]
        simp only [go_sem, reduceIte, Nat.reduceEqDiff, Nat.reduceAdd, Nat.reduceSub, Nat.reduceLeDiff, Nat.reduceLT, reduceCtorEq, Int.reduceLT, Int.reduceLE, Int.reduceEq, Int.reduceBEq, Int.reduceSub, Int.reduceAdd, Int.reduceMul, Int.reduceNeg, Int.reduceToNat, Nat.reduceMul, Nat.reduceBEq, h3, h4, p2, List.length_map]
      · rw [if_neg p2]
        simp only [go_sem, reduceIte, Nat.reduceEqDiff, Nat.reduceAdd, Nat.reduceSub, Nat.reduceLeDiff, Nat.reduceLT, reduceCtorEq, Int.reduceLT, Int.reduceLE, Int.reduceEq, Int.reduceBEq, Int.reduceSub, Int.reduceAdd, Int.reduceMul, Int.reduceNeg, Int.reduceToNat, Nat.reduceMul, Nat.reduceBEq, h3, h4, p2, List.length_map]
    · rw [if_neg p1] at h2
      obtain ⟨rfl, h3⟩ := h2
      rw [if_neg p1]
      simp only [go_sem, reduceIte, Nat.reduceEqDiff, Nat.reduceAdd, Nat.reduceSub, Nat.reduceLeDiff, Nat.reduceLT, reduceCtorEq, Int.reduceLT, Int.reduceLE, Int.reduceEq, Int.reduceBEq, Int.reduceSub, Int.reduceAdd, Int.reduceMul, Int.reduceNeg, Int.reduceToNat, Nat.reduceMul, Nat.reduceBEq, h3]
  · rw [if_neg p0]
    simp only [ir65, go_sem, reduceIte, Nat.reduceEqDiff, Nat.reduceAdd, Nat.reduceSub, Nat.reduceLeDiff, Nat.reduceLT, reduceCtorEq, Int.reduceLT, Int.reduceLE, Int.reduceEq, Int.reduceBEq, Int.reduceSub, Int.reduceAdd, Int.reduceMul, Int.reduceNeg, Int.reduceToNat, Nat.reduceMul, Nat.reduceBEq, hc, p0]


theorem loopErr_zero {n : Int} : ∀ {last : Int} {ends : List Int}, loopErr n last ends = 0 → ∀ e ∈ ends, 1 ≤ e ∧ e ≤ n
  | _, [], _ => by simp
  | last, e :: r, h => by
    simp only [loopErr] at h
    split at h
    · omega
    · split at h
      · omega
      · intro x hx
        rcases List.mem_cons.1 hx with rfl | hx
        · omega
        · exact loopErr_zero h x hx

theorem cutErr_zero {arts : List (Int × Int)} {room floor : Int} {ends : List Int} (h : cutErr arts room floor ends = 0) :
    check arts room floor = 0 ∧ loopErr arts.length 0 ends = 0 ∧ (∀ e ∈ ends, 1 ≤ e ∧ e ≤ (arts.length : Int)) ∧ beginOf ends ends.length = arts.length := by
  unfold cutErr at h
  split at h
  · next h1 =>
    split at h
    · next h2 =>
      split at h
      · next h3 => exact ⟨h1, h2, loopErr_zero h2, h3⟩
      · omega
    · next h2 => exact absurd h h2
  · next h1 => exact absurd h h1

abbrev mosts (arts : List (Int × Int)) : List Int := sums 0 (arts.map (·.2))
abbrev leasts (arts : List (Int × Int)) : List Int := sums 0 (arts.map (·.1))

theorem c67m (nl n2 : Bool) (arts : List (Int × Int)) (room floor : Int) (ends : List Int) (hlen2 : ends.length < 1000) (hc : cutErr arts room floor ends = 0) (st : St) :
    run L 67 [bookAV nl arts room floor, sl 1 n2 (ends.map I), .fn (.func 68) [] []] st = some (I (firstV (mosts arts) (fun n => decide (n > room)) 0 0 ends), st) := by
  obtain ⟨h1, h2, h3, _⟩ := cutErr_zero hc
  obtain ⟨k1, k2, k3, _⟩ := check_zero h1
  exact c67 68 (·.2) rfl c68 nl n2 arts (by omega) (fun a ha => by have := k3 a ha; omega) room floor ends hlen2 (fun e he => by have := h3 e he; omega) st
theorem c67l (nl n2 : Bool) (arts : List (Int × Int)) (room floor : Int) (ends : List Int) (hlen2 : ends.length < 1000) (hc : cutErr arts room floor ends = 0) (st : St) :
    run L 67 [bookAV nl arts room floor, sl 1 n2 (ends.map I), .fn (.func 71) [] []] st = some (I (firstV (leasts arts) (fun n => decide (n > room)) 0 0 ends), st) := by
  obtain ⟨h1, h2, h3, _⟩ := cutErr_zero hc
  obtain ⟨k1, k2, k3, _⟩ := check_zero h1
  exact c67 71 (·.1) rfl c71 nl n2 arts (by omega) (fun a ha => by have := k3 a ha; omega) room floor ends hlen2 (fun e he => by have := h3 e he; omega) st

def holdsErr (arts : List (Int × Int)) (room floor : Int) (ends : List Int) : Int :=
  if cutErr arts room floor ends = 0 then (if 0 ≤ firstV (mosts arts) (fun n => decide (n > room)) 0 0 ends then 15 else 0) else cutErr arts room floor ends

theorem c27 (nl n2 : Bool) (arts : List (Int × Int)) (room floor : Int) (ends : List Int) (hlen : ends.length < 1000) (st : St) :
    run L 27 [bookAV nl arts room floor, sl 1 n2 (ends.map I)] st = some (I (holdsErr arts room floor ends), st) := by
  rw [run_pure (fn := ir27) rfl rfl]
  have hc := fun st => c65 nl n2 arts room floor ends hlen st
  unfold holdsErr
  by_cases p0 : cutErr arts room floor ends = 0
  · have ho := fun st => c67m nl n2 arts room floor ends hlen p0 st
    rw [if_pos p0]
    by_cases p1 : 0 ≤ firstV (mosts arts) (fun n => decide (n > room)) 0 0 ends
    · rw [if_pos p1]
      simp only [gt_iff_lt] at p1 ho
      simp only [ir27, go_sem, reduceIte, Nat.reduceEqDiff, Nat.reduceAdd, Nat.reduceSub, Nat.reduceLeDiff, Nat.reduceLT, reduceCtorEq, Int.reduceLT, Int.reduceLE, Int.reduceEq, Int.reduceBEq, Int.reduceSub, Int.reduceAdd, Int.reduceMul, Int.reduceNeg, Int.reduceToNat, Nat.reduceMul, Nat.reduceBEq, hc, p0, ho, p1]
    · rw [if_neg p1]
      simp only [gt_iff_lt] at p1 ho
      simp only [ir27, go_sem, reduceIte, Nat.reduceEqDiff, Nat.reduceAdd, Nat.reduceSub, Nat.reduceLeDiff, Nat.reduceLT, reduceCtorEq, Int.reduceLT, Int.reduceLE, Int.reduceEq, Int.reduceBEq, Int.reduceSub, Int.reduceAdd, Int.reduceMul, Int.reduceNeg, Int.reduceToNat, Nat.reduceMul, Nat.reduceBEq, hc, p0, ho, p1]
  · rw [if_neg p0]
    simp only [ir27, go_sem, reduceIte, Nat.reduceEqDiff, Nat.reduceAdd, Nat.reduceSub, Nat.reduceLeDiff, Nat.reduceLT, reduceCtorEq, Int.reduceLT, Int.reduceLE, Int.reduceEq, Int.reduceBEq, Int.reduceSub, Int.reduceAdd, Int.reduceMul, Int.reduceNeg, Int.reduceToNat, Nat.reduceMul, Nat.reduceBEq, hc, p0]

/-- The lines of some articles, by one of their numbers: the list of the sums. -/
theorem c75' (g : FuncId) (f : Int × Int → Int) (hp : pure g = true) (hf : ∀ a st, run L g [artAV a] st = some (I (f a), st)) (nl : Bool) (arts : List (Int × Int)) (hlen : arts.length < 1000) (hr : ∀ a ∈ arts, 0 ≤ f a ∧ f a ≤ 100) (room floor : Int) (st : St) :
    run L 75 [bookAV nl arts room floor, .fn (.func g) [] []] st = some (sl 1 false ((sums 0 (arts.map f)).map I), st) := c75 g f hp hf nl arts hlen hr room floor st

def safeErr (arts : List (Int × Int)) (room floor : Int) (ends : List Int) : Int :=
  if holdsErr arts room floor ends = 0 then (if 0 ≤ firstV (leasts arts) (fun n => decide (n < floor)) 0 0 ends then 21 else 0) else holdsErr arts room floor ends

theorem c29 (nl n2 : Bool) (arts : List (Int × Int)) (room floor : Int) (ends : List Int) (hlen : ends.length < 1000) (st : St) :
    run L 29 [bookAV nl arts room floor, sl 1 n2 (ends.map I)] st = some (I (safeErr arts room floor ends), st) := by
  rw [run_pure (fn := ir29) rfl rfl]
  have hc := fun st => c27 nl n2 arts room floor ends hlen st
  unfold safeErr
  by_cases p0 : holdsErr arts room floor ends = 0
  · rw [if_pos p0]
    have hcut : cutErr arts room floor ends = 0 := by
      unfold holdsErr at p0
      split at p0
      · assumption
      · next h => exact absurd p0 h
    obtain ⟨h1, h2, h3, _⟩ := cutErr_zero hcut
    obtain ⟨k1, k2, k3, _⟩ := check_zero h1
    have q1 := fun st => c75' 71 (·.1) rfl c71 nl arts (by omega) (fun a ha => by have := k3 a ha; omega) room floor st
    have hb := sums_bound (arts.map (·.1)) (by intro x hx; obtain ⟨a, ha, rfl⟩ := List.mem_map.1 hx; have := k3 a ha; omega) 0 (by omega)
    have hsl : (leasts arts).length = arts.length + 1 := by simp [sums_len]
    have h79 := c79 80 [.ptr 0 0] (fun n => decide (n < floor)) rfl (leasts arts) (sl 1 false ((leasts arts).map I)) (fun x hx => by have := hb x hx; simp at this; omega) (by omega) false n2 (pub_sl _ _ _) ends hlen (fun e h => by have := h3 e h; omega) ⟨[bookCells nl arts room floor], []⟩
      (fun n => c80 n room 0 nl arts floor _ rfl)
    by_cases p1 : 0 ≤ firstV (leasts arts) (fun n => decide (n < floor)) 0 0 ends
    · rw [if_pos p1]
      simp only [ir29, go_sem, reduceIte, Nat.reduceEqDiff, Nat.reduceAdd, Nat.reduceSub, Nat.reduceLeDiff, Nat.reduceLT, reduceCtorEq, Int.reduceLT, Int.reduceLE, Int.reduceEq, Int.reduceBEq, Int.reduceSub, Int.reduceAdd, Int.reduceMul, Int.reduceNeg, Int.reduceToNat, Nat.reduceMul, Nat.reduceBEq, hc, p0, q1, h79, p1]
    · rw [if_neg p1]
      simp only [ir29, go_sem, reduceIte, Nat.reduceEqDiff, Nat.reduceAdd, Nat.reduceSub, Nat.reduceLeDiff, Nat.reduceLT, reduceCtorEq, Int.reduceLT, Int.reduceLE, Int.reduceEq, Int.reduceBEq, Int.reduceSub, Int.reduceAdd, Int.reduceMul, Int.reduceNeg, Int.reduceToNat, Nat.reduceMul, Nat.reduceBEq, hc, p0, q1, h79, p1]
  · rw [if_neg p0]
    simp only [ir29, go_sem, reduceIte, Nat.reduceEqDiff, Nat.reduceAdd, Nat.reduceSub, Nat.reduceLeDiff, Nat.reduceLT, reduceCtorEq, Int.reduceLT, Int.reduceLE, Int.reduceEq, Int.reduceBEq, Int.reduceSub, Int.reduceAdd, Int.reduceMul, Int.reduceNeg, Int.reduceToNat, Nat.reduceMul, Nat.reduceBEq, hc, p0]

def mayV (arts : List (Int × Int)) (room floor : Int) (ends : List Int) : Int × Int :=
  if cutErr arts room floor ends = 0 then (if firstV (mosts arts) (fun n => decide (n > room)) 0 0 ends < 0 then (0, 13) else (firstV (mosts arts) (fun n => decide (n > room)) 0 0 ends, 0)) else (0, cutErr arts room floor ends)
def mustV (arts : List (Int × Int)) (room floor : Int) (ends : List Int) : Int × Int :=
  if cutErr arts room floor ends = 0 then (if firstV (leasts arts) (fun n => decide (n > room)) 0 0 ends < 0 then (0, 13) else (firstV (leasts arts) (fun n => decide (n > room)) 0 0 ends, 0)) else (0, cutErr arts room floor ends)
abbrev two (p : Int × Int) : AV := .tup [I p.1, I p.2]

theorem c19 (nl n2 : Bool) (arts : List (Int × Int)) (room floor : Int) (ends : List Int) (hlen : ends.length < 1000) (st : St) :
    run L 19 [bookAV nl arts room floor, sl 1 n2 (ends.map I)] st = some (two (mayV arts room floor ends), st) := by
  rw [run_pure (fn := ir19) rfl rfl]
  have hc := fun st => c65 nl n2 arts room floor ends hlen st
  unfold mayV
  by_cases p0 : cutErr arts room floor ends = 0
  · have ho := fun st => c67m nl n2 arts room floor ends hlen p0 st
    rw [if_pos p0]
    by_cases p1 : firstV (mosts arts) (fun n => decide (n > room)) 0 0 ends < 0
    · rw [if_pos p1]
      simp only [gt_iff_lt] at p1 ho
      simp only [ir19, go_sem, reduceIte, Nat.reduceEqDiff, Nat.reduceAdd, Nat.reduceSub, Nat.reduceLeDiff, Nat.reduceLT, reduceCtorEq, Int.reduceLT, Int.reduceLE, Int.reduceEq, Int.reduceBEq, Int.reduceSub, Int.reduceAdd, Int.reduceMul, Int.reduceNeg, Int.reduceToNat, Nat.reduceMul, Nat.reduceBEq, hc, p0, ho, c66, p1]
    · rw [if_neg p1]
      simp only [gt_iff_lt] at p1 ho
      simp only [ir19, go_sem, reduceIte, Nat.reduceEqDiff, Nat.reduceAdd, Nat.reduceSub, Nat.reduceLeDiff, Nat.reduceLT, reduceCtorEq, Int.reduceLT, Int.reduceLE, Int.reduceEq, Int.reduceBEq, Int.reduceSub, Int.reduceAdd, Int.reduceMul, Int.reduceNeg, Int.reduceToNat, Nat.reduceMul, Nat.reduceBEq, hc, p0, ho, c66, p1]
  · rw [if_neg p0]
    simp only [ir19, go_sem, reduceIte, Nat.reduceEqDiff, Nat.reduceAdd, Nat.reduceSub, Nat.reduceLeDiff, Nat.reduceLT, reduceCtorEq, Int.reduceLT, Int.reduceLE, Int.reduceEq, Int.reduceBEq, Int.reduceSub, Int.reduceAdd, Int.reduceMul, Int.reduceNeg, Int.reduceToNat, Nat.reduceMul, Nat.reduceBEq, hc, p0]

theorem c21 (nl n2 : Bool) (arts : List (Int × Int)) (room floor : Int) (ends : List Int) (hlen : ends.length < 1000) (st : St) :
    run L 21 [bookAV nl arts room floor, sl 1 n2 (ends.map I)] st = some (two (mustV arts room floor ends), st) := by
  rw [run_pure (fn := ir21) rfl rfl]
  have hc := fun st => c65 nl n2 arts room floor ends hlen st
  unfold mustV
  by_cases p0 : cutErr arts room floor ends = 0
  · have ho := fun st => c67l nl n2 arts room floor ends hlen p0 st
    rw [if_pos p0]
    by_cases p1 : firstV (leasts arts) (fun n => decide (n > room)) 0 0 ends < 0
    · rw [if_pos p1]
      simp only [gt_iff_lt] at p1 ho
      simp only [ir21, go_sem, reduceIte, Nat.reduceEqDiff, Nat.reduceAdd, Nat.reduceSub, Nat.reduceLeDiff, Nat.reduceLT, reduceCtorEq, Int.reduceLT, Int.reduceLE, Int.reduceEq, Int.reduceBEq, Int.reduceSub, Int.reduceAdd, Int.reduceMul, Int.reduceNeg, Int.reduceToNat, Nat.reduceMul, Nat.reduceBEq, hc, p0, ho, c66, p1]
    · rw [if_neg p1]
      simp only [gt_iff_lt] at p1 ho
      simp only [ir21, go_sem, reduceIte, Nat.reduceEqDiff, Nat.reduceAdd, Nat.reduceSub, Nat.reduceLeDiff, Nat.reduceLT, reduceCtorEq, Int.reduceLT, Int.reduceLE, Int.reduceEq, Int.reduceBEq, Int.reduceSub, Int.reduceAdd, Int.reduceMul, Int.reduceNeg, Int.reduceToNat, Nat.reduceMul, Nat.reduceBEq, hc, p0, ho, c66, p1]
  · rw [if_neg p0]
    simp only [ir21, go_sem, reduceIte, Nat.reduceEqDiff, Nat.reduceAdd, Nat.reduceSub, Nat.reduceLeDiff, Nat.reduceLT, reduceCtorEq, Int.reduceLT, Int.reduceLE, Int.reduceEq, Int.reduceBEq, Int.reduceSub, Int.reduceAdd, Int.reduceMul, Int.reduceNeg, Int.reduceToNat, Nat.reduceMul, Nat.reduceBEq, hc, p0]


/-! ### the reference -/

/-- The sum of some articles' numbers. -/
def sumSeg (f : Int × Int → Int) (arts : List (Int × Int)) (b e : Nat) : Int := (((arts.take e).drop b).map f).sum

theorem sumSeg_step (f : Int × Int → Int) (arts : List (Int × Int)) (i e : Nat) (h : i < e) (he : e ≤ arts.length) : sumSeg f arts i e = f (arts[i]'(by omega)) + sumSeg f arts (i + 1) e := by
  unfold sumSeg
  have h1 : i < (arts.take e).length := by simp; omega
  rw [List.drop_eq_getElem_cons h1]
  simp
theorem sumSeg_end (f : Int × Int → Int) (arts : List (Int × Int)) (i e : Nat) (h : e ≤ i) : sumSeg f arts i e = 0 := by
  unfold sumSeg
  rw [List.drop_eq_nil_of_le (by simp; omega)]
  rfl
theorem sumSeg_bound (f : Int × Int → Int) (arts : List (Int × Int)) (hr : ∀ a ∈ arts, 0 ≤ f a ∧ f a ≤ 100) (b e : Nat) : 0 ≤ sumSeg f arts b e ∧ sumSeg f arts b e ≤ 100 * arts.length := by
  unfold sumSeg
  have hsum : ∀ l : List (Int × Int), (∀ a ∈ l, 0 ≤ f a ∧ f a ≤ 100) → 0 ≤ (l.map f).sum ∧ (l.map f).sum ≤ 100 * l.length := by
    intro l hl
    induction l with
    | nil => simp
    | cons a r ih =>
      have h1 := ih (fun x hx => hl x (by simp [hx]))
      have h2 := hl a (by simp)
      simp only [List.map_cons, List.sum_cons, List.length_cons]
      omega
  have h1 := hsum ((arts.take e).drop b) (fun a ha => hr a (List.mem_of_mem_take (List.mem_of_mem_drop ha)))
  have h2 : ((arts.take e).drop b).length ≤ arts.length := by simp; omega
  omega
/-- It is what the sums of the first ones differ by. -/
theorem seg_sums (f : Int × Int → Int) (arts : List (Int × Int)) (b e : Int) (h : 0 ≤ b) (hbe : b ≤ e) (he : e ≤ arts.length) : seg (sums 0 (arts.map f)) b e = sumSeg f arts b.toNat e.toNat := by
  unfold seg sumSeg
  have h1 : e.toNat < (sums 0 (arts.map f)).length := by simp [sums_len]; omega
  have h2 : b.toNat < (sums 0 (arts.map f)).length := by simp [sums_len]; omega
  rw [List.getD_eq_getElem?_getD, List.getD_eq_getElem?_getD, List.getElem?_eq_getElem h1, List.getElem?_eq_getElem h2]
  simp only [Option.getD_some, sums_get]
  have h3 : (arts.map f).take e.toNat = ((arts.map f).take b.toNat) ++ (((arts.take e.toNat).drop b.toNat).map f) := by
    rw [← List.map_take, ← List.map_take, ← List.map_append]
    congr 1
    have : arts.take b.toNat = (arts.take e.toNat).take b.toNat := by rw [List.take_take, Nat.min_eq_left (by omega)]
    rw [this, List.take_append_drop]
  rw [h3, List.sum_append]
  omega

theorem loop78 (nl : Bool) (arts : List (Int × Int)) (room floor : Int) (hlen : arts.length < 1000) (hr : ∀ a ∈ arts, 0 ≤ a.2 ∧ a.2 ≤ 100) (ee : Nat) (hee : ee ≤ arts.length) (i : Nat) (n : Int) (hok : 0 ≤ n ∧ n ≤ 100 * i) (env : Env) (st : St)
    (hg : gcAV true 1 0 (canon env [2, 3, 7, 8]) st = ([(2, I ee), (3, .ptr 0 0), (7, I n), (8, I i)], ⟨[bookCells nl arts room floor], []⟩)) :
    ∃ x e s, (lim (headed pure (run L) true [2, 3, 7, 8] lp78_0 1 0) env st) = some (x, e, s) ∧ (x = .exit 0 ∧ e.get 7 = I (n + sumSeg (·.2) arts i ee)) := by
  refine loop_post (α := Nat × Int) (fun ⟨i, n⟩ => ee - i) (fun ⟨i, n⟩ => 0 ≤ n ∧ n ≤ 100 * i) (fun ⟨i, n⟩ => ([(2, I ee), (3, .ptr 0 0), (7, I n), (8, I i)], ⟨[bookCells nl arts room floor], []⟩)) (fun ⟨i, n⟩ x e s => x = .exit 0 ∧ e.get 7 = I (n + sumSeg (·.2) arts i ee)) (fun ⟨i, n⟩ hok => ?_) ⟨i, n⟩ hok env st hg
  by_cases h : i < ee
  · have hlt : ((i : Int) < (ee : Int)) = True := by simp; omega
    have hx := index_arts nl arts i (by omega)
    have hs := succ64 i (by omega)
    have hb := hr arts[i] (List.getElem_mem (by omega))
    have hst := sumSeg_step (·.2) arts i ee h hee
    have hw := wrap64 (n + arts[i].2) (by simp only at hok; omega) (by simp only at hok; omega)
    simp only at hok
    refine .inl ⟨(i + 1, n + arts[i].2), _, _, by simp only; omega, by simp only; omega, by simp only [go_sem, reduceIte, Nat.reduceEqDiff, Nat.reduceAdd, Nat.reduceSub, Nat.reduceLeDiff, Nat.reduceLT, reduceCtorEq, Int.reduceLT, Int.reduceLE, Int.reduceEq, Int.reduceBEq, Int.reduceSub, Int.reduceAdd, Int.reduceMul, Int.reduceNeg, Int.reduceToNat, Nat.reduceMul, Nat.reduceBEq, lp78_0, hlt, hx, hs, hw] <;> rfl, by simp only [go_sem, reduceIte, Nat.reduceEqDiff, Nat.reduceAdd, Nat.reduceSub, Nat.reduceLeDiff, Nat.reduceLT, reduceCtorEq, Int.reduceLT, Int.reduceLE, Int.reduceEq, Int.reduceBEq, Int.reduceSub, Int.reduceAdd, Int.reduceMul, Int.reduceNeg, Int.reduceToNat, Nat.reduceMul, Nat.reduceBEq], fun x e s hq => ?_⟩
    simp only [hst]
    rw [← Int.add_assoc]
    exact hq
  · have hlt : ((i : Int) < (ee : Int)) = False := by simp; omega
    have hst := sumSeg_end (·.2) arts i ee (by omega)
    refine .inr ⟨.exit 0, _, _, by simp only [go_sem, reduceIte, Nat.reduceEqDiff, Nat.reduceAdd, Nat.reduceSub, Nat.reduceLeDiff, Nat.reduceLT, reduceCtorEq, Int.reduceLT, Int.reduceLE, Int.reduceEq, Int.reduceBEq, Int.reduceSub, Int.reduceAdd, Int.reduceMul, Int.reduceNeg, Int.reduceToNat, Nat.reduceMul, Nat.reduceBEq, lp78_0, hlt] <;> rfl, by simp, ?_⟩
    simp only [hst, Int.add_zero]
    exact ⟨by trivial, by trivial⟩

theorem c78 (nl : Bool) (arts : List (Int × Int)) (room floor : Int) (hlen : arts.length < 1000) (hr : ∀ a ∈ arts, 0 ≤ a.2 ∧ a.2 ≤ 100) (b e : Nat) (he : e ≤ arts.length) (hb : b ≤ arts.length) (st : St) :
    run L 78 [bookAV nl arts room floor, I b, I e] st = some (I (sumSeg (·.2) arts b e), st) := by
  rw [run_pure (fn := ir78) rfl rfl]
  simp only [ir78, go_sem, reduceIte, Nat.reduceEqDiff, Nat.reduceAdd, Nat.reduceSub, Nat.reduceLeDiff, Nat.reduceLT, reduceCtorEq, Int.reduceLT, Int.reduceLE, Int.reduceEq, Int.reduceBEq, Int.reduceSub, Int.reduceAdd, Int.reduceMul, Int.reduceNeg, Int.reduceToNat, Nat.reduceMul, Nat.reduceBEq]
  generalize hg : lim (headed pure (run L) true _ lp78_0 _ _) _ _ = o
  obtain ⟨x, en, s, rfl, h2⟩ : ∃ x e s, o = some (x, e, s) ∧ _ := by rw [← hg]; exact loop78 nl arts room floor hlen hr e he b 0 ⟨by omega, by omega⟩ _ _ (by simp only [go_sem, reduceIte, Nat.reduceEqDiff, Nat.reduceAdd, Nat.reduceSub, Nat.reduceLeDiff, Nat.reduceLT, reduceCtorEq, Int.reduceLT, Int.reduceLE, Int.reduceEq, Int.reduceBEq, Int.reduceSub, Int.reduceAdd, Int.reduceMul, Int.reduceNeg, Int.reduceToNat, Nat.reduceMul, Nat.reduceBEq] <;> rfl)
  clear hg
  obtain ⟨rfl, h3⟩ := h2
  rw [Int.zero_add] at h3
  simp only [go_sem, reduceIte, Nat.reduceEqDiff, Nat.reduceAdd, Nat.reduceSub, Nat.reduceLeDiff, Nat.reduceLT, reduceCtorEq, Int.reduceLT, Int.reduceLE, Int.reduceEq, Int.reduceBEq, Int.reduceSub, Int.reduceAdd, Int.reduceMul, Int.reduceNeg, Int.reduceToNat, Nat.reduceMul, Nat.reduceBEq, h3]
theorem loop72 (nl : Bool) (arts : List (Int × Int)) (room floor : Int) (hlen : arts.length < 1000) (hr : ∀ a ∈ arts, 0 ≤ a.1 ∧ a.1 ≤ 100) (ee : Nat) (hee : ee ≤ arts.length) (i : Nat) (n : Int) (hok : 0 ≤ n ∧ n ≤ 100 * i) (env : Env) (st : St)
    (hg : gcAV true 1 0 (canon env [2, 3, 7, 8]) st = ([(2, I ee), (3, .ptr 0 0), (7, I n), (8, I i)], ⟨[bookCells nl arts room floor], []⟩)) :
    ∃ x e s, (lim (headed pure (run L) true [2, 3, 7, 8] lp72_0 1 0) env st) = some (x, e, s) ∧ (x = .exit 0 ∧ e.get 7 = I (n + sumSeg (·.1) arts i ee)) := by
  refine loop_post (α := Nat × Int) (fun ⟨i, n⟩ => ee - i) (fun ⟨i, n⟩ => 0 ≤ n ∧ n ≤ 100 * i) (fun ⟨i, n⟩ => ([(2, I ee), (3, .ptr 0 0), (7, I n), (8, I i)], ⟨[bookCells nl arts room floor], []⟩)) (fun ⟨i, n⟩ x e s => x = .exit 0 ∧ e.get 7 = I (n + sumSeg (·.1) arts i ee)) (fun ⟨i, n⟩ hok => ?_) ⟨i, n⟩ hok env st hg
  by_cases h : i < ee
  · have hlt : ((i : Int) < (ee : Int)) = True := by simp; omega
    have hx := index_arts nl arts i (by omega)
    have hs := succ64 i (by omega)
    have hb := hr arts[i] (List.getElem_mem (by omega))
    have hst := sumSeg_step (·.1) arts i ee h hee
    have hw := wrap64 (n + arts[i].1) (by simp only at hok; omega) (by simp only at hok; omega)
    simp only at hok
    refine .inl ⟨(i + 1, n + arts[i].1), _, _, by simp only; omega, by simp only; omega, by simp only [go_sem, reduceIte, Nat.reduceEqDiff, Nat.reduceAdd, Nat.reduceSub, Nat.reduceLeDiff, Nat.reduceLT, reduceCtorEq, Int.reduceLT, Int.reduceLE, Int.reduceEq, Int.reduceBEq, Int.reduceSub, Int.reduceAdd, Int.reduceMul, Int.reduceNeg, Int.reduceToNat, Nat.reduceMul, Nat.reduceBEq, lp72_0, hlt, hx, hs, hw] <;> rfl, by simp only [go_sem, reduceIte, Nat.reduceEqDiff, Nat.reduceAdd, Nat.reduceSub, Nat.reduceLeDiff, Nat.reduceLT, reduceCtorEq, Int.reduceLT, Int.reduceLE, Int.reduceEq, Int.reduceBEq, Int.reduceSub, Int.reduceAdd, Int.reduceMul, Int.reduceNeg, Int.reduceToNat, Nat.reduceMul, Nat.reduceBEq], fun x e s hq => ?_⟩
    simp only [hst]
    rw [← Int.add_assoc]
    exact hq
  · have hlt : ((i : Int) < (ee : Int)) = False := by simp; omega
    have hst := sumSeg_end (·.1) arts i ee (by omega)
    refine .inr ⟨.exit 0, _, _, by simp only [go_sem, reduceIte, Nat.reduceEqDiff, Nat.reduceAdd, Nat.reduceSub, Nat.reduceLeDiff, Nat.reduceLT, reduceCtorEq, Int.reduceLT, Int.reduceLE, Int.reduceEq, Int.reduceBEq, Int.reduceSub, Int.reduceAdd, Int.reduceMul, Int.reduceNeg, Int.reduceToNat, Nat.reduceMul, Nat.reduceBEq, lp72_0, hlt] <;> rfl, by simp, ?_⟩
    simp only [hst, Int.add_zero]
    exact ⟨by trivial, by trivial⟩

theorem c72 (nl : Bool) (arts : List (Int × Int)) (room floor : Int) (hlen : arts.length < 1000) (hr : ∀ a ∈ arts, 0 ≤ a.1 ∧ a.1 ≤ 100) (b e : Nat) (he : e ≤ arts.length) (hb : b ≤ arts.length) (st : St) :
    run L 72 [bookAV nl arts room floor, I b, I e] st = some (I (sumSeg (·.1) arts b e), st) := by
  rw [run_pure (fn := ir72) rfl rfl]
  simp only [ir72, go_sem, reduceIte, Nat.reduceEqDiff, Nat.reduceAdd, Nat.reduceSub, Nat.reduceLeDiff, Nat.reduceLT, reduceCtorEq, Int.reduceLT, Int.reduceLE, Int.reduceEq, Int.reduceBEq, Int.reduceSub, Int.reduceAdd, Int.reduceMul, Int.reduceNeg, Int.reduceToNat, Nat.reduceMul, Nat.reduceBEq]
  generalize hg : lim (headed pure (run L) true _ lp72_0 _ _) _ _ = o
  obtain ⟨x, en, s, rfl, h2⟩ : ∃ x e s, o = some (x, e, s) ∧ _ := by rw [← hg]; exact loop72 nl arts room floor hlen hr e he b 0 ⟨by omega, by omega⟩ _ _ (by simp only [go_sem, reduceIte, Nat.reduceEqDiff, Nat.reduceAdd, Nat.reduceSub, Nat.reduceLeDiff, Nat.reduceLT, reduceCtorEq, Int.reduceLT, Int.reduceLE, Int.reduceEq, Int.reduceBEq, Int.reduceSub, Int.reduceAdd, Int.reduceMul, Int.reduceNeg, Int.reduceToNat, Nat.reduceMul, Nat.reduceBEq] <;> rfl)
  clear hg
  obtain ⟨rfl, h3⟩ := h2
  rw [Int.zero_add] at h3
  simp only [go_sem, reduceIte, Nat.reduceEqDiff, Nat.reduceAdd, Nat.reduceSub, Nat.reduceLeDiff, Nat.reduceLT, reduceCtorEq, Int.reduceLT, Int.reduceLE, Int.reduceEq, Int.reduceBEq, Int.reduceSub, Int.reduceAdd, Int.reduceMul, Int.reduceNeg, Int.reduceToNat, Nat.reduceMul, Nat.reduceBEq, h3]

theorem c73 (n2 : Bool) (ends : List Int) (i : Nat) (h : i ≤ ends.length) (hlen : ends.length < 1000) (st : St) : run L 73 [sl 1 n2 (ends.map I), I i] st = some (I (beginOf ends i), st) := by
  rw [run_pure (fn := ir73) rfl rfl]
  by_cases p : (i : Int) = 0
  · have : i = 0 := by omega
    subst this
    simp only [ir73, go_sem, reduceIte, Nat.reduceEqDiff, Nat.reduceAdd, Nat.reduceSub, Nat.reduceLeDiff, Nat.reduceLT, reduceCtorEq, Int.reduceLT, Int.reduceLE, Int.reduceEq, Int.reduceBEq, Int.reduceSub, Int.reduceAdd, Int.reduceMul, Int.reduceNeg, Int.reduceToNat, Nat.reduceMul, Nat.reduceBEq, p, beginOf]
  · have hw : IntKind.i64.wrap ((i : Int) - 1) = ((i - 1 : Nat) : Int) := by rw [wrap64] <;> omega
    have hx := index_ints n2 ends (i - 1) (by omega)
    have hb : beginOf ends i = ends[i - 1]'(by omega) := by
      have := beginOf_succ ends (i - 1) (by omega)
      rw [← this]; congr 1; omega
    simp only [ir73, go_sem, reduceIte, Nat.reduceEqDiff, Nat.reduceAdd, Nat.reduceSub, Nat.reduceLeDiff, Nat.reduceLT, reduceCtorEq, Int.reduceLT, Int.reduceLE, Int.reduceEq, Int.reduceBEq, Int.reduceSub, Int.reduceAdd, Int.reduceMul, Int.reduceNeg, Int.reduceToNat, Nat.reduceMul, Nat.reduceBEq, p, hw, hx, hb]


theorem loopErr_drop {n : Int} {ends : List Int} (h : loopErr n 0 ends = 0) : ∀ i, i ≤ ends.length → loopErr n (beginOf ends i) (ends.drop i) = 0
  | 0, _ => by simpa [beginOf] using h
  | i + 1, hi => by
    have := loopErr_drop h i (by omega)
    rw [List.drop_eq_getElem_cons (by omega : i < ends.length)] at this
    simp only [loopErr] at this
    rw [beginOf_succ ends i (by omega)]
    split at this
    · omega
    · split at this
      · omega
      · exact this
theorem ends_asc {n : Int} {ends : List Int} (h : loopErr n 0 ends = 0) (i : Nat) (hi : i < ends.length) : beginOf ends i < ends[i] ∧ ends[i] ≤ n := by
  have := loopErr_drop h i (by omega)
  rw [List.drop_eq_getElem_cons hi] at this
  simp only [loopErr] at this
  split at this
  · omega
  · split at this
    · omega
    · omega

theorem c78' (nl : Bool) (arts : List (Int × Int)) (room floor : Int) (hc : check arts room floor = 0) (b e : Int) (hb : 0 ≤ b) (hbe : b ≤ e) (he : e ≤ arts.length) (st : St) :
    run L 78 [bookAV nl arts room floor, I b, I e] st = some (I (seg (mosts arts) b e), st) := by
  obtain ⟨k1, k2, k3, _⟩ := check_zero hc
  rw [seg_sums _ _ _ _ hb hbe he]
  have := c78 nl arts room floor (by omega) (fun a ha => by have := k3 a ha; omega) b.toNat e.toNat (by omega) (by omega) st
  rwa [Int.toNat_of_nonneg hb, Int.toNat_of_nonneg (by omega)] at this
theorem c72' (nl : Bool) (arts : List (Int × Int)) (room floor : Int) (hc : check arts room floor = 0) (b e : Int) (hb : 0 ≤ b) (hbe : b ≤ e) (he : e ≤ arts.length) (st : St) :
    run L 72 [bookAV nl arts room floor, I b, I e] st = some (I (seg (leasts arts) b e), st) := by
  obtain ⟨k1, k2, k3, _⟩ := check_zero hc
  rw [seg_sums _ _ _ _ hb hbe he]
  have := c72 nl arts room floor (by omega) (fun a ha => by have := k3 a ha; omega) b.toNat e.toNat (by omega) (by omega) st
  rwa [Int.toNat_of_nonneg hb, Int.toNat_of_nonneg (by omega)] at this

theorem begin_nonneg {n : Int} {ends : List Int} (h : loopErr n 0 ends = 0) (i : Nat) (hi : i ≤ ends.length) : 0 ≤ beginOf ends i :=
  beginOf_ok ends (fun e => 0 ≤ e) (by omega) (fun e he => by have := loopErr_zero h e he; omega) i hi

/-- The same as a number of volumes: all of them if there is none. -/
def mayN (arts : List (Int × Int)) (room : Int) (ends : List Int) (i : Nat) : Int :=
  if firstV (mosts arts) (fun n => decide (n > room)) (beginOf ends i) i (ends.drop i) < 0 then ends.length else firstV (mosts arts) (fun n => decide (n > room)) (beginOf ends i) i (ends.drop i)

theorem mayN_end (arts : List (Int × Int)) (room : Int) (ends : List Int) : mayN arts room ends ends.length = ends.length := by
  unfold mayN; rw [List.drop_length]; simp [firstV]
theorem mayN_yes (arts : List (Int × Int)) (room : Int) (ends : List Int) (i : Nat) (h : i < ends.length) (hp : room < seg (mosts arts) (beginOf ends i) ends[i]) : mayN arts room ends i = i := by
  have hd : ends.drop i = ends[i] :: ends.drop (i + 1) := List.drop_eq_getElem_cons h
  unfold mayN
  rw [hd]
  simp only [firstV, gt_iff_lt, hp, decide_true, if_true]
  rw [if_neg (by omega)]
theorem mayN_no (arts : List (Int × Int)) (room : Int) (ends : List Int) (i : Nat) (h : i < ends.length) (hp : ¬ room < seg (mosts arts) (beginOf ends i) ends[i]) : mayN arts room ends i = mayN arts room ends (i + 1) := by
  have hd : ends.drop i = ends[i] :: ends.drop (i + 1) := List.drop_eq_getElem_cons h
  unfold mayN
  rw [hd, beginOf_succ ends i h]
  simp only [firstV, gt_iff_lt, hp, decide_false, Bool.false_eq_true, if_false]

theorem loop70 (nl n2 : Bool) (arts : List (Int × Int)) (room floor : Int) (ends : List Int) (hlen : ends.length < 1000) (hcut : cutErr arts room floor ends = 0) (i : Nat) (hok : i ≤ ends.length) (env : Env) (st : St)
    (hg : gcAV true 1 0 (canon env [1, 2, 5]) st = ([(1, sl 1 n2 (ends.map I)), (2, .ptr 0 0), (5, I i)], ⟨[bookCells nl arts room floor], []⟩)) :
    ∃ x e s, (lim (headed pure (run L) true [1, 2, 5] lp70_0 1 0) env st) = some (x, e, s) ∧ (x = .exit 0 ∧ e.get 5 = I (mayN arts room ends i)) := by
  refine loop_post (α := Nat) (fun i => ends.length - i) (fun i => i ≤ ends.length) (fun i => ([(1, sl 1 n2 (ends.map I)), (2, .ptr 0 0), (5, I i)], ⟨[bookCells nl arts room floor], []⟩)) (fun i x e s => x = .exit 0 ∧ e.get 5 = I (mayN arts room ends i)) (fun i hok => ?_) i hok env st hg
  obtain ⟨g1, g2, _, _⟩ := cutErr_zero hcut
  by_cases h : i < ends.length
  · have hlt : ((i : Int) < (ends.length : Int)) = True := by simp; omega
    have hx := index_ints n2 ends i h
    have hs := succ64 i (by omega)
    have h1 := ends_asc g2 i h
    have h2 := begin_nonneg g2 i hok
    have h3 := c78' nl arts room floor g1 (beginOf ends i) ends[i] h2 (by omega) h1.2
    have h4 := c73 n2 ends i hok hlen
    by_cases p : room < seg (mosts arts) (beginOf ends i) ends[i]
    · have p' : ¬ seg (mosts arts) (beginOf ends i) ends[i] ≤ room := by omega
      refine .inr ⟨.exit 0, _, _, by simp only [go_sem, reduceIte, Nat.reduceEqDiff, Nat.reduceAdd, Nat.reduceSub, Nat.reduceLeDiff, Nat.reduceLT, reduceCtorEq, Int.reduceLT, Int.reduceLE, Int.reduceEq, Int.reduceBEq, Int.reduceSub, Int.reduceAdd, Int.reduceMul, Int.reduceNeg, Int.reduceToNat, Nat.reduceMul, Nat.reduceBEq, lp70_0, hlt, hx, h3, h4, p', List.length_map] <;> rfl, by simp, ?_⟩
      rw [mayN_yes arts room ends i h p]
      exact ⟨by trivial, by trivial⟩
    · have p' : seg (mosts arts) (beginOf ends i) ends[i] ≤ room := by omega
      refine .inl ⟨i + 1, _, _, h, by omega, by simp only [go_sem, reduceIte, Nat.reduceEqDiff, Nat.reduceAdd, Nat.reduceSub, Nat.reduceLeDiff, Nat.reduceLT, reduceCtorEq, Int.reduceLT, Int.reduceLE, Int.reduceEq, Int.reduceBEq, Int.reduceSub, Int.reduceAdd, Int.reduceMul, Int.reduceNeg, Int.reduceToNat, Nat.reduceMul, Nat.reduceBEq, lp70_0, hlt, hx, h3, h4, p', hs, List.length_map] <;> rfl, by simp only [go_sem, reduceIte, Nat.reduceEqDiff, Nat.reduceAdd, Nat.reduceSub, Nat.reduceLeDiff, Nat.reduceLT, reduceCtorEq, Int.reduceLT, Int.reduceLE, Int.reduceEq, Int.reduceBEq, Int.reduceSub, Int.reduceAdd, Int.reduceMul, Int.reduceNeg, Int.reduceToNat, Nat.reduceMul, Nat.reduceBEq], fun x e s hq => ?_⟩
      rw [mayN_no arts room ends i h p]
      exact hq
  · have hlt : ((i : Int) < (ends.length : Int)) = False := by simp; omega
    have hie : i = ends.length := by omega
    refine .inr ⟨.exit 0, _, _, by simp only [go_sem, reduceIte, Nat.reduceEqDiff, Nat.reduceAdd, Nat.reduceSub, Nat.reduceLeDiff, Nat.reduceLT, reduceCtorEq, Int.reduceLT, Int.reduceLE, Int.reduceEq, Int.reduceBEq, Int.reduceSub, Int.reduceAdd, Int.reduceMul, Int.reduceNeg, Int.reduceToNat, Nat.reduceMul, Nat.reduceBEq, lp70_0, hlt, List.length_map] <;> rfl, by simp, ?_⟩
    rw [hie, mayN_end]
    exact ⟨by trivial, by trivial⟩

theorem c70 (nl n2 : Bool) (arts : List (Int × Int)) (room floor : Int) (ends : List Int) (hlen : ends.length < 1000) (hcut : cutErr arts room floor ends = 0) (st : St) :
    run L 70 [bookAV nl arts room floor, sl 1 n2 (ends.map I)] st = some (I (mayN arts room ends 0), st) := by
  rw [run_pure (fn := ir70) rfl rfl]
  simp only [ir70, go_sem, reduceIte, Nat.reduceEqDiff, Nat.reduceAdd, Nat.reduceSub, Nat.reduceLeDiff, Nat.reduceLT, reduceCtorEq, Int.reduceLT, Int.reduceLE, Int.reduceEq, Int.reduceBEq, Int.reduceSub, Int.reduceAdd, Int.reduceMul, Int.reduceNeg, Int.reduceToNat, Nat.reduceMul, Nat.reduceBEq]
  generalize hg : lim (headed pure (run L) true _ lp70_0 _ _) _ _ = o
  obtain ⟨x, en, s, rfl, h2⟩ : ∃ x e s, o = some (x, e, s) ∧ _ := by rw [← hg]; exact loop70 nl n2 arts room floor ends hlen hcut 0 (Nat.zero_le _) _ _ (by simp only [go_sem, reduceIte, Nat.reduceEqDiff, Nat.reduceAdd, Nat.reduceSub, Nat.reduceLeDiff, Nat.reduceLT, reduceCtorEq, Int.reduceLT, Int.reduceLE, Int.reduceEq, Int.reduceBEq, Int.reduceSub, Int.reduceAdd, Int.reduceMul, Int.reduceNeg, Int.reduceToNat, Nat.reduceMul, Nat.reduceBEq] <;> rfl)
  clear hg
  obtain ⟨rfl, h3⟩ := h2
  simp only [go_sem, reduceIte, Nat.reduceEqDiff, Nat.reduceAdd, Nat.reduceSub, Nat.reduceLeDiff, Nat.reduceLT, reduceCtorEq, Int.reduceLT, Int.reduceLE, Int.reduceEq, Int.reduceBEq, Int.reduceSub, Int.reduceAdd, Int.reduceMul, Int.reduceNeg, Int.reduceToNat, Nat.reduceMul, Nat.reduceBEq, h3]

/-- Some volume is thin. -/
def thinB (arts : List (Int × Int)) (floor : Int) (ends : List Int) (i : Nat) : Bool := decide (0 ≤ firstV (leasts arts) (fun n => decide (n < floor)) (beginOf ends i) i (ends.drop i))

theorem thin_end (arts : List (Int × Int)) (floor : Int) (ends : List Int) : thinB arts floor ends ends.length = false := by
  unfold thinB; rw [List.drop_length]; simp [firstV]
theorem thin_yes (arts : List (Int × Int)) (floor : Int) (ends : List Int) (i : Nat) (h : i < ends.length) (hp : seg (leasts arts) (beginOf ends i) ends[i] < floor) : thinB arts floor ends i = true := by
  have hd : ends.drop i = ends[i] :: ends.drop (i + 1) := List.drop_eq_getElem_cons h
  unfold thinB
  rw [hd]
  simp only [firstV, hp, decide_true, if_true]
  simp
theorem thin_no (arts : List (Int × Int)) (floor : Int) (ends : List Int) (i : Nat) (h : i < ends.length) (hp : ¬ seg (leasts arts) (beginOf ends i) ends[i] < floor) : thinB arts floor ends i = thinB arts floor ends (i + 1) := by
  have hd : ends.drop i = ends[i] :: ends.drop (i + 1) := List.drop_eq_getElem_cons h
  unfold thinB
  rw [hd, beginOf_succ ends i h]
  simp only [firstV, hp, decide_false, Bool.false_eq_true, if_false]

theorem loop81 (nl n2 : Bool) (arts : List (Int × Int)) (room floor : Int) (ends : List Int) (hlen : ends.length < 1000) (hcut : cutErr arts room floor ends = 0) (i : Nat) (hok : i ≤ ends.length) (env : Env) (st : St)
    (hg : gcAV true 1 0 (canon env [1, 2, 5]) st = ([(1, sl 1 n2 (ends.map I)), (2, .ptr 0 0), (5, I i)], ⟨[bookCells nl arts room floor], []⟩)) :
    ∃ x e s, (lim (headed pure (run L) true [1, 2, 5] lp81_0 1 0) env st) = some (x, e, s) ∧ (if thinB arts floor ends i = true then x = .ret ∧ e.get 4 = B true else x = .exit 0) := by
  refine loop_post (α := Nat) (fun i => ends.length - i) (fun i => i ≤ ends.length) (fun i => ([(1, sl 1 n2 (ends.map I)), (2, .ptr 0 0), (5, I i)], ⟨[bookCells nl arts room floor], []⟩)) (fun i x e s => if thinB arts floor ends i = true then x = .ret ∧ e.get 4 = B true else x = .exit 0) (fun i hok => ?_) i hok env st hg
  obtain ⟨g1, g2, _, _⟩ := cutErr_zero hcut
  by_cases h : i < ends.length
  · have hlt : ((i : Int) < (ends.length : Int)) = True := by simp; omega
    have hx := index_ints n2 ends i h
    have hs := succ64 i (by omega)
    have h1 := ends_asc g2 i h
    have h2 := begin_nonneg g2 i hok
    have h3 := c72' nl arts room floor g1 (beginOf ends i) ends[i] h2 (by omega) h1.2
    have h4 := c73 n2 ends i hok hlen
    by_cases p : seg (leasts arts) (beginOf ends i) ends[i] < floor
    · refine .inr ⟨.ret, _, _, by simp only [go_sem, reduceIte, Nat.reduceEqDiff, Nat.reduceAdd, Nat.reduceSub, Nat.reduceLeDiff, Nat.reduceLT, reduceCtorEq, Int.reduceLT, Int.reduceLE, Int.reduceEq, Int.reduceBEq, Int.reduceSub, Int.reduceAdd, Int.reduceMul, Int.reduceNeg, Int.reduceToNat, Nat.reduceMul, Nat.reduceBEq, lp81_0, hlt, hx, h3, h4, p, List.length_map] <;> rfl, by simp, ?_⟩
      rw [thin_yes arts floor ends i h p]
      exact ⟨by trivial, by trivial⟩
    · refine .inl ⟨i + 1, _, _, h, by omega, by simp only [go_sem, reduceIte, Nat.reduceEqDiff, Nat.reduceAdd, Nat.reduceSub, Nat.reduceLeDiff, Nat.reduceLT, reduceCtorEq, Int.reduceLT, Int.reduceLE, Int.reduceEq, Int.reduceBEq, Int.reduceSub, Int.reduceAdd, Int.reduceMul, Int.reduceNeg, Int.reduceToNat, Nat.reduceMul, Nat.reduceBEq, lp81_0, hlt, hx, h3, h4, p, hs, List.length_map] <;> rfl, by simp only [go_sem, reduceIte, Nat.reduceEqDiff, Nat.reduceAdd, Nat.reduceSub, Nat.reduceLeDiff, Nat.reduceLT, reduceCtorEq, Int.reduceLT, Int.reduceLE, Int.reduceEq, Int.reduceBEq, Int.reduceSub, Int.reduceAdd, Int.reduceMul, Int.reduceNeg, Int.reduceToNat, Nat.reduceMul, Nat.reduceBEq], fun x e s hq => ?_⟩
      rw [thin_no arts floor ends i h p]
      exact hq
  · have hlt : ((i : Int) < (ends.length : Int)) = False := by simp; omega
    have hie : i = ends.length := by omega
    refine .inr ⟨.exit 0, _, _, by simp only [go_sem, reduceIte, Nat.reduceEqDiff, Nat.reduceAdd, Nat.reduceSub, Nat.reduceLeDiff, Nat.reduceLT, reduceCtorEq, Int.reduceLT, Int.reduceLE, Int.reduceEq, Int.reduceBEq, Int.reduceSub, Int.reduceAdd, Int.reduceMul, Int.reduceNeg, Int.reduceToNat, Nat.reduceMul, Nat.reduceBEq, lp81_0, hlt, List.length_map] <;> rfl, by simp, ?_⟩
    rw [hie, thin_end]
    simp

theorem c81 (nl n2 : Bool) (arts : List (Int × Int)) (room floor : Int) (ends : List Int) (hlen : ends.length < 1000) (hcut : cutErr arts room floor ends = 0) (st : St) :
    run L 81 [bookAV nl arts room floor, sl 1 n2 (ends.map I)] st = some (B (thinB arts floor ends 0), st) := by
  rw [run_pure (fn := ir81) rfl rfl]
  simp only [ir81, go_sem, reduceIte, Nat.reduceEqDiff, Nat.reduceAdd, Nat.reduceSub, Nat.reduceLeDiff, Nat.reduceLT, reduceCtorEq, Int.reduceLT, Int.reduceLE, Int.reduceEq, Int.reduceBEq, Int.reduceSub, Int.reduceAdd, Int.reduceMul, Int.reduceNeg, Int.reduceToNat, Nat.reduceMul, Nat.reduceBEq]
  generalize hg : lim (headed pure (run L) true _ lp81_0 _ _) _ _ = o
  obtain ⟨x, en, s, rfl, h2⟩ : ∃ x e s, o = some (x, e, s) ∧ _ := by rw [← hg]; exact loop81 nl n2 arts room floor ends hlen hcut 0 (Nat.zero_le _) _ _ (by simp only [go_sem, reduceIte, Nat.reduceEqDiff, Nat.reduceAdd, Nat.reduceSub, Nat.reduceLeDiff, Nat.reduceLT, reduceCtorEq, Int.reduceLT, Int.reduceLE, Int.reduceEq, Int.reduceBEq, Int.reduceSub, Int.reduceAdd, Int.reduceMul, Int.reduceNeg, Int.reduceToNat, Nat.reduceMul, Nat.reduceBEq] <;> rfl)
  clear hg
  split at h2
  · next h =>
    obtain ⟨rfl, h3⟩ := h2
    simp only [go_sem, reduceIte, Nat.reduceEqDiff, Nat.reduceAdd, Nat.reduceSub, Nat.reduceLeDiff, Nat.reduceLT, reduceCtorEq, Int.reduceLT, Int.reduceLE, Int.reduceEq, Int.reduceBEq, Int.reduceSub, Int.reduceAdd, Int.reduceMul, Int.reduceNeg, Int.reduceToNat, Nat.reduceMul, Nat.reduceBEq, h3, h]
  · next h =>
    subst h2
    simp only [Bool.not_eq_true] at h
    simp only [go_sem, reduceIte, Nat.reduceEqDiff, Nat.reduceAdd, Nat.reduceSub, Nat.reduceLeDiff, Nat.reduceLT, reduceCtorEq, Int.reduceLT, Int.reduceLE, Int.reduceEq, Int.reduceBEq, Int.reduceSub, Int.reduceAdd, Int.reduceMul, Int.reduceNeg, Int.reduceToNat, Nat.reduceMul, Nat.reduceBEq, h]


def errOr (n : Int) (ends : List Int) (i : Nat) (e : Int) : Int := if e = 0 then loopErr n (beginOf ends i) (ends.drop i) else e

theorem loop69 (nl n2 : Bool) (arts : List (Int × Int)) (room floor : Int) (ends : List Int) (hlen : ends.length < 1000) (i : Nat) (er : Int) (hok : i ≤ ends.length ∧ 0 ≤ beginOf ends i ∨ er ≠ 0) (env : Env) (st : St)
    (hg : gcAV true 1 0 (canon env [1, 2, 5, 6]) st = ([(1, sl 1 n2 (ends.map I)), (2, .ptr 0 0), (5, I er), (6, I i)], ⟨[bookCells nl arts room floor], []⟩)) :
    ∃ x e s, (lim (headed pure (run L) true [1, 2, 5, 6] lp69_0 1 0) env st) = some (x, e, s) ∧ (x = .exit 0 ∧ e.get 1 = sl 1 n2 (ends.map I) ∧ e.get 2 = .ptr 0 0 ∧ e.get 5 = I (errOr arts.length ends i er) ∧ s = ⟨[bookCells nl arts room floor], []⟩) := by
  refine loop_post (α := Nat × Int) (fun ⟨i, er⟩ => if er = 0 then ends.length + 1 - i else 0) (fun ⟨i, er⟩ => i ≤ ends.length ∧ 0 ≤ beginOf ends i ∨ er ≠ 0) (fun ⟨i, er⟩ => ([(1, sl 1 n2 (ends.map I)), (2, .ptr 0 0), (5, I er), (6, I i)], ⟨[bookCells nl arts room floor], []⟩)) (fun ⟨i, er⟩ x e s => x = .exit 0 ∧ e.get 1 = sl 1 n2 (ends.map I) ∧ e.get 2 = .ptr 0 0 ∧ e.get 5 = I (errOr arts.length ends i er) ∧ s = ⟨[bookCells nl arts room floor], []⟩) (fun ⟨i, er⟩ hok => ?_) ⟨i, er⟩ hok env st hg
  simp only at hok ⊢
  by_cases h : i < ends.length
  · have hlt : ((i : Int) < (ends.length : Int)) = True := by simp; omega
    by_cases h0 : er = 0
    · subst h0
      have hd : ends.drop i = ends[i] :: ends.drop (i + 1) := List.drop_eq_getElem_cons h
      have hx := index_ints n2 ends i h
      have hs := succ64 i (by omega)
      have h4 := beginOf_succ ends i h
      by_cases p1 : 1 ≤ ends[i] ∧ ends[i] ≤ (arts.length : Int)
      · have p12 : ¬ (ends[i] < 1 ∨ ends[i] > (arts.length : Int)) := by omega
        by_cases p3 : (0 : Int) < (i : Int)
        · have hw : IntKind.i64.wrap ((i : Int) - 1) = ((i - 1 : Nat) : Int) := by rw [wrap64] <;> omega
          have hx2 := index_ints n2 ends (i - 1) (by omega)
          have hb : ends[i - 1]'(by omega) = beginOf ends i := by
            have := beginOf_succ ends (i - 1) (by omega)
            rw [← this]; congr 1; omega
          rw [hb] at hx2
          by_cases p4 : ends[i] ≤ beginOf ends i
          · have hf : errOr arts.length ends i 0 = 7 := by unfold errOr; rw [if_pos rfl, hd]; simp only [loopErr]; rw [if_neg p12, if_pos p4]
            refine .inl ⟨(i + 1, 7), _, _, by simp, by simp; omega, by simp only [go_sem, reduceIte, Nat.reduceEqDiff, Nat.reduceAdd, Nat.reduceSub, Nat.reduceLeDiff, Nat.reduceLT, reduceCtorEq, Int.reduceLT, Int.reduceLE, Int.reduceEq, Int.reduceBEq, Int.reduceSub, Int.reduceAdd, Int.reduceMul, Int.reduceNeg, Int.reduceToNat, Nat.reduceMul, Nat.reduceBEq, lp69_0, hlt, hx, hx2, hw, c77, p1, p3, p4, hs, List.length_map] <;> rfl, by simp only [go_sem, reduceIte, Nat.reduceEqDiff, Nat.reduceAdd, Nat.reduceSub, Nat.reduceLeDiff, Nat.reduceLT, reduceCtorEq, Int.reduceLT, Int.reduceLE, Int.reduceEq, Int.reduceBEq, Int.reduceSub, Int.reduceAdd, Int.reduceMul, Int.reduceNeg, Int.reduceToNat, Nat.reduceMul, Nat.reduceBEq], fun x e s hq => ?_⟩
            rw [hf]
            simpa [errOr] using hq
          · have hf : errOr arts.length ends i 0 = errOr arts.length ends (i + 1) 0 := by unfold errOr; rw [if_pos rfl, if_pos rfl, hd, h4]; simp only [loopErr]; rw [if_neg p12, if_neg p4]
            refine .inl ⟨(i + 1, 0), _, _, .inl ⟨h, by simp only [h4]; omega⟩, by simp; omega, by simp only [go_sem, reduceIte, Nat.reduceEqDiff, Nat.reduceAdd, Nat.reduceSub, Nat.reduceLeDiff, Nat.reduceLT, reduceCtorEq, Int.reduceLT, Int.reduceLE, Int.reduceEq, Int.reduceBEq, Int.reduceSub, Int.reduceAdd, Int.reduceMul, Int.reduceNeg, Int.reduceToNat, Nat.reduceMul, Nat.reduceBEq, lp69_0, hlt, hx, hx2, hw, c77, p1, p3, p4, hs, List.length_map] <;> rfl, by simp only [go_sem, reduceIte, Nat.reduceEqDiff, Nat.reduceAdd, Nat.reduceSub, Nat.reduceLeDiff, Nat.reduceLT, reduceCtorEq, Int.reduceLT, Int.reduceLE, Int.reduceEq, Int.reduceBEq, Int.reduceSub, Int.reduceAdd, Int.reduceMul, Int.reduceNeg, Int.reduceToNat, Nat.reduceMul, Nat.reduceBEq], fun x e s hq => ?_⟩
            rw [hf]
            exact hq
        · have p4 : ¬ ends[i] ≤ beginOf ends i := by
            have : i = 0 := by omega
            subst this
            simp [beginOf]; omega
          have hf : errOr arts.length ends i 0 = errOr arts.length ends (i + 1) 0 := by unfold errOr; rw [if_pos rfl, if_pos rfl, hd, h4]; simp only [loopErr]; rw [if_neg p12, if_neg p4]
          refine .inl ⟨(i + 1, 0), _, _, .inl ⟨h, by simp only [h4]; omega⟩, by simp; omega, by simp only [go_sem, reduceIte, Nat.reduceEqDiff, Nat.reduceAdd, Nat.reduceSub, Nat.reduceLeDiff, Nat.reduceLT, reduceCtorEq, Int.reduceLT, Int.reduceLE, Int.reduceEq, Int.reduceBEq, Int.reduceSub, Int.reduceAdd, Int.reduceMul, Int.reduceNeg, Int.reduceToNat, Nat.reduceMul, Nat.reduceBEq, lp69_0, hlt, hx, c77, p1, p3, hs, List.length_map] <;> rfl, by simp only [go_sem, reduceIte, Nat.reduceEqDiff, Nat.reduceAdd, Nat.reduceSub, Nat.reduceLeDiff, Nat.reduceLT, reduceCtorEq, Int.reduceLT, Int.reduceLE, Int.reduceEq, Int.reduceBEq, Int.reduceSub, Int.reduceAdd, Int.reduceMul, Int.reduceNeg, Int.reduceToNat, Nat.reduceMul, Nat.reduceBEq], fun x e s hq => ?_⟩
          rw [hf]
          exact hq
      · have hf : errOr arts.length ends i 0 = 2 := by unfold errOr; rw [if_pos rfl, hd]; simp only [loopErr]; rw [if_pos (by omega)]
        refine .inl ⟨(i + 1, 2), _, _, by simp, by simp; omega, by simp only [go_sem, reduceIte, Nat.reduceEqDiff, Nat.reduceAdd, Nat.reduceSub, Nat.reduceLeDiff, Nat.reduceLT, reduceCtorEq, Int.reduceLT, Int.reduceLE, Int.reduceEq, Int.reduceBEq, Int.reduceSub, Int.reduceAdd, Int.reduceMul, Int.reduceNeg, Int.reduceToNat, Nat.reduceMul, Nat.reduceBEq, lp69_0, hlt, hx, c77, p1, hs, List.length_map] <;> rfl, by simp only [go_sem, reduceIte, Nat.reduceEqDiff, Nat.reduceAdd, Nat.reduceSub, Nat.reduceLeDiff, Nat.reduceLT, reduceCtorEq, Int.reduceLT, Int.reduceLE, Int.reduceEq, Int.reduceBEq, Int.reduceSub, Int.reduceAdd, Int.reduceMul, Int.reduceNeg, Int.reduceToNat, Nat.reduceMul, Nat.reduceBEq], fun x e s hq => ?_⟩
        rw [hf]
        simpa [errOr] using hq
    · refine .inr ⟨.exit 0, _, _, by simp only [go_sem, reduceIte, Nat.reduceEqDiff, Nat.reduceAdd, Nat.reduceSub, Nat.reduceLeDiff, Nat.reduceLT, reduceCtorEq, Int.reduceLT, Int.reduceLE, Int.reduceEq, Int.reduceBEq, Int.reduceSub, Int.reduceAdd, Int.reduceMul, Int.reduceNeg, Int.reduceToNat, Nat.reduceMul, Nat.reduceBEq, lp69_0, hlt, h0, List.length_map] <;> rfl, by simp, ?_⟩
      have hf : errOr arts.length ends i er = er := by unfold errOr; rw [if_neg h0]
      rw [hf]
      exact ⟨by trivial, by trivial, by trivial, by trivial, by trivial⟩
  · have hlt : ((i : Int) < (ends.length : Int)) = False := by simp; omega
    have hd : ends.drop i = [] := List.drop_eq_nil_of_le (by omega)
    have hf : errOr arts.length ends i er = er := by
      unfold errOr
      rw [hd]
      split
      · next h => rw [h]; rfl
      · rfl
    refine .inr ⟨.exit 0, _, _, by simp only [go_sem, reduceIte, Nat.reduceEqDiff, Nat.reduceAdd, Nat.reduceSub, Nat.reduceLeDiff, Nat.reduceLT, reduceCtorEq, Int.reduceLT, Int.reduceLE, Int.reduceEq, Int.reduceBEq, Int.reduceSub, Int.reduceAdd, Int.reduceMul, Int.reduceNeg, Int.reduceToNat, Nat.reduceMul, Nat.reduceBEq, lp69_0, hlt, List.length_map] <;> rfl, by simp, ?_⟩
    rw [hf]
    exact ⟨by trivial, by trivial, by trivial, by trivial, by trivial⟩

theorem c69 (nl n2 : Bool) (arts : List (Int × Int)) (room floor : Int) (ends : List Int) (hlen : ends.length < 1000) (st : St) :
    run L 69 [bookAV nl arts room floor, sl 1 n2 (ends.map I)] st = some (I (cutErr arts room floor ends), st) := by
  rw [run_pure (fn := ir69) rfl rfl]
  have hc := fun st => c26 nl arts room floor st
  simp only [ir69, go_sem, reduceIte, Nat.reduceEqDiff, Nat.reduceAdd, Nat.reduceSub, Nat.reduceLeDiff, Nat.reduceLT, reduceCtorEq, Int.reduceLT, Int.reduceLE, Int.reduceEq, Int.reduceBEq, Int.reduceSub, Int.reduceAdd, Int.reduceMul, Int.reduceNeg, Int.reduceToNat, Nat.reduceMul, Nat.reduceBEq, hc]
  generalize hg : lim (headed pure (run L) true _ lp69_0 _ _) _ _ = o
  obtain ⟨x, en, s, rfl, h2⟩ : ∃ x e s, o = some (x, e, s) ∧ _ := by rw [← hg]; exact loop69 nl n2 arts room floor ends hlen 0 (check arts room floor) (.inl ⟨Nat.zero_le _, by simp [beginOf]⟩) _ _ (by simp only [go_sem, reduceIte, Nat.reduceEqDiff, Nat.reduceAdd, Nat.reduceSub, Nat.reduceLeDiff, Nat.reduceLT, reduceCtorEq, Int.reduceLT, Int.reduceLE, Int.reduceEq, Int.reduceBEq, Int.reduceSub, Int.reduceAdd, Int.reduceMul, Int.reduceNeg, Int.reduceToNat, Nat.reduceMul, Nat.reduceBEq] <;> rfl)
  clear hg
  obtain ⟨rfl, h3, h4, h5, rfl⟩ := h2
  unfold cutErr
  unfold errOr at h5
  simp only [List.drop_zero, show beginOf ends 0 = 0 from rfl] at h5
  by_cases p0 : check arts room floor = 0
  · rw [if_pos p0]
    rw [if_pos p0] at h5
    by_cases p1 : loopErr arts.length 0 ends = 0
    · rw [if_pos p1]
      rw [p1] at h5
      have hpos := (check_zero p0).1
      by_cases p2 : ends.length = 0
      · have q2 : ((ends.length : Int) = 0) = True := by simp [p2]
        have hb : ¬ beginOf ends ends.length = (arts.length : Int) := by unfold beginOf; rw [if_pos p2]; omega
        rw [if_neg hb]
        simp only [go_sem, reduceIte, Nat.reduceEqDiff, Nat.reduceAdd, Nat.reduceSub, Nat.reduceLeDiff, Nat.reduceLT, reduceCtorEq, Int.reduceLT, Int.reduceLE, Int.reduceEq, Int.reduceBEq, Int.reduceSub, Int.reduceAdd, Int.reduceMul, Int.reduceNeg, Int.reduceToNat, Nat.reduceMul, Nat.reduceBEq, h3, h4, h5, q2, List.length_map]
      · have q2 : ((ends.length : Int) = 0) = False := by simp [p2]
        have hw : IntKind.i64.wrap ((ends.length : Int) - 1) = ((ends.length - 1 : Nat) : Int) := by rw [wrap64] <;> omega
        have hx2 := index_ints n2 ends (ends.length - 1) (by omega)
        have hb : ends[ends.length - 1]'(by omega) = beginOf ends ends.length := by
          have := beginOf_succ ends (ends.length - 1) (by omega)
          rw [← this]; congr 1; omega
        rw [hb] at hx2
        by_cases p3 : beginOf ends ends.length = (arts.length : Int)
        · rw [if_pos p3]
          simp only [go_sem, reduceIte, Nat.reduceEqDiff, Nat.reduceAdd, Nat.reduceSub, Nat.reduceLeDiff, Nat.reduceLT, reduceCtorEq, Int.reduceLT, Int.reduceLE, Int.reduceEq, Int.reduceBEq, Int.reduceSub, Int.reduceAdd, Int.reduceMul, Int.reduceNeg, Int.reduceToNat, Nat.reduceMul, Nat.reduceBEq, h3, h4, h5, q2, hw, hx2, p3, List.length_map]
        · rw [if_neg p3]
          simp only [go_sem, reduceIte, Nat.reduceEqDiff, Nat.reduceAdd, Nat.reduceSub, Nat.reduceLeDiff, Nat.reduceLT, reduceCtorEq, Int.reduceLT, Int.reduceLE, Int.reduceEq, Int.reduceBEq, Int.reduceSub, Int.reduceAdd, Int.reduceMul, Int.reduceNeg, Int.reduceToNat, Nat.reduceMul, Nat.reduceBEq, h3, h4, h5, q2, hw, hx2, p3, List.length_map]
    · rw [if_neg p1]
      simp only [go_sem, reduceIte, Nat.reduceEqDiff, Nat.reduceAdd, Nat.reduceSub, Nat.reduceLeDiff, Nat.reduceLT, reduceCtorEq, Int.reduceLT, Int.reduceLE, Int.reduceEq, Int.reduceBEq, Int.reduceSub, Int.reduceAdd, Int.reduceMul, Int.reduceNeg, Int.reduceToNat, Nat.reduceMul, Nat.reduceBEq, h3, h4, h5, p1, List.length_map]
  · rw [if_neg p0]
    rw [if_neg p0] at h5
    simp only [go_sem, reduceIte, Nat.reduceEqDiff, Nat.reduceAdd, Nat.reduceSub, Nat.reduceLeDiff, Nat.reduceLT, reduceCtorEq, Int.reduceLT, Int.reduceLE, Int.reduceEq, Int.reduceBEq, Int.reduceSub, Int.reduceAdd, Int.reduceMul, Int.reduceNeg, Int.reduceToNat, Nat.reduceMul, Nat.reduceBEq, h3, h4, h5, p0, List.length_map]


theorem firstV_range (l : List Int) (p : Int → Bool) : ∀ (b : Int) (v : Nat) (r : List Int), firstV l p b v r = -1 ∨ ((v : Int) ≤ firstV l p b v r ∧ firstV l p b v r < v + r.length)
  | b, v, [] => by simp [firstV]
  | b, v, e :: r => by
    simp only [firstV]
    split
    · right; simp only [List.length_cons]; omega
    · rcases firstV_range l p e (v + 1) r with h | h
      · exact .inl h
      · right; simp only [List.length_cons]; omega

theorem mayN_zero (arts : List (Int × Int)) (room : Int) (ends : List Int) :
    mayN arts room ends 0 = if firstV (mosts arts) (fun n => decide (n > room)) 0 0 ends < 0 then (ends.length : Int) else firstV (mosts arts) (fun n => decide (n > room)) 0 0 ends := rfl

theorem mayN_lt (arts : List (Int × Int)) (room : Int) (ends : List Int) : (mayN arts room ends 0 < ends.length) = (0 ≤ firstV (mosts arts) (fun n => decide (n > room)) 0 0 ends) := by
  rw [mayN_zero]
  have := firstV_range (mosts arts) (fun n => decide (n > room)) 0 0 ends
  generalize firstV (mosts arts) (fun n => decide (n > room)) 0 0 ends = F at *
  apply propext
  split <;> omega
theorem mayN_eq (arts : List (Int × Int)) (room : Int) (ends : List Int) : (mayN arts room ends 0 = ends.length) = (firstV (mosts arts) (fun n => decide (n > room)) 0 0 ends < 0) := by
  rw [mayN_zero]
  have := firstV_range (mosts arts) (fun n => decide (n > room)) 0 0 ends
  generalize firstV (mosts arts) (fun n => decide (n > room)) 0 0 ends = F at *
  apply propext
  split <;> omega

theorem c28 (nl n2 : Bool) (arts : List (Int × Int)) (room floor : Int) (ends : List Int) (hlen : ends.length < 1000) (st : St) :
    run L 28 [bookAV nl arts room floor, sl 1 n2 (ends.map I)] st = some (I (holdsErr arts room floor ends), st) := by
  rw [run_pure (fn := ir28) rfl rfl]
  have hc := fun st => c69 nl n2 arts room floor ends hlen st
  unfold holdsErr
  by_cases p0 : cutErr arts room floor ends = 0
  · have ho := fun st => c70 nl n2 arts room floor ends hlen p0 st
    have hm := mayN_lt arts room ends
    rw [if_pos p0]
    by_cases p1 : 0 ≤ firstV (mosts arts) (fun n => decide (n > room)) 0 0 ends
    · rw [if_pos p1]
      have p2 : mayN arts room ends 0 < ends.length := by rw [hm]; exact p1
      simp only [ir28, go_sem, reduceIte, Nat.reduceEqDiff, Nat.reduceAdd, Nat.reduceSub, Nat.reduceLeDiff, Nat.reduceLT, reduceCtorEq, Int.reduceLT, Int.reduceLE, Int.reduceEq, Int.reduceBEq, Int.reduceSub, Int.reduceAdd, Int.reduceMul, Int.reduceNeg, Int.reduceToNat, Nat.reduceMul, Nat.reduceBEq, hc, p0, ho, p2, List.length_map]
    · rw [if_neg p1]
      have p2 : ¬ mayN arts room ends 0 < ends.length := by rw [hm]; exact p1
      simp only [ir28, go_sem, reduceIte, Nat.reduceEqDiff, Nat.reduceAdd, Nat.reduceSub, Nat.reduceLeDiff, Nat.reduceLT, reduceCtorEq, Int.reduceLT, Int.reduceLE, Int.reduceEq, Int.reduceBEq, Int.reduceSub, Int.reduceAdd, Int.reduceMul, Int.reduceNeg, Int.reduceToNat, Nat.reduceMul, Nat.reduceBEq, hc, p0, ho, p2, List.length_map]
  · rw [if_neg p0]
    simp only [ir28, go_sem, reduceIte, Nat.reduceEqDiff, Nat.reduceAdd, Nat.reduceSub, Nat.reduceLeDiff, Nat.reduceLT, reduceCtorEq, Int.reduceLT, Int.reduceLE, Int.reduceEq, Int.reduceBEq, Int.reduceSub, Int.reduceAdd, Int.reduceMul, Int.reduceNeg, Int.reduceToNat, Nat.reduceMul, Nat.reduceBEq, hc, p0]

theorem c30 (nl n2 : Bool) (arts : List (Int × Int)) (room floor : Int) (ends : List Int) (hlen : ends.length < 1000) (st : St) :
    run L 30 [bookAV nl arts room floor, sl 1 n2 (ends.map I)] st = some (I (safeErr arts room floor ends), st) := by
  rw [run_pure (fn := ir30) rfl rfl]
  have hc := fun st => c28 nl n2 arts room floor ends hlen st
  unfold safeErr
  by_cases p0 : holdsErr arts room floor ends = 0
  · rw [if_pos p0]
    have hcut : cutErr arts room floor ends = 0 := by
      unfold holdsErr at p0
      split at p0
      · assumption
      · next h => exact absurd p0 h
    have ho := fun st => c81 nl n2 arts room floor ends hlen hcut st
    have hb : thinB arts floor ends 0 = decide (0 ≤ firstV (leasts arts) (fun n => decide (n < floor)) 0 0 ends) := rfl
    by_cases p1 : 0 ≤ firstV (leasts arts) (fun n => decide (n < floor)) 0 0 ends
    · rw [if_pos p1]
      rw [decide_eq_true p1] at hb
      simp only [ir30, go_sem, reduceIte, Nat.reduceEqDiff, Nat.reduceAdd, Nat.reduceSub, Nat.reduceLeDiff, Nat.reduceLT, reduceCtorEq, Int.reduceLT, Int.reduceLE, Int.reduceEq, Int.reduceBEq, Int.reduceSub, Int.reduceAdd, Int.reduceMul, Int.reduceNeg, Int.reduceToNat, Nat.reduceMul, Nat.reduceBEq, hc, p0, ho, hb]
    · rw [if_neg p1]
      rw [decide_eq_false p1] at hb
      simp only [ir30, go_sem, reduceIte, Nat.reduceEqDiff, Nat.reduceAdd, Nat.reduceSub, Nat.reduceLeDiff, Nat.reduceLT, reduceCtorEq, Int.reduceLT, Int.reduceLE, Int.reduceEq, Int.reduceBEq, Int.reduceSub, Int.reduceAdd, Int.reduceMul, Int.reduceNeg, Int.reduceToNat, Nat.reduceMul, Nat.reduceBEq, hc, p0, ho, hb]
  · rw [if_neg p0]
    simp only [ir30, go_sem, reduceIte, Nat.reduceEqDiff, Nat.reduceAdd, Nat.reduceSub, Nat.reduceLeDiff, Nat.reduceLT, reduceCtorEq, Int.reduceLT, Int.reduceLE, Int.reduceEq, Int.reduceBEq, Int.reduceSub, Int.reduceAdd, Int.reduceMul, Int.reduceNeg, Int.reduceToNat, Nat.reduceMul, Nat.reduceBEq, hc, p0]

theorem c20 (nl n2 : Bool) (arts : List (Int × Int)) (room floor : Int) (ends : List Int) (hlen : ends.length < 1000) (st : St) :
    run L 20 [bookAV nl arts room floor, sl 1 n2 (ends.map I)] st = some (two (mayV arts room floor ends), st) := by
  rw [run_pure (fn := ir20) rfl rfl]
  have hc := fun st => c69 nl n2 arts room floor ends hlen st
  unfold mayV
  by_cases p0 : cutErr arts room floor ends = 0
  · have ho := fun st => c70 nl n2 arts room floor ends hlen p0 st
    have hm := mayN_eq arts room ends
    have hz := mayN_zero arts room ends
    rw [if_pos p0]
    by_cases p1 : firstV (mosts arts) (fun n => decide (n > room)) 0 0 ends < 0
    · rw [if_pos p1]
      have p2 : mayN arts room ends 0 = ends.length := by rw [hm]; exact p1
      simp only [ir20, go_sem, reduceIte, Nat.reduceEqDiff, Nat.reduceAdd, Nat.reduceSub, Nat.reduceLeDiff, Nat.reduceLT, reduceCtorEq, Int.reduceLT, Int.reduceLE, Int.reduceEq, Int.reduceBEq, Int.reduceSub, Int.reduceAdd, Int.reduceMul, Int.reduceNeg, Int.reduceToNat, Nat.reduceMul, Nat.reduceBEq, hc, p0, ho, p2, List.length_map]
    · rw [if_neg p1]
      have p2 : ¬ mayN arts room ends 0 = ends.length := by rw [hm]; exact p1
      rw [if_neg p1] at hz
      rw [← hz]
      simp only [ir20, go_sem, reduceIte, Nat.reduceEqDiff, Nat.reduceAdd, Nat.reduceSub, Nat.reduceLeDiff, Nat.reduceLT, reduceCtorEq, Int.reduceLT, Int.reduceLE, Int.reduceEq, Int.reduceBEq, Int.reduceSub, Int.reduceAdd, Int.reduceMul, Int.reduceNeg, Int.reduceToNat, Nat.reduceMul, Nat.reduceBEq, hc, p0, ho, p2, List.length_map]
  · rw [if_neg p0]
    simp only [ir20, go_sem, reduceIte, Nat.reduceEqDiff, Nat.reduceAdd, Nat.reduceSub, Nat.reduceLeDiff, Nat.reduceLT, reduceCtorEq, Int.reduceLT, Int.reduceLE, Int.reduceEq, Int.reduceBEq, Int.reduceSub, Int.reduceAdd, Int.reduceMul, Int.reduceNeg, Int.reduceToNat, Nat.reduceMul, Nat.reduceBEq, hc, p0]


def overL (arts : List (Int × Int)) (room : Int) (ends : List Int) (i : Nat) : Int := firstV (leasts arts) (fun n => decide (n > room)) (beginOf ends i) i (ends.drop i)

theorem overL_end (arts : List (Int × Int)) (room : Int) (ends : List Int) : overL arts room ends ends.length = -1 := by
  unfold overL; rw [List.drop_length]; rfl
theorem overL_yes (arts : List (Int × Int)) (room : Int) (ends : List Int) (i : Nat) (h : i < ends.length) (hp : room < seg (leasts arts) (beginOf ends i) ends[i]) : overL arts room ends i = i := by
  have hd : ends.drop i = ends[i] :: ends.drop (i + 1) := List.drop_eq_getElem_cons h
  unfold overL
  rw [hd]
  simp only [firstV, gt_iff_lt, hp, decide_true, if_true]
theorem overL_no (arts : List (Int × Int)) (room : Int) (ends : List Int) (i : Nat) (h : i < ends.length) (hp : ¬ room < seg (leasts arts) (beginOf ends i) ends[i]) : overL arts room ends i = overL arts room ends (i + 1) := by
  have hd : ends.drop i = ends[i] :: ends.drop (i + 1) := List.drop_eq_getElem_cons h
  unfold overL
  rw [hd, beginOf_succ ends i h]
  simp only [firstV, gt_iff_lt, hp, decide_false, Bool.false_eq_true, if_false]

theorem loop22 (nl n2 : Bool) (arts : List (Int × Int)) (room floor : Int) (ends : List Int) (hlen : ends.length < 1000) (hcut : cutErr arts room floor ends = 0) (i : Nat) (hok : i ≤ ends.length) (env : Env) (st : St)
    (hg : gcAV true 1 0 (canon env [1, 2, 7]) st = ([(1, sl 1 n2 (ends.map I)), (2, .ptr 0 0), (7, I i)], ⟨[bookCells nl arts room floor], []⟩)) :
    ∃ x e s, (lim (headed pure (run L) true [1, 2, 7] lp22_0 1 0) env st) = some (x, e, s) ∧ (if overL arts room ends i < 0 then x = .exit 0 else x = .ret ∧ e.get 4 = I (overL arts room ends i) ∧ e.get 5 = I 0) := by
  refine loop_post (α := Nat) (fun i => ends.length - i) (fun i => i ≤ ends.length) (fun i => ([(1, sl 1 n2 (ends.map I)), (2, .ptr 0 0), (7, I i)], ⟨[bookCells nl arts room floor], []⟩)) (fun i x e s => if overL arts room ends i < 0 then x = .exit 0 else x = .ret ∧ e.get 4 = I (overL arts room ends i) ∧ e.get 5 = I 0) (fun i hok => ?_) i hok env st hg
  obtain ⟨g1, g2, _, _⟩ := cutErr_zero hcut
  by_cases h : i < ends.length
  · have hlt : ((i : Int) < (ends.length : Int)) = True := by simp; omega
    have hx := index_ints n2 ends i h
    have hs := succ64 i (by omega)
    have h1 := ends_asc g2 i h
    have h2 := begin_nonneg g2 i hok
    have h3 := c72' nl arts room floor g1 (beginOf ends i) ends[i] h2 (by omega) h1.2
    have h4 := c73 n2 ends i hok hlen
    by_cases p : room < seg (leasts arts) (beginOf ends i) ends[i]
    · refine .inr ⟨.ret, _, _, by simp only [go_sem, reduceIte, Nat.reduceEqDiff, Nat.reduceAdd, Nat.reduceSub, Nat.reduceLeDiff, Nat.reduceLT, reduceCtorEq, Int.reduceLT, Int.reduceLE, Int.reduceEq, Int.reduceBEq, Int.reduceSub, Int.reduceAdd, Int.reduceMul, Int.reduceNeg, Int.reduceToNat, Nat.reduceMul, Nat.reduceBEq, lp22_0, hlt, hx, h3, h4, p, List.length_map] <;> rfl, by simp, ?_⟩
      rw [overL_yes arts room ends i h p, if_neg (by omega)]
      exact ⟨by trivial, by trivial, by trivial⟩
    · refine .inl ⟨i + 1, _, _, h, by omega, by simp only [go_sem, reduceIte, Nat.reduceEqDiff, Nat.reduceAdd, Nat.reduceSub, Nat.reduceLeDiff, Nat.reduceLT, reduceCtorEq, Int.reduceLT, Int.reduceLE, Int.reduceEq, Int.reduceBEq, Int.reduceSub, Int.reduceAdd, Int.reduceMul, Int.reduceNeg, Int.reduceToNat, Nat.reduceMul, Nat.reduceBEq, lp22_0, hlt, hx, h3, h4, p, hs, List.length_map] <;> rfl, by simp only [go_sem, reduceIte, Nat.reduceEqDiff, Nat.reduceAdd, Nat.reduceSub, Nat.reduceLeDiff, Nat.reduceLT, reduceCtorEq, Int.reduceLT, Int.reduceLE, Int.reduceEq, Int.reduceBEq, Int.reduceSub, Int.reduceAdd, Int.reduceMul, Int.reduceNeg, Int.reduceToNat, Nat.reduceMul, Nat.reduceBEq], fun x e s hq => ?_⟩
      rw [overL_no arts room ends i h p]
      exact hq
  · have hlt : ((i : Int) < (ends.length : Int)) = False := by simp; omega
    have hie : i = ends.length := by omega
    refine .inr ⟨.exit 0, _, _, by simp only [go_sem, reduceIte, Nat.reduceEqDiff, Nat.reduceAdd, Nat.reduceSub, Nat.reduceLeDiff, Nat.reduceLT, reduceCtorEq, Int.reduceLT, Int.reduceLE, Int.reduceEq, Int.reduceBEq, Int.reduceSub, Int.reduceAdd, Int.reduceMul, Int.reduceNeg, Int.reduceToNat, Nat.reduceMul, Nat.reduceBEq, lp22_0, hlt, List.length_map] <;> rfl, by simp, ?_⟩
    rw [hie, overL_end, if_pos (by omega)]

theorem c22 (nl n2 : Bool) (arts : List (Int × Int)) (room floor : Int) (ends : List Int) (hlen : ends.length < 1000) (st : St) :
    run L 22 [bookAV nl arts room floor, sl 1 n2 (ends.map I)] st = some (two (mustV arts room floor ends), st) := by
  rw [run_pure (fn := ir22) rfl rfl]
  have hc := fun st => c69 nl n2 arts room floor ends hlen st
  unfold mustV
  by_cases p0 : cutErr arts room floor ends = 0
  · rw [if_pos p0]
    simp only [ir22, go_sem, reduceIte, Nat.reduceEqDiff, Nat.reduceAdd, Nat.reduceSub, Nat.reduceLeDiff, Nat.reduceLT, reduceCtorEq, Int.reduceLT, Int.reduceLE, Int.reduceEq, Int.reduceBEq, Int.reduceSub, Int.reduceAdd, Int.reduceMul, Int.reduceNeg, Int.reduceToNat, Nat.reduceMul, Nat.reduceBEq, hc, p0]
    generalize hg : lim (headed pure (run L) true _ lp22_0 _ _) _ _ = o
    obtain ⟨x, en, s, rfl, h2⟩ : ∃ x e s, o = some (x, e, s) ∧ _ := by rw [← hg]; exact loop22 nl n2 arts room floor ends hlen p0 0 (Nat.zero_le _) _ _ (by simp only [go_sem, reduceIte, Nat.reduceEqDiff, Nat.reduceAdd, Nat.reduceSub, Nat.reduceLeDiff, Nat.reduceLT, reduceCtorEq, Int.reduceLT, Int.reduceLE, Int.reduceEq, Int.reduceBEq, Int.reduceSub, Int.reduceAdd, Int.reduceMul, Int.reduceNeg, Int.reduceToNat, Nat.reduceMul, Nat.reduceBEq] <;> rfl)
    clear hg
    change (if overL arts room ends 0 < 0 then _ else _) at h2
    change _ = some (two (if overL arts room ends 0 < 0 then (0, 13) else (overL arts room ends 0, 0)), st)
    split at h2
    · next h =>
      subst h2
      rw [if_pos h]
      simp only [go_sem, reduceIte, Nat.reduceEqDiff, Nat.reduceAdd, Nat.reduceSub, Nat.reduceLeDiff, Nat.reduceLT, reduceCtorEq, Int.reduceLT, Int.reduceLE, Int.reduceEq, Int.reduceBEq, Int.reduceSub, Int.reduceAdd, Int.reduceMul, Int.reduceNeg, Int.reduceToNat, Nat.reduceMul, Nat.reduceBEq]
    · next h =>
      obtain ⟨rfl, h3, h4⟩ := h2
      rw [if_neg h]
      simp only [go_sem, reduceIte, Nat.reduceEqDiff, Nat.reduceAdd, Nat.reduceSub, Nat.reduceLeDiff, Nat.reduceLT, reduceCtorEq, Int.reduceLT, Int.reduceLE, Int.reduceEq, Int.reduceBEq, Int.reduceSub, Int.reduceAdd, Int.reduceMul, Int.reduceNeg, Int.reduceToNat, Nat.reduceMul, Nat.reduceBEq, h3, h4]
  · rw [if_neg p0]
    simp only [ir22, go_sem, reduceIte, Nat.reduceEqDiff, Nat.reduceAdd, Nat.reduceSub, Nat.reduceLeDiff, Nat.reduceLT, reduceCtorEq, Int.reduceLT, Int.reduceLE, Int.reduceEq, Int.reduceBEq, Int.reduceSub, Int.reduceAdd, Int.reduceMul, Int.reduceNeg, Int.reduceToNat, Nat.reduceMul, Nat.reduceBEq, hc, p0]


theorem c76t (nl : Bool) (l : List Int) (hl : ∀ x ∈ l, 0 ≤ x ∧ x ≤ 100000) (b e : Int) (st : St) :
    run L 76 [sl 1 nl (l.map I), I b, I e] st = if 0 ≤ e ∧ e < l.length then if 0 ≤ b ∧ b < l.length then some (I (seg l b e), st) else none else none := by
  rw [run_pure (fn := ir76) rfl rfl]
  have hw : IntKind.i64.wrap (l.getD e.toNat 0 - l.getD b.toNat 0) = seg l b e := by
    have h : ∀ i : Nat, 0 ≤ l.getD i 0 ∧ l.getD i 0 ≤ 100000 := by
      intro i
      rw [List.getD_eq_getElem?_getD]
      by_cases h : i < l.length
      · rw [List.getElem?_eq_getElem h]; exact hl _ (List.getElem_mem h)
      · rw [List.getElem?_eq_none (by omega)]; simp
    have h1 := h e.toNat
    have h2 := h b.toNat
    rw [wrap64 _ (by omega) (by omega)]; rfl
  simp only [ir76, go_sem, reduceIte, Nat.reduceEqDiff, Nat.reduceAdd, Nat.reduceSub, Nat.reduceLeDiff, Nat.reduceLT, reduceCtorEq, Int.reduceLT, Int.reduceLE, Int.reduceEq, Int.reduceBEq, Int.reduceSub, Int.reduceAdd, Int.reduceMul, Int.reduceNeg, Int.reduceToNat, Nat.reduceMul, Nat.reduceBEq, index_rsl_if, setm, make_ints, condK_dec, wantK_dec, not_dec, and_dec, or_dec, seqK_ite, seqK_none, blockK_ite, blockK_none, opsK_ite, opsK_none, stepK_ite, stepK_none, bodyK_ite, bodyK_none, resK_ite, resK_none, leaveK_ite, leaveK_none, only_ite, only_none, bind_ite, gives_some, gives_none, gives_ite, then_normal, then_ret, then_exit, then_none, then_ite, Option.bind_none, Bool.not_eq_true', decide_eq_false_iff_not, Bool.and_eq_true, Bool.or_eq_true, Option.some.injEq, Int.not_lt, Int.not_le, index_sl_if 1 nl I l 0, hw]

def fillFrom (l : List Int) (room : Int) : Nat → Nat → Nat → List Int → Option (List Int)
  | 0, _, _, out => some out
  | k + 1, b, e, out => if room < seg l ((e : Int) - 1) e then none else if room < seg l b e then fillFrom l room k (e - 1) (e + 1) (out ++ [(e : Int) - 1]) else fillFrom l room k b (e + 1) out

theorem loop82 (nl : Bool) (l : List Int) (hl : ∀ x ∈ l, 0 ≤ x ∧ x ≤ 100000) (hlen : l.length < 1000) (room : Int) (k : Nat) (b : Nat) (e : Nat) (out : List Int) (hok : e + k = l.length ∧ 1 ≤ e ∧ b < e ∧ out.length < e) (env : Env) (st : St)
    (hg : gcAV true 0 0 (canon env [0, 1, 5, 6, 7]) st = ([(0, sl 1 nl (l.map I)), (1, I room), (5, loc 1 0 (out.map I)), (6, I b), (7, I e)], ⟨[], locT 0 (out.map I)⟩)) :
    ∃ x_1 en s, lim (headed pure (run L) true [0, 1, 5, 6, 7] lp82_0 0 0) env st = some (x_1, en, s) ∧ (match fillFrom l room k b e out with | none => x_1 = .ret ∧ en.get 4 = .v (.slice none 0 0) | some r => x_1 = .exit 0 ∧ en.get 0 = sl 1 nl (l.map I) ∧ en.get 5 = loc 1 0 (r.map I) ∧ s = ⟨[], locT 0 (r.map I)⟩) := by
  refine loop_wp (α := Nat × Nat × Nat × List Int) (fun ⟨k, b, e, out⟩ => k) (fun ⟨k, b, e, out⟩ => e + k = l.length ∧ 1 ≤ e ∧ b < e ∧ out.length < e) (fun ⟨k, b, e, out⟩ => ([(0, sl 1 nl (l.map I)), (1, I room), (5, loc 1 0 (out.map I)), (6, I b), (7, I e)], ⟨[], locT 0 (out.map I)⟩)) (fun ⟨k, b, e, out⟩ x_1 en s => match fillFrom l room k b e out with | none => x_1 = .ret ∧ en.get 4 = .v (.slice none 0 0) | some r => x_1 = .exit 0 ∧ en.get 0 = sl 1 nl (l.map I) ∧ en.get 5 = loc 1 0 (r.map I) ∧ s = ⟨[], locT 0 (r.map I)⟩) (fun ⟨k, b, e, out⟩ hok => ?_) ⟨k, b, e, out⟩ hok env st hg
  simp only at hok
  have hw : IntKind.i64.wrap ((e : Int) - 1) = (e : Int) - 1 := by rw [wrap64] <;> omega
  have hs := succ64 e (by omega)
  have happ := append_locm (z := 1) (k := 0) I out ((e : Int) - 1) [] (by omega) (by simp [maxGrow]; omega)
  simp only [go_sem, reduceIte, Nat.reduceEqDiff, Nat.reduceAdd, Nat.reduceSub, Nat.reduceLeDiff, Nat.reduceLT, reduceCtorEq, Int.reduceLT, Int.reduceLE, Int.reduceEq, Int.reduceBEq, Int.reduceSub, Int.reduceAdd, Int.reduceMul, Int.reduceNeg, Int.reduceToNat, Nat.reduceMul, Nat.reduceBEq, index_rsl_if, setm, make_ints, condK_dec, wantK_dec, not_dec, and_dec, or_dec, seqK_ite, seqK_none, blockK_ite, blockK_none, opsK_ite, opsK_none, stepK_ite, stepK_none, bodyK_ite, bodyK_none, resK_ite, resK_none, leaveK_ite, leaveK_none, only_ite, only_none, bind_ite, gives_some, gives_none, gives_ite, then_normal, then_ret, then_exit, then_none, then_ite, Option.bind_none, Bool.not_eq_true', decide_eq_false_iff_not, Bool.and_eq_true, Bool.or_eq_true, Option.some.injEq, Int.not_lt, Int.not_le, lp82_0, c76t nl l hl, hw, hs, happ, List.length_map]
  refine ⟨fun h1 => ⟨fun _ => ⟨fun _ => ?_, by omega⟩, by omega⟩, fun h1 => ?_⟩
  · obtain ⟨k', rfl⟩ : ∃ k', k = k' + 1 := ⟨k - 1, by omega⟩
    refine ⟨fun p => ?_, fun p => ⟨fun _ => ⟨fun _ => ⟨fun q => ?_, fun q => ?_⟩, by omega⟩, by omega⟩⟩
    · simp only [fillFrom, if_pos p]
    · refine ⟨(k', e - 1, e + 1, out ++ [(e : Int) - 1]), by simp only [go_sem, reduceIte, Nat.reduceEqDiff, Nat.reduceAdd, Nat.reduceSub, Nat.reduceLeDiff, Nat.reduceLT, reduceCtorEq, Int.reduceLT, Int.reduceLE, Int.reduceEq, Int.reduceBEq, Int.reduceSub, Int.reduceAdd, Int.reduceMul, Int.reduceNeg, Int.reduceToNat, Nat.reduceMul, Nat.reduceBEq, ren1_locm, loc_tips, locT_eq, show ((e - 1 : Nat) : Int) = (e : Int) - 1 by omega] <;> rfl, ?_, ?_, fun x en s hq => ?_⟩
      · simp; omega
      · simp
      · simp only [fillFrom, if_neg (Int.not_lt.2 p), if_pos q]; exact hq
    · refine ⟨(k', b, e + 1, out), by simp only [go_sem, reduceIte, Nat.reduceEqDiff, Nat.reduceAdd, Nat.reduceSub, Nat.reduceLeDiff, Nat.reduceLT, reduceCtorEq, Int.reduceLT, Int.reduceLE, Int.reduceEq, Int.reduceBEq, Int.reduceSub, Int.reduceAdd, Int.reduceMul, Int.reduceNeg, Int.reduceToNat, Nat.reduceMul, Nat.reduceBEq, ren1_locm, loc_tips, locT_eq] <;> rfl, ?_, ?_, fun x en s hq => ?_⟩
      · simp; omega
      · simp
      · simp only [fillFrom, if_neg (Int.not_lt.2 p), if_neg (Int.not_lt.2 q)]; exact hq
  · obtain rfl : k = 0 := by omega
    simp [fillFrom]

/-- The ends of the cut in which each volume has as many articles as it can; none: there is none. -/
def filled (l : List Int) (room : Int) : List Int :=
  match fillFrom l room (l.length - 1) 0 1 [] with
  | none => []
  | some r => r ++ [(l.length : Int) - 1]

theorem fillFrom_len (l : List Int) (room : Int) : ∀ k b e out r, fillFrom l room k b e out = some r → r.length ≤ out.length + k
  | 0, b, e, out, r, h => by simp [fillFrom] at h; rw [← h]; omega
  | k + 1, b, e, out, r, h => by
    simp only [fillFrom] at h
    split at h
    · simp at h
    · split at h
      · have := fillFrom_len l room k _ _ _ _ h; simp at this; omega
      · have := fillFrom_len l room k _ _ _ _ h; omega

theorem c82 (nl : Bool) (l : List Int) (hl : ∀ x ∈ l, 0 ≤ x ∧ x ≤ 100000) (h1 : 1 ≤ l.length) (hlen : l.length < 1000) (room : Int) (st : St) :
    run L 82 [sl 1 nl (l.map I), I room] st = some (sl 1 true ((filled l room).map I), st) := by
  rw [run_pure (fn := ir82) rfl rfl]
  have hw : IntKind.i64.wrap ((l.length : Int) - 1) = (l.length : Int) - 1 := by rw [wrap64] <;> omega
  simp only [ir82, go_sem, reduceIte, Nat.reduceEqDiff, Nat.reduceAdd, Nat.reduceSub, Nat.reduceLeDiff, Nat.reduceLT, reduceCtorEq, Int.reduceLT, Int.reduceLE, Int.reduceEq, Int.reduceBEq, Int.reduceSub, Int.reduceAdd, Int.reduceMul, Int.reduceNeg, Int.reduceToNat, Nat.reduceMul, Nat.reduceBEq]
  generalize hg : lim (headed pure (run L) true _ lp82_0 _ _) _ _ = o
  obtain ⟨x, en, s, rfl, h2⟩ : ∃ x en s, o = some (x, en, s) ∧ _ := by rw [← hg]; exact loop82 nl l hl hlen room (l.length - 1) 0 1 [] ⟨by omega, by omega, by omega, by simp⟩ _ _ (by simp only [go_sem, reduceIte, Nat.reduceEqDiff, Nat.reduceAdd, Nat.reduceSub, Nat.reduceLeDiff, Nat.reduceLT, reduceCtorEq, Int.reduceLT, Int.reduceLE, Int.reduceEq, Int.reduceBEq, Int.reduceSub, Int.reduceAdd, Int.reduceMul, Int.reduceNeg, Int.reduceToNat, Nat.reduceMul, Nat.reduceBEq, loc_start, locT] <;> rfl)
  clear hg
  unfold filled
  split at h2
  · next hf =>
    obtain ⟨rfl, h3⟩ := h2
    simp only [go_sem, reduceIte, Nat.reduceEqDiff, Nat.reduceAdd, Nat.reduceSub, Nat.reduceLeDiff, Nat.reduceLT, reduceCtorEq, Int.reduceLT, Int.reduceLE, Int.reduceEq, Int.reduceBEq, Int.reduceSub, Int.reduceAdd, Int.reduceMul, Int.reduceNeg, Int.reduceToNat, Nat.reduceMul, Nat.reduceBEq, h3, hf, ← sl_nil]
  · next r hf =>
    obtain ⟨rfl, h3, h4, rfl⟩ := h2
    have hk := fillFrom_len _ _ _ _ _ _ _ hf
    have happ := append_locm (z := 1) (k := 0) I r ((l.length : Int) - 1) [] (by omega) (by simp at hk; simp [maxGrow]; omega)
    simp only [go_sem, reduceIte, Nat.reduceEqDiff, Nat.reduceAdd, Nat.reduceSub, Nat.reduceLeDiff, Nat.reduceLT, reduceCtorEq, Int.reduceLT, Int.reduceLE, Int.reduceEq, Int.reduceBEq, Int.reduceSub, Int.reduceAdd, Int.reduceMul, Int.reduceNeg, Int.reduceToNat, Nat.reduceMul, Nat.reduceBEq, h3, h4, hf, hw, happ, List.length_map]


/-- The sums of the lines of a book that is accepted. -/
theorem mosts_ok {arts : List (Int × Int)} {room floor : Int} (h : check arts room floor = 0) :
    (∀ x ∈ mosts arts, 0 ≤ x ∧ x ≤ 100000) ∧ (mosts arts).length = arts.length + 1 ∧ 1 ≤ arts.length ∧ arts.length ≤ 12 := by
  obtain ⟨k1, k2, k3, _⟩ := check_zero h
  refine ⟨fun x hx => ?_, by simp [sums_len], by omega, by omega⟩
  have hb := sums_bound (arts.map (·.2)) (by intro x hx; obtain ⟨a, ha, rfl⟩ := List.mem_map.1 hx; have := k3 a ha; omega) 0 (by omega) x hx
  simp at hb; omega
theorem cmost (nl : Bool) {arts : List (Int × Int)} {room floor : Int} (h : check arts room floor = 0) (st : St) :
    run L 75 [bookAV nl arts room floor, .fn (.func 68) [] []] st = some (sl 1 false ((mosts arts).map I), st) := by
  obtain ⟨k1, k2, k3, _⟩ := check_zero h
  exact c75' 68 (·.2) rfl c68 nl arts (by omega) (fun a ha => by have := k3 a ha; omega) room floor st
/-- A list and an error. -/
abbrev lerr (p : List Int × Int) : AV := .tup [sl 1 true (p.1.map I), I p.2]

def fewestV (arts : List (Int × Int)) (room floor : Int) : List Int × Int :=
  if check arts room floor = 0 then (if filled (mosts arts) room = [] then ([], 12) else (filled (mosts arts) room, 0)) else ([], check arts room floor)

theorem c31 (nl : Bool) (arts : List (Int × Int)) (room floor : Int) (st : St) :
    run L 31 [bookAV nl arts room floor] st = some (lerr (fewestV arts room floor), st) := by
  rw [run_pure (fn := ir31) rfl rfl]
  have hc := fun st => c25 nl arts room floor st
  unfold fewestV
  by_cases p0 : check arts room floor = 0
  · obtain ⟨g1, g2, g3, g4⟩ := mosts_ok p0
    have h75 := fun st => cmost nl p0 st
    have h82 := fun st => c82 false (mosts arts) g1 (by omega) (by omega) room st
    by_cases p1 : filled (mosts arts) room = []
    · simp only [ir31, go_sem, reduceIte, Nat.reduceEqDiff, Nat.reduceAdd, Nat.reduceSub, Nat.reduceLeDiff, Nat.reduceLT, reduceCtorEq, Int.reduceLT, Int.reduceLE, Int.reduceEq, Int.reduceBEq, Int.reduceSub, Int.reduceAdd, Int.reduceMul, Int.reduceNeg, Int.reduceToNat, Nat.reduceMul, Nat.reduceBEq, hc, p0, h75, h82, p1] <;> rfl
    · simp only [ir31, go_sem, reduceIte, Nat.reduceEqDiff, Nat.reduceAdd, Nat.reduceSub, Nat.reduceLeDiff, Nat.reduceLT, reduceCtorEq, Int.reduceLT, Int.reduceLE, Int.reduceEq, Int.reduceBEq, Int.reduceSub, Int.reduceAdd, Int.reduceMul, Int.reduceNeg, Int.reduceToNat, Nat.reduceMul, Nat.reduceBEq, hc, p0, h75, h82, p1]
  · simp only [ir31, go_sem, reduceIte, Nat.reduceEqDiff, Nat.reduceAdd, Nat.reduceSub, Nat.reduceLeDiff, Nat.reduceLT, reduceCtorEq, Int.reduceLT, Int.reduceLE, Int.reduceEq, Int.reduceBEq, Int.reduceSub, Int.reduceAdd, Int.reduceMul, Int.reduceNeg, Int.reduceToNat, Nat.reduceMul, Nat.reduceBEq, hc, p0] <;> rfl

/-- The least number from low on with a property that is found by halving. -/
def halve (p : Int → Prop) [DecidablePred p] : Nat → Int → Int → Int
  | 0, low, _ => low
  | k + 1, low, high => if low < high then (if p ((low + high) / 2) then halve p k low ((low + high) / 2) else halve p k ((low + high) / 2 + 1) high) else low

abbrev fits (l : List Int) (v : Int) (room : Int) : Prop := filled l room ≠ [] ∧ ((filled l room).length : Int) ≤ v

theorem loop33 (nl : Bool) (l : List Int) (hl : ∀ x ∈ l, 0 ≤ x ∧ x ≤ 100000) (h1 : 1 ≤ l.length) (hlen : l.length < 1000) (v : Int) (n2 : Bool) (arts : List (Int × Int)) (r0 floor : Int) (k : Nat) (low : Int) (high : Int) (hok : 1 ≤ low ∧ 0 ≤ high ∧ high ≤ 1000000 ∧ low ≤ 1000000 ∧ high - low ≤ k) (env : Env) (st : St)
    (hg : gcAV true 1 0 (canon env [1, 7, 8, 9]) st = ([(1, I v), (7, sl 1 nl (l.map I)), (8, I low), (9, I high)], ⟨[bookCells n2 arts r0 floor], []⟩)) :
    ∃ x_1 en s, lim (headed pure (run L) true [1, 7, 8, 9] lp33_0 1 0) env st = some (x_1, en, s) ∧ (x_1 = .exit 1 ∧ en.get 8 = I (halve (fits l v) k low high)) := by
  refine loop_wp (α := Nat × Int × Int) (fun ⟨k, low, high⟩ => k) (fun ⟨k, low, high⟩ => 1 ≤ low ∧ 0 ≤ high ∧ high ≤ 1000000 ∧ low ≤ 1000000 ∧ high - low ≤ k) (fun ⟨k, low, high⟩ => ([(1, I v), (7, sl 1 nl (l.map I)), (8, I low), (9, I high)], ⟨[bookCells n2 arts r0 floor], []⟩)) (fun ⟨k, low, high⟩ x_1 en s => x_1 = .exit 1 ∧ en.get 8 = I (halve (fits l v) k low high)) (fun ⟨k, low, high⟩ hok => ?_) ⟨k, low, high⟩ hok env st hg
  simp only at hok
  have h82 := fun room st => c82 nl l hl h1 hlen room st
  by_cases q : low < high
  · obtain ⟨k', rfl⟩ : ∃ k', k = k' + 1 := ⟨k - 1, by omega⟩
    have hw := wrap64 (low + high) (by omega) (by omega)
    have hd : (low + high).tdiv 2 = (low + high) / 2 := Int.tdiv_eq_ediv_of_nonneg (by omega)
    have hw2 := wrap64 ((low + high) / 2) (by omega) (by omega)
    have hw3 := wrap64 ((low + high) / 2 + 1) (by omega) (by omega)
    have hb1 : (low + high) / 2 < high := by omega
    have hb2 : low ≤ (low + high) / 2 := by omega
    by_cases p1 : filled l ((low + high) / 2) = []
    · simp only [go_sem, reduceIte, Nat.reduceEqDiff, Nat.reduceAdd, Nat.reduceSub, Nat.reduceLeDiff, Nat.reduceLT, reduceCtorEq, Int.reduceLT, Int.reduceLE, Int.reduceEq, Int.reduceBEq, Int.reduceSub, Int.reduceAdd, Int.reduceMul, Int.reduceNeg, Int.reduceToNat, Nat.reduceMul, Nat.reduceBEq, index_rsl_if, setm, make_ints, condK_dec, wantK_dec, not_dec, and_dec, or_dec, seqK_ite, seqK_none, blockK_ite, blockK_none, opsK_ite, opsK_none, stepK_ite, stepK_none, bodyK_ite, bodyK_none, resK_ite, resK_none, leaveK_ite, leaveK_none, only_ite, only_none, bind_ite, gives_some, gives_none, gives_ite, then_normal, then_ret, then_exit, then_none, then_ite, Option.bind_none, Bool.not_eq_true', decide_eq_false_iff_not, Bool.and_eq_true, Bool.or_eq_true, Option.some.injEq, Int.not_lt, Int.not_le, lp33_0, q, hw, hd, hw2, hw3, h82, p1]
      refine ⟨(k', (low + high) / 2 + 1, high), by simp only [go_sem, reduceIte, Nat.reduceEqDiff, Nat.reduceAdd, Nat.reduceSub, Nat.reduceLeDiff, Nat.reduceLT, reduceCtorEq, Int.reduceLT, Int.reduceLE, Int.reduceEq, Int.reduceBEq, Int.reduceSub, Int.reduceAdd, Int.reduceMul, Int.reduceNeg, Int.reduceToNat, Nat.reduceMul, Nat.reduceBEq, ren1_locm, loc_tips, locT_eq] <;> rfl, ?_, ?_, fun x en s hq => ?_⟩
      · simp only; omega
      · simp
      · simp only [halve, if_pos q, fits, p1, ne_eq, not_true_eq_false, false_and, if_false]; exact hq
    · by_cases p2 : ((filled l ((low + high) / 2)).length : Int) ≤ v
      · simp only [go_sem, reduceIte, Nat.reduceEqDiff, Nat.reduceAdd, Nat.reduceSub, Nat.reduceLeDiff, Nat.reduceLT, reduceCtorEq, Int.reduceLT, Int.reduceLE, Int.reduceEq, Int.reduceBEq, Int.reduceSub, Int.reduceAdd, Int.reduceMul, Int.reduceNeg, Int.reduceToNat, Nat.reduceMul, Nat.reduceBEq, index_rsl_if, setm, make_ints, condK_dec, wantK_dec, not_dec, and_dec, or_dec, seqK_ite, seqK_none, blockK_ite, blockK_none, opsK_ite, opsK_none, stepK_ite, stepK_none, bodyK_ite, bodyK_none, resK_ite, resK_none, leaveK_ite, leaveK_none, only_ite, only_none, bind_ite, gives_some, gives_none, gives_ite, then_normal, then_ret, then_exit, then_none, then_ite, Option.bind_none, Bool.not_eq_true', decide_eq_false_iff_not, Bool.and_eq_true, Bool.or_eq_true, Option.some.injEq, Int.not_lt, Int.not_le, lp33_0, q, hw, hd, hw2, hw3, h82, p1, p2, List.length_map]
        refine ⟨(k', low, (low + high) / 2), by simp only [go_sem, reduceIte, Nat.reduceEqDiff, Nat.reduceAdd, Nat.reduceSub, Nat.reduceLeDiff, Nat.reduceLT, reduceCtorEq, Int.reduceLT, Int.reduceLE, Int.reduceEq, Int.reduceBEq, Int.reduceSub, Int.reduceAdd, Int.reduceMul, Int.reduceNeg, Int.reduceToNat, Nat.reduceMul, Nat.reduceBEq, ren1_locm, loc_tips, locT_eq] <;> rfl, ?_, ?_, fun x en s hq => ?_⟩
        · simp only; omega
        · simp
        · simp only [halve, if_pos q, fits, p1, ne_eq, not_false_eq_true, p2, true_and, if_true]; exact hq
      · simp only [go_sem, reduceIte, Nat.reduceEqDiff, Nat.reduceAdd, Nat.reduceSub, Nat.reduceLeDiff, Nat.reduceLT, reduceCtorEq, Int.reduceLT, Int.reduceLE, Int.reduceEq, Int.reduceBEq, Int.reduceSub, Int.reduceAdd, Int.reduceMul, Int.reduceNeg, Int.reduceToNat, Nat.reduceMul, Nat.reduceBEq, index_rsl_if, setm, make_ints, condK_dec, wantK_dec, not_dec, and_dec, or_dec, seqK_ite, seqK_none, blockK_ite, blockK_none, opsK_ite, opsK_none, stepK_ite, stepK_none, bodyK_ite, bodyK_none, resK_ite, resK_none, leaveK_ite, leaveK_none, only_ite, only_none, bind_ite, gives_some, gives_none, gives_ite, then_normal, then_ret, then_exit, then_none, then_ite, Option.bind_none, Bool.not_eq_true', decide_eq_false_iff_not, Bool.and_eq_true, Bool.or_eq_true, Option.some.injEq, Int.not_lt, Int.not_le, lp33_0, q, hw, hd, hw2, hw3, h82, p1, p2, List.length_map]
        refine ⟨(k', (low + high) / 2 + 1, high), by simp only [go_sem, reduceIte, Nat.reduceEqDiff, Nat.reduceAdd, Nat.reduceSub, Nat.reduceLeDiff, Nat.reduceLT, reduceCtorEq, Int.reduceLT, Int.reduceLE, Int.reduceEq, Int.reduceBEq, Int.reduceSub, Int.reduceAdd, Int.reduceMul, Int.reduceNeg, Int.reduceToNat, Nat.reduceMul, Nat.reduceBEq, ren1_locm, loc_tips, locT_eq] <;> rfl, ?_, ?_, fun x en s hq => ?_⟩
        · simp only; omega
        · simp
        · simp only [halve, if_pos q, fits, p1, ne_eq, not_false_eq_true, p2, true_and, if_false]; exact hq
  · simp only [go_sem, reduceIte, Nat.reduceEqDiff, Nat.reduceAdd, Nat.reduceSub, Nat.reduceLeDiff, Nat.reduceLT, reduceCtorEq, Int.reduceLT, Int.reduceLE, Int.reduceEq, Int.reduceBEq, Int.reduceSub, Int.reduceAdd, Int.reduceMul, Int.reduceNeg, Int.reduceToNat, Nat.reduceMul, Nat.reduceBEq, index_rsl_if, setm, make_ints, condK_dec, wantK_dec, not_dec, and_dec, or_dec, seqK_ite, seqK_none, blockK_ite, blockK_none, opsK_ite, opsK_none, stepK_ite, stepK_none, bodyK_ite, bodyK_none, resK_ite, resK_none, leaveK_ite, leaveK_none, only_ite, only_none, bind_ite, gives_some, gives_none, gives_ite, then_normal, then_ret, then_exit, then_none, then_ite, Option.bind_none, Bool.not_eq_true', decide_eq_false_iff_not, Bool.and_eq_true, Bool.or_eq_true, Option.some.injEq, Int.not_lt, Int.not_le, lp33_0, q]
    cases k <;> simp [halve, q]

def levelV (arts : List (Int × Int)) (room floor v : Int) : Int × Int :=
  if check arts room floor = 0 then
    (if v < 1 ∨ (arts.length : Int) < v then (0, 1) else (halve (fits (mosts arts) v) 100000 1 ((mosts arts).getD arts.length 0), 0))
  else (0, check arts room floor)

theorem c33 (nl : Bool) (arts : List (Int × Int)) (room floor v : Int) (st : St) :
    run L 33 [bookAV nl arts room floor, I v] st = some (two (levelV arts room floor v), st) := by
  rw [run_pure (fn := ir33) rfl rfl]
  have hc := fun st => c25 nl arts room floor st
  unfold levelV
  by_cases p0 : check arts room floor = 0
  · rw [if_pos p0]
    obtain ⟨g1, g2, g3, g4⟩ := mosts_ok p0
    have h75 := fun st => cmost nl p0 st
    have hw : IntKind.i64.wrap (((arts.length + 1 : Nat) : Int) - 1) = (arts.length : Int) := by rw [wrap64] <;> omega
    have hi := index_sl 1 false ((mosts arts).map I) .i64 arts.length (by omega) (by simp [g2])
    have hm : ((mosts arts).map I)[(arts.length : Int).toNat]'(by simp [g2]) = I ((mosts arts).getD arts.length 0) := by
      simp [List.getD_eq_getElem?_getD, List.getElem?_eq_getElem (show arts.length < (mosts arts).length by omega)]
    rw [hm] at hi
    have hb : 0 ≤ (mosts arts).getD arts.length 0 ∧ (mosts arts).getD arts.length 0 ≤ 100000 := by
      rw [List.getD_eq_getElem?_getD, List.getElem?_eq_getElem (show arts.length < (mosts arts).length by omega)]
      exact g1 _ (List.getElem_mem _)
    by_cases p1 : v < 1
    · rw [if_pos (.inl p1)]
      simp only [ir33, go_sem, reduceIte, Nat.reduceEqDiff, Nat.reduceAdd, Nat.reduceSub, Nat.reduceLeDiff, Nat.reduceLT, reduceCtorEq, Int.reduceLT, Int.reduceLE, Int.reduceEq, Int.reduceBEq, Int.reduceSub, Int.reduceAdd, Int.reduceMul, Int.reduceNeg, Int.reduceToNat, Nat.reduceMul, Nat.reduceBEq, hc, p0, p1]
    · by_cases p2 : (arts.length : Int) < v
      · rw [if_pos (.inr p2)]
        simp only [ir33, go_sem, reduceIte, Nat.reduceEqDiff, Nat.reduceAdd, Nat.reduceSub, Nat.reduceLeDiff, Nat.reduceLT, reduceCtorEq, Int.reduceLT, Int.reduceLE, Int.reduceEq, Int.reduceBEq, Int.reduceSub, Int.reduceAdd, Int.reduceMul, Int.reduceNeg, Int.reduceToNat, Nat.reduceMul, Nat.reduceBEq, hc, p0, p1, p2, List.length_map]
      · rw [if_neg (by omega)]
        simp only [ir33, go_sem, reduceIte, Nat.reduceEqDiff, Nat.reduceAdd, Nat.reduceSub, Nat.reduceLeDiff, Nat.reduceLT, reduceCtorEq, Int.reduceLT, Int.reduceLE, Int.reduceEq, Int.reduceBEq, Int.reduceSub, Int.reduceAdd, Int.reduceMul, Int.reduceNeg, Int.reduceToNat, Nat.reduceMul, Nat.reduceBEq, hc, p0, p1, p2, List.length_map, h75, g2, hw, hi]
        generalize hg : lim (headed pure (run L) true _ lp33_0 _ _) _ _ = o
        obtain ⟨x, en, s, rfl, h2⟩ : ∃ x en s, o = some (x, en, s) ∧ _ := by rw [← hg]; exact loop33 false (mosts arts) g1 (by omega) (by omega) v nl arts room floor 100000 1 ((mosts arts).getD arts.length 0) ⟨by omega, by omega, by omega, by omega, by omega⟩ _ _ (by simp only [go_sem, reduceIte, Nat.reduceEqDiff, Nat.reduceAdd, Nat.reduceSub, Nat.reduceLeDiff, Nat.reduceLT, reduceCtorEq, Int.reduceLT, Int.reduceLE, Int.reduceEq, Int.reduceBEq, Int.reduceSub, Int.reduceAdd, Int.reduceMul, Int.reduceNeg, Int.reduceToNat, Nat.reduceMul, Nat.reduceBEq] <;> rfl)
        clear hg
        obtain ⟨rfl, h3⟩ := h2
        simp only [go_sem, reduceIte, Nat.reduceEqDiff, Nat.reduceAdd, Nat.reduceSub, Nat.reduceLeDiff, Nat.reduceLT, reduceCtorEq, Int.reduceLT, Int.reduceLE, Int.reduceEq, Int.reduceBEq, Int.reduceSub, Int.reduceAdd, Int.reduceMul, Int.reduceNeg, Int.reduceToNat, Nat.reduceMul, Nat.reduceBEq, h3]
  · rw [if_neg p0]
    simp only [ir33, go_sem, reduceIte, Nat.reduceEqDiff, Nat.reduceAdd, Nat.reduceSub, Nat.reduceLeDiff, Nat.reduceLT, reduceCtorEq, Int.reduceLT, Int.reduceLE, Int.reduceEq, Int.reduceBEq, Int.reduceSub, Int.reduceAdd, Int.reduceMul, Int.reduceNeg, Int.reduceToNat, Nat.reduceMul, Nat.reduceBEq, hc, p0]


def provesFrom (n : Int) (l : List Int) (room : Int) : Int → List (Int × Int) → Int
  | _, [] => 0
  | f, s :: r => if min s.1 s.2 < 0 ∨ n ≤ max s.1 s.2 then 2 else if s.2 ≤ s.1 ∨ s.1 < f then 7 else if seg l s.1 (s.2 + 1) ≤ room then 14 else provesFrom n l room s.2 r

/-- The last article of the stretches before number i. -/
def lastOf (ss : List (Int × Int)) (i : Nat) : Int := if i = 0 then 0 else (ss.getD (i - 1) (0, 0)).2
theorem lastOf_succ (ss : List (Int × Int)) (i : Nat) (h : i < ss.length) : lastOf ss (i + 1) = ss[i].2 := by
  simp [lastOf, h]

theorem loop39 (nl n2 : Bool) (arts : List (Int × Int)) (room floor v : Int) (hc : check arts room floor = 0) (ss : List (Int × Int)) (hlen : ss.length < 1000) (i : Nat) (hok : i ≤ ss.length) (env : Env) (st : St)
    (hg : gcAV true 1 0 (canon env [1, 2, 3, 8, 9, 23, 24, 25]) st = ([(1, I v), (2, sl 2 n2 (ss.map artAV)), (3, .ptr 0 0), (8, sl 1 false ((mosts arts).map I)), (9, I (lastOf ss i)), (23, sl 2 n2 (ss.map artAV)), (24, I ss.length), (25, I i)], ⟨[bookCells nl arts room floor], []⟩)) :
    ∃ x_1 en s, lim (headed pure (run L) true [1, 2, 3, 8, 9, 23, 24, 25] lp39_0 1 0) env st = some (x_1, en, s) ∧ (if provesFrom arts.length (mosts arts) room (lastOf ss i) (ss.drop i) = 0 then x_1 = .exit 1 ∧ en.get 1 = I v ∧ en.get 2 = sl 2 n2 (ss.map artAV) else x_1 = .ret ∧ en.get 6 = I (provesFrom arts.length (mosts arts) room (lastOf ss i) (ss.drop i))) := by
  refine loop_wp (α := Nat) (fun i => ss.length - i) (fun i => i ≤ ss.length) (fun i => ([(1, I v), (2, sl 2 n2 (ss.map artAV)), (3, .ptr 0 0), (8, sl 1 false ((mosts arts).map I)), (9, I (lastOf ss i)), (23, sl 2 n2 (ss.map artAV)), (24, I ss.length), (25, I i)], ⟨[bookCells nl arts room floor], []⟩)) (fun i x_1 en s => if provesFrom arts.length (mosts arts) room (lastOf ss i) (ss.drop i) = 0 then x_1 = .exit 1 ∧ en.get 1 = I v ∧ en.get 2 = sl 2 n2 (ss.map artAV) else x_1 = .ret ∧ en.get 6 = I (provesFrom arts.length (mosts arts) room (lastOf ss i) (ss.drop i))) (fun i hok => ?_) i hok env st hg
  obtain ⟨g1, g2, g3, g4⟩ := mosts_ok hc
  by_cases h : i < ss.length
  · have hd : ss.drop i = ss[i] :: ss.drop (i + 1) := List.drop_eq_getElem_cons h
    have hlt : ((i : Int) < (ss.length : Int)) = True := by simp; omega
    have hx := index_arts n2 ss i h
    have hs := succ64 i (by omega)
    have hl := lastOf_succ ss i h
    rw [hd]
    generalize ss[i] = s at *
    obtain ⟨a, b⟩ := s
    simp only at hx hl
    simp only [provesFrom]
    by_cases p1 : min a b < 0
    · rw [if_pos (.inl p1)]
      simp only [go_sem, reduceIte, Nat.reduceEqDiff, Nat.reduceAdd, Nat.reduceSub, Nat.reduceLeDiff, Nat.reduceLT, reduceCtorEq, Int.reduceLT, Int.reduceLE, Int.reduceEq, Int.reduceBEq, Int.reduceSub, Int.reduceAdd, Int.reduceMul, Int.reduceNeg, Int.reduceToNat, Nat.reduceMul, Nat.reduceBEq, index_rsl_if, setm, make_ints, condK_dec, wantK_dec, not_dec, and_dec, or_dec, seqK_ite, seqK_none, blockK_ite, blockK_none, opsK_ite, opsK_none, stepK_ite, stepK_none, bodyK_ite, bodyK_none, resK_ite, resK_none, leaveK_ite, leaveK_none, only_ite, only_none, bind_ite, gives_some, gives_none, gives_ite, then_normal, then_ret, then_exit, then_none, then_ite, Option.bind_none, Bool.not_eq_true', decide_eq_false_iff_not, Bool.and_eq_true, Bool.or_eq_true, Option.some.injEq, Int.not_lt, Int.not_le, lp39_0, hlt, hx, p1]
    · by_cases p2 : (arts.length : Int) ≤ max a b
      · rw [if_pos (.inr p2)]
        simp only [go_sem, reduceIte, Nat.reduceEqDiff, Nat.reduceAdd, Nat.reduceSub, Nat.reduceLeDiff, Nat.reduceLT, reduceCtorEq, Int.reduceLT, Int.reduceLE, Int.reduceEq, Int.reduceBEq, Int.reduceSub, Int.reduceAdd, Int.reduceMul, Int.reduceNeg, Int.reduceToNat, Nat.reduceMul, Nat.reduceBEq, index_rsl_if, setm, make_ints, condK_dec, wantK_dec, not_dec, and_dec, or_dec, seqK_ite, seqK_none, blockK_ite, blockK_none, opsK_ite, opsK_none, stepK_ite, stepK_none, bodyK_ite, bodyK_none, resK_ite, resK_none, leaveK_ite, leaveK_none, only_ite, only_none, bind_ite, gives_some, gives_none, gives_ite, then_normal, then_ret, then_exit, then_none, then_ite, Option.bind_none, Bool.not_eq_true', decide_eq_false_iff_not, Bool.and_eq_true, Bool.or_eq_true, Option.some.injEq, Int.not_lt, Int.not_le, lp39_0, hlt, hx, p1, p2, List.length_map]
      · rw [if_neg (by omega)]
        by_cases p3 : b ≤ a
        · rw [if_pos (.inl p3)]
          simp only [go_sem, reduceIte, Nat.reduceEqDiff, Nat.reduceAdd, Nat.reduceSub, Nat.reduceLeDiff, Nat.reduceLT, reduceCtorEq, Int.reduceLT, Int.reduceLE, Int.reduceEq, Int.reduceBEq, Int.reduceSub, Int.reduceAdd, Int.reduceMul, Int.reduceNeg, Int.reduceToNat, Nat.reduceMul, Nat.reduceBEq, index_rsl_if, setm, make_ints, condK_dec, wantK_dec, not_dec, and_dec, or_dec, seqK_ite, seqK_none, blockK_ite, blockK_none, opsK_ite, opsK_none, stepK_ite, stepK_none, bodyK_ite, bodyK_none, resK_ite, resK_none, leaveK_ite, leaveK_none, only_ite, only_none, bind_ite, gives_some, gives_none, gives_ite, then_normal, then_ret, then_exit, then_none, then_ite, Option.bind_none, Bool.not_eq_true', decide_eq_false_iff_not, Bool.and_eq_true, Bool.or_eq_true, Option.some.injEq, Int.not_lt, Int.not_le, lp39_0, hlt, hx, p1, p2, p3, List.length_map]
        · by_cases p4 : a < lastOf ss i
          · rw [if_pos (.inr p4)]
            simp only [go_sem, reduceIte, Nat.reduceEqDiff, Nat.reduceAdd, Nat.reduceSub, Nat.reduceLeDiff, Nat.reduceLT, reduceCtorEq, Int.reduceLT, Int.reduceLE, Int.reduceEq, Int.reduceBEq, Int.reduceSub, Int.reduceAdd, Int.reduceMul, Int.reduceNeg, Int.reduceToNat, Nat.reduceMul, Nat.reduceBEq, index_rsl_if, setm, make_ints, condK_dec, wantK_dec, not_dec, and_dec, or_dec, seqK_ite, seqK_none, blockK_ite, blockK_none, opsK_ite, opsK_none, stepK_ite, stepK_none, bodyK_ite, bodyK_none, resK_ite, resK_none, leaveK_ite, leaveK_none, only_ite, only_none, bind_ite, gives_some, gives_none, gives_ite, then_normal, then_ret, then_exit, then_none, then_ite, Option.bind_none, Bool.not_eq_true', decide_eq_false_iff_not, Bool.and_eq_true, Bool.or_eq_true, Option.some.injEq, Int.not_lt, Int.not_le, lp39_0, hlt, hx, p1, p2, p3, p4, List.length_map]
          · rw [if_neg (by omega)]
            have hw := wrap64 (b + 1) (by omega) (by omega)
            have h76 := fun st => c76' false (mosts arts) g1 a (b + 1) (by omega) (by omega) (by omega) (by omega) st
            by_cases p5 : seg (mosts arts) a (b + 1) ≤ room
            · rw [if_pos p5]
              simp only [go_sem, reduceIte, Nat.reduceEqDiff, Nat.reduceAdd, Nat.reduceSub, Nat.reduceLeDiff, Nat.reduceLT, reduceCtorEq, Int.reduceLT, Int.reduceLE, Int.reduceEq, Int.reduceBEq, Int.reduceSub, Int.reduceAdd, Int.reduceMul, Int.reduceNeg, Int.reduceToNat, Nat.reduceMul, Nat.reduceBEq, index_rsl_if, setm, make_ints, condK_dec, wantK_dec, not_dec, and_dec, or_dec, seqK_ite, seqK_none, blockK_ite, blockK_none, opsK_ite, opsK_none, stepK_ite, stepK_none, bodyK_ite, bodyK_none, resK_ite, resK_none, leaveK_ite, leaveK_none, only_ite, only_none, bind_ite, gives_some, gives_none, gives_ite, then_normal, then_ret, then_exit, then_none, then_ite, Option.bind_none, Bool.not_eq_true', decide_eq_false_iff_not, Bool.and_eq_true, Bool.or_eq_true, Option.some.injEq, Int.not_lt, Int.not_le, lp39_0, hlt, hx, p1, p2, p3, p4, hw, h76, p5, List.length_map]
            · rw [if_neg p5]
              simp only [go_sem, reduceIte, Nat.reduceEqDiff, Nat.reduceAdd, Nat.reduceSub, Nat.reduceLeDiff, Nat.reduceLT, reduceCtorEq, Int.reduceLT, Int.reduceLE, Int.reduceEq, Int.reduceBEq, Int.reduceSub, Int.reduceAdd, Int.reduceMul, Int.reduceNeg, Int.reduceToNat, Nat.reduceMul, Nat.reduceBEq, index_rsl_if, setm, make_ints, condK_dec, wantK_dec, not_dec, and_dec, or_dec, seqK_ite, seqK_none, blockK_ite, blockK_none, opsK_ite, opsK_none, stepK_ite, stepK_none, bodyK_ite, bodyK_none, resK_ite, resK_none, leaveK_ite, leaveK_none, only_ite, only_none, bind_ite, gives_some, gives_none, gives_ite, then_normal, then_ret, then_exit, then_none, then_ite, Option.bind_none, Bool.not_eq_true', decide_eq_false_iff_not, Bool.and_eq_true, Bool.or_eq_true, Option.some.injEq, Int.not_lt, Int.not_le, lp39_0, hlt, hx, p1, p2, p3, p4, hw, h76, p5, hs, List.length_map]
              refine ⟨i + 1, by simp only [go_sem, reduceIte, Nat.reduceEqDiff, Nat.reduceAdd, Nat.reduceSub, Nat.reduceLeDiff, Nat.reduceLT, reduceCtorEq, Int.reduceLT, Int.reduceLE, Int.reduceEq, Int.reduceBEq, Int.reduceSub, Int.reduceAdd, Int.reduceMul, Int.reduceNeg, Int.reduceToNat, Nat.reduceMul, Nat.reduceBEq, ren1_locm, loc_tips, locT_eq, hl] <;> rfl, ?_, ?_, fun x en s hq => ?_⟩
              · omega
              · omega
              · rw [hl] at hq; exact hq
  · have hlt : ((i : Int) < (ss.length : Int)) = False := by simp; omega
    rw [List.drop_eq_nil_of_le (by omega)]
    simp only [go_sem, reduceIte, Nat.reduceEqDiff, Nat.reduceAdd, Nat.reduceSub, Nat.reduceLeDiff, Nat.reduceLT, reduceCtorEq, Int.reduceLT, Int.reduceLE, Int.reduceEq, Int.reduceBEq, Int.reduceSub, Int.reduceAdd, Int.reduceMul, Int.reduceNeg, Int.reduceToNat, Nat.reduceMul, Nat.reduceBEq, index_rsl_if, setm, make_ints, condK_dec, wantK_dec, not_dec, and_dec, or_dec, seqK_ite, seqK_none, blockK_ite, blockK_none, opsK_ite, opsK_none, stepK_ite, stepK_none, bodyK_ite, bodyK_none, resK_ite, resK_none, leaveK_ite, leaveK_none, only_ite, only_none, bind_ite, gives_some, gives_none, gives_ite, then_normal, then_ret, then_exit, then_none, then_ite, Option.bind_none, Bool.not_eq_true', decide_eq_false_iff_not, Bool.and_eq_true, Bool.or_eq_true, Option.some.injEq, Int.not_lt, Int.not_le, lp39_0, hlt, provesFrom]

def provesV (arts : List (Int × Int)) (room floor v : Int) (ss : List (Int × Int)) : Int :=
  if check arts room floor = 0 then
    if v < 1 then 1 else if provesFrom arts.length (mosts arts) room 0 ss = 0 then (if (ss.length : Int) < v - 1 then 14 else 0) else provesFrom arts.length (mosts arts) room 0 ss
  else check arts room floor

theorem c39 (nl n2 : Bool) (arts : List (Int × Int)) (room floor v : Int) (hv : v ≤ 9223372036854775807) (ss : List (Int × Int)) (hlen : ss.length < 1000) (st : St) :
    run L 39 [bookAV nl arts room floor, I v, sl 2 n2 (ss.map artAV)] st = some (I (provesV arts room floor v ss), st) := by
  rw [run_pure (fn := ir39) rfl rfl]
  have hc := fun st => c25 nl arts room floor st
  unfold provesV
  by_cases p0 : check arts room floor = 0
  · rw [if_pos p0]
    have h75 := fun st => cmost nl p0 st
    by_cases p1 : v < 1
    · rw [if_pos p1]
      simp only [ir39, go_sem, reduceIte, Nat.reduceEqDiff, Nat.reduceAdd, Nat.reduceSub, Nat.reduceLeDiff, Nat.reduceLT, reduceCtorEq, Int.reduceLT, Int.reduceLE, Int.reduceEq, Int.reduceBEq, Int.reduceSub, Int.reduceAdd, Int.reduceMul, Int.reduceNeg, Int.reduceToNat, Nat.reduceMul, Nat.reduceBEq, hc, p0, p1]
    · rw [if_neg p1]
      simp only [ir39, go_sem, reduceIte, Nat.reduceEqDiff, Nat.reduceAdd, Nat.reduceSub, Nat.reduceLeDiff, Nat.reduceLT, reduceCtorEq, Int.reduceLT, Int.reduceLE, Int.reduceEq, Int.reduceBEq, Int.reduceSub, Int.reduceAdd, Int.reduceMul, Int.reduceNeg, Int.reduceToNat, Nat.reduceMul, Nat.reduceBEq, hc, p0, p1, h75, List.length_map]
      have hw := wrap64 (v - 1) (by omega) (by omega)
      generalize hg : lim (headed pure (run L) true _ lp39_0 _ _) _ _ = o
      obtain ⟨x, en, s, rfl, h2⟩ : ∃ x en s, o = some (x, en, s) ∧ _ := by rw [← hg]; exact loop39 nl n2 arts room floor v p0 ss hlen 0 (Nat.zero_le _) _ _ (by simp only [go_sem, reduceIte, Nat.reduceEqDiff, Nat.reduceAdd, Nat.reduceSub, Nat.reduceLeDiff, Nat.reduceLT, reduceCtorEq, Int.reduceLT, Int.reduceLE, Int.reduceEq, Int.reduceBEq, Int.reduceSub, Int.reduceAdd, Int.reduceMul, Int.reduceNeg, Int.reduceToNat, Nat.reduceMul, Nat.reduceBEq, lastOf] <;> rfl)
      clear hg
      simp only [List.drop_zero, show lastOf ss 0 = 0 from rfl] at h2
      split at h2
      · next h =>
        obtain ⟨rfl, h3, h4⟩ := h2
        rw [if_pos h]
        by_cases p2 : (ss.length : Int) < v - 1
        · simp only [go_sem, reduceIte, Nat.reduceEqDiff, Nat.reduceAdd, Nat.reduceSub, Nat.reduceLeDiff, Nat.reduceLT, reduceCtorEq, Int.reduceLT, Int.reduceLE, Int.reduceEq, Int.reduceBEq, Int.reduceSub, Int.reduceAdd, Int.reduceMul, Int.reduceNeg, Int.reduceToNat, Nat.reduceMul, Nat.reduceBEq, h3, h4, hw, p2, List.length_map]
        · simp only [go_sem, reduceIte, Nat.reduceEqDiff, Nat.reduceAdd, Nat.reduceSub, Nat.reduceLeDiff, Nat.reduceLT, reduceCtorEq, Int.reduceLT, Int.reduceLE, Int.reduceEq, Int.reduceBEq, Int.reduceSub, Int.reduceAdd, Int.reduceMul, Int.reduceNeg, Int.reduceToNat, Nat.reduceMul, Nat.reduceBEq, h3, h4, hw, p2, List.length_map]
      · next h =>
        obtain ⟨rfl, h3⟩ := h2
        rw [if_neg h]
        simp only [go_sem, reduceIte, Nat.reduceEqDiff, Nat.reduceAdd, Nat.reduceSub, Nat.reduceLeDiff, Nat.reduceLT, reduceCtorEq, Int.reduceLT, Int.reduceLE, Int.reduceEq, Int.reduceBEq, Int.reduceSub, Int.reduceAdd, Int.reduceMul, Int.reduceNeg, Int.reduceToNat, Nat.reduceMul, Nat.reduceBEq, h3]
  · rw [if_neg p0]
    simp only [ir39, go_sem, reduceIte, Nat.reduceEqDiff, Nat.reduceAdd, Nat.reduceSub, Nat.reduceLeDiff, Nat.reduceLT, reduceCtorEq, Int.reduceLT, Int.reduceLE, Int.reduceEq, Int.reduceBEq, Int.reduceSub, Int.reduceAdd, Int.reduceMul, Int.reduceNeg, Int.reduceToNat, Nat.reduceMul, Nat.reduceBEq, hc, p0]


/-- Where the shortest stretch from article x ends, from article y on; n: there is none. -/
def stretchEnd (l : List Int) (room : Int) (n x : Nat) : Nat → Nat → Nat
  | 0, y => y
  | k + 1, y => if y < n ∧ seg l x ((y : Int) + 1) ≤ room then stretchEnd l room n x k (y + 1) else y
theorem stretchEnd_le (l : List Int) (room : Int) (n x : Nat) : ∀ k y, y + k = n → y ≤ stretchEnd l room n x k y ∧ stretchEnd l room n x k y ≤ n
  | 0, y, h => by simp [stretchEnd]; omega
  | k + 1, y, h => by
    simp only [stretchEnd]
    split
    · have := stretchEnd_le l room n x k (y + 1) (by omega); omega
    · omega

/-- Where the shortest stretch from each article ends, and how many are in a row from it on. -/
def lastOfArt (l : List Int) (room : Int) (n x : Nat) : Nat := stretchEnd l room n x (n - (x + 1)) (x + 1)
def rowOf (n : Nat) (la : Nat → Nat) (x : Nat) : Nat :=
  if x < n then (if la x < n then max (rowOf n la (x + 1)) (1 + rowOf n la (max (x + 1) (la x))) else rowOf n la (x + 1)) else 0
termination_by n - x
theorem lastOfArt_ok (l : List Int) (room : Int) (n x : Nat) (h : x < n) : x < lastOfArt l room n x ∧ lastOfArt l room n x ≤ n := by
  have := stretchEnd_le l room n x (n - (x + 1)) (x + 1) (by omega)
  unfold lastOfArt; omega


theorem c106 (a : Int) (st : St) : run L 106 [I a] st = some (B false, st) := by
  rw [run_pure (fn := ir106) rfl rfl]
  simp only [ir106, go_sem, reduceIte, Nat.reduceEqDiff, Nat.reduceAdd, Nat.reduceSub, Nat.reduceLeDiff, Nat.reduceLT, reduceCtorEq, Int.reduceLT, Int.reduceLE, Int.reduceEq, Int.reduceBEq, Int.reduceSub, Int.reduceAdd, Int.reduceMul, Int.reduceNeg, Int.reduceToNat, Nat.reduceMul, Nat.reduceBEq]
theorem c95 (a : Int) (st : St) : run L 95 [I a] st = some (B false, st) := by
  rw [run_pure (fn := ir95) rfl rfl]
  simp only [ir95, go_sem, reduceIte, Nat.reduceEqDiff, Nat.reduceAdd, Nat.reduceSub, Nat.reduceLeDiff, Nat.reduceLT, reduceCtorEq, Int.reduceLT, Int.reduceLE, Int.reduceEq, Int.reduceBEq, Int.reduceSub, Int.reduceAdd, Int.reduceMul, Int.reduceNeg, Int.reduceToNat, Nat.reduceMul, Nat.reduceBEq]
theorem c94 (a b : Int) (st : St) : run L 94 [I a, I b] st = some (B (decide (a < b)), st) := by
  rw [run_pure (fn := ir94) rfl rfl]
  simp only [ir94, go_sem, reduceIte, Nat.reduceEqDiff, Nat.reduceAdd, Nat.reduceSub, Nat.reduceLeDiff, Nat.reduceLT, reduceCtorEq, Int.reduceLT, Int.reduceLE, Int.reduceEq, Int.reduceBEq, Int.reduceSub, Int.reduceAdd, Int.reduceMul, Int.reduceNeg, Int.reduceToNat, Nat.reduceMul, Nat.reduceBEq, c106]

theorem loop74 (nl : Bool) (l : List Int) (hlen : l.length < 1000) (t : Int) (m : Nat) (hm : m ≤ l.length) (hlt : ∀ i (h : i < l.length), l[i] < t ↔ i < m) (i : Nat) (j : Nat) (hok : i ≤ m ∧ m ≤ j ∧ j ≤ l.length) (env : Env) (st : St)
    (hg : gcAV true 0 0 (canon env [0, 1, 6, 7, 8]) st = ([(0, sl 1 nl (l.map I)), (1, I t), (6, I l.length), (7, I i), (8, I j)], ⟨[], []⟩)) :
    ∃ x_1 en s, lim (headed pure (run L) true [0, 1, 6, 7, 8] lp74_0 0 0) env st = some (x_1, en, s) ∧ (x_1 = .exit 0 ∧ en.get 0 = sl 1 nl (l.map I) ∧ en.get 1 = I t ∧ en.get 6 = I l.length ∧ en.get 7 = I m) := by
  refine loop_wp (α := Nat × Nat) (fun ⟨i, j⟩ => j - i) (fun ⟨i, j⟩ => i ≤ m ∧ m ≤ j ∧ j ≤ l.length) (fun ⟨i, j⟩ => ([(0, sl 1 nl (l.map I)), (1, I t), (6, I l.length), (7, I i), (8, I j)], ⟨[], []⟩)) (fun ⟨i, j⟩ x_1 en s => x_1 = .exit 0 ∧ en.get 0 = sl 1 nl (l.map I) ∧ en.get 1 = I t ∧ en.get 6 = I l.length ∧ en.get 7 = I m) (fun ⟨i, j⟩ hok => ?_) ⟨i, j⟩ hok env st hg
  simp only at hok
  by_cases q : (i : Int) < (j : Int)
  · have w1 := wrap64 ((i : Int) + j) (by omega) (by omega)
    have w2 : IntKind.u64.wrap ((i : Int) + j) = (i : Int) + j := by simp [IntKind.wrap, IntKind.bits, IntKind.signed]; omega
    have w3 : Int.fdiv ((i : Int) + j) (2 ^ (min (1 : Nat) 64)) = (((i + j) / 2 : Nat) : Int) := by
      have : (2 : Int) ^ (min (1 : Nat) 64) = 2 := rfl
      rw [this, Int.fdiv_eq_ediv_of_nonneg _ (by omega)]; omega
    have w4 := wrap64 (((i + j) / 2 : Nat) : Int) (by omega) (by omega)
    have w5 := succ64 ((i + j) / 2) (by omega)
    have hx := index_ints nl l ((i + j) / 2) (by omega)
    have hl := hlt ((i + j) / 2) (by omega)
    by_cases p : l[(i + j) / 2]'(by omega) < t
    · simp only [go_sem, reduceIte, Nat.reduceEqDiff, Nat.reduceAdd, Nat.reduceSub, Nat.reduceLeDiff, Nat.reduceLT, reduceCtorEq, Int.reduceLT, Int.reduceLE, Int.reduceEq, Int.reduceBEq, Int.reduceSub, Int.reduceAdd, Int.reduceMul, Int.reduceNeg, Int.reduceToNat, Nat.reduceMul, Nat.reduceBEq, index_rsl_if, setm, make_ints, condK_dec, wantK_dec, not_dec, and_dec, or_dec, seqK_ite, seqK_none, blockK_ite, blockK_none, opsK_ite, opsK_none, stepK_ite, stepK_none, bodyK_ite, bodyK_none, resK_ite, resK_none, leaveK_ite, leaveK_none, only_ite, only_none, bind_ite, gives_some, gives_none, gives_ite, then_normal, then_ret, then_exit, then_none, then_ite, Option.bind_none, Bool.not_eq_true', decide_eq_false_iff_not, Bool.and_eq_true, Bool.or_eq_true, Option.some.injEq, Int.not_lt, Int.not_le, lp74_0, q, w1, w2, w3, w4, w5, hx, c94, p, show Int.toNat 1 = 1 from rfl]
      refine ⟨((i + j) / 2 + 1, j), by simp only [go_sem, reduceIte, Nat.reduceEqDiff, Nat.reduceAdd, Nat.reduceSub, Nat.reduceLeDiff, Nat.reduceLT, reduceCtorEq, Int.reduceLT, Int.reduceLE, Int.reduceEq, Int.reduceBEq, Int.reduceSub, Int.reduceAdd, Int.reduceMul, Int.reduceNeg, Int.reduceToNat, Nat.reduceMul, Nat.reduceBEq, ren1_locm, loc_tips, locT_eq] <;> rfl, ?_, ?_, fun x en s hq => ?_⟩
      · simp only; omega
      · simp only; omega
      · exact hq
    · simp only [go_sem, reduceIte, Nat.reduceEqDiff, Nat.reduceAdd, Nat.reduceSub, Nat.reduceLeDiff, Nat.reduceLT, reduceCtorEq, Int.reduceLT, Int.reduceLE, Int.reduceEq, Int.reduceBEq, Int.reduceSub, Int.reduceAdd, Int.reduceMul, Int.reduceNeg, Int.reduceToNat, Nat.reduceMul, Nat.reduceBEq, index_rsl_if, setm, make_ints, condK_dec, wantK_dec, not_dec, and_dec, or_dec, seqK_ite, seqK_none, blockK_ite, blockK_none, opsK_ite, opsK_none, stepK_ite, stepK_none, bodyK_ite, bodyK_none, resK_ite, resK_none, leaveK_ite, leaveK_none, only_ite, only_none, bind_ite, gives_some, gives_none, gives_ite, then_normal, then_ret, then_exit, then_none, then_ite, Option.bind_none, Bool.not_eq_true', decide_eq_false_iff_not, Bool.and_eq_true, Bool.or_eq_true, Option.some.injEq, Int.not_lt, Int.not_le, lp74_0, q, w1, w2, w3, w4, w5, hx, c94, p, show Int.toNat 1 = 1 from rfl]
      refine ⟨(i, (i + j) / 2), by simp only [go_sem, reduceIte, Nat.reduceEqDiff, Nat.reduceAdd, Nat.reduceSub, Nat.reduceLeDiff, Nat.reduceLT, reduceCtorEq, Int.reduceLT, Int.reduceLE, Int.reduceEq, Int.reduceBEq, Int.reduceSub, Int.reduceAdd, Int.reduceMul, Int.reduceNeg, Int.reduceToNat, Nat.reduceMul, Nat.reduceBEq, ren1_locm, loc_tips, locT_eq] <;> rfl, ?_, ?_, fun x en s hq => ?_⟩
      · simp only; omega
      · simp only; omega
      · exact hq
  · obtain rfl : i = m := by omega
    simp only [go_sem, reduceIte, Nat.reduceEqDiff, Nat.reduceAdd, Nat.reduceSub, Nat.reduceLeDiff, Nat.reduceLT, reduceCtorEq, Int.reduceLT, Int.reduceLE, Int.reduceEq, Int.reduceBEq, Int.reduceSub, Int.reduceAdd, Int.reduceMul, Int.reduceNeg, Int.reduceToNat, Nat.reduceMul, Nat.reduceBEq, index_rsl_if, setm, make_ints, condK_dec, wantK_dec, not_dec, and_dec, or_dec, seqK_ite, seqK_none, blockK_ite, blockK_none, opsK_ite, opsK_none, stepK_ite, stepK_none, bodyK_ite, bodyK_none, resK_ite, resK_none, leaveK_ite, leaveK_none, only_ite, only_none, bind_ite, gives_some, gives_none, gives_ite, then_normal, then_ret, then_exit, then_none, then_ite, Option.bind_none, Bool.not_eq_true', decide_eq_false_iff_not, Bool.and_eq_true, Bool.or_eq_true, Option.some.injEq, Int.not_lt, Int.not_le, lp74_0, q]

theorem c74 (nl : Bool) (l : List Int) (hlen : l.length < 1000) (t : Int) (m : Nat) (hm : m < l.length) (hlt : ∀ i (h : i < l.length), l[i] < t ↔ i < m) (st : St) :
    run L 74 [sl 1 nl (l.map I), I t] st = some (.tup [I m, B (decide (l[m] = t))], st) := by
  rw [run_pure (fn := ir74) rfl rfl]
  simp only [ir74, go_sem, reduceIte, Nat.reduceEqDiff, Nat.reduceAdd, Nat.reduceSub, Nat.reduceLeDiff, Nat.reduceLT, reduceCtorEq, Int.reduceLT, Int.reduceLE, Int.reduceEq, Int.reduceBEq, Int.reduceSub, Int.reduceAdd, Int.reduceMul, Int.reduceNeg, Int.reduceToNat, Nat.reduceMul, Nat.reduceBEq, List.length_map]
  generalize hg : lim (headed pure (run L) true _ lp74_0 _ _) _ _ = o
  obtain ⟨x, en, s, rfl, h2⟩ : ∃ x en s, o = some (x, en, s) ∧ _ := by rw [← hg]; exact loop74 nl l hlen t m (by omega) hlt 0 l.length ⟨by omega, by omega, by omega⟩ _ _ (by simp only [go_sem, reduceIte, Nat.reduceEqDiff, Nat.reduceAdd, Nat.reduceSub, Nat.reduceLeDiff, Nat.reduceLT, reduceCtorEq, Int.reduceLT, Int.reduceLE, Int.reduceEq, Int.reduceBEq, Int.reduceSub, Int.reduceAdd, Int.reduceMul, Int.reduceNeg, Int.reduceToNat, Nat.reduceMul, Nat.reduceBEq] <;> rfl)
  clear hg
  obtain ⟨rfl, h3, h4, h5, h6⟩ := h2
  have hx := index_ints nl l m hm
  have q : ((m : Int) < (l.length : Int)) = True := eq_true (by omega)
  by_cases p : l[m] = t
  · simp only [go_sem, reduceIte, Nat.reduceEqDiff, Nat.reduceAdd, Nat.reduceSub, Nat.reduceLeDiff, Nat.reduceLT, reduceCtorEq, Int.reduceLT, Int.reduceLE, Int.reduceEq, Int.reduceBEq, Int.reduceSub, Int.reduceAdd, Int.reduceMul, Int.reduceNeg, Int.reduceToNat, Nat.reduceMul, Nat.reduceBEq, h3, h4, h5, h6, hx, q, p, c95]
  · simp only [go_sem, reduceIte, Nat.reduceEqDiff, Nat.reduceAdd, Nat.reduceSub, Nat.reduceLeDiff, Nat.reduceLT, reduceCtorEq, Int.reduceLT, Int.reduceLE, Int.reduceEq, Int.reduceBEq, Int.reduceSub, Int.reduceAdd, Int.reduceMul, Int.reduceNeg, Int.reduceToNat, Nat.reduceMul, Nat.reduceBEq, h3, h4, h5, h6, hx, q, p, c95]

/-- The volume in which an article is. -/
def volOf (ends : List Int) (a : Int) : Nat := (ends.takeWhile (fun e => decide (e ≤ a))).length

theorem loopErr_cons {n last e : Int} {r : List Int} (h : loopErr n last (e :: r) = 0) : 1 ≤ e ∧ e ≤ n ∧ last < e ∧ loopErr n e r = 0 := by
  simp only [loopErr] at h
  split at h
  · omega
  · split at h
    · omega
    · exact ⟨by omega, by omega, by omega, h⟩
theorem loopErr_gt {n : Int} : ∀ {last : Int} {ends : List Int}, loopErr n last ends = 0 → ∀ e ∈ ends, last < e
  | _, [], _, e, he => by simp at he
  | last, x :: r, h, e, he => by
    obtain ⟨_, _, h3, h4⟩ := loopErr_cons h
    rcases List.mem_cons.1 he with rfl | he
    · exact h3
    · have := loopErr_gt h4 e he; omega
theorem volOf_iff {n : Int} {a : Int} : ∀ {last : Int} {ends : List Int}, loopErr n last ends = 0 → ∀ i (h : i < ends.length), ends[i] ≤ a ↔ i < volOf ends a
  | _, [], _, i, h => by simp at h
  | last, x :: r, h, i, hi => by
    obtain ⟨_, _, h3, h4⟩ := loopErr_cons h
    have ih := volOf_iff (a := a) h4
    unfold volOf at ih ⊢
    by_cases hx : x ≤ a
    · simp only [List.takeWhile_cons, hx, decide_true, if_true, List.length_cons]
      cases i with
      | zero => simp [hx]
      | succ i => simp only [List.getElem_cons_succ]; rw [ih i (by simpa using hi)]; omega
    · simp only [List.takeWhile_cons, hx, decide_false, Bool.false_eq_true, if_false, List.length_nil]
      cases i with
      | zero => simp [hx]
      | succ i =>
        have hi' : i < r.length := by simpa using hi
        have := loopErr_gt h4 r[i] (List.getElem_mem hi')
        simp only [List.getElem_cons_succ]; omega
theorem volOf_lt {n : Int} {ends : List Int} {a : Int} (h : loopErr n 0 ends = 0) (hl : beginOf ends ends.length = n) (ha : 0 ≤ a ∧ a < n) : volOf ends a < ends.length := by
  have h1 : 0 < ends.length := by
    rcases Nat.eq_zero_or_pos ends.length with h0 | h0
    · rw [h0] at hl; simp [beginOf] at hl; omega
    · exact h0
  have h2 := volOf_iff (a := a) h (ends.length - 1) (by omega)
  have h3 := beginOf_succ ends (ends.length - 1) (by omega)
  rw [show ends.length - 1 + 1 = ends.length by omega, hl] at h3
  rw [← h3] at h2
  have h4 : (ends.takeWhile (fun e => decide (e ≤ a))).length ≤ ends.length := (List.takeWhile_prefix _).length_le
  unfold volOf at h2 ⊢
  omega

def limitV (arts : List (Int × Int)) (room floor : Int) (ends : List Int) (a : Int) : Int × Int :=
  if cutErr arts room floor ends = 0 then
    if a < 0 ∨ (arts.length : Int) ≤ a then (0, 2)
    else (room - seg (mosts arts) (beginOf ends (volOf ends a)) (ends.getD (volOf ends a) 0) + (arts.getD a.toNat (0, 0)).2, 0)
  else (0, cutErr arts room floor ends)

theorem c23 (nl n2 : Bool) (arts : List (Int × Int)) (room floor : Int) (ends : List Int) (hlen : ends.length < 1000) (a : Int) (st : St) :
    run L 23 [bookAV nl arts room floor, sl 1 n2 (ends.map I), I a] st = some (two (limitV arts room floor ends a), st) := by
  rw [run_pure (fn := ir23) rfl rfl]
  have hc := fun st => c65 nl n2 arts room floor ends hlen st
  unfold limitV
  by_cases p0 : cutErr arts room floor ends = 0
  · rw [if_pos p0]
    obtain ⟨q0, q1, q2, q3⟩ := cutErr_zero p0
    obtain ⟨g1, g2, g3, g4⟩ := mosts_ok q0
    obtain ⟨_, _, k3, k4, k5, k6, k7⟩ := check_zero q0
    by_cases p1 : a < 0
    · rw [if_pos (.inl p1)]
      simp only [ir23, go_sem, reduceIte, Nat.reduceEqDiff, Nat.reduceAdd, Nat.reduceSub, Nat.reduceLeDiff, Nat.reduceLT, reduceCtorEq, Int.reduceLT, Int.reduceLE, Int.reduceEq, Int.reduceBEq, Int.reduceSub, Int.reduceAdd, Int.reduceMul, Int.reduceNeg, Int.reduceToNat, Nat.reduceMul, Nat.reduceBEq, hc, p0, p1]
    · by_cases p2 : (arts.length : Int) ≤ a
      · rw [if_pos (.inr p2)]
        simp only [ir23, go_sem, reduceIte, Nat.reduceEqDiff, Nat.reduceAdd, Nat.reduceSub, Nat.reduceLeDiff, Nat.reduceLT, reduceCtorEq, Int.reduceLT, Int.reduceLE, Int.reduceEq, Int.reduceBEq, Int.reduceSub, Int.reduceAdd, Int.reduceMul, Int.reduceNeg, Int.reduceToNat, Nat.reduceMul, Nat.reduceBEq, hc, p0, p1, p2, List.length_map]
      · rw [if_neg (by omega)]
        have hv := volOf_lt q1 q3 (a := a) (by omega)
        have hi := volOf_iff (a := a) q1
        have h75 := fun st => cmost nl q0 st
        have hw := wrap64 (a + 1) (by omega) (by omega)
        generalize volOf ends a = m at *
        have h74 := fun st => c74 n2 ends hlen (a + 1) m hv (fun i h => by rw [← hi i h]; omega) st
        have hx := index_ints n2 ends m hv
        have hasc := ends_asc q1 m hv
        have hb0 := begin_nonneg q1 m (by omega)
        have h76 := fun st => c76' false (mosts arts) g1 (beginOf ends m) ends[m] hb0 (by omega) (by omega) (by omega) st
        have hxa := index_arts nl arts a.toNat (by omega)
        rw [show ((a.toNat : Nat) : Int) = a by omega] at hxa
        have hseg := seg_sums (·.2) arts (beginOf ends m) ends[m] hb0 (by omega) hasc.2
        have hsb := sumSeg_bound (·.2) arts (fun x hx => by have := k3 x hx; omega) (beginOf ends m).toNat (ends[m]).toNat
        have ha2 := k3 _ (List.getElem_mem (show a.toNat < arts.length by omega))
        have hwa := wrap64 (room - seg (mosts arts) (beginOf ends m) ends[m]) (by rw [hseg]; omega) (by rw [hseg]; omega)
        have hwb := wrap64 (room - seg (mosts arts) (beginOf ends m) ends[m] + arts[a.toNat].2) (by rw [hseg]; omega) (by rw [hseg]; omega)
        have hga : arts.getD a.toNat (0, 0) = arts[a.toNat]'(by omega) := by simp [List.getD_eq_getElem?_getD, List.getElem?_eq_getElem (show a.toNat < arts.length by omega)]
        have hge : ends.getD m 0 = ends[m] := by simp [List.getD_eq_getElem?_getD, List.getElem?_eq_getElem hv]
        rw [hga, hge]
        by_cases p3 : (0 : Int) < (m : Int)
        · have hw3 : IntKind.i64.wrap ((m : Int) - 1) = ((m - 1 : Nat) : Int) := by rw [wrap64] <;> omega
          have hx3 := index_ints n2 ends (m - 1) (by omega)
          have hb3 : ends[m - 1]'(by omega) = beginOf ends m := by
            have := beginOf_succ ends (m - 1) (by omega)
            rw [← this]; congr 1; omega
          rw [hb3] at hx3
          simp only [ir23, go_sem, reduceIte, Nat.reduceEqDiff, Nat.reduceAdd, Nat.reduceSub, Nat.reduceLeDiff, Nat.reduceLT, reduceCtorEq, Int.reduceLT, Int.reduceLE, Int.reduceEq, Int.reduceBEq, Int.reduceSub, Int.reduceAdd, Int.reduceMul, Int.reduceNeg, Int.reduceToNat, Nat.reduceMul, Nat.reduceBEq, hc, p0, p1, p2, p3, h74, hw, hw3, hx, hx3, h75, h76, hxa, hwa, hwb, List.length_map]
        · have hb3 : beginOf ends m = 0 := by
            have : m = 0 := by omega
            subst this; rfl
          rw [hb3] at h76 hwa hwb ⊢
          simp only [ir23, go_sem, reduceIte, Nat.reduceEqDiff, Nat.reduceAdd, Nat.reduceSub, Nat.reduceLeDiff, Nat.reduceLT, reduceCtorEq, Int.reduceLT, Int.reduceLE, Int.reduceEq, Int.reduceBEq, Int.reduceSub, Int.reduceAdd, Int.reduceMul, Int.reduceNeg, Int.reduceToNat, Nat.reduceMul, Nat.reduceBEq, hc, p0, p1, p2, p3, h74, hw, hx, h75, h76, hxa, hwa, hwb, List.length_map]
  · rw [if_neg p0]
    simp only [ir23, go_sem, reduceIte, Nat.reduceEqDiff, Nat.reduceAdd, Nat.reduceSub, Nat.reduceLeDiff, Nat.reduceLT, reduceCtorEq, Int.reduceLT, Int.reduceLE, Int.reduceEq, Int.reduceBEq, Int.reduceSub, Int.reduceAdd, Int.reduceMul, Int.reduceNeg, Int.reduceToNat, Nat.reduceMul, Nat.reduceBEq, hc, p0]


theorem loop24 (nl n2 : Bool) (arts : List (Int × Int)) (room floor : Int) (ends : List Int) (hlen : ends.length < 1000) (a : Int) (m : Nat) (hm : m < ends.length) (hi : ∀ i (h : i < ends.length), ends[i] ≤ a ↔ i < m) (i : Nat) (hok : i ≤ m) (env : Env) (st : St)
    (hg : gcAV true 1 0 (canon env [1, 2, 3, 9]) st = ([(1, sl 1 n2 (ends.map I)), (2, I a), (3, .ptr 0 0), (9, I i)], ⟨[bookCells nl arts room floor], []⟩)) :
    ∃ x_1 en s, lim (headed pure (run L) true [1, 2, 3, 9] lp24_0 1 0) env st = some (x_1, en, s) ∧ (x_1 = .exit 0 ∧ en.get 1 = sl 1 n2 (ends.map I) ∧ en.get 2 = I a ∧ en.get 3 = .ptr 0 0 ∧ en.get 9 = I m ∧ s = ⟨[bookCells nl arts room floor], []⟩) := by
  refine loop_wp (α := Nat) (fun i => m - i) (fun i => i ≤ m) (fun i => ([(1, sl 1 n2 (ends.map I)), (2, I a), (3, .ptr 0 0), (9, I i)], ⟨[bookCells nl arts room floor], []⟩)) (fun i x_1 en s => x_1 = .exit 0 ∧ en.get 1 = sl 1 n2 (ends.map I) ∧ en.get 2 = I a ∧ en.get 3 = .ptr 0 0 ∧ en.get 9 = I m ∧ s = ⟨[bookCells nl arts room floor], []⟩) (fun i hok => ?_) i hok env st hg
  have hx := index_ints n2 ends i (by omega)
  have hs := succ64 i (by omega)
  have h1 := hi i (by omega)
  by_cases p : ends[i]'(by omega) ≤ a
  · simp only [go_sem, reduceIte, Nat.reduceEqDiff, Nat.reduceAdd, Nat.reduceSub, Nat.reduceLeDiff, Nat.reduceLT, reduceCtorEq, Int.reduceLT, Int.reduceLE, Int.reduceEq, Int.reduceBEq, Int.reduceSub, Int.reduceAdd, Int.reduceMul, Int.reduceNeg, Int.reduceToNat, Nat.reduceMul, Nat.reduceBEq, index_rsl_if, setm, make_ints, condK_dec, wantK_dec, not_dec, and_dec, or_dec, seqK_ite, seqK_none, blockK_ite, blockK_none, opsK_ite, opsK_none, stepK_ite, stepK_none, bodyK_ite, bodyK_none, resK_ite, resK_none, leaveK_ite, leaveK_none, only_ite, only_none, bind_ite, gives_some, gives_none, gives_ite, then_normal, then_ret, then_exit, then_none, then_ite, Option.bind_none, Bool.not_eq_true', decide_eq_false_iff_not, Bool.and_eq_true, Bool.or_eq_true, Option.some.injEq, Int.not_lt, Int.not_le, lp24_0, hx, p, hs]
    refine ⟨i + 1, by simp only [go_sem, reduceIte, Nat.reduceEqDiff, Nat.reduceAdd, Nat.reduceSub, Nat.reduceLeDiff, Nat.reduceLT, reduceCtorEq, Int.reduceLT, Int.reduceLE, Int.reduceEq, Int.reduceBEq, Int.reduceSub, Int.reduceAdd, Int.reduceMul, Int.reduceNeg, Int.reduceToNat, Nat.reduceMul, Nat.reduceBEq, ren1_locm, loc_tips, locT_eq] <;> rfl, ?_, ?_, fun x en s hq => ?_⟩
    · omega
    · omega
    · exact hq
  · obtain rfl : i = m := by omega
    simp only [go_sem, reduceIte, Nat.reduceEqDiff, Nat.reduceAdd, Nat.reduceSub, Nat.reduceLeDiff, Nat.reduceLT, reduceCtorEq, Int.reduceLT, Int.reduceLE, Int.reduceEq, Int.reduceBEq, Int.reduceSub, Int.reduceAdd, Int.reduceMul, Int.reduceNeg, Int.reduceToNat, Nat.reduceMul, Nat.reduceBEq, index_rsl_if, setm, make_ints, condK_dec, wantK_dec, not_dec, and_dec, or_dec, seqK_ite, seqK_none, blockK_ite, blockK_none, opsK_ite, opsK_none, stepK_ite, stepK_none, bodyK_ite, bodyK_none, resK_ite, resK_none, leaveK_ite, leaveK_none, only_ite, only_none, bind_ite, gives_some, gives_none, gives_ite, then_normal, then_ret, then_exit, then_none, then_ite, Option.bind_none, Bool.not_eq_true', decide_eq_false_iff_not, Bool.and_eq_true, Bool.or_eq_true, Option.some.injEq, Int.not_lt, Int.not_le, lp24_0, hx, p]

theorem c24 (nl n2 : Bool) (arts : List (Int × Int)) (room floor : Int) (ends : List Int) (hlen : ends.length < 1000) (a : Int) (st : St) :
    run L 24 [bookAV nl arts room floor, sl 1 n2 (ends.map I), I a] st = some (two (limitV arts room floor ends a), st) := by
  rw [run_pure (fn := ir24) rfl rfl]
  have hc := fun st => c69 nl n2 arts room floor ends hlen st
  unfold limitV
  by_cases p0 : cutErr arts room floor ends = 0
  · rw [if_pos p0]
    obtain ⟨q0, q1, q2, q3⟩ := cutErr_zero p0
    obtain ⟨g1, g2, g3, g4⟩ := mosts_ok q0
    obtain ⟨_, _, k3, k4, k5, k6, k7⟩ := check_zero q0
    have hwl : IntKind.i64.wrap ((arts.length : Int) - 1) = (arts.length : Int) - 1 := by rw [wrap64] <;> omega
    by_cases p1 : 0 ≤ a ∧ a ≤ (arts.length : Int) - 1
    · rw [if_neg (by omega)]
      have hv := volOf_lt q1 q3 (a := a) (by omega)
      have hi := volOf_iff (a := a) q1
      have hw := wrap64 (a + 1) (by omega) (by omega)
      generalize volOf ends a = m at *
      have hx := index_ints n2 ends m hv
      have hasc := ends_asc q1 m hv
      have hb0 := begin_nonneg q1 m (by omega)
      have hge : ends.getD m 0 = ends[m] := by simp [List.getD_eq_getElem?_getD, List.getElem?_eq_getElem hv]
      have hga : arts.getD a.toNat (0, 0) = arts[a.toNat]'(by omega) := by simp [List.getD_eq_getElem?_getD, List.getElem?_eq_getElem (show a.toNat < arts.length by omega)]
      have hba : beginOf ends m ≤ a := by
        cases m with
        | zero => simp [beginOf]; omega
        | succ m =>
          rw [beginOf_succ ends m (by omega)]
          exact (hi m (by omega)).2 (by omega)
      have hae : a < ends[m] := by have := hi m hv; omega
      have h73 := fun st => c73 n2 ends m (by omega) hlen st
      have h781 := fun st => c78' nl arts room floor q0 (beginOf ends m) a hb0 hba (by omega) st
      have h782 := fun st => c78' nl arts room floor q0 (a + 1) ends[m] (by omega) (by omega) hasc.2 st
      have ha2 := k3 _ (List.getElem_mem (show a.toNat < arts.length by omega))
      have s1 := seg_sums (·.2) arts (beginOf ends m) a hb0 (by omega) (by omega)
      have s2 := seg_sums (·.2) arts (a + 1) ends[m] (by omega) (by omega) hasc.2
      have b1 := sumSeg_bound (·.2) arts (fun x hx => by have := k3 x hx; omega) (beginOf ends m).toNat a.toNat
      have b2 := sumSeg_bound (·.2) arts (fun x hx => by have := k3 x hx; omega) (a + 1).toNat (ends[m]).toNat
      have s3 := seg_sums (·.2) arts a ends[m] (by omega) (by omega) hasc.2
      rw [sumSeg_step (·.2) arts a.toNat (ends[m]).toNat (by omega) (by omega)] at s3
      have e1 : seg (mosts arts) (beginOf ends m) ends[m] = seg (mosts arts) (beginOf ends m) a + seg (mosts arts) a ends[m] := by unfold seg; omega
      have e2 : (a + 1).toNat = a.toNat + 1 := by omega
      rw [e2] at s2
      have e3 : room - seg (mosts arts) (beginOf ends m) a - seg (mosts arts) (a + 1) ends[m] = room - seg (mosts arts) (beginOf ends m) ends[m] + arts[a.toNat].2 := by
        simp only [mosts] at *; omega
      have w1 := wrap64 (room - seg (mosts arts) (beginOf ends m) a) (by simp only [mosts] at *; omega) (by simp only [mosts] at *; omega)
      have w2 := wrap64 (room - seg (mosts arts) (beginOf ends m) a - seg (mosts arts) (a + 1) ends[m]) (by simp only [mosts] at *; rw [e2] at b2; omega) (by simp only [mosts] at *; rw [e2] at b2; omega)
      rw [e3] at w2
      rw [hga, hge]
      simp only [ir24, go_sem, reduceIte, Nat.reduceEqDiff, Nat.reduceAdd, Nat.reduceSub, Nat.reduceLeDiff, Nat.reduceLT, reduceCtorEq, Int.reduceLT, Int.reduceLE, Int.reduceEq, Int.reduceBEq, Int.reduceSub, Int.reduceAdd, Int.reduceMul, Int.reduceNeg, Int.reduceToNat, Nat.reduceMul, Nat.reduceBEq, hc, p0, c77, hwl, p1, List.length_map]
      generalize hg : lim (headed pure (run L) true _ lp24_0 _ _) _ _ = o
      obtain ⟨x, en, s, rfl, h2⟩ : ∃ x en s, o = some (x, en, s) ∧ _ := by rw [← hg]; exact loop24 nl n2 arts room floor ends hlen a m hv hi 0 (Nat.zero_le _) _ _ (by simp only [go_sem, reduceIte, Nat.reduceEqDiff, Nat.reduceAdd, Nat.reduceSub, Nat.reduceLeDiff, Nat.reduceLT, reduceCtorEq, Int.reduceLT, Int.reduceLE, Int.reduceEq, Int.reduceBEq, Int.reduceSub, Int.reduceAdd, Int.reduceMul, Int.reduceNeg, Int.reduceToNat, Nat.reduceMul, Nat.reduceBEq] <;> rfl)
      clear hg
      obtain ⟨rfl, h3, h4, h5, h6, rfl⟩ := h2
      simp only [go_sem, reduceIte, Nat.reduceEqDiff, Nat.reduceAdd, Nat.reduceSub, Nat.reduceLeDiff, Nat.reduceLT, reduceCtorEq, Int.reduceLT, Int.reduceLE, Int.reduceEq, Int.reduceBEq, Int.reduceSub, Int.reduceAdd, Int.reduceMul, Int.reduceNeg, Int.reduceToNat, Nat.reduceMul, Nat.reduceBEq, h3, h4, h5, h6, h73, h781, h782, hw, hx, w1, w2, e3]
    · rw [if_pos (by omega)]
      simp only [ir24, go_sem, reduceIte, Nat.reduceEqDiff, Nat.reduceAdd, Nat.reduceSub, Nat.reduceLeDiff, Nat.reduceLT, reduceCtorEq, Int.reduceLT, Int.reduceLE, Int.reduceEq, Int.reduceBEq, Int.reduceSub, Int.reduceAdd, Int.reduceMul, Int.reduceNeg, Int.reduceToNat, Nat.reduceMul, Nat.reduceBEq, hc, p0, c77, hwl, p1, List.length_map]
  · rw [if_neg p0]
    simp only [ir24, go_sem, reduceIte, Nat.reduceEqDiff, Nat.reduceAdd, Nat.reduceSub, Nat.reduceLeDiff, Nat.reduceLT, reduceCtorEq, Int.reduceLT, Int.reduceLE, Int.reduceEq, Int.reduceBEq, Int.reduceSub, Int.reduceAdd, Int.reduceMul, Int.reduceNeg, Int.reduceToNat, Nat.reduceMul, Nat.reduceBEq, hc, p0]

theorem loop18 (nl : Bool) (arts : List (Int × Int)) (hlen : arts.length < 1000) (room floor : Int) (i : Nat) (hok : i ≤ arts.length) (env : Env) (st : St)
    (hg : gcAV true 3 0 (canon env [1, 2, 3, 4]) st = ([(1, .ptr 0 0), (2, .ptr 1 0), (3, .ptr 2 0), (4, I i)], ⟨[bookCells nl arts room floor, [.v (.slice none 0 0), I 0, I 0], [loc 2 0 ((arts.take i).map artAV), I room, I floor]], locT 0 ((arts.take i).map artAV)⟩)) :
    ∃ x_1 en s, lim (headed pure (run L) true [1, 2, 3, 4] lp18_0 3 0) env st = some (x_1, en, s) ∧ (x_1 = .exit 0 ∧ en.get 2 = .ptr 1 0 ∧ en.get 3 = .ptr 2 0 ∧ s.store = [bookCells nl arts room floor, [.v (.slice none 0 0), I 0, I 0], [loc 2 0 (arts.map artAV), I room, I floor]]) := by
  refine loop_wp (α := Nat) (fun i => arts.length - i) (fun i => i ≤ arts.length) (fun i => ([(1, .ptr 0 0), (2, .ptr 1 0), (3, .ptr 2 0), (4, I i)], ⟨[bookCells nl arts room floor, [.v (.slice none 0 0), I 0, I 0], [loc 2 0 ((arts.take i).map artAV), I room, I floor]], locT 0 ((arts.take i).map artAV)⟩)) (fun i x_1 en s => x_1 = .exit 0 ∧ en.get 2 = .ptr 1 0 ∧ en.get 3 = .ptr 2 0 ∧ s.store = [bookCells nl arts room floor, [.v (.slice none 0 0), I 0, I 0], [loc 2 0 (arts.map artAV), I room, I floor]]) (fun i hok => ?_) i hok env st hg
  by_cases q : (i : Int) < (arts.length : Int)
  · have hx := index_arts nl arts i (by omega)
    have hs := succ64 i (by omega)
    have happ := append_locm (z := 2) (k := 0) artAV (arts.take i) (arts[i]'(by omega)) [bookCells nl arts room floor, [.v (.slice none 0 0), I 0, I 0], [loc 2 0 ((arts.take i).map artAV), I room, I floor]] (by omega) (by simp [maxGrow]; omega)
    have htk : arts.take i ++ [arts[i]'(by omega)] = arts.take (i + 1) := List.take_append_getElem _
    rw [htk] at happ
    simp only [go_sem, reduceIte, Nat.reduceEqDiff, Nat.reduceAdd, Nat.reduceSub, Nat.reduceLeDiff, Nat.reduceLT, reduceCtorEq, Int.reduceLT, Int.reduceLE, Int.reduceEq, Int.reduceBEq, Int.reduceSub, Int.reduceAdd, Int.reduceMul, Int.reduceNeg, Int.reduceToNat, Nat.reduceMul, Nat.reduceBEq, index_rsl_if, setm, make_ints, condK_dec, wantK_dec, not_dec, and_dec, or_dec, seqK_ite, seqK_none, blockK_ite, blockK_none, opsK_ite, opsK_none, stepK_ite, stepK_none, bodyK_ite, bodyK_none, resK_ite, resK_none, leaveK_ite, leaveK_none, only_ite, only_none, bind_ite, gives_some, gives_none, gives_ite, then_normal, then_ret, then_exit, then_none, then_ite, Option.bind_none, Bool.not_eq_true', decide_eq_false_iff_not, Bool.and_eq_true, Bool.or_eq_true, Option.some.injEq, Int.not_lt, Int.not_le, lp18_0, q, hx, hs, happ, List.length_map]
    refine ⟨i + 1, by simp only [go_sem, reduceIte, Nat.reduceEqDiff, Nat.reduceAdd, Nat.reduceSub, Nat.reduceLeDiff, Nat.reduceLT, reduceCtorEq, Int.reduceLT, Int.reduceLE, Int.reduceEq, Int.reduceBEq, Int.reduceSub, Int.reduceAdd, Int.reduceMul, Int.reduceNeg, Int.reduceToNat, Nat.reduceMul, Nat.reduceBEq, ren1_locm, loc_tips, locT_eq] <;> rfl, ?_, ?_, fun x en s hq => ?_⟩
    · omega
    · omega
    · exact hq
  · have htk : arts.take i = arts := List.take_of_length_le (by omega)
    simp only [go_sem, reduceIte, Nat.reduceEqDiff, Nat.reduceAdd, Nat.reduceSub, Nat.reduceLeDiff, Nat.reduceLT, reduceCtorEq, Int.reduceLT, Int.reduceLE, Int.reduceEq, Int.reduceBEq, Int.reduceSub, Int.reduceAdd, Int.reduceMul, Int.reduceNeg, Int.reduceToNat, Nat.reduceMul, Nat.reduceBEq, index_rsl_if, setm, make_ints, condK_dec, wantK_dec, not_dec, and_dec, or_dec, seqK_ite, seqK_none, blockK_ite, blockK_none, opsK_ite, opsK_none, stepK_ite, stepK_none, bodyK_ite, bodyK_none, resK_ite, resK_none, leaveK_ite, leaveK_none, only_ite, only_none, bind_ite, gives_some, gives_none, gives_ite, then_normal, then_ret, then_exit, then_none, then_ite, Option.bind_none, Bool.not_eq_true', decide_eq_false_iff_not, Bool.and_eq_true, Bool.or_eq_true, Option.some.injEq, Int.not_lt, Int.not_le, lp18_0, q, List.length_map, htk]

theorem c18 (nl : Bool) (arts : List (Int × Int)) (hlen : arts.length < 1000) (room floor : Int) (st : St) :
    run L 18 [bookAV nl arts room floor] st = some (bookAV true arts room floor, st) := by
  rw [run_pure (fn := ir18) rfl rfl]
  simp only [ir18, go_sem, reduceIte, Nat.reduceEqDiff, Nat.reduceAdd, Nat.reduceSub, Nat.reduceLeDiff, Nat.reduceLT, reduceCtorEq, Int.reduceLT, Int.reduceLE, Int.reduceEq, Int.reduceBEq, Int.reduceSub, Int.reduceAdd, Int.reduceMul, Int.reduceNeg, Int.reduceToNat, Nat.reduceMul, Nat.reduceBEq]
  generalize hg : lim (headed pure (run L) true _ lp18_0 _ _) _ _ = o
  obtain ⟨x, en, s, rfl, h2⟩ : ∃ x en s, o = some (x, en, s) ∧ _ := by rw [← hg]; exact loop18 nl arts hlen room floor 0 (Nat.zero_le _) _ _ (by simp only [go_sem, reduceIte, Nat.reduceEqDiff, Nat.reduceAdd, Nat.reduceSub, Nat.reduceLeDiff, Nat.reduceLT, reduceCtorEq, Int.reduceLT, Int.reduceLE, Int.reduceEq, Int.reduceBEq, Int.reduceSub, Int.reduceAdd, Int.reduceMul, Int.reduceNeg, Int.reduceToNat, Nat.reduceMul, Nat.reduceBEq, List.take_zero, loc_start, locT] <;> rfl)
  clear hg
  obtain ⟨rfl, h3, h4, h5⟩ := h2
  obtain ⟨s1, s2⟩ := s
  simp only at h5
  subst h5
  simp only [go_sem, reduceIte, Nat.reduceEqDiff, Nat.reduceAdd, Nat.reduceSub, Nat.reduceLeDiff, Nat.reduceLT, reduceCtorEq, Int.reduceLT, Int.reduceLE, Int.reduceEq, Int.reduceBEq, Int.reduceSub, Int.reduceAdd, Int.reduceMul, Int.reduceNeg, Int.reduceToNat, Nat.reduceMul, Nat.reduceBEq, h3, h4]

theorem loop35 (n1 n2 : Bool) (a b : List Int) (hlen : a.length = b.length) (hl : a.length < 1000000) (i : Nat) (hok : i ≤ a.length) (env : Env) (st : St)
    (hg : gcAV true 0 0 (canon env [0, 1, 5]) st = ([(0, sl 1 n1 (a.map I)), (1, sl 1 n2 (b.map I)), (5, I i)], ⟨[], []⟩)) :
    ∃ x_1 en s, lim (headed pure (run L) true [0, 1, 5] lp35_0 0 0) env st = some (x_1, en, s) ∧ (if a.drop i = b.drop i then x_1 = .exit 0 else x_1 = .ret ∧ en.get 4 = B false) := by
  refine loop_wp (α := Nat) (fun i => a.length - i) (fun i => i ≤ a.length) (fun i => ([(0, sl 1 n1 (a.map I)), (1, sl 1 n2 (b.map I)), (5, I i)], ⟨[], []⟩)) (fun i x_1 en s => if a.drop i = b.drop i then x_1 = .exit 0 else x_1 = .ret ∧ en.get 4 = B false) (fun i hok => ?_) i hok env st hg
  by_cases q : (i : Int) < (a.length : Int)
  · have hx := index_ints n1 a i (by omega)
    have hy := index_ints n2 b i (by omega)
    have hs := succ64 i (by omega)
    have d1 : a.drop i = a[i]'(by omega) :: a.drop (i + 1) := List.drop_eq_getElem_cons (by omega)
    have d2 : b.drop i = b[i]'(by omega) :: b.drop (i + 1) := List.drop_eq_getElem_cons (by omega)
    rw [d1, d2]
    by_cases p : a[i]'(by omega) = b[i]'(by omega)
    · have heq : (a[i]'(by omega) :: a.drop (i + 1) = b[i]'(by omega) :: b.drop (i + 1)) = (a.drop (i + 1) = b.drop (i + 1)) := by rw [List.cons.injEq, eq_true p, true_and]
      simp only [heq]
      simp only [go_sem, reduceIte, Nat.reduceEqDiff, Nat.reduceAdd, Nat.reduceSub, Nat.reduceLeDiff, Nat.reduceLT, reduceCtorEq, Int.reduceLT, Int.reduceLE, Int.reduceEq, Int.reduceBEq, Int.reduceSub, Int.reduceAdd, Int.reduceMul, Int.reduceNeg, Int.reduceToNat, Nat.reduceMul, Nat.reduceBEq, index_rsl_if, setm, make_ints, condK_dec, wantK_dec, not_dec, and_dec, or_dec, seqK_ite, seqK_none, blockK_ite, blockK_none, opsK_ite, opsK_none, stepK_ite, stepK_none, bodyK_ite, bodyK_none, resK_ite, resK_none, leaveK_ite, leaveK_none, only_ite, only_none, bind_ite, gives_some, gives_none, gives_ite, then_normal, then_ret, then_exit, then_none, then_ite, Option.bind_none, Bool.not_eq_true', decide_eq_false_iff_not, Bool.and_eq_true, Bool.or_eq_true, Option.some.injEq, Int.not_lt, Int.not_le, lp35_0, q, hx, hy, hs, p, List.length_map]
      refine ⟨i + 1, by simp only [go_sem, reduceIte, Nat.reduceEqDiff, Nat.reduceAdd, Nat.reduceSub, Nat.reduceLeDiff, Nat.reduceLT, reduceCtorEq, Int.reduceLT, Int.reduceLE, Int.reduceEq, Int.reduceBEq, Int.reduceSub, Int.reduceAdd, Int.reduceMul, Int.reduceNeg, Int.reduceToNat, Nat.reduceMul, Nat.reduceBEq, ren1_locm, loc_tips, locT_eq] <;> rfl, ?_, ?_, fun x en s hq => ?_⟩
      · omega
      · omega
      · exact hq
    · have hne : (a[i]'(by omega) :: a.drop (i + 1) = b[i]'(by omega) :: b.drop (i + 1)) = False := by rw [List.cons.injEq, eq_false p, false_and]
      simp only [go_sem, reduceIte, Nat.reduceEqDiff, Nat.reduceAdd, Nat.reduceSub, Nat.reduceLeDiff, Nat.reduceLT, reduceCtorEq, Int.reduceLT, Int.reduceLE, Int.reduceEq, Int.reduceBEq, Int.reduceSub, Int.reduceAdd, Int.reduceMul, Int.reduceNeg, Int.reduceToNat, Nat.reduceMul, Nat.reduceBEq, index_rsl_if, setm, make_ints, condK_dec, wantK_dec, not_dec, and_dec, or_dec, seqK_ite, seqK_none, blockK_ite, blockK_none, opsK_ite, opsK_none, stepK_ite, stepK_none, bodyK_ite, bodyK_none, resK_ite, resK_none, leaveK_ite, leaveK_none, only_ite, only_none, bind_ite, gives_some, gives_none, gives_ite, then_normal, then_ret, then_exit, then_none, then_ite, Option.bind_none, Bool.not_eq_true', decide_eq_false_iff_not, Bool.and_eq_true, Bool.or_eq_true, Option.some.injEq, Int.not_lt, Int.not_le, lp35_0, q, hx, hy, hs, p, List.length_map, hne]
  · rw [List.drop_eq_nil_of_le (by omega), List.drop_eq_nil_of_le (by omega)]
    simp only [go_sem, reduceIte, Nat.reduceEqDiff, Nat.reduceAdd, Nat.reduceSub, Nat.reduceLeDiff, Nat.reduceLT, reduceCtorEq, Int.reduceLT, Int.reduceLE, Int.reduceEq, Int.reduceBEq, Int.reduceSub, Int.reduceAdd, Int.reduceMul, Int.reduceNeg, Int.reduceToNat, Nat.reduceMul, Nat.reduceBEq, index_rsl_if, setm, make_ints, condK_dec, wantK_dec, not_dec, and_dec, or_dec, seqK_ite, seqK_none, blockK_ite, blockK_none, opsK_ite, opsK_none, stepK_ite, stepK_none, bodyK_ite, bodyK_none, resK_ite, resK_none, leaveK_ite, leaveK_none, only_ite, only_none, bind_ite, gives_some, gives_none, gives_ite, then_normal, then_ret, then_exit, then_none, then_ite, Option.bind_none, Bool.not_eq_true', decide_eq_false_iff_not, Bool.and_eq_true, Bool.or_eq_true, Option.some.injEq, Int.not_lt, Int.not_le, lp35_0, q, List.length_map]

theorem c35 (n1 n2 : Bool) (a b : List Int) (hl : a.length < 1000000) (st : St) :
    run L 35 [sl 1 n1 (a.map I), sl 1 n2 (b.map I)] st = some (B (decide (a = b)), st) := by
  rw [run_pure (fn := ir35) rfl rfl]
  by_cases q : a.length = b.length
  · have q' : ((a.length : Int) = (b.length : Int)) = True := eq_true (by omega)
    simp only [ir35, go_sem, reduceIte, Nat.reduceEqDiff, Nat.reduceAdd, Nat.reduceSub, Nat.reduceLeDiff, Nat.reduceLT, reduceCtorEq, Int.reduceLT, Int.reduceLE, Int.reduceEq, Int.reduceBEq, Int.reduceSub, Int.reduceAdd, Int.reduceMul, Int.reduceNeg, Int.reduceToNat, Nat.reduceMul, Nat.reduceBEq, q', List.length_map]
    generalize hg : lim (headed pure (run L) true _ lp35_0 _ _) _ _ = o
    obtain ⟨x, en, s, rfl, h2⟩ : ∃ x en s, o = some (x, en, s) ∧ _ := by rw [← hg]; exact loop35 n1 n2 a b q hl 0 (Nat.zero_le _) _ _ (by simp only [go_sem, reduceIte, Nat.reduceEqDiff, Nat.reduceAdd, Nat.reduceSub, Nat.reduceLeDiff, Nat.reduceLT, reduceCtorEq, Int.reduceLT, Int.reduceLE, Int.reduceEq, Int.reduceBEq, Int.reduceSub, Int.reduceAdd, Int.reduceMul, Int.reduceNeg, Int.reduceToNat, Nat.reduceMul, Nat.reduceBEq] <;> rfl)
    clear hg
    simp only [List.drop_zero] at h2
    split at h2
    · next h =>
      subst h2
      simp only [go_sem, reduceIte, Nat.reduceEqDiff, Nat.reduceAdd, Nat.reduceSub, Nat.reduceLeDiff, Nat.reduceLT, reduceCtorEq, Int.reduceLT, Int.reduceLE, Int.reduceEq, Int.reduceBEq, Int.reduceSub, Int.reduceAdd, Int.reduceMul, Int.reduceNeg, Int.reduceToNat, Nat.reduceMul, Nat.reduceBEq, h]
    · next h =>
      obtain ⟨rfl, h3⟩ := h2
      simp only [go_sem, reduceIte, Nat.reduceEqDiff, Nat.reduceAdd, Nat.reduceSub, Nat.reduceLeDiff, Nat.reduceLT, reduceCtorEq, Int.reduceLT, Int.reduceLE, Int.reduceEq, Int.reduceBEq, Int.reduceSub, Int.reduceAdd, Int.reduceMul, Int.reduceNeg, Int.reduceToNat, Nat.reduceMul, Nat.reduceBEq, h, h3]
  · have q' : ((a.length : Int) = (b.length : Int)) = False := eq_false (by omega)
    have h : ¬ a = b := fun h => q (by rw [h])
    simp only [ir35, go_sem, reduceIte, Nat.reduceEqDiff, Nat.reduceAdd, Nat.reduceSub, Nat.reduceLeDiff, Nat.reduceLT, reduceCtorEq, Int.reduceLT, Int.reduceLE, Int.reduceEq, Int.reduceBEq, Int.reduceSub, Int.reduceAdd, Int.reduceMul, Int.reduceNeg, Int.reduceToNat, Nat.reduceMul, Nat.reduceBEq, q', h, List.length_map]


/-- A function that is called with no state answers the same in each state. -/
theorem run_any {f : FuncId} {fn : IF} (hf : L.fns f = some fn) (hp : L.pure f = true) {args : List AV} {st0 st1 : St} {r : AV} (h : run L f args st0 = some (r, st1)) (st : St) : run L f args st = some (r, st) := by
  rw [run_pure hf hp] at h ⊢
  unfold leaveK at h ⊢
  split at h
  · simp only [leave, Option.some.injEq, Prod.mk.injEq] at h ⊢
    exact ⟨h.1, trivial⟩
  · simp at h

theorem works0 : callAV L 300 17 [] ⟨[], []⟩ = some (.v (.bool true), ⟨[], []⟩) := by kernel_rfl
theorem c17 (st : St) : run L 17 [] st = some (B true, st) :=
  run_any (fn := ir17) rfl rfl ((run_some L).2 ⟨300, works0⟩) st

theorem c3 (nl n2 : Bool) (arts : List (Int × Int)) (room floor : Int) (ends : List Int) (a : Int) (st : St) :
    run L 3 [bookAV nl arts room floor, sl 1 n2 (ends.map I), I a] st = some (B true, st) := by
  rw [run_pure (fn := ir3) rfl rfl]
  by_cases p1 : 40 < (arts.length : Int)
  · simp only [ir3, go_sem, reduceIte, Nat.reduceEqDiff, Nat.reduceAdd, Nat.reduceSub, Nat.reduceLeDiff, Nat.reduceLT, reduceCtorEq, Int.reduceLT, Int.reduceLE, Int.reduceEq, Int.reduceBEq, Int.reduceSub, Int.reduceAdd, Int.reduceMul, Int.reduceNeg, Int.reduceToNat, Nat.reduceMul, Nat.reduceBEq, p1, c17, List.length_map]
  · by_cases p2 : 40 < (ends.length : Int)
    · simp only [ir3, go_sem, reduceIte, Nat.reduceEqDiff, Nat.reduceAdd, Nat.reduceSub, Nat.reduceLeDiff, Nat.reduceLT, reduceCtorEq, Int.reduceLT, Int.reduceLE, Int.reduceEq, Int.reduceBEq, Int.reduceSub, Int.reduceAdd, Int.reduceMul, Int.reduceNeg, Int.reduceToNat, Nat.reduceMul, Nat.reduceBEq, p1, p2, c17, List.length_map]
    · have h18 := fun st => c18 nl arts (by omega) room floor st
      have h19 := fun st => c19 nl n2 arts room floor ends (by omega) st
      have h20 := fun st => c20 true n2 arts room floor ends (by omega) st
      have h21 := fun st => c21 nl n2 arts room floor ends (by omega) st
      have h22 := fun st => c22 true n2 arts room floor ends (by omega) st
      have h23 := fun st => c23 nl n2 arts room floor ends (by omega) a st
      have h24 := fun st => c24 true n2 arts room floor ends (by omega) a st
      have h25 := fun st => c25 nl arts room floor st
      have h26 := fun st => c26 true arts room floor st
      have h27 := fun st => c27 nl n2 arts room floor ends (by omega) st
      have h28 := fun st => c28 true n2 arts room floor ends (by omega) st
      have h29 := fun st => c29 nl n2 arts room floor ends (by omega) st
      have h30 := fun st => c30 true n2 arts room floor ends (by omega) st
      simp only [ir3, go_sem, reduceIte, Nat.reduceEqDiff, Nat.reduceAdd, Nat.reduceSub, Nat.reduceLeDiff, Nat.reduceLT, reduceCtorEq, Int.reduceLT, Int.reduceLE, Int.reduceEq, Int.reduceBEq, Int.reduceSub, Int.reduceAdd, Int.reduceMul, Int.reduceNeg, Int.reduceToNat, Nat.reduceMul, Nat.reduceBEq, p1, p2, c17, List.length_map, h18, h19, h20, h21, h22, h23, h24, h25, h26, h27, h28, h29, h30]
end Go.Proofs.Ytiifibgadipalaa.Vm

namespace Go.Proofs.Ytiifibgadipalaa.Vm
open Go Go.Ev Go.ChangeShapes Go.WideShapes Go.ChangeAt Go.RowKit
set_option maxRecDepth 100000
attribute [local go_sem] cells_any storable_any ren1_any shaped_ptr cells_ptr storable_ptr ren1_ptr shaped_eptr cells_eptr storable_eptr ren1_eptr shaped_rsl cells_rsl storable_rsl ren1_rsl shaped_int cells_int storable_int ren1_int shaped_bool cells_bool storable_bool ren1_bool shaped_nils cells_nils storable_nils ren1_nils shaped_lst cells_lst storable_lst shaped_fn cells_fn storable_fn ren1_fn shaped_ifc cells_ifc storable_ifc ren1_ifc shaped_agg cells_agg storable_agg ren1_agg shaped_tup cells_tup storable_tup ren1_tup shaped_nif cells_nif storable_nif ren1_nif ren1_lany ren1_lfull ren1_lown len_lst len_rsl len_nil load_ptr load_eptr isRsl_lst isRsl_nil isRsl_rsl elems_nil elems_lst elems_sl isRsl_sl body_eq bodyK_normal bodyK_ret resK_some leaveK_some only_some code_skip code_exit code_ret code_ops code_seq code_cond code_block seqK_normal seqK_ret seqK_exit condK_true condK_false blockK_normal blockK_ret blockK_exit opsK_some ops_nil ops_cons wantK_true wantK_false stepK_some pubs pub pub_sl params okRef_loc storable_loc shaped_loc cells_loc isRsl_loc elems_loc len_loc untips untip untip_sl wantedAV setElems withO isAgg_v isAgg_agg isAgg_lst isAgg_ptr isAgg_fn isAgg_ifc isAgg_rsl isAgg_sl isAgg_loc List.replicate_succ List.replicate_zero opAV valAV aval avals ofVal Env.get setD canon gcAV renAll renEnv renStore renCells ren1_sl cutSt okEnv okStore okRefs okRef okRef_sl bin_int bin_bool bin_lst bin_rsl bin_nil bin_agg cellsEq cellEq isShift intOp boolOp min_int max_int beq_int bne resAV tupAV leave_eq fin_sl fin_loc fins fin_v fin_lst fin_agg fin_tup fin_fn storeAV readCells putCells cells_sl shaped_sl storable_sl fieldAddrAV len_sl goI List.getElem?_cons_zero List.getElem?_cons_succ List.getElem?_nil Option.bind_some Option.map_some List.length_cons List.length_nil List.all_cons List.all_nil Bool.and_true Bool.true_and Bool.and_false Bool.false_and and_true true_and and_false false_and Bool.false_eq_true List.set_cons_zero List.set_cons_succ List.append_nil List.nil_append List.cons_append List.take_zero List.take_succ_cons List.take_nil List.drop_zero List.drop_succ_cons List.map_cons List.map_nil decide_true decide_false beq_self_eq_true Bool.not_true Bool.not_false or_true true_or or_false false_or Nat.zero_add Nat.add_zero Nat.le_refl Nat.lt_irrefl decide_eq_true_eq eq_self_iff_true not_true_eq_false not_false_eq_true List.getD_cons_zero code_loop Nat.zero_le Nat.not_lt_zero Bool.true_beq Bool.false_beq beq_true beq_false ge_iff_le gt_iff_lt Lpure pus Option.map_none assert_ifc assert_nil idxA_ptr idxA_eptr idxV_agg Int.cast_ofNat_Int Nat.mul_one Nat.zero_mul Int.toNat_natCast Int.toNat_zero setParts withO2 hasKey eqnil_sl nenil_sl eqnil_loc nenil_loc map_nil_iff okRefs_ints renCells_ints

theorem laid : laidOutB Try.prog = true := by kernel_rfl

/-- A law's row, out of what the evaluator answers for all arguments. -/
theorem row_post {os : Os} {f : FuncId} {fn : Func} {s : ChangeSpec} {H : Type} {enc : TypeId × Value → H} (hs : s.vars = [])
    (htys : (fn.params.toList.all fun t => (decide (t < Try.prog.types.size) && okTy Try.prog 8 t) && Try.prog.readableRec t) = true) (hres : fn.resultTypes = #[4])
    (hspec : ∀ ds : List (DataW H), ds.length = fn.params.size → s.fn H ds = { results := [.lit (.bool true)], args := ds })
    (hrun : ∀ vals : List AV, vals.length = fn.params.toList.length → (∀ (j : Nat) t a, fn.params.toList[j]? = some t → vals[j]? = some a → ShV Try.prog 8 t a) → ∃ st, run L f vals ⟨[], []⟩ = some (.v (.bool true), st))
    (W : World) (base : Nat) (args : Array Value) (ds gs : List (DataW H)) (before : List MemPlace) (apart fresh handsOn : Bool)
    (hval : ∀ (j : Nat) t v, fn.params[j]? = some t → args[j]? = some v → Value.okWide Try.prog W .any base t v)
    (hW : DataW.Whole enc Try.prog fn.params.toList s.vars apart W args.toList ds gs before) :
    Calls Try.prog f args W fun e W' => ∃ v, e = .returned v ∧ s.post enc Try.prog fn apart fresh handsOn false W args v W' := by
  have hty : ∀ t ∈ fn.params.toList, (t < Try.prog.types.size ∧ okTy Try.prog 8 t = true) ∧ Try.prog.readableRec t = true := fun t ht => by
    have := List.all_eq_true.1 htys t ht
    simp only [Bool.and_eq_true, decide_eq_true_eq] at this
    exact this
  have hW' := hW
  obtain ⟨p, q, hA, hV, rfl, hfz, hnd⟩ := hW
  rw [hs] at hV
  obtain ⟨rfl, rfl⟩ := trodVars_none hV
  have hlen : ds.length = fn.params.size := by
    have : ∀ {ts : List TypeId} {vs : List Value} {ds : List (DataW H)} {ps : List MemPlace}, DataW.TrodAll enc Try.prog W 0 (fun _ => true) true ts vs ds ps → ds.length = ts.length := by
      intro ts
      induction ts with
      | nil => intro vs ds ps h; cases vs <;> cases ds <;> simp_all [DataW.TrodAll]
      | cons t ts ih =>
        intro vs ds ps h
        cases vs with
        | nil => simp [DataW.TrodAll] at h
        | cons v vs =>
          cases ds with
          | nil => simp [DataW.TrodAll] at h
          | cons d ds =>
            obtain ⟨_, _, _, h2, _⟩ := h
            simp [ih h2]
    simpa using this hA
  refine (law_calls mix libOk laid (fun t ht => (hty t ht).1) hrun (fun j t v ht hv => hval j t v (by simpa using ht) (by simpa using hv)) hA).mono fun e W' ⟨he, hb⟩ => ?_
  subst he
  refine ⟨_, rfl, Go.Ev.post_of_below (pa := p) (pv := []) hW' hb (fun b sp hd => ?_) ?_ ?_ rfl⟩
  · rw [hres, List.append_nil, hspec ds hlen]
    exact trodAll_cons_mk (shut_bool Try.underlying4 _) trodAll_mk0
  · rw [List.append_nil, hspec ds hlen]
    exact args_below laid hb (fun t ht => ⟨(hty t ht).2, (hty t ht).1.1⟩) hA
  · rw [hs, List.append_nil, hspec ds hlen]; rfl
end Go.Proofs.Ytiifibgadipalaa.Vm

namespace Go.Proofs.Ytiifibgadipalaa.Vm
open Go Go.Ev
set_option maxRecDepth 100000
attribute [local go_sem] cells_any storable_any ren1_any shaped_ptr cells_ptr storable_ptr ren1_ptr shaped_eptr cells_eptr storable_eptr ren1_eptr shaped_rsl cells_rsl storable_rsl ren1_rsl shaped_int cells_int storable_int ren1_int shaped_bool cells_bool storable_bool ren1_bool shaped_nils cells_nils storable_nils ren1_nils shaped_lst cells_lst storable_lst shaped_fn cells_fn storable_fn ren1_fn shaped_ifc cells_ifc storable_ifc ren1_ifc shaped_agg cells_agg storable_agg ren1_agg shaped_tup cells_tup storable_tup ren1_tup shaped_nif cells_nif storable_nif ren1_nif ren1_lany ren1_lfull ren1_lown len_lst len_rsl len_nil load_ptr load_eptr isRsl_lst isRsl_nil isRsl_rsl elems_nil elems_lst elems_sl isRsl_sl body_eq bodyK_normal bodyK_ret resK_some leaveK_some only_some code_skip code_exit code_ret code_ops code_seq code_cond code_block seqK_normal seqK_ret seqK_exit condK_true condK_false blockK_normal blockK_ret blockK_exit opsK_some ops_nil ops_cons wantK_true wantK_false stepK_some pubs pub pub_sl params okRef_loc storable_loc shaped_loc cells_loc isRsl_loc elems_loc len_loc untips untip untip_sl wantedAV setElems withO isAgg_v isAgg_agg isAgg_lst isAgg_ptr isAgg_fn isAgg_ifc isAgg_rsl isAgg_sl isAgg_loc List.replicate_succ List.replicate_zero opAV valAV aval avals ofVal Env.get setD canon gcAV renAll renEnv renStore renCells ren1_sl cutSt okEnv okStore okRefs okRef okRef_sl bin_int bin_bool bin_lst bin_rsl bin_nil bin_agg cellsEq cellEq isShift intOp boolOp min_int max_int beq_int bne resAV tupAV leave_eq fin_sl fin_loc fins fin_v fin_lst fin_agg fin_tup fin_fn storeAV readCells putCells cells_sl shaped_sl storable_sl fieldAddrAV len_sl goI List.getElem?_cons_zero List.getElem?_cons_succ List.getElem?_nil Option.bind_some Option.map_some List.length_cons List.length_nil List.all_cons List.all_nil Bool.and_true Bool.true_and Bool.and_false Bool.false_and and_true true_and and_false false_and Bool.false_eq_true List.set_cons_zero List.set_cons_succ List.append_nil List.nil_append List.cons_append List.take_zero List.take_succ_cons List.take_nil List.drop_zero List.drop_succ_cons List.map_cons List.map_nil decide_true decide_false beq_self_eq_true Bool.not_true Bool.not_false or_true true_or or_false false_or Nat.zero_add Nat.add_zero Nat.le_refl Nat.lt_irrefl decide_eq_true_eq eq_self_iff_true not_true_eq_false not_false_eq_true List.getD_cons_zero code_loop Nat.zero_le Nat.not_lt_zero Bool.true_beq Bool.false_beq beq_true beq_false ge_iff_le gt_iff_lt Lpure pus Option.map_none assert_ifc assert_nil idxA_ptr idxA_eptr idxV_agg Int.cast_ofNat_Int Nat.mul_one Nat.zero_mul Int.toNat_natCast Int.toNat_zero setParts withO2 hasKey eqnil_sl nenil_sl eqnil_loc nenil_loc map_nil_iff okRefs_ints renCells_ints

abbrev listAV (l : List Int) : AV := sl 1 false (l.map I)

/-- All cuts of the articles from b on, in ascending order (k: how many steps at most). -/
def allCuts (n : Nat) : Nat → Nat → List (List Int)
  | 0, _ => [[]]
  | k + 1, b => if n ≤ b then [[]] else (List.range' (b + 1) (n - b)).flatMap fun e => (allCuts n k e).map ((e : Int) :: ·)
def cutsOf (n b : Nat) : List (List Int) := allCuts n (n - b) b

theorem flatMap_congr' {α β : Type} {l : List α} {f g : α → List β} (h : ∀ x ∈ l, f x = g x) : l.flatMap f = l.flatMap g := by
  induction l with
  | nil => rfl
  | cons a r ih => simp only [List.flatMap_cons]; rw [h a (by simp), ih fun x hx => h x (by simp [hx])]
theorem allCuts_fuel (n : Nat) : ∀ k b, n ≤ b + k → allCuts n k b = cutsOf n b := by
  have key : ∀ m k b, n ≤ b + k → n ≤ b + m → allCuts n k b = allCuts n m b := by
    intro m
    induction m with
    | zero =>
      intro k b h1 h2
      cases k with
      | zero => rfl
      | succ k => simp only [allCuts]; rw [if_pos (by omega)]
    | succ m ih =>
      intro k b h1 h2
      cases k with
      | zero => simp only [allCuts]; rw [if_pos (by omega)]
      | succ k =>
        simp only [allCuts]
        split
        · rfl
        · refine flatMap_congr' fun e he => ?_
          rw [ih k e (by simp [List.mem_range'] at he; omega) (by simp [List.mem_range'] at he; omega)]
  intro k b h
  exact key (n - b) k b h (by omega)
theorem cutsOf_end {n b : Nat} (h : n ≤ b) : cutsOf n b = [[]] := by
  unfold cutsOf; rw [show n - b = 0 by omega]; rfl
theorem cutsOf_eq {n b : Nat} (h : b < n) : cutsOf n b = (List.range' (b + 1) (n - b)).flatMap fun e => (cutsOf n e).map ((e : Int) :: ·) := by
  unfold cutsOf
  obtain ⟨k, hk⟩ : ∃ k, n - b = k + 1 := ⟨n - b - 1, by omega⟩
  rw [hk]
  conv => lhs; simp only [allCuts]
  rw [if_neg (by omega), hk]
  refine flatMap_congr' fun e he => ?_
  rw [allCuts_fuel n k e (by simp [List.mem_range'] at he; omega)]
  rfl
theorem cutsOf_step {n b : Nat} (h : b < n) : cutsOf n b = (cutsOf n (b + 1)).map (((b + 1 : Nat) : Int) :: ·) ++ (if b + 1 < n then cutsOf n (b + 1) else []) := by
  rw [cutsOf_eq h, show n - b = (n - (b + 1)) + 1 by omega, List.range'_succ, List.flatMap_cons]
  congr 1
  split
  · next h1 => rw [cutsOf_eq h1]
  · next h1 => rw [show n - (b + 1) = 0 by omega]; rfl
/-- How many cuts there are, at most. -/
theorem cutsOf_len (n : Nat) : ∀ m b, n - b ≤ m → (cutsOf n b).length ≤ 2 ^ m ∧ 0 < (cutsOf n b).length := by
  intro m
  induction m with
  | zero => intro b h; rw [cutsOf_end (by omega)]; simp
  | succ m ih =>
    intro b h
    by_cases hb : b < n
    · have := ih (b + 1) (by omega)
      rw [cutsOf_step hb, List.length_append, List.length_map, Nat.pow_succ]
      split
      · omega
      · simp; omega
    · rw [cutsOf_end (by omega)]; simp; exact Nat.one_le_two_pow
/-- The cuts whose first end is e or later. -/
def laterCuts (n e : Nat) : List (List Int) := (List.range' e (n + 1 - e)).flatMap fun e => (cutsOf n e).map ((e : Int) :: ·)
theorem laterCuts_end {n e : Nat} (h : n < e) : laterCuts n e = [] := by
  unfold laterCuts; rw [show n + 1 - e = 0 by omega]; rfl
theorem laterCuts_step {n e : Nat} (h : e ≤ n) : laterCuts n e = (cutsOf n e).map ((e : Int) :: ·) ++ laterCuts n (e + 1) := by
  unfold laterCuts
  rw [show n + 1 - e = (n + 1 - (e + 1)) + 1 by omega, List.range'_succ, List.flatMap_cons]
theorem laterCuts_eq {n b : Nat} (h : b < n) : laterCuts n (b + 1) = cutsOf n b := by
  unfold laterCuts; rw [cutsOf_eq h, show n + 1 - (b + 1) = n - b by omega]

/-- Lists with the same beginning. -/
def preL (b : List Int) (l : List (List Int)) : List (List Int) := l.map (b ++ ·)
theorem preL_nil (l : List (List Int)) : preL [] l = l := by simp [preL]
theorem preL_len (b : List Int) (l : List (List Int)) : (preL b l).length = l.length := by simp [preL]

theorem loop84 (n : Nat) (hn : n ≤ 12) (nl : Bool) (begun : List Int) (b : Nat) (hbl : begun.length ≤ b) (hb : b < n) (hrec : ∀ e, b < e → e ≤ n → ∀ st, run L 84 [I n, sl 1 false ((begun ++ [(e : Int)]).map I)] st = some (sl 1 true ((preL (begun ++ [(e : Int)]) (cutsOf n e)).map listAV), st)) (e : Nat) (out : List (List Int)) (hok : b < e ∧ e ≤ n + 1 ∧ out.length + (laterCuts n e).length ≤ 5000) (env : Env) (st : St)
    (hg : gcAV true 0 0 (canon env [0, 1, 6, 7]) st = ([(0, I n), (1, sl 1 nl (begun.map I)), (6, loc 1 0 (out.map listAV)), (7, I e)], ⟨[], locT 0 (out.map listAV)⟩)) :
    ∃ x_1 en s, lim (headed pure (run L) true [0, 1, 6, 7] lp84_0 0 0) env st = some (x_1, en, s) ∧ (x_1 = .exit 0 ∧ en.get 6 = loc 1 0 ((out ++ preL begun (laterCuts n e)).map listAV)) := by
  refine loop_wp (α := Nat × List (List Int)) (fun ⟨e, out⟩ => n + 1 - e) (fun ⟨e, out⟩ => b < e ∧ e ≤ n + 1 ∧ out.length + (laterCuts n e).length ≤ 5000) (fun ⟨e, out⟩ => ([(0, I n), (1, sl 1 nl (begun.map I)), (6, loc 1 0 (out.map listAV)), (7, I e)], ⟨[], locT 0 (out.map listAV)⟩)) (fun ⟨e, out⟩ x_1 en s => x_1 = .exit 0 ∧ en.get 6 = loc 1 0 ((out ++ preL begun (laterCuts n e)).map listAV)) (fun ⟨e, out⟩ hok => ?_) ⟨e, out⟩ hok env st hg
  simp only at hok
  by_cases q : (e : Int) ≤ n
  · have hr := hrec e (by omega) (by omega)
    have hs := succ64 e (by omega)
    have hst := laterCuts_step (n := n) (e := e) (by omega)
    have hpos := (cutsOf_len n (n - e) e (Nat.le_refl _)).2
    have hlen : out.length + (cutsOf n e).length ≤ 5000 := by rw [hst, List.length_append, List.length_map] at hok; omega
    have hnext : (out ++ preL (begun ++ [(e : Int)]) (cutsOf n e)) ++ preL begun (laterCuts n (e + 1)) = out ++ preL begun (laterCuts n e) := by
      rw [hst, preL, preL, preL, List.map_append, List.map_map, List.append_assoc]
      congr 2
      apply List.map_congr_left
      intro l _
      simp
    have hGl : (preL (begun ++ [(e : Int)]) (cutsOf n e)).length = (cutsOf n e).length := preL_len _ _
    have h84 : ∀ g st, run L 84 [I n, .lst g 1 ((begun ++ [(e : Int)]).map I)] st = some (sl 1 true ((preL (begun ++ [(e : Int)]) (cutsOf n e)).map listAV), st) := by
      intro g st
      rw [← hr st]
      exact run_args (fn := ir84) rfl rfl st (by simp only [pubs, pub, pub_sl]; rw [sl_false])
    generalize preL (begun ++ [(e : Int)]) (cutsOf n e) = G at *
    have hys : G.map listAV ≠ [] := by
      intro h; rw [List.map_eq_nil_iff] at h; rw [h] at hGl; simp at hGl; omega
    have happ := fun s T => append_more (z := 1) (k := 0) (xs := out.map listAV) hys s T (by simp [maxGrow]; omega) (by omega)
    have hne : (out.map listAV ++ G.map listAV).length ≠ 0 := by simp only [List.length_append, List.length_map]; omega
    have hmap : out.map listAV ++ G.map listAV = (out ++ G).map listAV := by rw [List.map_append]
    have hok' : b < e + 1 ∧ e + 1 ≤ n + 1 ∧ (out ++ G).length + (laterCuts n (e + 1)).length ≤ 5000 := by
      rw [hst, List.length_append, List.length_map] at hok
      simp only [List.length_append]
      omega
    have hmeas : n + 1 - (e + 1) < n + 1 - e := by omega
    by_cases hbn : begun = []
    · subst hbn
      have h33 := fun st => copy_nil 1 st
      have h36 := fun st => copy_some (z := 1) (xs := [I (e : Int)]) (by simp) (by simp [maxGrow]) st
      simp only [List.nil_append, List.map_cons, List.map_nil] at h84
      simp only [go_sem, reduceIte, Nat.reduceEqDiff, Nat.reduceAdd, Nat.reduceSub, Nat.reduceLeDiff, Nat.reduceLT, reduceCtorEq, Int.reduceLT, Int.reduceLE, Int.reduceEq, Int.reduceBEq, Int.reduceSub, Int.reduceAdd, Int.reduceMul, Int.reduceNeg, Int.reduceToNat, Nat.reduceMul, Nat.reduceBEq, index_rsl_if, setm, make_ints, condK_dec, wantK_dec, not_dec, and_dec, or_dec, seqK_ite, seqK_none, blockK_ite, blockK_none, opsK_ite, opsK_none, stepK_ite, stepK_none, bodyK_ite, bodyK_none, resK_ite, resK_none, leaveK_ite, leaveK_none, only_ite, only_none, bind_ite, gives_some, gives_none, gives_ite, then_normal, then_ret, then_exit, then_none, then_ite, Option.bind_none, Bool.not_eq_true', decide_eq_false_iff_not, Bool.and_eq_true, Bool.or_eq_true, Option.some.injEq, Int.not_lt, Int.not_le, lp84_0, q, h33, h36, h84, hs, happ, List.length_cons, List.length_nil]
      refine ⟨(e + 1, out ++ G), by simp only [go_sem, reduceIte, Nat.reduceEqDiff, Nat.reduceAdd, Nat.reduceSub, Nat.reduceLeDiff, Nat.reduceLT, reduceCtorEq, Int.reduceLT, Int.reduceLE, Int.reduceEq, Int.reduceBEq, Int.reduceSub, Int.reduceAdd, Int.reduceMul, Int.reduceNeg, Int.reduceToNat, Nat.reduceMul, Nat.reduceBEq, okRef_more, ren1_more]; rw [loc_own hne, hmap, locT_own (k := 0) (xs := (out ++ G).map listAV) (by rw [← hmap]; exact hne)], hok', hmeas, fun x en s hq => ?_⟩
      simp only at hq ⊢
      rw [hnext] at hq
      exact hq
    · have hbm : begun.map I ≠ [] := by simpa using hbn
      have h33 := fun st => copy_some (z := 1) hbm (by simp [maxGrow]; omega) st
      have h36 : ∀ s T, appendAV 1 (.lst (.own T.length begun.length) 1 (begun.map I)) [I (e : Int)] ⟨s, T ++ [begun.length]⟩ = some (.lst (.own T.length (begun.length + 1)) 1 ((begun ++ [(e : Int)]).map I), ⟨s, T ++ [begun.length + 1]⟩) := by
        intro s T
        have := copy_one (z := 1) (xs := begun.map I) (I (e : Int)) s T (by simp [maxGrow]; omega)
        simpa using this
      simp only [go_sem, reduceIte, Nat.reduceEqDiff, Nat.reduceAdd, Nat.reduceSub, Nat.reduceLeDiff, Nat.reduceLT, reduceCtorEq, Int.reduceLT, Int.reduceLE, Int.reduceEq, Int.reduceBEq, Int.reduceSub, Int.reduceAdd, Int.reduceMul, Int.reduceNeg, Int.reduceToNat, Nat.reduceMul, Nat.reduceBEq, index_rsl_if, setm, make_ints, condK_dec, wantK_dec, not_dec, and_dec, or_dec, seqK_ite, seqK_none, blockK_ite, blockK_none, opsK_ite, opsK_none, stepK_ite, stepK_none, bodyK_ite, bodyK_none, resK_ite, resK_none, leaveK_ite, leaveK_none, only_ite, only_none, bind_ite, gives_some, gives_none, gives_ite, then_normal, then_ret, then_exit, then_none, then_ite, Option.bind_none, Bool.not_eq_true', decide_eq_false_iff_not, Bool.and_eq_true, Bool.or_eq_true, Option.some.injEq, Int.not_lt, Int.not_le, lp84_0, q, h33, h36, h84, hs, happ, List.length_map]
      refine ⟨(e + 1, out ++ G), by simp only [go_sem, reduceIte, Nat.reduceEqDiff, Nat.reduceAdd, Nat.reduceSub, Nat.reduceLeDiff, Nat.reduceLT, reduceCtorEq, Int.reduceLT, Int.reduceLE, Int.reduceEq, Int.reduceBEq, Int.reduceSub, Int.reduceAdd, Int.reduceMul, Int.reduceNeg, Int.reduceToNat, Nat.reduceMul, Nat.reduceBEq, okRef_more, ren1_more]; rw [loc_own hne, hmap, locT_own (k := 0) (xs := (out ++ G).map listAV) (by rw [← hmap]; exact hne)], hok', hmeas, fun x en s hq => ?_⟩
      simp only at hq ⊢
      rw [hnext] at hq
      exact hq
  · simp only [go_sem, reduceIte, Nat.reduceEqDiff, Nat.reduceAdd, Nat.reduceSub, Nat.reduceLeDiff, Nat.reduceLT, reduceCtorEq, Int.reduceLT, Int.reduceLE, Int.reduceEq, Int.reduceBEq, Int.reduceSub, Int.reduceAdd, Int.reduceMul, Int.reduceNeg, Int.reduceToNat, Nat.reduceMul, Nat.reduceBEq, index_rsl_if, setm, make_ints, condK_dec, wantK_dec, not_dec, and_dec, or_dec, seqK_ite, seqK_none, blockK_ite, blockK_none, opsK_ite, opsK_none, stepK_ite, stepK_none, bodyK_ite, bodyK_none, resK_ite, resK_none, leaveK_ite, leaveK_none, only_ite, only_none, bind_ite, gives_some, gives_none, gives_ite, then_normal, then_ret, then_exit, then_none, then_ite, Option.bind_none, Bool.not_eq_true', decide_eq_false_iff_not, Bool.and_eq_true, Bool.or_eq_true, Option.some.injEq, Int.not_lt, Int.not_le, lp84_0, q]
    rw [laterCuts_end (by omega)]; simp [preL]

theorem c84 (n : Nat) (hn : n ≤ 12) (hn1 : 1 ≤ n) : ∀ (m : Nat) (nl : Bool) (begun : List Int) (b : Nat), n - b = m → b ≤ n → begun.length ≤ b → beginOf begun begun.length = b → ∀ st,
    run L 84 [I n, sl 1 nl (begun.map I)] st = some (sl 1 true ((preL begun (cutsOf n b)).map listAV), st) := by
  intro m
  induction m using Nat.strongRecOn with
  | ind m ih =>
    intro nl begun b hm hb hbl hlast st
    rw [run_pure (fn := ir84) rfl rfl]
    have hrec : b < n → ∀ e, b < e → e ≤ n → ∀ st, run L 84 [I n, sl 1 false ((begun ++ [(e : Int)]).map I)] st = some (sl 1 true ((preL (begun ++ [(e : Int)]) (cutsOf n e)).map listAV), st) := by
      intro _ e h1 h2 st
      exact ih (n - e) (by omega) false (begun ++ [(e : Int)]) e rfl h2 (by simp; omega) (by simp [beginOf]) st
    have hpow : 2 ^ (n - b) ≤ 4096 := Nat.le_trans (Nat.pow_le_pow_right (by omega) (show n - b ≤ 12 by omega)) (by decide)
    have hcl := (cutsOf_len n (n - b) b (Nat.le_refl _)).1
    have hs := succ64 b (by omega)
    by_cases p0 : (0 : Int) < (begun.length : Int)
    · have hx : indexSAV 1 (sl 1 nl (begun.map I)) (.v (.int .i64 ((begun.length : Int) - 1))) = some (.eptr (I b) 0) := by
        have := index_ints nl begun (begun.length - 1) (by omega)
        rw [show ((begun.length - 1 : Nat) : Int) = (begun.length : Int) - 1 by omega] at this
        rw [this]
        have h2 := beginOf_succ begun (begun.length - 1) (by omega)
        rw [show begun.length - 1 + 1 = begun.length by omega, hlast] at h2
        rw [← h2]
      have hw : IntKind.i64.wrap ((begun.length : Int) - 1) = (begun.length : Int) - 1 := by rw [wrap64] <;> omega
      by_cases p1 : (n : Int) < ((b + 1 : Nat) : Int)
      · have hne : begun.map I ≠ [] := by intro h; rw [List.map_eq_nil_iff] at h; subst h; simp at p0
        have hc : cutsOf n b = [[]] := cutsOf_end (by omega)
        have hsl : sl 1 nl (begun.map I) = .lst .any 1 (begun.map I) := sl_ne hne
        rw [hsl] at hx ⊢
        simp only [ir84, go_sem, reduceIte, Nat.reduceEqDiff, Nat.reduceAdd, Nat.reduceSub, Nat.reduceLeDiff, Nat.reduceLT, reduceCtorEq, Int.reduceLT, Int.reduceLE, Int.reduceEq, Int.reduceBEq, Int.reduceSub, Int.reduceAdd, Int.reduceMul, Int.reduceNeg, Int.reduceToNat, Nat.reduceMul, Nat.reduceBEq, p0, p1, hx, hw, hs, hc, List.length_map, preL]
        rfl
      · simp only [ir84, go_sem, reduceIte, Nat.reduceEqDiff, Nat.reduceAdd, Nat.reduceSub, Nat.reduceLeDiff, Nat.reduceLT, reduceCtorEq, Int.reduceLT, Int.reduceLE, Int.reduceEq, Int.reduceBEq, Int.reduceSub, Int.reduceAdd, Int.reduceMul, Int.reduceNeg, Int.reduceToNat, Nat.reduceMul, Nat.reduceBEq, p0, p1, hx, hw, hs, List.length_map]
        generalize hg : lim (headed pure (run L) true _ lp84_0 _ _) _ _ = o
        obtain ⟨x, en, s, rfl, h2⟩ : ∃ x en s, o = some (x, en, s) ∧ _ := by rw [← hg]; exact loop84 n hn nl begun b hbl (by omega) (hrec (by omega)) (b + 1) [] ⟨by omega, by omega, by rw [laterCuts_eq (by omega)]; simp; omega⟩ _ _ (by simp only [go_sem, reduceIte, Nat.reduceEqDiff, Nat.reduceAdd, Nat.reduceSub, Nat.reduceLeDiff, Nat.reduceLT, reduceCtorEq, Int.reduceLT, Int.reduceLE, Int.reduceEq, Int.reduceBEq, Int.reduceSub, Int.reduceAdd, Int.reduceMul, Int.reduceNeg, Int.reduceToNat, Nat.reduceMul, Nat.reduceBEq, loc_start, locT] <;> rfl)
        clear hg
        obtain ⟨rfl, h3⟩ := h2
        rw [laterCuts_eq (by omega), List.nil_append] at h3
        simp only [go_sem, reduceIte, Nat.reduceEqDiff, Nat.reduceAdd, Nat.reduceSub, Nat.reduceLeDiff, Nat.reduceLT, reduceCtorEq, Int.reduceLT, Int.reduceLE, Int.reduceEq, Int.reduceBEq, Int.reduceSub, Int.reduceAdd, Int.reduceMul, Int.reduceNeg, Int.reduceToNat, Nat.reduceMul, Nat.reduceBEq, h3]
    · have hbn : begun = [] := List.eq_nil_of_length_eq_zero (by omega)
      subst hbn
      obtain rfl : b = 0 := by simp [beginOf] at hlast; omega
      have p1 : ((n : Int) < 1) = False := eq_false (by omega)
      simp only [ir84, go_sem, reduceIte, Nat.reduceEqDiff, Nat.reduceAdd, Nat.reduceSub, Nat.reduceLeDiff, Nat.reduceLT, reduceCtorEq, Int.reduceLT, Int.reduceLE, Int.reduceEq, Int.reduceBEq, Int.reduceSub, Int.reduceAdd, Int.reduceMul, Int.reduceNeg, Int.reduceToNat, Nat.reduceMul, Nat.reduceBEq, p1, List.length_map]
      generalize hg : lim (headed pure (run L) true _ lp84_0 _ _) _ _ = o
      obtain ⟨x, en, s, rfl, h2⟩ : ∃ x en s, o = some (x, en, s) ∧ _ := by rw [← hg]; exact loop84 n hn nl [] 0 (by simp) (by omega) (hrec (by omega)) 1 [] ⟨by omega, by omega, by rw [show 1 = 0 + 1 from rfl, laterCuts_eq (by omega)]; simp; omega⟩ _ _ (by simp only [go_sem, reduceIte, Nat.reduceEqDiff, Nat.reduceAdd, Nat.reduceSub, Nat.reduceLeDiff, Nat.reduceLT, reduceCtorEq, Int.reduceLT, Int.reduceLE, Int.reduceEq, Int.reduceBEq, Int.reduceSub, Int.reduceAdd, Int.reduceMul, Int.reduceNeg, Int.reduceToNat, Nat.reduceMul, Nat.reduceBEq, loc_start, locT] <;> rfl)
      clear hg
      obtain ⟨rfl, h3⟩ := h2
      rw [show 1 = 0 + 1 from rfl, laterCuts_eq (by omega), List.nil_append] at h3
      simp only [go_sem, reduceIte, Nat.reduceEqDiff, Nat.reduceAdd, Nat.reduceSub, Nat.reduceLeDiff, Nat.reduceLT, reduceCtorEq, Int.reduceLT, Int.reduceLE, Int.reduceEq, Int.reduceBEq, Int.reduceSub, Int.reduceAdd, Int.reduceMul, Int.reduceNeg, Int.reduceToNat, Nat.reduceMul, Nat.reduceBEq, h3]
end Go.Proofs.Ytiifibgadipalaa.Vm
