/- What is proved: what each function of this program computes, as equations on the evaluator. No condition. -/
import Derived.Test.YtpmbfgogpcjdlaaDoorC1
import Derived.Test.YtpmbfgogpcjdlaaDoorFkf
import Derived.KernelRfl
set_option linter.all false
namespace Go.Proofs.YtpmbfgogpcjdlaaDoor.Vm
open Go Go.Ev
set_option maxRecDepth 100000
attribute [local go_sem] cells_any storable_any ren1_any shaped_ptr cells_ptr storable_ptr ren1_ptr shaped_eptr cells_eptr storable_eptr ren1_eptr shaped_rsl cells_rsl storable_rsl ren1_rsl shaped_int cells_int storable_int ren1_int shaped_bool cells_bool storable_bool ren1_bool shaped_nils cells_nils storable_nils ren1_nils shaped_lst cells_lst storable_lst shaped_fn cells_fn storable_fn ren1_fn shaped_ifc cells_ifc storable_ifc ren1_ifc shaped_agg cells_agg storable_agg ren1_agg shaped_tup cells_tup storable_tup ren1_tup shaped_nif cells_nif storable_nif ren1_nif ren1_lany ren1_lfull ren1_lown len_lst len_rsl len_nil load_ptr load_eptr isRsl_lst isRsl_nil isRsl_rsl elems_nil elems_lst elems_sl isRsl_sl body_eq bodyK_normal bodyK_ret resK_some leaveK_some only_some code_skip code_exit code_ret code_ops code_seq code_cond code_block seqK_normal seqK_ret seqK_exit condK_true condK_false blockK_normal blockK_ret blockK_exit opsK_some ops_nil ops_cons wantK_true wantK_false stepK_some pubs pub pub_sl params okRef_loc storable_loc shaped_loc cells_loc isRsl_loc elems_loc len_loc untips untip untip_sl wantedAV setElems withO isAgg_v isAgg_agg isAgg_lst isAgg_ptr isAgg_fn isAgg_ifc isAgg_rsl isAgg_sl isAgg_loc List.replicate_succ List.replicate_zero opAV valAV aval avals ofVal Env.get setD canon gcAV renAll renEnv renStore renCells ren1_sl cutSt okEnv okStore okRefs okRef okRef_sl bin_int bin_bool bin_lst bin_rsl bin_nil bin_agg cellsEq cellEq isShift intOp boolOp min_int max_int beq_int bne resAV tupAV leave_eq fin_sl fin_loc fins fin_v fin_lst fin_agg fin_tup fin_fn storeAV readCells putCells cells_sl shaped_sl storable_sl fieldAddrAV len_sl goI List.getElem?_cons_zero List.getElem?_cons_succ List.getElem?_nil Option.bind_some Option.map_some List.length_cons List.length_nil List.all_cons List.all_nil Bool.and_true Bool.true_and Bool.and_false Bool.false_and and_true true_and and_false false_and Bool.false_eq_true List.set_cons_zero List.set_cons_succ List.append_nil List.nil_append List.cons_append List.take_zero List.take_succ_cons List.take_nil List.drop_zero List.drop_succ_cons List.map_cons List.map_nil decide_true decide_false beq_self_eq_true Bool.not_true Bool.not_false or_true true_or or_false false_or Nat.zero_add Nat.add_zero Nat.le_refl Nat.lt_irrefl decide_eq_true_eq eq_self_iff_true not_true_eq_false not_false_eq_true List.getD_cons_zero code_loop Nat.zero_le Nat.not_lt_zero Bool.true_beq Bool.false_beq beq_true beq_false ge_iff_le gt_iff_lt Lpure pus Option.map_none assert_ifc assert_nil idxA_ptr idxA_eptr idxV_agg Int.cast_ofNat_Int Nat.mul_one Nat.zero_mul Int.toNat_natCast Int.toNat_zero setParts withO2 hasKey eqnil_sl nenil_sl eqnil_loc nenil_loc map_nil_iff okRefs_ints renCells_ints

/-! ### a book by numbers -/
abbrev B8 (n : Int) : AV := .v (.int .u8 n)
def Byte (n : Int) : Prop := 0 ≤ n ∧ n ≤ 255
abbrev qAV (zs : List Int) : AV := .agg (zs.map B8)
theorem okRefsB (n : Nat) (xs : List Int) : okRefs n (xs.map B8) = true := okRefs_map B8 n (fun _ => rfl) xs
theorem renCellsB (n : Nat) (tips : List Nat) (acc : List (Nat × Nat)) (xs : List Int) : renCells n tips acc (xs.map B8) = (xs.map B8, acc) := renCells_map B8 n tips (fun _ _ => rfl) xs acc
theorem pubsB (xs : List Int) : pubs (xs.map B8) = xs.map B8 := pubs_map B8 (fun _ => rfl) xs
theorem storableB (xs : List Int) : (xs.map B8).all storable = true := by
  rw [List.all_eq_true]; intro x hx; rw [List.mem_map] at hx; obtain ⟨n, _, rfl⟩ := hx; rfl
theorem getB (zs : List Int) (a : Nat) (h : a < zs.length) : (zs.map B8)[a]? = some (B8 (zs.getD a 0)) := by
  rw [getm B8 zs 0 a, if_pos h]
theorem byte_getD {l : List Int} (h : ∀ n ∈ l, Byte n) (i : Nat) : Byte (l.getD i 0) := by
  rw [List.getD_eq_getElem?_getD]
  by_cases hi : i < l.length
  · rw [List.getElem?_eq_getElem hi]; exact h _ (List.getElem_mem hi)
  · rw [List.getElem?_eq_none (by omega)]; exact ⟨by simp, by simp⟩
theorem mod_range (a b : Int) (hb : 0 < b) : 0 ≤ a % b ∧ a % b < b := ⟨Int.emod_nonneg a (by omega), Int.emod_lt_of_pos a hb⟩

/-! ### a list of pairs that grows in a struct -/
def outAV (o : List (Int × Int)) : AV := loc 2 0 (o.map prAV)
def outT (o : List (Int × Int)) : List Nat := locT 0 (o.map prAV)
def outAcc (o : List (Int × Int)) : List (Nat × Nat) := if (o.map prAV).length = 0 then [] else [(0, (o.map prAV).length)]
theorem okRef_out (n : Nat) (o : List (Int × Int)) : okRef n (outAV o) = true := okRef_loc _ _ _ _
theorem storable_out (o : List (Int × Int)) : storable (outAV o) = true := storable_loc _ _ _
theorem shaped_out (o : List (Int × Int)) : (outAV o).shaped = true := shaped_loc _ _ _
theorem cells_out (o : List (Int × Int)) : (outAV o).cells = [outAV o] := cells_loc _ _ _
theorem ren1_out (o : List (Int × Int)) : ren1 0 (outT o) [] (outAV o) = (outAV o, outAcc o) := ren1_loc (k := 0) 2 (o.map prAV)
theorem outAcc_snd (o : List (Int × Int)) : (outAcc o).map (fun x => x.2) = outT o := by
  unfold outAcc outT locT; split <;> rfl
theorem fin_out (st : St) (o : List (Int × Int)) : fin st (outAV o) = sl 2 true (o.map prAV) := fin_loc st 2 0 _
theorem pub_out (o : List (Int × Int)) : pub (outAV o) = sl 2 true (o.map prAV) := pub_loc 2 0 _
theorem append_out (o : List (Int × Int)) (x y : Int) (s : List (List AV)) (h : o.length < 1000) : appendAV 2 (outAV o) [.agg [I x, I y]] ⟨s, outT o⟩ = some (outAV (o ++ [(x, y)]), ⟨s, outT (o ++ [(x, y)])⟩) :=
  append_locm (z := 2) (k := 0) prAV o (x, y) s (by omega) (by unfold maxGrow; omega)
theorem out_start : .v (.slice none 0 0) = outAV [] := rfl
theorem outT_nil : outT [] = [] := rfl
attribute [local go_sem] okRef_out storable_out shaped_out cells_out fin_out pub_out

/-- One more pair, if it is one and not there yet. -/
def mkStep (n : Int) (out : List (Int × Int)) (a b : Int) : List (Int × Int) :=
  if min (a % n) (b % n) ≠ max (a % n) (b % n) ∧ (min (a % n) (b % n), max (a % n) (b % n)) ∉ out then out ++ [(min (a % n) (b % n), max (a % n) (b % n))] else out
def madeTo (n : Int) (zs : List Int) : Nat → List (Int × Int)
  | 0 => []
  | k + 1 => mkStep n (madeTo n zs k) (zs.getD (2 + k * 2) 0) (zs.getD (3 + k * 2) 0)
theorem madeTo_len (n : Int) (zs : List Int) : ∀ k, (madeTo n zs k).length ≤ k
  | 0 => by simp [madeTo]
  | k + 1 => by
    have := madeTo_len n zs k
    simp only [madeTo, mkStep]; split
    · simp; omega
    · omega
theorem tmod8 {a n : Int} (h : 0 ≤ a) : a.tmod n = a % n := Int.tmod_eq_emod_of_nonneg h

theorem loop44 (zs : List Int) (hzl : zs.length = 22) (hz : ∀ a ∈ zs, Byte a) (n : Int) (hn : 1 ≤ n ∧ n ≤ 7) (k : Nat) (hk : k ≤ 10) (i : Nat) (hok : i ≤ k) (env : Env) (st : St)
    (hg : gcAV true 3 0 (canon env [4, 5, 23, 24, 25]) st = ([(4, .ptr 1 0), (5, .ptr 2 0), (23, .rsl 0 2 k 10 2 true), (24, I k), (25, I i)], ⟨[zs.map B8, [I 0, sl 2 true []], [I n, outAV (madeTo n zs i)]], outT (madeTo n zs i)⟩)) :
    ∃ x_1 en s, lim (headed pure (run L) true [4, 5, 23, 24, 25] lp44_0 3 0) env st = some (x_1, en, s) ∧ (x_1 = .exit 0 ∧ en.get 4 = .ptr 1 0 ∧ en.get 5 = .ptr 2 0 ∧ s = ⟨[zs.map B8, [I 0, sl 2 true []], [I n, outAV (madeTo n zs k)]], outT (madeTo n zs k)⟩) := by
  refine loop_wp (α := Nat) (fun i => k - i) (fun i => i ≤ k) (fun i => ([(4, .ptr 1 0), (5, .ptr 2 0), (23, .rsl 0 2 k 10 2 true), (24, I k), (25, I i)], ⟨[zs.map B8, [I 0, sl 2 true []], [I n, outAV (madeTo n zs i)]], outT (madeTo n zs i)⟩)) (fun i x_1 en s => x_1 = .exit 0 ∧ en.get 4 = .ptr 1 0 ∧ en.get 5 = .ptr 2 0 ∧ s = ⟨[zs.map B8, [I 0, sl 2 true []], [I n, outAV (madeTo n zs k)]], outT (madeTo n zs k)⟩) (fun i hok => ?_) i hok env st hg
  by_cases h : i < k
  · have hs := succ64 i (by omega)
    have hlt : ((i : Int) < (k : Int)) = True := eq_true (by omega)
    have hi0 : ((0 : Int) ≤ (i : Int)) = True := eq_true (by omega)
    have hml := madeTo_len n zs i
    have hb1 : (2 + i * 2 + 2 ≤ 22) = True := eq_true (by omega)
    have hpair : ((zs.map B8).drop (2 + i * 2)).take 2 = [B8 (zs.getD (2 + i * 2) 0), B8 (zs.getD (3 + i * 2) 0)] := by
      have h1 : 2 + i * 2 < zs.length := by omega
      have h2 : 2 + i * 2 + 1 < zs.length := by omega
      have hd : zs.drop (2 + i * 2) = zs[2 + i * 2] :: zs[2 + i * 2 + 1] :: zs.drop (2 + i * 2 + 1 + 1) := by
        rw [List.drop_eq_getElem_cons h1, List.drop_eq_getElem_cons h2]
      have e1 : zs.getD (2 + i * 2) 0 = zs[2 + i * 2] := by rw [List.getD_eq_getElem?_getD, List.getElem?_eq_getElem h1]; rfl
      have e2 : zs.getD (3 + i * 2) 0 = zs[2 + i * 2 + 1] := by rw [show 3 + i * 2 = 2 + i * 2 + 1 by omega, List.getD_eq_getElem?_getD, List.getElem?_eq_getElem h2]; rfl
      rw [← List.map_drop, hd, e1, e2]
      rfl
    have ba := byte_getD hz (2 + i * 2)
    have bb := byte_getD hz (3 + i * 2)
    have hsucc : madeTo n zs (i + 1) = mkStep n (madeTo n zs i) (zs.getD (2 + i * 2) 0) (zs.getD (3 + i * 2) 0) := rfl
    generalize zs.getD (2 + i * 2) 0 = a at *
    generalize zs.getD (3 + i * 2) 0 = b at *
    unfold Byte at ba bb
    have wa := wrap64 a (by omega) (by omega)
    have wb := wrap64 b (by omega) (by omega)
    have zn : (n = 0) = False := eq_false (by omega)
    have ta : a.tmod n = a % n := tmod8 (by omega)
    have tb : b.tmod n = b % n := tmod8 (by omega)
    have ra := mod_range a n (by omega)
    have rb := mod_range b n (by omega)
    generalize madeTo n zs i = out at *
    have h76 : ∀ st, run L 76 [outAV out, .agg [I (min (a % n) (b % n)), I (max (a % n) (b % n))]] st = some (B (decide ((min (a % n) (b % n), max (a % n) (b % n)) ∈ out)), st) := fun st => by
      rw [← c76 true out (by omega) (min (a % n) (b % n)) (max (a % n) (b % n)) st]
      exact run_args (fn := ir76) rfl rfl st (by simp only [pubs, pub_out, pub_sl])
    have happ := fun s => append_out out (min (a % n) (b % n)) (max (a % n) (b % n)) s (by omega)
    unfold mkStep at hsucc
    generalize hm1 : min (a % n) (b % n) = x at *
    generalize hm2 : max (a % n) (b % n) = y at *
    by_cases p1 : x = y
    · rw [if_neg (by simp [p1])] at hsucc
      simp only [go_sem, reduceIte, Nat.reduceEqDiff, Nat.reduceAdd, Nat.reduceSub, Nat.reduceLeDiff, Nat.reduceLT, reduceCtorEq, Int.reduceLT, Int.reduceLE, Int.reduceEq, Int.reduceBEq, Int.reduceSub, Int.reduceAdd, Int.reduceMul, Int.reduceNeg, Int.reduceToNat, Nat.reduceMul, Nat.reduceBEq, index_rsl_if, setm, make_ints, condK_dec, wantK_dec, not_dec, and_dec, or_dec, seqK_ite, seqK_none, blockK_ite, blockK_none, opsK_ite, opsK_none, stepK_ite, stepK_none, bodyK_ite, bodyK_none, resK_ite, resK_none, leaveK_ite, leaveK_none, only_ite, only_none, bind_ite, gives_some, gives_none, gives_ite, then_normal, then_ret, then_exit, then_none, then_ite, Option.bind_none, Bool.not_eq_true', decide_eq_false_iff_not, Bool.and_eq_true, Bool.or_eq_true, Option.some.injEq, Int.not_lt, Int.not_le, lp44_0, hlt, hi0, hs, hb1, hpair, hzl, wa, wb, zn, ta, tb, hm1, hm2, p1, List.length_map]
      refine ⟨i + 1, by simp only [go_sem, reduceIte, Nat.reduceEqDiff, Nat.reduceAdd, Nat.reduceSub, Nat.reduceLeDiff, Nat.reduceLT, reduceCtorEq, Int.reduceLT, Int.reduceLE, Int.reduceEq, Int.reduceBEq, Int.reduceSub, Int.reduceAdd, Int.reduceMul, Int.reduceNeg, Int.reduceToNat, Nat.reduceMul, Nat.reduceBEq, ren1_locm, loc_tips, locT_eq, hsucc, ren1_out, outAcc_snd, okRefsB, renCellsB] <;> rfl, ?_, ?_, fun x en s hq => ?_⟩
      · omega
      · omega
      · exact hq
    · by_cases p2 : (x, y) ∈ out
      · rw [if_neg (by simp [p2])] at hsucc
        simp only [go_sem, reduceIte, Nat.reduceEqDiff, Nat.reduceAdd, Nat.reduceSub, Nat.reduceLeDiff, Nat.reduceLT, reduceCtorEq, Int.reduceLT, Int.reduceLE, Int.reduceEq, Int.reduceBEq, Int.reduceSub, Int.reduceAdd, Int.reduceMul, Int.reduceNeg, Int.reduceToNat, Nat.reduceMul, Nat.reduceBEq, index_rsl_if, setm, make_ints, condK_dec, wantK_dec, not_dec, and_dec, or_dec, seqK_ite, seqK_none, blockK_ite, blockK_none, opsK_ite, opsK_none, stepK_ite, stepK_none, bodyK_ite, bodyK_none, resK_ite, resK_none, leaveK_ite, leaveK_none, only_ite, only_none, bind_ite, gives_some, gives_none, gives_ite, then_normal, then_ret, then_exit, then_none, then_ite, Option.bind_none, Bool.not_eq_true', decide_eq_false_iff_not, Bool.and_eq_true, Bool.or_eq_true, Option.some.injEq, Int.not_lt, Int.not_le, lp44_0, hlt, hi0, hs, hb1, hpair, hzl, wa, wb, zn, ta, tb, hm1, hm2, p1, h76, p2, List.length_map]
        refine ⟨i + 1, by simp only [go_sem, reduceIte, Nat.reduceEqDiff, Nat.reduceAdd, Nat.reduceSub, Nat.reduceLeDiff, Nat.reduceLT, reduceCtorEq, Int.reduceLT, Int.reduceLE, Int.reduceEq, Int.reduceBEq, Int.reduceSub, Int.reduceAdd, Int.reduceMul, Int.reduceNeg, Int.reduceToNat, Nat.reduceMul, Nat.reduceBEq, ren1_locm, loc_tips, locT_eq, hsucc, ren1_out, outAcc_snd, okRefsB, renCellsB] <;> rfl, ?_, ?_, fun x en s hq => ?_⟩
        · omega
        · omega
        · exact hq
      · rw [if_pos ⟨p1, p2⟩] at hsucc
        simp only [go_sem, reduceIte, Nat.reduceEqDiff, Nat.reduceAdd, Nat.reduceSub, Nat.reduceLeDiff, Nat.reduceLT, reduceCtorEq, Int.reduceLT, Int.reduceLE, Int.reduceEq, Int.reduceBEq, Int.reduceSub, Int.reduceAdd, Int.reduceMul, Int.reduceNeg, Int.reduceToNat, Nat.reduceMul, Nat.reduceBEq, index_rsl_if, setm, make_ints, condK_dec, wantK_dec, not_dec, and_dec, or_dec, seqK_ite, seqK_none, blockK_ite, blockK_none, opsK_ite, opsK_none, stepK_ite, stepK_none, bodyK_ite, bodyK_none, resK_ite, resK_none, leaveK_ite, leaveK_none, only_ite, only_none, bind_ite, gives_some, gives_none, gives_ite, then_normal, then_ret, then_exit, then_none, then_ite, Option.bind_none, Bool.not_eq_true', decide_eq_false_iff_not, Bool.and_eq_true, Bool.or_eq_true, Option.some.injEq, Int.not_lt, Int.not_le, lp44_0, hlt, hi0, hs, hb1, hpair, hzl, wa, wb, zn, ta, tb, hm1, hm2, p1, h76, p2, happ, List.length_map]
        refine ⟨i + 1, by simp only [go_sem, reduceIte, Nat.reduceEqDiff, Nat.reduceAdd, Nat.reduceSub, Nat.reduceLeDiff, Nat.reduceLT, reduceCtorEq, Int.reduceLT, Int.reduceLE, Int.reduceEq, Int.reduceBEq, Int.reduceSub, Int.reduceAdd, Int.reduceMul, Int.reduceNeg, Int.reduceToNat, Nat.reduceMul, Nat.reduceBEq, ren1_locm, loc_tips, locT_eq, hsucc, ren1_out, outAcc_snd, okRefsB, renCellsB] <;> rfl, ?_, ?_, fun x en s hq => ?_⟩
        · omega
        · omega
        · exact hq
  · obtain rfl : i = k := by omega
    simp only [go_sem, reduceIte, Nat.reduceEqDiff, Nat.reduceAdd, Nat.reduceSub, Nat.reduceLeDiff, Nat.reduceLT, reduceCtorEq, Int.reduceLT, Int.reduceLE, Int.reduceEq, Int.reduceBEq, Int.reduceSub, Int.reduceAdd, Int.reduceMul, Int.reduceNeg, Int.reduceToNat, Nat.reduceMul, Nat.reduceBEq, index_rsl_if, setm, make_ints, condK_dec, wantK_dec, not_dec, and_dec, or_dec, seqK_ite, seqK_none, blockK_ite, blockK_none, opsK_ite, opsK_none, stepK_ite, stepK_none, bodyK_ite, bodyK_none, resK_ite, resK_none, leaveK_ite, leaveK_none, only_ite, only_none, bind_ite, gives_some, gives_none, gives_ite, then_normal, then_ret, then_exit, then_none, then_ite, Option.bind_none, Bool.not_eq_true', decide_eq_false_iff_not, Bool.and_eq_true, Bool.or_eq_true, Option.some.injEq, Int.not_lt, Int.not_le, lp44_0, show ((i : Int) < (i : Int)) = False from eq_false (by omega)]

def madeN (least : Int) (zs : List Int) : Int := least + zs.getD 0 0 % (8 - least)
def madeP (least : Int) (zs : List Int) : List (Int × Int) := madeTo (madeN least zs) zs (zs.getD 1 0 % 11).toNat

theorem c44 (zs : List Int) (hzl : zs.length = 22) (hz : ∀ a ∈ zs, Byte a) (least : Int) (hl : least = 1 ∨ least = 2) (st : St) :
    run L 44 [qAV zs, I least] st = some (bkAV true (madeN least zs) (madeP least zs), st) := by
  rw [run_pure (fn := ir44) rfl rfl]
  have b0 := byte_getD hz 0
  have b1 := byte_getD hz 1
  have g0 := getB zs 0 (by omega)
  have g1 := getB zs 1 (by omega)
  unfold madeP
  have hN : madeN least zs = least + zs.getD 0 0 % (8 - least) := rfl
  generalize zs.getD 0 0 = a at *
  generalize zs.getD 1 0 = b at *
  unfold Byte at b0 b1
  have ra := mod_range a (8 - least) (by omega)
  have rb := mod_range b 11 (by omega)
  have wa := wrap64 a (by omega) (by omega)
  have wb := wrap64 b (by omega) (by omega)
  have w8 := wrap64 (8 - least) (by omega) (by omega)
  have z8 : (8 - least = 0) = False := eq_false (by omega)
  have ta : a.tmod (8 - least) = a % (8 - least) := tmod8 (by omega)
  have tb : b.tmod 11 = b % 11 := tmod8 (by omega)
  have wn : IntKind.i64.wrap (least + a % (8 - least)) = madeN least zs := by rw [hN, wrap64] <;> omega
  have hn : 1 ≤ madeN least zs ∧ madeN least zs ≤ 7 := by omega
  obtain ⟨k, hk⟩ := Int.eq_ofNat_of_zero_le rb.1
  rw [hk, Int.toNat_natCast]
  have hk10 : k ≤ 10 := by omega
  have hsl : sliceaAV 10 2 true (.ptr 0 2) none (some (.v (.int .i64 (k : Int)))) none = some (.rsl 0 2 k 10 2 true) := by
    simp only [sliceaAV, natOr, natOf]
    simp; omega
  generalize madeN least zs = n at *
  simp only [ir44, go_sem, reduceIte, Nat.reduceEqDiff, Nat.reduceAdd, Nat.reduceSub, Nat.reduceLeDiff, Nat.reduceLT, reduceCtorEq, Int.reduceLT, Int.reduceLE, Int.reduceEq, Int.reduceBEq, Int.reduceSub, Int.reduceAdd, Int.reduceMul, Int.reduceNeg, Int.reduceToNat, Nat.reduceMul, Nat.reduceBEq, okRefsB, renCellsB, pubsB, storableB, g0, g1, wa, wb, w8, z8, ta, tb, hk, wn, hsl, hzl, List.length_map]
  generalize hg : lim (headed pure (run L) true _ lp44_0 _ _) _ _ = o
  obtain ⟨x, en, s, rfl, h2⟩ : ∃ x en s, o = some (x, en, s) ∧ _ := by rw [← hg]; exact loop44 zs hzl hz n hn k hk10 0 (by omega) _ _ (by simp only [go_sem, reduceIte, Nat.reduceEqDiff, Nat.reduceAdd, Nat.reduceSub, Nat.reduceLeDiff, Nat.reduceLT, reduceCtorEq, Int.reduceLT, Int.reduceLE, Int.reduceEq, Int.reduceBEq, Int.reduceSub, Int.reduceAdd, Int.reduceMul, Int.reduceNeg, Int.reduceToNat, Nat.reduceMul, Nat.reduceBEq, okRefsB, renCellsB, madeTo, out_start, outT_nil, ren1_out, outAcc_snd, Int.natCast_zero] <;> rfl)
  clear hg
  obtain ⟨rfl, h4, h5, rfl⟩ := h2
  simp only [go_sem, reduceIte, Nat.reduceEqDiff, Nat.reduceAdd, Nat.reduceSub, Nat.reduceLeDiff, Nat.reduceLT, reduceCtorEq, Int.reduceLT, Int.reduceLE, Int.reduceEq, Int.reduceBEq, Int.reduceSub, Int.reduceAdd, Int.reduceMul, Int.reduceNeg, Int.reduceToNat, Nat.reduceMul, Nat.reduceBEq, h4, h5]
end Go.Proofs.YtpmbfgogpcjdlaaDoor.Vm

namespace Go.Proofs.YtpmbfgogpcjdlaaDoor.Vm
open Go Go.Ev Go.ChangeShapes Go.WideShapes Go.ChangeAt Go.RowKit
set_option maxRecDepth 100000
attribute [local go_sem] cells_any storable_any ren1_any shaped_ptr cells_ptr storable_ptr ren1_ptr shaped_eptr cells_eptr storable_eptr ren1_eptr shaped_rsl cells_rsl storable_rsl ren1_rsl shaped_int cells_int storable_int ren1_int shaped_bool cells_bool storable_bool ren1_bool shaped_nils cells_nils storable_nils ren1_nils shaped_lst cells_lst storable_lst shaped_fn cells_fn storable_fn ren1_fn shaped_ifc cells_ifc storable_ifc ren1_ifc shaped_agg cells_agg storable_agg ren1_agg shaped_tup cells_tup storable_tup ren1_tup shaped_nif cells_nif storable_nif ren1_nif ren1_lany ren1_lfull ren1_lown len_lst len_rsl len_nil load_ptr load_eptr isRsl_lst isRsl_nil isRsl_rsl elems_nil elems_lst elems_sl isRsl_sl body_eq bodyK_normal bodyK_ret resK_some leaveK_some only_some code_skip code_exit code_ret code_ops code_seq code_cond code_block seqK_normal seqK_ret seqK_exit condK_true condK_false blockK_normal blockK_ret blockK_exit opsK_some ops_nil ops_cons wantK_true wantK_false stepK_some pubs pub pub_sl params okRef_loc storable_loc shaped_loc cells_loc isRsl_loc elems_loc len_loc untips untip untip_sl wantedAV setElems withO isAgg_v isAgg_agg isAgg_lst isAgg_ptr isAgg_fn isAgg_ifc isAgg_rsl isAgg_sl isAgg_loc List.replicate_succ List.replicate_zero opAV valAV aval avals ofVal Env.get setD canon gcAV renAll renEnv renStore renCells ren1_sl cutSt okEnv okStore okRefs okRef okRef_sl bin_int bin_bool bin_lst bin_rsl bin_nil bin_agg cellsEq cellEq isShift intOp boolOp min_int max_int beq_int bne resAV tupAV leave_eq fin_sl fin_loc fins fin_v fin_lst fin_agg fin_tup fin_fn storeAV readCells putCells cells_sl shaped_sl storable_sl fieldAddrAV len_sl goI List.getElem?_cons_zero List.getElem?_cons_succ List.getElem?_nil Option.bind_some Option.map_some List.length_cons List.length_nil List.all_cons List.all_nil Bool.and_true Bool.true_and Bool.and_false Bool.false_and and_true true_and and_false false_and Bool.false_eq_true List.set_cons_zero List.set_cons_succ List.append_nil List.nil_append List.cons_append List.take_zero List.take_succ_cons List.take_nil List.drop_zero List.drop_succ_cons List.map_cons List.map_nil decide_true decide_false beq_self_eq_true Bool.not_true Bool.not_false or_true true_or or_false false_or Nat.zero_add Nat.add_zero Nat.le_refl Nat.lt_irrefl decide_eq_true_eq eq_self_iff_true not_true_eq_false not_false_eq_true List.getD_cons_zero code_loop Nat.zero_le Nat.not_lt_zero Bool.true_beq Bool.false_beq beq_true beq_false ge_iff_le gt_iff_lt Lpure pus Option.map_none assert_ifc assert_nil idxA_ptr idxA_eptr idxV_agg Int.cast_ofNat_Int Nat.mul_one Nat.zero_mul Int.toNat_natCast Int.toNat_zero setParts withO2 hasKey eqnil_sl nenil_sl eqnil_loc nenil_loc map_nil_iff okRefs_ints renCells_ints

theorem cells5 : Tryd.prog.cellsOf 5 = 1 := by kernel_rfl
theorem cells57 : Tryd.prog.cellsOf 57 = 2 := by kernel_rfl
theorem cells58 : Tryd.prog.cellsOf 58 = 20 := by kernel_rfl
theorem cells60 : Tryd.prog.cellsOf 60 = 22 := by kernel_rfl
theorem one_byte {d : Nat} {bs : List AV} (h : Sh Tryd.prog (d + 1) 5 bs) : ∃ zs : List Int, bs = zs.map B8 ∧ zs.length = 1 ∧ ∀ n ∈ zs, Byte n := by
  simp only [Sh, Tryd.underlying5] at h
  obtain ⟨n, h1, h2⟩ := h
  exact ⟨[n], h1, rfl, by simp; exact bounds_u8 h2⟩
/-- Parts of bytes. -/
theorem all_parts (z : Nat) : ∀ (k : Nat) (bs : List AV), bs.length = k * z → (∀ i, i < k → ∃ zs : List Int, (bs.drop (i * z)).take z = zs.map B8 ∧ zs.length = z ∧ ∀ n ∈ zs, Byte n) → ∃ zs : List Int, bs = zs.map B8 ∧ zs.length = k * z ∧ ∀ n ∈ zs, Byte n
  | 0, bs, hl, _ => ⟨[], by have : bs.length = 0 := by simpa using hl
                            simpa using this, by simp, by simp⟩
  | k + 1, bs, hl, h => by
    rw [Nat.succ_mul] at hl
    obtain ⟨zs, h1, h2, h3⟩ := h 0 (by omega)
    rw [Nat.zero_mul, List.drop_zero] at h1
    obtain ⟨ys, g1, g2, g3⟩ := all_parts z k (bs.drop z) (by simp; omega) fun i hi => by
      obtain ⟨xs, q1, q2, q3⟩ := h (i + 1) (by omega)
      refine ⟨xs, ?_, q2, q3⟩
      rw [List.drop_drop, ← q1, Nat.succ_mul, Nat.add_comm (i * z) z]
    refine ⟨zs ++ ys, ?_, by rw [List.length_append, h2, g2, Nat.succ_mul]; omega, ?_⟩
    · rw [List.map_append, ← h1, ← g1, List.take_append_drop]
    · intro n hn
      rcases List.mem_append.1 hn with hn | hn
      · exact h3 n hn
      · exact g3 n hn
theorem sh_b57 {d : Nat} {bs : List AV} (h : Sh Tryd.prog (d + 2) 57 bs) : ∃ zs : List Int, bs = zs.map B8 ∧ zs.length = 2 ∧ ∀ n ∈ zs, Byte n := by
  unfold Sh at h
  simp only [Tryd.underlying57, cells57, cells5] at h
  exact all_parts 1 2 bs (by omega) (fun i hi => one_byte (h.2 i hi))
theorem sh_b58 {d : Nat} {bs : List AV} (h : Sh Tryd.prog (d + 3) 58 bs) : ∃ zs : List Int, bs = zs.map B8 ∧ zs.length = 20 ∧ ∀ n ∈ zs, Byte n := by
  unfold Sh at h
  simp only [Tryd.underlying58, cells58, cells57] at h
  exact all_parts 2 10 bs (by omega) (fun i hi => sh_b57 (h.2 i hi))
/-- A book by numbers. -/
theorem sh_quarrel {a : AV} (h : ShV Tryd.prog 8 60 a) : ∃ zs : List Int, a = qAV zs ∧ zs.length = 22 ∧ ∀ n ∈ zs, Byte n := by
  unfold ShV at h
  rw [if_pos (by unfold aggB; rw [Tryd.underlying60])] at h
  obtain ⟨cs, rfl, hs⟩ := h
  unfold Sh at hs
  simp only [Tryd.underlying60, cells60] at hs
  obtain ⟨h1, h2⟩ := hs
  have f0 := h2 0 _ rfl
  have f1 := h2 1 _ rfl
  have f2 := h2 2 _ rfl
  simp only [List.getElem_toArray, List.getElem_cons_zero, List.getElem_cons_succ, cells5, cells58] at f0 f1 f2
  obtain ⟨ar, e0, l0, b0⟩ := one_byte f0
  obtain ⟨bs, e1, l1, b1⟩ := one_byte f1
  obtain ⟨es, e2, l2, b2⟩ := sh_b58 f2
  refine ⟨ar ++ (bs ++ es), ?_, by simp [l0, l1, l2], ?_⟩
  · have s5 : (cs.drop 2).take 20 = cs.drop 2 := List.take_of_length_le (by simp [h1])
    have s2 : (cs.drop 1).take 1 ++ cs.drop 2 = cs.drop 1 := by
      have := List.take_append_drop 1 (cs.drop 1)
      rw [List.drop_drop] at this
      exact this
    have s1 : (cs.drop 0).take 1 ++ cs.drop 1 = cs := by
      have := List.take_append_drop 1 cs
      simpa using this
    show AV.agg cs = AV.agg _
    rw [List.map_append, List.map_append, ← e0, ← e1, ← e2, s5, s2, s1]
  · intro n hn
    rcases List.mem_append.1 hn with hn | hn
    · exact b0 n hn
    · rcases List.mem_append.1 hn with hn | hn
      · exact b1 n hn
      · exact b2 n hn
end Go.Proofs.YtpmbfgogpcjdlaaDoor.Vm

namespace Go.Proofs.YtpmbfgogpcjdlaaDoor.Vm
open Go Go.Ev
set_option maxRecDepth 100000
attribute [local go_sem] cells_any storable_any ren1_any shaped_ptr cells_ptr storable_ptr ren1_ptr shaped_eptr cells_eptr storable_eptr ren1_eptr shaped_rsl cells_rsl storable_rsl ren1_rsl shaped_int cells_int storable_int ren1_int shaped_bool cells_bool storable_bool ren1_bool shaped_nils cells_nils storable_nils ren1_nils shaped_lst cells_lst storable_lst shaped_fn cells_fn storable_fn ren1_fn shaped_ifc cells_ifc storable_ifc ren1_ifc shaped_agg cells_agg storable_agg ren1_agg shaped_tup cells_tup storable_tup ren1_tup shaped_nif cells_nif storable_nif ren1_nif ren1_lany ren1_lfull ren1_lown len_lst len_rsl len_nil load_ptr load_eptr isRsl_lst isRsl_nil isRsl_rsl elems_nil elems_lst elems_sl isRsl_sl body_eq bodyK_normal bodyK_ret resK_some leaveK_some only_some code_skip code_exit code_ret code_ops code_seq code_cond code_block seqK_normal seqK_ret seqK_exit condK_true condK_false blockK_normal blockK_ret blockK_exit opsK_some ops_nil ops_cons wantK_true wantK_false stepK_some pubs pub pub_sl params okRef_loc storable_loc shaped_loc cells_loc isRsl_loc elems_loc len_loc untips untip untip_sl wantedAV setElems withO isAgg_v isAgg_agg isAgg_lst isAgg_ptr isAgg_fn isAgg_ifc isAgg_rsl isAgg_sl isAgg_loc List.replicate_succ List.replicate_zero opAV valAV aval avals ofVal Env.get setD canon gcAV renAll renEnv renStore renCells ren1_sl cutSt okEnv okStore okRefs okRef okRef_sl bin_int bin_bool bin_lst bin_rsl bin_nil bin_agg cellsEq cellEq isShift intOp boolOp min_int max_int beq_int bne resAV tupAV leave_eq fin_sl fin_loc fins fin_v fin_lst fin_agg fin_tup fin_fn storeAV readCells putCells cells_sl shaped_sl storable_sl fieldAddrAV len_sl goI List.getElem?_cons_zero List.getElem?_cons_succ List.getElem?_nil Option.bind_some Option.map_some List.length_cons List.length_nil List.all_cons List.all_nil Bool.and_true Bool.true_and Bool.and_false Bool.false_and and_true true_and and_false false_and Bool.false_eq_true List.set_cons_zero List.set_cons_succ List.append_nil List.nil_append List.cons_append List.take_zero List.take_succ_cons List.take_nil List.drop_zero List.drop_succ_cons List.map_cons List.map_nil decide_true decide_false beq_self_eq_true Bool.not_true Bool.not_false or_true true_or or_false false_or Nat.zero_add Nat.add_zero Nat.le_refl Nat.lt_irrefl decide_eq_true_eq eq_self_iff_true not_true_eq_false not_false_eq_true List.getD_cons_zero code_loop Nat.zero_le Nat.not_lt_zero Bool.true_beq Bool.false_beq beq_true beq_false ge_iff_le gt_iff_lt Lpure pus Option.map_none assert_ifc assert_nil idxA_ptr idxA_eptr idxV_agg Int.cast_ofNat_Int Nat.mul_one Nat.zero_mul Int.toNat_natCast Int.toNat_zero setParts withO2 hasKey eqnil_sl nenil_sl eqnil_loc nenil_loc map_nil_iff okRefs_ints renCells_ints

/-! ### a book by numbers is a good one -/
theorem prsErr_ok {n : Int} : ∀ (ps seen : List (Int × Int)), (∀ p ∈ ps, 0 ≤ p.1 ∧ p.1 < p.2 ∧ p.2 < n) → (seen ++ ps).Nodup → prsErr n seen ps = 0
  | [], _, _, _ => rfl
  | p :: r, seen, h, hn => by
    have hp := h p (by simp)
    have h1 : p ∉ seen := by
      intro hs
      rw [List.nodup_append] at hn
      exact hn.2.2 p hs p (by simp) rfl
    have e : prErr n seen p = 0 := by
      unfold prErr
      rw [if_neg (by omega), if_neg (by omega), if_neg h1]
    simp only [prsErr, e, if_true]
    exact prsErr_ok r _ (fun q hq => h q (by simp [hq])) (by simpa using hn)
theorem mk_ok {n : Int} (hn : 0 < n) {out : List (Int × Int)} (h : (∀ p ∈ out, 0 ≤ p.1 ∧ p.1 < p.2 ∧ p.2 < n) ∧ out.Nodup) (a b : Int) :
    (∀ p ∈ mkStep n out a b, 0 ≤ p.1 ∧ p.1 < p.2 ∧ p.2 < n) ∧ (mkStep n out a b).Nodup := by
  have ra := mod_range a n hn
  have rb := mod_range b n hn
  unfold mkStep
  split
  · next hc =>
    refine ⟨fun p hp => ?_, ?_⟩
    · rcases List.mem_append.1 hp with hp | hp
      · exact h.1 p hp
      · rw [List.mem_singleton] at hp; subst hp; simp only; omega
    · rw [List.nodup_append]
      refine ⟨h.2, by simp, fun x hx y hy => ?_⟩
      rw [List.mem_singleton] at hy; subst hy
      intro e; subst e; exact hc.2 hx
  · exact h
theorem madeTo_ok {n : Int} (hn : 0 < n) (zs : List Int) : ∀ k, (∀ p ∈ madeTo n zs k, 0 ≤ p.1 ∧ p.1 < p.2 ∧ p.2 < n) ∧ (madeTo n zs k).Nodup
  | 0 => by simp [madeTo]
  | k + 1 => mk_ok hn (madeTo_ok hn zs k) _ _
/-- What is known of a book by numbers. -/
theorem made_ok {least : Int} (hl : least = 1 ∨ least = 2) (zs : List Int) :
    ∃ n : Nat, madeN least zs = n ∧ 1 ≤ n ∧ least ≤ n ∧ n ≤ 7 ∧ (madeP least zs).length ≤ 10 ∧ (∀ p ∈ madeP least zs, 0 ≤ p.1 ∧ p.1 < p.2 ∧ p.2 < (n : Int)) ∧ (∀ p ∈ madeP least zs, okP p) ∧ (madeP least zs).Nodup ∧ chk (n : Int) (madeP least zs) = 0 := by
  have r0 := mod_range (zs.getD 0 0) (8 - least) (by omega)
  have r1 := mod_range (zs.getD 1 0) 11 (by omega)
  have hN : madeN least zs = least + zs.getD 0 0 % (8 - least) := rfl
  obtain ⟨n, hn⟩ := Int.eq_ofNat_of_zero_le (show 0 ≤ madeN least zs by omega)
  have h1 := madeTo_ok (n := madeN least zs) (by omega) zs (zs.getD 1 0 % 11).toNat
  have h2 := madeTo_len (madeN least zs) zs (zs.getD 1 0 % 11).toNat
  have e : madeP least zs = madeTo (madeN least zs) zs (zs.getD 1 0 % 11).toNat := rfl
  rw [← e] at h1 h2
  rw [hn] at h1
  refine ⟨n, hn, by omega, by omega, by omega, by omega, h1.1, fun p hp => ?_, h1.2, ?_⟩
  · have := h1.1 p hp; unfold okP; omega
  · unfold chk
    rw [if_neg (by omega), if_neg (by omega)]
    exact prsErr_ok _ [] h1.1 (by simpa using h1.2)

/-! ### a set and its list -/


/-! ### sets as ints -/
theorem and_i (n : Nat) : binAV .and none (.v (.int .i64 (n : Int))) (.v (.int .i64 1)) = some (.v (.int .i64 ((n % 2 : Nat) : Int))) := by
  have h : (BitVec.ofInt 64 (n : Int) &&& BitVec.ofInt 64 1).toNat = n % 2 := by
    rw [BitVec.toNat_and]
    have : (BitVec.ofInt 64 1).toNat = 1 := by decide
    rw [this, Nat.and_one_is_mod, BitVec.ofInt_natCast, BitVec.toNat_ofNat]
    omega
  show some (AV.v (.int .i64 (IntKind.i64.wrap ((BitVec.ofInt 64 (n : Int) &&& BitVec.ofInt 64 1).toNat : Int)))) = _
  rw [h, wrap64] <;> omega
theorem shr_i (m p : Nat) : binAV .shr none (.v (.int .i64 (m : Int))) (.v (.int .i64 (p : Int))) = some (.v (.int .i64 ((m >>> min p 64 : Nat) : Int))) := by
  have e := shrU m (min p 64)
  show (if (p : Int) < 0 then none else some (AV.v (.int .i64 (Int.fdiv (m : Int) (2 ^ min (Int.toNat (p : Int)) 64))))) = _
  rw [if_neg (by omega), Int.toNat_natCast]
  have e2 : ((2 : Int) ^ (min p 64)) = ((2 ^ (min p 64) : Nat) : Int) := by simp
  rw [e2, Int.fdiv_eq_ediv_of_nonneg _ (Int.natCast_nonneg _), Nat.shiftRight_eq_div_pow]
  simp
def shI (p : Nat) : Int := IntKind.i64.wrap (1 * 2 ^ (min p 64))
theorem shl_i (p : Nat) : binAV .shl none (.v (.int .i64 1)) (.v (.int .i64 (p : Int))) = some (.v (.int .i64 (shI p))) := by
  show (if (p : Int) < 0 then none else some (AV.v (.int .i64 (IntKind.i64.wrap (1 * (2 ^ (min (Int.toNat (p : Int)) 64))))))) = _
  rw [if_neg (by omega), Int.toNat_natCast]; rfl
theorem shI_eq (p : Nat) (h : p ≤ 7) : shI p = ((2 ^ p : Nat) : Int) := by
  have : p = 0 ∨ p = 1 ∨ p = 2 ∨ p = 3 ∨ p = 4 ∨ p = 5 ∨ p = 6 ∨ p = 7 := by omega
  rcases this with rfl | rfl | rfl | rfl | rfl | rfl | rfl | rfl <;> rfl
attribute [local go_sem high] and_i shr_i shl_i
theorem bit_one (m p : Nat) : ((((m >>> p) % 2 : Nat) : Int) = 1) = (m.testBit p = true) := by
  have h := bitI_eq m p
  unfold bitI at h
  rw [h]
  split
  · next h2 => simp [h2]
  · next h2 => simp [h2]

theorem loop55 (nl : Bool) (n : Int) (ps : List (Int × Int)) (hlen : ps.length < 1000000) (h7 : ∀ p ∈ ps, okP p) (m : Nat) (i : Nat) (hok : i ≤ ps.length) (env : Env) (st : St)
    (hg : gcAV true 1 0 (canon env [1, 8, 9, 10]) st = ([(1, .v (.int .i64 (m : Int))), (8, sl 2 nl (ps.map prAV)), (9, I ps.length), (10, I i)], ⟨[bkCells nl n ps], []⟩)) :
    ∃ x_1 en s, lim (headed pure (run L) true [1, 8, 9, 10] lp55_0 1 0) env st = some (x_1, en, s) ∧ (if (ps.drop i).any (openP m) = true then x_1 = .ret ∧ en.get 4 = B false else x_1 = .exit 0) := by
  refine loop_wp (α := Nat) (fun i => ps.length - i) (fun i => i ≤ ps.length) (fun i => ([(1, .v (.int .i64 (m : Int))), (8, sl 2 nl (ps.map prAV)), (9, I ps.length), (10, I i)], ⟨[bkCells nl n ps], []⟩)) (fun i x_1 en s => if (ps.drop i).any (openP m) = true then x_1 = .ret ∧ en.get 4 = B false else x_1 = .exit 0) (fun i hok => ?_) i hok env st hg
  by_cases h : i < ps.length
  · have hx := index_prs nl ps i h
    have hs := succ64 i (by omega)
    have hd : ps.drop i = ps[i] :: ps.drop (i + 1) := List.drop_eq_getElem_cons h
    have hp := h7 ps[i] (List.getElem_mem h)
    rw [hd, List.any_cons]
    generalize ps[i] = c at *
    obtain ⟨u, v⟩ := c
    obtain ⟨a1, a2, a3, a4⟩ := hp
    simp only at a1 a2 a3 a4 hx
    obtain ⟨u, rfl⟩ := Int.eq_ofNat_of_zero_le a1
    obtain ⟨v, rfl⟩ := Int.eq_ofNat_of_zero_le a3
    have hlt : ((i : Int) < (ps.length : Int)) = True := eq_true (by omega)
    have hs1 := min64 u (by omega)
    have hs2 := min64 v (by omega)
    have z1 := bit_zero m u
    have z2 := bit_zero m v
    have hop : openP m ((u : Int), (v : Int)) = (!(m.testBit u) && !(m.testBit v)) := by unfold openP; simp only [Int.toNat_natCast]
    rw [hop]
    cases p1 : m.testBit u
    · cases p2 : m.testBit v
      · simp only [go_sem, reduceIte, Nat.reduceEqDiff, Nat.reduceAdd, Nat.reduceSub, Nat.reduceLeDiff, Nat.reduceLT, reduceCtorEq, Int.reduceLT, Int.reduceLE, Int.reduceEq, Int.reduceBEq, Int.reduceSub, Int.reduceAdd, Int.reduceMul, Int.reduceNeg, Int.reduceToNat, Nat.reduceMul, Nat.reduceBEq, index_rsl_if, setm, make_ints, condK_dec, wantK_dec, not_dec, and_dec, or_dec, seqK_ite, seqK_none, blockK_ite, blockK_none, opsK_ite, opsK_none, stepK_ite, stepK_none, bodyK_ite, bodyK_none, resK_ite, resK_none, leaveK_ite, leaveK_none, only_ite, only_none, bind_ite, gives_some, gives_none, gives_ite, then_normal, then_ret, then_exit, then_none, then_ite, Option.bind_none, Bool.not_eq_true', decide_eq_false_iff_not, Bool.and_eq_true, Bool.or_eq_true, Option.some.injEq, Int.not_lt, Int.not_le, lp55_0, hx, hlt, hs1, hs2, z1, z2, p1, p2]
      · simp only [go_sem, reduceIte, Nat.reduceEqDiff, Nat.reduceAdd, Nat.reduceSub, Nat.reduceLeDiff, Nat.reduceLT, reduceCtorEq, Int.reduceLT, Int.reduceLE, Int.reduceEq, Int.reduceBEq, Int.reduceSub, Int.reduceAdd, Int.reduceMul, Int.reduceNeg, Int.reduceToNat, Nat.reduceMul, Nat.reduceBEq, index_rsl_if, setm, make_ints, condK_dec, wantK_dec, not_dec, and_dec, or_dec, seqK_ite, seqK_none, blockK_ite, blockK_none, opsK_ite, opsK_none, stepK_ite, stepK_none, bodyK_ite, bodyK_none, resK_ite, resK_none, leaveK_ite, leaveK_none, only_ite, only_none, bind_ite, gives_some, gives_none, gives_ite, then_normal, then_ret, then_exit, then_none, then_ite, Option.bind_none, Bool.not_eq_true', decide_eq_false_iff_not, Bool.and_eq_true, Bool.or_eq_true, Option.some.injEq, Int.not_lt, Int.not_le, lp55_0, hx, hlt, hs1, hs2, z1, z2, p1, p2, hs]
        refine ⟨i + 1, by simp only [go_sem, reduceIte, Nat.reduceEqDiff, Nat.reduceAdd, Nat.reduceSub, Nat.reduceLeDiff, Nat.reduceLT, reduceCtorEq, Int.reduceLT, Int.reduceLE, Int.reduceEq, Int.reduceBEq, Int.reduceSub, Int.reduceAdd, Int.reduceMul, Int.reduceNeg, Int.reduceToNat, Nat.reduceMul, Nat.reduceBEq, ren1_locm, loc_tips, locT_eq] <;> rfl, ?_, ?_, fun x en s hq => ?_⟩
        · omega
        · omega
        · simpa using hq
    · simp only [go_sem, reduceIte, Nat.reduceEqDiff, Nat.reduceAdd, Nat.reduceSub, Nat.reduceLeDiff, Nat.reduceLT, reduceCtorEq, Int.reduceLT, Int.reduceLE, Int.reduceEq, Int.reduceBEq, Int.reduceSub, Int.reduceAdd, Int.reduceMul, Int.reduceNeg, Int.reduceToNat, Nat.reduceMul, Nat.reduceBEq, index_rsl_if, setm, make_ints, condK_dec, wantK_dec, not_dec, and_dec, or_dec, seqK_ite, seqK_none, blockK_ite, blockK_none, opsK_ite, opsK_none, stepK_ite, stepK_none, bodyK_ite, bodyK_none, resK_ite, resK_none, leaveK_ite, leaveK_none, only_ite, only_none, bind_ite, gives_some, gives_none, gives_ite, then_normal, then_ret, then_exit, then_none, then_ite, Option.bind_none, Bool.not_eq_true', decide_eq_false_iff_not, Bool.and_eq_true, Bool.or_eq_true, Option.some.injEq, Int.not_lt, Int.not_le, lp55_0, hx, hlt, hs1, z1, p1, hs]
      refine ⟨i + 1, by simp only [go_sem, reduceIte, Nat.reduceEqDiff, Nat.reduceAdd, Nat.reduceSub, Nat.reduceLeDiff, Nat.reduceLT, reduceCtorEq, Int.reduceLT, Int.reduceLE, Int.reduceEq, Int.reduceBEq, Int.reduceSub, Int.reduceAdd, Int.reduceMul, Int.reduceNeg, Int.reduceToNat, Nat.reduceMul, Nat.reduceBEq, ren1_locm, loc_tips, locT_eq] <;> rfl, ?_, ?_, fun x en s hq => ?_⟩
      · omega
      · omega
      · simpa using hq
  · have hd : ps.drop i = [] := List.drop_eq_nil_of_le (by omega)
    have hlt : ((i : Int) < (ps.length : Int)) = False := eq_false (by omega)
    simp only [go_sem, reduceIte, Nat.reduceEqDiff, Nat.reduceAdd, Nat.reduceSub, Nat.reduceLeDiff, Nat.reduceLT, reduceCtorEq, Int.reduceLT, Int.reduceLE, Int.reduceEq, Int.reduceBEq, Int.reduceSub, Int.reduceAdd, Int.reduceMul, Int.reduceNeg, Int.reduceToNat, Nat.reduceMul, Nat.reduceBEq, index_rsl_if, setm, make_ints, condK_dec, wantK_dec, not_dec, and_dec, or_dec, seqK_ite, seqK_none, blockK_ite, blockK_none, opsK_ite, opsK_none, stepK_ite, stepK_none, bodyK_ite, bodyK_none, resK_ite, resK_none, leaveK_ite, leaveK_none, only_ite, only_none, bind_ite, gives_some, gives_none, gives_ite, then_normal, then_ret, then_exit, then_none, then_ite, Option.bind_none, Bool.not_eq_true', decide_eq_false_iff_not, Bool.and_eq_true, Bool.or_eq_true, Option.some.injEq, Int.not_lt, Int.not_le, lp55_0, hlt]
    rw [hd]; simp

theorem c55 (nl : Bool) (n : Int) (ps : List (Int × Int)) (hlen : ps.length < 1000000) (h7 : ∀ p ∈ ps, okP p) (m : Nat) (st : St) :
    run L 55 [bkAV nl n ps, I (m : Int)] st = some (B (expl ps m), st) := by
  rw [run_pure (fn := ir55) rfl rfl]
  simp only [ir55, go_sem, reduceIte, Nat.reduceEqDiff, Nat.reduceAdd, Nat.reduceSub, Nat.reduceLeDiff, Nat.reduceLT, reduceCtorEq, Int.reduceLT, Int.reduceLE, Int.reduceEq, Int.reduceBEq, Int.reduceSub, Int.reduceAdd, Int.reduceMul, Int.reduceNeg, Int.reduceToNat, Nat.reduceMul, Nat.reduceBEq, List.length_map]
  generalize hg : lim (headed pure (run L) true _ lp55_0 _ _) _ _ = o
  obtain ⟨x, en, s, rfl, h2⟩ : ∃ x en s, o = some (x, en, s) ∧ _ := by rw [← hg]; exact loop55 nl n ps hlen h7 m 0 (by omega) _ _ (by simp only [go_sem, reduceIte, Nat.reduceEqDiff, Nat.reduceAdd, Nat.reduceSub, Nat.reduceLeDiff, Nat.reduceLT, reduceCtorEq, Int.reduceLT, Int.reduceLE, Int.reduceEq, Int.reduceBEq, Int.reduceSub, Int.reduceAdd, Int.reduceMul, Int.reduceNeg, Int.reduceToNat, Nat.reduceMul, Nat.reduceBEq] <;> rfl)
  clear hg
  rw [List.drop_zero] at h2
  unfold expl
  cases h : ps.any (openP m)
  · rw [h, if_neg (by simp)] at h2
    subst h2
    simp only [go_sem, reduceIte, Nat.reduceEqDiff, Nat.reduceAdd, Nat.reduceSub, Nat.reduceLeDiff, Nat.reduceLT, reduceCtorEq, Int.reduceLT, Int.reduceLE, Int.reduceEq, Int.reduceBEq, Int.reduceSub, Int.reduceAdd, Int.reduceMul, Int.reduceNeg, Int.reduceToNat, Nat.reduceMul, Nat.reduceBEq]
  · rw [h, if_pos rfl] at h2
    obtain ⟨rfl, h3⟩ := h2
    simp only [go_sem, reduceIte, Nat.reduceEqDiff, Nat.reduceAdd, Nat.reduceSub, Nat.reduceLeDiff, Nat.reduceLT, reduceCtorEq, Int.reduceLT, Int.reduceLE, Int.reduceEq, Int.reduceBEq, Int.reduceSub, Int.reduceAdd, Int.reduceMul, Int.reduceNeg, Int.reduceToNat, Nat.reduceMul, Nat.reduceBEq, h3]

/-- The members of a set below a number. -/
def membTo (m a : Nat) : List Int := ((List.range a).filter m.testBit).map fun (i : Nat) => (i : Int)
theorem membTo_succ (m a : Nat) : membTo m (a + 1) = if m.testBit a = true then membTo m a ++ [(a : Int)] else membTo m a := by
  unfold membTo
  rw [List.range_succ, List.filter_append, List.map_append]
  split
  · next h => simp [h]
  · next h => simp [h]
theorem membTo_len (m a : Nat) : (membTo m a).length ≤ a := by
  unfold membTo; rw [List.length_map]
  exact Nat.le_trans (List.length_filter_le _ _) (by simp)

theorem loop56 (m : Nat) (a : Nat) (hok : a ≤ 7) (env : Env) (st : St)
    (hg : gcAV true 0 0 (canon env [0, 3, 5]) st = ([(0, .v (.int .i64 (m : Int))), (3, loc 1 0 ((membTo m a).map I)), (5, I a)], ⟨[], locT 0 ((membTo m a).map I)⟩)) :
    ∃ x_1 en s, lim (headed pure (run L) true [0, 3, 5] lp56_0 0 0) env st = some (x_1, en, s) ∧ (x_1 = .exit 0 ∧ en.get 3 = loc 1 0 ((memb m).map I)) := by
  refine loop_wp (α := Nat) (fun a => 7 - a) (fun a => a ≤ 7) (fun a => ([(0, .v (.int .i64 (m : Int))), (3, loc 1 0 ((membTo m a).map I)), (5, I a)], ⟨[], locT 0 ((membTo m a).map I)⟩)) (fun a x_1 en s => x_1 = .exit 0 ∧ en.get 3 = loc 1 0 ((memb m).map I)) (fun a hok => ?_) a hok env st hg
  by_cases h : a < 7
  · have hs := succ64 a (by omega)
    have hlt : ((a : Int) < 7) = True := eq_true (by omega)
    have hs1 := min64 a (by omega)
    have z1 := bit_one m a
    have hsu := membTo_succ m a
    have hl := membTo_len m a
    have happ := append_locm (z := 1) (k := 0) I (membTo m a) (a : Int) [] (by omega) (by simp [maxGrow]; omega)
    cases p : m.testBit a
    · rw [if_neg (by simp [p])] at hsu
      simp only [go_sem, reduceIte, Nat.reduceEqDiff, Nat.reduceAdd, Nat.reduceSub, Nat.reduceLeDiff, Nat.reduceLT, reduceCtorEq, Int.reduceLT, Int.reduceLE, Int.reduceEq, Int.reduceBEq, Int.reduceSub, Int.reduceAdd, Int.reduceMul, Int.reduceNeg, Int.reduceToNat, Nat.reduceMul, Nat.reduceBEq, index_rsl_if, setm, make_ints, condK_dec, wantK_dec, not_dec, and_dec, or_dec, seqK_ite, seqK_none, blockK_ite, blockK_none, opsK_ite, opsK_none, stepK_ite, stepK_none, bodyK_ite, bodyK_none, resK_ite, resK_none, leaveK_ite, leaveK_none, only_ite, only_none, bind_ite, gives_some, gives_none, gives_ite, then_normal, then_ret, then_exit, then_none, then_ite, Option.bind_none, Bool.not_eq_true', decide_eq_false_iff_not, Bool.and_eq_true, Bool.or_eq_true, Option.some.injEq, Int.not_lt, Int.not_le, lp56_0, hlt, hs, hs1, z1, p]
      refine ⟨a + 1, by simp only [go_sem, reduceIte, Nat.reduceEqDiff, Nat.reduceAdd, Nat.reduceSub, Nat.reduceLeDiff, Nat.reduceLT, reduceCtorEq, Int.reduceLT, Int.reduceLE, Int.reduceEq, Int.reduceBEq, Int.reduceSub, Int.reduceAdd, Int.reduceMul, Int.reduceNeg, Int.reduceToNat, Nat.reduceMul, Nat.reduceBEq, ren1_locm, loc_tips, locT_eq, hsu] <;> rfl, ?_, ?_, fun x en s hq => ?_⟩
      · omega
      · omega
      · exact hq
    · rw [if_pos p] at hsu
      rw [← hsu] at happ
      simp only [go_sem, reduceIte, Nat.reduceEqDiff, Nat.reduceAdd, Nat.reduceSub, Nat.reduceLeDiff, Nat.reduceLT, reduceCtorEq, Int.reduceLT, Int.reduceLE, Int.reduceEq, Int.reduceBEq, Int.reduceSub, Int.reduceAdd, Int.reduceMul, Int.reduceNeg, Int.reduceToNat, Nat.reduceMul, Nat.reduceBEq, index_rsl_if, setm, make_ints, condK_dec, wantK_dec, not_dec, and_dec, or_dec, seqK_ite, seqK_none, blockK_ite, blockK_none, opsK_ite, opsK_none, stepK_ite, stepK_none, bodyK_ite, bodyK_none, resK_ite, resK_none, leaveK_ite, leaveK_none, only_ite, only_none, bind_ite, gives_some, gives_none, gives_ite, then_normal, then_ret, then_exit, then_none, then_ite, Option.bind_none, Bool.not_eq_true', decide_eq_false_iff_not, Bool.and_eq_true, Bool.or_eq_true, Option.some.injEq, Int.not_lt, Int.not_le, lp56_0, hlt, hs, hs1, z1, p, happ]
      refine ⟨a + 1, by simp only [go_sem, reduceIte, Nat.reduceEqDiff, Nat.reduceAdd, Nat.reduceSub, Nat.reduceLeDiff, Nat.reduceLT, reduceCtorEq, Int.reduceLT, Int.reduceLE, Int.reduceEq, Int.reduceBEq, Int.reduceSub, Int.reduceAdd, Int.reduceMul, Int.reduceNeg, Int.reduceToNat, Nat.reduceMul, Nat.reduceBEq, ren1_locm, loc_tips, locT_eq] <;> rfl, ?_, ?_, fun x en s hq => ?_⟩
      · omega
      · omega
      · exact hq
  · obtain rfl : a = 7 := by omega
    simp only [go_sem, reduceIte, Nat.reduceEqDiff, Nat.reduceAdd, Nat.reduceSub, Nat.reduceLeDiff, Nat.reduceLT, reduceCtorEq, Int.reduceLT, Int.reduceLE, Int.reduceEq, Int.reduceBEq, Int.reduceSub, Int.reduceAdd, Int.reduceMul, Int.reduceNeg, Int.reduceToNat, Nat.reduceMul, Nat.reduceBEq, index_rsl_if, setm, make_ints, condK_dec, wantK_dec, not_dec, and_dec, or_dec, seqK_ite, seqK_none, blockK_ite, blockK_none, opsK_ite, opsK_none, stepK_ite, stepK_none, bodyK_ite, bodyK_none, resK_ite, resK_none, leaveK_ite, leaveK_none, only_ite, only_none, bind_ite, gives_some, gives_none, gives_ite, then_normal, then_ret, then_exit, then_none, then_ite, Option.bind_none, Bool.not_eq_true', decide_eq_false_iff_not, Bool.and_eq_true, Bool.or_eq_true, Option.some.injEq, Int.not_lt, Int.not_le, lp56_0, show (((7 : Nat) : Int) < 7) = False from eq_false (by omega)]
    rfl

theorem c56 (m : Nat) (st : St) : run L 56 [I (m : Int)] st = some (sl 1 true ((memb m).map I), st) := by
  rw [run_pure (fn := ir56) rfl rfl]
  simp only [ir56, go_sem, reduceIte, Nat.reduceEqDiff, Nat.reduceAdd, Nat.reduceSub, Nat.reduceLeDiff, Nat.reduceLT, reduceCtorEq, Int.reduceLT, Int.reduceLE, Int.reduceEq, Int.reduceBEq, Int.reduceSub, Int.reduceAdd, Int.reduceMul, Int.reduceNeg, Int.reduceToNat, Nat.reduceMul, Nat.reduceBEq]
  generalize hg : lim (headed pure (run L) true _ lp56_0 _ _) _ _ = o
  obtain ⟨x, en, s, rfl, h2⟩ : ∃ x en s, o = some (x, en, s) ∧ _ := by rw [← hg]; exact loop56 m 0 (by omega) _ _ (by simp only [go_sem, reduceIte, Nat.reduceEqDiff, Nat.reduceAdd, Nat.reduceSub, Nat.reduceLeDiff, Nat.reduceLT, reduceCtorEq, Int.reduceLT, Int.reduceLE, Int.reduceEq, Int.reduceBEq, Int.reduceSub, Int.reduceAdd, Int.reduceMul, Int.reduceNeg, Int.reduceToNat, Nat.reduceMul, Nat.reduceBEq, membTo, loc_start, locT, List.range_zero, List.filter_nil, Int.natCast_zero] <;> rfl)
  clear hg
  obtain ⟨rfl, h3⟩ := h2
  simp only [go_sem, reduceIte, Nat.reduceEqDiff, Nat.reduceAdd, Nat.reduceSub, Nat.reduceLeDiff, Nat.reduceLT, reduceCtorEq, Int.reduceLT, Int.reduceLE, Int.reduceEq, Int.reduceBEq, Int.reduceSub, Int.reduceAdd, Int.reduceMul, Int.reduceNeg, Int.reduceToNat, Nat.reduceMul, Nat.reduceBEq, h3]


/-! ### the greatest number -/
def maxF (m : Int) : List Int → Int
  | [] => m
  | x :: r => maxF (max m x) r
theorem maxF_gt (t : Int) : ∀ (l : List Int) (m : Int), t < maxF m l ↔ t < m ∨ ∃ x ∈ l, t < x
  | [], m => by simp [maxF]
  | x :: r, m => by
    simp only [maxF]
    rw [maxF_gt t r]
    simp only [List.mem_cons, exists_eq_or_imp]
    have : t < max m x ↔ t < m ∨ t < x := by omega
    rw [this, or_assoc]

theorem loop48 (a : AV) (S0 : List (List AV)) (T0 : List Nat) (xs : List Int) (hxl : xs.length < 1000000) (hlen : lenAV a = some (I xs.length)) (hidx : ∀ (i : Nat) (h : i < xs.length), ∃ p, indexSAV 1 a (.v (.int .i64 (i : Int))) = some p ∧ loadAV 1 false ⟨S0, T0⟩ p = some (I xs[i])) (lo hi : Nat) (i : Nat) (m : Int) (hok : i ≤ xs.length) (env : Env) (st : St)
    (hg : gcAV false lo hi (canon env [0, 3, 4]) st = ([(0, a), (3, I m), (4, I i)], ⟨S0, T0⟩)) :
    ∃ x_1 en s, lim (headed pure (run L) false [0, 3, 4] lp48_0 lo hi) env st = some (x_1, en, s) ∧ (x_1 = .exit 0 ∧ en.get 3 = I (maxF m (xs.drop i)) ∧ s = ⟨S0, T0⟩) := by
  refine loop_wp (α := Nat × Int) (fun ⟨i, m⟩ => xs.length - i) (fun ⟨i, m⟩ => i ≤ xs.length) (fun ⟨i, m⟩ => ([(0, a), (3, I m), (4, I i)], ⟨S0, T0⟩)) (fun ⟨i, m⟩ x_1 en s => x_1 = .exit 0 ∧ en.get 3 = I (maxF m (xs.drop i)) ∧ s = ⟨S0, T0⟩) (fun ⟨i, m⟩ hok => ?_) ⟨i, m⟩ hok env st hg
  simp only at hok
  dsimp only
  by_cases h : i < xs.length
  · obtain ⟨p, h1, h2⟩ := hidx i h
    have hs := succ64 i (by omega)
    have hd : xs.drop i = xs[i] :: xs.drop (i + 1) := List.drop_eq_getElem_cons h
    have hlt : ((i : Int) < (xs.length : Int)) = True := eq_true (by omega)
    rw [hd]
    generalize xs[i] = x at *
    simp only [go_sem, reduceIte, Nat.reduceEqDiff, Nat.reduceAdd, Nat.reduceSub, Nat.reduceLeDiff, Nat.reduceLT, reduceCtorEq, Int.reduceLT, Int.reduceLE, Int.reduceEq, Int.reduceBEq, Int.reduceSub, Int.reduceAdd, Int.reduceMul, Int.reduceNeg, Int.reduceToNat, Nat.reduceMul, Nat.reduceBEq, index_rsl_if, setm, make_ints, condK_dec, wantK_dec, not_dec, and_dec, or_dec, seqK_ite, seqK_none, blockK_ite, blockK_none, opsK_ite, opsK_none, stepK_ite, stepK_none, bodyK_ite, bodyK_none, resK_ite, resK_none, leaveK_ite, leaveK_none, only_ite, only_none, bind_ite, gives_some, gives_none, gives_ite, then_normal, then_ret, then_exit, then_none, then_ite, Option.bind_none, Bool.not_eq_true', decide_eq_false_iff_not, Bool.and_eq_true, Bool.or_eq_true, Option.some.injEq, Int.not_lt, Int.not_le, lp48_0, hlen, hlt, h1, h2, hs]
    refine ⟨(i + 1, max m x), by simp only [go_sem, reduceIte, Nat.reduceEqDiff, Nat.reduceAdd, Nat.reduceSub, Nat.reduceLeDiff, Nat.reduceLT, reduceCtorEq, Int.reduceLT, Int.reduceLE, Int.reduceEq, Int.reduceBEq, Int.reduceSub, Int.reduceAdd, Int.reduceMul, Int.reduceNeg, Int.reduceToNat, Nat.reduceMul, Nat.reduceBEq, ren1_locm, loc_tips, locT_eq] <;> rfl, ?_, ?_, fun x en s hq => ?_⟩
    · omega
    · simp only; omega
    · exact hq
  · have hd : xs.drop i = [] := List.drop_eq_nil_of_le (by omega)
    have hlt : ((i : Int) < (xs.length : Int)) = False := eq_false (by omega)
    simp only [go_sem, reduceIte, Nat.reduceEqDiff, Nat.reduceAdd, Nat.reduceSub, Nat.reduceLeDiff, Nat.reduceLT, reduceCtorEq, Int.reduceLT, Int.reduceLE, Int.reduceEq, Int.reduceBEq, Int.reduceSub, Int.reduceAdd, Int.reduceMul, Int.reduceNeg, Int.reduceToNat, Nat.reduceMul, Nat.reduceBEq, index_rsl_if, setm, make_ints, condK_dec, wantK_dec, not_dec, and_dec, or_dec, seqK_ite, seqK_none, blockK_ite, blockK_none, opsK_ite, opsK_none, stepK_ite, stepK_none, bodyK_ite, bodyK_none, resK_ite, resK_none, leaveK_ite, leaveK_none, only_ite, only_none, bind_ite, gives_some, gives_none, gives_ite, then_normal, then_ret, then_exit, then_none, then_ite, Option.bind_none, Bool.not_eq_true', decide_eq_false_iff_not, Bool.and_eq_true, Bool.or_eq_true, Option.some.injEq, Int.not_lt, Int.not_le, lp48_0, hlen, hlt]
    rw [hd]; rfl

theorem c48 (a : AV) (st : St) (xs : List Int) (hxl : xs.length < 1000000) (h1 : 1 ≤ xs.length) (hlen : lenAV a = some (I xs.length)) (hidx : ∀ (i : Nat) (h : i < xs.length), ∃ p, indexSAV 1 a (.v (.int .i64 (i : Int))) = some p ∧ loadAV 1 false st p = some (I xs[i])) :
    ∃ k : Int, run L 48 [a] st = some (I k, st) ∧ ∀ t, t < k ↔ ∃ x ∈ xs, t < x := by
  obtain ⟨S0, T0⟩ := st
  rw [run_shared (fn := ir48) rfl rfl]
  have q : ((xs.length : Int) < 1) = False := eq_false (by omega)
  obtain ⟨p, g1, g2⟩ := hidx 0 (by omega)
  rw [Int.natCast_zero] at g1
  simp only [ir48, go_sem, reduceIte, Nat.reduceEqDiff, Nat.reduceAdd, Nat.reduceSub, Nat.reduceLeDiff, Nat.reduceLT, reduceCtorEq, Int.reduceLT, Int.reduceLE, Int.reduceEq, Int.reduceBEq, Int.reduceSub, Int.reduceAdd, Int.reduceMul, Int.reduceNeg, Int.reduceToNat, Nat.reduceMul, Nat.reduceBEq, hlen, q, g1, g2]
  generalize hg : lim (headed pure (run L) false _ lp48_0 _ _) _ _ = o
  obtain ⟨x, en, s, rfl, h2⟩ : ∃ x en s, o = some (x, en, s) ∧ _ := by rw [← hg]; exact loop48 a S0 T0 xs hxl hlen hidx S0.length T0.length 1 xs[0] (by omega) _ _ (by simp only [go_sem, reduceIte, Nat.reduceEqDiff, Nat.reduceAdd, Nat.reduceSub, Nat.reduceLeDiff, Nat.reduceLT, reduceCtorEq, Int.reduceLT, Int.reduceLE, Int.reduceEq, Int.reduceBEq, Int.reduceSub, Int.reduceAdd, Int.reduceMul, Int.reduceNeg, Int.reduceToNat, Nat.reduceMul, Nat.reduceBEq, Int.natCast_one] <;> rfl)
  clear hg
  obtain ⟨rfl, h3, rfl⟩ := h2
  refine ⟨maxF xs[0] (xs.drop 1), by simp only [go_sem, reduceIte, Nat.reduceEqDiff, Nat.reduceAdd, Nat.reduceSub, Nat.reduceLeDiff, Nat.reduceLT, reduceCtorEq, Int.reduceLT, Int.reduceLE, Int.reduceEq, Int.reduceBEq, Int.reduceSub, Int.reduceAdd, Int.reduceMul, Int.reduceNeg, Int.reduceToNat, Nat.reduceMul, Nat.reduceBEq, h3], fun t => ?_⟩
  rw [maxF_gt]
  have e : xs = xs[0] :: xs.drop 1 := by
    have := List.drop_eq_getElem_cons (show 0 < xs.length by omega)
    simpa using this
  constructor
  · rintro (h | ⟨x, hx, h⟩)
    · exact ⟨xs[0], List.getElem_mem _, h⟩
    · exact ⟨x, List.mem_of_mem_drop hx, h⟩
  · rintro ⟨x, hx, h⟩
    rw [e] at hx
    rcases List.mem_cons.1 hx with rfl | hx
    · exact .inl h
    · exact .inr ⟨x, hx, h⟩

/-! ### what the pairs of each article have -/
def addAt (o : List Int) (i : Nat) (x : Int) : List Int := o.set i (o.getD i 0 + x)
def has1 (o : List Int) (e : (Int × Int) × Int) : List Int := addAt (addAt o e.1.1.toNat e.2) e.1.2.toNat e.2
theorem addAt_len (o : List Int) (i : Nat) (x : Int) : (addAt o i x).length = o.length := by simp [addAt]
theorem addAt_getD (o : List Int) (i : Nat) (x : Int) (j : Nat) (hi : i < o.length) : (addAt o i x).getD j 0 = if j = i then o.getD j 0 + x else o.getD j 0 := by
  unfold addAt
  simp only [List.getD_eq_getElem?_getD, List.getElem?_set]
  by_cases h : i = j
  · subst h; simp [hi]
  · simp [h, Ne.symm h]
theorem addAt_bd {o : List Int} {B : Int} (h : ∀ x ∈ o, 0 ≤ x ∧ x ≤ B) (i : Nat) {x : Int} (hx : 0 ≤ x ∧ x ≤ 2) : ∀ y ∈ addAt o i x, 0 ≤ y ∧ y ≤ B + 2 := by
  intro y hy
  unfold addAt at hy
  rcases List.mem_or_eq_of_mem_set hy with hy | rfl
  · have := h y hy; omega
  · have hg : 0 ≤ o.getD i 0 ∧ (o.getD i 0 ≤ B ∨ o.getD i 0 = 0) := by
      rw [List.getD_eq_getElem?_getD]
      cases h2 : o[i]?
      · simp
      · have := h _ (List.mem_of_getElem? h2); simp; omega
    by_cases hi : i < o.length
    · have h3 := h o[i] (List.getElem_mem hi)
      rw [List.getD_eq_getElem?_getD, List.getElem?_eq_getElem hi] at hg ⊢
      simp at hg ⊢; omega
    · rw [List.set_eq_of_length_le (by omega)] at hy
      have := h _ hy; omega
theorem getI (o : List Int) (a : Nat) (h : a < o.length) : (o.map I)[a]? = some (I (o.getD a 0)) := by
  rw [getm I o 0 a, if_pos h]
theorem getD_bd {o : List Int} {B : Int} (hB : 0 ≤ B) (h : ∀ x ∈ o, 0 ≤ x ∧ x ≤ B) (a : Nat) : 0 ≤ o.getD a 0 ∧ o.getD a 0 ≤ B := by
  rw [List.getD_eq_getElem?_getD]
  cases h2 : o[a]?
  · simp; omega
  · exact h _ (List.mem_of_getElem? h2)
def hasL (ps : List (Int × Int)) (s : List Int) : List Int := (ps.zip s).foldl has1 (List.replicate 7 0)

set_option maxHeartbeats 1000000 in
theorem loop92 (nl n2 : Bool) (n : Int) (ps : List (Int × Int)) (hlen : ps.length ≤ 10) (h7 : ∀ p ∈ ps, okP p) (s0 : List Int) (hsl : s0.length = ps.length) (hb : ∀ x ∈ s0, 0 ≤ x ∧ x ≤ 2) (tot : Int) (i : Nat) (o : List Int) (hok : i ≤ ps.length ∧ o.length = 7 ∧ ∀ x ∈ o, 0 ≤ x ∧ x ≤ 4 * i) (env : Env) (st : St)
    (hg : gcAV true 2 0 (canon env [1, 7, 9, 29, 30, 31]) st = ([(1, sl 1 n2 (s0.map I)), (7, I tot), (9, .ptr 1 0), (29, sl 2 nl (ps.map prAV)), (30, I ps.length), (31, I i)], ⟨[bkCells nl n ps, o.map I], []⟩)) :
    ∃ x_1 en s, lim (headed pure (run L) true [1, 7, 9, 29, 30, 31] lp92_0 2 0) env st = some (x_1, en, s) ∧ (x_1 = .exit 0 ∧ en.get 7 = I tot ∧ en.get 9 = .ptr 1 0 ∧ s = ⟨[bkCells nl n ps, (((ps.zip s0).drop i).foldl has1 o).map I], []⟩ ∧ (((ps.zip s0).drop i).foldl has1 o).length = 7) := by
  refine loop_wp (α := Nat × List Int) (fun ⟨i, o⟩ => ps.length - i) (fun ⟨i, o⟩ => i ≤ ps.length ∧ o.length = 7 ∧ ∀ x ∈ o, 0 ≤ x ∧ x ≤ 4 * i) (fun ⟨i, o⟩ => ([(1, sl 1 n2 (s0.map I)), (7, I tot), (9, .ptr 1 0), (29, sl 2 nl (ps.map prAV)), (30, I ps.length), (31, I i)], ⟨[bkCells nl n ps, o.map I], []⟩)) (fun ⟨i, o⟩ x_1 en s => x_1 = .exit 0 ∧ en.get 7 = I tot ∧ en.get 9 = .ptr 1 0 ∧ s = ⟨[bkCells nl n ps, (((ps.zip s0).drop i).foldl has1 o).map I], []⟩ ∧ (((ps.zip s0).drop i).foldl has1 o).length = 7) (fun ⟨i, o⟩ hok => ?_) ⟨i, o⟩ hok env st hg
  simp only at hok
  obtain ⟨h1, h2, h3⟩ := hok
  dsimp only
  by_cases h : i < ps.length
  · have hx := index_prs nl ps i h
    have hy := index_ints n2 s0 i (by omega)
    have hs := succ64 i (by omega)
    have hzl : i < (ps.zip s0).length := by rw [List.length_zip]; omega
    have hd : (ps.zip s0).drop i = (ps.zip s0)[i] :: (ps.zip s0).drop (i + 1) := List.drop_eq_getElem_cons hzl
    have hze : (ps.zip s0)[i] = (ps[i], s0[i]) := by simp
    have hp := h7 ps[i] (List.getElem_mem h)
    have hbx := hb s0[i] (List.getElem_mem (by omega))
    rw [hd, hze, List.foldl_cons]
    generalize ps[i] = c at *
    generalize s0[i] = x at *
    obtain ⟨u, v⟩ := c
    obtain ⟨a1, a2, a3, a4⟩ := hp
    simp only at a1 a2 a3 a4 hx
    obtain ⟨u, rfl⟩ := Int.eq_ofNat_of_zero_le a1
    obtain ⟨v, rfl⟩ := Int.eq_ofNat_of_zero_le a3
    have hlt : ((i : Int) < (ps.length : Int)) = True := eq_true (by omega)
    have hs1 := addAt_bd h3 u hbx
    have hl1 := addAt_len o u x
    have hs2 := addAt_bd hs1 v hbx
    have hl2 := addAt_len (addAt o u x) v x
    have k1 := getD_bd (by omega) h3 u
    have k2 := getD_bd (by omega) hs1 v
    have w1 : IntKind.i64.wrap (o.getD u 0 + x) = o.getD u 0 + x := by rw [wrap64] <;> omega
    have w2 : IntKind.i64.wrap ((addAt o u x).getD v 0 + x) = (addAt o u x).getD v 0 + x := by rw [wrap64] <;> omega
    have g1 := getI o u (by omega)
    have g2 := getI (addAt o u x) v (by omega)
    have hset1 : o.set u (o.getD u 0 + x) = addAt o u x := rfl
    have hset2 : (addAt o u x).set v ((addAt o u x).getD v 0 + x) = has1 o (((u : Int), (v : Int)), x) := rfl
    have hadv : has1 o (((u : Int), (v : Int)), x) = addAt (addAt o u x) v x := rfl
    have b1 : ((0 : Int) ≤ (u : Int)) = True := eq_true (by omega)
    have b2 : ((u : Int) < 7) = True := eq_true (by omega)
    have b3 : ((0 : Int) ≤ (v : Int)) = True := eq_true (by omega)
    have b4 : ((v : Int) < 7) = True := eq_true (by omega)
    have b5 : (u + 1 ≤ 7) = True := eq_true (by omega)
    have b6 : (v + 1 ≤ 7) = True := eq_true (by omega)
    rw [h2] at hl1
    rw [hl1] at hl2
    rw [← hadv] at hs2 hl2
    generalize has1 o (((u : Int), (v : Int)), x) = o2 at *
    simp only [go_sem, reduceIte, Nat.reduceEqDiff, Nat.reduceAdd, Nat.reduceSub, Nat.reduceLeDiff, Nat.reduceLT, reduceCtorEq, Int.reduceLT, Int.reduceLE, Int.reduceEq, Int.reduceBEq, Int.reduceSub, Int.reduceAdd, Int.reduceMul, Int.reduceNeg, Int.reduceToNat, Nat.reduceMul, Nat.reduceBEq, index_rsl_if, setm, make_ints, condK_dec, wantK_dec, not_dec, and_dec, or_dec, seqK_ite, seqK_none, blockK_ite, blockK_none, opsK_ite, opsK_none, stepK_ite, stepK_none, bodyK_ite, bodyK_none, resK_ite, resK_none, leaveK_ite, leaveK_none, only_ite, only_none, bind_ite, gives_some, gives_none, gives_ite, then_normal, then_ret, then_exit, then_none, then_ite, Option.bind_none, Bool.not_eq_true', decide_eq_false_iff_not, Bool.and_eq_true, Bool.or_eq_true, Option.some.injEq, Int.not_lt, Int.not_le, lp92_0, hx, hy, hlt, hs, b1, b2, b3, b4, b5, b6, g1, g2, w1, w2, hset1, hset2, h2, hl1, hl2, List.length_map]
    refine ⟨(i + 1, o2), by simp only [go_sem, reduceIte, Nat.reduceEqDiff, Nat.reduceAdd, Nat.reduceSub, Nat.reduceLeDiff, Nat.reduceLT, reduceCtorEq, Int.reduceLT, Int.reduceLE, Int.reduceEq, Int.reduceBEq, Int.reduceSub, Int.reduceAdd, Int.reduceMul, Int.reduceNeg, Int.reduceToNat, Nat.reduceMul, Nat.reduceBEq, ren1_locm, loc_tips, locT_eq] <;> rfl, ?_, ?_, fun x en s hq => ?_⟩
    · dsimp only; exact ⟨by omega, hl2, fun y hy => by have := hs2 y hy; omega⟩
    · simp only; omega
    · exact hq
  · have hd : (ps.zip s0).drop i = [] := List.drop_eq_nil_of_le (by rw [List.length_zip]; omega)
    have hlt : ((i : Int) < (ps.length : Int)) = False := eq_false (by omega)
    simp only [go_sem, reduceIte, Nat.reduceEqDiff, Nat.reduceAdd, Nat.reduceSub, Nat.reduceLeDiff, Nat.reduceLT, reduceCtorEq, Int.reduceLT, Int.reduceLE, Int.reduceEq, Int.reduceBEq, Int.reduceSub, Int.reduceAdd, Int.reduceMul, Int.reduceNeg, Int.reduceToNat, Nat.reduceMul, Nat.reduceBEq, index_rsl_if, setm, make_ints, condK_dec, wantK_dec, not_dec, and_dec, or_dec, seqK_ite, seqK_none, blockK_ite, blockK_none, opsK_ite, opsK_none, stepK_ite, stepK_none, bodyK_ite, bodyK_none, resK_ite, resK_none, leaveK_ite, leaveK_none, only_ite, only_none, bind_ite, gives_some, gives_none, gives_ite, then_normal, then_ret, then_exit, then_none, then_ite, Option.bind_none, Bool.not_eq_true', decide_eq_false_iff_not, Bool.and_eq_true, Bool.or_eq_true, Option.some.injEq, Int.not_lt, Int.not_le, lp92_0, hlt]
    rw [hd]; exact ⟨rfl, h2⟩

/-- Has an article more than 2? -/
def overB (ps : List (Int × Int)) (s : List Int) : Bool := (hasL ps s).any fun x => decide (2 < x)
def sharedV (n : Int) (ps : List (Int × Int)) (s : List Int) : Int × Int :=
  if chk n ps = 0 then (if (numbersV s ps.length).2 = 0 then (if overB ps s = true then (0, 15) else ((numbersV s ps.length).1, 0)) else (0, (numbersV s ps.length).2)) else (0, chk n ps)
theorem numbersV_zero {v : List Int} {n : Int} (p : (numbersV v n).2 = 0) : (v.length : Int) = n ∧ v.all in02 = true ∧ (numbersV v n).1 = sumL v := by
  unfold numbersV at p ⊢
  split at p
  · next q =>
    rw [if_pos q]
    split at p
    · next r => rw [if_pos r]; exact ⟨q, r, rfl⟩
    · simp at p
  · simp at p
theorem c92 (nl n2 : Bool) (n : Int) (ps : List (Int × Int)) (v : List Int) (hlen : v.length < 1000000) (st : St) :
    run L 92 [bkAV nl n ps, sl 1 n2 (v.map I)] st = some (.tup [I (sharedV n ps v).1, I (sharedV n ps v).2], st) := by
  rw [run_pure (fn := ir92) rfl rfl]
  have h22 := fun st => c22 nl n ps st
  have h109 := fun st => c109 n2 v hlen ps.length st
  unfold sharedV
  by_cases h : chk n ps = 0
  · obtain ⟨h1, h2, h3, h4, h5⟩ := chk_zero h
    rw [if_pos h]
    by_cases p : (numbersV v ps.length).2 = 0
    · obtain ⟨q1, q2, q3⟩ := numbersV_zero p
      rw [if_pos p]
      simp only [ir92, go_sem, reduceIte, Nat.reduceEqDiff, Nat.reduceAdd, Nat.reduceSub, Nat.reduceLeDiff, Nat.reduceLT, reduceCtorEq, Int.reduceLT, Int.reduceLE, Int.reduceEq, Int.reduceBEq, Int.reduceSub, Int.reduceAdd, Int.reduceMul, Int.reduceNeg, Int.reduceToNat, Nat.reduceMul, Nat.reduceBEq, h22, h, h109, p, List.length_map]
      generalize (numbersV v ps.length).1 = s0
      generalize hg : lim (headed pure (run L) true _ lp92_0 _ _) _ _ = o
      obtain ⟨x, en, s, rfl, h2⟩ : ∃ x en s, o = some (x, en, s) ∧ _ := by rw [← hg]; exact loop92 nl n2 n ps h3 h5 v (by omega) (all02 q2) s0 0 (List.replicate 7 0) ⟨by omega, by simp, by simp⟩ _ _ (by simp only [go_sem, reduceIte, Nat.reduceEqDiff, Nat.reduceAdd, Nat.reduceSub, Nat.reduceLeDiff, Nat.reduceLT, reduceCtorEq, Int.reduceLT, Int.reduceLE, Int.reduceEq, Int.reduceBEq, Int.reduceSub, Int.reduceAdd, Int.reduceMul, Int.reduceNeg, Int.reduceToNat, Nat.reduceMul, Nat.reduceBEq, List.map_replicate] <;> rfl)
      clear hg
      obtain ⟨rfl, g7, g9, rfl, g5⟩ := h2
      rw [List.drop_zero] at g5 ⊢
      have e : (ps.zip v).foldl has1 (List.replicate 7 0) = hasL ps v := rfl
      rw [e] at g5 ⊢
      unfold overB
      generalize hasL ps v = hs at *
      obtain ⟨k, k1, k2⟩ := c48 (.rsl 1 0 7 7 1 false) ⟨[bkCells nl n ps, hs.map I], []⟩ hs (by omega) (by omega) (by rw [g5]; rfl) (fun i hi => ⟨.ptr 1 i, by
          rw [index_rsl_if, if_pos (by omega)]; simp, by
          simp only [load_ptr, List.getElem?_cons_succ, List.getElem?_cons_zero, Option.bind_some, readCells]
          simp [List.getElem?_eq_getElem hi]⟩)
      have k3 := k2 2
      have hsl : sliceaAV 7 1 false (.ptr 1 0) none none none = some (.rsl 1 0 7 7 1 false) := rfl
      by_cases q : 2 < k
      · have q' : (hs.any fun x => decide (2 < x)) = true := by
          rw [List.any_eq_true]; obtain ⟨x, hx, hx2⟩ := k3.1 q; exact ⟨x, hx, decide_eq_true hx2⟩
        simp only [go_sem, reduceIte, Nat.reduceEqDiff, Nat.reduceAdd, Nat.reduceSub, Nat.reduceLeDiff, Nat.reduceLT, reduceCtorEq, Int.reduceLT, Int.reduceLE, Int.reduceEq, Int.reduceBEq, Int.reduceSub, Int.reduceAdd, Int.reduceMul, Int.reduceNeg, Int.reduceToNat, Nat.reduceMul, Nat.reduceBEq, g7, g9, hsl, k1, q, q']
      · have q' : (hs.any fun x => decide (2 < x)) = false := by
          rw [List.any_eq_false]; intro x hx; have : ¬ 2 < x := fun hx2 => q (k3.2 ⟨x, hx, hx2⟩); simpa using this
        simp only [go_sem, reduceIte, Nat.reduceEqDiff, Nat.reduceAdd, Nat.reduceSub, Nat.reduceLeDiff, Nat.reduceLT, reduceCtorEq, Int.reduceLT, Int.reduceLE, Int.reduceEq, Int.reduceBEq, Int.reduceSub, Int.reduceAdd, Int.reduceMul, Int.reduceNeg, Int.reduceToNat, Nat.reduceMul, Nat.reduceBEq, g7, g9, hsl, k1, q, q']
    · rw [if_neg p]
      simp only [ir92, go_sem, reduceIte, Nat.reduceEqDiff, Nat.reduceAdd, Nat.reduceSub, Nat.reduceLeDiff, Nat.reduceLT, reduceCtorEq, Int.reduceLT, Int.reduceLE, Int.reduceEq, Int.reduceBEq, Int.reduceSub, Int.reduceAdd, Int.reduceMul, Int.reduceNeg, Int.reduceToNat, Nat.reduceMul, Nat.reduceBEq, h22, h, h109, p, List.length_map]
  · rw [if_neg h]
    simp only [ir92, go_sem, reduceIte, Nat.reduceEqDiff, Nat.reduceAdd, Nat.reduceSub, Nat.reduceLeDiff, Nat.reduceLT, reduceCtorEq, Int.reduceLT, Int.reduceLE, Int.reduceEq, Int.reduceBEq, Int.reduceSub, Int.reduceAdd, Int.reduceMul, Int.reduceNeg, Int.reduceToNat, Nat.reduceMul, Nat.reduceBEq, h22, h]
/-- Do values prove shares? -/
def provesV (n : Int) (ps : List (Int × Int)) (v s : List Int) : Int :=
  if (halvedV n ps v).2 = 0 then (if (sharedV n ps s).2 = 0 then (if (sharedV n ps s).1 = (halvedV n ps v).1 then 0 else 14) else (sharedV n ps s).2) else (halvedV n ps v).2
theorem c42 (nl n2 n3 : Bool) (n : Int) (ps : List (Int × Int)) (v s : List Int) (hv : v.length < 1000000) (hs : s.length < 1000000) (st : St) :
    run L 42 [bkAV nl n ps, sl 1 n2 (v.map I), sl 1 n3 (s.map I)] st = some (I (provesV n ps v s), st) := by
  rw [run_pure (fn := ir42) rfl rfl]
  have h83 := fun st => c83 nl n2 n ps v hv st
  have h92 := fun st => c92 nl n3 n ps s hs st
  unfold provesV
  by_cases p1 : (halvedV n ps v).2 = 0
  · rw [if_pos p1]
    by_cases p2 : (sharedV n ps s).2 = 0
    · rw [if_pos p2]
      by_cases p3 : (sharedV n ps s).1 = (halvedV n ps v).1
      · rw [if_pos p3]
        simp only [ir42, go_sem, reduceIte, Nat.reduceEqDiff, Nat.reduceAdd, Nat.reduceSub, Nat.reduceLeDiff, Nat.reduceLT, reduceCtorEq, Int.reduceLT, Int.reduceLE, Int.reduceEq, Int.reduceBEq, Int.reduceSub, Int.reduceAdd, Int.reduceMul, Int.reduceNeg, Int.reduceToNat, Nat.reduceMul, Nat.reduceBEq, h83, h92, p1, p2, p3]
      · rw [if_neg p3]
        simp only [ir42, go_sem, reduceIte, Nat.reduceEqDiff, Nat.reduceAdd, Nat.reduceSub, Nat.reduceLeDiff, Nat.reduceLT, reduceCtorEq, Int.reduceLT, Int.reduceLE, Int.reduceEq, Int.reduceBEq, Int.reduceSub, Int.reduceAdd, Int.reduceMul, Int.reduceNeg, Int.reduceToNat, Nat.reduceMul, Nat.reduceBEq, h83, h92, p1, p2, p3]
    · rw [if_neg p2]
      simp only [ir42, go_sem, reduceIte, Nat.reduceEqDiff, Nat.reduceAdd, Nat.reduceSub, Nat.reduceLeDiff, Nat.reduceLT, reduceCtorEq, Int.reduceLT, Int.reduceLE, Int.reduceEq, Int.reduceBEq, Int.reduceSub, Int.reduceAdd, Int.reduceMul, Int.reduceNeg, Int.reduceToNat, Nat.reduceMul, Nat.reduceBEq, h83, h92, p1, p2]
  · rw [if_neg p1]
    simp only [ir42, go_sem, reduceIte, Nat.reduceEqDiff, Nat.reduceAdd, Nat.reduceSub, Nat.reduceLeDiff, Nat.reduceLT, reduceCtorEq, Int.reduceLT, Int.reduceLE, Int.reduceEq, Int.reduceBEq, Int.reduceSub, Int.reduceAdd, Int.reduceMul, Int.reduceNeg, Int.reduceToNat, Nat.reduceMul, Nat.reduceBEq, h83, p1]


/-! ### totals; places in a list -/
def totalV (l : List Int) (many : Int) : Int := if (l.length : Int) = many then (if l.all in02 = true then sumL l else -1) else -1

theorem loop45 (nl : Bool) (l : List Int) (hlen : l.length < 1000000) (i : Nat) (acc : Int) (hok : i ≤ l.length ∧ 0 ≤ acc ∧ acc ≤ 2 * i) (env : Env) (st : St)
    (hg : gcAV true 0 0 (canon env [5, 12, 13, 14]) st = ([(5, I acc), (12, sl 1 nl (l.map I)), (13, I l.length), (14, I i)], ⟨[], []⟩)) :
    ∃ x_1 en s, lim (headed pure (run L) true [5, 12, 13, 14] lp45_0 0 0) env st = some (x_1, en, s) ∧ (if (l.drop i).all in02 = true then x_1 = .exit 0 ∧ en.get 5 = I (acc + sumL (l.drop i)) else x_1 = .ret ∧ en.get 4 = I (-1)) := by
  refine loop_wp (α := Nat × Int) (fun ⟨i, acc⟩ => l.length - i) (fun ⟨i, acc⟩ => i ≤ l.length ∧ 0 ≤ acc ∧ acc ≤ 2 * i) (fun ⟨i, acc⟩ => ([(5, I acc), (12, sl 1 nl (l.map I)), (13, I l.length), (14, I i)], ⟨[], []⟩)) (fun ⟨i, acc⟩ x_1 en s => if (l.drop i).all in02 = true then x_1 = .exit 0 ∧ en.get 5 = I (acc + sumL (l.drop i)) else x_1 = .ret ∧ en.get 4 = I (-1)) (fun ⟨i, acc⟩ hok => ?_) ⟨i, acc⟩ hok env st hg
  simp only at hok
  obtain ⟨h1, h2, h3⟩ := hok
  dsimp only
  by_cases h : i < l.length
  · have hx := index_ints nl l i h
    have hs := succ64 i (by omega)
    have hd : l.drop i = l[i] :: l.drop (i + 1) := List.drop_eq_getElem_cons h
    have hlt : ((i : Int) < (l.length : Int)) = True := eq_true (by omega)
    rw [hd]
    generalize l[i] = a at *
    by_cases p1 : a < 0
    · simp only [go_sem, reduceIte, Nat.reduceEqDiff, Nat.reduceAdd, Nat.reduceSub, Nat.reduceLeDiff, Nat.reduceLT, reduceCtorEq, Int.reduceLT, Int.reduceLE, Int.reduceEq, Int.reduceBEq, Int.reduceSub, Int.reduceAdd, Int.reduceMul, Int.reduceNeg, Int.reduceToNat, Nat.reduceMul, Nat.reduceBEq, index_rsl_if, setm, make_ints, condK_dec, wantK_dec, not_dec, and_dec, or_dec, seqK_ite, seqK_none, blockK_ite, blockK_none, opsK_ite, opsK_none, stepK_ite, stepK_none, bodyK_ite, bodyK_none, resK_ite, resK_none, leaveK_ite, leaveK_none, only_ite, only_none, bind_ite, gives_some, gives_none, gives_ite, then_normal, then_ret, then_exit, then_none, then_ite, Option.bind_none, Bool.not_eq_true', decide_eq_false_iff_not, Bool.and_eq_true, Bool.or_eq_true, Option.some.injEq, Int.not_lt, Int.not_le, lp45_0, hx, hlt, p1]
      rw [if_neg (by simp [in02]; omega)]; trivial
    by_cases p2 : 2 < a
    · simp only [go_sem, reduceIte, Nat.reduceEqDiff, Nat.reduceAdd, Nat.reduceSub, Nat.reduceLeDiff, Nat.reduceLT, reduceCtorEq, Int.reduceLT, Int.reduceLE, Int.reduceEq, Int.reduceBEq, Int.reduceSub, Int.reduceAdd, Int.reduceMul, Int.reduceNeg, Int.reduceToNat, Nat.reduceMul, Nat.reduceBEq, index_rsl_if, setm, make_ints, condK_dec, wantK_dec, not_dec, and_dec, or_dec, seqK_ite, seqK_none, blockK_ite, blockK_none, opsK_ite, opsK_none, stepK_ite, stepK_none, bodyK_ite, bodyK_none, resK_ite, resK_none, leaveK_ite, leaveK_none, only_ite, only_none, bind_ite, gives_some, gives_none, gives_ite, then_normal, then_ret, then_exit, then_none, then_ite, Option.bind_none, Bool.not_eq_true', decide_eq_false_iff_not, Bool.and_eq_true, Bool.or_eq_true, Option.some.injEq, Int.not_lt, Int.not_le, lp45_0, hx, hlt, p1, p2]
      rw [if_neg (by simp [in02]; omega)]; trivial
    have hw : IntKind.i64.wrap (acc + a) = acc + a := by rw [wrap64] <;> omega
    have hin : in02 a = true := decide_eq_true (by omega)
    simp only [go_sem, reduceIte, Nat.reduceEqDiff, Nat.reduceAdd, Nat.reduceSub, Nat.reduceLeDiff, Nat.reduceLT, reduceCtorEq, Int.reduceLT, Int.reduceLE, Int.reduceEq, Int.reduceBEq, Int.reduceSub, Int.reduceAdd, Int.reduceMul, Int.reduceNeg, Int.reduceToNat, Nat.reduceMul, Nat.reduceBEq, index_rsl_if, setm, make_ints, condK_dec, wantK_dec, not_dec, and_dec, or_dec, seqK_ite, seqK_none, blockK_ite, blockK_none, opsK_ite, opsK_none, stepK_ite, stepK_none, bodyK_ite, bodyK_none, resK_ite, resK_none, leaveK_ite, leaveK_none, only_ite, only_none, bind_ite, gives_some, gives_none, gives_ite, then_normal, then_ret, then_exit, then_none, then_ite, Option.bind_none, Bool.not_eq_true', decide_eq_false_iff_not, Bool.and_eq_true, Bool.or_eq_true, Option.some.injEq, Int.not_lt, Int.not_le, lp45_0, hx, hlt, p1, p2, hw, hs]
    refine ⟨(i + 1, acc + a), by simp only [go_sem, reduceIte, Nat.reduceEqDiff, Nat.reduceAdd, Nat.reduceSub, Nat.reduceLeDiff, Nat.reduceLT, reduceCtorEq, Int.reduceLT, Int.reduceLE, Int.reduceEq, Int.reduceBEq, Int.reduceSub, Int.reduceAdd, Int.reduceMul, Int.reduceNeg, Int.reduceToNat, Nat.reduceMul, Nat.reduceBEq, ren1_locm, loc_tips, locT_eq] <;> rfl, ?_, ?_, fun x en s hq => ?_⟩
    · dsimp only; exact ⟨by omega, by omega, by omega⟩
    · simp only; omega
    · simp only [List.all_cons, hin, sumL, Bool.true_and, true_and]; rw [← Int.add_assoc]; simpa using hq
  · have hd : l.drop i = [] := List.drop_eq_nil_of_le (by omega)
    have hlt : ((i : Int) < (l.length : Int)) = False := eq_false (by omega)
    simp only [go_sem, reduceIte, Nat.reduceEqDiff, Nat.reduceAdd, Nat.reduceSub, Nat.reduceLeDiff, Nat.reduceLT, reduceCtorEq, Int.reduceLT, Int.reduceLE, Int.reduceEq, Int.reduceBEq, Int.reduceSub, Int.reduceAdd, Int.reduceMul, Int.reduceNeg, Int.reduceToNat, Nat.reduceMul, Nat.reduceBEq, index_rsl_if, setm, make_ints, condK_dec, wantK_dec, not_dec, and_dec, or_dec, seqK_ite, seqK_none, blockK_ite, blockK_none, opsK_ite, opsK_none, stepK_ite, stepK_none, bodyK_ite, bodyK_none, resK_ite, resK_none, leaveK_ite, leaveK_none, only_ite, only_none, bind_ite, gives_some, gives_none, gives_ite, then_normal, then_ret, then_exit, then_none, then_ite, Option.bind_none, Bool.not_eq_true', decide_eq_false_iff_not, Bool.and_eq_true, Bool.or_eq_true, Option.some.injEq, Int.not_lt, Int.not_le, lp45_0, hlt]
    rw [hd]; simp [sumL]

theorem c45 (nl : Bool) (l : List Int) (hlen : l.length < 1000000) (many : Int) (st : St) : run L 45 [sl 1 nl (l.map I), I many] st = some (I (totalV l many), st) := by
  rw [run_pure (fn := ir45) rfl rfl]
  unfold totalV
  by_cases p : (l.length : Int) = many
  · rw [if_pos p]
    simp only [ir45, go_sem, reduceIte, Nat.reduceEqDiff, Nat.reduceAdd, Nat.reduceSub, Nat.reduceLeDiff, Nat.reduceLT, reduceCtorEq, Int.reduceLT, Int.reduceLE, Int.reduceEq, Int.reduceBEq, Int.reduceSub, Int.reduceAdd, Int.reduceMul, Int.reduceNeg, Int.reduceToNat, Nat.reduceMul, Nat.reduceBEq, List.length_map, p]
    rw [← p]
    generalize hg : lim (headed pure (run L) true _ lp45_0 _ _) _ _ = o
    obtain ⟨x, en, s, rfl, h2⟩ : ∃ x en s, o = some (x, en, s) ∧ _ := by rw [← hg]; exact loop45 nl l hlen 0 0 ⟨by omega, by omega, by omega⟩ _ _ (by simp only [go_sem, reduceIte, Nat.reduceEqDiff, Nat.reduceAdd, Nat.reduceSub, Nat.reduceLeDiff, Nat.reduceLT, reduceCtorEq, Int.reduceLT, Int.reduceLE, Int.reduceEq, Int.reduceBEq, Int.reduceSub, Int.reduceAdd, Int.reduceMul, Int.reduceNeg, Int.reduceToNat, Nat.reduceMul, Nat.reduceBEq] <;> rfl)
    clear hg
    rw [List.drop_zero, Int.zero_add] at h2
    by_cases h : l.all in02 = true
    · rw [if_pos h] at h2
      obtain ⟨rfl, h3⟩ := h2
      simp only [go_sem, reduceIte, Nat.reduceEqDiff, Nat.reduceAdd, Nat.reduceSub, Nat.reduceLeDiff, Nat.reduceLT, reduceCtorEq, Int.reduceLT, Int.reduceLE, Int.reduceEq, Int.reduceBEq, Int.reduceSub, Int.reduceAdd, Int.reduceMul, Int.reduceNeg, Int.reduceToNat, Nat.reduceMul, Nat.reduceBEq, h3, h]
    · rw [if_neg h] at h2
      obtain ⟨rfl, h3⟩ := h2
      simp only [go_sem, reduceIte, Nat.reduceEqDiff, Nat.reduceAdd, Nat.reduceSub, Nat.reduceLeDiff, Nat.reduceLT, reduceCtorEq, Int.reduceLT, Int.reduceLE, Int.reduceEq, Int.reduceBEq, Int.reduceSub, Int.reduceAdd, Int.reduceMul, Int.reduceNeg, Int.reduceToNat, Nat.reduceMul, Nat.reduceBEq, h3, h]
  · rw [if_neg p]
    simp only [ir45, go_sem, reduceIte, Nat.reduceEqDiff, Nat.reduceAdd, Nat.reduceSub, Nat.reduceLeDiff, Nat.reduceLT, reduceCtorEq, Int.reduceLT, Int.reduceLE, Int.reduceEq, Int.reduceBEq, Int.reduceSub, Int.reduceAdd, Int.reduceMul, Int.reduceNeg, Int.reduceToNat, Nat.reduceMul, Nat.reduceBEq, List.length_map, p]

/-- The first place of a number, or -1. -/
def indexOf (a : Int) : List Int → Nat → Int
  | [], _ => -1
  | b :: r, i => if a = b then (i : Int) else indexOf a r (i + 1)
theorem indexOf_nonneg (a : Int) : ∀ (l : List Int) (i : Nat), (0 ≤ indexOf a l i) = (a ∈ l)
  | [], i => by simp [indexOf]
  | b :: r, i => by
    have ih := indexOf_nonneg a r (i + 1)
    simp only [indexOf]
    split
    · next h => simp [h]
    · next h => rw [ih]; simp [h]

theorem loop46 (nl : Bool) (l : List Int) (hlen : l.length < 1000000) (a : Int) (i : Nat) (hok : i ≤ l.length) (env : Env) (st : St)
    (hg : gcAV true 0 0 (canon env [0, 1, 7, 8]) st = ([(0, sl 1 nl (l.map I)), (1, I a), (7, I l.length), (8, I i)], ⟨[], []⟩)) :
    ∃ x_1 en s, lim (headed pure (run L) true [0, 1, 7, 8] lp46_0 0 0) env st = some (x_1, en, s) ∧ (if a ∈ l.drop i then x_1 = .ret ∧ en.get 4 = I (indexOf a (l.drop i) i) else x_1 = .exit 0) := by
  refine loop_wp (α := Nat) (fun i => l.length - i) (fun i => i ≤ l.length) (fun i => ([(0, sl 1 nl (l.map I)), (1, I a), (7, I l.length), (8, I i)], ⟨[], []⟩)) (fun i x_1 en s => if a ∈ l.drop i then x_1 = .ret ∧ en.get 4 = I (indexOf a (l.drop i) i) else x_1 = .exit 0) (fun i hok => ?_) i hok env st hg
  by_cases h : i < l.length
  · have hx := index_ints nl l i h
    have hs := succ64 i (by omega)
    have hd : l.drop i = l[i] :: l.drop (i + 1) := List.drop_eq_getElem_cons h
    have hlt : ((i : Int) < (l.length : Int)) = True := eq_true (by omega)
    rw [hd]
    generalize l[i] = b at *
    by_cases p : a = b
    · simp only [go_sem, reduceIte, Nat.reduceEqDiff, Nat.reduceAdd, Nat.reduceSub, Nat.reduceLeDiff, Nat.reduceLT, reduceCtorEq, Int.reduceLT, Int.reduceLE, Int.reduceEq, Int.reduceBEq, Int.reduceSub, Int.reduceAdd, Int.reduceMul, Int.reduceNeg, Int.reduceToNat, Nat.reduceMul, Nat.reduceBEq, index_rsl_if, setm, make_ints, condK_dec, wantK_dec, not_dec, and_dec, or_dec, seqK_ite, seqK_none, blockK_ite, blockK_none, opsK_ite, opsK_none, stepK_ite, stepK_none, bodyK_ite, bodyK_none, resK_ite, resK_none, leaveK_ite, leaveK_none, only_ite, only_none, bind_ite, gives_some, gives_none, gives_ite, then_normal, then_ret, then_exit, then_none, then_ite, Option.bind_none, Bool.not_eq_true', decide_eq_false_iff_not, Bool.and_eq_true, Bool.or_eq_true, Option.some.injEq, Int.not_lt, Int.not_le, lp46_0, hx, hlt, p]
      rw [if_pos (by simp)]; simp [indexOf]
    · have e : indexOf a (b :: l.drop (i + 1)) i = indexOf a (l.drop (i + 1)) (i + 1) := by simp only [indexOf]; rw [if_neg p]
      simp only [go_sem, reduceIte, Nat.reduceEqDiff, Nat.reduceAdd, Nat.reduceSub, Nat.reduceLeDiff, Nat.reduceLT, reduceCtorEq, Int.reduceLT, Int.reduceLE, Int.reduceEq, Int.reduceBEq, Int.reduceSub, Int.reduceAdd, Int.reduceMul, Int.reduceNeg, Int.reduceToNat, Nat.reduceMul, Nat.reduceBEq, index_rsl_if, setm, make_ints, condK_dec, wantK_dec, not_dec, and_dec, or_dec, seqK_ite, seqK_none, blockK_ite, blockK_none, opsK_ite, opsK_none, stepK_ite, stepK_none, bodyK_ite, bodyK_none, resK_ite, resK_none, leaveK_ite, leaveK_none, only_ite, only_none, bind_ite, gives_some, gives_none, gives_ite, then_normal, then_ret, then_exit, then_none, then_ite, Option.bind_none, Bool.not_eq_true', decide_eq_false_iff_not, Bool.and_eq_true, Bool.or_eq_true, Option.some.injEq, Int.not_lt, Int.not_le, lp46_0, hx, hlt, p, hs]
      refine ⟨i + 1, by simp only [go_sem, reduceIte, Nat.reduceEqDiff, Nat.reduceAdd, Nat.reduceSub, Nat.reduceLeDiff, Nat.reduceLT, reduceCtorEq, Int.reduceLT, Int.reduceLE, Int.reduceEq, Int.reduceBEq, Int.reduceSub, Int.reduceAdd, Int.reduceMul, Int.reduceNeg, Int.reduceToNat, Nat.reduceMul, Nat.reduceBEq, ren1_locm, loc_tips, locT_eq] <;> rfl, ?_, ?_, fun x en s hq => ?_⟩
      · omega
      · omega
      · rw [e]; simp only [List.mem_cons, p, false_or]; exact hq
  · have hd : l.drop i = [] := List.drop_eq_nil_of_le (by omega)
    have hlt : ((i : Int) < (l.length : Int)) = False := eq_false (by omega)
    simp only [go_sem, reduceIte, Nat.reduceEqDiff, Nat.reduceAdd, Nat.reduceSub, Nat.reduceLeDiff, Nat.reduceLT, reduceCtorEq, Int.reduceLT, Int.reduceLE, Int.reduceEq, Int.reduceBEq, Int.reduceSub, Int.reduceAdd, Int.reduceMul, Int.reduceNeg, Int.reduceToNat, Nat.reduceMul, Nat.reduceBEq, index_rsl_if, setm, make_ints, condK_dec, wantK_dec, not_dec, and_dec, or_dec, seqK_ite, seqK_none, blockK_ite, blockK_none, opsK_ite, opsK_none, stepK_ite, stepK_none, bodyK_ite, bodyK_none, resK_ite, resK_none, leaveK_ite, leaveK_none, only_ite, only_none, bind_ite, gives_some, gives_none, gives_ite, then_normal, then_ret, then_exit, then_none, then_ite, Option.bind_none, Bool.not_eq_true', decide_eq_false_iff_not, Bool.and_eq_true, Bool.or_eq_true, Option.some.injEq, Int.not_lt, Int.not_le, lp46_0, hlt]
    rw [hd]; simp

theorem c46 (nl : Bool) (l : List Int) (hlen : l.length < 1000000) (a : Int) (st : St) : run L 46 [sl 1 nl (l.map I), I a] st = some (I (indexOf a l 0), st) := by
  rw [run_pure (fn := ir46) rfl rfl]
  simp only [ir46, go_sem, reduceIte, Nat.reduceEqDiff, Nat.reduceAdd, Nat.reduceSub, Nat.reduceLeDiff, Nat.reduceLT, reduceCtorEq, Int.reduceLT, Int.reduceLE, Int.reduceEq, Int.reduceBEq, Int.reduceSub, Int.reduceAdd, Int.reduceMul, Int.reduceNeg, Int.reduceToNat, Nat.reduceMul, Nat.reduceBEq, List.length_map]
  generalize hg : lim (headed pure (run L) true _ lp46_0 _ _) _ _ = o
  obtain ⟨x, en, s, rfl, h2⟩ : ∃ x en s, o = some (x, en, s) ∧ _ := by rw [← hg]; exact loop46 nl l hlen a 0 (by omega) _ _ (by simp only [go_sem, reduceIte, Nat.reduceEqDiff, Nat.reduceAdd, Nat.reduceSub, Nat.reduceLeDiff, Nat.reduceLT, reduceCtorEq, Int.reduceLT, Int.reduceLE, Int.reduceEq, Int.reduceBEq, Int.reduceSub, Int.reduceAdd, Int.reduceMul, Int.reduceNeg, Int.reduceToNat, Nat.reduceMul, Nat.reduceBEq] <;> rfl)
  clear hg
  rw [List.drop_zero] at h2
  by_cases h : a ∈ l
  · rw [if_pos h] at h2
    obtain ⟨rfl, h3⟩ := h2
    simp only [go_sem, reduceIte, Nat.reduceEqDiff, Nat.reduceAdd, Nat.reduceSub, Nat.reduceLeDiff, Nat.reduceLT, reduceCtorEq, Int.reduceLT, Int.reduceLE, Int.reduceEq, Int.reduceBEq, Int.reduceSub, Int.reduceAdd, Int.reduceMul, Int.reduceNeg, Int.reduceToNat, Nat.reduceMul, Nat.reduceBEq, h3]
  · rw [if_neg h] at h2
    subst h2
    have e : indexOf a l 0 = -1 := by
      have : ∀ (l : List Int) (i : Nat), a ∉ l → indexOf a l i = -1 := by
        intro l
        induction l with
        | nil => intro i _; rfl
        | cons b r ih =>
          intro i hn
          simp only [List.mem_cons, not_or] at hn
          simp only [indexOf]; rw [if_neg hn.1]; exact ih _ hn.2
      exact this l 0 h
    simp only [go_sem, reduceIte, Nat.reduceEqDiff, Nat.reduceAdd, Nat.reduceSub, Nat.reduceLeDiff, Nat.reduceLT, reduceCtorEq, Int.reduceLT, Int.reduceLE, Int.reduceEq, Int.reduceBEq, Int.reduceSub, Int.reduceAdd, Int.reduceMul, Int.reduceNeg, Int.reduceToNat, Nat.reduceMul, Nat.reduceBEq, e]
theorem c49 (nl : Bool) (l : List Int) (hlen : l.length < 1000000) (a : Int) (st : St) : run L 49 [sl 1 nl (l.map I), I a] st = some (B (decide (a ∈ l)), st) := by
  rw [run_pure (fn := ir49) rfl rfl]
  have h46 := fun st => c46 nl l hlen a st
  have hn := indexOf_nonneg a l 0
  simp only [ir49, go_sem, reduceIte, Nat.reduceEqDiff, Nat.reduceAdd, Nat.reduceSub, Nat.reduceLeDiff, Nat.reduceLT, reduceCtorEq, Int.reduceLT, Int.reduceLE, Int.reduceEq, Int.reduceBEq, Int.reduceSub, Int.reduceAdd, Int.reduceMul, Int.reduceNeg, Int.reduceToNat, Nat.reduceMul, Nat.reduceBEq, h46, hn]


/-! ### two lists that grow -/
def vAV (v : List Int) : AV := loc 1 0 (v.map I)
def vT (v : List Int) : List Nat := locT 0 (v.map I)
def sAV (v s : List Int) : AV := if s = [] then .v (.slice none 0 0) else .lst (.own (vT v).length s.length) 1 (s.map I)
theorem okRef_v (n : Nat) (v : List Int) : okRef n (vAV v) = true := okRef_loc _ _ _ _
theorem pub_v (v : List Int) : pub (vAV v) = sl 1 true (v.map I) := pub_loc 1 0 _
theorem len_v (v : List Int) : lenAV (vAV v) = some (I v.length) := by unfold vAV; rw [len_loc]; simp
theorem okRef_s (n : Nat) (v s : List Int) : okRef n (sAV v s) = true := by unfold sAV; split <;> rfl
theorem pub_s (v s : List Int) : pub (sAV v s) = sl 1 true (s.map I) := by
  unfold sAV
  split
  · next h => subst h; rfl
  · next h => rw [sl_ne (by simpa using h)]; rfl
theorem len_s (v s : List Int) : lenAV (sAV v s) = some (I s.length) := by
  unfold sAV
  split
  · next h => subst h; rfl
  · next h => rw [len_lst]; simp
attribute [local go_sem] okRef_v pub_v len_v okRef_s pub_s len_s


/-! ### shares are worth no more than values cost -/
theorem sum_upd {f g : Nat → Int} {i : Nat} {d : Int} : ∀ l : List Nat, l.Nodup → i ∈ l → (∀ a ∈ l, a ≠ i → f a = g a) → f i = g i + d → sumL (l.map f) = sumL (l.map g) + d
  | [], _, hi, _, _ => by simp at hi
  | a :: r, hn, hi, h, hd => by
    rw [List.nodup_cons] at hn
    simp only [List.map_cons, sumL]
    by_cases e : a = i
    · subst e
      have : r.map f = r.map g := List.map_congr_left (fun b hb => h b (by simp [hb]) (fun e => hn.1 (e ▸ hb)))
      rw [this, hd]; omega
    · have h1 := sum_upd r hn.2 (by simpa [Ne.symm e] using hi) (fun b hb => h b (by simp [hb])) hd
      rw [h1, h a (by simp) e]; omega
def dot (n : Nat) (v o : List Int) : Int := sumL ((List.range n).map fun a => v.getD a 0 * o.getD a 0)
theorem dot_addAt {n : Nat} (v o : List Int) {i : Nat} (hi : i < n) (ho : i < o.length) (x : Int) : dot n v (addAt o i x) = dot n v o + v.getD i 0 * x := by
  unfold dot
  apply sum_upd (i := i) _ List.nodup_range (List.mem_range.2 hi)
  · intro a _ hne; rw [addAt_getD _ _ _ _ ho, if_neg hne]
  · rw [addAt_getD _ _ _ _ ho, if_pos rfl, Int.mul_add]
def wsum (v : List Int) (l : List ((Int × Int) × Int)) : Int := sumL (l.map fun e => (v.getD e.1.1.toNat 0 + v.getD e.1.2.toNat 0) * e.2)
theorem has1_len (o : List Int) (e : (Int × Int) × Int) : (has1 o e).length = o.length := by simp [has1, addAt_len]
theorem fold_len : ∀ (l : List ((Int × Int) × Int)) (o : List Int), (l.foldl has1 o).length = o.length
  | [], o => rfl
  | e :: r, o => by rw [List.foldl_cons, fold_len r, has1_len]
theorem dot_fold {n : Nat} (hn : n ≤ 7) (v : List Int) : ∀ (l : List ((Int × Int) × Int)) (o : List Int), o.length = 7 → (∀ e ∈ l, 0 ≤ e.1.1 ∧ e.1.1 < e.1.2 ∧ e.1.2 < (n : Int)) → dot n v (l.foldl has1 o) = dot n v o + wsum v l
  | [], o, _, _ => by simp [wsum, sumL]
  | e :: r, o, ho, h => by
    have he := h e (by simp)
    rw [List.foldl_cons, dot_fold hn v r _ (by rw [has1_len, ho]) (fun x hx => h x (by simp [hx]))]
    unfold has1
    rw [dot_addAt v _ (by omega) (by rw [addAt_len]; omega), dot_addAt v _ (by omega) (by omega)]
    simp only [wsum, List.map_cons, sumL, Int.add_mul]; omega
theorem sum_le2 {α : Type} {f g : α → Int} : ∀ l : List α, (∀ a ∈ l, f a ≤ g a) → sumL (l.map f) ≤ sumL (l.map g)
  | [], _ => by simp
  | a :: r, h => by
    have h1 := sum_le2 (f := f) (g := g) r (fun x hx => h x (by simp [hx]))
    have h2 := h a (by simp)
    simp only [List.map_cons, sumL]; omega
theorem sum_two {α : Type} (f : α → Int) : ∀ l : List α, sumL (l.map fun a => f a * 2) = 2 * sumL (l.map f)
  | [] => by simp [sumL]
  | a :: r => by
    have := sum_two f r
    simp only [List.map_cons, sumL]; omega
theorem weak {n : Nat} (hn : n ≤ 7) {ps : List (Int × Int)} (hps : ∀ p ∈ ps, 0 ≤ p.1 ∧ p.1 < p.2 ∧ p.2 < (n : Int)) {v s : List Int} (hv : v.length = n) (hvb : ∀ x ∈ v, 0 ≤ x ∧ x ≤ 2) (hs : s.length = ps.length) (hsb : ∀ x ∈ s, 0 ≤ x ∧ x ≤ 2)
    (hh : halfOk ps v = true) (ho : overB ps s = false) : sumL s ≤ sumL v := by
  have hz : ∀ e ∈ ps.zip s, e.1 ∈ ps ∧ e.2 ∈ s := fun e he => ⟨(List.of_mem_zip he).1, (List.of_mem_zip he).2⟩
  have h1 := dot_fold hn v (ps.zip s) (List.replicate 7 0) (by simp) (fun e he => hps _ (hz e he).1)
  have h0 : dot n v (List.replicate 7 0) = 0 := by
    have : ∀ l : List Nat, sumL (l.map fun a => v.getD a 0 * (List.replicate 7 (0 : Int)).getD a 0) = 0 := by
      intro l
      induction l with
      | nil => rfl
      | cons a r ih =>
        simp only [List.map_cons, sumL, ih]
        rw [List.getD_eq_getElem?_getD (l := List.replicate 7 (0 : Int)), List.getElem?_replicate]
        split <;> simp
    exact this _
  have he : (ps.zip s).foldl has1 (List.replicate 7 0) = hasL ps s := rfl
  rw [h0, he, Int.zero_add] at h1
  -- each pair has enough
  have h2 : 2 * sumL s ≤ wsum v (ps.zip s) := by
    have e : sumL s = sumL ((ps.zip s).map fun e => e.2) := by
      have := List.map_snd_zip (l₁ := ps) (l₂ := s) (by omega)
      have e2 : (ps.zip s).map (fun e => e.2) = s := this
      rw [e2]
    rw [e, ← sum_two]
    apply sum_le2
    intro e he
    obtain ⟨m1, m2⟩ := hz e he
    have g1 := List.all_eq_true.1 hh _ m1
    simp only [enough, decide_eq_true_iff] at g1
    have g2 := (hsb _ m2).1
    have := Int.mul_le_mul_of_nonneg_left g1 g2
    rw [Int.mul_comm (v.getD _ 0 + v.getD _ 0)]
    exact this
  -- no article has more than 2
  have h3 : dot n v (hasL ps s) ≤ 2 * sumL v := by
    have e : sumL v = sumL ((List.range n).map fun a => v.getD a 0) := by rw [← list_range v n hv]
    rw [e, ← sum_two]
    unfold dot
    apply sum_le2
    intro a _
    have g1 : 0 ≤ v.getD a 0 := (getD_bd (B := 2) (by omega) hvb a).1
    have g2 : (hasL ps s).getD a 0 ≤ 2 := by
      unfold overB at ho
      rw [List.any_eq_false] at ho
      rw [List.getD_eq_getElem?_getD]
      cases h4 : (hasL ps s)[a]?
      · simp
      · have := ho _ (List.mem_of_getElem? h4); simpa using this
    exact Int.mul_le_mul_of_nonneg_left g2 g1
  omega

/-! ### what is accepted, by the outright words -/
def halvesE (n : Nat) (ps : List (Int × Int)) (v : List Int) : Int := if v.length = n then (if ∃ x ∈ v, 2 < x then 1 else if halfOk ps v = true then 0 else 21) else 5
def sharedE (ps : List (Int × Int)) (s : List Int) : Int := if s.length = ps.length then (if (-1 : Int) ∈ s then 1 else if overB ps s = true then 15 else 0) else 5
theorem halves_eq {n : Nat} {ps : List (Int × Int)} {v : List Int} (hc : chk n ps = 0) (hv : ∀ x ∈ v, 0 ≤ x) : (halvedV n ps v).2 = halvesE n ps v := by
  unfold halvedV halvesE numbersV
  rw [if_pos hc]
  by_cases p : v.length = n
  · have p' : (v.length : Int) = (n : Int) := by omega
    rw [if_pos p, if_pos p']
    by_cases q : ∃ x ∈ v, 2 < x
    · have q' : ¬ v.all in02 = true := by
        intro h; obtain ⟨x, hx, h2⟩ := q; have := all02 h x hx; omega
      rw [if_pos q, if_neg q']; rfl
    · have q' : v.all in02 = true := by
        rw [List.all_eq_true]; intro x hx
        have h1 := hv x hx
        have h2 : ¬ 2 < x := fun h => q ⟨x, hx, h⟩
        exact decide_eq_true (by omega)
      rw [if_neg q, if_pos q']
      by_cases r : halfOk ps v = true
      · simp [r]
      · simp [r]
  · have p' : ¬ (v.length : Int) = (n : Int) := by omega
    rw [if_neg p, if_neg p']; rfl
theorem shared_eq {n : Nat} {ps : List (Int × Int)} {s : List Int} (hc : chk n ps = 0) (hs : ∀ x ∈ s, -1 ≤ x ∧ x ≤ 2) : (sharedV n ps s).2 = sharedE ps s := by
  unfold sharedV sharedE numbersV
  rw [if_pos hc]
  by_cases p : s.length = ps.length
  · have p' : (s.length : Int) = (ps.length : Int) := by omega
    rw [if_pos p, if_pos p']
    by_cases q : (-1 : Int) ∈ s
    · have q' : ¬ s.all in02 = true := by
        intro h; have := all02 h _ q; omega
      rw [if_pos q, if_neg q']; rfl
    · have q' : s.all in02 = true := by
        rw [List.all_eq_true]; intro x hx
        have h1 := hs x hx
        have h2 : x ≠ -1 := fun h => q (h ▸ hx)
        exact decide_eq_true (by omega)
      rw [if_neg q, if_pos q']
      by_cases r : overB ps s = true
      · simp [r]
      · simp [r]
  · have p' : ¬ (s.length : Int) = (ps.length : Int) := by omega
    rw [if_neg p, if_neg p']; rfl
theorem halvesE_zero {n : Nat} {ps : List (Int × Int)} {v : List Int} (hv : ∀ x ∈ v, 0 ≤ x) (h : halvesE n ps v = 0) : v.length = n ∧ (∀ x ∈ v, 0 ≤ x ∧ x ≤ 2) ∧ halfOk ps v = true := by
  unfold halvesE at h
  split at h
  · next h1 =>
    split at h
    · simp at h
    · next h2 =>
      split at h
      · next h3 => exact ⟨h1, fun x hx => ⟨hv x hx, by have : ¬ 2 < x := fun h => h2 ⟨x, hx, h⟩; omega⟩, h3⟩
      · simp at h
  · simp at h
theorem sharedE_zero {ps : List (Int × Int)} {s : List Int} (hs : ∀ x ∈ s, -1 ≤ x ∧ x ≤ 2) (h : sharedE ps s = 0) : s.length = ps.length ∧ (∀ x ∈ s, 0 ≤ x ∧ x ≤ 2) ∧ overB ps s = false := by
  unfold sharedE at h
  split at h
  · next h1 =>
    split at h
    · simp at h
    · next h2 =>
      split at h
      · simp at h
      · next h3 => exact ⟨h1, fun x hx => by have := hs x hx; have : x ≠ -1 := fun e => h2 (e ▸ hx); omega, by simpa using h3⟩
  · simp at h
theorem proves_eq {n : Nat} (hn : n ≤ 7) {ps : List (Int × Int)} (hps : ∀ p ∈ ps, 0 ≤ p.1 ∧ p.1 < p.2 ∧ p.2 < (n : Int)) (hc : chk n ps = 0) {v s : List Int} (hv : ∀ x ∈ v, 0 ≤ x) (hs : ∀ x ∈ s, -1 ≤ x ∧ x ≤ 2) :
    provesV n ps v s = (if halvesE n ps v = 0 then (if sharedE ps s = 0 then (if sumL s < sumL v then 14 else 0) else sharedE ps s) else halvesE n ps v) ∧ (halvesE n ps v = 0 → sharedE ps s = 0 → sumL s ≤ sumL v ∧ v.all in02 = true ∧ s.all in02 = true) := by
  have hw : halvesE n ps v = 0 → sharedE ps s = 0 → sumL s ≤ sumL v ∧ v.all in02 = true ∧ s.all in02 = true := by
    intro h1 h2
    obtain ⟨a1, a2, a3⟩ := halvesE_zero hv h1
    obtain ⟨b1, b2, b3⟩ := sharedE_zero hs h2
    exact ⟨weak hn hps a1 a2 b1 b2 a3 b3, List.all_eq_true.2 (fun x hx => decide_eq_true (a2 x hx)), List.all_eq_true.2 (fun x hx => decide_eq_true (b2 x hx))⟩
  refine ⟨?_, hw⟩
  unfold provesV
  rw [halves_eq hc hv, shared_eq hc hs]
  by_cases p1 : halvesE n ps v = 0
  · rw [if_pos p1, if_pos p1]
    by_cases p2 : sharedE ps s = 0
    · rw [if_pos p2, if_pos p2]
      obtain ⟨w1, w2, w3⟩ := hw p1 p2
      obtain ⟨a1, a2, a3⟩ := halvesE_zero hv p1
      obtain ⟨b1, b2, b3⟩ := sharedE_zero hs p2
      have e1 : (halvedV n ps v).1 = sumL v := by
        unfold halvedV numbersV
        rw [if_pos hc, if_pos (show (v.length : Int) = (n : Int) by omega), if_pos w2, if_pos rfl, if_pos a3]
      have e2 : (sharedV n ps s).1 = sumL s := by
        unfold sharedV numbersV
        rw [if_pos hc, if_pos (show (s.length : Int) = (ps.length : Int) by omega), if_pos w3, if_pos rfl, if_neg (by rw [b3]; simp)]
      rw [e1, e2]
      split <;> split <;> omega
    · rw [if_neg p2, if_neg p2]
  · rw [if_neg p1, if_neg p1]


/-! ### three lists that grow in an array -/
def n1 (xs : List Int) : Nat := if xs = [] then 0 else 1


/-! ### a list of pairs that grows behind other lists -/
def pN (k : Nat) (o : List (Int × Int)) : AV := if o = [] then .v (.slice none 0 0) else .lst (.own k o.length) 2 (o.map prAV)
theorem okRef_pN (n k : Nat) (o : List (Int × Int)) : okRef n (pN k o) = true := by unfold pN; split <;> rfl
theorem pub_pN (k : Nat) (o : List (Int × Int)) : pub (pN k o) = sl 2 true (o.map prAV) := by
  unfold pN
  split
  · next h => subst h; rfl
  · next h => rw [sl_ne (by simpa using h)]; rfl
attribute [local go_sem] okRef_pN pub_pN


/-! ### the reference's shares -/
def loadOf (l : List ((Int × Int) × Int)) (a : Int) : Int :=
  match l with
  | [] => 0
  | e :: r => (if e.1.1 = a ∨ e.1.2 = a then e.2 else 0) + loadOf r a
/-- Does an article from one on have too much? -/
def overFrom (l : List ((Int × Int) × Int)) (n a : Nat) : Bool := (List.range' a (n - a)).any fun b => decide (2 < loadOf l (b : Int))


/-- All shares that begin with some. -/
def shF (n : Nat) (ps : List (Int × Int)) : Nat → List Int → List (List Int)
  | 0, b => [b]
  | k + 1, b => (List.range' 0 3).flatMap fun (x : Nat) => if overFrom (ps.zip (b ++ [(x : Int)])) n 0 = true then [] else shF n ps k (b ++ [(x : Int)])
/-! ### a list of lists that grows -/
def lAV (o : List (List Int)) : AV := loc 1 0 (o.map listAV)
theorem okRef_l (n : Nat) (o : List (List Int)) : okRef n (lAV o) = true := okRef_loc _ _ _ _
theorem fin_l (st : St) (o : List (List Int)) : fin st (lAV o) = sl 1 true (o.map listAV) := fin_loc st 1 0 _
attribute [local go_sem] okRef_l fin_l


/-! ### the two ways to see that an article has too much -/
theorem fold_getD {n : Nat} (hn : n ≤ 7) : ∀ (l : List ((Int × Int) × Int)) (o : List Int) (a : Nat), o.length = 7 → (∀ e ∈ l, 0 ≤ e.1.1 ∧ e.1.1 < e.1.2 ∧ e.1.2 < (n : Int)) → (l.foldl has1 o).getD a 0 = o.getD a 0 + loadOf l (a : Int)
  | [], o, a, _, _ => by simp [loadOf]
  | e :: r, o, a, ho, h => by
    have he := h e (by simp)
    rw [List.foldl_cons, fold_getD hn r _ a (by rw [has1_len, ho]) (fun x hx => h x (by simp [hx]))]
    unfold has1
    rw [addAt_getD _ _ _ _ (by rw [addAt_len]; omega), addAt_getD _ _ _ _ (by omega)]
    simp only [loadOf]
    by_cases p1 : a = e.1.2.toNat
    · rw [if_pos p1, if_neg (by omega), if_pos (by right; omega)]; omega
    · rw [if_neg p1]
      by_cases p2 : a = e.1.1.toNat
      · rw [if_pos p2, if_pos (by left; omega)]; omega
      · rw [if_neg p2, if_neg (by omega)]; omega
theorem load_out {n : Nat} : ∀ (l : List ((Int × Int) × Int)) (a : Nat), n ≤ a → (∀ e ∈ l, 0 ≤ e.1.1 ∧ e.1.1 < e.1.2 ∧ e.1.2 < (n : Int)) → loadOf l (a : Int) = 0
  | [], _, _, _ => rfl
  | e :: r, a, ha, h => by
    have he := h e (by simp)
    simp only [loadOf]
    rw [load_out r a ha (fun x hx => h x (by simp [hx])), if_neg (by omega)]; rfl
theorem zip_ok {n : Nat} {ps : List (Int × Int)} (hps : ∀ p ∈ ps, 0 ≤ p.1 ∧ p.1 < p.2 ∧ p.2 < (n : Int)) (s : List Int) : ∀ e ∈ ps.zip s, 0 ≤ e.1.1 ∧ e.1.1 < e.1.2 ∧ e.1.2 < (n : Int) := fun e he => hps _ (List.of_mem_zip he).1
theorem over_iff {n : Nat} (l : List ((Int × Int) × Int)) : overFrom l n 0 = true ↔ ∃ a : Nat, a < n ∧ 2 < loadOf l (a : Int) := by
  unfold overFrom
  rw [List.any_eq_true]
  constructor
  · rintro ⟨a, h1, h2⟩
    rw [List.mem_range'_1] at h1
    exact ⟨a, by omega, of_decide_eq_true h2⟩
  · rintro ⟨a, h1, h2⟩
    exact ⟨a, by rw [List.mem_range'_1]; omega, decide_eq_true h2⟩
theorem over_eq {n : Nat} (hn : n ≤ 7) {ps : List (Int × Int)} (hps : ∀ p ∈ ps, 0 ≤ p.1 ∧ p.1 < p.2 ∧ p.2 < (n : Int)) (s : List Int) : overFrom (ps.zip s) n 0 = overB ps s := by
  rw [Bool.eq_iff_iff, over_iff]
  unfold overB
  rw [List.any_eq_true]
  have hl : (hasL ps s).length = 7 := by unfold hasL; rw [fold_len]; simp
  have hg : ∀ a : Nat, a < 7 → (hasL ps s).getD a 0 = loadOf (ps.zip s) (a : Int) := by
    intro a ha
    unfold hasL
    rw [fold_getD hn _ _ _ (by simp) (zip_ok hps s), List.getD_eq_getElem?_getD, List.getElem?_replicate]
    split <;> simp
  constructor
  · rintro ⟨a, h1, h2⟩
    have ha : a < 7 := by omega
    rw [← hg a ha, List.getD_eq_getElem?_getD, List.getElem?_eq_getElem (by omega)] at h2
    exact ⟨(hasL ps s)[a]'(by omega), List.getElem_mem _, decide_eq_true (by simpa using h2)⟩
  · rintro ⟨x, hx, h2⟩
    obtain ⟨a, ha, rfl⟩ := List.getElem_of_mem hx
    have h3 := hg a (by omega)
    rw [List.getD_eq_getElem?_getD, List.getElem?_eq_getElem ha] at h3
    have h4 : (hasL ps s)[a] = loadOf (ps.zip s) (a : Int) := by simpa using h3
    have h5 := of_decide_eq_true h2
    rw [h4] at h5
    rcases Nat.lt_or_ge a n with h6 | h6
    · exact ⟨a, h6, h5⟩
    · rw [load_out _ a h6 (zip_ok hps s)] at h5; omega

/-! ### all shares -/
theorem load_append : ∀ (l r : List ((Int × Int) × Int)) (a : Int), loadOf (l ++ r) a = loadOf l a + loadOf r a
  | [], r, a => by simp [loadOf]
  | e :: l, r, a => by simp only [List.cons_append, loadOf, load_append l r a]; omega
theorem load_zip_le {ps : List (Int × Int)} (b t : List Int) (ht : ∀ x ∈ t, 0 ≤ x) (a : Int) : loadOf (ps.zip b) a ≤ loadOf (ps.zip (b ++ t)) a := by
  have hn : ∀ l : List ((Int × Int) × Int), (∀ e ∈ l, 0 ≤ e.2) → 0 ≤ loadOf l a := by
    intro l
    induction l with
    | nil => intro _; simp [loadOf]
    | cons e r ih =>
      intro h
      have h1 := h e (by simp)
      have h2 := ih (fun x hx => h x (by simp [hx]))
      simp only [loadOf]; split <;> omega
  rcases Nat.lt_or_ge b.length ps.length with h | h
  · have e : ps.zip (b ++ t) = (ps.take b.length).zip b ++ (ps.drop b.length).zip t := by
      have := List.zip_append (l₁ := ps.take b.length) (r₁ := ps.drop b.length) (l₂ := b) (r₂ := t) (by simp; omega)
      rw [List.take_append_drop] at this
      exact this
    have e2 : ps.zip b = (ps.take b.length).zip b := by
      have := List.zip_append (l₁ := ps.take b.length) (r₁ := ps.drop b.length) (l₂ := b) (r₂ := []) (by simp; omega)
      rw [List.take_append_drop, List.append_nil, List.zip_nil_right, List.append_nil] at this
      exact this
    rw [e, e2, load_append]
    have := hn ((ps.drop b.length).zip t) (fun e he => ht _ (List.of_mem_zip he).2)
    omega
  · have e : ps.zip (b ++ t) = ps.zip b := by
      have : ∀ (ps : List (Int × Int)) (b : List Int), ps.length ≤ b.length → ps.zip (b ++ t) = ps.zip b := by
        intro ps
        induction ps with
        | nil => intro b _; simp
        | cons p r ih =>
          intro b h
          cases b with
          | nil => simp at h
          | cons y b => simp only [List.cons_append, List.zip_cons_cons]; rw [ih b (by simpa using h)]
      exact this ps b h
    rw [e]; exact Int.le_refl _
/-- What the shares that begin with some are. -/
theorem mem_shF {n : Nat} {ps : List (Int × Int)} : ∀ (k : Nat) (b l : List Int), b.length + k = ps.length → (l ∈ shF n ps k b ↔ ∃ t : List Int, l = b ++ t ∧ t.length = k ∧ (∀ x ∈ t, 0 ≤ x ∧ x ≤ 2) ∧ (k = 0 ∨ overFrom (ps.zip l) n 0 = false))
  | 0, b, l, _ => by
    simp only [shF, List.mem_singleton]
    constructor
    · rintro rfl; exact ⟨[], by simp, rfl, by simp, .inl trivial⟩
    · rintro ⟨t, rfl, ht, _⟩
      have : t = [] := List.eq_nil_of_length_eq_zero ht
      simp [this]
  | k + 1, b, l, hb => by
    simp only [shF, List.mem_flatMap, List.mem_range'_1]
    constructor
    · rintro ⟨x, hx, hl⟩
      split at hl
      · simp at hl
      · next ho =>
        obtain ⟨t, h1, h2, h3, h4⟩ := (mem_shF k (b ++ [(x : Int)]) l (by simp; omega)).1 hl
        refine ⟨(x : Int) :: t, by rw [h1]; simp, by simp [h2], ?_, ?_⟩
        · intro y hy
          rcases List.mem_cons.1 hy with rfl | hy
          · omega
          · exact h3 y hy
        · right
          rcases h4 with h4 | h4
          · have : t = [] := List.eq_nil_of_length_eq_zero (by omega)
            subst this
            rw [List.append_nil] at h1
            rw [h1]; simpa using ho
          · exact h4
    · rintro ⟨t, h1, h2, h3, h4⟩
      cases t with
      | nil => simp at h2
      | cons y t =>
        have hy := h3 y (by simp)
        obtain ⟨x, rfl⟩ := Int.eq_ofNat_of_zero_le hy.1
        have h4' : overFrom (ps.zip l) n 0 = false := by
          rcases h4 with h4 | h4
          · omega
          · exact h4
        have e : l = (b ++ [(x : Int)]) ++ t := by rw [h1]; simp
        refine ⟨x, by omega, ?_⟩
        have ho : ¬ overFrom (ps.zip (b ++ [(x : Int)])) n 0 = true := by
          intro ho
          obtain ⟨a, ha, h5⟩ := (over_iff _).1 ho
          have h6 := load_zip_le (ps := ps) (b ++ [(x : Int)]) t (fun z hz => (h3 z (by simp [hz])).1) (a : Int)
          rw [← e] at h6
          have : overFrom (ps.zip l) n 0 = true := (over_iff _).2 ⟨a, ha, by omega⟩
          rw [h4'] at this; simp at this
        rw [if_neg ho]
        exact (mem_shF k (b ++ [(x : Int)]) l (by simp; omega)).2 ⟨t, e, by simpa using h2, fun z hz => h3 z (by simp [hz]), .inr h4'⟩
theorem shF_prefix {n : Nat} {ps : List (Int × Int)} : ∀ (k : Nat) (b : List Int), ∀ l ∈ shF n ps k b, ∃ t, l = b ++ t
  | 0, b, l, hl => ⟨[], by simpa [shF] using hl⟩
  | k + 1, b, l, hl => by
    simp only [shF, List.mem_flatMap] at hl
    obtain ⟨x, _, hl⟩ := hl
    split at hl
    · simp at hl
    · obtain ⟨t, h⟩ := shF_prefix k _ l hl
      exact ⟨(x : Int) :: t, by rw [h]; simp⟩
theorem lex_pre : ∀ (b : List Int) {x y : Int} (s t : List Int), x < y → lexLt (b ++ [x] ++ s) (b ++ [y] ++ t) = true
  | [], x, y, s, t, h => by simp [lexLt, h]
  | a :: b, x, y, s, t, h => by
    have := lex_pre b s t h
    simp only [List.cons_append, lexLt, this]; simp
theorem shF_sorted {n : Nat} {ps : List (Int × Int)} : ∀ (k : Nat) (b : List Int), (shF n ps k b).Pairwise fun a c => lexLt a c = true
  | 0, b => by simp [shF]
  | k + 1, b => by
    simp only [shF]
    rw [List.pairwise_flatMap]
    refine ⟨?_, ?_⟩
    · intro x _
      split
      · simp
      · exact shF_sorted k _
    · have hv : (List.range' 0 3).Pairwise (· < ·) := by decide
      refine hv.imp ?_
      intro x y h a ha c hc
      split at ha
      · simp at ha
      · split at hc
        · simp at hc
        · obtain ⟨s, rfl⟩ := shF_prefix k _ a ha
          obtain ⟨t, rfl⟩ := shF_prefix k _ c hc
          exact lex_pre b s t (by omega)

/-- The reference's shares: the first of those that are worth most. -/
def pickS (best c : List Int) : List Int := if sumL best < sumL c then c else best
def sharesR (n : Nat) (ps : List (Int × Int)) : List Int := match shF n ps ps.length [] with | [] => [] | b :: r => r.foldl pickS b
theorem pickS_spec : ∀ (r : List (List Int)) (b : List Int), (b :: r).Pairwise (fun a c => lexLt a c = true) → r.foldl pickS b ∈ b :: r ∧ ∀ c ∈ b :: r, sumL c ≤ sumL (r.foldl pickS b) ∧ (sumL c = sumL (r.foldl pickS b) → lexLt c (r.foldl pickS b) = false)
  | [], b, _ => by simp [lex_irrefl]
  | a :: r, b, hp => by
    rw [List.pairwise_cons] at hp
    obtain ⟨hb, hp⟩ := hp
    rw [List.foldl_cons]
    by_cases h : sumL b < sumL a
    · have e : pickS b a = a := by unfold pickS; rw [if_pos h]
      rw [e]
      obtain ⟨h1, h2⟩ := pickS_spec r a hp
      refine ⟨List.mem_cons_of_mem _ h1, fun c hc => ?_⟩
      rcases List.mem_cons.1 hc with rfl | hc
      · have := (h2 a (by simp)).1
        exact ⟨by omega, fun h => by omega⟩
      · exact h2 c hc
    · have e : pickS b a = b := by unfold pickS; rw [if_neg h]
      rw [e]
      have hp2 : (b :: r).Pairwise fun a c => lexLt a c = true := List.pairwise_cons.2 ⟨fun c hc => hb c (by simp [hc]), (List.pairwise_cons.1 hp).2⟩
      obtain ⟨h1, h2⟩ := pickS_spec r b hp2
      refine ⟨?_, fun c hc => ?_⟩
      · rcases List.mem_cons.1 h1 with h1 | h1
        · rw [h1]; simp
        · simp [h1]
      · rcases List.mem_cons.1 hc with rfl | hc
        · exact h2 _ (by simp)
        · rcases List.mem_cons.1 hc with rfl | hc
          · have hbb := h2 b (by simp)
            refine ⟨by omega, fun h3 => ?_⟩
            have hle : lexLt b (r.foldl pickS b) = false := hbb.2 (by omega)
            have hlt := hb c (by simp)
            exact lex_le hle (lex_asymm hlt)
          · exact h2 c (by simp [hc])


theorem shF_ok {n : Nat} {ps : List (Int × Int)} {l : List Int} (h : l ∈ shF n ps ps.length []) : l.length = ps.length ∧ ∀ x ∈ l, 0 ≤ x ∧ x ≤ 2 := by
  obtain ⟨t, h1, h2, h3, _⟩ := (mem_shF ps.length [] l (by simp)).1 h
  rw [List.nil_append] at h1; subst h1
  exact ⟨h2, h3⟩
/-- No shares at all are shares. -/
theorem shF_zero {n : Nat} {ps : List (Int × Int)} : List.replicate ps.length (0 : Int) ∈ shF n ps ps.length [] := by
  refine (mem_shF ps.length [] _ (by simp)).2 ⟨_, rfl, by simp, ?_, ?_⟩
  · intro x hx; rw [List.mem_replicate] at hx; omega
  · right
    cases h : overFrom (ps.zip (List.replicate ps.length (0 : Int))) n 0
    · rfl
    · obtain ⟨a, _, h2⟩ := (over_iff _).1 h
      have : ∀ (l : List ((Int × Int) × Int)), (∀ e ∈ l, e.2 = 0) → loadOf l (a : Int) = 0 := by
        intro l
        induction l with
        | nil => intro _; rfl
        | cons e r ih =>
          intro h
          simp only [loadOf]
          rw [ih (fun x hx => h x (by simp [hx])), h e (by simp)]; simp
      rw [this _ (fun e he => (List.mem_replicate.1 (List.of_mem_zip he).2).2)] at h2
      omega

theorem sharesR_in {n : Nat} {ps : List (Int × Int)} : sharesR n ps ∈ shF n ps ps.length [] ∧ ∀ c ∈ shF n ps ps.length [], sumL c ≤ sumL (sharesR n ps) ∧ (sumL c = sumL (sharesR n ps) → lexLt c (sharesR n ps) = false) := by
  have hne := List.ne_nil_of_mem (shF_zero (n := n) (ps := ps))
  have hso := shF_sorted (n := n) (ps := ps) ps.length []
  unfold sharesR
  cases h : shF n ps ps.length [] with
  | nil => exact absurd h hne
  | cons b r =>
    rw [h] at hso
    exact pickS_spec r b hso
/-- A list and an error. -/
def shv (n : Int) (ps : List (Int × Int)) : List Int × Int := if chk n ps = 0 then (sharesR n.toNat ps, 0) else ([], chk n ps)


/-! ### Hall's theorem -/
/-- What some have to do with, of the first m. -/
def nbrs (m : Nat) (r : Nat → Nat → Bool) (S : List Nat) : List Nat := (List.range m).filter fun y => S.any fun x => r x y
theorem mem_nbrs {m : Nat} {r : Nat → Nat → Bool} {S : List Nat} {y : Nat} : y ∈ nbrs m r S ↔ y < m ∧ ∃ x ∈ S, r x y = true := by simp [nbrs]
theorem filter_or_len {α : Type} (p q : α → Bool) : ∀ l : List α, (∀ x ∈ l, ¬(p x = true ∧ q x = true)) → (l.filter fun x => p x || q x).length = (l.filter p).length + (l.filter q).length
  | [], _ => rfl
  | a :: l, h => by
    have ih := filter_or_len p q l (fun x hx => h x (by simp [hx]))
    have ha := h a (by simp)
    cases h1 : p a <;> cases h2 : q a <;> simp_all <;> omega
theorem filter_le_len {α : Type} (p q : α → Bool) : ∀ l : List α, (∀ x ∈ l, p x = true → q x = true) → (l.filter p).length ≤ (l.filter q).length
  | [], _ => by simp
  | a :: l, h => by
    have ih := filter_le_len p q l (fun x hx => h x (by simp [hx]))
    have ha := h a (by simp)
    cases h1 : p a <;> cases h2 : q a <;> simp_all <;> omega
theorem filter_lt {α : Type} (p : α → Bool) : ∀ l : List α, (l.filter p).length + (l.filter fun x => !p x).length = l.length
  | [] => rfl
  | a :: l => by
    have ih := filter_lt p l
    cases h : p a <;> simp [h] <;> omega

theorem hall (m : Nat) : ∀ (k : Nat) (A : List Nat) (r : Nat → Nat → Bool), A.length = k → A.Nodup → (∀ p : Nat → Bool, (A.filter p).length ≤ (nbrs m r (A.filter p)).length) →
    ∃ f : Nat → Nat, (∀ a ∈ A, f a < m ∧ r a (f a) = true) ∧ ∀ a ∈ A, ∀ b ∈ A, f a = f b → a = b := by
  intro k
  induction k using Nat.strongRecOn with
  | ind k ih =>
    intro A r hk hnd hall
    by_cases hcase : ∃ p : Nat → Bool, 0 < (A.filter p).length ∧ (A.filter p).length < A.length ∧ (nbrs m r (A.filter p)).length = (A.filter p).length
    · -- a part that has just as many: it, and the rest without what it has to do with
      obtain ⟨p, h1, h2, h3⟩ := hcase
      have hsum := filter_lt p A
      have hp1 : ∀ q : Nat → Bool, ((A.filter p).filter q).length ≤ (nbrs m r ((A.filter p).filter q)).length := by
        intro q; rw [List.filter_filter]; exact hall _
      obtain ⟨f1, g1, g2⟩ := ih _ (by omega) (A.filter p) r rfl (hnd.filter _) hp1
      let r2 : Nat → Nat → Bool := fun x y => r x y && !(nbrs m r (A.filter p)).contains y
      have hp2 : ∀ q : Nat → Bool, ((A.filter fun x => !p x).filter q).length ≤ (nbrs m r2 ((A.filter fun x => !p x).filter q)).length := by
        intro q
        rw [List.filter_filter]
        have e1 := filter_or_len p (fun x => q x && !p x) A (by intro x _ ⟨h4, h5⟩; simp [h4] at h5)
        have e2 := hall fun x => p x || (q x && !p x)
        rw [e1] at e2
        have e3 : (nbrs m r (A.filter fun x => p x || (q x && !p x))).length ≤ (nbrs m r (A.filter p)).length + (nbrs m r2 (A.filter fun x => q x && !p x)).length := by
          have e4 : (nbrs m r (A.filter fun x => p x || (q x && !p x))).length ≤ ((List.range m).filter fun y => ((A.filter p).any fun x => r x y) || ((A.filter fun x => q x && !p x).any fun x => r2 x y)).length := by
            apply filter_le_len
            intro y hy h
            rw [List.any_eq_true] at h
            obtain ⟨x, hx, hr⟩ := h
            rw [List.mem_filter] at hx
            by_cases h6 : ((A.filter p).any fun x => r x y) = true
            · simp [h6]
            · have h7 : p x = false := by
                cases h8 : p x
                · rfl
                · exact absurd (List.any_eq_true.2 ⟨x, List.mem_filter.2 ⟨hx.1, h8⟩, hr⟩) h6
              have h9 : (q x && !p x) = true := by rw [h7] at hx; simp only [Bool.false_or] at hx; rw [h7]; exact hx.2
              have h10 : ((A.filter fun x => q x && !p x).any fun x => r2 x y) = true := by
                refine List.any_eq_true.2 ⟨x, List.mem_filter.2 ⟨hx.1, h9⟩, ?_⟩
                show (r x y && !(nbrs m r (A.filter p)).contains y) = true
                have h11 : y ∉ nbrs m r (A.filter p) := by
                  intro h12
                  obtain ⟨_, z, hz, hzr⟩ := mem_nbrs.1 h12
                  exact h6 (List.any_eq_true.2 ⟨z, hz, hzr⟩)
                rw [hr]; simp [h11]
              rw [h10, Bool.or_true]
          refine Nat.le_trans e4 ?_
          rw [filter_or_len]
          · exact Nat.le_refl _
          · intro y hy ⟨h4, h5⟩
            rw [List.any_eq_true] at h5
            obtain ⟨x, _, hx⟩ := h5
            have hx2 : (!(nbrs m r (A.filter p)).contains y) = true := by
              have : (r x y && !(nbrs m r (A.filter p)).contains y) = true := hx
              rw [Bool.and_eq_true] at this; exact this.2
            have hm : y ∈ nbrs m r (A.filter p) := by
              obtain ⟨z, hz, hzr⟩ := List.any_eq_true.1 h4
              exact mem_nbrs.2 ⟨List.mem_range.1 hy, z, hz, hzr⟩
            simp [hm] at hx2
        omega
      obtain ⟨f2, k1, k2⟩ := ih _ (by omega) (A.filter fun x => !p x) r2 rfl (hnd.filter _) hp2
      have k1' : ∀ a ∈ A, p a = false → f2 a < m ∧ r a (f2 a) = true ∧ f2 a ∉ nbrs m r (A.filter p) := by
        intro a ha hpa
        obtain ⟨h4, h5⟩ := k1 a (List.mem_filter.2 ⟨ha, by simp [hpa]⟩)
        have h6 : (r a (f2 a) && !(nbrs m r (A.filter p)).contains (f2 a)) = true := h5
        rw [Bool.and_eq_true] at h6
        refine ⟨h4, h6.1, fun h7 => ?_⟩
        have := h6.2; simp [h7] at this
      have g1' : ∀ a ∈ A, p a = true → f1 a < m ∧ r a (f1 a) = true ∧ f1 a ∈ nbrs m r (A.filter p) := by
        intro a ha hpa
        obtain ⟨h4, h5⟩ := g1 a (List.mem_filter.2 ⟨ha, hpa⟩)
        exact ⟨h4, h5, mem_nbrs.2 ⟨h4, a, List.mem_filter.2 ⟨ha, hpa⟩, h5⟩⟩
      refine ⟨fun a => if p a = true then f1 a else f2 a, ?_, ?_⟩
      · intro a ha
        dsimp only
        cases hpa : p a
        · have := k1' a ha hpa; simpa using ⟨this.1, this.2.1⟩
        · have := g1' a ha hpa; simpa using ⟨this.1, this.2.1⟩
      · intro a ha b hb
        dsimp only
        cases hpa : p a <;> cases hpb : p b
        · simp only [Bool.false_eq_true, if_false]
          exact k2 a (List.mem_filter.2 ⟨ha, by simp [hpa]⟩) b (List.mem_filter.2 ⟨hb, by simp [hpb]⟩)
        · simp only [Bool.false_eq_true, if_false, if_true]
          intro e
          have h4 := (k1' a ha hpa).2.2
          rw [e] at h4
          exact absurd (g1' b hb hpb).2.2 h4
        · simp only [Bool.false_eq_true, if_false, if_true]
          intro e
          have h4 := (k1' b hb hpb).2.2
          rw [← e] at h4
          exact absurd (g1' a ha hpa).2.2 h4
        · simp only [if_true]
          exact g2 a (List.mem_filter.2 ⟨ha, hpa⟩) b (List.mem_filter.2 ⟨hb, hpb⟩)
    · -- each proper part has one more: any choice for the first
      cases A with
      | nil => exact ⟨fun _ => 0, by simp, by simp⟩
      | cons a A =>
        rw [List.nodup_cons] at hnd
        obtain ⟨hna, hnd⟩ := hnd
        have h0 := hall fun x => x == a
        have hf : (a :: A).filter (fun x => x == a) = [a] := by
          rw [List.filter_cons, if_pos (by simp)]
          congr 1
          rw [List.filter_eq_nil_iff]; intro x hx h; simp at h; subst h; exact hna hx
        rw [hf] at h0
        obtain ⟨b, hb⟩ := List.exists_mem_of_ne_nil (nbrs m r [a]) (by intro h; rw [h] at h0; simp at h0)
        obtain ⟨hbm, x, hx, hrb⟩ := mem_nbrs.1 hb
        rw [List.mem_singleton] at hx; subst hx
        let r2 : Nat → Nat → Bool := fun z y => r z y && !(y == b)
        have hp2 : ∀ q : Nat → Bool, (A.filter q).length ≤ (nbrs m r2 (A.filter q)).length := by
          intro q
          by_cases hz : (A.filter q).length = 0
          · omega
          have e1 : (x :: A).filter (fun z => q z && !(z == x)) = A.filter q := by
            rw [List.filter_cons, if_neg (by simp)]
            apply List.filter_congr
            intro z hz
            have : z ≠ x := fun e => hna (e ▸ hz)
            simp [this]
          have e2 : (A.filter q).length < (nbrs m r (A.filter q)).length := by
            have e3 := hall fun z => q z && !(z == x)
            rw [e1] at e3
            rcases Nat.lt_or_ge (A.filter q).length (nbrs m r (A.filter q)).length with h4 | h4
            · exact h4
            · exact absurd ⟨fun z => q z && !(z == x), by rw [e1]; omega, by rw [e1]; have := List.length_filter_le q A; simp; omega, by rw [e1]; omega⟩ hcase
          have e4 : (nbrs m r (A.filter q)).length ≤ (nbrs m r2 (A.filter q)).length + 1 := by
            have e5 : (nbrs m r (A.filter q)).length ≤ ((List.range m).filter fun y => ((A.filter q).any fun z => r2 z y) || (y == b)).length := by
              apply filter_le_len
              intro y hy h
              by_cases h6 : y = b
              · simp [h6]
              · obtain ⟨z, hz, hzr⟩ := List.any_eq_true.1 h
                have h7 : ((A.filter q).any fun z => r2 z y) = true := List.any_eq_true.2 ⟨z, hz, by show (r z y && !(y == b)) = true; rw [hzr]; simp [h6]⟩
                rw [h7, Bool.true_or]
            rw [filter_or_len] at e5
            · have e6 : ((List.range m).filter fun y => y == b).length ≤ 1 := by
                have : ∀ l : List Nat, l.Nodup → (l.filter fun y => y == b).length ≤ 1 := by
                  intro l
                  induction l with
                  | nil => intro _; simp
                  | cons c l ih =>
                    intro hn
                    rw [List.nodup_cons] at hn
                    rw [List.filter_cons]
                    split
                    · next h =>
                      have hc : c = b := by simpa using h
                      have : l.filter (fun y => y == b) = [] := by
                        rw [List.filter_eq_nil_iff]; intro y hy h2; simp at h2; subst h2; subst hc; exact hn.1 hy
                      rw [this]; simp
                    · exact ih hn.2
                exact this _ List.nodup_range
              exact Nat.le_trans e5 (by unfold nbrs; omega)
            · intro y _ ⟨h4, h5⟩
              obtain ⟨z, _, hz⟩ := List.any_eq_true.1 h4
              have : (r z y && !(y == b)) = true := hz
              rw [h5] at this; simp at this
          omega
        obtain ⟨f, k1, k2⟩ := ih A.length (by simp at hk; omega) A r2 rfl hnd hp2
        have k1' : ∀ z ∈ A, f z < m ∧ r z (f z) = true ∧ f z ≠ b := by
          intro z hz
          obtain ⟨h4, h5⟩ := k1 z hz
          have h6 : (r z (f z) && !(f z == b)) = true := h5
          rw [Bool.and_eq_true] at h6
          exact ⟨h4, h6.1, by have := h6.2; simpa using this⟩
        refine ⟨fun z => if z = x then b else f z, ?_, ?_⟩
        · intro z hz
          by_cases e : z = x
          · subst e; simp [hbm, hrb]
          · have hz2 : z ∈ A := by simpa [e] using hz
            have := k1' z hz2
            simp only [if_neg e]; exact ⟨this.1, this.2.1⟩
        · intro z hz w hw
          by_cases e : z = x <;> by_cases e2 : w = x
          · intro _; rw [e, e2]
          · simp only [if_pos e, if_neg e2]
            intro h; exact absurd h.symm (k1' w (by simpa [e2] using hw)).2.2
          · simp only [if_neg e, if_pos e2]
            intro h; exact absurd h (k1' z (by simpa [e] using hz)).2.2
          · simp only [if_neg e, if_neg e2]
            exact k2 z (by simpa [e] using hz) w (by simpa [e2] using hw)


/-! ### counting -/
theorem nodup_len_le {α : Type} [DecidableEq α] : ∀ (l k : List α), l.Nodup → (∀ x ∈ l, x ∈ k) → l.length ≤ k.length
  | [], _, _, _ => by simp
  | a :: l, k, hn, h => by
    rw [List.nodup_cons] at hn
    have ha := h a (by simp)
    have h1 := nodup_len_le l (k.erase a) hn.2 (fun x hx => by
      have hne : x ≠ a := fun e => hn.1 (e ▸ hx)
      exact (List.mem_erase_of_ne hne).2 (h x (by simp [hx])))
    rw [List.length_erase_of_mem ha] at h1
    have := List.length_pos_of_mem ha
    simp only [List.length_cons]; omega
theorem ind_le_one {α : Type} (P : α → Prop) [DecidablePred P] : ∀ l : List α, l.Nodup → (∀ p ∈ l, ∀ q ∈ l, P p → P q → p = q) → sumL (l.map fun p => if P p then 1 else 0) ≤ 1
  | [], _, _ => by simp [sumL]
  | a :: l, hn, h => by
    rw [List.nodup_cons] at hn
    have ih := ind_le_one P l hn.2 (fun p hp q hq => h p (by simp [hp]) q (by simp [hq]))
    simp only [List.map_cons, sumL]
    by_cases ha : P a
    · have e : l.map (fun p => if P p then (1 : Int) else 0) = l.map fun _ => 0 := by
        apply List.map_congr_left
        intro p hp
        rw [if_neg]
        intro hpp
        have := h a (by simp) p (by simp [hp]) ha hpp
        subst this; exact hn.1 hp
      have z : ∀ l : List α, sumL (l.map fun _ => (0 : Int)) = 0 := by
        intro l; induction l with
        | nil => rfl
        | cons b l ih => simp only [List.map_cons, sumL, ih]; rfl
      rw [if_pos ha, e, z]; omega
    · rw [if_neg ha]; omega
theorem ind_nonneg {α : Type} (P : α → Prop) [DecidablePred P] : ∀ l : List α, 0 ≤ sumL (l.map fun p => if P p then (1 : Int) else 0)
  | [] => by simp [sumL]
  | a :: l => by
    have := ind_nonneg P l
    simp only [List.map_cons, sumL]; split <;> omega
theorem ind_mem {α : Type} (P : α → Prop) [DecidablePred P] : ∀ (l : List α) (a : α), a ∈ l → P a → 1 ≤ sumL (l.map fun p => if P p then (1 : Int) else 0)
  | [], a, h, _ => by simp at h
  | b :: l, a, h, hp => by
    simp only [List.map_cons, sumL]
    have hn := ind_nonneg P l
    rcases List.mem_cons.1 h with rfl | h
    · rw [if_pos hp]; omega
    · have := ind_mem P l a h hp
      split <;> omega
theorem sum_add {α : Type} (f g : α → Int) : ∀ l : List α, sumL (l.map fun a => f a + g a) = sumL (l.map f) + sumL (l.map g)
  | [] => by simp [sumL]
  | a :: l => by
    have := sum_add f g l
    simp only [List.map_cons, sumL, this]; omega
theorem sum_swap {α β : Type} (c : α → β → Int) (k : List β) : ∀ l : List α, sumL (l.map fun p => sumL (k.map fun a => c p a)) = sumL (k.map fun a => sumL (l.map fun p => c p a))
  | [] => by
    simp only [List.map_nil, sumL]
    induction k with
    | nil => rfl
    | cons a k ih => simp only [List.map_cons, sumL, ← ih]; rfl
  | p :: l => by
    simp only [List.map_cons, sumL]
    rw [sum_swap c k l, ← sum_add]
theorem sum_ones {α : Type} (f : α → Int) : ∀ l : List α, (∀ a ∈ l, 1 ≤ f a) → (l.length : Int) ≤ sumL (l.map f)
  | [], _ => by simp [sumL]
  | a :: l, h => by
    have h1 := h a (by simp)
    have h2 := sum_ones f l (fun x hx => h x (by simp [hx]))
    simp only [List.map_cons, sumL, List.length_cons]; omega
theorem load_map (g : Int × Int → Int) (a : Int) : ∀ ps : List (Int × Int), loadOf (ps.zip (ps.map g)) a = sumL (ps.map fun p => if p.1 = a ∨ p.2 = a then g p else 0)
  | [] => rfl
  | p :: ps => by simp only [List.map_cons, List.zip_cons_cons, loadOf, sumL, load_map g a ps]
theorem memb_len_range {n z : Nat} (hn : n ≤ 7) (hz : z < 2 ^ n) : (memb z).length = ((List.range n).filter z.testBit).length := by
  unfold memb
  rw [List.length_map]
  have e : List.range 7 = List.range n ++ (List.range (7 - n)).map (n + ·) := by
    rw [← List.range_add]; congr 1; omega
  rw [e, List.filter_append, List.length_append]
  have : ((List.range (7 - n)).map (n + ·)).filter z.testBit = [] := by
    rw [List.filter_eq_nil_iff]
    intro x hx h
    rw [List.mem_map] at hx
    obtain ⟨i, _, rfl⟩ := hx
    have := bit_lt hz h
    omega
  rw [this]; simp

section
variable {n : Nat} {ps : List (Int × Int)} (hn1 : 1 ≤ n) (hn : n ≤ 7) (hps : ∀ p ∈ ps, 0 ≤ p.1 ∧ p.1 < p.2 ∧ p.2 < (n : Int)) (h7 : ∀ p ∈ ps, okP p) (hnd : ps.Nodup)
def nbB (ps : List (Int × Int)) (u v : Nat) : Bool := decide (((u : Int), (v : Int)) ∈ ps) || decide (((v : Int), (u : Int)) ∈ ps)
theorem nbB_iff {ps : List (Int × Int)} {u v : Nat} : nbB ps u v = true ↔ nb ps u v := by unfold nbB nb; simp
include hn1 hn hps h7
/-- A set of articles has no more than the best one has that those which contradict it have not. -/
theorem deficit (p : Nat → Bool) : (((List.range n).filter p).length : Int) ≤ ((nbrs n (nbB ps) ((List.range n).filter p)).length : Int) + ((n : Int) - sumL (halvesV n ps)) := by
  let q : Nat → Bool := fun y => ((List.range n).filter p).any fun x => nbB ps x y
  have hN : nbrs n (nbB ps) ((List.range n).filter p) = (List.range n).filter q := rfl
  rw [hN]
  let z := setOf (((List.range n).filter fun a => p a && !q a).map fun (a : Nat) => (a : Int)) 0
  have hzb : ∀ u : Nat, z.testBit u = true ↔ u < n ∧ p u = true ∧ q u = false := by
    intro u
    rw [setOf_testBit _ _ _ (fun x hx => by rw [List.mem_map] at hx; obtain ⟨a, _, rfl⟩ := hx; omega), Nat.zero_testBit]
    simp only [Bool.false_eq_true, false_or, List.mem_map, List.mem_filter, List.mem_range, Bool.and_eq_true, Bool.not_eq_true']
    constructor
    · rintro ⟨a, ⟨h1, h2, h3⟩, h4⟩
      have : a = u := by omega
      subst this; exact ⟨h1, h2, h3⟩
    · rintro ⟨h1, h2, h3⟩; exact ⟨u, ⟨h1, h2, h3⟩, rfl⟩
  have hz : z < 2 ^ n := lt_two fun i hi => ((hzb i).1 hi).1
  have h128 : z < 128 := Nat.lt_of_lt_of_le hz (Nat.le_trans (Nat.pow_le_pow_right (by omega) hn) (by decide))
  have hqs : ∀ x y, x < n → p x = true → nb ps x y → q y = true := by
    intro x y hx hp hxy
    exact List.any_eq_true.2 ⟨x, List.mem_filter.2 ⟨List.mem_range.2 hx, hp⟩, nbB_iff.2 hxy⟩
  have hind : twoOf ps z &&& z = 0 := by
    rw [indep_iff hn hps h7 hz]
    rintro a b hab ⟨h1, h2⟩
    obtain ⟨a1, a2, _⟩ := (hzb a).1 h1
    have := hqs a b a1 a2 hab
    rw [((hzb b).1 h2).2.2] at this; simp at this
  have ht := two_lt hn hps h7 hz
  have hmin : sumL (halvesV n ps) ≤ costOf n (twoOf ps z) z := by
    obtain ⟨g1, g2⟩ := vals_ok hn hps h7 hz hind
    have := (cheap_mem.1 (halves_spec hn1 hn hps h7).1).2 _ g2 g1
    rwa [cost_sum hn ht hz] at this
  unfold costOf at hmin
  rw [memb_len_range hn hz, memb_len_range hn ht] at hmin
  have e1 : ((List.range n).filter z.testBit).length = ((List.range n).filter fun a => p a && !q a).length := by
    congr 1
    apply List.filter_congr
    intro u hu
    rw [Bool.eq_iff_iff, hzb]
    simp [List.mem_range.1 hu]
  have e2 : ((List.range n).filter (twoOf ps z).testBit).length ≤ ((List.range n).filter fun a => q a && !p a).length := by
    apply filter_le_len
    intro v hv h
    obtain ⟨u, h1, h2⟩ := (two_bit h7 z v h128).1 h
    obtain ⟨u1, u2, u3⟩ := (hzb u).1 h1
    have hq := hqs u v u1 u2 h2
    have hpv : p v = false := by
      cases hp : p v
      · rfl
      · have := hqs v u (List.mem_range.1 hv) hp (nb_symm h2)
        rw [u3] at this; simp at this
    simp [hq, hpv]
  have e3 := filter_or_len (fun a => p a && !q a) (fun a => p a && q a) (List.range n) (by intro x _ ⟨h1, h2⟩; cases hq : q x <;> simp [hq] at h1 h2)
  have e4 := filter_or_len (fun a => q a && !p a) (fun a => p a && q a) (List.range n) (by intro x _ ⟨h1, h2⟩; cases hq : p x <;> simp [hq] at h1 h2)
  have e5 : (List.range n).filter (fun x => (p x && !q x) || (p x && q x)) = (List.range n).filter p := by
    apply List.filter_congr; intro x _; cases p x <;> cases q x <;> rfl
  have e6 : (List.range n).filter (fun x => (q x && !p x) || (p x && q x)) = (List.range n).filter q := by
    apply List.filter_congr; intro x _; cases p x <;> cases q x <;> rfl
  rw [e5] at e3
  rw [e6] at e4
  omega
end


theorem ind_or (A B : Prop) [Decidable A] [Decidable B] : (if A ∨ B then (1 : Int) else 0) ≤ (if A then 1 else 0) + (if B then 1 else 0) := by
  by_cases h1 : A
  · rw [if_pos (.inl h1), if_pos h1]; split <;> omega
  · by_cases h2 : B
    · rw [if_pos (.inr h2), if_neg h1, if_pos h2]; omega
    · rw [if_neg (by simp [h1, h2]), if_neg h1, if_neg h2]; omega
theorem half_le {n : Nat} {ps : List (Int × Int)} (hn1 : 1 ≤ n) (hn : n ≤ 7) (hps : ∀ p ∈ ps, 0 ≤ p.1 ∧ p.1 < p.2 ∧ p.2 < (n : Int)) (h7 : ∀ p ∈ ps, okP p) : 0 ≤ sumL (halvesV n ps) ∧ sumL (halvesV n ps) ≤ n := by
  obtain ⟨h1, h2, _⟩ := halvesV_ok hn1 hn hps h7
  have hb := sumL_bd _ h2
  have hd := deficit hn1 hn hps h7 (fun _ => false)
  have e0 : (List.range n).filter (fun _ => false) = [] := by rw [List.filter_eq_nil_iff]; intro x _; simp
  rw [e0, List.length_nil] at hd
  have : (nbrs n (nbB ps) []).length = 0 := by
    unfold nbrs
    have : (List.range n).filter (fun y => ([] : List Nat).any fun x => nbB ps x y) = [] := by rw [List.filter_eq_nil_iff]; intro x _; simp
    rw [this]; rfl
  rw [this] at hd
  omega

/-- There are shares that are worth what the cheapest values cost. -/
theorem dual {n : Nat} {ps : List (Int × Int)} (hn1 : 1 ≤ n) (hn : n ≤ 7) (hps : ∀ p ∈ ps, 0 ≤ p.1 ∧ p.1 < p.2 ∧ p.2 < (n : Int)) (h7 : ∀ p ∈ ps, okP p) (hnd : ps.Nodup) :
    ∃ s ∈ shF n ps ps.length [], sumL (halvesV n ps) ≤ sumL s := by
  obtain ⟨c0, c1⟩ := half_le hn1 hn hps h7
  obtain ⟨d, hd⟩ := Int.eq_ofNat_of_zero_le (show 0 ≤ (n : Int) - sumL (halvesV n ps) by omega)
  let r : Nat → Nat → Bool := fun x y => nbB ps x y || decide (n ≤ y)
  have hcond : ∀ p : Nat → Bool, ((List.range n).filter p).length ≤ (nbrs (n + d) r ((List.range n).filter p)).length := by
    intro p
    by_cases hz : (List.range n).filter p = []
    · rw [hz]; simp
    obtain ⟨w, hw⟩ := List.exists_mem_of_ne_nil _ hz
    have h1 := deficit hn1 hn hps h7 p
    rw [hd] at h1
    have h2 : (nbrs (n + d) r ((List.range n).filter p)).length = (nbrs n (nbB ps) ((List.range n).filter p)).length + d := by
      unfold nbrs
      have e : List.range (n + d) = List.range n ++ (List.range d).map (n + ·) := List.range_add
      rw [e, List.filter_append, List.length_append]
      congr 1
      · congr 1
        apply List.filter_congr
        intro y hy
        have hy2 : ¬ n ≤ y := by have := List.mem_range.1 hy; omega
        show (((List.range n).filter p).any fun x => nbB ps x y || decide (n ≤ y)) = _
        simp [hy2]
      · have : ((List.range d).map (n + ·)).filter (fun y => ((List.range n).filter p).any fun x => r x y) = (List.range d).map (n + ·) := by
          rw [List.filter_eq_self]
          intro y hy
          rw [List.mem_map] at hy
          obtain ⟨i, _, rfl⟩ := hy
          exact List.any_eq_true.2 ⟨w, hw, by show (nbB ps w (n + i) || decide (n ≤ n + i)) = true; simp⟩
        rw [this]; simp
    omega
  obtain ⟨f, f1, f2⟩ := hall (n + d) n (List.range n) r (by simp) List.nodup_range hcond
  have hf : ∀ a, a < n → f a < n + d ∧ (f a < n → nb ps a (f a)) := by
    intro a ha
    obtain ⟨h1, h2⟩ := f1 a (List.mem_range.2 ha)
    refine ⟨h1, fun h3 => ?_⟩
    have h4 : (nbB ps a (f a) || decide (n ≤ f a)) = true := h2
    have h5 : decide (n ≤ f a) = false := decide_eq_false (by omega)
    rw [h5, Bool.or_false] at h4
    exact nbB_iff.1 h4
  have hinj : ∀ a b, a < n → b < n → f a = f b → a = b := fun a b ha hb h => f2 a (List.mem_range.2 ha) b (List.mem_range.2 hb) h
  let g : Int × Int → Int := fun p => (if (f p.1.toNat : Int) = p.2 then 1 else 0) + (if (f p.2.toNat : Int) = p.1 then 1 else 0)
  have hgb : ∀ p, 0 ≤ g p ∧ g p ≤ 2 := by
    intro p; show 0 ≤ (if _ then (1 : Int) else 0) + (if _ then (1 : Int) else 0) ∧ (if _ then (1 : Int) else 0) + (if _ then (1 : Int) else 0) ≤ 2
    split <;> split <;> omega
  refine ⟨ps.map g, ?_, ?_⟩
  · -- they are shares
    refine (mem_shF ps.length [] _ (by simp)).2 ⟨_, rfl, by simp, ?_, .inr ?_⟩
    · intro x hx; rw [List.mem_map] at hx; obtain ⟨p, _, rfl⟩ := hx; exact hgb p
    · cases ho : overFrom (ps.zip (ps.map g)) n 0
      · rfl
      · obtain ⟨a, ha, h2⟩ := (over_iff _).1 ho
        rw [load_map] at h2
        let P : Int × Int → Prop := fun p => (p.1 = a ∧ (f a : Int) = p.2) ∨ (p.2 = a ∧ (f a : Int) = p.1)
        let Q : Int × Int → Prop := fun p => (p.1 = a ∧ (f p.2.toNat : Int) = a) ∨ (p.2 = a ∧ (f p.1.toNat : Int) = a)
        have hle : sumL (ps.map fun p => if p.1 = (a : Int) ∨ p.2 = (a : Int) then g p else 0) ≤ sumL (ps.map fun p => (if P p then (1 : Int) else 0) + (if Q p then (1 : Int) else 0)) := by
          apply sum_le2
          intro p hp
          have hpp := hps p hp
          by_cases e1 : p.1 = (a : Int)
          · rw [if_pos (.inl e1)]
            have hP : P p ↔ (f p.1.toNat : Int) = p.2 := by
              show ((p.1 = a ∧ (f a : Int) = p.2) ∨ (p.2 = a ∧ (f a : Int) = p.1)) ↔ _
              have : p.1.toNat = a := by omega
              rw [this]
              constructor
              · rintro (⟨_, h⟩ | ⟨h, _⟩)
                · exact h
                · omega
              · intro h; exact .inl ⟨e1, h⟩
            have hQ : Q p ↔ (f p.2.toNat : Int) = p.1 := by
              show ((p.1 = a ∧ (f p.2.toNat : Int) = a) ∨ (p.2 = a ∧ (f p.1.toNat : Int) = a)) ↔ _
              constructor
              · rintro (⟨_, h⟩ | ⟨h, _⟩)
                · omega
                · omega
              · intro h; exact .inl ⟨e1, by omega⟩
            show (if (f p.1.toNat : Int) = p.2 then (1 : Int) else 0) + (if (f p.2.toNat : Int) = p.1 then (1 : Int) else 0) ≤ _
            simp only [hP, hQ]; exact Int.le_refl _
          · by_cases e2 : p.2 = (a : Int)
            · rw [if_pos (.inr e2)]
              have hP : P p ↔ (f p.2.toNat : Int) = p.1 := by
                show ((p.1 = a ∧ (f a : Int) = p.2) ∨ (p.2 = a ∧ (f a : Int) = p.1)) ↔ _
                have : p.2.toNat = a := by omega
                rw [this]
                constructor
                · rintro (⟨h, _⟩ | ⟨_, h⟩)
                  · exact absurd h e1
                  · exact h
                · intro h; exact .inr ⟨e2, h⟩
              have hQ : Q p ↔ (f p.1.toNat : Int) = p.2 := by
                show ((p.1 = a ∧ (f p.2.toNat : Int) = a) ∨ (p.2 = a ∧ (f p.1.toNat : Int) = a)) ↔ _
                constructor
                · rintro (⟨h, _⟩ | ⟨_, h⟩)
                  · exact absurd h e1
                  · omega
                · intro h; exact .inr ⟨e2, by omega⟩
              show (if (f p.1.toNat : Int) = p.2 then (1 : Int) else 0) + (if (f p.2.toNat : Int) = p.1 then (1 : Int) else 0) ≤ _
              simp only [hP, hQ]; omega
            · rw [if_neg (by simp [e1, e2])]
              split <;> split <;> omega
        rw [sum_add] at hle
        have hP1 := ind_le_one P ps hnd (by
          intro p hp q hq h3 h4
          have k1 := hps p hp
          have k2 := hps q hq
          rcases h3 with ⟨a1, a2⟩ | ⟨a1, a2⟩ <;> rcases h4 with ⟨b1, b2⟩ | ⟨b1, b2⟩
          · exact Prod.ext (by omega) (by omega)
          · omega
          · omega
          · exact Prod.ext (by omega) (by omega))
        have hQ1 := ind_le_one Q ps hnd (by
          intro p hp q hq h3 h4
          have k1 := hps p hp
          have k2 := hps q hq
          have key : ∀ x y : Int, 0 ≤ x → x < n → 0 ≤ y → y < n → (f x.toNat : Int) = a → (f y.toNat : Int) = a → x = y := by
            intro x y x0 x1 y0 y1 h5 h6
            have := hinj x.toNat y.toNat (by omega) (by omega) (by omega)
            omega
          rcases h3 with ⟨a1, a2⟩ | ⟨a1, a2⟩ <;> rcases h4 with ⟨b1, b2⟩ | ⟨b1, b2⟩
          · have := key p.2 q.2 (by omega) (by omega) (by omega) (by omega) a2 b2
            exact Prod.ext (by omega) (by omega)
          · have := key p.2 q.1 (by omega) (by omega) (by omega) (by omega) a2 b2
            omega
          · have := key p.1 q.2 (by omega) (by omega) (by omega) (by omega) a2 b2
            omega
          · have := key p.1 q.1 (by omega) (by omega) (by omega) (by omega) a2 b2
            exact Prod.ext (by omega) (by omega))
        omega
  · -- and worth enough
    let M := (List.range n).filter fun a => decide (f a < n)
    have hMn : n ≤ M.length + d := by
      have e := filter_lt (fun a => decide (f a < n)) (List.range n)
      have e2 : ((List.range n).filter fun a => !decide (f a < n)).length ≤ d := by
        have h1 := nodup_len_le (((List.range n).filter fun a => !decide (f a < n)).map f) ((List.range d).map (n + ·)) (by
            rw [List.nodup_iff_pairwise_ne, List.pairwise_map]
            refine List.Pairwise.imp_of_mem ?_ (List.nodup_iff_pairwise_ne.1 (List.nodup_range.filter _))
            intro x y hx hy hne he
            rw [List.mem_filter, List.mem_range] at hx hy
            exact hne (hinj x y hx.1 hy.1 he)) (by
            intro y hy
            rw [List.mem_map] at hy
            obtain ⟨x, hx, rfl⟩ := hy
            rw [List.mem_filter, List.mem_range] at hx
            have h3 := (hf x hx.1).1
            have h4 : ¬ f x < n := by simpa using hx.2
            exact List.mem_map.2 ⟨f x - n, List.mem_range.2 (by omega), by omega⟩)
        simpa using h1
      rw [List.length_range] at e
      show n ≤ ((List.range n).filter fun a => decide (f a < n)).length + d
      omega
    have hMd : M.Nodup := List.nodup_range.filter _
    have hMm : ∀ a ∈ M, a < n ∧ f a < n := by
      intro a ha
      have : a ∈ (List.range n).filter fun a => decide (f a < n) := ha
      rw [List.mem_filter, List.mem_range] at this
      exact ⟨this.1, of_decide_eq_true this.2⟩
    let E : Int × Int → Nat → Prop := fun p a => ((a : Int) = p.1 ∧ (f a : Int) = p.2) ∨ ((a : Int) = p.2 ∧ (f a : Int) = p.1)
    have h1 : sumL (ps.map fun p => sumL (M.map fun a => if E p a then (1 : Int) else 0)) ≤ sumL (ps.map g) := by
      apply sum_le2
      intro p hp
      have hpp := hps p hp
      have e1 : sumL (M.map fun a => if E p a then (1 : Int) else 0) ≤ sumL (M.map fun (a : Nat) => (if ((a : Int) = p.1 ∧ (f a : Int) = p.2) then (1 : Int) else 0) + (if ((a : Int) = p.2 ∧ (f a : Int) = p.1) then (1 : Int) else 0)) := by
        apply sum_le2
        intro a _
        show (if ((a : Int) = p.1 ∧ (f a : Int) = p.2) ∨ ((a : Int) = p.2 ∧ (f a : Int) = p.1) then (1 : Int) else 0) ≤ _
        exact ind_or _ _
      rw [sum_add] at e1
      have z : ∀ (P : Nat → Prop) [DecidablePred P], (∀ a ∈ M, ¬ P a) → sumL (M.map fun a => if P a then (1 : Int) else 0) = 0 := by
        intro P _ h
        have : M.map (fun a => if P a then (1 : Int) else 0) = M.map fun _ => 0 := List.map_congr_left fun a ha => if_neg (h a ha)
        rw [this]
        generalize M = l
        induction l with
        | nil => rfl
        | cons b l ih => simp only [List.map_cons, sumL, ih]; rfl
      have b1 : sumL (M.map fun (a : Nat) => if ((a : Int) = p.1 ∧ (f a : Int) = p.2) then (1 : Int) else 0) ≤ if (f p.1.toNat : Int) = p.2 then 1 else 0 := by
        by_cases x : (f p.1.toNat : Int) = p.2
        · rw [if_pos x]
          exact ind_le_one _ M hMd (fun a _ b _ ha hb => by have := ha.1; have := hb.1; omega)
        · have hno : ∀ a ∈ M, ¬((a : Int) = p.1 ∧ (f a : Int) = p.2) := by
            rintro a _ ⟨h5, h6⟩
            have e : p.1.toNat = a := by omega
            exact x (by rw [e]; exact h6)
          rw [if_neg x, z _ hno]
          exact Int.le_refl _
      have b2 : sumL (M.map fun (a : Nat) => if ((a : Int) = p.2 ∧ (f a : Int) = p.1) then (1 : Int) else 0) ≤ if (f p.2.toNat : Int) = p.1 then 1 else 0 := by
        by_cases x : (f p.2.toNat : Int) = p.1
        · rw [if_pos x]
          exact ind_le_one _ M hMd (fun a _ b _ ha hb => by have := ha.1; have := hb.1; omega)
        · have hno : ∀ a ∈ M, ¬((a : Int) = p.2 ∧ (f a : Int) = p.1) := by
            rintro a _ ⟨h5, h6⟩
            have e : p.2.toNat = a := by omega
            exact x (by rw [e]; exact h6)
          rw [if_neg x, z _ hno]
          exact Int.le_refl _
      show _ ≤ (if (f p.1.toNat : Int) = p.2 then (1 : Int) else 0) + (if (f p.2.toNat : Int) = p.1 then (1 : Int) else 0)
      omega
    rw [sum_swap] at h1
    have h2 := sum_ones (fun a => sumL (ps.map fun p => if E p a then (1 : Int) else 0)) M (by
      intro a ha
      obtain ⟨a1, a2⟩ := hMm a ha
      rcases (hf a a1).2 a2 with h | h
      · exact ind_mem (fun p => E p a) ps _ h (.inl ⟨rfl, rfl⟩)
      · exact ind_mem (fun p => E p a) ps _ h (.inr ⟨rfl, rfl⟩))
    omega

theorem shares_worth {n : Nat} {ps : List (Int × Int)} (hn1 : 1 ≤ n) (hn : n ≤ 7) (hps : ∀ p ∈ ps, 0 ≤ p.1 ∧ p.1 < p.2 ∧ p.2 < (n : Int)) (h7 : ∀ p ∈ ps, okP p) (hnd : ps.Nodup) : sumL (sharesR n ps) = sumL (halvesV n ps) := by
  obtain ⟨s, hs, hle⟩ := dual hn1 hn hps h7 hnd
  obtain ⟨h1, h2⟩ := sharesR_in (n := n) (ps := ps)
  have h3 := (h2 s hs).1
  obtain ⟨a1, a2⟩ := shF_ok h1
  obtain ⟨v1, v2, _⟩ := halvesV_ok hn1 hn hps h7
  have hv := (cheap_mem.1 (halves_spec hn1 hn hps h7).1).1.2
  have ho : overB ps (sharesR n ps) = false := by
    rw [← over_eq hn hps]
    obtain ⟨t, e, _, _, e4⟩ := (mem_shF ps.length [] _ (by simp)).1 h1
    rcases e4 with e4 | e4
    · have : ps = [] := List.eq_nil_of_length_eq_zero e4
      subst this
      cases h : overFrom (List.zip ([] : List (Int × Int)) (sharesR n [])) n 0
      · rfl
      · obtain ⟨a, _, h5⟩ := (over_iff _).1 h
        simp [loadOf] at h5
    · exact e4
  have := weak hn hps v1 v2 a1 a2 hv ho
  omega


/-! ### a list of numbers that may be written, in a block behind the first four -/
def Rep (J : List (List AV)) (o : List Int) (v : AV) : Prop :=
  (o = [] ∧ v = .v (.slice none 0 0)) ∨ ∃ (l c : Nat) (cs : List AV), v = .rsl (l + 4) 0 o.length c 1 false ∧ J[l]? = some cs ∧ cs.take o.length = o.map I ∧ o.length ≤ c ∧ c = cs.length ∧ 0 < c
def NotAt (q : Nat) (v : AV) : Prop := ∀ n c : Nat, v ≠ .rsl (q + 4) 0 n c 1 false
def Frame (J0 : List (List AV)) (v0 : AV) (J : List (List AV)) (v : AV) : Prop := ∀ (q : Nat) (c : List AV), J0[q]? = some c → NotAt q v0 → J[q]? = some c ∧ NotAt q v
theorem Frame.refl (J : List (List AV)) (v : AV) : Frame J v J v := fun _ _ h1 h2 => ⟨h1, h2⟩
theorem Frame.trans {J0 J1 J2 : List (List AV)} {v0 v1 v2 : AV} (h : Frame J0 v0 J1 v1) (h' : Frame J1 v1 J2 v2) : Frame J0 v0 J2 v2 := fun q c h1 h2 => by
  obtain ⟨h3, h4⟩ := h q c h1 h2
  exact h' q c h3 h4
theorem rep_append {J : List (List AV)} {o : List Int} {v : AV} (h : Rep J o v) (hl : o.length < 1000) (x : Int) : ∃ (v2 : AV) (J2 : List (List AV)), (∀ A B C D : List AV, appendmAV 1 false v [I x] ⟨A :: B :: C :: D :: J, []⟩ = some (v2, ⟨A :: B :: C :: D :: J2, []⟩)) ∧ Rep J2 (o ++ [x]) v2 ∧ Frame J v J2 v2 ∧ v2.shaped = true ∧ v2.cells = [v2] ∧ storable v2 = true := by
  rcases h with ⟨rfl, rfl⟩ | ⟨l, c, cs, rfl, h1, h2, h3, h4, h5⟩
  · refine ⟨.rsl (J.length + 4) 0 1 1 1 false, J ++ [[I x]], fun A B C D => ?_, .inr ⟨J.length, 1, [I x], rfl, by simp, rfl, by simp, rfl, by omega⟩, ?_, rfl, rfl, rfl⟩
    · simp [appendmAV, newM, maxGrow, flatAV, AV.cells]
    · intro q c hq hn
      have hql := (List.getElem?_eq_some_iff.1 hq).1
      refine ⟨by rw [List.getElem?_append_left hql]; exact hq, fun n c2 e => ?_⟩
      simp at e; omega
  · have hll := (List.getElem?_eq_some_iff.1 h1).1
    have hget : ∀ A B C D : List AV, (A :: B :: C :: D :: J)[l + 4]? = some cs := fun A B C D => h1
    by_cases hc : o.length + 1 ≤ c
    · refine ⟨.rsl (l + 4) 0 (o.length + 1) c 1 false, J.set l (cs.take o.length ++ [I x] ++ cs.drop (o.length + 1)), fun A B C D => ?_, .inr ⟨l, c, cs.take o.length ++ [I x] ++ cs.drop (o.length + 1), by simp, by simp [hll], ?_, by simpa using hc, ?_, h5⟩, ?_, rfl, rfl, rfl⟩
      · simp only [appendmAV, hget]
        rw [if_pos ⟨trivial, trivial, h3, by omega, by omega⟩, if_pos (by simpa using hc), if_pos (by simp; omega)]
        simp [flatAV, AV.cells]
      · rw [h2]
        have : (o.map I).length = o.length := by simp
        rw [List.length_append, List.length_singleton, List.take_append_of_le_length (by simp), List.take_of_length_le (by simp)]
        simp
      · simp; omega
      · intro q c2 hq hn
        have hne : q ≠ l := fun e => hn o.length c (by rw [e])
        refine ⟨by rw [List.getElem?_set_ne (Ne.symm hne)]; exact hq, fun n c3 e => ?_⟩
        simp at e; omega
    · have hcl : o.length = c := by omega
      refine ⟨.rsl (J.length + 4) 0 (o.length + 1) (o.length + 1) 1 false, J.set l [] ++ [o.map I ++ [I x]], fun A B C D => ?_, .inr ⟨J.length, o.length + 1, o.map I ++ [I x], by simp, by simp, ?_, by simp, by simp, by omega⟩, ?_, rfl, rfl, rfl⟩
      · simp only [appendmAV, hget]
        rw [if_pos ⟨trivial, trivial, h3, by omega, by omega⟩, if_neg (by simp; omega), if_pos ⟨trivial, by unfold maxGrow; simp; omega, by simp; omega⟩]
        simp [flatAV, AV.cells, h2]
      · rw [List.take_of_length_le (by simp)]; simp
      · intro q c2 hq hn
        have hne : q ≠ l := fun e => hn o.length c (by rw [e])
        have hql := (List.getElem?_eq_some_iff.1 hq).1
        refine ⟨by rw [List.getElem?_append_left (by simpa using hql), List.getElem?_set_ne (Ne.symm hne)]; exact hq, fun n c3 e => ?_⟩
        simp at e; omega
/-- The last number is taken away. -/
theorem rep_back {J : List (List AV)} {o : List Int} {x : Int} {v : AV} (h : Rep J (o ++ [x]) v) : ∃ v2 : AV, lenAV v = some (I ((o.length : Int) + 1)) ∧ sliceAV 1 v none (some (I o.length)) none = some v2 ∧ Rep J o v2 ∧ Frame J v J v2 ∧ v2.shaped = true ∧ v2.cells = [v2] ∧ storable v2 = true := by
  rcases h with ⟨h0, _⟩ | ⟨l, c, cs, rfl, h1, h2, h3, h4, h5⟩
  · simp at h0
  · simp only [List.length_append, List.length_singleton] at h2 h3
    refine ⟨.rsl (l + 4) 0 o.length c 1 false, by simp [lenAV, goI], ?_, .inr ⟨l, c, cs, rfl, h1, ?_, by omega, h4, h5⟩, ?_, rfl, rfl, rfl⟩
    · simp only [sliceAV, natOr, natOf]
      simp; omega
    · have := congrArg (List.take o.length) h2
      rw [List.take_take, Nat.min_eq_left (by omega), List.map_append, List.take_left' (by simp)] at this
      exact this
    · intro q c2 hq hn
      refine ⟨hq, fun n c3 e => ?_⟩
      simp at e
      exact hn (o ++ [x]).length c (by simp; omega)


/-! ### the search for shares -/
def takeR (room : List Int) (p : Int × Int) (x : Int) : List Int := (room.set p.1.toNat (room.getD p.1.toNat 0 - x)).set p.2.toNat (room.getD p.2.toNat 0 - x)
def mxR (room : List Int) (p : Int × Int) (left : Int) : Nat := (min (min (room.getD p.1.toNat 0) (room.getD p.2.toNat 0)) left).toNat
def findL (n : Nat) : List (Int × Int) → List Int → Int → Option (List Int)
  | [], _, left => if left = 0 then some [] else none
  | p :: q, room, left => if sumL (room.take n) < 2 * left then none else (List.range' 0 (mxR room p left + 1)).findSome? fun (x : Nat) => (findL n q (takeR room p x) (left - x)).map ((x : Int) :: ·)
abbrev fnPut : AV := .fn (.func 112) [] [.ptr 0 0, .ptr 2 0, .ptr 1 0, .ptr 3 0]
abbrev S4 (B0 : List AV) (v : AV) (room : List Int) (J : List (List AV)) : St := ⟨B0 :: [v] :: room.map I :: [fnPut] :: J, []⟩

theorem loop112_0 (nl : Bool) (n : Nat) (hn : n ≤ 7) (ps : List (Int × Int)) (i : Nat) (left : Int) (room : List Int) (hrl : room.length = 7) (hrb : ∀ x ∈ room, 0 ≤ x ∧ x ≤ 2) (v : AV) (J : List (List AV)) (lo hi : Nat) (a : Nat) (acc : Int) (hok : a ≤ n ∧ 0 ≤ acc ∧ acc ≤ 2 * a) (env : Env) (st : St)
    (hg : gcAV false lo hi (canon env [0, 1, 2, 3, 4, 5, 9, 23, 24, 25]) st = ([(0, I i), (1, I left), (2, .ptr 0 0), (3, .ptr 2 0), (4, .ptr 1 0), (5, .ptr 3 0), (9, I acc), (23, .rsl 2 0 n 7 1 false), (24, I n), (25, I a)], S4 (bkCells nl n ps) v room J)) :
    ∃ x_1 en s, lim (headed pure (run L) false [0, 1, 2, 3, 4, 5, 9, 23, 24, 25] lp112_0 lo hi) env st = some (x_1, en, s) ∧ (x_1 = .exit 0 ∧ en.get 0 = I i ∧ en.get 1 = I left ∧ en.get 2 = .ptr 0 0 ∧ en.get 3 = .ptr 2 0 ∧ en.get 4 = .ptr 1 0 ∧ en.get 5 = .ptr 3 0 ∧ en.get 9 = I (acc + sumL ((room.take n).drop a)) ∧ s = S4 (bkCells nl n ps) v room J) := by
  refine loop_wp (α := Nat × Int) (fun ⟨a, acc⟩ => n - a) (fun ⟨a, acc⟩ => a ≤ n ∧ 0 ≤ acc ∧ acc ≤ 2 * a) (fun ⟨a, acc⟩ => ([(0, I i), (1, I left), (2, .ptr 0 0), (3, .ptr 2 0), (4, .ptr 1 0), (5, .ptr 3 0), (9, I acc), (23, .rsl 2 0 n 7 1 false), (24, I n), (25, I a)], S4 (bkCells nl n ps) v room J)) (fun ⟨a, acc⟩ x_1 en s => x_1 = .exit 0 ∧ en.get 0 = I i ∧ en.get 1 = I left ∧ en.get 2 = .ptr 0 0 ∧ en.get 3 = .ptr 2 0 ∧ en.get 4 = .ptr 1 0 ∧ en.get 5 = .ptr 3 0 ∧ en.get 9 = I (acc + sumL ((room.take n).drop a)) ∧ s = S4 (bkCells nl n ps) v room J) (fun ⟨a, acc⟩ hok => ?_) ⟨a, acc⟩ hok env st hg
  simp only at hok
  obtain ⟨h1, h2, h3⟩ := hok
  dsimp only
  by_cases h : a < n
  · have hs := succ64 a (by omega)
    have hlt : ((a : Int) < (n : Int)) = True := eq_true (by omega)
    have ha0 : ((0 : Int) ≤ (a : Int)) = True := eq_true (by omega)
    have hg := getI room a (by omega)
    have hb := getD_bd (B := 2) (by omega) hrb a
    have hd : (room.take n).drop a = room.getD a 0 :: (room.take n).drop (a + 1) := by
      rw [List.drop_eq_getElem_cons (by simp; omega)]
      congr 1
      rw [List.getElem_take, List.getD_eq_getElem?_getD, List.getElem?_eq_getElem (by omega)]; rfl
    rw [hd]
    generalize room.getD a 0 = x at *
    have hw : IntKind.i64.wrap (acc + x) = acc + x := by rw [wrap64] <;> omega
    simp only [go_sem, reduceIte, Nat.reduceEqDiff, Nat.reduceAdd, Nat.reduceSub, Nat.reduceLeDiff, Nat.reduceLT, reduceCtorEq, Int.reduceLT, Int.reduceLE, Int.reduceEq, Int.reduceBEq, Int.reduceSub, Int.reduceAdd, Int.reduceMul, Int.reduceNeg, Int.reduceToNat, Nat.reduceMul, Nat.reduceBEq, index_rsl_if, setm, make_ints, condK_dec, wantK_dec, not_dec, and_dec, or_dec, seqK_ite, seqK_none, blockK_ite, blockK_none, opsK_ite, opsK_none, stepK_ite, stepK_none, bodyK_ite, bodyK_none, resK_ite, resK_none, leaveK_ite, leaveK_none, only_ite, only_none, bind_ite, gives_some, gives_none, gives_ite, then_normal, then_ret, then_exit, then_none, then_ite, Option.bind_none, Bool.not_eq_true', decide_eq_false_iff_not, Bool.and_eq_true, Bool.or_eq_true, Option.some.injEq, Int.not_lt, Int.not_le, lp112_0, hlt, ha0, hs, hg, hw]
    refine ⟨(a + 1, acc + x), by simp only [go_sem, reduceIte, Nat.reduceEqDiff, Nat.reduceAdd, Nat.reduceSub, Nat.reduceLeDiff, Nat.reduceLT, reduceCtorEq, Int.reduceLT, Int.reduceLE, Int.reduceEq, Int.reduceBEq, Int.reduceSub, Int.reduceAdd, Int.reduceMul, Int.reduceNeg, Int.reduceToNat, Nat.reduceMul, Nat.reduceBEq, ren1_locm, loc_tips, locT_eq] <;> rfl, ?_, ?_, fun x en s hq => ?_⟩
    · dsimp only; exact ⟨by omega, by omega, by omega⟩
    · simp only; omega
    · simp only [sumL]; rw [← Int.add_assoc]; exact hq
  · have hd : (room.take n).drop a = [] := List.drop_eq_nil_of_le (by simp; omega)
    have hlt : ((a : Int) < (n : Int)) = False := eq_false (by omega)
    simp only [go_sem, reduceIte, Nat.reduceEqDiff, Nat.reduceAdd, Nat.reduceSub, Nat.reduceLeDiff, Nat.reduceLT, reduceCtorEq, Int.reduceLT, Int.reduceLE, Int.reduceEq, Int.reduceBEq, Int.reduceSub, Int.reduceAdd, Int.reduceMul, Int.reduceNeg, Int.reduceToNat, Nat.reduceMul, Nat.reduceBEq, index_rsl_if, setm, make_ints, condK_dec, wantK_dec, not_dec, and_dec, or_dec, seqK_ite, seqK_none, blockK_ite, blockK_none, opsK_ite, opsK_none, stepK_ite, stepK_none, bodyK_ite, bodyK_none, resK_ite, resK_none, leaveK_ite, leaveK_none, only_ite, only_none, bind_ite, gives_some, gives_none, gives_ite, then_normal, then_ret, then_exit, then_none, then_ite, Option.bind_none, Bool.not_eq_true', decide_eq_false_iff_not, Bool.and_eq_true, Bool.or_eq_true, Option.some.injEq, Int.not_lt, Int.not_le, lp112_0, hlt]
    rw [hd]; simp [sumL]


/-- What the search answers, and how it leaves the memory. -/
def Does (nl : Bool) (n : Nat) (ps : List (Int × Int)) (k : Nat) : Prop := ∀ (i : Nat), i + k = ps.length → ∀ (room : List Int), room.length = 7 → (∀ x ∈ room, 0 ≤ x ∧ x ≤ 2) → ∀ left : Int, 0 ≤ left → left ≤ 14 → ∀ (o : List Int), o.length ≤ i → ∀ (v : AV) (J : List (List AV)), Rep J o v →
  ∃ (b : Bool) (room' : List Int) (v' : AV) (J' : List (List AV)), run L 112 [I i, I left, .ptr 0 0, .ptr 2 0, .ptr 1 0, .ptr 3 0] (S4 (bkCells nl n ps) v room J) = some (B b, S4 (bkCells nl n ps) v' room' J') ∧ Frame J v J' v' ∧
    match findL n (ps.drop i) room left with
    | some l => b = true ∧ Rep J' (o ++ l) v' ∧ room'.length = 7
    | none => b = false ∧ Rep J' o v' ∧ room' = room
def fromX (n : Nat) (q : List (Int × Int)) (p : Int × Int) (room : List Int) (left : Int) (mx x : Nat) : Option (List Int) := (List.range' x (mx + 1 - x)).findSome? fun (x : Nat) => (findL n q (takeR room p x) (left - x)).map ((x : Int) :: ·)

set_option maxHeartbeats 4000000 in
theorem loop112_1 (nl : Bool) (n : Nat) (hn : n ≤ 7) (ps : List (Int × Int)) (hlen : ps.length ≤ 10) (i k : Nat) (hik : i + 1 + k = ps.length) (u w : Nat) (huw : u < w ∧ w < n) (room : List Int) (hrl : room.length = 7) (hrb : ∀ x ∈ room, 0 ≤ x ∧ x ≤ 2) (left : Int) (hl0 : 0 ≤ left) (hl1 : left ≤ 14) (o : List Int) (ho : o.length ≤ i) (mx : Nat) (hmu : (mx : Int) ≤ room.getD u 0) (hmw : (mx : Int) ≤ room.getD w 0) (hml : (mx : Int) ≤ left) (hrec : Does nl n ps k) (qb : Nat) (J00 : List (List AV)) (v00 : AV) (lo hi : Nat) (x : Nat) (v : AV) (J : List (List AV)) (hok : x ≤ mx + 1 ∧ Rep J o v ∧ J[qb]? = some [I u, I w] ∧ NotAt qb v ∧ Frame J00 v00 J v) (env : Env) (st : St)
    (hg : gcAV false lo hi (canon env [0, 1, 3, 4, 5, 12, 52, 53]) st = ([(0, I i), (1, I left), (3, .ptr 2 0), (4, .ptr 1 0), (5, .ptr 3 0), (12, .ptr (qb + 4) 0), (52, I ((mx : Int) + 1)), (53, I x)], S4 (bkCells nl n ps) v room J)) :
    ∃ x_1 en s, lim (headed pure (run L) false [0, 1, 3, 4, 5, 12, 52, 53] lp112_1 lo hi) env st = some (x_1, en, s) ∧ (∃ v' J' room', s = S4 (bkCells nl n ps) v' room' J' ∧ Frame J00 v00 J' v' ∧ (match fromX n (ps.drop (i + 1)) ((u : Int), (w : Int)) room left mx x with | some l => x_1 = .ret ∧ en.get 8 = B true ∧ Rep J' (o ++ l) v' ∧ room'.length = 7 | none => x_1 = .exit 2 ∧ Rep J' o v' ∧ room' = room)) := by
  refine loop_wp (α := Nat × AV × List (List AV)) (fun ⟨x, v, J⟩ => mx + 1 - x) (fun ⟨x, v, J⟩ => x ≤ mx + 1 ∧ Rep J o v ∧ J[qb]? = some [I u, I w] ∧ NotAt qb v ∧ Frame J00 v00 J v) (fun ⟨x, v, J⟩ => ([(0, I i), (1, I left), (3, .ptr 2 0), (4, .ptr 1 0), (5, .ptr 3 0), (12, .ptr (qb + 4) 0), (52, I ((mx : Int) + 1)), (53, I x)], S4 (bkCells nl n ps) v room J)) (fun ⟨x, v, J⟩ x_1 en s => ∃ v' J' room', s = S4 (bkCells nl n ps) v' room' J' ∧ Frame J00 v00 J' v' ∧ (match fromX n (ps.drop (i + 1)) ((u : Int), (w : Int)) room left mx x with | some l => x_1 = .ret ∧ en.get 8 = B true ∧ Rep J' (o ++ l) v' ∧ room'.length = 7 | none => x_1 = .exit 2 ∧ Rep J' o v' ∧ room' = room)) (fun ⟨x, v, J⟩ hok => ?_) ⟨x, v, J⟩ hok env st hg
  simp only at hok
  obtain ⟨h1, hR, hq0, hqn, hF⟩ := hok
  dsimp only at h1 hR hq0 hqn hF ⊢
  by_cases h : x < mx + 1
  · have hs := succ64 x (by omega)
    have hsi := succ64 i (by omega)
    have hlt : ((x : Int) < (mx : Int) + 1) = True := eq_true (by omega)
    have hfx : fromX n (ps.drop (i + 1)) ((u : Int), (w : Int)) room left mx x = match findL n (ps.drop (i + 1)) (takeR room ((u : Int), (w : Int)) x) (left - x) with | some l => some ((x : Int) :: l) | none => fromX n (ps.drop (i + 1)) ((u : Int), (w : Int)) room left mx (x + 1) := by
      unfold fromX
      rw [show mx + 1 - x = (mx + 1 - (x + 1)) + 1 by omega, List.range'_succ, List.findSome?_cons]
      cases findL n (ps.drop (i + 1)) (takeR room ((u : Int), (w : Int)) x) (left - x) <;> rfl
    have gu := getI room u (by omega)
    have gw := getI room w (by omega)
    have bu := getD_bd (B := 2) (by omega) hrb u
    have bw := getD_bd (B := 2) (by omega) hrb w
    obtain ⟨v2, J2, happ, hR2, hF2, hsh2, hce2, hst2⟩ := rep_append hR (by omega) (x : Int)
    obtain ⟨hq2, hqn2⟩ := hF2 qb _ hq0 hqn
    have hT : takeR room ((u : Int), (w : Int)) x = (room.set u (room.getD u 0 - x)).set w (room.getD w 0 - x) := by unfold takeR; simp only [Int.toNat_natCast]
    have hRl : (takeR room ((u : Int), (w : Int)) x).length = 7 := by rw [hT]; simp [hrl]
    have hRb : ∀ y ∈ takeR room ((u : Int), (w : Int)) x, 0 ≤ y ∧ y ≤ 2 := by
      intro y hy
      rw [hT] at hy
      rcases List.mem_or_eq_of_mem_set hy with hy | rfl
      · rcases List.mem_or_eq_of_mem_set hy with hy | rfl
        · exact hrb y hy
        · omega
      · omega
    have hRu : (takeR room ((u : Int), (w : Int)) x).getD u 0 = room.getD u 0 - x := by
      rw [hT, List.getD_eq_getElem?_getD, List.getElem?_set_ne (by omega), List.getElem?_set_self (by omega)]; rfl
    have hRw : (takeR room ((u : Int), (w : Int)) x).getD w 0 = room.getD w 0 - x := by
      rw [hT, List.getD_eq_getElem?_getD, List.getElem?_set_self (by simp; omega)]; rfl
    have hback : ((takeR room ((u : Int), (w : Int)) x).set u (room.getD u 0)).set w (room.getD w 0) = room := by
      rw [hT]
      apply List.ext_getElem?
      intro j
      simp only [List.getElem?_set, List.length_set]
      by_cases e1 : w = j
      · subst e1
        simp [List.getD_eq_getElem?_getD, List.getElem?_eq_getElem (show w < room.length by omega), show w < room.length by omega]
      · by_cases e2 : u = j
        · subst e2
          simp [e1, List.getD_eq_getElem?_getD, List.getElem?_eq_getElem (show u < room.length by omega), show u < room.length by omega]
        · simp [e1, e2]
    obtain ⟨b, room', v3, J3, hrun, hF3, hm⟩ := hrec (i + 1) (by omega) _ hRl hRb (left - x) (by omega) (by omega) (o ++ [(x : Int)]) (by simp; omega) v2 J2 hR2
    obtain ⟨hq3, hqn3⟩ := hF3 qb _ hq2 hqn2
    have gu2 := getI (takeR room ((u : Int), (w : Int)) x) u (by omega)
    have gw2 := getI (takeR room ((u : Int), (w : Int)) x) w (by omega)
    rw [hRu] at gu2
    rw [hRw] at gw2
    have hF4 := (hF.trans hF2).trans hF3
    have hset1 : (room.set u (room.getD u 0 - x)).set w (room.getD w 0 - x) = takeR room ((u : Int), (w : Int)) x := hT.symm
    generalize takeR room ((u : Int), (w : Int)) x = R2 at *
    generalize room.getD u 0 = ru at *
    generalize room.getD w 0 = rw0 at *
    have w1 : IntKind.i64.wrap (ru - (x : Int)) = ru - (x : Int) := by rw [wrap64] <;> omega
    have w2 : IntKind.i64.wrap (rw0 - (x : Int)) = rw0 - (x : Int) := by rw [wrap64] <;> omega
    have w3 : IntKind.i64.wrap (left - (x : Int)) = left - (x : Int) := by rw [wrap64] <;> omega
    have w4 : IntKind.i64.wrap (ru - (x : Int) + (x : Int)) = ru := by rw [wrap64] <;> omega
    have w5 : IntKind.i64.wrap (rw0 - (x : Int) + (x : Int)) = rw0 := by rw [wrap64] <;> omega
    have w6 : IntKind.i64.wrap ((o.length : Int) + 1 - 1) = (o.length : Int) := by rw [wrap64] <;> omega
    have b1 : ((0 : Int) ≤ (u : Int)) = True := eq_true (by omega)
    have b2 : ((u : Int) < 7) = True := eq_true (by omega)
    have b3 : ((0 : Int) ≤ (w : Int)) = True := eq_true (by omega)
    have b4 : ((w : Int) < 7) = True := eq_true (by omega)
    have b5 : (u + 1 ≤ 7) = True := eq_true (by omega)
    have b6 : (w + 1 ≤ 7) = True := eq_true (by omega)
    have hne : (qb + 4 == 2) = false := by simp
    have hp112 : pure 112 = false := rfl
    rw [hfx]
    cases hfl : findL n (ps.drop (i + 1)) R2 (left - x) with
    | some l =>
      rw [hfl] at hm
      obtain ⟨rfl, hm2, hm3⟩ := hm
      simp only [go_sem, reduceIte, Nat.reduceEqDiff, Nat.reduceAdd, Nat.reduceSub, Nat.reduceLeDiff, Nat.reduceLT, reduceCtorEq, Int.reduceLT, Int.reduceLE, Int.reduceEq, Int.reduceBEq, Int.reduceSub, Int.reduceAdd, Int.reduceMul, Int.reduceNeg, Int.reduceToNat, Nat.reduceMul, Nat.reduceBEq, index_rsl_if, setm, make_ints, condK_dec, wantK_dec, not_dec, and_dec, or_dec, seqK_ite, seqK_none, blockK_ite, blockK_none, opsK_ite, opsK_none, stepK_ite, stepK_none, bodyK_ite, bodyK_none, resK_ite, resK_none, leaveK_ite, leaveK_none, only_ite, only_none, bind_ite, gives_some, gives_none, gives_ite, then_normal, then_ret, then_exit, then_none, then_ite, Option.bind_none, Bool.not_eq_true', decide_eq_false_iff_not, Bool.and_eq_true, Bool.or_eq_true, Option.some.injEq, Int.not_lt, Int.not_le, lp112_1, hlt, hs, hsi, happ, hsh2, hce2, hst2, hq2, onB, offB, List.any_cons, List.any_nil, hne, gu, gw, w1, w2, w3, b1, b2, b3, b4, b5, b6, hrl, hset1, hrun, hp112, List.length_map, List.length_singleton, List.length_set, Bool.or_false, Bool.not_false]
      refine ⟨v3, J3, room', rfl, hF4, ?_, hm3⟩
      rw [List.append_assoc, List.singleton_append] at hm2; exact hm2
    | none =>
      rw [hfl] at hm
      obtain ⟨rfl, hm2, hm3⟩ := hm
      subst hm3
      obtain ⟨v4, hln, hsl, hR4, hFb, hsh4, hce4, hst4⟩ := rep_back hm2
      obtain ⟨hq4, hqn4⟩ := hFb qb _ hq3 hqn3
      simp only [go_sem, reduceIte, Nat.reduceEqDiff, Nat.reduceAdd, Nat.reduceSub, Nat.reduceLeDiff, Nat.reduceLT, reduceCtorEq, Int.reduceLT, Int.reduceLE, Int.reduceEq, Int.reduceBEq, Int.reduceSub, Int.reduceAdd, Int.reduceMul, Int.reduceNeg, Int.reduceToNat, Nat.reduceMul, Nat.reduceBEq, index_rsl_if, setm, make_ints, condK_dec, wantK_dec, not_dec, and_dec, or_dec, seqK_ite, seqK_none, blockK_ite, blockK_none, opsK_ite, opsK_none, stepK_ite, stepK_none, bodyK_ite, bodyK_none, resK_ite, resK_none, leaveK_ite, leaveK_none, only_ite, only_none, bind_ite, gives_some, gives_none, gives_ite, then_normal, then_ret, then_exit, then_none, then_ite, Option.bind_none, Bool.not_eq_true', decide_eq_false_iff_not, Bool.and_eq_true, Bool.or_eq_true, Option.some.injEq, Int.not_lt, Int.not_le, lp112_1, hlt, hs, hsi, happ, hsh2, hce2, hst2, hq2, hq3, onB, offB, List.any_cons, List.any_nil, hne, gu, gw, gu2, gw2, w1, w2, w3, w4, w5, w6, b1, b2, b3, b4, b5, b6, hrl, hRl, hset1, hback, hrun, hp112, hln, hsl, hsh4, hce4, hst4, List.length_map, List.length_singleton, List.length_set, Bool.or_false, Bool.not_false]
      refine ⟨(x + 1, v4, J3), by simp only [go_sem, reduceIte, Nat.reduceEqDiff, Nat.reduceAdd, Nat.reduceSub, Nat.reduceLeDiff, Nat.reduceLT, reduceCtorEq, Int.reduceLT, Int.reduceLE, Int.reduceEq, Int.reduceBEq, Int.reduceSub, Int.reduceAdd, Int.reduceMul, Int.reduceNeg, Int.reduceToNat, Nat.reduceMul, Nat.reduceBEq, ren1_locm, loc_tips, locT_eq] <;> rfl, ?_, ?_, fun x en s hq => ?_⟩
      · dsimp only; exact ⟨by omega, hR4, hq4, hqn4, hF4.trans hFb⟩
      · simp only; omega
      · exact hq
  · obtain rfl : x = mx + 1 := by omega
    have hfx : fromX n (ps.drop (i + 1)) ((u : Int), (w : Int)) room left mx (mx + 1) = none := by unfold fromX; rw [Nat.sub_self]; rfl
    rw [hfx]
    simp only [go_sem, reduceIte, Nat.reduceEqDiff, Nat.reduceAdd, Nat.reduceSub, Nat.reduceLeDiff, Nat.reduceLT, reduceCtorEq, Int.reduceLT, Int.reduceLE, Int.reduceEq, Int.reduceBEq, Int.reduceSub, Int.reduceAdd, Int.reduceMul, Int.reduceNeg, Int.reduceToNat, Nat.reduceMul, Nat.reduceBEq, index_rsl_if, setm, make_ints, condK_dec, wantK_dec, not_dec, and_dec, or_dec, seqK_ite, seqK_none, blockK_ite, blockK_none, opsK_ite, opsK_none, stepK_ite, stepK_none, bodyK_ite, bodyK_none, resK_ite, resK_none, leaveK_ite, leaveK_none, only_ite, only_none, bind_ite, gives_some, gives_none, gives_ite, then_normal, then_ret, then_exit, then_none, then_ite, Option.bind_none, Bool.not_eq_true', decide_eq_false_iff_not, Bool.and_eq_true, Bool.or_eq_true, Option.some.injEq, Int.not_lt, Int.not_le, lp112_1, show (((mx + 1 : Nat) : Int) < (mx : Int) + 1) = False from eq_false (by omega)]
    exact ⟨v, J, room, rfl, hF, hR, rfl⟩


set_option maxHeartbeats 2000000 in
theorem does (nl : Bool) (n : Nat) (hn : n ≤ 7) (ps : List (Int × Int)) (hlen : ps.length ≤ 10) (hps : ∀ p ∈ ps, 0 ≤ p.1 ∧ p.1 < p.2 ∧ p.2 < (n : Int)) : ∀ k, Does nl n ps k := by
  intro k
  induction k with
  | zero =>
    intro i hik room hrl hrb left hl0 hl1 ol ho v J hR
    have hi : i = ps.length := by omega
    subst hi
    have hd : ps.drop ps.length = [] := List.drop_length
    rw [hd]
    refine ⟨decide (left = 0), room, v, J, ?_, Frame.refl J v, ?_⟩
    · rw [run_shared (fn := ir112) rfl rfl]
      simp only [ir112, go_sem, reduceIte, Nat.reduceEqDiff, Nat.reduceAdd, Nat.reduceSub, Nat.reduceLeDiff, Nat.reduceLT, reduceCtorEq, Int.reduceLT, Int.reduceLE, Int.reduceEq, Int.reduceBEq, Int.reduceSub, Int.reduceAdd, Int.reduceMul, Int.reduceNeg, Int.reduceToNat, Nat.reduceMul, Nat.reduceBEq, List.length_map]
    · simp only [findL]
      by_cases h : left = 0
      · rw [if_pos h]; exact ⟨by simp [h], by rw [List.append_nil]; exact hR, hrl⟩
      · rw [if_neg h]; exact ⟨by simp [h], hR, trivial⟩
  | succ k ih =>
    intro i hik room hrl hrb left hl0 hl1 ol ho v J hR
    have hi : i < ps.length := by omega
    have hd : ps.drop i = ps[i] :: ps.drop (i + 1) := List.drop_eq_getElem_cons hi
    have hx := index_prs nl ps i hi
    have hp := hps ps[i] (List.getElem_mem hi)
    rw [hd]
    generalize ps[i] = c at *
    obtain ⟨u, w⟩ := c
    simp only at hx hp
    obtain ⟨u, rfl⟩ := Int.eq_ofNat_of_zero_le hp.1
    obtain ⟨w, rfl⟩ := Int.eq_ofNat_of_zero_le (show 0 ≤ w by omega)
    have q1 : ((i : Int) = (ps.length : Int)) = False := eq_false (by omega)
    have hsl : sliceaAV 7 1 false (.ptr 2 0) none (some (.v (.int .i64 (n : Int)))) none = some (.rsl 2 0 n 7 1 false) := by
      simp only [sliceaAV, natOr, natOf]
      simp; omega
    have hsb := sumL_bd (room.take n) (fun x hx => hrb x (List.mem_of_mem_take hx))
    have hw2 := wrap64 (2 * left) (by omega) (by omega)
    have gu := getI room u (by omega)
    have gw := getI room w (by omega)
    have bu := getD_bd (B := 2) (by omega) hrb u
    have bw := getD_bd (B := 2) (by omega) hrb w
    have hmx : ((mxR room ((u : Int), (w : Int)) left : Nat) : Int) = min (min (room.getD u 0) (room.getD w 0)) left := by
      unfold mxR; simp only [Int.toNat_natCast]; omega
    have hfl : findL n (((u : Int), (w : Int)) :: ps.drop (i + 1)) room left = if sumL (room.take n) < 2 * left then none else fromX n (ps.drop (i + 1)) ((u : Int), (w : Int)) room left (mxR room ((u : Int), (w : Int)) left) 0 := rfl
    rw [hfl]
    generalize mxR room ((u : Int), (w : Int)) left = mx at *
    have hmu : (mx : Int) ≤ room.getD u 0 := by omega
    have hmw : (mx : Int) ≤ room.getD w 0 := by omega
    have hml : (mx : Int) ≤ left := by omega
    rw [run_shared (fn := ir112) rfl rfl]
    by_cases pr : sumL (room.take n) < 2 * left
    · rw [if_pos pr]
      refine ⟨false, room, v, J, ?_, Frame.refl J v, rfl, hR, rfl⟩
      simp only [ir112, go_sem, reduceIte, Nat.reduceEqDiff, Nat.reduceAdd, Nat.reduceSub, Nat.reduceLeDiff, Nat.reduceLT, reduceCtorEq, Int.reduceLT, Int.reduceLE, Int.reduceEq, Int.reduceBEq, Int.reduceSub, Int.reduceAdd, Int.reduceMul, Int.reduceNeg, Int.reduceToNat, Nat.reduceMul, Nat.reduceBEq, q1, hsl, List.length_map]
      generalize hg : lim (headed pure (run L) false _ lp112_0 _ _) _ _ = o
      obtain ⟨x, en, s, rfl, h2⟩ : ∃ x en s, o = some (x, en, s) ∧ _ := by rw [← hg]; exact loop112_0 nl n hn ps i left room hrl hrb v J (4 + J.length) 0 0 0 ⟨by omega, by omega, by omega⟩ _ _ (by simp only [go_sem, reduceIte, Nat.reduceEqDiff, Nat.reduceAdd, Nat.reduceSub, Nat.reduceLeDiff, Nat.reduceLT, reduceCtorEq, Int.reduceLT, Int.reduceLE, Int.reduceEq, Int.reduceBEq, Int.reduceSub, Int.reduceAdd, Int.reduceMul, Int.reduceNeg, Int.reduceToNat, Nat.reduceMul, Nat.reduceBEq, Int.natCast_zero] <;> rfl)
      clear hg
      obtain ⟨rfl, e0, e1, e2, e3, e4, e5, e9, rfl⟩ := h2
      rw [List.drop_zero, Int.zero_add] at e9
      simp only [go_sem, reduceIte, Nat.reduceEqDiff, Nat.reduceAdd, Nat.reduceSub, Nat.reduceLeDiff, Nat.reduceLT, reduceCtorEq, Int.reduceLT, Int.reduceLE, Int.reduceEq, Int.reduceBEq, Int.reduceSub, Int.reduceAdd, Int.reduceMul, Int.reduceNeg, Int.reduceToNat, Nat.reduceMul, Nat.reduceBEq, e0, e1, e2, e3, e4, e5, e9, hw2, pr]
    · rw [if_neg pr]
      have hq0 : (J ++ [[I (u : Int), I (w : Int)]])[J.length]? = some [I (u : Int), I (w : Int)] := by simp
      have hz0 : (J ++ [[AV.v (.int .i64 0), AV.v (.int .i64 0)]])[J.length]? = some [AV.v (.int .i64 0), .v (.int .i64 0)] := by simp
      have hzs : ∀ c : List AV, (J ++ [[AV.v (.int .i64 0), AV.v (.int .i64 0)]]).set J.length c = J ++ [c] := fun c => by simp
      have hqn : NotAt J.length v := by
        rcases hR with ⟨_, rfl⟩ | ⟨l, c, cs, rfl, h1, _⟩
        · intro n c e; simp at e
        · intro n c2 e
          have := (List.getElem?_eq_some_iff.1 h1).1
          simp at e; omega
      have hR1 : Rep (J ++ [[I (u : Int), I (w : Int)]]) ol v := by
        rcases hR with ⟨h0, rfl⟩ | ⟨l, c, cs, rfl, h1, h2, h3, h4, h5⟩
        · exact .inl ⟨h0, rfl⟩
        · exact .inr ⟨l, c, cs, rfl, by rw [List.getElem?_append_left (List.getElem?_eq_some_iff.1 h1).1]; exact h1, h2, h3, h4, h5⟩
      have hF1 : Frame J v (J ++ [[I (u : Int), I (w : Int)]]) v := fun q c h1 h2 => ⟨by rw [List.getElem?_append_left (List.getElem?_eq_some_iff.1 h1).1]; exact h1, h2⟩
      have hwm : IntKind.i64.wrap ((mx : Int) + 1) = (mx : Int) + 1 := by rw [wrap64] <;> omega
      have b1 : ((0 : Int) ≤ (u : Int)) = True := eq_true (by omega)
      have b2 : ((u : Int) < 7) = True := eq_true (by omega)
      have b3 : ((0 : Int) ≤ (w : Int)) = True := eq_true (by omega)
      have b4 : ((w : Int) < 7) = True := eq_true (by omega)
      have main : ∃ e8 S8, run L 112 [I i, I left, .ptr 0 0, .ptr 2 0, .ptr 1 0, .ptr 3 0] (S4 (bkCells nl n ps) v room J) = some (e8, S8) ∧ ∃ v' J' room', S8 = S4 (bkCells nl n ps) v' room' J' ∧ Frame J v J' v' ∧ (match fromX n (ps.drop (i + 1)) ((u : Int), (w : Int)) room left mx 0 with | some l => e8 = B true ∧ Rep J' (ol ++ l) v' ∧ room'.length = 7 | none => e8 = B false ∧ Rep J' ol v' ∧ room' = room) := by
        rw [run_shared (fn := ir112) rfl rfl]
        simp only [ir112, go_sem, reduceIte, Nat.reduceEqDiff, Nat.reduceAdd, Nat.reduceSub, Nat.reduceLeDiff, Nat.reduceLT, reduceCtorEq, Int.reduceLT, Int.reduceLE, Int.reduceEq, Int.reduceBEq, Int.reduceSub, Int.reduceAdd, Int.reduceMul, Int.reduceNeg, Int.reduceToNat, Nat.reduceMul, Nat.reduceBEq, q1, hsl, List.length_map]
        generalize hg : lim (headed pure (run L) false _ lp112_0 _ _) _ _ = o
        obtain ⟨x, en, s, rfl, h2⟩ : ∃ x en s, o = some (x, en, s) ∧ _ := by rw [← hg]; exact loop112_0 nl n hn ps i left room hrl hrb v J (4 + J.length) 0 0 0 ⟨by omega, by omega, by omega⟩ _ _ (by simp only [go_sem, reduceIte, Nat.reduceEqDiff, Nat.reduceAdd, Nat.reduceSub, Nat.reduceLeDiff, Nat.reduceLT, reduceCtorEq, Int.reduceLT, Int.reduceLE, Int.reduceEq, Int.reduceBEq, Int.reduceSub, Int.reduceAdd, Int.reduceMul, Int.reduceNeg, Int.reduceToNat, Nat.reduceMul, Nat.reduceBEq, Int.natCast_zero] <;> rfl)
        clear hg
        obtain ⟨rfl, e0, e1, e2, e3, e4, e5, e9, rfl⟩ := h2
        rw [List.drop_zero, Int.zero_add] at e9
        simp only [go_sem, reduceIte, Nat.reduceEqDiff, Nat.reduceAdd, Nat.reduceSub, Nat.reduceLeDiff, Nat.reduceLT, reduceCtorEq, Int.reduceLT, Int.reduceLE, Int.reduceEq, Int.reduceBEq, Int.reduceSub, Int.reduceAdd, Int.reduceMul, Int.reduceNeg, Int.reduceToNat, Nat.reduceMul, Nat.reduceBEq, e0, e1, e2, e3, e4, e5, e9, hw2, pr, hx, hz0, hzs, hq0, gu, gw, b1, b2, b3, b4, ← hmx, hwm]
        generalize hg : lim (headed pure (run L) false _ lp112_1 _ _) _ _ = o
        obtain ⟨x, en, s, rfl, h2⟩ : ∃ x en s, o = some (x, en, s) ∧ _ := by rw [← hg]; exact loop112_1 nl n hn ps hlen i k (by omega) u w (by omega) room hrl hrb left hl0 hl1 ol ho mx hmu hmw hml ih J.length J v (J.length + 1 + 4) 0 0 v (J ++ [[I (u : Int), I (w : Int)]]) ⟨by omega, hR1, hq0, hqn, hF1⟩ _ _ (by simp only [go_sem, reduceIte, Nat.reduceEqDiff, Nat.reduceAdd, Nat.reduceSub, Nat.reduceLeDiff, Nat.reduceLT, reduceCtorEq, Int.reduceLT, Int.reduceLE, Int.reduceEq, Int.reduceBEq, Int.reduceSub, Int.reduceAdd, Int.reduceMul, Int.reduceNeg, Int.reduceToNat, Nat.reduceMul, Nat.reduceBEq, e0, e1, e2, e3, e4, e5, Int.natCast_zero] <;> rfl)
        clear hg
        obtain ⟨v', J', room', rfl, hF', hm⟩ := h2
        cases hfx : fromX n (ps.drop (i + 1)) ((u : Int), (w : Int)) room left mx 0 with
        | some l =>
          rw [hfx] at hm
          obtain ⟨rfl, h8, hR', hl'⟩ := hm
          refine ⟨B true, S4 (bkCells nl n ps) v' room' J', by simp only [go_sem, reduceIte, Nat.reduceEqDiff, Nat.reduceAdd, Nat.reduceSub, Nat.reduceLeDiff, Nat.reduceLT, reduceCtorEq, Int.reduceLT, Int.reduceLE, Int.reduceEq, Int.reduceBEq, Int.reduceSub, Int.reduceAdd, Int.reduceMul, Int.reduceNeg, Int.reduceToNat, Nat.reduceMul, Nat.reduceBEq, h8], v', J', room', rfl, hF', rfl, hR', hl'⟩
        | none =>
          rw [hfx] at hm
          obtain ⟨rfl, hR', hl'⟩ := hm
          refine ⟨B false, S4 (bkCells nl n ps) v' room' J', by simp only [go_sem, reduceIte, Nat.reduceEqDiff, Nat.reduceAdd, Nat.reduceSub, Nat.reduceLeDiff, Nat.reduceLT, reduceCtorEq, Int.reduceLT, Int.reduceLE, Int.reduceEq, Int.reduceBEq, Int.reduceSub, Int.reduceAdd, Int.reduceMul, Int.reduceNeg, Int.reduceToNat, Nat.reduceMul, Nat.reduceBEq], v', J', room', rfl, hF', rfl, hR', hl'⟩
      obtain ⟨e8, S8, hrun, v', J', room', rfl, hF', hm⟩ := main
      rw [run_shared (fn := ir112) rfl rfl] at hrun
      cases hfx : fromX n (ps.drop (i + 1)) ((u : Int), (w : Int)) room left mx 0 with
      | some l =>
        rw [hfx] at hm
        obtain ⟨rfl, hR', hl'⟩ := hm
        exact ⟨true, room', v', J', hrun, hF', rfl, hR', hl'⟩
      | none =>
        rw [hfx] at hm
        obtain ⟨rfl, hR', hl'⟩ := hm
        exact ⟨false, room', v', J', hrun, hF', rfl, hR', hl'⟩


/-! ### the search finds the first shares of a worth -/
theorem some_first {β : Type} (g : Nat → Option β) : ∀ (m x0 : Nat), match (List.range' x0 m).findSome? g with
    | some r => ∃ x, x0 ≤ x ∧ x < x0 + m ∧ g x = some r ∧ ∀ y, x0 ≤ y → y < x → g y = none
    | none => ∀ y, x0 ≤ y → y < x0 + m → g y = none
  | 0, x0 => by simp; intro y h1 h2; omega
  | m + 1, x0 => by
    have ih := some_first g m (x0 + 1)
    rw [List.range'_succ, List.findSome?_cons]
    cases h : g x0 with
    | some r => exact ⟨x0, by omega, by omega, h, fun y h1 h2 => by omega⟩
    | none =>
      simp only
      cases h2 : (List.range' (x0 + 1) m).findSome? g with
      | some r =>
        rw [h2] at ih
        obtain ⟨x, a1, a2, a3, a4⟩ := ih
        refine ⟨x, by omega, by omega, a3, fun y h3 h4 => ?_⟩
        by_cases e : y = x0
        · subst e; exact h
        · exact a4 y (by omega) h4
      | none =>
        rw [h2] at ih
        intro y h3 h4
        by_cases e : y = x0
        · subst e; exact h
        · exact ih y (by omega) (by omega)

/-- Shares of some pairs for which there is room, and that are worth so much. -/
def Fits (q : List (Int × Int)) (room : List Int) (left : Int) (l : List Int) : Prop := l.length = q.length ∧ (∀ x ∈ l, 0 ≤ x) ∧ (∀ a : Nat, loadOf (q.zip l) (a : Int) ≤ room.getD a 0) ∧ sumL l = left
theorem sum_nonneg : ∀ l : List Int, (∀ x ∈ l, 0 ≤ x) → 0 ≤ sumL l
  | [], _ => by simp [sumL]
  | a :: r, h => by
    have h1 := h a (by simp)
    have h2 := sum_nonneg r (fun x hx => h x (by simp [hx]))
    simp only [sumL]; omega
theorem load_nonneg (a : Int) : ∀ l : List ((Int × Int) × Int), (∀ e ∈ l, 0 ≤ e.2) → 0 ≤ loadOf l a
  | [], _ => by simp [loadOf]
  | e :: r, h => by
    have h1 := h e (by simp)
    have h2 := load_nonneg a r (fun x hx => h x (by simp [hx]))
    simp only [loadOf]; split <;> omega
theorem zip_snd {q : List (Int × Int)} {l : List Int} (h : ∀ x ∈ l, 0 ≤ x) : ∀ e ∈ q.zip l, 0 ≤ e.2 := fun e he => h _ (List.of_mem_zip he).2
theorem takeR_getD {room : List Int} (hrl : room.length = 7) {u w : Nat} (hu : u < w) (hw : w < 7) (x : Int) (a : Nat) : (takeR room ((u : Int), (w : Int)) x).getD a 0 = room.getD a 0 - (if a = u ∨ a = w then x else 0) := by
  unfold takeR
  simp only [Int.toNat_natCast, List.getD_eq_getElem?_getD, List.getElem?_set, List.length_set]
  by_cases e1 : w = a
  · subst e1
    have : (if w = u ∨ w = w then x else 0) = x := if_pos (Or.inr rfl)
    rw [this]
    simp [show w < room.length by omega]
  · by_cases e2 : u = a
    · subst e2
      have : (if u = u ∨ u = w then x else 0) = x := if_pos (Or.inl rfl)
      rw [this]
      simp [e1, show u < room.length by omega]
    · have : (if a = u ∨ a = w then x else 0) = 0 := if_neg (by omega)
      rw [this]
      simp [e1, e2]
theorem fits_cons {q : List (Int × Int)} {room : List Int} (hrl : room.length = 7) {u w : Nat} (hu : u < w) (hw : w < 7) {left x : Int} {l : List Int} :
    Fits (((u : Int), (w : Int)) :: q) room left (x :: l) ↔ 0 ≤ x ∧ Fits q (takeR room ((u : Int), (w : Int)) x) (left - x) l := by
  unfold Fits
  simp only [List.length_cons, List.zip_cons_cons, loadOf, sumL, List.mem_cons, forall_eq_or_imp]
  have key : ∀ a : Nat, ((if (u : Int) = (a : Int) ∨ (w : Int) = (a : Int) then x else 0) + loadOf (q.zip l) (a : Int) ≤ room.getD a 0) ↔ (loadOf (q.zip l) (a : Int) ≤ (takeR room ((u : Int), (w : Int)) x).getD a 0) := by
    intro a
    rw [takeR_getD hrl hu hw]
    have : (((u : Int) = (a : Int)) ∨ ((w : Int) = (a : Int))) ↔ (a = u ∨ a = w) := by omega
    simp only [this]
    omega
  simp only [key]
  constructor
  · rintro ⟨h1, ⟨h2, h3⟩, h4, h5⟩; exact ⟨h2, by omega, h3, h4, by omega⟩
  · rintro ⟨h2, h1, h3, h4, h5⟩; exact ⟨by omega, ⟨h2, h3⟩, h4, by omega⟩
theorem sum_load {n : Nat} : ∀ (l : List ((Int × Int) × Int)), (∀ e ∈ l, 0 ≤ e.1.1 ∧ e.1.1 < e.1.2 ∧ e.1.2 < (n : Int)) → sumL ((List.range n).map fun (a : Nat) => loadOf l (a : Int)) = 2 * sumL (l.map fun e => e.2)
  | [], _ => by
    have : ∀ k : List Nat, sumL (k.map fun (a : Nat) => loadOf [] (a : Int)) = 0 := by
      intro k; induction k with
      | nil => rfl
      | cons b k ih =>
        show (0 : Int) + sumL (k.map fun (a : Nat) => loadOf [] (a : Int)) = 0
        rw [ih]; rfl
    rw [this]; rfl
  | e :: r, h => by
    have he := h e (by simp)
    have ih := sum_load r (fun x hx => h x (by simp [hx]))
    have e0 : (List.range n).map (fun (a : Nat) => loadOf (e :: r) (a : Int)) = (List.range n).map fun (a : Nat) => (if e.1.1 = (a : Int) ∨ e.1.2 = (a : Int) then e.2 else 0) + loadOf r (a : Int) := rfl
    rw [e0, sum_add]
    have z : sumL ((List.range n).map fun (a : Nat) => (0 : Int)) = 0 := by
      generalize List.range n = k
      induction k with
      | nil => rfl
      | cons b k ih => simp only [List.map_cons, sumL, ih]; rfl
    have s1 := sum_upd (f := fun (a : Nat) => if e.1.1 = (a : Int) then e.2 else 0) (g := fun _ => 0) (i := e.1.1.toNat) (d := e.2) (List.range n) List.nodup_range (List.mem_range.2 (by omega)) (by intro a _ hne; rw [if_neg (by omega)]) (by rw [if_pos (by omega)]; omega)
    have s2 := sum_upd (f := fun (a : Nat) => if e.1.2 = (a : Int) then e.2 else 0) (g := fun _ => 0) (i := e.1.2.toNat) (d := e.2) (List.range n) List.nodup_range (List.mem_range.2 (by omega)) (by intro a _ hne; rw [if_neg (by omega)]) (by rw [if_pos (by omega)]; omega)
    have s3 : (List.range n).map (fun (a : Nat) => if e.1.1 = (a : Int) ∨ e.1.2 = (a : Int) then e.2 else 0) = (List.range n).map fun (a : Nat) => (if e.1.1 = (a : Int) then e.2 else 0) + (if e.1.2 = (a : Int) then e.2 else 0) := by
      apply List.map_congr_left
      intro a _
      by_cases h1 : e.1.1 = (a : Int)
      · rw [if_pos (.inl h1), if_pos h1, if_neg (by omega)]; omega
      · by_cases h2 : e.1.2 = (a : Int)
        · rw [if_pos (.inr h2), if_neg h1, if_pos h2]; omega
        · rw [if_neg (by simp [h1, h2]), if_neg h1, if_neg h2]; rfl
    rw [s3, sum_add, s1, s2, z, ih]
    simp only [List.map_cons, sumL]; omega
theorem find_spec {n : Nat} (hn : n ≤ 7) : ∀ (q : List (Int × Int)) (room : List Int) (left : Int), (∀ p ∈ q, 0 ≤ p.1 ∧ p.1 < p.2 ∧ p.2 < (n : Int)) → room.length = 7 → (∀ x ∈ room, 0 ≤ x ∧ x ≤ 2) →
    match findL n q room left with
    | some l => Fits q room left l ∧ ∀ l', Fits q room left l' → lexLt l' l = false
    | none => ∀ l', ¬ Fits q room left l'
  | [], room, left, _, hrl, hrb => by
    simp only [findL]
    have h0 : ∀ a : Nat, (0 : Int) ≤ room.getD a 0 := fun a => (getD_bd (B := 2) (by omega) hrb a).1
    by_cases h : left = 0
    · rw [if_pos h]
      refine ⟨⟨rfl, by simp, fun a => by simpa [loadOf] using h0 a, by simp [sumL, h]⟩, fun l' hl => ?_⟩
      have : l' = [] := List.eq_nil_of_length_eq_zero hl.1
      subst this; rfl
    · rw [if_neg h]
      rintro l' ⟨h1, _, _, h4⟩
      have : l' = [] := List.eq_nil_of_length_eq_zero h1
      subst this
      exact h (by simpa [sumL] using h4.symm)
  | p :: q, room, left, hps, hrl, hrb => by
    have hp := hps p (by simp)
    obtain ⟨u, w⟩ := p
    simp only at hp
    obtain ⟨u, rfl⟩ := Int.eq_ofNat_of_zero_le hp.1
    obtain ⟨w, rfl⟩ := Int.eq_ofNat_of_zero_le (show 0 ≤ w by omega)
    have huw : u < w := by omega
    have hw7 : w < 7 := by omega
    have bu := getD_bd (B := 2) (by omega) hrb u
    have bw := getD_bd (B := 2) (by omega) hrb w
    simp only [findL]
    by_cases pr : sumL (room.take n) < 2 * left
    · rw [if_pos pr]
      rintro l' ⟨h1, h2, h3, h4⟩
      have e1 := sum_load (n := n) ((((u : Int), (w : Int)) :: q).zip l') (fun e he => hps _ (List.of_mem_zip he).1)
      have e2 : ((((u : Int), (w : Int)) :: q).zip l').map (fun e => e.2) = l' := List.map_snd_zip (by omega)
      rw [e2, h4] at e1
      have e3 : room.take n = (List.range n).map fun a => room.getD a 0 := by
        rw [list_range (room.take n) n (by simp; omega)]
        apply List.map_congr_left
        intro a ha
        rw [List.getD_eq_getElem?_getD, List.getD_eq_getElem?_getD, List.getElem?_take, if_pos (List.mem_range.1 ha)]
      have e4 := sum_le2 (f := fun (a : Nat) => loadOf ((((u : Int), (w : Int)) :: q).zip l') (a : Int)) (g := fun a => room.getD a 0) (List.range n) (fun a _ => h3 a)
      rw [← e3, e1] at e4
      omega
    · rw [if_neg pr]
      have hsf := some_first (fun (x : Nat) => (findL n q (takeR room ((u : Int), (w : Int)) x) (left - x)).map ((x : Int) :: ·)) (mxR room ((u : Int), (w : Int)) left + 1) 0
      -- what may come first
      have hmx : ∀ (y : Int) (t : List Int), Fits (((u : Int), (w : Int)) :: q) room left (y :: t) → 0 ≤ y ∧ y.toNat < 0 + (mxR room ((u : Int), (w : Int)) left + 1) ∧ y ≤ room.getD u 0 ∧ y ≤ room.getD w 0 := by
        intro y t hf
        obtain ⟨h1, h2, h3, h4, h5⟩ := (fits_cons hrl huw hw7).1 hf
        have k1 := h4 u
        have k2 := h4 w
        rw [takeR_getD hrl huw hw7] at k1 k2
        rw [if_pos (.inl rfl)] at k1
        rw [if_pos (.inr rfl)] at k2
        have n1 := load_nonneg (u : Int) (q.zip t) (zip_snd h3)
        have n2 := load_nonneg (w : Int) (q.zip t) (zip_snd h3)
        have n3 := sum_nonneg t h3
        refine ⟨h1, ?_, by omega, by omega⟩
        unfold mxR
        simp only [Int.toNat_natCast]
        omega
      have hroom : ∀ x : Nat, (x : Int) ≤ room.getD u 0 → (x : Int) ≤ room.getD w 0 → (takeR room ((u : Int), (w : Int)) x).length = 7 ∧ ∀ y ∈ takeR room ((u : Int), (w : Int)) x, 0 ≤ y ∧ y ≤ 2 := by
        intro x hx1 hx2
        refine ⟨by unfold takeR; simp [hrl], fun y hy => ?_⟩
        unfold takeR at hy
        simp only [Int.toNat_natCast] at hy
        rcases List.mem_or_eq_of_mem_set hy with hy | rfl
        · rcases List.mem_or_eq_of_mem_set hy with hy | rfl
          · exact hrb y hy
          · omega
        · omega
      have hmle : ∀ x : Nat, x < 0 + (mxR room ((u : Int), (w : Int)) left + 1) → 0 ≤ left → (x : Int) ≤ room.getD u 0 ∧ (x : Int) ≤ room.getD w 0 := by
        intro x hx hl
        unfold mxR at hx
        simp only [Int.toNat_natCast] at hx
        omega
      cases hres : (List.range' 0 (mxR room ((u : Int), (w : Int)) left + 1)).findSome? (fun (x : Nat) => (findL n q (takeR room ((u : Int), (w : Int)) x) (left - x)).map ((x : Int) :: ·)) with
      | some r =>
        rw [hres] at hsf
        obtain ⟨x, _, a2, a3, a4⟩ := hsf
        simp only [Option.map_eq_some_iff] at a3
        obtain ⟨l, hl, rfl⟩ := a3
        by_cases hl0 : 0 ≤ left
        · obtain ⟨m1, m2⟩ := hmle x a2 hl0
          obtain ⟨r1, r2⟩ := hroom x m1 m2
          have ih := find_spec hn q (takeR room ((u : Int), (w : Int)) x) (left - x) (fun p hp => hps p (by simp [hp])) r1 r2
          rw [hl] at ih
          refine ⟨(fits_cons hrl huw hw7).2 ⟨by omega, ih.1⟩, fun l' hf => ?_⟩
          cases l' with
          | nil => have := hf.1; simp at this
          | cons y t =>
            obtain ⟨y0, y1, y2, y3⟩ := hmx y t hf
            obtain ⟨_, hft⟩ := (fits_cons hrl huw hw7).1 hf
            obtain ⟨y, rfl⟩ := Int.eq_ofNat_of_zero_le y0
            by_cases c1 : y < x
            · have h5 := a4 y (by omega) c1
              simp only [Option.map_eq_none_iff] at h5
              obtain ⟨s1, s2⟩ := hroom y y2 y3
              have ih2 := find_spec hn q (takeR room ((u : Int), (w : Int)) y) (left - y) (fun p hp => hps p (by simp [hp])) s1 s2
              rw [h5] at ih2
              exact absurd hft (ih2 t)
            · by_cases c2 : y = x
              · subst c2
                have := ih.2 t hft
                simp [lexLt, this]
              · have d1 : ¬ ((y : Int) < (x : Int)) := by omega
                have d2 : ¬ ((y : Int) = (x : Int)) := by omega
                simp [lexLt, d1, d2]
        · exfalso
          -- nothing is worth less than nothing
          have x0 : x = 0 := by
            unfold mxR at a2; simp only [Int.toNat_natCast] at a2; omega
          subst x0
          obtain ⟨r1, r2⟩ := hroom 0 (by omega) (by omega)
          have ih := find_spec hn q (takeR room ((u : Int), (w : Int)) ((0 : Nat) : Int)) (left - ((0 : Nat) : Int)) (fun p hp => hps p (by simp [hp])) r1 r2
          rw [hl] at ih
          obtain ⟨_, i2, _, i4⟩ := ih.1
          have := sum_nonneg l i2
          omega
      | none =>
        rw [hres] at hsf
        intro l' hf
        cases l' with
        | nil => have := hf.1; simp at this
        | cons y t =>
          obtain ⟨y0, y1, y2, y3⟩ := hmx y t hf
          obtain ⟨_, hft⟩ := (fits_cons hrl huw hw7).1 hf
          obtain ⟨y, rfl⟩ := Int.eq_ofNat_of_zero_le y0
          have h5 := hsf y (by omega) (by omega)
          simp only [Option.map_eq_none_iff] at h5
          obtain ⟨s1, s2⟩ := hroom y y2 y3
          have ih2 := find_spec hn q (takeR room ((u : Int), (w : Int)) y) (left - y) (fun p hp => hps p (by simp [hp])) s1 s2
          rw [h5] at ih2
          exact ih2 t hft
theorem find_shares {n : Nat} {ps : List (Int × Int)} (hn1 : 1 ≤ n) (hn : n ≤ 7) (hps : ∀ p ∈ ps, 0 ≤ p.1 ∧ p.1 < p.2 ∧ p.2 < (n : Int)) (h7 : ∀ p ∈ ps, okP p) (hnd : ps.Nodup) : findL n ps (List.replicate 7 2) (sumL (halvesV n ps)) = some (sharesR n ps) := by
  have hw := shares_worth hn1 hn hps h7 hnd
  obtain ⟨h1, h2⟩ := sharesR_in (n := n) (ps := ps)
  have hrep : ∀ a : Nat, (List.replicate 7 (2 : Int)).getD a 0 = if a < 7 then 2 else 0 := by
    intro a; rw [List.getD_eq_getElem?_getD, List.getElem?_replicate]; split <;> simp
  have hiff : ∀ l, Fits ps (List.replicate 7 2) (sumL (halvesV n ps)) l ↔ l ∈ shF n ps ps.length [] ∧ sumL l = sumL (halvesV n ps) := by
    intro l
    rw [mem_shF ps.length [] l (by simp)]
    constructor
    · rintro ⟨a1, a2, a3, a4⟩
      refine ⟨⟨l, rfl, a1, fun x hx => ⟨a2 x hx, ?_⟩, .inr ?_⟩, a4⟩
      · -- no share is more than 2
        obtain ⟨i, hi, rfl⟩ := List.getElem_of_mem hx
        have hip : i < ps.length := by omega
        have hpi := hps ps[i] (List.getElem_mem hip)
        have h3 := a3 ps[i].1.toNat
        rw [hrep, if_pos (by omega)] at h3
        have hmem : (ps[i], l[i]) ∈ ps.zip l := by
          have : (ps.zip l)[i]'(by rw [List.length_zip]; omega) = (ps[i], l[i]) := by simp
          rw [← this]; exact List.getElem_mem _
        have : ∀ (z : List ((Int × Int) × Int)) (e : (Int × Int) × Int), e ∈ z → (∀ e ∈ z, 0 ≤ e.2) → e.2 ≤ loadOf z e.1.1 := by
          intro z
          induction z with
          | nil => intro e he _; simp at he
          | cons c z ih =>
            intro e he hz
            have hc := hz c (by simp)
            have hz2 := load_nonneg e.1.1 z (fun x hx => hz x (by simp [hx]))
            simp only [loadOf]
            rcases List.mem_cons.1 he with rfl | he
            · rw [if_pos (.inl rfl)]; omega
            · have := ih e he (fun x hx => hz x (by simp [hx]))
              split <;> omega
        have h4 := this _ _ hmem (zip_snd a2)
        have e5 : ((ps[i].1.toNat : Nat) : Int) = ps[i].1 := by omega
        rw [e5] at h3
        simp only at h4; omega
      · cases ho : overFrom (ps.zip l) n 0
        · rfl
        · obtain ⟨a, ha, h5⟩ := (over_iff _).1 ho
          have := a3 a
          rw [hrep, if_pos (by omega)] at this
          omega
    · rintro ⟨⟨t, e, a1, a2, a3⟩, a4⟩
      rw [List.nil_append] at e; subst e
      refine ⟨a1, fun x hx => (a2 x hx).1, fun a => ?_, a4⟩
      rw [hrep]
      by_cases ha : a < n
      · rw [if_pos (by omega)]
        rcases a3 with a3 | a3
        · have : ps = [] := List.eq_nil_of_length_eq_zero a3
          subst this; simp [loadOf]
        · by_cases h5 : 2 < loadOf (ps.zip l) (a : Int)
          · have := (over_iff (n := n) (ps.zip l)).2 ⟨a, ha, h5⟩
            rw [a3] at this; simp at this
          · omega
      · rw [load_out _ a (by omega) (zip_ok hps l)]; split <;> omega
  have hs := find_spec hn ps (List.replicate 7 2) (sumL (halvesV n ps)) hps (by simp) (by intro x hx; rw [List.mem_replicate] at hx; omega)
  have hfit : Fits ps (List.replicate 7 2) (sumL (halvesV n ps)) (sharesR n ps) := (hiff _).2 ⟨h1, hw⟩
  cases hf : findL n ps (List.replicate 7 2) (sumL (halvesV n ps)) with
  | none => rw [hf] at hs; exact absurd hfit (hs _)
  | some l =>
    rw [hf] at hs
    obtain ⟨k1, k2⟩ := (hiff l).1 hs.1
    have g1 := hs.2 _ hfit
    have g2 := (h2 l k1).2 (by omega)
    rw [lex_total _ _ g2 g1]


theorem group_take : ∀ (o : List Int) (cs : List AV), cs.take o.length = o.map I → group false 1 o.length (pubs cs) = o.map I
  | [], _, _ => rfl
  | x :: o, [], h => by simp at h
  | x :: o, c :: cs, h => by
    simp only [List.length_cons, List.take_succ_cons, List.map_cons, List.cons.injEq] at h
    obtain ⟨rfl, h⟩ := h
    have ih := group_take o cs h
    simp only [List.length_cons, group, pubs, List.map_cons, pub]
    simp [ih, cell1]
theorem frz_out {J : List (List AV)} {o : List Int} {v : AV} (h : Rep J o v) (B0 : List AV) (room : List Int) (env : Env) (he : env.get 6 = .ptr 1 0) :
    ∃ (env' : Env) (st' : St) (nl : Bool), frzAV [6] env (S4 B0 v room J) = (env', st') ∧ env'.get 6 = .ptr 1 0 ∧ st'.store[1]? = some [sl 1 nl (o.map I)] := by
  rcases h with ⟨rfl, rfl⟩ | ⟨l, c, cs, rfl, h1, h2, h3, h4, h5⟩
  · refine ⟨env, S4 B0 (.v (.slice none 0 0)) room J, true, ?_, he, rfl⟩
    simp only [frzAV, frzT, he]
    rfl
  · cases cs with
    | nil => simp at h4; omega
    | cons c0 cs =>
      have hg : (S4 B0 (.rsl (l + 4) 0 o.length c 1 false) room J).store[l + 4]? = some (c0 :: cs) := h1
      refine ⟨frzEnv (l + 4) (c0 :: cs) env, ⟨(frzStore (l + 4) (c0 :: cs) (S4 B0 (.rsl (l + 4) 0 o.length c 1 false) room J).store).set (l + 4) [], []⟩, false, ?_, ?_, ?_⟩
      · have e1 : frzT 6 env (S4 B0 (.rsl (l + 4) 0 o.length c 1 false) room J) = [l + 4] := by
          simp only [frzT, he]; rfl
        simp only [frzAV, e1, frzLs, frzL, hg]
      · rw [frzEnv_get, he]; rfl
      · have e2 : (frzStore (l + 4) (c0 :: cs) (S4 B0 (.rsl (l + 4) 0 o.length c 1 false) room J).store)[1]? = some [frzV (l + 4) (c0 :: cs) (.rsl (l + 4) 0 o.length c 1 false)] := rfl
        rw [List.getElem?_set_ne (by omega), e2]
        have e3 : frzV (l + 4) (c0 :: cs) (.rsl (l + 4) 0 o.length c 1 false) = .lst .any 1 (o.map I) := by
          simp only [frzV]
          rw [if_pos ⟨trivial, by omega, .inr trivial, h3⟩, List.drop_zero, group_take o _ h2]
        rw [e3, sl_false]

theorem loop87_0 (nl : Bool) (n : Int) (ps : List (Int × Int)) (l : List Int) (hlen : l.length < 1000) (hb : ∀ x ∈ l, 0 ≤ x ∧ x ≤ 2) (i : Nat) (acc : Int) (hok : i ≤ l.length ∧ 0 ≤ acc ∧ acc ≤ 2 * i) (env : Env) (st : St)
    (hg : gcAV true 1 0 (canon env [1, 3, 11, 12, 13]) st = ([(1, .ptr 0 0), (3, I acc), (11, sl 1 true (l.map I)), (12, I l.length), (13, I i)], ⟨[bkCells nl n ps], []⟩)) :
    ∃ x_1 en s, lim (headed pure (run L) true [1, 3, 11, 12, 13] lp87_0 1 0) env st = some (x_1, en, s) ∧ (x_1 = .exit 0 ∧ en.get 1 = .ptr 0 0 ∧ en.get 3 = I (acc + sumL (l.drop i)) ∧ s = ⟨[bkCells nl n ps], []⟩) := by
  refine loop_wp (α := Nat × Int) (fun ⟨i, acc⟩ => l.length - i) (fun ⟨i, acc⟩ => i ≤ l.length ∧ 0 ≤ acc ∧ acc ≤ 2 * i) (fun ⟨i, acc⟩ => ([(1, .ptr 0 0), (3, I acc), (11, sl 1 true (l.map I)), (12, I l.length), (13, I i)], ⟨[bkCells nl n ps], []⟩)) (fun ⟨i, acc⟩ x_1 en s => x_1 = .exit 0 ∧ en.get 1 = .ptr 0 0 ∧ en.get 3 = I (acc + sumL (l.drop i)) ∧ s = ⟨[bkCells nl n ps], []⟩) (fun ⟨i, acc⟩ hok => ?_) ⟨i, acc⟩ hok env st hg
  simp only at hok
  obtain ⟨h1, h2, h3⟩ := hok
  dsimp only
  by_cases h : i < l.length
  · have hx := index_ints true l i h
    have hs := succ64 i (by omega)
    have hd : l.drop i = l[i] :: l.drop (i + 1) := List.drop_eq_getElem_cons h
    have hlt : ((i : Int) < (l.length : Int)) = True := eq_true (by omega)
    have hbi := hb l[i] (List.getElem_mem h)
    rw [hd]
    generalize l[i] = a at *
    have hw : IntKind.i64.wrap (acc + a) = acc + a := by rw [wrap64] <;> omega
    simp only [go_sem, reduceIte, Nat.reduceEqDiff, Nat.reduceAdd, Nat.reduceSub, Nat.reduceLeDiff, Nat.reduceLT, reduceCtorEq, Int.reduceLT, Int.reduceLE, Int.reduceEq, Int.reduceBEq, Int.reduceSub, Int.reduceAdd, Int.reduceMul, Int.reduceNeg, Int.reduceToNat, Nat.reduceMul, Nat.reduceBEq, index_rsl_if, setm, make_ints, condK_dec, wantK_dec, not_dec, and_dec, or_dec, seqK_ite, seqK_none, blockK_ite, blockK_none, opsK_ite, opsK_none, stepK_ite, stepK_none, bodyK_ite, bodyK_none, resK_ite, resK_none, leaveK_ite, leaveK_none, only_ite, only_none, bind_ite, gives_some, gives_none, gives_ite, then_normal, then_ret, then_exit, then_none, then_ite, Option.bind_none, Bool.not_eq_true', decide_eq_false_iff_not, Bool.and_eq_true, Bool.or_eq_true, Option.some.injEq, Int.not_lt, Int.not_le, lp87_0, hx, hlt, hs, hw]
    refine ⟨(i + 1, acc + a), by simp only [go_sem, reduceIte, Nat.reduceEqDiff, Nat.reduceAdd, Nat.reduceSub, Nat.reduceLeDiff, Nat.reduceLT, reduceCtorEq, Int.reduceLT, Int.reduceLE, Int.reduceEq, Int.reduceBEq, Int.reduceSub, Int.reduceAdd, Int.reduceMul, Int.reduceNeg, Int.reduceToNat, Nat.reduceMul, Nat.reduceBEq, ren1_locm, loc_tips, locT_eq] <;> rfl, ?_, ?_, fun x en s hq => ?_⟩
    · dsimp only; exact ⟨by omega, by omega, by omega⟩
    · simp only; omega
    · simp only [sumL]; rw [← Int.add_assoc]; exact hq
  · have hd : l.drop i = [] := List.drop_eq_nil_of_le (by omega)
    have hlt : ((i : Int) < (l.length : Int)) = False := eq_false (by omega)
    simp only [go_sem, reduceIte, Nat.reduceEqDiff, Nat.reduceAdd, Nat.reduceSub, Nat.reduceLeDiff, Nat.reduceLT, reduceCtorEq, Int.reduceLT, Int.reduceLE, Int.reduceEq, Int.reduceBEq, Int.reduceSub, Int.reduceAdd, Int.reduceMul, Int.reduceNeg, Int.reduceToNat, Nat.reduceMul, Nat.reduceBEq, index_rsl_if, setm, make_ints, condK_dec, wantK_dec, not_dec, and_dec, or_dec, seqK_ite, seqK_none, blockK_ite, blockK_none, opsK_ite, opsK_none, stepK_ite, stepK_none, bodyK_ite, bodyK_none, resK_ite, resK_none, leaveK_ite, leaveK_none, only_ite, only_none, bind_ite, gives_some, gives_none, gives_ite, then_normal, then_ret, then_exit, then_none, then_ite, Option.bind_none, Bool.not_eq_true', decide_eq_false_iff_not, Bool.and_eq_true, Bool.or_eq_true, Option.some.injEq, Int.not_lt, Int.not_le, lp87_0, hlt]
    rw [hd]; simp [sumL]

def roomTo (a : Nat) : List Int := List.replicate a 2 ++ List.replicate (7 - a) 0
theorem roomTo_set (a : Nat) (h : a < 7) : (roomTo a).set a 2 = roomTo (a + 1) := by
  unfold roomTo
  rw [List.set_append, if_neg (by simp), List.length_replicate, Nat.sub_self, show 7 - a = (7 - (a + 1)) + 1 by omega, List.replicate_succ, List.set_cons_zero]
  rw [show List.replicate (a + 1) (2 : Int) = List.replicate a 2 ++ [2] from List.replicate_succ']
  simp
theorem loop87_1 (nl : Bool) (n : Int) (ps : List (Int × Int)) (goal : Int) (a : Nat) (hok : a ≤ 7) (env : Env) (st : St)
    (hg : gcAV true 3 0 (canon env [1, 3, 6, 7, 21]) st = ([(1, .ptr 0 0), (3, I goal), (6, .ptr 1 0), (7, .ptr 2 0), (21, I a)], ⟨[bkCells nl n ps, [.v (.slice none 0 0)], (roomTo a).map I], []⟩)) :
    ∃ x_1 en s, lim (headed pure (run L) true [1, 3, 6, 7, 21] lp87_1 3 0) env st = some (x_1, en, s) ∧ (x_1 = .exit 2 ∧ en.get 1 = .ptr 0 0 ∧ en.get 3 = I goal ∧ en.get 6 = .ptr 1 0 ∧ en.get 7 = .ptr 2 0 ∧ s = ⟨[bkCells nl n ps, [.v (.slice none 0 0)], (List.replicate 7 2).map I], []⟩) := by
  refine loop_wp (α := Nat) (fun a => 7 - a) (fun a => a ≤ 7) (fun a => ([(1, .ptr 0 0), (3, I goal), (6, .ptr 1 0), (7, .ptr 2 0), (21, I a)], ⟨[bkCells nl n ps, [.v (.slice none 0 0)], (roomTo a).map I], []⟩)) (fun a x_1 en s => x_1 = .exit 2 ∧ en.get 1 = .ptr 0 0 ∧ en.get 3 = I goal ∧ en.get 6 = .ptr 1 0 ∧ en.get 7 = .ptr 2 0 ∧ s = ⟨[bkCells nl n ps, [.v (.slice none 0 0)], (List.replicate 7 2).map I], []⟩) (fun a hok => ?_) a hok env st hg
  by_cases h : a < 7
  · have hs := succ64 a (by omega)
    have hlt : ((a : Int) < 7) = True := eq_true (by omega)
    have ha0 : ((0 : Int) ≤ (a : Int)) = True := eq_true (by omega)
    have hl : (roomTo a).length = 7 := by unfold roomTo; simp; omega
    have hset := roomTo_set a h
    have hb : (a + 1 ≤ 7) = True := eq_true (by omega)
    have hsm : ((roomTo a).map I).set a (.v (.int .i64 2)) = (roomTo (a + 1)).map I := by rw [← hset, List.map_set]
    simp only [go_sem, reduceIte, Nat.reduceEqDiff, Nat.reduceAdd, Nat.reduceSub, Nat.reduceLeDiff, Nat.reduceLT, reduceCtorEq, Int.reduceLT, Int.reduceLE, Int.reduceEq, Int.reduceBEq, Int.reduceSub, Int.reduceAdd, Int.reduceMul, Int.reduceNeg, Int.reduceToNat, Nat.reduceMul, Nat.reduceBEq, index_rsl_if, setm, make_ints, condK_dec, wantK_dec, not_dec, and_dec, or_dec, seqK_ite, seqK_none, blockK_ite, blockK_none, opsK_ite, opsK_none, stepK_ite, stepK_none, bodyK_ite, bodyK_none, resK_ite, resK_none, leaveK_ite, leaveK_none, only_ite, only_none, bind_ite, gives_some, gives_none, gives_ite, then_normal, then_ret, then_exit, then_none, then_ite, Option.bind_none, Bool.not_eq_true', decide_eq_false_iff_not, Bool.and_eq_true, Bool.or_eq_true, Option.some.injEq, Int.not_lt, Int.not_le, lp87_1, hlt, ha0, hs, hl, hb, hsm, List.length_map]
    refine ⟨a + 1, by simp only [go_sem, reduceIte, Nat.reduceEqDiff, Nat.reduceAdd, Nat.reduceSub, Nat.reduceLeDiff, Nat.reduceLT, reduceCtorEq, Int.reduceLT, Int.reduceLE, Int.reduceEq, Int.reduceBEq, Int.reduceSub, Int.reduceAdd, Int.reduceMul, Int.reduceNeg, Int.reduceToNat, Nat.reduceMul, Nat.reduceBEq, ren1_locm, loc_tips, locT_eq] <;> rfl, ?_, ?_, fun x en s hq => ?_⟩
    · omega
    · omega
    · exact hq
  · obtain rfl : a = 7 := by omega
    simp only [go_sem, reduceIte, Nat.reduceEqDiff, Nat.reduceAdd, Nat.reduceSub, Nat.reduceLeDiff, Nat.reduceLT, reduceCtorEq, Int.reduceLT, Int.reduceLE, Int.reduceEq, Int.reduceBEq, Int.reduceSub, Int.reduceAdd, Int.reduceMul, Int.reduceNeg, Int.reduceToNat, Nat.reduceMul, Nat.reduceBEq, index_rsl_if, setm, make_ints, condK_dec, wantK_dec, not_dec, and_dec, or_dec, seqK_ite, seqK_none, blockK_ite, blockK_none, opsK_ite, opsK_none, stepK_ite, stepK_none, bodyK_ite, bodyK_none, resK_ite, resK_none, leaveK_ite, leaveK_none, only_ite, only_none, bind_ite, gives_some, gives_none, gives_ite, then_normal, then_ret, then_exit, then_none, then_ite, Option.bind_none, Bool.not_eq_true', decide_eq_false_iff_not, Bool.and_eq_true, Bool.or_eq_true, Option.some.injEq, Int.not_lt, Int.not_le, lp87_1, show (((7 : Nat) : Int) < 7) = False from eq_false (by omega)]
    rfl

theorem c87 (nl : Bool) (n : Nat) (hn1 : 1 ≤ n) (hn : n ≤ 7) (ps : List (Int × Int)) (hlen : ps.length ≤ 10) (hps : ∀ p ∈ ps, 0 ≤ p.1 ∧ p.1 < p.2 ∧ p.2 < (n : Int)) (h7 : ∀ p ∈ ps, okP p) (hnd : ps.Nodup) :
    ∃ n2 : Bool, ∀ st, run L 87 [bkAV nl n ps] st = some (sl 1 n2 ((sharesR n ps).map I), st) := by
  have h81 := fun st => c81 nl n hn1 hn ps (by omega) hps h7 st
  obtain ⟨hvl, hvb, _⟩ := halvesV_ok hn1 hn hps h7
  obtain ⟨c0, c1⟩ := half_le hn1 hn hps h7
  have hfs := find_shares hn1 hn hps h7 hnd
  obtain ⟨b, room', v', J', hrun, hF, hm⟩ := does nl n hn ps hlen hps ps.length 0 (by omega) (List.replicate 7 2) (by simp) (by intro x hx; rw [List.mem_replicate] at hx; omega) (sumL (halvesV n ps)) c0 (by omega) [] (by simp) (.v (.slice none 0 0)) [] (.inl ⟨rfl, rfl⟩)
  rw [List.drop_zero, hfs] at hm
  obtain ⟨rfl, hR, _⟩ := hm
  rw [List.nil_append] at hR
  have main : ∃ n2 : Bool, run L 87 [bkAV nl n ps] ⟨[], []⟩ = some (sl 1 n2 ((sharesR n ps).map I), ⟨[], []⟩) := by
    rw [run_pure (fn := ir87) rfl rfl]
    have hw := fun (acc : Int) => acc
    simp only [ir87, go_sem, reduceIte, Nat.reduceEqDiff, Nat.reduceAdd, Nat.reduceSub, Nat.reduceLeDiff, Nat.reduceLT, reduceCtorEq, Int.reduceLT, Int.reduceLE, Int.reduceEq, Int.reduceBEq, Int.reduceSub, Int.reduceAdd, Int.reduceMul, Int.reduceNeg, Int.reduceToNat, Nat.reduceMul, Nat.reduceBEq, h81, List.length_map]
    generalize hg : lim (headed pure (run L) true _ lp87_0 _ _) _ _ = o
    obtain ⟨x, en, s, rfl, h2⟩ : ∃ x en s, o = some (x, en, s) ∧ _ := by rw [← hg]; exact loop87_0 nl n ps (halvesV n ps) (by omega) hvb 0 0 ⟨by omega, by omega, by omega⟩ _ _ (by simp only [go_sem, reduceIte, Nat.reduceEqDiff, Nat.reduceAdd, Nat.reduceSub, Nat.reduceLeDiff, Nat.reduceLT, reduceCtorEq, Int.reduceLT, Int.reduceLE, Int.reduceEq, Int.reduceBEq, Int.reduceSub, Int.reduceAdd, Int.reduceMul, Int.reduceNeg, Int.reduceToNat, Nat.reduceMul, Nat.reduceBEq, Int.natCast_zero] <;> rfl)
    clear hg
    obtain ⟨rfl, e1, e3, rfl⟩ := h2
    rw [List.drop_zero, Int.zero_add] at e3
    simp only [go_sem, reduceIte, Nat.reduceEqDiff, Nat.reduceAdd, Nat.reduceSub, Nat.reduceLeDiff, Nat.reduceLT, reduceCtorEq, Int.reduceLT, Int.reduceLE, Int.reduceEq, Int.reduceBEq, Int.reduceSub, Int.reduceAdd, Int.reduceMul, Int.reduceNeg, Int.reduceToNat, Nat.reduceMul, Nat.reduceBEq, e1, e3]
    generalize hg : lim (headed pure (run L) true _ lp87_1 _ _) _ _ = o
    obtain ⟨x, en, s, rfl, h2⟩ : ∃ x en s, o = some (x, en, s) ∧ _ := by rw [← hg]; exact loop87_1 nl n ps (sumL (halvesV n ps)) 0 (by omega) _ _ (by simp only [go_sem, reduceIte, Nat.reduceEqDiff, Nat.reduceAdd, Nat.reduceSub, Nat.reduceLeDiff, Nat.reduceLT, reduceCtorEq, Int.reduceLT, Int.reduceLE, Int.reduceEq, Int.reduceBEq, Int.reduceSub, Int.reduceAdd, Int.reduceMul, Int.reduceNeg, Int.reduceToNat, Nat.reduceMul, Nat.reduceBEq, e1, e3, roomTo, Nat.sub_zero, List.map_append, List.map_replicate, Int.natCast_zero] <;> rfl)
    clear hg
    obtain ⟨rfl, f1, f3, f6, f7, rfl⟩ := h2
    have hrun2 : run L 112 [.v (.int .i64 0), I (sumL (halvesV n ps)), .ptr 0 0, .ptr 2 0, .ptr 1 0, .ptr 3 0] ⟨[bkCells nl n ps, [.v (.slice none 0 0)], [I 2, I 2, I 2, I 2, I 2, I 2, I 2], [fnPut]], []⟩ = some (B true, S4 (bkCells nl n ps) v' room' J') := hrun
    simp only [go_sem, reduceIte, Nat.reduceEqDiff, Nat.reduceAdd, Nat.reduceSub, Nat.reduceLeDiff, Nat.reduceLT, reduceCtorEq, Int.reduceLT, Int.reduceLE, Int.reduceEq, Int.reduceBEq, Int.reduceSub, Int.reduceAdd, Int.reduceMul, Int.reduceNeg, Int.reduceToNat, Nat.reduceMul, Nat.reduceBEq, f1, f3, f6, f7, show pure 112 = false from rfl, hrun2, code_frz]
    generalize hE : frzAV [6] _ _ = fz
    obtain ⟨env', st', n2, rfl, g6, gst⟩ : ∃ (env' : Env) (st' : St) (n2 : Bool), fz = (env', st') ∧ env'.get 6 = .ptr 1 0 ∧ st'.store[1]? = some [sl 1 n2 ((sharesR n ps).map I)] := by
      rw [← hE]; exact frz_out hR _ _ _ (by simp only [go_sem, reduceIte, Nat.reduceEqDiff, Nat.reduceAdd, Nat.reduceSub, Nat.reduceLeDiff, Nat.reduceLT, reduceCtorEq, Int.reduceLT, Int.reduceLE, Int.reduceEq, Int.reduceBEq, Int.reduceSub, Int.reduceAdd, Int.reduceMul, Int.reduceNeg, Int.reduceToNat, Nat.reduceMul, Nat.reduceBEq, f6])
    exact ⟨n2, by simp only [go_sem, reduceIte, Nat.reduceEqDiff, Nat.reduceAdd, Nat.reduceSub, Nat.reduceLeDiff, Nat.reduceLT, reduceCtorEq, Int.reduceLT, Int.reduceLE, Int.reduceEq, Int.reduceBEq, Int.reduceSub, Int.reduceAdd, Int.reduceMul, Int.reduceNeg, Int.reduceToNat, Nat.reduceMul, Nat.reduceBEq, g6, gst]⟩
  obtain ⟨n2, h⟩ := main
  exact ⟨n2, fun st => run_any' (fn := ir87) rfl rfl h st⟩


/-! ### the law's search finds the reference's shares -/
theorem prsErr_nodup {n : Int} : ∀ {ps seen : List (Int × Int)}, prsErr n seen ps = 0 → (∀ p ∈ ps, p ∉ seen) ∧ ps.Nodup
  | [], _, _ => by simp
  | a :: r, seen, h => by
    simp only [prsErr] at h
    split at h
    · next h0 =>
      obtain ⟨h1, h2⟩ := prsErr_nodup h
      have ha : a ∉ seen := by
        unfold prErr at h0
        split at h0
        · simp at h0
        · split at h0
          · simp at h0
          · split at h0
            · simp at h0
            · assumption
      refine ⟨fun p hp => ?_, List.nodup_cons.2 ⟨fun hr => h1 a hr (by simp), h2⟩⟩
      rcases List.mem_cons.1 hp with rfl | hp
      · exact ha
      · exact fun hs => h1 p hp (by simp [hs])
    · next h0 => exact absurd h h0
theorem chk_nodup {n : Int} {ps : List (Int × Int)} (h : chk n ps = 0) : ps.Nodup := by
  unfold chk at h
  split at h
  · simp at h
  · split at h
    · simp at h
    · exact (prsErr_nodup h).2


theorem c35 (nl : Bool) (n : Int) (ps : List (Int × Int)) : ∃ n2 : Bool, ∀ st, run L 35 [bkAV nl n ps] st = some (.tup [sl 1 n2 ((shv n ps).1.map I), I (shv n ps).2], st) := by
  have h22 := fun st => c22 nl n ps st
  by_cases h : chk n ps = 0
  · obtain ⟨h1, h2, h3, h4, h5⟩ := chk_zero h
    obtain ⟨k, rfl⟩ := Int.eq_ofNat_of_zero_le (show 0 ≤ n by omega)
    obtain ⟨n2, h87⟩ := c87 nl k (by omega) (by omega) ps h3 h4 h5 (chk_nodup h)
    refine ⟨n2, fun st => ?_⟩
    rw [run_pure (fn := ir35) rfl rfl]
    unfold shv
    rw [if_pos h]
    simp only [Int.toNat_natCast]
    simp only [ir35, go_sem, reduceIte, Nat.reduceEqDiff, Nat.reduceAdd, Nat.reduceSub, Nat.reduceLeDiff, Nat.reduceLT, reduceCtorEq, Int.reduceLT, Int.reduceLE, Int.reduceEq, Int.reduceBEq, Int.reduceSub, Int.reduceAdd, Int.reduceMul, Int.reduceNeg, Int.reduceToNat, Nat.reduceMul, Nat.reduceBEq, h22, h, h87]
  · refine ⟨true, fun st => ?_⟩
    rw [run_pure (fn := ir35) rfl rfl]
    unfold shv
    rw [if_neg h]
    simp only [ir35, go_sem, reduceIte, Nat.reduceEqDiff, Nat.reduceAdd, Nat.reduceSub, Nat.reduceLeDiff, Nat.reduceLT, reduceCtorEq, Int.reduceLT, Int.reduceLE, Int.reduceEq, Int.reduceBEq, Int.reduceSub, Int.reduceAdd, Int.reduceMul, Int.reduceNeg, Int.reduceToNat, Nat.reduceMul, Nat.reduceBEq, h22, h]
    rfl


theorem firstV_len (n : Int) (ps : List (Int × Int)) : (firstV n ps).1.length ≤ 7 := by
  unfold firstV
  split
  · next h =>
    obtain ⟨h1, h2, h3, h4, h5⟩ := chk_zero h
    obtain ⟨k, rfl⟩ := Int.eq_ofNat_of_zero_le (show 0 ≤ n by omega)
    obtain ⟨g1, g2, g3⟩ := short_spec (n := k) (by omega) h4 h5
    rw [List.mem_map] at g1
    obtain ⟨l, g1, g4⟩ := g1
    have := withL_len 2 l 0
    have h6 := (cheap_in g1).1
    simp only [Int.toNat_natCast]
    rw [← g4]; unfold twos; omega
  · simp


theorem len_sum {α : Type} (p : α → Bool) : ∀ l : List α, ((l.filter p).length : Int) = sumL (l.map fun a => if p a = true then 1 else 0)
  | [] => rfl
  | a :: l => by
    have := len_sum p l
    simp only [List.map_cons, sumL]
    by_cases h : p a = true
    · rw [List.filter_cons_of_pos h, List.length_cons, if_pos h]; omega
    · rw [List.filter_cons_of_neg h, if_neg h]; omega
theorem sum_filter {α : Type} (p : α → Bool) (f : α → Int) : ∀ l : List α, sumL ((l.filter p).map f) = sumL (l.map fun a => if p a = true then f a else 0)
  | [] => rfl
  | a :: l => by
    have := sum_filter p f l
    simp only [List.map_cons, sumL]
    by_cases h : p a = true
    · rw [List.filter_cons_of_pos h, if_pos h, List.map_cons, sumL, this]
    · rw [List.filter_cons_of_neg h, if_neg h, this]; omega


theorem over_none {n : Nat} {ps : List (Int × Int)} {l : List Int} (h : l ∈ shF n ps ps.length []) (hps : ∀ p ∈ ps, 0 ≤ p.1 ∧ p.1 < p.2 ∧ p.2 < (n : Int)) (a : Nat) : loadOf (ps.zip l) (a : Int) ≤ 2 := by
  rcases Nat.lt_or_ge a n with ha | ha
  · obtain ⟨t, e, _, _, e4⟩ := (mem_shF ps.length [] _ (by simp)).1 h
    rcases e4 with e4 | e4
    · have : ps = [] := List.eq_nil_of_length_eq_zero e4
      subst this
      simp [loadOf]
    · by_cases h2 : 2 < loadOf (ps.zip l) (a : Int)
      · rw [(over_iff _).2 ⟨a, ha, h2⟩] at e4; simp at e4
      · omega
  · rw [load_out _ a ha (zip_ok hps l)]; omega

attribute [local go_sem high] and_one shr_u shl_one or_u

/-! ### a walk along pairs: always to the first that is free -/
/-! ### the lists of rings, and the ring that grows -/
def rwAV (l : List Int) : AV := sl 1 true (l.map I)
def rAV (k : Nat) (rows : List (List Int)) : AV := if rows = [] then .v (.slice none 0 0) else .lst (.own k rows.length) 1 (rows.map rwAV)
/-- A ring of one is a fresh list. -/
def wAV (k : Nat) (row : List Int) : AV := if row.length = 1 then .lst .full 1 (row.map I) else .lst (.own k row.length) 1 (row.map I)
def wT (row : List Int) : List Nat := if row.length = 1 then [] else [row.length]
def rXAV (T0 : List Nat) (rows : List (List Int)) (row : List Int) : AV := if rows = [] then .lst (.own (T0 ++ wT row).length 1) 1 [rwAV row] else .lst (.own T0.length (rows.length + 1)) 1 ((rows ++ [row]).map rwAV)
theorem shaped_w (k : Nat) (row : List Int) : (wAV k row).shaped = true := by unfold wAV; split <;> rfl
theorem cells_w (k : Nat) (row : List Int) : (wAV k row).cells = [wAV k row] := by unfold wAV; split <;> rfl
theorem isAgg_w (k : Nat) (row : List Int) : Ev.isAgg (wAV k row) = false := by unfold wAV; split <;> rfl
theorem storable_w (k : Nat) (row : List Int) : storable (wAV k row) = true := by unfold wAV; split <;> rfl
theorem okRef_w (n k : Nat) (row : List Int) : okRef n (wAV k row) = true := by unfold wAV; split <;> rfl
theorem okRef_r (n k : Nat) (rows : List (List Int)) : okRef n (rAV k rows) = true := by unfold rAV; split <;> rfl
theorem okRef_rX (n : Nat) (T0 : List Nat) (rows : List (List Int)) (row : List Int) : okRef n (rXAV T0 rows row) = true := by unfold rXAV; split <;> rfl
attribute [local go_sem] shaped_w cells_w isAgg_w storable_w okRef_w okRef_r okRef_rX okRef_out storable_out shaped_out cells_out fin_out pub_out

attribute [local go_sem] okRef_out storable_out shaped_out cells_out fin_out pub_out okRef_w okRef_r okRef_rX

/-! ### the rings, by the program -/
theorem fin_r (st : St) (k : Nat) (rows : List (List Int)) : fin st (rAV k rows) = sl 1 true (rows.map rwAV) := by
  unfold rAV
  by_cases h : rows = []
  · subst h; rfl
  · rw [if_neg h, sl_ne (by simpa using h)]; rfl
attribute [local go_sem] fin_r


/-! ### how many sets of articles there are that nothing can be added to (Moon and Moser) -/
def gM (k : Nat) : Nat := [1, 1, 2, 3, 4, 6, 9, 12].getD k 0
theorem gM_step : (List.range 8).all (fun k => (List.range 8).all fun d => Nat.ble 1 d && Nat.ble d k → decide (d * gM (k - d) ≤ gM k)) = true := by decide
theorem gM_mono : (List.range 8).all (fun a => (List.range 8).all fun b => Nat.ble a b → decide (gM a ≤ gM b)) = true := by decide
theorem gM_step' {k d : Nat} (hk : k ≤ 7) (h1 : 1 ≤ d) (h2 : d ≤ k) : d * gM (k - d) ≤ gM k := by
  have h := List.all_eq_true.1 (List.all_eq_true.1 gM_step k (List.mem_range.2 (by omega))) d (List.mem_range.2 (by omega))
  rw [decide_eq_true_iff] at h
  exact of_decide_eq_true (h (by rw [Nat.ble_eq_true_of_le h1, Nat.ble_eq_true_of_le h2]; rfl))
theorem gM_mono' {a b : Nat} (hb : b ≤ 7) (h : a ≤ b) : gM a ≤ gM b := by
  have h2 := List.all_eq_true.1 (List.all_eq_true.1 gM_mono a (List.mem_range.2 (by omega))) b (List.mem_range.2 (by omega))
  rw [decide_eq_true_iff] at h2
  exact of_decide_eq_true (h2 (Nat.ble_eq_true_of_le h))
theorem filter_len_lt {α : Type} {p q : α → Bool} : ∀ l : List α, (∀ x ∈ l, p x = true → q x = true) → (∃ x ∈ l, q x = true ∧ p x = false) → (l.filter p).length < (l.filter q).length
  | [], _, h => by obtain ⟨x, hx, _⟩ := h; simp at hx
  | a :: l, h1, h2 => by
    have ih := fun h => filter_len_lt (p := p) (q := q) l (fun x hx => h1 x (by simp [hx])) h
    have hle := filter_le_len p q l (fun x hx => h1 x (by simp [hx]))
    have ha := h1 a (by simp)
    obtain ⟨x, hx, h3, h4⟩ := h2
    rcases List.mem_cons.1 hx with rfl | hx
    · rw [List.filter_cons_of_neg (by simp [h4]), List.filter_cons_of_pos h3, List.length_cons]; omega
    · have := ih ⟨x, hx, h3, h4⟩
      cases e1 : p a
      · rw [List.filter_cons_of_neg (by simp [e1])]
        cases e2 : q a
        · rw [List.filter_cons_of_neg (by simp [e2])]; exact this
        · rw [List.filter_cons_of_pos e2, List.length_cons]; omega
      · rw [List.filter_cons_of_pos e1, List.filter_cons_of_pos (ha e1), List.length_cons, List.length_cons]; omega
theorem union_len {p : Nat → Nat → Bool} {B : Nat} : ∀ (K L : List Nat), (∀ z ∈ L, ∃ w ∈ K, p w z = true) → (∀ w ∈ K, (L.filter (p w)).length ≤ B) → L.length ≤ K.length * B
  | [], L, h, _ => by
    cases L with
    | nil => simp
    | cons z L => obtain ⟨w, hw, _⟩ := h z (by simp); simp at hw
  | w :: K, L, h, hB => by
    have h1 := hB w (by simp)
    have h2 := filter_lt (p w) L
    have h3 := union_len (p := p) (B := B) K (L.filter fun z => !p w z) (by
      intro z hz
      rw [List.mem_filter] at hz
      obtain ⟨u, hu, h4⟩ := h z hz.1
      rcases List.mem_cons.1 hu with rfl | hu
      · rw [h4] at hz; simp at hz
      · exact ⟨u, hu, h4⟩) (by
      intro u hu
      rw [List.filter_filter]
      have h4 := hB u (by simp [hu])
      have h5 := filter_le_len (fun z => p u z && !p w z) (p u) L (fun x _ hx => by rw [Bool.and_eq_true] at hx; exact hx.1)
      omega)
    rw [List.length_cons, Nat.add_mul]; omega
/-- Articles that do not contradict each other, to which none can be added. -/
def Mx (J : Nat → Nat → Bool) (V : Nat → Bool) (z : Nat) : Prop :=
  z < 128 ∧ (∀ u, z.testBit u = true → V u = true) ∧ (∀ u w, z.testBit u = true → z.testBit w = true → J u w = false) ∧ ∀ u, u < 7 → V u = true → z.testBit u = true ∨ ∃ w, w < 7 ∧ z.testBit w = true ∧ J u w = true
def sizeV (V : Nat → Bool) : Nat := ((List.range 7).filter V).length
def nbV (J : Nat → Nat → Bool) (V : Nat → Bool) (v : Nat) : List Nat := (List.range 7).filter fun u => V u && (u == v || J v u)
def offV (J : Nat → Nat → Bool) (V : Nat → Bool) (v : Nat) : Nat → Bool := fun u => V u && !(u == v || J v u)
theorem off_size (J : Nat → Nat → Bool) (V : Nat → Bool) (v : Nat) : sizeV (offV J V v) + (nbV J V v).length = sizeV V := by
  unfold sizeV nbV offV
  have h := filter_lt (fun u => u == v || J v u) ((List.range 7).filter V)
  rw [List.filter_filter, List.filter_filter] at h
  have e1 : (List.range 7).filter (fun u => V u && (u == v || J v u)) = (List.range 7).filter fun u => (u == v || J v u) && V u := by
    congr 1; funext u; exact Bool.and_comm _ _
  have e2 : (List.range 7).filter (fun u => V u && !(u == v || J v u)) = (List.range 7).filter fun u => !(u == v || J v u) && V u := by
    congr 1; funext u; exact Bool.and_comm _ _
  rw [e1, e2]; omega
theorem xor_bit (z w u : Nat) : (z ^^^ 2 ^ w).testBit u = (z.testBit u ^^ decide (w = u)) := by rw [Nat.testBit_xor, Nat.testBit_two_pow]
theorem xor_back (z w : Nat) : (z ^^^ 2 ^ w) ^^^ 2 ^ w = z := by
  apply Nat.eq_of_testBit_eq
  intro u
  rw [xor_bit, xor_bit, Bool.xor_assoc, Bool.xor_self, Bool.xor_false]
theorem nodup_map_inj {α β : Type} {f : α → β} : ∀ {l : List α}, l.Nodup → (∀ a ∈ l, ∀ b ∈ l, f a = f b → a = b) → (l.map f).Nodup
  | [], _, _ => by simp
  | a :: l, h, hi => by
    rw [List.nodup_cons] at h
    rw [List.map_cons, List.nodup_cons]
    refine ⟨?_, nodup_map_inj h.2 (fun x hx y hy => hi x (by simp [hx]) y (by simp [hy]))⟩
    intro hm
    obtain ⟨b, hb, e⟩ := List.mem_map.1 hm
    have := hi b (by simp [hb]) a (by simp) e
    subst this; exact h.1 hb
theorem mm {J : Nat → Nat → Bool} (hs : ∀ a b, J a b = J b a) (hr : ∀ a, J a a = false) : ∀ (k : Nat), k ≤ 7 → ∀ V : Nat → Bool, (∀ u, V u = true → u < 7) → sizeV V = k → ∀ L : List Nat, L.Nodup → (∀ z ∈ L, Mx J V z) → L.length ≤ gM k := by
  intro k
  induction k using Nat.strongRecOn with
  | ind k ih =>
    intro hk V hV7 hV L hnd hL
    by_cases h0 : k = 0
    · subst h0
      have hno : ∀ u, V u = false := by
        intro u
        cases e : V u
        · rfl
        · have : u ∈ (List.range 7).filter V := List.mem_filter.2 ⟨List.mem_range.2 (hV7 u e), e⟩
          have := List.length_pos_of_mem this
          unfold sizeV at hV; omega
      have := nodup_len_le L [0] hnd (by
        intro z hz
        have hz2 := hL z hz
        have : z = 0 := by
          apply Nat.eq_of_testBit_eq
          intro u
          rw [Nat.zero_testBit]
          cases e : z.testBit u
          · rfl
          · have := hz2.2.1 u e; rw [hno u] at this; simp at this
        simp [this])
      simpa [gM] using this
    · have hne : (List.range 7).filter V ≠ [] := by
        intro e; unfold sizeV at hV; rw [e] at hV; simp at hV; omega
      have hne2 := least_ne (fun u => ((nbV J V u).length : Int)) _ hne
      obtain ⟨v, hv⟩ := List.exists_mem_of_ne_nil _ hne2
      rw [mem_least] at hv
      obtain ⟨hv1, hv2⟩ := hv
      obtain ⟨hv7, hvV⟩ := List.mem_filter.1 hv1
      rw [List.mem_range] at hv7
      have hd1 : 1 ≤ (nbV J V v).length := List.length_pos_of_mem (a := v) (List.mem_filter.2 ⟨List.mem_range.2 hv7, by simp [hvV]⟩)
      have hsz := off_size J V v
      have hB : ∀ w ∈ nbV J V v, (L.filter fun z => z.testBit w).length ≤ gM (k - (nbV J V v).length) := by
        intro w hw
        obtain ⟨hw7, hw2⟩ := List.mem_filter.1 hw
        rw [List.mem_range] at hw7
        rw [Bool.and_eq_true] at hw2
        have hwV := hw2.1
        have hmin := hv2 w (List.mem_filter.2 ⟨List.mem_range.2 hw7, hwV⟩)
        have hw1 : 1 ≤ (nbV J V w).length := List.length_pos_of_mem (a := w) (List.mem_filter.2 ⟨List.mem_range.2 hw7, by simp [hwV]⟩)
        have hszw := off_size J V w
        have hi := ih (sizeV (offV J V w)) (by omega) (by omega) (offV J V w) (by
          intro u hu; unfold offV at hu; rw [Bool.and_eq_true] at hu; exact hV7 u hu.1) rfl ((L.filter fun z => z.testBit w).map fun z => z ^^^ 2 ^ w) (by
          apply nodup_map_inj (hnd.filter _)
          intro a _ b _ e
          have := congrArg (fun z => z ^^^ 2 ^ w) e
          simp only [xor_back] at this
          exact this) (by
          intro z' hz'
          obtain ⟨z, hz, rfl⟩ := List.mem_map.1 hz'
          obtain ⟨hz, hzw⟩ := List.mem_filter.1 hz
          obtain ⟨m1, m2, m3, m4⟩ := hL z hz
          have hbit : ∀ u, (z ^^^ 2 ^ w).testBit u = true ↔ z.testBit u = true ∧ u ≠ w := by
            intro u
            rw [xor_bit]
            by_cases e : w = u
            · subst e; rw [hzw]; simp
            · have : decide (w = u) = false := by simp [e]
              rw [this, Bool.xor_false]
              constructor
              · intro h; exact ⟨h, fun h2 => e h2.symm⟩
              · exact fun h => h.1
          refine ⟨?_, ?_, ?_, ?_⟩
          · exact Nat.xor_lt_two_pow (n := 7) m1 (Nat.pow_lt_pow_right (by omega) hw7)
          · intro u hu
            obtain ⟨h1, h2⟩ := (hbit u).1 hu
            have h3 := m3 w u hzw h1
            unfold offV
            rw [m2 u h1, h3]; simp [h2]
          · intro a b ha hb
            exact m3 a b ((hbit a).1 ha).1 ((hbit b).1 hb).1
          · intro u hu hVu
            unfold offV at hVu
            rw [Bool.and_eq_true] at hVu
            obtain ⟨g1, g2⟩ := hVu
            have g3 : u ≠ w ∧ J w u = false := by
              rw [Bool.not_eq_true', Bool.or_eq_false_iff] at g2
              exact ⟨by simpa using g2.1, g2.2⟩
            rcases m4 u hu g1 with h1 | ⟨x, h1, h2, h3⟩
            · exact .inl ((hbit u).2 ⟨h1, g3.1⟩)
            · refine .inr ⟨x, h1, (hbit x).2 ⟨h2, ?_⟩, h3⟩
              rintro rfl
              rw [hs] at h3; rw [h3] at g3; simp at g3)
        rw [List.length_map] at hi
        have := gM_mono' (a := sizeV (offV J V w)) (b := k - (nbV J V v).length) (by omega) (by omega)
        omega
      have hU := union_len (p := fun w z => z.testBit w) (B := gM (k - (nbV J V v).length)) (nbV J V v) L (by
        intro z hz
        obtain ⟨m1, m2, m3, m4⟩ := hL z hz
        rcases m4 v hv7 hvV with h1 | ⟨w, h1, h2, h3⟩
        · exact ⟨v, List.mem_filter.2 ⟨List.mem_range.2 hv7, by simp [hvV]⟩, h1⟩
        · exact ⟨w, List.mem_filter.2 ⟨List.mem_range.2 h1, by rw [m2 w h2, h3]; simp⟩, h2⟩) hB
      have := gM_step' hk hd1 (by omega)
      omega

/-! ### the shortest lists -/
def adjB (ps : List (Int × Int)) (a b : Nat) : Bool := decide (((a : Int), (b : Int)) ∈ ps) || decide (((b : Int), (a : Int)) ∈ ps)
theorem adjB_nb {ps : List (Int × Int)} {a b : Nat} : adjB ps a b = true ↔ nb ps a b := by
  unfold adjB nb; rw [Bool.or_eq_true, decide_eq_true_iff, decide_eq_true_iff]
def covZ (n : Nat) (ps : List (Int × Int)) : List Nat := leastOf (fun m => lenI (memb m)) ((List.range (2 ^ n)).filter (expl ps))
def fewV (n : Nat) (ps : List (Int × Int)) : List (List Int) := leastOf lenI (((List.range (2 ^ n)).filter (expl ps)).map memb)
theorem few_map (n : Nat) (ps : List (Int × Int)) : (covZ n ps).map memb = fewV n ps := by
  unfold covZ fewV
  exact least_map _ _ (fun a _ b _ => Iff.rfl)
theorem expl_iff {n : Nat} {ps : List (Int × Int)} (hps : ∀ p ∈ ps, 0 ≤ p.1 ∧ p.1 < p.2 ∧ p.2 < (n : Int)) (m : Nat) : expl ps m = true ↔ ∀ a b : Nat, nb ps a b → m.testBit a = true ∨ m.testBit b = true := by
  unfold expl
  rw [Bool.not_eq_true', List.any_eq_false]
  constructor
  · intro h a b hab
    rcases hab with hab | hab
    · have := h _ hab
      unfold openP at this
      simp only [Int.toNat_natCast] at this
      cases e1 : m.testBit a
      · cases e2 : m.testBit b
        · rw [e1, e2] at this; simp at this
        · exact .inr rfl
      · exact .inl rfl
    · have := h _ hab
      unfold openP at this
      simp only [Int.toNat_natCast] at this
      cases e1 : m.testBit a
      · cases e2 : m.testBit b
        · rw [e1, e2] at this; simp at this
        · exact .inr rfl
      · exact .inl rfl
  · intro h p hp
    have hb := hps p hp
    have h1 := h p.1.toNat p.2.toNat (.inl (by
      have e : (((p.1.toNat : Nat) : Int), ((p.2.toNat : Nat) : Int)) = p := Prod.ext (by simp only; omega) (by simp only; omega)
      rw [e]; exact hp))
    unfold openP
    rcases h1 with h1 | h1 <;> rw [h1] <;> simp
theorem memb_drop {m u : Nat} (hu : u < 7) (h : m.testBit u = true) : (memb (m ^^^ 2 ^ u)).length < (memb m).length := by
  unfold memb
  rw [List.length_map, List.length_map]
  apply filter_len_lt
  · intro x _ hx
    rw [xor_bit] at hx
    by_cases e : u = x
    · subst e; exact h
    · simpa [e] using hx
  · exact ⟨u, List.mem_range.2 hu, h, by rw [xor_bit, h]; simp⟩
theorem few_len {n : Nat} (hn : n ≤ 7) {ps : List (Int × Int)} (hps : ∀ p ∈ ps, 0 ≤ p.1 ∧ p.1 < p.2 ∧ p.2 < (n : Int)) : (fewV n ps).length ≤ 12 := by
  rw [← few_map, List.length_map]
  have h128 : 2 ^ n ≤ 128 := Nat.pow_le_pow_right (by omega) hn
  have hfull : ∀ u, (2 ^ n - 1).testBit u = decide (u < n) := fun u => Nat.testBit_two_pow_sub_one ..
  have hmem : ∀ m ∈ covZ n ps, m < 2 ^ n ∧ (∀ a b : Nat, nb ps a b → m.testBit a = true ∨ m.testBit b = true) ∧ ∀ y, y < 2 ^ n → expl ps y = true → (memb m).length ≤ (memb y).length := by
    intro m hm
    unfold covZ at hm
    rw [mem_least] at hm
    obtain ⟨h1, h2⟩ := hm
    obtain ⟨h3, h4⟩ := List.mem_filter.1 h1
    refine ⟨List.mem_range.1 h3, (expl_iff hps m).1 h4, ?_⟩
    intro y hy he
    have := h2 y (List.mem_filter.2 ⟨List.mem_range.2 hy, he⟩)
    unfold lenI at this; omega
  have hbit : ∀ m u, ((2 ^ n - 1) ^^^ m).testBit u = (decide (u < n) ^^ m.testBit u) := by
    intro m u; rw [Nat.testBit_xor, hfull]
  have hnd : (covZ n ps).Nodup := by
    unfold covZ leastOf
    exact (List.nodup_range.filter _).filter _
  have hsz : sizeV (fun u => decide (u < n)) = n := by
    have : ∀ n, n ≤ 7 → sizeV (fun u => decide (u < n)) = n := by decide
    exact this n hn
  have key := mm (J := adjB ps) (fun a b => by unfold adjB; exact Bool.or_comm _ _) (fun a => by
      cases e : adjB ps a a
      · rfl
      · have := nb_lt hps (adjB_nb.1 e); omega) n hn (fun u => decide (u < n)) (fun u hu => by have := of_decide_eq_true hu; omega) hsz ((covZ n ps).map fun m => (2 ^ n - 1) ^^^ m) (by
      apply nodup_map_inj hnd
      intro a _ b _ e
      apply Nat.eq_of_testBit_eq
      intro u
      have h1 := congrArg (fun z => z.testBit u) e
      simp only [hbit] at h1
      cases decide (u < n) <;> simpa using h1) (by
      intro z hz
      obtain ⟨m, hm, rfl⟩ := List.mem_map.1 hz
      obtain ⟨m1, m2, m3⟩ := hmem m hm
      have hmb : ∀ u, m.testBit u = true → u < n := fun u h => bit_lt m1 h
      refine ⟨?_, ?_, ?_, ?_⟩
      · have := Nat.xor_lt_two_pow (n := n) (x := 2 ^ n - 1) (y := m) (by have := Nat.two_pow_pos n; omega) m1
        omega
      · intro u hu
        rw [hbit] at hu
        cases e : decide (u < n)
        · rw [e] at hu
          have h1 : m.testBit u = true := by simpa using hu
          have := hmb u h1
          rw [decide_eq_false_iff_not] at e; omega
        · exact e
      · intro a b ha hb
        cases e : adjB ps a b
        · rfl
        · have hab := adjB_nb.1 e
          have hl := nb_lt hps hab
          rw [hbit] at ha hb
          rcases m2 a b hab with h1 | h1
          · rw [h1] at ha; simp [hl.1] at ha
          · rw [h1] at hb; simp [hl.2.1] at hb
      · intro u hu hun
        have hun := of_decide_eq_true hun
        by_cases hb : m.testBit u = true
        · right
          apply Classical.byContradiction
          intro hno
          have hexp : expl ps (m ^^^ 2 ^ u) = true := by
            rw [expl_iff hps]
            intro a b hab
            have hl := nb_lt hps hab
            have hkeep : ∀ x, x ≠ u → m.testBit x = true → (m ^^^ 2 ^ u).testBit x = true := by
              intro x hx h; rw [xor_bit, h]; simp; exact fun h2 => hx h2.symm
            have hall : ∀ x, x < 7 → nb ps u x → m.testBit x = true := by
              intro x hx hux
              have hl2 := nb_lt hps hux
              cases e : m.testBit x
              · exfalso; apply hno
                refine ⟨x, hx, ?_, adjB_nb.2 hux⟩
                rw [hbit, e]; simp; exact hl2.2.1
              · rfl
            by_cases ea : a = u
            · subst ea
              exact .inr (hkeep b (fun h => hl.2.2 h.symm) (hall b (by omega) hab))
            · by_cases eb : b = u
              · subst eb
                exact .inl (hkeep a ea (hall a (by omega) (nb_symm hab)))
              · rcases m2 a b hab with h | h
                · exact .inl (hkeep a ea h)
                · exact .inr (hkeep b eb h)
          have hlt : m ^^^ 2 ^ u < 2 ^ n := Nat.xor_lt_two_pow m1 (Nat.pow_lt_pow_right (by omega) hun)
          have h1 := m3 _ hlt hexp
          have h2 := memb_drop hu hb
          omega
        · left
          rw [hbit]
          simp [hun, hb])
  rw [List.length_map] at key
  have := gM_mono' (a := n) (b := 7) (by omega) hn
  have h12 : gM 7 = 12 := rfl
  omega


/-! ### values by a rule -/
theorem allL2_mem : ∀ (v : List Int), (∀ x ∈ v, x = 0 ∨ x = 2) → v ∈ allL 2 v.length
  | [], _ => by simp [allL]
  | a :: r, h => by
    have ih := allL2_mem r (fun x hx => h x (by simp [hx]))
    have ha := h a (by simp)
    simp only [List.length_cons, allL, List.mem_flatMap, List.mem_map]
    refine ⟨a.toNat, ?_, r, ih, by rcases ha with rfl | rfl <;> rfl⟩
    rcases ha with rfl | rfl <;> decide
def byF (n : Nat) (f : Nat → Int) : List Int := (List.range n).map f
theorem byF_len (n : Nat) (f : Nat → Int) : (byF n f).length = n := by simp [byF]
theorem byF_getD {n : Nat} (f : Nat → Int) {a : Nat} (ha : a < n) : (byF n f).getD a 0 = f a := by
  unfold byF; rw [List.getD_eq_getElem?_getD, List.getElem?_map, List.getElem?_range ha]; rfl
theorem byF_all2 {n : Nat} {f : Nat → Int} (h : ∀ a, a < n → f a = 0 ∨ f a = 2) : byF n f ∈ allL 2 n := by
  have := allL2_mem (byF n f) (by
    intro x hx; unfold byF at hx; obtain ⟨a, ha, rfl⟩ := List.mem_map.1 hx; exact h a (List.mem_range.1 ha))
  rwa [byF_len] at this
theorem byF_all1 {n : Nat} {f : Nat → Int} (h : ∀ a, a < n → 0 ≤ f a ∧ f a ≤ 2) : byF n f ∈ allL 1 n := by
  have := allL1_mem (byF n f) (by
    intro x hx; unfold byF at hx; obtain ⟨a, ha, rfl⟩ := List.mem_map.1 hx; exact h a (List.mem_range.1 ha))
  rwa [byF_len] at this
theorem byF_half {n : Nat} {ps : List (Int × Int)} (hps : ∀ p ∈ ps, 0 ≤ p.1 ∧ p.1 < p.2 ∧ p.2 < (n : Int)) {f : Nat → Int} (h : ∀ a b, a < n → b < n → nb ps a b → 2 ≤ f a + f b) : halfOk ps (byF n f) = true := by
  rw [half_nb hps]
  intro a b hab
  have hl := nb_lt hps hab
  rw [byF_getD f hl.1, byF_getD f hl.2.1]
  exact h a b hl.1 hl.2.1 hab
theorem val_range {v : List Int} {n : Nat} (h : v.length = n) : sumL v = sumL ((List.range n).map fun a => v.getD a 0) := by rw [← list_range v n h]
theorem bestL_in {X : List (List Int)} (h : X ≠ []) : bestL X ∈ X ∧ ∀ c ∈ X, lexLt c (bestL X) = false := by
  cases X with
  | nil => exact absurd rfl h
  | cons b r => exact pickL_spec r b
theorem cheap_two_sum {n : Nat} {ps : List (Int × Int)} {y : List Int} (h : y ∈ cheap n 2 ps) : sumL y = 2 * ((twos y).length : Int) :=
  two_sum y 0 (allL2_val n y (cheap_mem.1 h).1.1)
theorem first_cheap {n : Nat} {ps : List (Int × Int)} (hps : ∀ p ∈ ps, 0 ≤ p.1 ∧ p.1 < p.2 ∧ p.2 < (n : Int)) : ∃ y ∈ cheap n 2 ps, bestL ((cheap n 2 ps).map twos) = twos y := by
  have hne : (cheap n 2 ps).map twos ≠ [] := by
    intro e; rw [List.map_eq_nil_iff] at e; exact cheap_ne 2 hps e
  obtain ⟨y, h1, h2⟩ := List.mem_map.1 (bestL_in hne).1
  exact ⟨y, h1, h2.symm⟩
/-- Covers cost at least what half values cost, at most twice that; just that much where articles can be put on two sides. -/
theorem bounds {n : Nat} {ps : List (Int × Int)} (hn1 : 1 ≤ n) (hn : n ≤ 7) (hps : ∀ p ∈ ps, 0 ≤ p.1 ∧ p.1 < p.2 ∧ p.2 < (n : Int)) (h7 : ∀ p ∈ ps, okP p) :
    sumL (halvesV n ps) ≤ 2 * ((bestL ((cheap n 2 ps).map twos)).length : Int) ∧ ((bestL ((cheap n 2 ps).map twos)).length : Int) ≤ sumL (halvesV n ps) ∧
    ∀ z : Nat, (∀ a b : Nat, nb ps a b → z.testBit a ≠ z.testBit b) → 2 * ((bestL ((cheap n 2 ps).map twos)).length : Int) = sumL (halvesV n ps) := by
  obtain ⟨y, hy, e⟩ := first_cheap (n := n) (ps := ps) hps
  rw [e]
  have hys := cheap_two_sum hy
  obtain ⟨⟨y1, y2⟩, y3⟩ := cheap_mem.1 hy
  obtain ⟨⟨v1, v2⟩, v3⟩ := cheap_mem.1 (halves_spec hn1 hn hps h7).1
  obtain ⟨hvl, hvb⟩ := allL_in n _ v1
  obtain ⟨hyl, hyb⟩ := allL_in n _ y1
  have hvok := (half_nb hps _).1 v2
  generalize halvesV n ps = v at *
  have hb := fun a => getD_bd (B := 2) (by omega) hvb a
  have hvs := val_range hvl
  have hy1' : y ∈ allL 1 n := by have := allL1_mem y hyb; rwa [hyl] at this
  have g1 := v3 y hy1' y2
  have g2 := y3 (byF n fun a => if 1 ≤ v.getD a 0 then 2 else 0) (byF_all2 (fun a _ => by split <;> omega)) (byF_half hps (fun a b _ _ hab => by
    have h1 := hvok a b hab; have h2 := hb a; have h3 := hb b
    split <;> split <;> omega))
  have g3 := sum_le2 (f := fun a => if 1 ≤ v.getD a 0 then (2 : Int) else 0) (g := fun a => v.getD a 0 * 2) (List.range n) (by
    intro a _; have := hb a; split <;> omega)
  rw [sum_two, ← hvs] at g3
  have g4 : sumL (byF n fun a => if 1 ≤ v.getD a 0 then (2 : Int) else 0) = sumL ((List.range n).map fun a => if 1 ≤ v.getD a 0 then (2 : Int) else 0) := rfl
  refine ⟨by omega, by omega, fun z hz => ?_⟩
  have k1 := y3 (byF n fun a => if v.getD a 0 = 2 ∨ v.getD a 0 = 1 ∧ z.testBit a = true then 2 else 0) (byF_all2 (fun a _ => by split <;> omega)) (byF_half hps (fun a b _ _ hab => by
    have h1 := hvok a b hab; have h2 := hb a; have h3 := hb b; have h4 := hz a b hab
    cases e1 : z.testBit a <;> cases e2 : z.testBit b <;> rw [e1, e2] at h4 <;> simp at h4 <;> simp only [Bool.false_eq_true, and_false, or_false, and_true] <;> split <;> split <;> omega))
  have k2 := y3 (byF n fun a => if v.getD a 0 = 2 ∨ v.getD a 0 = 1 ∧ z.testBit a = false then 2 else 0) (byF_all2 (fun a _ => by split <;> omega)) (byF_half hps (fun a b _ _ hab => by
    have h1 := hvok a b hab; have h2 := hb a; have h3 := hb b; have h4 := hz a b hab
    cases e1 : z.testBit a <;> cases e2 : z.testBit b <;> rw [e1, e2] at h4 <;> simp at h4 <;> simp only [Bool.true_eq_false, and_false, or_false, and_true] <;> split <;> split <;> omega))
  have k3 := sum_add (fun a => if v.getD a 0 = 2 ∨ v.getD a 0 = 1 ∧ z.testBit a = true then (2 : Int) else 0) (fun a => if v.getD a 0 = 2 ∨ v.getD a 0 = 1 ∧ z.testBit a = false then (2 : Int) else 0) (List.range n)
  have k4 : (List.range n).map (fun a => (if v.getD a 0 = 2 ∨ v.getD a 0 = 1 ∧ z.testBit a = true then (2 : Int) else 0) + (if v.getD a 0 = 2 ∨ v.getD a 0 = 1 ∧ z.testBit a = false then (2 : Int) else 0)) = (List.range n).map fun a => v.getD a 0 * 2 := by
    apply List.map_congr_left
    intro a _
    have := hb a
    cases z.testBit a <;> simp only [Bool.false_eq_true, Bool.true_eq_false, and_false, or_false, and_true] <;> split <;> split <;> omega
  rw [k4, sum_two, ← hvs] at k3
  have k5 : sumL (byF n fun a => if v.getD a 0 = 2 ∨ v.getD a 0 = 1 ∧ z.testBit a = true then (2 : Int) else 0) = sumL ((List.range n).map fun a => if v.getD a 0 = 2 ∨ v.getD a 0 = 1 ∧ z.testBit a = true then (2 : Int) else 0) := rfl
  have k6 : sumL (byF n fun a => if v.getD a 0 = 2 ∨ v.getD a 0 = 1 ∧ z.testBit a = false then (2 : Int) else 0) = sumL ((List.range n).map fun a => if v.getD a 0 = 2 ∨ v.getD a 0 = 1 ∧ z.testBit a = false then (2 : Int) else 0) := rfl
  omega
/-- The shortest lists, in the two orders. -/
theorem few_perm {n : Nat} (hn : n ≤ 7) {ps : List (Int × Int)} (h7 : ∀ p ∈ ps, okP p) : (fewV n ps).Perm ((cheap n 2 ps).map twos) := by
  rw [cheap_twos]
  exact least_perm lenI (short_perm hn h7)


/-! ### what halves say of some shortest list (Nemhauser and Trotter) -/
/-- A list, with what halves say where they say it. -/
def keepV (n : Nat) (v y : List Int) : List Int := byF n fun a => if v.getD a 0 = 1 then y.getD a 0 else v.getD a 0
def dlt (v y : List Int) (a : Nat) : Int := if v.getD a 0 = 2 ∧ y.getD a 0 = 0 then -1 else if v.getD a 0 = 0 ∧ y.getD a 0 = 2 then 1 else 0
theorem nt {n : Nat} {ps : List (Int × Int)} (hn1 : 1 ≤ n) (hn : n ≤ 7) (hps : ∀ p ∈ ps, 0 ≤ p.1 ∧ p.1 < p.2 ∧ p.2 < (n : Int)) (h7 : ∀ p ∈ ps, okP p) {y : List Int} (hy : y ∈ cheap n 2 ps) : keepV n (halvesV n ps) y ∈ cheap n 2 ps := by
  obtain ⟨⟨y1, y2⟩, y3⟩ := cheap_mem.1 hy
  obtain ⟨⟨v1, v2⟩, v3⟩ := cheap_mem.1 (halves_spec hn1 hn hps h7).1
  obtain ⟨hvl, hvb⟩ := allL_in n _ v1
  obtain ⟨hyl, _⟩ := allL_in n _ y1
  have hy02 := getD2 (allL2_val n y y1)
  have hvok := (half_nb hps _).1 v2
  have hyok := (half_nb hps _).1 y2
  generalize halvesV n ps = v at *
  have hb := fun a => getD_bd (B := 2) (by omega) hvb a
  have hvs := val_range hvl
  have hys := val_range hyl
  -- the other values, that cost no less
  have g1 := v3 (byF n fun a => v.getD a 0 + dlt v y a) (byF_all1 (fun a _ => by
    have h1 := hb a; have h2 := hy02 a
    unfold dlt; split
    · omega
    · split <;> omega)) (byF_half hps (fun a b _ _ hab => by
    have h1 := hb a; have h2 := hb b; have h3 := hy02 a; have h4 := hy02 b; have h5 := hvok a b hab; have h6 := hyok a b hab
    unfold dlt
    generalize v.getD a 0 = va at *
    generalize v.getD b 0 = vb at *
    generalize y.getD a 0 = ya at *
    generalize y.getD b 0 = yb at *
    split <;> split <;> (try split) <;> (try split) <;> omega))
  have g2 : sumL (byF n fun a => v.getD a 0 + dlt v y a) = sumL ((List.range n).map fun a => v.getD a 0 + dlt v y a) := rfl
  rw [g2, sum_add, ← hvs] at g1
  have g3 : sumL ((List.range n).map fun a => y.getD a 0) = sumL ((List.range n).map fun a => (if v.getD a 0 = 1 then y.getD a 0 else v.getD a 0)) + sumL ((List.range n).map fun a => dlt v y a * 2) := by
    rw [← sum_add]
    congr 1
    apply List.map_congr_left
    intro a _
    have h1 := hb a; have h2 := hy02 a
    unfold dlt
    generalize v.getD a 0 = va at *
    generalize y.getD a 0 = ya at *
    split <;> split <;> (try split) <;> omega
  rw [sum_two, ← hys] at g3
  have g4 : sumL (keepV n v y) = sumL ((List.range n).map fun a => (if v.getD a 0 = 1 then y.getD a 0 else v.getD a 0)) := rfl
  refine cheap_mem.2 ⟨⟨byF_all2 (fun a _ => by
    have h1 := hb a; have h2 := hy02 a
    split <;> omega), byF_half hps (fun a b _ _ hab => by
    have h1 := hb a; have h2 := hb b; have h3 := hy02 a; have h4 := hy02 b; have h5 := hvok a b hab; have h6 := hyok a b hab
    split <;> split <;> omega)⟩, fun z hz1 hz2 => ?_⟩
  have := y3 z hz1 hz2
  omega
end Go.Proofs.YtpmbfgogpcjdlaaDoor.Vm
