/- What is proved: what each function of this program computes, as equations on the evaluator. No condition. -/
import Derived.Test.YtiifibgadipalaaC2
set_option linter.all false
namespace Go.Proofs.Ytiifibgadipalaa.Vm
open Go Go.Ev
set_option maxRecDepth 100000
attribute [local go_sem] cells_any storable_any ren1_any shaped_ptr cells_ptr storable_ptr ren1_ptr shaped_eptr cells_eptr storable_eptr ren1_eptr shaped_rsl cells_rsl storable_rsl ren1_rsl shaped_int cells_int storable_int ren1_int shaped_bool cells_bool storable_bool ren1_bool shaped_nils cells_nils storable_nils ren1_nils shaped_lst cells_lst storable_lst shaped_fn cells_fn storable_fn ren1_fn shaped_ifc cells_ifc storable_ifc ren1_ifc shaped_agg cells_agg storable_agg ren1_agg shaped_tup cells_tup storable_tup ren1_tup shaped_nif cells_nif storable_nif ren1_nif ren1_lany ren1_lfull ren1_lown len_lst len_rsl len_nil load_ptr load_eptr isRsl_lst isRsl_nil isRsl_rsl elems_nil elems_lst elems_sl isRsl_sl body_eq bodyK_normal bodyK_ret resK_some leaveK_some only_some code_skip code_exit code_ret code_ops code_seq code_cond code_block seqK_normal seqK_ret seqK_exit condK_true condK_false blockK_normal blockK_ret blockK_exit opsK_some ops_nil ops_cons wantK_true wantK_false stepK_some pubs pub pub_sl params okRef_loc storable_loc shaped_loc cells_loc isRsl_loc elems_loc len_loc untips untip untip_sl wantedAV setElems withO isAgg_v isAgg_agg isAgg_lst isAgg_ptr isAgg_fn isAgg_ifc isAgg_rsl isAgg_sl isAgg_loc List.replicate_succ List.replicate_zero opAV valAV aval avals ofVal Env.get setD canon gcAV renAll renEnv renStore renCells ren1_sl cutSt okEnv okStore okRefs okRef okRef_sl bin_int bin_bool bin_lst bin_rsl bin_nil bin_agg cellsEq cellEq isShift intOp boolOp min_int max_int beq_int bne resAV tupAV leave_eq fin_sl fin_loc fins fin_v fin_lst fin_agg fin_tup fin_fn storeAV readCells putCells cells_sl shaped_sl storable_sl fieldAddrAV len_sl goI List.getElem?_cons_zero List.getElem?_cons_succ List.getElem?_nil Option.bind_some Option.map_some List.length_cons List.length_nil List.all_cons List.all_nil Bool.and_true Bool.true_and Bool.and_false Bool.false_and and_true true_and and_false false_and Bool.false_eq_true List.set_cons_zero List.set_cons_succ List.append_nil List.nil_append List.cons_append List.take_zero List.take_succ_cons List.take_nil List.drop_zero List.drop_succ_cons List.map_cons List.map_nil decide_true decide_false beq_self_eq_true Bool.not_true Bool.not_false or_true true_or or_false false_or Nat.zero_add Nat.add_zero Nat.le_refl Nat.lt_irrefl decide_eq_true_eq eq_self_iff_true not_true_eq_false not_false_eq_true List.getD_cons_zero code_loop Nat.zero_le Nat.not_lt_zero Bool.true_beq Bool.false_beq beq_true beq_false ge_iff_le gt_iff_lt Lpure pus Option.map_none assert_ifc assert_nil idxA_ptr idxA_eptr idxV_agg Int.cast_ofNat_Int Nat.mul_one Nat.zero_mul Int.toNat_natCast Int.toNat_zero setParts withO2 eqnil_sl nenil_sl eqnil_loc nenil_loc map_nil_iff okRefs_ints renCells_ints

/-- A book by numbers. -/
abbrev U (n : Int) : AV := .v (.int .u8 n)
structure Shelf where
  many : Int
  room : Int
  floor : Int
  least : List Int
  more : List Int
def Byte (n : Int) : Prop := 0 ≤ n ∧ n ≤ 255
def Shelf.ok (s : Shelf) : Prop := Byte s.many ∧ Byte s.room ∧ Byte s.floor ∧ s.least.length = 12 ∧ s.more.length = 12 ∧ (∀ n ∈ s.least, Byte n) ∧ ∀ n ∈ s.more, Byte n
def Shelf.cells (s : Shelf) : List AV := U s.many :: U s.room :: U s.floor :: (s.least.map U ++ s.more.map U)
abbrev Shelf.av (s : Shelf) : AV := .agg s.cells

theorem shelf_len {s : Shelf} (h : s.ok) : s.cells.length = 27 := by
  obtain ⟨_, _, _, h1, h2, _⟩ := h
  simp [Shelf.cells, h1, h2]
theorem shelf_take {s : Shelf} (h : s.ok) : s.cells.take 27 = s.cells := List.take_of_length_le (by rw [shelf_len h]; omega)
theorem shelf_storable (s : Shelf) : s.cells.all storable = true := by
  simp [Shelf.cells, storable_int]
theorem pubs_append : ∀ (a b : List AV), pubs (a ++ b) = pubs a ++ pubs b
  | [], _ => rfl
  | x :: r, b => by simp only [List.cons_append, pubs, pubs_append r b]
theorem pubs_shelf (s : Shelf) : pubs s.cells = s.cells := by
  simp only [Shelf.cells, pubs, pub, pubs_append]
  rw [pubs_map U (fun _ => rfl), pubs_map U (fun _ => rfl)]
theorem okRefs_append (n : Nat) : ∀ (a b : List AV), okRefs n (a ++ b) = (okRefs n a && okRefs n b)
  | [], _ => by simp [okRefs]
  | x :: r, b => by simp only [List.cons_append, okRefs, okRefs_append n r b, Bool.and_assoc]
theorem okRefs_shelf (n : Nat) (s : Shelf) : okRefs n s.cells = true := by
  simp only [Shelf.cells, okRefs, okRef, okRefs_append, okRefs_map U n (fun _ => rfl)]; rfl
theorem renCells_append (n : Nat) (tips : List Nat) : ∀ (a b : List AV) acc, renCells n tips acc (a ++ b) = ((renCells n tips acc a).1 ++ (renCells n tips (renCells n tips acc a).2 b).1, (renCells n tips (renCells n tips acc a).2 b).2)
  | [], _, _ => rfl
  | x :: r, b, acc => by simp only [List.cons_append, renCells, renCells_append n tips r b]
theorem renCells_shelf (n : Nat) (tips : List Nat) (acc : List (Nat × Nat)) (s : Shelf) : renCells n tips acc s.cells = (s.cells, acc) := by
  simp only [Shelf.cells, renCells, ren1, renCells_append, renCells_map U n tips (fun _ _ => rfl)]
theorem shelf_0 (s : Shelf) : s.cells[0]? = some (U s.many) := rfl
theorem shelf_1 (s : Shelf) : s.cells[1]? = some (U s.room) := rfl
theorem shelf_2 (s : Shelf) : s.cells[2]? = some (U s.floor) := rfl
theorem shelf_least {s : Shelf} (h : s.ok) (i : Nat) (hi : i < 12) : s.cells[3 + i]? = some (U (s.least.getD i 0)) := by
  obtain ⟨_, _, _, h1, h2, _⟩ := h
  rw [show 3 + i = i + 1 + 1 + 1 by omega]
  simp only [Shelf.cells, List.getElem?_cons_succ]
  rw [List.getElem?_append_left (by simp; omega)]
  simp [List.getD_eq_getElem?_getD, List.getElem?_eq_getElem (show i < s.least.length by omega)]
theorem shelf_more {s : Shelf} (h : s.ok) (i : Nat) (hi : i < 12) : s.cells[15 + i]? = some (U (s.more.getD i 0)) := by
  obtain ⟨_, _, _, h1, h2, _⟩ := h
  rw [show 15 + i = (12 + i) + 1 + 1 + 1 by omega]
  simp only [Shelf.cells, List.getElem?_cons_succ]
  rw [List.getElem?_append_right (by simp; omega)]
  simp [h1, List.getD_eq_getElem?_getD, List.getElem?_eq_getElem (show i < s.more.length by omega)]
theorem byte_getD {l : List Int} (h : ∀ n ∈ l, Byte n) (i : Nat) : Byte (l.getD i 0) := by
  rw [List.getD_eq_getElem?_getD]
  by_cases hi : i < l.length
  · rw [List.getElem?_eq_getElem hi]; exact h _ (List.getElem_mem hi)
  · rw [List.getElem?_eq_none (by omega)]; exact ⟨by simp, by simp⟩

/-- An article out of two numbers. -/
def artOf (lines l m : Int) : Int × Int := (1 + l % lines, 1 + l % lines + m % (lines - (1 + l % lines) + 1))
def Shelf.arts (s : Shelf) (lines : Int) (n : Nat) : List (Int × Int) := (List.range n).map fun i => artOf lines (s.least.getD i 0) (s.more.getD i 0)
def longest (l : List (Int × Int)) : Int := l.foldl (fun n a => max n a.2) 1
theorem arts_succ (s : Shelf) (lines : Int) (n : Nat) : s.arts lines (n + 1) = s.arts lines n ++ [artOf lines (s.least.getD n 0) (s.more.getD n 0)] := by
  simp [Shelf.arts, List.range_succ]
theorem arts_len (s : Shelf) (lines : Int) (n : Nat) : (s.arts lines n).length = n := by simp [Shelf.arts]
theorem longest_snoc (l : List (Int × Int)) (a : Int × Int) : longest (l ++ [a]) = max (longest l) a.2 := by simp [longest]
theorem mod_range (a b : Int) (hb : 0 < b) : 0 ≤ a % b ∧ a % b < b := ⟨Int.emod_nonneg a (by omega), Int.emod_lt_of_pos a hb⟩
theorem artOf_ok {lines : Int} (hl : 0 < lines) (l m : Int) : 1 ≤ (artOf lines l m).1 ∧ (artOf lines l m).1 ≤ (artOf lines l m).2 ∧ (artOf lines l m).2 ≤ lines := by
  have h1 := mod_range l lines hl
  have h2 := mod_range m (lines - (1 + l % lines) + 1) (by omega)
  simp only [artOf]; omega
theorem arts_ok (s : Shelf) {lines : Int} (hl : 0 < lines) (n : Nat) : ∀ a ∈ s.arts lines n, 1 ≤ a.1 ∧ a.1 ≤ a.2 ∧ a.2 ≤ lines := by
  intro a ha
  simp only [Shelf.arts, List.mem_map] at ha
  obtain ⟨i, _, rfl⟩ := ha
  exact artOf_ok hl _ _
theorem longest_ok : ∀ (l : List (Int × Int)) (n : Int), 1 ≤ n → (∀ a ∈ l, a.2 ≤ n) → 1 ≤ longest l ∧ longest l ≤ n ∧ ∀ a ∈ l, a.2 ≤ longest l := by
  have key : ∀ (l : List (Int × Int)) (b n : Int), b ≤ n → (∀ a ∈ l, a.2 ≤ n) → b ≤ l.foldl (fun n a => max n a.2) b ∧ l.foldl (fun n a => max n a.2) b ≤ n ∧ ∀ a ∈ l, a.2 ≤ l.foldl (fun n a => max n a.2) b := by
    intro l
    induction l with
    | nil => intro b n hb _; simp; exact hb
    | cons a r ih =>
      intro b n hb ha
      have h1 := ha a (by simp)
      obtain ⟨h2, h3, h4⟩ := ih (max b a.2) n (by omega) (fun x hx => ha x (by simp [hx]))
      simp only [List.foldl_cons]
      refine ⟨by omega, h3, fun x hx => ?_⟩
      rcases List.mem_cons.1 hx with rfl | hx
      · omega
      · exact h4 x hx
  intro l n h1 h2
  exact key l 1 n h1 h2

theorem loop45 (s0 : Shelf) (hs0 : s0.ok) (lines : Int) (hl : 1 ≤ lines) (hl2 : lines ≤ 30) (cnt : Nat) (hcnt : cnt ≤ 12) (i : Nat) (hok : i ≤ cnt) (env : Env) (st : St)
    (hg : gcAV true 3 0 (canon env [2, 3, 6, 7, 8, 17, 18]) st = ([(2, I lines), (3, .ptr 0 0), (6, .ptr 1 0), (7, .ptr 2 0), (8, I (longest (s0.arts lines i))), (17, I cnt), (18, I i)], ⟨[s0.cells, [.v (.slice none 0 0), I 0, I 0], [loc 2 0 ((s0.arts lines i).map artAV), I 0, I 0]], locT 0 ((s0.arts lines i).map artAV)⟩)) :
    ∃ x_1 en s, lim (headed pure (run L) true [2, 3, 6, 7, 8, 17, 18] lp45_0 3 0) env st = some (x_1, en, s) ∧ (x_1 = .exit 0 ∧ en.get 2 = I lines ∧ en.get 3 = .ptr 0 0 ∧ en.get 6 = .ptr 1 0 ∧ en.get 7 = .ptr 2 0 ∧ en.get 8 = I (longest (s0.arts lines cnt)) ∧ s.store = [s0.cells, [.v (.slice none 0 0), I 0, I 0], [loc 2 0 ((s0.arts lines cnt).map artAV), I 0, I 0]]) := by
  refine loop_wp (α := Nat) (fun i => cnt - i) (fun i => i ≤ cnt) (fun i => ([(2, I lines), (3, .ptr 0 0), (6, .ptr 1 0), (7, .ptr 2 0), (8, I (longest (s0.arts lines i))), (17, I cnt), (18, I i)], ⟨[s0.cells, [.v (.slice none 0 0), I 0, I 0], [loc 2 0 ((s0.arts lines i).map artAV), I 0, I 0]], locT 0 ((s0.arts lines i).map artAV)⟩)) (fun i x_1 en s => x_1 = .exit 0 ∧ en.get 2 = I lines ∧ en.get 3 = .ptr 0 0 ∧ en.get 6 = .ptr 1 0 ∧ en.get 7 = .ptr 2 0 ∧ en.get 8 = I (longest (s0.arts lines cnt)) ∧ s.store = [s0.cells, [.v (.slice none 0 0), I 0, I 0], [loc 2 0 ((s0.arts lines cnt).map artAV), I 0, I 0]]) (fun i hok => ?_) i hok env st hg
  by_cases q : (i : Int) < (cnt : Int)
  · have hs := succ64 i (by omega)
    have x0 : (0 ≤ (i : Int)) = True := eq_true (by omega)
    have x1 : ((i : Int) < 12) = True := eq_true (by omega)
    have hL := shelf_least hs0 i (by omega)
    have hM := shelf_more hs0 i (by omega)
    have bL := byte_getD hs0.2.2.2.2.2.1 i
    have bM := byte_getD hs0.2.2.2.2.2.2 i
    have hsucc := arts_succ s0 lines i
    have hlen := arts_len s0 lines i
    have hlo := longest_ok (s0.arts lines i) lines hl (fun a ha => (arts_ok s0 (by omega) i a ha).2.2)
    have hao := artOf_ok (show 0 < lines by omega) (s0.least.getD i 0) (s0.more.getD i 0)
    have hlg : longest (s0.arts lines (i + 1)) = max (longest (s0.arts lines i)) (artOf lines (s0.least.getD i 0) (s0.more.getD i 0)).2 := by rw [hsucc, longest_snoc]
    have happ := append_locm (z := 2) (k := 0) artAV (s0.arts lines i) (artOf lines (s0.least.getD i 0) (s0.more.getD i 0)) [s0.cells, [.v (.slice none 0 0), I 0, I 0], [loc 2 0 ((s0.arts lines i).map artAV), I 0, I 0], [I (artOf lines (s0.least.getD i 0) (s0.more.getD i 0)).1, I (artOf lines (s0.least.getD i 0) (s0.more.getD i 0)).2]] (by omega) (by rw [hlen]; simp [maxGrow]; omega)
    rw [← hsucc] at happ
    generalize hl0 : s0.least.getD i 0 = l at *
    generalize hm0 : s0.more.getD i 0 = m at *
    unfold Byte at bL bM
    have r1 := mod_range l lines (by omega)
    have r2 := mod_range m (lines - (1 + l % lines) + 1) (by omega)
    have w1 := wrap64 l (by omega) (by omega)
    have w2 := wrap64 m (by omega) (by omega)
    have t1 : l.tmod lines = l % lines := Int.tmod_eq_emod_of_nonneg (by omega)
    have w3 := wrap64 (1 + l % lines) (by omega) (by omega)
    have w4 := wrap64 (lines - (1 + l % lines)) (by omega) (by omega)
    have w5 := wrap64 (lines - (1 + l % lines) + 1) (by omega) (by omega)
    have t2 : m.tmod (lines - (1 + l % lines) + 1) = m % (lines - (1 + l % lines) + 1) := Int.tmod_eq_emod_of_nonneg (by omega)
    have w6 := wrap64 (1 + l % lines + m % (lines - (1 + l % lines) + 1)) (by omega) (by omega)
    have z1 : (lines = 0) = False := eq_false (by omega)
    have z2 : (lines - (1 + l % lines) + 1 = 0) = False := eq_false (by omega)
    simp only [artOf] at happ hlg
    simp only [go_sem, reduceIte, Nat.reduceEqDiff, Nat.reduceAdd, Nat.reduceSub, Nat.reduceLeDiff, Nat.reduceLT, reduceCtorEq, Int.reduceLT, Int.reduceLE, Int.reduceEq, Int.reduceBEq, Int.reduceSub, Int.reduceAdd, Int.reduceMul, Int.reduceNeg, Int.reduceToNat, Nat.reduceMul, Nat.reduceBEq, index_rsl_if, setm, make_ints, condK_dec, wantK_dec, not_dec, and_dec, or_dec, seqK_ite, seqK_none, blockK_ite, blockK_none, opsK_ite, opsK_none, stepK_ite, stepK_none, bodyK_ite, bodyK_none, resK_ite, resK_none, leaveK_ite, leaveK_none, only_ite, only_none, bind_ite, gives_some, gives_none, gives_ite, then_normal, then_ret, then_exit, then_none, then_ite, Option.bind_none, Bool.not_eq_true', decide_eq_false_iff_not, Bool.and_eq_true, Bool.or_eq_true, Option.some.injEq, Int.not_lt, Int.not_le, lp45_0, q, hs, x0, x1, hL, hM, w1, w2, w3, w4, w5, w6, t1, t2, z1, z2, happ]
    refine ⟨i + 1, by simp only [go_sem, reduceIte, Nat.reduceEqDiff, Nat.reduceAdd, Nat.reduceSub, Nat.reduceLeDiff, Nat.reduceLT, reduceCtorEq, Int.reduceLT, Int.reduceLE, Int.reduceEq, Int.reduceBEq, Int.reduceSub, Int.reduceAdd, Int.reduceMul, Int.reduceNeg, Int.reduceToNat, Nat.reduceMul, Nat.reduceBEq, ren1_locm, loc_tips, locT_eq, hlg, okRefs_shelf, renCells_shelf] <;> rfl, ?_, ?_, fun x en s hq => ?_⟩
    · omega
    · omega
    · exact hq
  · obtain rfl : i = cnt := by omega
    simp only [go_sem, reduceIte, Nat.reduceEqDiff, Nat.reduceAdd, Nat.reduceSub, Nat.reduceLeDiff, Nat.reduceLT, reduceCtorEq, Int.reduceLT, Int.reduceLE, Int.reduceEq, Int.reduceBEq, Int.reduceSub, Int.reduceAdd, Int.reduceMul, Int.reduceNeg, Int.reduceToNat, Nat.reduceMul, Nat.reduceBEq, index_rsl_if, setm, make_ints, condK_dec, wantK_dec, not_dec, and_dec, or_dec, seqK_ite, seqK_none, blockK_ite, blockK_none, opsK_ite, opsK_none, stepK_ite, stepK_none, bodyK_ite, bodyK_none, resK_ite, resK_none, leaveK_ite, leaveK_none, only_ite, only_none, bind_ite, gives_some, gives_none, gives_ite, then_normal, then_ret, then_exit, then_none, then_ite, Option.bind_none, Bool.not_eq_true', decide_eq_false_iff_not, Bool.and_eq_true, Bool.or_eq_true, Option.some.injEq, Int.not_lt, Int.not_le, lp45_0, q]

def madeN (s : Shelf) (many : Int) : Nat := (1 + s.many % many).toNat
def madeArts (s : Shelf) (many lines : Int) : List (Int × Int) := s.arts lines (madeN s many)
def madeRoom (s : Shelf) (many lines : Int) : Int := min 100 (longest (madeArts s many lines) + s.room % (3 * lines))
def madeFloor (s : Shelf) (many lines : Int) : Int := s.floor % (madeRoom s many lines + 1)

/-- What is known of a book that is made. -/
theorem made_ok {s : Shelf} {many lines : Int} (hm : 1 ≤ many) (hm2 : many ≤ 12) (hl : 1 ≤ lines) (hl2 : lines ≤ 30) :
    1 ≤ (madeArts s many lines).length ∧ ((madeArts s many lines).length : Int) ≤ many ∧ (∀ a ∈ madeArts s many lines, 1 ≤ a.1 ∧ a.1 ≤ a.2 ∧ a.2 ≤ lines ∧ a.2 ≤ madeRoom s many lines) ∧
    1 ≤ madeRoom s many lines ∧ madeRoom s many lines ≤ 100 ∧ 0 ≤ madeFloor s many lines ∧ madeFloor s many lines ≤ madeRoom s many lines := by
  have h1 := mod_range s.many many (by omega)
  have h2 := arts_ok s (show 0 < lines by omega) (madeN s many)
  have h3 := longest_ok (s.arts lines (madeN s many)) lines hl (fun a ha => (h2 a ha).2.2)
  have h4 := mod_range s.room (3 * lines) (by omega)
  have hr : madeRoom s many lines = min 100 (longest (s.arts lines (madeN s many)) + s.room % (3 * lines)) := rfl
  have h5 := mod_range s.floor (madeRoom s many lines + 1) (by omega)
  have hf : madeFloor s many lines = s.floor % (madeRoom s many lines + 1) := rfl
  have hn : (madeArts s many lines).length = madeN s many := arts_len _ _ _
  refine ⟨by rw [hn]; unfold madeN; omega, by rw [hn]; unfold madeN; omega, fun a ha => ?_, by omega, by omega, by omega, by omega⟩
  have q1 := h2 a ha
  have q2 := h3.2.2 a ha
  omega
theorem made_check {s : Shelf} {many lines : Int} (hm : 1 ≤ many) (hm2 : many ≤ 12) (hl : 1 ≤ lines) (hl2 : lines ≤ 30) : check (madeArts s many lines) (madeRoom s many lines) (madeFloor s many lines) = 0 := by
  obtain ⟨h1, h2, h3, h4, h5, h6, h7⟩ := made_ok (s := s) hm hm2 hl hl2
  have ha : ∀ l : List (Int × Int), (∀ a ∈ l, 1 ≤ a.1 ∧ a.1 ≤ a.2 ∧ a.2 ≤ 30) → artsErr l = 0 := by
    intro l
    induction l with
    | nil => intro _; rfl
    | cons a r ih =>
      intro h
      have := h a (by simp)
      simp only [artsErr]
      rw [if_pos (by unfold artErr; rw [if_neg (by omega), if_neg (by omega)])]
      exact ih fun x hx => h x (by simp [hx])
  unfold check
  rw [if_neg (by omega), if_neg (by omega), if_pos (ha _ fun a h => by have := h3 a h; omega), if_neg (by omega)]

theorem c45 (s0 : Shelf) (hs : s0.ok) (many lines : Int) (hm : 1 ≤ many) (hm2 : many ≤ 12) (hl : 1 ≤ lines) (hl2 : lines ≤ 30) (st : St) :
    run L 45 [s0.av, I many, I lines] st = some (bookAV true (madeArts s0 many lines) (madeRoom s0 many lines) (madeFloor s0 many lines), st) := by
  rw [run_pure (fn := ir45) rfl rfl]
  have hs' := hs
  obtain ⟨b1, b2, b3, _⟩ := hs'
  unfold Byte at b1 b2 b3
  have m1 := mod_range s0.many many (by omega)
  have w1 := wrap64 s0.many (by omega) (by omega)
  have t1 : s0.many.tmod many = s0.many % many := Int.tmod_eq_emod_of_nonneg (by omega)
  have w2 := wrap64 (1 + s0.many % many) (by omega) (by omega)
  have z1 : (many = 0) = False := eq_false (by omega)
  have e1 : 1 + s0.many % many = ((madeN s0 many : Nat) : Int) := by unfold madeN; omega
  rw [e1] at w2
  obtain ⟨k1, k2, k3, k4, k5, k6, k7⟩ := made_ok (s := s0) hm hm2 hl hl2
  have hlg := longest_ok (s0.arts lines (madeN s0 many)) lines hl (fun a ha => (arts_ok s0 (by omega) _ a ha).2.2)
  have w3 := wrap64 s0.room (by omega) (by omega)
  have w4 := wrap64 (3 * lines) (by omega) (by omega)
  have m2 := mod_range s0.room (3 * lines) (by omega)
  have t2 : s0.room.tmod (3 * lines) = s0.room % (3 * lines) := Int.tmod_eq_emod_of_nonneg (by omega)
  have z2 : (3 * lines = 0) = False := eq_false (by omega)
  have w5 := wrap64 (longest (s0.arts lines (madeN s0 many)) + s0.room % (3 * lines)) (by omega) (by omega)
  have e2 : min 100 (longest (s0.arts lines (madeN s0 many)) + s0.room % (3 * lines)) = madeRoom s0 many lines := rfl
  have w6 := wrap64 s0.floor (by omega) (by omega)
  have w7 := wrap64 (madeRoom s0 many lines + 1) (by omega) (by omega)
  have t3 : s0.floor.tmod (madeRoom s0 many lines + 1) = s0.floor % (madeRoom s0 many lines + 1) := Int.tmod_eq_emod_of_nonneg (by omega)
  have z3 : (madeRoom s0 many lines + 1 = 0) = False := eq_false (by omega)
  have e3 : s0.floor % (madeRoom s0 many lines + 1) = madeFloor s0 many lines := rfl
  simp only [ir45, go_sem, reduceIte, Nat.reduceEqDiff, Nat.reduceAdd, Nat.reduceSub, Nat.reduceLeDiff, Nat.reduceLT, reduceCtorEq, Int.reduceLT, Int.reduceLE, Int.reduceEq, Int.reduceBEq, Int.reduceSub, Int.reduceAdd, Int.reduceMul, Int.reduceNeg, Int.reduceToNat, Nat.reduceMul, Nat.reduceBEq, pubs_shelf, shelf_storable, shelf_0, w1, t1, w2, z1, e1]
  generalize hg : lim (headed pure (run L) true _ lp45_0 _ _) _ _ = o
  obtain ⟨x, en, s, rfl, h2⟩ : ∃ x en s, o = some (x, en, s) ∧ _ := by rw [← hg]; exact loop45 s0 hs lines hl hl2 (madeN s0 many) (by unfold madeN; omega) 0 (Nat.zero_le _) _ _ (by simp only [go_sem, reduceIte, Nat.reduceEqDiff, Nat.reduceAdd, Nat.reduceSub, Nat.reduceLeDiff, Nat.reduceLT, reduceCtorEq, Int.reduceLT, Int.reduceLE, Int.reduceEq, Int.reduceBEq, Int.reduceSub, Int.reduceAdd, Int.reduceMul, Int.reduceNeg, Int.reduceToNat, Nat.reduceMul, Nat.reduceBEq, okRefs_shelf, renCells_shelf, Shelf.arts, List.range_zero, List.map_nil, loc_start, locT, longest, List.foldl_nil] <;> rfl)
  clear hg
  obtain ⟨rfl, h3, h4, h5, h6, h7, h8⟩ := h2
  obtain ⟨s1, s2⟩ := s
  simp only at h8
  subst h8
  simp only [go_sem, reduceIte, Nat.reduceEqDiff, Nat.reduceAdd, Nat.reduceSub, Nat.reduceLeDiff, Nat.reduceLT, reduceCtorEq, Int.reduceLT, Int.reduceLE, Int.reduceEq, Int.reduceBEq, Int.reduceSub, Int.reduceAdd, Int.reduceMul, Int.reduceNeg, Int.reduceToNat, Nat.reduceMul, Nat.reduceBEq, h3, h4, h5, h6, h7, shelf_1, shelf_2, w3, w4, t2, z2, w5, e2, w6, w7, t3, z3, e3]
  rfl
end Go.Proofs.Ytiifibgadipalaa.Vm

namespace Go.Proofs.Ytiifibgadipalaa.Vm
open Go Go.Ev
set_option maxRecDepth 100000
attribute [local go_sem] cells_any storable_any ren1_any shaped_ptr cells_ptr storable_ptr ren1_ptr shaped_eptr cells_eptr storable_eptr ren1_eptr shaped_rsl cells_rsl storable_rsl ren1_rsl shaped_int cells_int storable_int ren1_int shaped_bool cells_bool storable_bool ren1_bool shaped_nils cells_nils storable_nils ren1_nils shaped_lst cells_lst storable_lst shaped_fn cells_fn storable_fn ren1_fn shaped_ifc cells_ifc storable_ifc ren1_ifc shaped_agg cells_agg storable_agg ren1_agg shaped_tup cells_tup storable_tup ren1_tup shaped_nif cells_nif storable_nif ren1_nif ren1_lany ren1_lfull ren1_lown len_lst len_rsl len_nil load_ptr load_eptr isRsl_lst isRsl_nil isRsl_rsl elems_nil elems_lst elems_sl isRsl_sl body_eq bodyK_normal bodyK_ret resK_some leaveK_some only_some code_skip code_exit code_ret code_ops code_seq code_cond code_block seqK_normal seqK_ret seqK_exit condK_true condK_false blockK_normal blockK_ret blockK_exit opsK_some ops_nil ops_cons wantK_true wantK_false stepK_some pubs pub pub_sl params okRef_loc storable_loc shaped_loc cells_loc isRsl_loc elems_loc len_loc untips untip untip_sl wantedAV setElems withO isAgg_v isAgg_agg isAgg_lst isAgg_ptr isAgg_fn isAgg_ifc isAgg_rsl isAgg_sl isAgg_loc List.replicate_succ List.replicate_zero opAV valAV aval avals ofVal Env.get setD canon gcAV renAll renEnv renStore renCells ren1_sl cutSt okEnv okStore okRefs okRef okRef_sl bin_int bin_bool bin_lst bin_rsl bin_nil bin_agg cellsEq cellEq isShift intOp boolOp min_int max_int beq_int bne resAV tupAV leave_eq fin_sl fin_loc fins fin_v fin_lst fin_agg fin_tup fin_fn storeAV readCells putCells cells_sl shaped_sl storable_sl fieldAddrAV len_sl goI List.getElem?_cons_zero List.getElem?_cons_succ List.getElem?_nil Option.bind_some Option.map_some List.length_cons List.length_nil List.all_cons List.all_nil Bool.and_true Bool.true_and Bool.and_false Bool.false_and and_true true_and and_false false_and Bool.false_eq_true List.set_cons_zero List.set_cons_succ List.append_nil List.nil_append List.cons_append List.take_zero List.take_succ_cons List.take_nil List.drop_zero List.drop_succ_cons List.map_cons List.map_nil decide_true decide_false beq_self_eq_true Bool.not_true Bool.not_false or_true true_or or_false false_or Nat.zero_add Nat.add_zero Nat.le_refl Nat.lt_irrefl decide_eq_true_eq eq_self_iff_true not_true_eq_false not_false_eq_true List.getD_cons_zero code_loop Nat.zero_le Nat.not_lt_zero Bool.true_beq Bool.false_beq beq_true beq_false ge_iff_le gt_iff_lt Lpure pus Option.map_none assert_ifc assert_nil idxA_ptr idxA_eptr idxV_agg Int.cast_ofNat_Int Nat.mul_one Nat.zero_mul Int.toNat_natCast Int.toNat_zero setParts withO2 eqnil_sl nenil_sl eqnil_loc nenil_loc map_nil_iff okRefs_ints renCells_ints

theorem slice_arts (nl : Bool) (arts : List (Int × Int)) (b e : Int) (h : arts ≠ []) (h0 : 0 ≤ b) (h1 : b ≤ e) (h2 : e ≤ arts.length) :
    sliceAV 2 (sl 2 nl (arts.map artAV)) (some (.v (.int .i64 b))) (some (.v (.int .i64 e))) none = some (sl 2 false (((arts.take e.toNat).drop b.toNat).map artAV)) := by
  rw [sl_ne (by simpa using h)]
  have q1 : natOr 0 (some (.v (.int .i64 b))) = some b.toNat := by simp [natOr, natOf, h0]
  have q2 : natOr (arts.map artAV).length (some (.v (.int .i64 e))) = some e.toNat := by simp [natOr, natOf]; omega
  simp only [sliceAV, if_true, q1, q2]
  rw [if_pos (by simp; omega)]
  simp [tagSlice, sl, List.map_take, List.map_drop]

theorem loop50 (nl : Bool) (arts : List (Int × Int)) (room floor : Int) (xs : List (Int × Int)) (hx0 : xs.length ≤ 12) (hxs : ∀ a ∈ xs, 0 ≤ a.2 ∧ a.2 ≤ 100) (i : Nat) (hok : i ≤ xs.length) (env : Env) (st : St)
    (hg : gcAV true 1 0 (canon env [7, 14, 15, 16]) st = ([(7, I ((xs.take i).map (·.2)).sum), (14, sl 2 false (xs.map artAV)), (15, I xs.length), (16, I i)], ⟨[bookCells nl arts room floor], []⟩)) :
    ∃ x_1 en s, lim (headed pure (run L) true [7, 14, 15, 16] lp50_0 1 0) env st = some (x_1, en, s) ∧ (x_1 = .exit 0 ∧ en.get 7 = I (xs.map (·.2)).sum) := by
  refine loop_wp (α := Nat) (fun i => xs.length - i) (fun i => i ≤ xs.length) (fun i => ([(7, I ((xs.take i).map (·.2)).sum), (14, sl 2 false (xs.map artAV)), (15, I xs.length), (16, I i)], ⟨[bookCells nl arts room floor], []⟩)) (fun i x_1 en s => x_1 = .exit 0 ∧ en.get 7 = I (xs.map (·.2)).sum) (fun i hok => ?_) i hok env st hg
  by_cases q : (i : Int) < (xs.length : Int)
  · have hx := index_arts false xs i (by omega)
    have hs := succ64 i (by omega)
    have htk : xs.take (i + 1) = xs.take i ++ [xs[i]'(by omega)] := (List.take_append_getElem (by omega)).symm
    have hsum : ((xs.take (i + 1)).map (·.2)).sum = ((xs.take i).map (·.2)).sum + (xs[i]'(by omega)).2 := by rw [htk]; simp only [List.map_append, List.map_cons, List.map_nil, List.sum_append, List.sum_cons, List.sum_nil]; omega
    have hb : ∀ l : List (Int × Int), (∀ a ∈ l, 0 ≤ a.2 ∧ a.2 ≤ 100) → 0 ≤ (l.map (·.2)).sum ∧ (l.map (·.2)).sum ≤ 100 * l.length := by
      intro l
      induction l with
      | nil => intro _; simp
      | cons a r ih =>
        intro h
        have h1 := h a (by simp)
        have h2 := ih fun x hx => h x (by simp [hx])
        simp only [List.map_cons, List.sum_cons, List.length_cons]; omega
    have hb1 := hb (xs.take i) (fun a ha => hxs a (List.mem_of_mem_take ha))
    have hb2 := hxs _ (List.getElem_mem (show i < xs.length by omega))
    have hl : (xs.take i).length ≤ 12 := by simp; omega
    have w := wrap64 (((xs.take i).map (·.2)).sum + (xs[i]'(by omega)).2) (by omega) (by omega)
    simp only [go_sem, reduceIte, Nat.reduceEqDiff, Nat.reduceAdd, Nat.reduceSub, Nat.reduceLeDiff, Nat.reduceLT, reduceCtorEq, Int.reduceLT, Int.reduceLE, Int.reduceEq, Int.reduceBEq, Int.reduceSub, Int.reduceAdd, Int.reduceMul, Int.reduceNeg, Int.reduceToNat, Nat.reduceMul, Nat.reduceBEq, index_rsl_if, setm, make_ints, condK_dec, wantK_dec, not_dec, and_dec, or_dec, seqK_ite, seqK_none, blockK_ite, blockK_none, opsK_ite, opsK_none, stepK_ite, stepK_none, bodyK_ite, bodyK_none, resK_ite, resK_none, leaveK_ite, leaveK_none, only_ite, only_none, bind_ite, gives_some, gives_none, gives_ite, then_normal, then_ret, then_exit, then_none, then_ite, Option.bind_none, Bool.not_eq_true', decide_eq_false_iff_not, Bool.and_eq_true, Bool.or_eq_true, Option.some.injEq, Int.not_lt, Int.not_le, lp50_0, q, hx, hs, w]
    refine ⟨i + 1, by simp only [go_sem, reduceIte, Nat.reduceEqDiff, Nat.reduceAdd, Nat.reduceSub, Nat.reduceLeDiff, Nat.reduceLT, reduceCtorEq, Int.reduceLT, Int.reduceLE, Int.reduceEq, Int.reduceBEq, Int.reduceSub, Int.reduceAdd, Int.reduceMul, Int.reduceNeg, Int.reduceToNat, Nat.reduceMul, Nat.reduceBEq, ren1_locm, loc_tips, locT_eq, hsum] <;> rfl, ?_, ?_, fun x en s hq => ?_⟩
    · omega
    · omega
    · exact hq
  · have htk : xs.take i = xs := List.take_of_length_le (by omega)
    simp only [go_sem, reduceIte, Nat.reduceEqDiff, Nat.reduceAdd, Nat.reduceSub, Nat.reduceLeDiff, Nat.reduceLT, reduceCtorEq, Int.reduceLT, Int.reduceLE, Int.reduceEq, Int.reduceBEq, Int.reduceSub, Int.reduceAdd, Int.reduceMul, Int.reduceNeg, Int.reduceToNat, Nat.reduceMul, Nat.reduceBEq, index_rsl_if, setm, make_ints, condK_dec, wantK_dec, not_dec, and_dec, or_dec, seqK_ite, seqK_none, blockK_ite, blockK_none, opsK_ite, opsK_none, stepK_ite, stepK_none, bodyK_ite, bodyK_none, resK_ite, resK_none, leaveK_ite, leaveK_none, only_ite, only_none, bind_ite, gives_some, gives_none, gives_ite, then_normal, then_ret, then_exit, then_none, then_ite, Option.bind_none, Bool.not_eq_true', decide_eq_false_iff_not, Bool.and_eq_true, Bool.or_eq_true, Option.some.injEq, Int.not_lt, Int.not_le, lp50_0, q, htk]

theorem loop89 (nl : Bool) (arts : List (Int × Int)) (room floor : Int) (xs : List (Int × Int)) (hx0 : xs.length ≤ 12) (hxs : ∀ a ∈ xs, 0 ≤ a.1 ∧ a.1 ≤ 100) (i : Nat) (hok : i ≤ xs.length) (env : Env) (st : St)
    (hg : gcAV true 1 0 (canon env [7, 14, 15, 16]) st = ([(7, I ((xs.take i).map (·.1)).sum), (14, sl 2 false (xs.map artAV)), (15, I xs.length), (16, I i)], ⟨[bookCells nl arts room floor], []⟩)) :
    ∃ x_1 en s, lim (headed pure (run L) true [7, 14, 15, 16] lp89_0 1 0) env st = some (x_1, en, s) ∧ (x_1 = .exit 0 ∧ en.get 7 = I (xs.map (·.1)).sum) := by
  refine loop_wp (α := Nat) (fun i => xs.length - i) (fun i => i ≤ xs.length) (fun i => ([(7, I ((xs.take i).map (·.1)).sum), (14, sl 2 false (xs.map artAV)), (15, I xs.length), (16, I i)], ⟨[bookCells nl arts room floor], []⟩)) (fun i x_1 en s => x_1 = .exit 0 ∧ en.get 7 = I (xs.map (·.1)).sum) (fun i hok => ?_) i hok env st hg
  by_cases q : (i : Int) < (xs.length : Int)
  · have hx := index_arts false xs i (by omega)
    have hs := succ64 i (by omega)
    have htk : xs.take (i + 1) = xs.take i ++ [xs[i]'(by omega)] := (List.take_append_getElem (by omega)).symm
    have hsum : ((xs.take (i + 1)).map (·.1)).sum = ((xs.take i).map (·.1)).sum + (xs[i]'(by omega)).1 := by rw [htk]; simp only [List.map_append, List.map_cons, List.map_nil, List.sum_append, List.sum_cons, List.sum_nil]; omega
    have hb : ∀ l : List (Int × Int), (∀ a ∈ l, 0 ≤ a.1 ∧ a.1 ≤ 100) → 0 ≤ (l.map (·.1)).sum ∧ (l.map (·.1)).sum ≤ 100 * l.length := by
      intro l
      induction l with
      | nil => intro _; simp
      | cons a r ih =>
        intro h
        have h1 := h a (by simp)
        have h2 := ih fun x hx => h x (by simp [hx])
        simp only [List.map_cons, List.sum_cons, List.length_cons]; omega
    have hb1 := hb (xs.take i) (fun a ha => hxs a (List.mem_of_mem_take ha))
    have hb2 := hxs _ (List.getElem_mem (show i < xs.length by omega))
    have hl : (xs.take i).length ≤ 12 := by simp; omega
    have w := wrap64 (((xs.take i).map (·.1)).sum + (xs[i]'(by omega)).1) (by omega) (by omega)
    simp only [go_sem, reduceIte, Nat.reduceEqDiff, Nat.reduceAdd, Nat.reduceSub, Nat.reduceLeDiff, Nat.reduceLT, reduceCtorEq, Int.reduceLT, Int.reduceLE, Int.reduceEq, Int.reduceBEq, Int.reduceSub, Int.reduceAdd, Int.reduceMul, Int.reduceNeg, Int.reduceToNat, Nat.reduceMul, Nat.reduceBEq, index_rsl_if, setm, make_ints, condK_dec, wantK_dec, not_dec, and_dec, or_dec, seqK_ite, seqK_none, blockK_ite, blockK_none, opsK_ite, opsK_none, stepK_ite, stepK_none, bodyK_ite, bodyK_none, resK_ite, resK_none, leaveK_ite, leaveK_none, only_ite, only_none, bind_ite, gives_some, gives_none, gives_ite, then_normal, then_ret, then_exit, then_none, then_ite, Option.bind_none, Bool.not_eq_true', decide_eq_false_iff_not, Bool.and_eq_true, Bool.or_eq_true, Option.some.injEq, Int.not_lt, Int.not_le, lp89_0, q, hx, hs, w]
    refine ⟨i + 1, by simp only [go_sem, reduceIte, Nat.reduceEqDiff, Nat.reduceAdd, Nat.reduceSub, Nat.reduceLeDiff, Nat.reduceLT, reduceCtorEq, Int.reduceLT, Int.reduceLE, Int.reduceEq, Int.reduceBEq, Int.reduceSub, Int.reduceAdd, Int.reduceMul, Int.reduceNeg, Int.reduceToNat, Nat.reduceMul, Nat.reduceBEq, ren1_locm, loc_tips, locT_eq, hsum] <;> rfl, ?_, ?_, fun x en s hq => ?_⟩
    · omega
    · omega
    · exact hq
  · have htk : xs.take i = xs := List.take_of_length_le (by omega)
    simp only [go_sem, reduceIte, Nat.reduceEqDiff, Nat.reduceAdd, Nat.reduceSub, Nat.reduceLeDiff, Nat.reduceLT, reduceCtorEq, Int.reduceLT, Int.reduceLE, Int.reduceEq, Int.reduceBEq, Int.reduceSub, Int.reduceAdd, Int.reduceMul, Int.reduceNeg, Int.reduceToNat, Nat.reduceMul, Nat.reduceBEq, index_rsl_if, setm, make_ints, condK_dec, wantK_dec, not_dec, and_dec, or_dec, seqK_ite, seqK_none, blockK_ite, blockK_none, opsK_ite, opsK_none, stepK_ite, stepK_none, bodyK_ite, bodyK_none, resK_ite, resK_none, leaveK_ite, leaveK_none, only_ite, only_none, bind_ite, gives_some, gives_none, gives_ite, then_normal, then_ret, then_exit, then_none, then_ite, Option.bind_none, Bool.not_eq_true', decide_eq_false_iff_not, Bool.and_eq_true, Bool.or_eq_true, Option.some.injEq, Int.not_lt, Int.not_le, lp89_0, q, htk]

theorem c50 (nl : Bool) (arts : List (Int × Int)) (room floor : Int) (hc : check arts room floor = 0) (b e : Int) (h0 : 0 ≤ b) (h1 : b ≤ e) (h2 : e ≤ arts.length) (st : St) :
    run L 50 [bookAV nl arts room floor, I b, I e] st = some (I (seg (mosts arts) b e), st) := by
  rw [run_pure (fn := ir50) rfl rfl]
  obtain ⟨k1, k2, k3, _⟩ := check_zero hc
  have hsl := slice_arts nl arts b e (by intro h; subst h; simp at k1) h0 h1 h2
  have hs := seg_sums (·.2) arts b e h0 h1 h2
  simp only [ir50, go_sem, reduceIte, Nat.reduceEqDiff, Nat.reduceAdd, Nat.reduceSub, Nat.reduceLeDiff, Nat.reduceLT, reduceCtorEq, Int.reduceLT, Int.reduceLE, Int.reduceEq, Int.reduceBEq, Int.reduceSub, Int.reduceAdd, Int.reduceMul, Int.reduceNeg, Int.reduceToNat, Nat.reduceMul, Nat.reduceBEq, hsl]
  generalize hg : lim (headed pure (run L) true _ lp50_0 _ _) _ _ = o
  obtain ⟨x, en, s, rfl, h2⟩ : ∃ x en s, o = some (x, en, s) ∧ _ := by rw [← hg]; exact loop50 nl arts room floor ((arts.take e.toNat).drop b.toNat) (by simp; omega) (fun a ha => by have := k3 a (List.mem_of_mem_take (List.mem_of_mem_drop ha)); omega) 0 (Nat.zero_le _) _ _ (by simp only [go_sem, reduceIte, Nat.reduceEqDiff, Nat.reduceAdd, Nat.reduceSub, Nat.reduceLeDiff, Nat.reduceLT, reduceCtorEq, Int.reduceLT, Int.reduceLE, Int.reduceEq, Int.reduceBEq, Int.reduceSub, Int.reduceAdd, Int.reduceMul, Int.reduceNeg, Int.reduceToNat, Nat.reduceMul, Nat.reduceBEq, List.take_zero, List.map_nil, List.sum_nil, List.length_map] <;> rfl)
  clear hg
  obtain ⟨rfl, h3⟩ := h2
  simp only [go_sem, reduceIte, Nat.reduceEqDiff, Nat.reduceAdd, Nat.reduceSub, Nat.reduceLeDiff, Nat.reduceLT, reduceCtorEq, Int.reduceLT, Int.reduceLE, Int.reduceEq, Int.reduceBEq, Int.reduceSub, Int.reduceAdd, Int.reduceMul, Int.reduceNeg, Int.reduceToNat, Nat.reduceMul, Nat.reduceBEq, h3, mosts, hs]
  rfl
theorem c89 (nl : Bool) (arts : List (Int × Int)) (room floor : Int) (hc : check arts room floor = 0) (b e : Int) (h0 : 0 ≤ b) (h1 : b ≤ e) (h2 : e ≤ arts.length) (st : St) :
    run L 89 [bookAV nl arts room floor, I b, I e] st = some (I (seg (leasts arts) b e), st) := by
  rw [run_pure (fn := ir89) rfl rfl]
  obtain ⟨k1, k2, k3, _⟩ := check_zero hc
  have hsl := slice_arts nl arts b e (by intro h; subst h; simp at k1) h0 h1 h2
  have hs := seg_sums (·.1) arts b e h0 h1 h2
  simp only [ir89, go_sem, reduceIte, Nat.reduceEqDiff, Nat.reduceAdd, Nat.reduceSub, Nat.reduceLeDiff, Nat.reduceLT, reduceCtorEq, Int.reduceLT, Int.reduceLE, Int.reduceEq, Int.reduceBEq, Int.reduceSub, Int.reduceAdd, Int.reduceMul, Int.reduceNeg, Int.reduceToNat, Nat.reduceMul, Nat.reduceBEq, hsl]
  generalize hg : lim (headed pure (run L) true _ lp89_0 _ _) _ _ = o
  obtain ⟨x, en, s, rfl, h2⟩ : ∃ x en s, o = some (x, en, s) ∧ _ := by rw [← hg]; exact loop89 nl arts room floor ((arts.take e.toNat).drop b.toNat) (by simp; omega) (fun a ha => by have := k3 a (List.mem_of_mem_take (List.mem_of_mem_drop ha)); omega) 0 (Nat.zero_le _) _ _ (by simp only [go_sem, reduceIte, Nat.reduceEqDiff, Nat.reduceAdd, Nat.reduceSub, Nat.reduceLeDiff, Nat.reduceLT, reduceCtorEq, Int.reduceLT, Int.reduceLE, Int.reduceEq, Int.reduceBEq, Int.reduceSub, Int.reduceAdd, Int.reduceMul, Int.reduceNeg, Int.reduceToNat, Nat.reduceMul, Nat.reduceBEq, List.take_zero, List.map_nil, List.sum_nil, List.length_map] <;> rfl)
  clear hg
  obtain ⟨rfl, h3⟩ := h2
  simp only [go_sem, reduceIte, Nat.reduceEqDiff, Nat.reduceAdd, Nat.reduceSub, Nat.reduceLeDiff, Nat.reduceLT, reduceCtorEq, Int.reduceLT, Int.reduceLE, Int.reduceEq, Int.reduceBEq, Int.reduceSub, Int.reduceAdd, Int.reduceMul, Int.reduceNeg, Int.reduceToNat, Nat.reduceMul, Nat.reduceBEq, h3, leasts, hs]
  rfl

/-- The first volume with a property, as a loop finds it; whether there is one. -/
def jFirst (p : Int → Bool) (l : List Int) : Int → Nat → Int → List Int → Int
  | _, _, may, [] => may
  | b, v, may, e :: r => jFirst p l e (v + 1) (if may < 0 ∧ p (seg l b e) = true then (v : Int) else may) r
def jAny (p : Int → Bool) (l : List Int) : Int → Bool → List Int → Bool
  | _, t, [] => t
  | b, t, e :: r => jAny p l e (t || p (seg l b e)) r
theorem jFirst_stay (p : Int → Bool) (l : List Int) : ∀ (r : List Int) (b : Int) (v : Nat) (may : Int), 0 ≤ may → jFirst p l b v may r = may
  | [], b, v, may, h => rfl
  | e :: r, b, v, may, h => by simp only [jFirst]; rw [if_neg (by omega)]; exact jFirst_stay p l r e (v + 1) may h
theorem jFirst_eq (p : Int → Bool) (l : List Int) : ∀ (r : List Int) (b : Int) (v : Nat), jFirst p l b v (-1) r = firstV l p b v r
  | [], b, v => rfl
  | e :: r, b, v => by
    simp only [jFirst, firstV]
    by_cases h : p (seg l b e) = true
    · rw [if_pos ⟨by omega, h⟩, if_pos h]; exact jFirst_stay p l r e (v + 1) v (by omega)
    · rw [if_neg (fun h2 => h h2.2), if_neg h]; exact jFirst_eq p l r e (v + 1)
theorem jAny_eq (p : Int → Bool) (l : List Int) : ∀ (r : List Int) (b : Int) (v : Nat) (t : Bool), jAny p l b t r = (t || decide (0 ≤ firstV l p b v r))
  | [], b, v, t => by simp [jAny, firstV]
  | e :: r, b, v, t => by
    simp only [jAny, firstV]
    rw [jAny_eq p l r e (v + 1)]
    by_cases h : p (seg l b e) = true <;> simp [h]

set_option maxHeartbeats 2000000 in
theorem loop49 (nl n2 : Bool) (arts : List (Int × Int)) (room floor : Int) (hc : check arts room floor = 0) (ends : List Int) (hlen : ends.length < 1000) (hcut : loopErr arts.length 0 ends = 0) (i : Nat) (may : Int) (must : Int) (thin : Bool) (hok : i ≤ ends.length) (env : Env) (st : St)
    (hg : gcAV true 1 0 (canon env [2, 7, 8, 9, 10, 13, 14, 15]) st = ([(2, .ptr 0 0), (7, I may), (8, I must), (9, B thin), (10, I (beginOf ends i)), (13, sl 1 n2 (ends.map I)), (14, I ends.length), (15, I i)], ⟨[bookCells nl arts room floor], []⟩)) :
    ∃ x_1 en s, lim (headed pure (run L) true [2, 7, 8, 9, 10, 13, 14, 15] lp49_0 1 0) env st = some (x_1, en, s) ∧ (x_1 = .exit 0 ∧ en.get 7 = I (jFirst (fun n => decide (n > room)) (mosts arts) (beginOf ends i) i may (ends.drop i)) ∧ en.get 8 = I (jFirst (fun n => decide (n > room)) (leasts arts) (beginOf ends i) i must (ends.drop i)) ∧ en.get 9 = B (jAny (fun n => decide (n < floor)) (leasts arts) (beginOf ends i) thin (ends.drop i))) := by
  refine loop_wp (α := Nat × Int × Int × Bool) (fun ⟨i, may, must, thin⟩ => ends.length - i) (fun ⟨i, may, must, thin⟩ => i ≤ ends.length) (fun ⟨i, may, must, thin⟩ => ([(2, .ptr 0 0), (7, I may), (8, I must), (9, B thin), (10, I (beginOf ends i)), (13, sl 1 n2 (ends.map I)), (14, I ends.length), (15, I i)], ⟨[bookCells nl arts room floor], []⟩)) (fun ⟨i, may, must, thin⟩ x_1 en s => x_1 = .exit 0 ∧ en.get 7 = I (jFirst (fun n => decide (n > room)) (mosts arts) (beginOf ends i) i may (ends.drop i)) ∧ en.get 8 = I (jFirst (fun n => decide (n > room)) (leasts arts) (beginOf ends i) i must (ends.drop i)) ∧ en.get 9 = B (jAny (fun n => decide (n < floor)) (leasts arts) (beginOf ends i) thin (ends.drop i))) (fun ⟨i, may, must, thin⟩ hok => ?_) ⟨i, may, must, thin⟩ hok env st hg
  simp only at hok
  by_cases q : (i : Int) < (ends.length : Int)
  · have hx := index_ints n2 ends i (by omega)
    have hs := succ64 i (by omega)
    have h1 := ends_asc hcut i (by omega)
    have h2 := begin_nonneg hcut i hok
    have h50 := fun st => c50 nl arts room floor hc (beginOf ends i) (ends[i]'(by omega)) h2 (by omega) h1.2 st
    have h89 := fun st => c89 nl arts room floor hc (beginOf ends i) (ends[i]'(by omega)) h2 (by omega) h1.2 st
    have hd : ends.drop i = ends[i]'(by omega) :: ends.drop (i + 1) := List.drop_eq_getElem_cons (by omega)
    have hb := beginOf_succ ends i (by omega)
    have hok2 : i + 1 ≤ ends.length := by omega
    have hmeas : ends.length - (i + 1) < ends.length - i := by omega
    dsimp only
    rw [hd]
    simp only [jFirst, jAny, decide_eq_true_eq, gt_iff_lt]
    generalize ends[i]'(by omega) = e at *
    have hb3 := hb
    generalize hS : seg (mosts arts) (beginOf ends i) e = S at *
    generalize hT : seg (leasts arts) (beginOf ends i) e = T at *
    rw [← hb]
    have ca : ((may < 0) = False ∧ True = True) ∨ ((may < 0) = True ∧ (room < S) = True) ∨ ((may < 0) = True ∧ (room < S) = False) := by
      by_cases h1 : may < 0 <;> by_cases h2 : room < S <;> simp [h1, h2]
    have cb : ((must < 0) = False ∧ True = True) ∨ ((must < 0) = True ∧ (room < T) = True) ∨ ((must < 0) = True ∧ (room < T) = False) := by
      by_cases h1 : must < 0 <;> by_cases h2 : room < T <;> simp [h1, h2]
    have cc : (thin = true ∧ True = True) ∨ (thin = false ∧ (T < floor) = True) ∨ (thin = false ∧ (T < floor) = False) := by
      by_cases h2 : T < floor <;> cases thin <;> simp [h2]
    rcases ca with ⟨a1, a2⟩ | ⟨a1, a2⟩ | ⟨a1, a2⟩ <;> rcases cb with ⟨b1, b2⟩ | ⟨b1, b2⟩ | ⟨b1, b2⟩ <;> rcases cc with ⟨c1, c2⟩ | ⟨c1, c2⟩ | ⟨c1, c2⟩ <;>
      (rw [c1]
       simp only [go_sem, reduceIte, Nat.reduceEqDiff, Nat.reduceAdd, Nat.reduceSub, Nat.reduceLeDiff, Nat.reduceLT, reduceCtorEq, Int.reduceLT, Int.reduceLE, Int.reduceEq, Int.reduceBEq, Int.reduceSub, Int.reduceAdd, Int.reduceMul, Int.reduceNeg, Int.reduceToNat, Nat.reduceMul, Nat.reduceBEq, index_rsl_if, setm, make_ints, condK_dec, wantK_dec, not_dec, and_dec, or_dec, seqK_ite, seqK_none, blockK_ite, blockK_none, opsK_ite, opsK_none, stepK_ite, stepK_none, bodyK_ite, bodyK_none, resK_ite, resK_none, leaveK_ite, leaveK_none, only_ite, only_none, bind_ite, gives_some, gives_none, gives_ite, then_normal, then_ret, then_exit, then_none, then_ite, Option.bind_none, Bool.not_eq_true', decide_eq_false_iff_not, Bool.and_eq_true, Bool.or_eq_true, Option.some.injEq, Int.not_lt, Int.not_le, lp49_0, q, hx, hs, h50, h89, a1, a2, b1, b2, c2, Bool.true_or, Bool.false_or]
       refine ⟨(i + 1, (if may < 0 ∧ room < S then (i : Int) else may), (if must < 0 ∧ room < T then (i : Int) else must), (thin || decide (T < floor))), by simp only [go_sem, reduceIte, Nat.reduceEqDiff, Nat.reduceAdd, Nat.reduceSub, Nat.reduceLeDiff, Nat.reduceLT, reduceCtorEq, Int.reduceLT, Int.reduceLE, Int.reduceEq, Int.reduceBEq, Int.reduceSub, Int.reduceAdd, Int.reduceMul, Int.reduceNeg, Int.reduceToNat, Nat.reduceMul, Nat.reduceBEq, a1, a2, b1, b2, c1, c2, hb3, Bool.true_or, Bool.false_or], hok2, hmeas, fun x en s hq => ?_⟩
       simp only [a1, a2, b1, b2, c1, c2, true_and, false_and, and_true, and_false, if_true, if_false, Bool.true_or, Bool.false_or, decide_true, decide_false] at hq
       exact hq)
  · have hdn : ends.drop i = [] := List.drop_eq_nil_of_le (by omega)
    simp only [go_sem, reduceIte, Nat.reduceEqDiff, Nat.reduceAdd, Nat.reduceSub, Nat.reduceLeDiff, Nat.reduceLT, reduceCtorEq, Int.reduceLT, Int.reduceLE, Int.reduceEq, Int.reduceBEq, Int.reduceSub, Int.reduceAdd, Int.reduceMul, Int.reduceNeg, Int.reduceToNat, Nat.reduceMul, Nat.reduceBEq, index_rsl_if, setm, make_ints, condK_dec, wantK_dec, not_dec, and_dec, or_dec, seqK_ite, seqK_none, blockK_ite, blockK_none, opsK_ite, opsK_none, stepK_ite, stepK_none, bodyK_ite, bodyK_none, resK_ite, resK_none, leaveK_ite, leaveK_none, only_ite, only_none, bind_ite, gives_some, gives_none, gives_ite, then_normal, then_ret, then_exit, then_none, then_ite, Option.bind_none, Bool.not_eq_true', decide_eq_false_iff_not, Bool.and_eq_true, Bool.or_eq_true, Option.some.injEq, Int.not_lt, Int.not_le, lp49_0, q, hdn, jFirst, jAny]

theorem c49 (nl n2 : Bool) (arts : List (Int × Int)) (room floor : Int) (hc : check arts room floor = 0) (ends : List Int) (hlen : ends.length < 1000) (hcut : loopErr arts.length 0 ends = 0) (st : St) :
    run L 49 [bookAV nl arts room floor, sl 1 n2 (ends.map I)] st = some (.tup [I (firstV (mosts arts) (fun n => decide (n > room)) 0 0 ends), I (firstV (leasts arts) (fun n => decide (n > room)) 0 0 ends), B (decide (0 ≤ firstV (leasts arts) (fun n => decide (n < floor)) 0 0 ends))], st) := by
  rw [run_pure (fn := ir49) rfl rfl]
  simp only [ir49, go_sem, reduceIte, Nat.reduceEqDiff, Nat.reduceAdd, Nat.reduceSub, Nat.reduceLeDiff, Nat.reduceLT, reduceCtorEq, Int.reduceLT, Int.reduceLE, Int.reduceEq, Int.reduceBEq, Int.reduceSub, Int.reduceAdd, Int.reduceMul, Int.reduceNeg, Int.reduceToNat, Nat.reduceMul, Nat.reduceBEq, List.length_map]
  generalize hg : lim (headed pure (run L) true _ lp49_0 _ _) _ _ = o
  obtain ⟨x, en, s, rfl, h2⟩ : ∃ x en s, o = some (x, en, s) ∧ _ := by rw [← hg]; exact loop49 nl n2 arts room floor hc ends hlen hcut 0 (-1) (-1) false (Nat.zero_le _) _ _ (by simp only [go_sem, reduceIte, Nat.reduceEqDiff, Nat.reduceAdd, Nat.reduceSub, Nat.reduceLeDiff, Nat.reduceLT, reduceCtorEq, Int.reduceLT, Int.reduceLE, Int.reduceEq, Int.reduceBEq, Int.reduceSub, Int.reduceAdd, Int.reduceMul, Int.reduceNeg, Int.reduceToNat, Nat.reduceMul, Nat.reduceBEq, beginOf] <;> rfl)
  clear hg
  obtain ⟨rfl, h3, h4, h5⟩ := h2
  have hb0 : beginOf ends 0 = 0 := rfl
  rw [hb0, List.drop_zero, jFirst_eq] at h3 h4
  rw [hb0, List.drop_zero, jAny_eq _ _ _ _ 0] at h5
  simp only [go_sem, reduceIte, Nat.reduceEqDiff, Nat.reduceAdd, Nat.reduceSub, Nat.reduceLeDiff, Nat.reduceLT, reduceCtorEq, Int.reduceLT, Int.reduceLE, Int.reduceEq, Int.reduceBEq, Int.reduceSub, Int.reduceAdd, Int.reduceMul, Int.reduceNeg, Int.reduceToNat, Nat.reduceMul, Nat.reduceBEq, h3, h4, h5, Bool.false_or]
end Go.Proofs.Ytiifibgadipalaa.Vm

namespace Go.Proofs.Ytiifibgadipalaa.Vm
open Go Go.Ev
set_option maxRecDepth 100000
attribute [local go_sem] cells_any storable_any ren1_any shaped_ptr cells_ptr storable_ptr ren1_ptr shaped_eptr cells_eptr storable_eptr ren1_eptr shaped_rsl cells_rsl storable_rsl ren1_rsl shaped_int cells_int storable_int ren1_int shaped_bool cells_bool storable_bool ren1_bool shaped_nils cells_nils storable_nils ren1_nils shaped_lst cells_lst storable_lst shaped_fn cells_fn storable_fn ren1_fn shaped_ifc cells_ifc storable_ifc ren1_ifc shaped_agg cells_agg storable_agg ren1_agg shaped_tup cells_tup storable_tup ren1_tup shaped_nif cells_nif storable_nif ren1_nif ren1_lany ren1_lfull ren1_lown len_lst len_rsl len_nil load_ptr load_eptr isRsl_lst isRsl_nil isRsl_rsl elems_nil elems_lst elems_sl isRsl_sl body_eq bodyK_normal bodyK_ret resK_some leaveK_some only_some code_skip code_exit code_ret code_ops code_seq code_cond code_block seqK_normal seqK_ret seqK_exit condK_true condK_false blockK_normal blockK_ret blockK_exit opsK_some ops_nil ops_cons wantK_true wantK_false stepK_some pubs pub pub_sl params okRef_loc storable_loc shaped_loc cells_loc isRsl_loc elems_loc len_loc untips untip untip_sl wantedAV setElems withO isAgg_v isAgg_agg isAgg_lst isAgg_ptr isAgg_fn isAgg_ifc isAgg_rsl isAgg_sl isAgg_loc List.replicate_succ List.replicate_zero opAV valAV aval avals ofVal Env.get setD canon gcAV renAll renEnv renStore renCells ren1_sl cutSt okEnv okStore okRefs okRef okRef_sl bin_int bin_bool bin_lst bin_rsl bin_nil bin_agg cellsEq cellEq isShift intOp boolOp min_int max_int beq_int bne resAV tupAV leave_eq fin_sl fin_loc fins fin_v fin_lst fin_agg fin_tup fin_fn storeAV readCells putCells cells_sl shaped_sl storable_sl fieldAddrAV len_sl goI List.getElem?_cons_zero List.getElem?_cons_succ List.getElem?_nil Option.bind_some Option.map_some List.length_cons List.length_nil List.all_cons List.all_nil Bool.and_true Bool.true_and Bool.and_false Bool.false_and and_true true_and and_false false_and Bool.false_eq_true List.set_cons_zero List.set_cons_succ List.append_nil List.nil_append List.cons_append List.take_zero List.take_succ_cons List.take_nil List.drop_zero List.drop_succ_cons List.map_cons List.map_nil decide_true decide_false beq_self_eq_true Bool.not_true Bool.not_false or_true true_or or_false false_or Nat.zero_add Nat.add_zero Nat.le_refl Nat.lt_irrefl decide_eq_true_eq eq_self_iff_true not_true_eq_false not_false_eq_true List.getD_cons_zero code_loop Nat.zero_le Nat.not_lt_zero Bool.true_beq Bool.false_beq beq_true beq_false ge_iff_le gt_iff_lt Lpure pus Option.map_none assert_ifc assert_nil idxA_ptr idxA_eptr idxV_agg Int.cast_ofNat_Int Nat.mul_one Nat.zero_mul Int.toNat_natCast Int.toNat_zero setParts withO2 eqnil_sl nenil_sl eqnil_loc nenil_loc map_nil_iff okRefs_ints renCells_ints

/-! ### laws on the cut that is filled -/

theorem seg_single {arts : List (Int × Int)} {i : Nat} (h : i < arts.length) : seg (mosts arts) i ((i + 1 : Nat) : Int) = arts[i].2 := by
  have h2 := seg_sums (·.2) arts i ((i + 1 : Nat) : Int) (by omega) (by omega) (by omega)
  rw [Int.toNat_natCast, Int.toNat_natCast, sumSeg_step _ _ _ _ (by omega) (by omega), sumSeg_end _ _ _ _ (by omega)] at h2
  simp only [mosts, h2]; omega
theorem singles_iff {arts : List (Int × Int)} (r : Int) : (∀ e : Nat, 1 ≤ e → e ≤ arts.length → seg (mosts arts) ((e : Int) - 1) e ≤ r) ↔ ∀ a ∈ arts, a.2 ≤ r := by
  constructor
  · intro h a ha
    obtain ⟨i, hi, rfl⟩ := List.getElem_of_mem ha
    have := h (i + 1) (by omega) (by omega)
    rw [show ((i + 1 : Nat) : Int) - 1 = i by omega, seg_single hi] at this
    exact this
  · intro h e h1 h2
    have := h _ (List.getElem_mem (show e - 1 < arts.length by omega))
    rw [← seg_single (show e - 1 < arts.length by omega)] at this
    rw [show ((e - 1 : Nat) : Int) = (e : Int) - 1 by omega, show ((e - 1 + 1 : Nat) : Int) = e by omega] at this
    exact this
theorem mono_any {arts : List (Int × Int)} {room0 floor : Int} (hc : check arts room0 floor = 0) (room : Int) : Mono arts.length (fun b e => decide (seg (mosts arts) b e ≤ room)) := by
  obtain ⟨_, _, k3, _⟩ := check_zero hc
  intro b b' e' e h1 h2 h3 h4 h5
  simp only [decide_eq_true_eq] at h5 ⊢
  have := seg_mono (l := arts.map (·.2)) (by intro x hx; obtain ⟨a, ha, rfl⟩ := List.mem_map.1 hx; have := k3 a ha; omega) b b' e' e h1 h2 h3 (by simpa using h4)
  simp only [mosts] at h5 ⊢
  omega
theorem filled_some {arts : List (Int × Int)} {room0 floor : Int} (hc : check arts room0 floor = 0) {r : Int} (hs : ∀ a ∈ arts, a.2 ≤ r) :
    lastMin (goods arts.length (fun b e => decide (seg (mosts arts) b e ≤ r)) 0) = some (filled (mosts arts) r) ∧ filled (mosts arts) r ≠ [] := by
  obtain ⟨g1, g2, g3, g4⟩ := mosts_ok hc
  obtain ⟨q, h1, h2⟩ := fill_goods (mosts arts) r arts.length (mono_any hc r) ((singles_iff r).2 hs) arts.length 0 1 [] (by omega) (by omega) (.inl rfl) (by omega)
  have hf : filled (mosts arts) r = q ++ [(arts.length : Int)] := by
    unfold filled
    rw [g2, Nat.add_sub_cancel, h1]
    simp only [List.nil_append]
    congr 2; omega
  rw [hf]
  exact ⟨h2, by simp⟩
theorem goods_cut {n : Nat} {p : Int → Int → Bool} {c : List Int} (h : c ∈ goods n p 0) : c ∈ cutsOf n 0 ∧ okC p 0 c = true := by
  unfold goods at h
  simpa using List.mem_filter.1 h
theorem good_length {n : Nat} {p : Int → Int → Bool} : ∀ (c : List Int) (b : Nat), b ≤ n → IsGood n p b c → c.length ≤ n - b
  | [], b, _, _ => by simp
  | e :: r, b, hb, ⟨e', _, h1, h2, _, h4⟩ => by have := good_length r e' h2 h4; simp only [List.length_cons]; omega

end Go.Proofs.Ytiifibgadipalaa.Vm

namespace Go.Proofs.Ytiifibgadipalaa.Vm
open Go Go.Ev
set_option maxRecDepth 100000
attribute [local go_sem] cells_any storable_any ren1_any shaped_ptr cells_ptr storable_ptr ren1_ptr shaped_eptr cells_eptr storable_eptr ren1_eptr shaped_rsl cells_rsl storable_rsl ren1_rsl shaped_int cells_int storable_int ren1_int shaped_bool cells_bool storable_bool ren1_bool shaped_nils cells_nils storable_nils ren1_nils shaped_lst cells_lst storable_lst shaped_fn cells_fn storable_fn ren1_fn shaped_ifc cells_ifc storable_ifc ren1_ifc shaped_agg cells_agg storable_agg ren1_agg shaped_tup cells_tup storable_tup ren1_tup shaped_nif cells_nif storable_nif ren1_nif ren1_lany ren1_lfull ren1_lown len_lst len_rsl len_nil load_ptr load_eptr isRsl_lst isRsl_nil isRsl_rsl elems_nil elems_lst elems_sl isRsl_sl body_eq bodyK_normal bodyK_ret resK_some leaveK_some only_some code_skip code_exit code_ret code_ops code_seq code_cond code_block seqK_normal seqK_ret seqK_exit condK_true condK_false blockK_normal blockK_ret blockK_exit opsK_some ops_nil ops_cons wantK_true wantK_false stepK_some pubs pub pub_sl params okRef_loc storable_loc shaped_loc cells_loc isRsl_loc elems_loc len_loc untips untip untip_sl wantedAV setElems withO isAgg_v isAgg_agg isAgg_lst isAgg_ptr isAgg_fn isAgg_ifc isAgg_rsl isAgg_sl isAgg_loc List.replicate_succ List.replicate_zero opAV valAV aval avals ofVal Env.get setD canon gcAV renAll renEnv renStore renCells ren1_sl cutSt okEnv okStore okRefs okRef okRef_sl bin_int bin_bool bin_lst bin_rsl bin_nil bin_agg cellsEq cellEq isShift intOp boolOp min_int max_int beq_int bne resAV tupAV leave_eq fin_sl fin_loc fins fin_v fin_lst fin_agg fin_tup fin_fn storeAV readCells putCells cells_sl shaped_sl storable_sl fieldAddrAV len_sl goI List.getElem?_cons_zero List.getElem?_cons_succ List.getElem?_nil Option.bind_some Option.map_some List.length_cons List.length_nil List.all_cons List.all_nil Bool.and_true Bool.true_and Bool.and_false Bool.false_and and_true true_and and_false false_and Bool.false_eq_true List.set_cons_zero List.set_cons_succ List.append_nil List.nil_append List.cons_append List.take_zero List.take_succ_cons List.take_nil List.drop_zero List.drop_succ_cons List.map_cons List.map_nil decide_true decide_false beq_self_eq_true Bool.not_true Bool.not_false or_true true_or or_false false_or Nat.zero_add Nat.add_zero Nat.le_refl Nat.lt_irrefl decide_eq_true_eq eq_self_iff_true not_true_eq_false not_false_eq_true List.getD_cons_zero code_loop Nat.zero_le Nat.not_lt_zero Bool.true_beq Bool.false_beq beq_true beq_false ge_iff_le gt_iff_lt Lpure pus Option.map_none assert_ifc assert_nil idxA_ptr idxA_eptr idxV_agg Int.cast_ofNat_Int Nat.mul_one Nat.zero_mul Int.toNat_natCast Int.toNat_zero setParts withO2 eqnil_sl nenil_sl eqnil_loc nenil_loc map_nil_iff okRefs_ints renCells_ints

theorem loop46 (n2 : Bool) (n : Nat) (ends : List Int) (hlen : ends.length < 1000) (hcut : loopErr n 0 ends = 0) (i : Nat) (hok : i ≤ ends.length) (env : Env) (st : St)
    (hg : gcAV true 0 0 (canon env [0, 1, 7, 8, 9]) st = ([(0, sl 1 n2 (ends.map I)), (1, I n), (7, sl 1 n2 (ends.map I)), (8, I ends.length), (9, I i)], ⟨[], []⟩)) :
    ∃ x_1 en s, lim (headed pure (run L) true [0, 1, 7, 8, 9] lp46_0 0 0) env st = some (x_1, en, s) ∧ (x_1 = .exit 0 ∧ en.get 0 = sl 1 n2 (ends.map I) ∧ en.get 1 = I n) := by
  refine loop_wp (α := Nat) (fun i => ends.length - i) (fun i => i ≤ ends.length) (fun i => ([(0, sl 1 n2 (ends.map I)), (1, I n), (7, sl 1 n2 (ends.map I)), (8, I ends.length), (9, I i)], ⟨[], []⟩)) (fun i x_1 en s => x_1 = .exit 0 ∧ en.get 0 = sl 1 n2 (ends.map I) ∧ en.get 1 = I n) (fun i hok => ?_) i hok env st hg
  by_cases q : (i : Int) < (ends.length : Int)
  · have hx := index_ints n2 ends i (by omega)
    have hs := succ64 i (by omega)
    have h1 := ends_asc hcut i (by omega)
    have h3 := loopErr_zero hcut _ (List.getElem_mem (show i < ends.length by omega))
    have z1 : (ends[i]'(by omega) < 1) = False := eq_false (by omega)
    have z2 : ((n : Int) < ends[i]'(by omega)) = False := eq_false (by omega)
    by_cases p : 0 < (i : Int)
    · have hw : IntKind.i64.wrap ((i : Int) - 1) = ((i - 1 : Nat) : Int) := by rw [wrap64] <;> omega
      have hx2 := index_ints n2 ends (i - 1) (by omega)
      have hb : ends[i - 1]'(by omega) = beginOf ends i := by
        have := beginOf_succ ends (i - 1) (by omega)
        rw [← this]; congr 1; omega
      rw [hb] at hx2
      have z3 : (ends[i]'(by omega) ≤ beginOf ends i) = False := eq_false (by omega)
      simp only [go_sem, reduceIte, Nat.reduceEqDiff, Nat.reduceAdd, Nat.reduceSub, Nat.reduceLeDiff, Nat.reduceLT, reduceCtorEq, Int.reduceLT, Int.reduceLE, Int.reduceEq, Int.reduceBEq, Int.reduceSub, Int.reduceAdd, Int.reduceMul, Int.reduceNeg, Int.reduceToNat, Nat.reduceMul, Nat.reduceBEq, index_rsl_if, setm, make_ints, condK_dec, wantK_dec, not_dec, and_dec, or_dec, seqK_ite, seqK_none, blockK_ite, blockK_none, opsK_ite, opsK_none, stepK_ite, stepK_none, bodyK_ite, bodyK_none, resK_ite, resK_none, leaveK_ite, leaveK_none, only_ite, only_none, bind_ite, gives_some, gives_none, gives_ite, then_normal, then_ret, then_exit, then_none, then_ite, Option.bind_none, Bool.not_eq_true', decide_eq_false_iff_not, Bool.and_eq_true, Bool.or_eq_true, Option.some.injEq, Int.not_lt, Int.not_le, lp46_0, q, hx, hs, hw, hx2, z1, z2, z3, p]
      refine ⟨i + 1, by simp only [go_sem, reduceIte, Nat.reduceEqDiff, Nat.reduceAdd, Nat.reduceSub, Nat.reduceLeDiff, Nat.reduceLT, reduceCtorEq, Int.reduceLT, Int.reduceLE, Int.reduceEq, Int.reduceBEq, Int.reduceSub, Int.reduceAdd, Int.reduceMul, Int.reduceNeg, Int.reduceToNat, Nat.reduceMul, Nat.reduceBEq, ren1_locm, loc_tips, locT_eq] <;> rfl, ?_, ?_, fun x en s hq => ?_⟩
      · omega
      · omega
      · exact hq
    · simp only [go_sem, reduceIte, Nat.reduceEqDiff, Nat.reduceAdd, Nat.reduceSub, Nat.reduceLeDiff, Nat.reduceLT, reduceCtorEq, Int.reduceLT, Int.reduceLE, Int.reduceEq, Int.reduceBEq, Int.reduceSub, Int.reduceAdd, Int.reduceMul, Int.reduceNeg, Int.reduceToNat, Nat.reduceMul, Nat.reduceBEq, index_rsl_if, setm, make_ints, condK_dec, wantK_dec, not_dec, and_dec, or_dec, seqK_ite, seqK_none, blockK_ite, blockK_none, opsK_ite, opsK_none, stepK_ite, stepK_none, bodyK_ite, bodyK_none, resK_ite, resK_none, leaveK_ite, leaveK_none, only_ite, only_none, bind_ite, gives_some, gives_none, gives_ite, then_normal, then_ret, then_exit, then_none, then_ite, Option.bind_none, Bool.not_eq_true', decide_eq_false_iff_not, Bool.and_eq_true, Bool.or_eq_true, Option.some.injEq, Int.not_lt, Int.not_le, lp46_0, q, hx, hs, z1, z2, p]
      refine ⟨i + 1, by simp only [go_sem, reduceIte, Nat.reduceEqDiff, Nat.reduceAdd, Nat.reduceSub, Nat.reduceLeDiff, Nat.reduceLT, reduceCtorEq, Int.reduceLT, Int.reduceLE, Int.reduceEq, Int.reduceBEq, Int.reduceSub, Int.reduceAdd, Int.reduceMul, Int.reduceNeg, Int.reduceToNat, Nat.reduceMul, Nat.reduceBEq, ren1_locm, loc_tips, locT_eq] <;> rfl, ?_, ?_, fun x en s hq => ?_⟩
      · omega
      · omega
      · exact hq
  · simp only [go_sem, reduceIte, Nat.reduceEqDiff, Nat.reduceAdd, Nat.reduceSub, Nat.reduceLeDiff, Nat.reduceLT, reduceCtorEq, Int.reduceLT, Int.reduceLE, Int.reduceEq, Int.reduceBEq, Int.reduceSub, Int.reduceAdd, Int.reduceMul, Int.reduceNeg, Int.reduceToNat, Nat.reduceMul, Nat.reduceBEq, index_rsl_if, setm, make_ints, condK_dec, wantK_dec, not_dec, and_dec, or_dec, seqK_ite, seqK_none, blockK_ite, blockK_none, opsK_ite, opsK_none, stepK_ite, stepK_none, bodyK_ite, bodyK_none, resK_ite, resK_none, leaveK_ite, leaveK_none, only_ite, only_none, bind_ite, gives_some, gives_none, gives_ite, then_normal, then_ret, then_exit, then_none, then_ite, Option.bind_none, Bool.not_eq_true', decide_eq_false_iff_not, Bool.and_eq_true, Bool.or_eq_true, Option.some.injEq, Int.not_lt, Int.not_le, lp46_0, q]

/-- A list that is a cut. -/
theorem c46 (n2 : Bool) (n : Nat) (hn : 1 ≤ n) (ends : List Int) (hlen : ends.length < 1000) (hcut : loopErr n 0 ends = 0) (hend : endOf 0 ends = n) (st : St) :
    run L 46 [sl 1 n2 (ends.map I), I n] st = some (B true, st) := by
  rw [run_pure (fn := ir46) rfl rfl]
  have hpos : 0 < ends.length := by
    rcases Nat.eq_zero_or_pos ends.length with h | h
    · have : ends = [] := List.eq_nil_of_length_eq_zero h
      subst this; simp [endOf] at hend; omega
    · exact h
  have hp : ((0 : Int) < (ends.length : Int)) = True := eq_true (by omega)
  have hw : IntKind.i64.wrap ((ends.length : Int) - 1) = ((ends.length - 1 : Nat) : Int) := by rw [wrap64] <;> omega
  have hx := index_ints n2 ends (ends.length - 1) (by omega)
  have hl : ends[ends.length - 1]'(by omega) = (n : Int) := by
    have := beginOf_succ ends (ends.length - 1) (by omega)
    rw [← this, show ends.length - 1 + 1 = ends.length by omega, endOf_begin, hend]
  rw [hl] at hx
  simp only [ir46, go_sem, reduceIte, Nat.reduceEqDiff, Nat.reduceAdd, Nat.reduceSub, Nat.reduceLeDiff, Nat.reduceLT, reduceCtorEq, Int.reduceLT, Int.reduceLE, Int.reduceEq, Int.reduceBEq, Int.reduceSub, Int.reduceAdd, Int.reduceMul, Int.reduceNeg, Int.reduceToNat, Nat.reduceMul, Nat.reduceBEq, List.length_map]
  generalize hg : lim (headed pure (run L) true _ lp46_0 _ _) _ _ = o
  obtain ⟨x, en, s, rfl, h2⟩ : ∃ x en s, o = some (x, en, s) ∧ _ := by rw [← hg]; exact loop46 n2 n ends hlen hcut 0 (Nat.zero_le _) _ _ (by simp only [go_sem, reduceIte, Nat.reduceEqDiff, Nat.reduceAdd, Nat.reduceSub, Nat.reduceLeDiff, Nat.reduceLT, reduceCtorEq, Int.reduceLT, Int.reduceLE, Int.reduceEq, Int.reduceBEq, Int.reduceSub, Int.reduceAdd, Int.reduceMul, Int.reduceNeg, Int.reduceToNat, Nat.reduceMul, Nat.reduceBEq] <;> rfl)
  clear hg
  obtain ⟨rfl, h3, h4⟩ := h2
  simp only [go_sem, reduceIte, Nat.reduceEqDiff, Nat.reduceAdd, Nat.reduceSub, Nat.reduceLeDiff, Nat.reduceLT, reduceCtorEq, Int.reduceLT, Int.reduceLE, Int.reduceEq, Int.reduceBEq, Int.reduceSub, Int.reduceAdd, Int.reduceMul, Int.reduceNeg, Int.reduceToNat, Nat.reduceMul, Nat.reduceBEq, h3, h4, hp, hw, hx, List.length_map]

end Go.Proofs.Ytiifibgadipalaa.Vm

namespace Go.Proofs.Ytiifibgadipalaa.Vm
open Go Go.Ev
set_option maxRecDepth 100000
attribute [local go_sem] cells_any storable_any ren1_any shaped_ptr cells_ptr storable_ptr ren1_ptr shaped_eptr cells_eptr storable_eptr ren1_eptr shaped_rsl cells_rsl storable_rsl ren1_rsl shaped_int cells_int storable_int ren1_int shaped_bool cells_bool storable_bool ren1_bool shaped_nils cells_nils storable_nils ren1_nils shaped_lst cells_lst storable_lst shaped_fn cells_fn storable_fn ren1_fn shaped_ifc cells_ifc storable_ifc ren1_ifc shaped_agg cells_agg storable_agg ren1_agg shaped_tup cells_tup storable_tup ren1_tup shaped_nif cells_nif storable_nif ren1_nif ren1_lany ren1_lfull ren1_lown len_lst len_rsl len_nil load_ptr load_eptr isRsl_lst isRsl_nil isRsl_rsl elems_nil elems_lst elems_sl isRsl_sl body_eq bodyK_normal bodyK_ret resK_some leaveK_some only_some code_skip code_exit code_ret code_ops code_seq code_cond code_block seqK_normal seqK_ret seqK_exit condK_true condK_false blockK_normal blockK_ret blockK_exit opsK_some ops_nil ops_cons wantK_true wantK_false stepK_some pubs pub pub_sl params okRef_loc storable_loc shaped_loc cells_loc isRsl_loc elems_loc len_loc untips untip untip_sl wantedAV setElems withO isAgg_v isAgg_agg isAgg_lst isAgg_ptr isAgg_fn isAgg_ifc isAgg_rsl isAgg_sl isAgg_loc List.replicate_succ List.replicate_zero opAV valAV aval avals ofVal Env.get setD canon gcAV renAll renEnv renStore renCells ren1_sl cutSt okEnv okStore okRefs okRef okRef_sl bin_int bin_bool bin_lst bin_rsl bin_nil bin_agg cellsEq cellEq isShift intOp boolOp min_int max_int beq_int bne resAV tupAV leave_eq fin_sl fin_loc fins fin_v fin_lst fin_agg fin_tup fin_fn storeAV readCells putCells cells_sl shaped_sl storable_sl fieldAddrAV len_sl goI List.getElem?_cons_zero List.getElem?_cons_succ List.getElem?_nil Option.bind_some Option.map_some List.length_cons List.length_nil List.all_cons List.all_nil Bool.and_true Bool.true_and Bool.and_false Bool.false_and and_true true_and and_false false_and Bool.false_eq_true List.set_cons_zero List.set_cons_succ List.append_nil List.nil_append List.cons_append List.take_zero List.take_succ_cons List.take_nil List.drop_zero List.drop_succ_cons List.map_cons List.map_nil decide_true decide_false beq_self_eq_true Bool.not_true Bool.not_false or_true true_or or_false false_or Nat.zero_add Nat.add_zero Nat.le_refl Nat.lt_irrefl decide_eq_true_eq eq_self_iff_true not_true_eq_false not_false_eq_true List.getD_cons_zero code_loop Nat.zero_le Nat.not_lt_zero Bool.true_beq Bool.false_beq beq_true beq_false ge_iff_le gt_iff_lt Lpure pus Option.map_none assert_ifc assert_nil idxA_ptr idxA_eptr idxV_agg Int.cast_ofNat_Int Nat.mul_one Nat.zero_mul Int.toNat_natCast Int.toNat_zero setParts withO2 eqnil_sl nenil_sl eqnil_loc nenil_loc map_nil_iff okRefs_ints renCells_ints

theorem cells5 : Try.prog.cellsOf 5 = 1 := by kernel_rfl
theorem cells60 : Try.prog.cellsOf 60 = 12 := by kernel_rfl
theorem cells62 : Try.prog.cellsOf 62 = 27 := by kernel_rfl

theorem one_byte {d : Nat} {bs : List AV} (h : Sh Try.prog (d + 1) 5 bs) : ∃ n, bs = [U n] ∧ Byte n := by
  simp only [Sh, Try.underlying5] at h
  obtain ⟨n, h1, h2⟩ := h
  exact ⟨n, h1, bounds_u8 h2⟩
theorem all_bytes : ∀ (bs : List AV), (∀ i, i < bs.length → ∃ n, (bs.drop i).take 1 = [U n] ∧ Byte n) → ∃ zs : List Int, bs = zs.map U ∧ zs.length = bs.length ∧ ∀ n ∈ zs, Byte n
  | [], _ => ⟨[], rfl, rfl, by simp⟩
  | b :: r, h => by
    obtain ⟨n, h1, h2⟩ := h 0 (by simp)
    simp only [List.drop_zero, List.take_succ_cons, List.take_zero, List.cons.injEq, and_true] at h1
    obtain ⟨zs, h3, h4, h5⟩ := all_bytes r fun i hi => by
      obtain ⟨n, q1, q2⟩ := h (i + 1) (by simp; omega)
      exact ⟨n, by simpa using q1, q2⟩
    exact ⟨n :: zs, by simp [h1, ← h3], by simp [h4], by simp; exact ⟨h2, h5⟩⟩
theorem sh_bytes {d : Nat} {bs : List AV} (h : Sh Try.prog (d + 2) 60 bs) : ∃ zs : List Int, bs = zs.map U ∧ zs.length = 12 ∧ ∀ n ∈ zs, Byte n := by
  unfold Sh at h
  simp only [Try.underlying60, cells60, cells5, Nat.mul_one] at h
  obtain ⟨h1, h2⟩ := h
  obtain ⟨zs, h3, h4, h5⟩ := all_bytes bs fun i hi => one_byte (h2 i (by omega))
  exact ⟨zs, h3, by omega, h5⟩

/-- A book by numbers. -/
theorem sh_shelf {a : AV} (h : ShV Try.prog 8 62 a) : ∃ s : Shelf, a = s.av ∧ s.ok := by
  unfold ShV at h
  rw [if_pos (by unfold aggB; rw [Try.underlying62])] at h
  obtain ⟨cs, rfl, hs⟩ := h
  unfold Sh at hs
  simp only [Try.underlying62, cells62] at hs
  obtain ⟨h1, h2⟩ := hs
  have f0 := h2 0 _ rfl
  have f1 := h2 1 _ rfl
  have f2 := h2 2 _ rfl
  have f3 := h2 3 _ rfl
  have f4 := h2 4 _ rfl
  simp only [List.getElem_toArray, List.getElem_cons_zero, List.getElem_cons_succ, cells5, cells60] at f0 f1 f2 f3 f4
  obtain ⟨a, e0, b0⟩ := one_byte f0
  obtain ⟨b, e1, b1⟩ := one_byte f1
  obtain ⟨c, e2, b2⟩ := one_byte f2
  obtain ⟨ls, e3, b3, c3⟩ := sh_bytes f3
  obtain ⟨ms, e4, b4, c4⟩ := sh_bytes f4
  refine ⟨⟨a, b, c, ls, ms⟩, ?_, b0, b1, b2, b3, b4, c3, c4⟩
  have hcs : cs = (cs.drop 0).take 1 ++ ((cs.drop 1).take 1 ++ ((cs.drop 2).take 1 ++ ((cs.drop 3).take 12 ++ (cs.drop 15).take 12))) := by
    have s5 : (cs.drop 15).take 12 = cs.drop 15 := List.take_of_length_le (by simp [h1])
    have s4 : (cs.drop 3).take 12 ++ cs.drop 15 = cs.drop 3 := by
      have := List.take_append_drop 12 (cs.drop 3)
      rw [List.drop_drop] at this
      exact this
    have s3 : (cs.drop 2).take 1 ++ cs.drop 3 = cs.drop 2 := by
      have := List.take_append_drop 1 (cs.drop 2)
      rw [List.drop_drop] at this
      exact this
    have s2 : (cs.drop 1).take 1 ++ cs.drop 2 = cs.drop 1 := by
      have := List.take_append_drop 1 (cs.drop 1)
      rw [List.drop_drop] at this
      exact this
    have s1 : (cs.drop 0).take 1 ++ cs.drop 1 = cs := by
      have := List.take_append_drop 1 cs
      simpa using this
    rw [s5, s4, s3, s2, s1]
  show AV.agg cs = AV.agg (Shelf.cells ⟨a, b, c, ls, ms⟩)
  rw [hcs, e0, e1, e2, e3, e4]
  rfl
end Go.Proofs.Ytiifibgadipalaa.Vm

namespace Go.Proofs.Ytiifibgadipalaa.Vm
open Go Go.Ev
set_option maxRecDepth 100000
attribute [local go_sem] cells_any storable_any ren1_any shaped_ptr cells_ptr storable_ptr ren1_ptr shaped_eptr cells_eptr storable_eptr ren1_eptr shaped_rsl cells_rsl storable_rsl ren1_rsl shaped_int cells_int storable_int ren1_int shaped_bool cells_bool storable_bool ren1_bool shaped_nils cells_nils storable_nils ren1_nils shaped_lst cells_lst storable_lst shaped_fn cells_fn storable_fn ren1_fn shaped_ifc cells_ifc storable_ifc ren1_ifc shaped_agg cells_agg storable_agg ren1_agg shaped_tup cells_tup storable_tup ren1_tup shaped_nif cells_nif storable_nif ren1_nif ren1_lany ren1_lfull ren1_lown len_lst len_rsl len_nil load_ptr load_eptr isRsl_lst isRsl_nil isRsl_rsl elems_nil elems_lst elems_sl isRsl_sl body_eq bodyK_normal bodyK_ret resK_some leaveK_some only_some code_skip code_exit code_ret code_ops code_seq code_cond code_block seqK_normal seqK_ret seqK_exit condK_true condK_false blockK_normal blockK_ret blockK_exit opsK_some ops_nil ops_cons wantK_true wantK_false stepK_some pubs pub pub_sl params okRef_loc storable_loc shaped_loc cells_loc isRsl_loc elems_loc len_loc untips untip untip_sl wantedAV setElems withO isAgg_v isAgg_agg isAgg_lst isAgg_ptr isAgg_fn isAgg_ifc isAgg_rsl isAgg_sl isAgg_loc List.replicate_succ List.replicate_zero opAV valAV aval avals ofVal Env.get setD canon gcAV renAll renEnv renStore renCells ren1_sl cutSt okEnv okStore okRefs okRef okRef_sl bin_int bin_bool bin_lst bin_rsl bin_nil bin_agg cellsEq cellEq isShift intOp boolOp min_int max_int beq_int bne resAV tupAV leave_eq fin_sl fin_loc fins fin_v fin_lst fin_agg fin_tup fin_fn storeAV readCells putCells cells_sl shaped_sl storable_sl fieldAddrAV len_sl goI List.getElem?_cons_zero List.getElem?_cons_succ List.getElem?_nil Option.bind_some Option.map_some List.length_cons List.length_nil List.all_cons List.all_nil Bool.and_true Bool.true_and Bool.and_false Bool.false_and and_true true_and and_false false_and Bool.false_eq_true List.set_cons_zero List.set_cons_succ List.append_nil List.nil_append List.cons_append List.take_zero List.take_succ_cons List.take_nil List.drop_zero List.drop_succ_cons List.map_cons List.map_nil decide_true decide_false beq_self_eq_true Bool.not_true Bool.not_false or_true true_or or_false false_or Nat.zero_add Nat.add_zero Nat.le_refl Nat.lt_irrefl decide_eq_true_eq eq_self_iff_true not_true_eq_false not_false_eq_true List.getD_cons_zero code_loop Nat.zero_le Nat.not_lt_zero Bool.true_beq Bool.false_beq beq_true beq_false ge_iff_le gt_iff_lt Lpure pus Option.map_none assert_ifc assert_nil idxA_ptr idxA_eptr idxV_agg Int.cast_ofNat_Int Nat.mul_one Nat.zero_mul Int.toNat_natCast Int.toNat_zero setParts withO2 eqnil_sl nenil_sl eqnil_loc nenil_loc map_nil_iff okRefs_ints renCells_ints

theorem stretchEnd_spec (l : List Int) (room : Int) (n x : Nat) : ∀ k y, y + k = n → (∀ z, y ≤ z → z < stretchEnd l room n x k y → seg l x ((z : Int) + 1) ≤ room) ∧ (stretchEnd l room n x k y < n → room < seg l x ((stretchEnd l room n x k y : Int) + 1))
  | 0, y, h => by
    simp only [stretchEnd]
    exact ⟨fun z h1 h2 => by omega, fun h1 => by omega⟩
  | k + 1, y, h => by
    simp only [stretchEnd]
    split
    · next hc =>
      obtain ⟨h1, h2⟩ := stretchEnd_spec l room n x k (y + 1) (by omega)
      refine ⟨fun z q1 q2 => ?_, h2⟩
      by_cases hz : z = y
      · subst hz; exact hc.2
      · exact h1 z (by omega) q2
    · next hc =>
      exact ⟨fun z h1 h2 => by omega, fun h1 => by omega⟩
end Go.Proofs.Ytiifibgadipalaa.Vm

namespace Go.Proofs.Ytiifibgadipalaa.Vm
open Go Go.Ev
set_option maxRecDepth 100000
attribute [local go_sem] cells_any storable_any ren1_any shaped_ptr cells_ptr storable_ptr ren1_ptr shaped_eptr cells_eptr storable_eptr ren1_eptr shaped_rsl cells_rsl storable_rsl ren1_rsl shaped_int cells_int storable_int ren1_int shaped_bool cells_bool storable_bool ren1_bool shaped_nils cells_nils storable_nils ren1_nils shaped_lst cells_lst storable_lst shaped_fn cells_fn storable_fn ren1_fn shaped_ifc cells_ifc storable_ifc ren1_ifc shaped_agg cells_agg storable_agg ren1_agg shaped_tup cells_tup storable_tup ren1_tup shaped_nif cells_nif storable_nif ren1_nif ren1_lany ren1_lfull ren1_lown len_lst len_rsl len_nil load_ptr load_eptr isRsl_lst isRsl_nil isRsl_rsl elems_nil elems_lst elems_sl isRsl_sl body_eq bodyK_normal bodyK_ret resK_some leaveK_some only_some code_skip code_exit code_ret code_ops code_seq code_cond code_block seqK_normal seqK_ret seqK_exit condK_true condK_false blockK_normal blockK_ret blockK_exit opsK_some ops_nil ops_cons wantK_true wantK_false stepK_some pubs pub pub_sl params okRef_loc storable_loc shaped_loc cells_loc isRsl_loc elems_loc len_loc untips untip untip_sl wantedAV setElems withO isAgg_v isAgg_agg isAgg_lst isAgg_ptr isAgg_fn isAgg_ifc isAgg_rsl isAgg_sl isAgg_loc List.replicate_succ List.replicate_zero opAV valAV aval avals ofVal Env.get setD canon gcAV renAll renEnv renStore renCells ren1_sl cutSt okEnv okStore okRefs okRef okRef_sl bin_int bin_bool bin_lst bin_rsl bin_nil bin_agg cellsEq cellEq isShift intOp boolOp min_int max_int beq_int bne resAV tupAV leave_eq fin_sl fin_loc fins fin_v fin_lst fin_agg fin_tup fin_fn storeAV readCells putCells cells_sl shaped_sl storable_sl fieldAddrAV len_sl goI List.getElem?_cons_zero List.getElem?_cons_succ List.getElem?_nil Option.bind_some Option.map_some List.length_cons List.length_nil List.all_cons List.all_nil Bool.and_true Bool.true_and Bool.and_false Bool.false_and and_true true_and and_false false_and Bool.false_eq_true List.set_cons_zero List.set_cons_succ List.append_nil List.nil_append List.cons_append List.take_zero List.take_succ_cons List.take_nil List.drop_zero List.drop_succ_cons List.map_cons List.map_nil decide_true decide_false beq_self_eq_true Bool.not_true Bool.not_false or_true true_or or_false false_or Nat.zero_add Nat.add_zero Nat.le_refl Nat.lt_irrefl decide_eq_true_eq eq_self_iff_true not_true_eq_false not_false_eq_true List.getD_cons_zero code_loop Nat.zero_le Nat.not_lt_zero Bool.true_beq Bool.false_beq beq_true beq_false ge_iff_le gt_iff_lt Lpure pus Option.map_none assert_ifc assert_nil idxA_ptr idxA_eptr idxV_agg Int.cast_ofNat_Int Nat.mul_one Nat.zero_mul Int.toNat_natCast Int.toNat_zero setParts withO2 eqnil_sl nenil_sl eqnil_loc nenil_loc map_nil_iff okRefs_ints renCells_ints

/-! ### all cuts are tried: 'cuts' with a function of two that are met -/

structure Five where
  c0 : List AV
  c1 : List AV
  c2 : List AV
  c3 : List AV
  c4 : List AV
/-- The store while all cuts of n articles are tried: what is captured, then n, the function, and the closure itself. -/
abbrev trySt (n : Nat) (f : Nat) (fv : List AV) (a : Five) : List (List AV) := [a.c0, a.c1, a.c2, a.c3, a.c4, [I n], [.fn (.func f) [] fv], [.fn (.func 88) [] [.ptr 5 0, .ptr 6 0, .ptr 7 0]]]
/-- What is a list of numbers in a register: nil, or a list. -/
def IsInts (l0 : AV) (l : List Int) : Prop := (l = [] ∧ l0 = .v (.slice none 0 0)) ∨ ∃ g, l0 = .lst g 1 (l.map I)
theorem slice_fullI (g : Tag) (l : List Int) : sliceAV 1 (.lst g 1 (l.map I)) none (some (.v (.int .i64 l.length))) (some (.v (.int .i64 l.length))) = some (.lst .full 1 (l.map I)) := by
  simp only [sliceAV, if_true, natOr, natOf]
  simp [← List.map_take]
theorem slice_nilI : sliceAV 1 (.v (.slice none 0 0)) none (some (.v (.int .i64 0))) (some (.v (.int .i64 0))) = some (.v (.slice none 0 0)) := by
  simp [sliceAV, natOr, natOf]
theorem append_fullI (l : List Int) (x : Int) (s : List (List AV)) (T : List Nat) (hm : l.length + 1 ≤ maxGrow) :
    appendAV 1 (.lst .full 1 (l.map I)) [I x] ⟨s, T⟩ = some (.lst (.own T.length (l.length + 1)) 1 ((l ++ [x]).map I), ⟨s, T ++ [l.length + 1]⟩) := by
  simp [appendAV, hm]
theorem append_nilI (x : Int) (s : List (List AV)) (T : List Nat) :
    appendAV 1 (.v (.slice none 0 0)) [I x] ⟨s, T⟩ = some (.lst (.own T.length 1) 1 [I x], ⟨s, T ++ [1]⟩) := by
  simp [appendAV, maxGrow]
/-- What the function does with one cut. -/
def Each (n f : Nat) (fv : List AV) (P : Five → List (List Int) → Prop) : Prop :=
  ∀ (a : Five) (done : List (List Int)) (l : List Int) (l0 : AV) (T : List Nat), IsInts l0 l → (∃ rest, cutsOf n 0 = done ++ [l] ++ rest) → P a done →
    ∃ a' T', run L f (l0 :: fv) ⟨trySt n f fv a, T⟩ = some (.tup [], ⟨trySt n f fv a', T'⟩) ∧ P a' (done ++ [l])
def TriedAll (n f : Nat) (fv : List AV) (P : Five → List (List Int) → Prop) (b : Nat) (l : List Int) : Prop :=
  ∀ (a : Five) (done : List (List Int)) (l0 : AV) (T : List Nat), IsInts l0 l → (∃ rest, cutsOf n 0 = done ++ (cutsOf n b).map (l ++ ·) ++ rest) → P a done →
    ∃ a' T', run L 88 [l0, I b, .ptr 5 0, .ptr 6 0, .ptr 7 0] ⟨trySt n f fv a, T⟩ = some (.tup [], ⟨trySt n f fv a', T'⟩) ∧ P a' (done ++ (cutsOf n b).map (l ++ ·))

theorem loop88 (n f : Nat) (fv : List AV) (P : Five → List (List Int) → Prop) (hn : n < 1000) (b : Nat) (l : List Int) (l0 : AV) (hl0 : IsInts l0 l) (hlb : l.length ≤ b) (lo hi2 : Nat) (hrec : ∀ e, b < e → e ≤ n → TriedAll n f fv P e (l ++ [(e : Int)])) (e : Nat) (a : Five) (T : List Nat) (done : List (List Int)) (hok : b < e ∧ e ≤ n + 1 ∧ P a done ∧ ∃ rest, cutsOf n 0 = done ++ (laterCuts n e).map (l ++ ·) ++ rest) (env : Env) (st : St)
    (hg : gcAV false lo hi2 (canon env [0, 2, 4, 7]) st = ([(0, l0), (2, .ptr 5 0), (4, .ptr 7 0), (7, I e)], ⟨trySt n f fv a, T⟩)) :
    ∃ x_1 en s, lim (headed pure (run L) false [0, 2, 4, 7] lp88_0 lo hi2) env st = some (x_1, en, s) ∧ (x_1 = .exit 0 ∧ ∃ a' T', s = ⟨trySt n f fv a', T'⟩ ∧ P a' (done ++ (laterCuts n e).map (l ++ ·))) := by
  refine loop_wp (α := Nat × Five × List Nat × List (List Int)) (fun ⟨e, a, T, done⟩ => n + 1 - e) (fun ⟨e, a, T, done⟩ => b < e ∧ e ≤ n + 1 ∧ P a done ∧ ∃ rest, cutsOf n 0 = done ++ (laterCuts n e).map (l ++ ·) ++ rest) (fun ⟨e, a, T, done⟩ => ([(0, l0), (2, .ptr 5 0), (4, .ptr 7 0), (7, I e)], ⟨trySt n f fv a, T⟩)) (fun ⟨e, a, T, done⟩ x_1 en s => x_1 = .exit 0 ∧ ∃ a' T', s = ⟨trySt n f fv a', T'⟩ ∧ P a' (done ++ (laterCuts n e).map (l ++ ·))) (fun ⟨e, a, T, done⟩ hok => ?_) ⟨e, a, T, done⟩ hok env st hg
  simp only at hok
  obtain ⟨h1, h2, h3, rest, h4⟩ := hok
  by_cases q : (e : Int) ≤ (n : Int)
  · have hs := succ64 e (by omega)
    have hmg : l.length + 1 ≤ maxGrow := by unfold maxGrow; omega
    have q1 : n + 1 - (e + 1) < n + 1 - e := by omega
    have hst := laterCuts_step (n := n) (e := e) (by omega)
    have hc : (cutsOf n e).map ((fun c => l ++ c) ∘ ((e : Int) :: ·)) = (cutsOf n e).map ((l ++ [(e : Int)]) ++ ·) := List.map_congr_left fun c _ => by simp
    rw [hst, List.map_append, List.map_map, hc, ← List.append_assoc] at h4
    have h5 : ∃ rest, cutsOf n 0 = done ++ (cutsOf n e).map ((l ++ [(e : Int)]) ++ ·) ++ rest := ⟨_, by rw [h4, List.append_assoc _ _ rest]⟩
    dsimp only
    rw [hst, List.map_append, List.map_map, hc]
    rcases hl0 with ⟨rfl, rfl⟩ | ⟨g, rfl⟩
    · have ha := append_nilI e (trySt n f fv a) T
      obtain ⟨a', T', hr, hP⟩ := hrec e h1 (by omega) a done (.lst (.own T.length 1) 1 [I e]) (T ++ [1]) (.inr ⟨_, rfl⟩) h5 h3
      obtain ⟨a0, a1, a2, a3, a4⟩ := a
      simp only [go_sem, reduceIte, Nat.reduceEqDiff, Nat.reduceAdd, Nat.reduceSub, Nat.reduceLeDiff, Nat.reduceLT, reduceCtorEq, Int.reduceLT, Int.reduceLE, Int.reduceEq, Int.reduceBEq, Int.reduceSub, Int.reduceAdd, Int.reduceMul, Int.reduceNeg, Int.reduceToNat, Nat.reduceMul, Nat.reduceBEq, index_rsl_if, setm, make_ints, condK_dec, wantK_dec, not_dec, and_dec, or_dec, seqK_ite, seqK_none, blockK_ite, blockK_none, opsK_ite, opsK_none, stepK_ite, stepK_none, bodyK_ite, bodyK_none, resK_ite, resK_none, leaveK_ite, leaveK_none, only_ite, only_none, bind_ite, gives_some, gives_none, gives_ite, then_normal, then_ret, then_exit, then_none, then_ite, Option.bind_none, Bool.not_eq_true', decide_eq_false_iff_not, Bool.and_eq_true, Bool.or_eq_true, Option.some.injEq, Int.not_lt, Int.not_le, lp88_0, q, hs, hr, ha, slice_nilI]
      refine ⟨(e + 1, a', T', _), rfl, ⟨by omega, by omega, hP, rest, h4⟩, q1, fun x_1 en s hq => ?_⟩
      rw [← List.append_assoc]
      exact hq
    · have ha := append_fullI l e (trySt n f fv a) T hmg
      have hsf := slice_fullI g l
      obtain ⟨a', T', hr, hP⟩ := hrec e h1 (by omega) a done (.lst (.own T.length (l.length + 1)) 1 ((l ++ [(e : Int)]).map I)) (T ++ [l.length + 1]) (.inr ⟨_, rfl⟩) h5 h3
      generalize hL2 : (l ++ [(e : Int)]).map I = L2 at *
      simp only [go_sem, reduceIte, Nat.reduceEqDiff, Nat.reduceAdd, Nat.reduceSub, Nat.reduceLeDiff, Nat.reduceLT, reduceCtorEq, Int.reduceLT, Int.reduceLE, Int.reduceEq, Int.reduceBEq, Int.reduceSub, Int.reduceAdd, Int.reduceMul, Int.reduceNeg, Int.reduceToNat, Nat.reduceMul, Nat.reduceBEq, index_rsl_if, setm, make_ints, condK_dec, wantK_dec, not_dec, and_dec, or_dec, seqK_ite, seqK_none, blockK_ite, blockK_none, opsK_ite, opsK_none, stepK_ite, stepK_none, bodyK_ite, bodyK_none, resK_ite, resK_none, leaveK_ite, leaveK_none, only_ite, only_none, bind_ite, gives_some, gives_none, gives_ite, then_normal, then_ret, then_exit, then_none, then_ite, Option.bind_none, Bool.not_eq_true', decide_eq_false_iff_not, Bool.and_eq_true, Bool.or_eq_true, Option.some.injEq, Int.not_lt, Int.not_le, lp88_0, q, hs, hr, ha, hsf, List.length_map]
      refine ⟨(e + 1, a', T', _), rfl, ⟨by omega, by omega, hP, rest, h4⟩, q1, fun x_1 en s hq => ?_⟩
      rw [← List.append_assoc]
      exact hq
  · dsimp only
    rw [laterCuts_end (by omega)]
    rcases hl0 with ⟨rfl, rfl⟩ | ⟨g, rfl⟩ <;> (
    simp only [go_sem, reduceIte, Nat.reduceEqDiff, Nat.reduceAdd, Nat.reduceSub, Nat.reduceLeDiff, Nat.reduceLT, reduceCtorEq, Int.reduceLT, Int.reduceLE, Int.reduceEq, Int.reduceBEq, Int.reduceSub, Int.reduceAdd, Int.reduceMul, Int.reduceNeg, Int.reduceToNat, Nat.reduceMul, Nat.reduceBEq, index_rsl_if, setm, make_ints, condK_dec, wantK_dec, not_dec, and_dec, or_dec, seqK_ite, seqK_none, blockK_ite, blockK_none, opsK_ite, opsK_none, stepK_ite, stepK_none, bodyK_ite, bodyK_none, resK_ite, resK_none, leaveK_ite, leaveK_none, only_ite, only_none, bind_ite, gives_some, gives_none, gives_ite, then_normal, then_ret, then_exit, then_none, then_ite, Option.bind_none, Bool.not_eq_true', decide_eq_false_iff_not, Bool.and_eq_true, Bool.or_eq_true, Option.some.injEq, Int.not_lt, Int.not_le, lp88_0, q]
    exact ⟨a, T, rfl, by simpa using h3⟩)

theorem c88 (n f : Nat) (fv : List AV) (P : Five → List (List Int) → Prop) (hn : n < 1000) (hpf : pure f = false) (hE : Each n f fv P) : ∀ (m b : Nat), n - b = m → b ≤ n → ∀ l : List Int, l.length ≤ b → TriedAll n f fv P b l := by
  intro m
  induction m using Nat.strongRecOn with
  | ind m ih =>
    intro b hm hb l hlb a done l0 T hl0 hpre hP
    rw [run_shared (fn := ir88) rfl rfl]
    by_cases q : b = n
    · subst q
      have hc : (cutsOf b b).map (l ++ ·) = [l] := by rw [cutsOf_end (Nat.le_refl _)]; simp
      rw [hc] at hpre ⊢
      obtain ⟨a', T', hr, hP'⟩ := hE a done l l0 T hl0 hpre hP
      obtain ⟨a0, a1, a2, a3, a4⟩ := a
      rcases hl0 with ⟨rfl, rfl⟩ | ⟨g, rfl⟩ <;> (
      simp only [ir88, go_sem, reduceIte, Nat.reduceEqDiff, Nat.reduceAdd, Nat.reduceSub, Nat.reduceLeDiff, Nat.reduceLT, reduceCtorEq, Int.reduceLT, Int.reduceLE, Int.reduceEq, Int.reduceBEq, Int.reduceSub, Int.reduceAdd, Int.reduceMul, Int.reduceNeg, Int.reduceToNat, Nat.reduceMul, Nat.reduceBEq, hpf, hr]
      exact ⟨a', T', rfl, hP'⟩)
    · have q' : ((b : Int) = (n : Int)) = False := eq_false (by omega)
      have hs := succ64 b (by omega)
      have hrec : ∀ e, b < e → e ≤ n → TriedAll n f fv P e (l ++ [(e : Int)]) := fun e h1 h2 => ih (n - e) (by omega) e rfl h2 (l ++ [(e : Int)]) (by simp; omega)
      rw [← laterCuts_eq (show b < n by omega)] at hpre ⊢
      have hl0' := hl0
      rcases hl0' with ⟨rfl, rfl⟩ | ⟨g, rfl⟩ <;> (
      simp only [ir88, go_sem, reduceIte, Nat.reduceEqDiff, Nat.reduceAdd, Nat.reduceSub, Nat.reduceLeDiff, Nat.reduceLT, reduceCtorEq, Int.reduceLT, Int.reduceLE, Int.reduceEq, Int.reduceBEq, Int.reduceSub, Int.reduceAdd, Int.reduceMul, Int.reduceNeg, Int.reduceToNat, Nat.reduceMul, Nat.reduceBEq, q', hs]
      generalize hg : lim (headed pure (run L) false _ lp88_0 _ _) _ _ = o
      obtain ⟨x, en, s, rfl, h2⟩ : ∃ x en s, o = some (x, en, s) ∧ _ := by rw [← hg]; exact loop88 n f fv P hn b _ _ hl0 hlb _ _ hrec (b + 1) a T done ⟨by omega, by omega, hP, hpre⟩ _ _ (by simp only [go_sem, reduceIte, Nat.reduceEqDiff, Nat.reduceAdd, Nat.reduceSub, Nat.reduceLeDiff, Nat.reduceLT, reduceCtorEq, Int.reduceLT, Int.reduceLE, Int.reduceEq, Int.reduceBEq, Int.reduceSub, Int.reduceAdd, Int.reduceMul, Int.reduceNeg, Int.reduceToNat, Nat.reduceMul, Nat.reduceBEq] <;> rfl)
      clear hg
      obtain ⟨rfl, a', T', h5, hP'⟩ := h2
      subst h5
      simp only [go_sem, reduceIte, Nat.reduceEqDiff, Nat.reduceAdd, Nat.reduceSub, Nat.reduceLeDiff, Nat.reduceLT, reduceCtorEq, Int.reduceLT, Int.reduceLE, Int.reduceEq, Int.reduceBEq, Int.reduceSub, Int.reduceAdd, Int.reduceMul, Int.reduceNeg, Int.reduceToNat, Nat.reduceMul, Nat.reduceBEq]
      exact ⟨a', T', rfl, hP'⟩)

theorem c47 (n f : Nat) (fv : List AV) (P : Five → List (List Int) → Prop) (hn : n < 1000) (hpf : pure f = false) (hE : Each n f fv P) (a : Five) (T : List Nat) (hP : P a []) :
    ∃ a' T', run L 47 [I n, .fn (.func f) [] fv] ⟨[a.c0, a.c1, a.c2, a.c3, a.c4], T⟩ = some (.tup [], ⟨trySt n f fv a', T'⟩) ∧ P a' (cutsOf n 0) := by
  obtain ⟨a', T', h, hP'⟩ := c88 n f fv P hn hpf hE (n - 0) 0 rfl (Nat.zero_le _) [] (Nat.le_refl _) a [] (.v (.slice none 0 0)) T (.inl ⟨rfl, rfl⟩) ⟨[], by simp⟩ hP
  rw [run_shared (fn := ir47) rfl rfl]
  simp only [Int.natCast_zero] at h
  simp only [ir47, go_sem, reduceIte, Nat.reduceEqDiff, Nat.reduceAdd, Nat.reduceSub, Nat.reduceLeDiff, Nat.reduceLT, reduceCtorEq, Int.reduceLT, Int.reduceLE, Int.reduceEq, Int.reduceBEq, Int.reduceSub, Int.reduceAdd, Int.reduceMul, Int.reduceNeg, Int.reduceToNat, Nat.reduceMul, Nat.reduceBEq, h]
  exact ⟨a', T', rfl, by simpa using hP'⟩
end Go.Proofs.Ytiifibgadipalaa.Vm

namespace Go.Proofs.Ytiifibgadipalaa.Vm
open Go Go.Ev
set_option maxRecDepth 100000
attribute [local go_sem] cells_any storable_any ren1_any shaped_ptr cells_ptr storable_ptr ren1_ptr shaped_eptr cells_eptr storable_eptr ren1_eptr shaped_rsl cells_rsl storable_rsl ren1_rsl shaped_int cells_int storable_int ren1_int shaped_bool cells_bool storable_bool ren1_bool shaped_nils cells_nils storable_nils ren1_nils shaped_lst cells_lst storable_lst shaped_fn cells_fn storable_fn ren1_fn shaped_ifc cells_ifc storable_ifc ren1_ifc shaped_agg cells_agg storable_agg ren1_agg shaped_tup cells_tup storable_tup ren1_tup shaped_nif cells_nif storable_nif ren1_nif ren1_lany ren1_lfull ren1_lown len_lst len_rsl len_nil load_ptr load_eptr isRsl_lst isRsl_nil isRsl_rsl elems_nil elems_lst elems_sl isRsl_sl body_eq bodyK_normal bodyK_ret resK_some leaveK_some only_some code_skip code_exit code_ret code_ops code_seq code_cond code_block seqK_normal seqK_ret seqK_exit condK_true condK_false blockK_normal blockK_ret blockK_exit opsK_some ops_nil ops_cons wantK_true wantK_false stepK_some pubs pub pub_sl params okRef_loc storable_loc shaped_loc cells_loc isRsl_loc elems_loc len_loc untips untip untip_sl wantedAV setElems withO isAgg_v isAgg_agg isAgg_lst isAgg_ptr isAgg_fn isAgg_ifc isAgg_rsl isAgg_sl isAgg_loc List.replicate_succ List.replicate_zero opAV valAV aval avals ofVal Env.get setD canon gcAV renAll renEnv renStore renCells ren1_sl cutSt okEnv okStore okRefs okRef okRef_sl bin_int bin_bool bin_lst bin_rsl bin_nil bin_agg cellsEq cellEq isShift intOp boolOp min_int max_int beq_int bne resAV tupAV leave_eq fin_sl fin_loc fins fin_v fin_lst fin_agg fin_tup fin_fn storeAV readCells putCells cells_sl shaped_sl storable_sl fieldAddrAV len_sl goI List.getElem?_cons_zero List.getElem?_cons_succ List.getElem?_nil Option.bind_some Option.map_some List.length_cons List.length_nil List.all_cons List.all_nil Bool.and_true Bool.true_and Bool.and_false Bool.false_and and_true true_and and_false false_and Bool.false_eq_true List.set_cons_zero List.set_cons_succ List.append_nil List.nil_append List.cons_append List.take_zero List.take_succ_cons List.take_nil List.drop_zero List.drop_succ_cons List.map_cons List.map_nil decide_true decide_false beq_self_eq_true Bool.not_true Bool.not_false or_true true_or or_false false_or Nat.zero_add Nat.add_zero Nat.le_refl Nat.lt_irrefl decide_eq_true_eq eq_self_iff_true not_true_eq_false not_false_eq_true List.getD_cons_zero code_loop Nat.zero_le Nat.not_lt_zero Bool.true_beq Bool.false_beq beq_true beq_false ge_iff_le gt_iff_lt Lpure pus Option.map_none assert_ifc assert_nil idxA_ptr idxA_eptr idxV_agg Int.cast_ofNat_Int Nat.mul_one Nat.zero_mul Int.toNat_natCast Int.toNat_zero setParts withO2 eqnil_sl nenil_sl eqnil_loc nenil_loc map_nil_iff okRefs_ints renCells_ints

theorem goodP_ok (arts : List (Int × Int)) (room floor : Int) (safe : Bool) (c : List Int) :
    okC (goodP arts room floor safe) 0 c = (decide (firstV (mosts arts) (fun n => decide (n > room)) 0 0 c < 0) && (!safe || decide (firstV (leasts arts) (fun n => decide (n < floor)) 0 0 c < 0))) := by
  have h1 : okC (fun b e => decide (seg (mosts arts) b e ≤ room)) 0 c = decide (firstV (mosts arts) (fun n => decide (n > room)) 0 0 c < 0) := by
    rw [Bool.eq_iff_iff, decide_eq_true_eq, firstV_neg, okC_congr (q := fun b e => !decide (seg (mosts arts) b e > room)) (fun b e => by rw [Bool.eq_iff_iff]; simp)]
  have h2 : okC (fun b e => decide (floor ≤ seg (leasts arts) b e)) 0 c = decide (firstV (leasts arts) (fun n => decide (n < floor)) 0 0 c < 0) := by
    rw [Bool.eq_iff_iff, decide_eq_true_eq, firstV_neg, okC_congr (q := fun b e => !decide (seg (leasts arts) b e < floor)) (fun b e => by rw [Bool.eq_iff_iff]; simp)]
  rw [← h1, ← h2]
  cases safe with
  | true => rw [okC_congr (q := fun b e => decide (seg (mosts arts) b e ≤ room) && decide (floor ≤ seg (leasts arts) b e)) (fun b e => by simp [goodP]), okC_and]; simp
  | false => rw [okC_congr (q := fun b e => decide (seg (mosts arts) b e ≤ room)) (fun b e => by simp [goodP])]; simp

theorem c49l (g : Tag) (nl : Bool) (arts : List (Int × Int)) (room floor : Int) (hc : check arts room floor = 0) (ends : List Int) (hlen : ends.length < 1000) (hcut : loopErr arts.length 0 ends = 0) (st : St) :
    run L 49 [bookAV nl arts room floor, .lst g 1 (ends.map I)] st = some (.tup [I (firstV (mosts arts) (fun n => decide (n > room)) 0 0 ends), I (firstV (leasts arts) (fun n => decide (n > room)) 0 0 ends), B (decide (0 ≤ firstV (leasts arts) (fun n => decide (n < floor)) 0 0 ends))], st) := by
  have h := c49 nl false arts room floor hc ends hlen hcut st
  rw [run_pure (fn := ir49) rfl rfl] at h ⊢
  rw [← sl_false] at h
  exact h

def goodsOf (arts : List (Int × Int)) (room floor : Int) (safe : Bool) (done : List (List Int)) : List (List Int) := done.filter (okC (goodP arts room floor safe) 0)
end Go.Proofs.Ytiifibgadipalaa.Vm

namespace Go.Proofs.Ytiifibgadipalaa.Vm
open Go Go.Ev
set_option maxRecDepth 100000
attribute [local go_sem] cells_any storable_any ren1_any shaped_ptr cells_ptr storable_ptr ren1_ptr shaped_eptr cells_eptr storable_eptr ren1_eptr shaped_rsl cells_rsl storable_rsl ren1_rsl shaped_int cells_int storable_int ren1_int shaped_bool cells_bool storable_bool ren1_bool shaped_nils cells_nils storable_nils ren1_nils shaped_lst cells_lst storable_lst shaped_fn cells_fn storable_fn ren1_fn shaped_ifc cells_ifc storable_ifc ren1_ifc shaped_agg cells_agg storable_agg ren1_agg shaped_tup cells_tup storable_tup ren1_tup shaped_nif cells_nif storable_nif ren1_nif ren1_lany ren1_lfull ren1_lown len_lst len_rsl len_nil load_ptr load_eptr isRsl_lst isRsl_nil isRsl_rsl elems_nil elems_lst elems_sl isRsl_sl body_eq bodyK_normal bodyK_ret resK_some leaveK_some only_some code_skip code_exit code_ret code_ops code_seq code_cond code_block seqK_normal seqK_ret seqK_exit condK_true condK_false blockK_normal blockK_ret blockK_exit opsK_some ops_nil ops_cons wantK_true wantK_false stepK_some pubs pub pub_sl params okRef_loc storable_loc shaped_loc cells_loc isRsl_loc elems_loc len_loc untips untip untip_sl wantedAV setElems withO isAgg_v isAgg_agg isAgg_lst isAgg_ptr isAgg_fn isAgg_ifc isAgg_rsl isAgg_sl isAgg_loc List.replicate_succ List.replicate_zero opAV valAV aval avals ofVal Env.get setD canon gcAV renAll renEnv renStore renCells ren1_sl cutSt okEnv okStore okRefs okRef okRef_sl bin_int bin_bool bin_lst bin_rsl bin_nil bin_agg cellsEq cellEq isShift intOp boolOp min_int max_int beq_int bne resAV tupAV leave_eq fin_sl fin_loc fins fin_v fin_lst fin_agg fin_tup fin_fn storeAV readCells putCells cells_sl shaped_sl storable_sl fieldAddrAV len_sl goI List.getElem?_cons_zero List.getElem?_cons_succ List.getElem?_nil Option.bind_some Option.map_some List.length_cons List.length_nil List.all_cons List.all_nil Bool.and_true Bool.true_and Bool.and_false Bool.false_and and_true true_and and_false false_and Bool.false_eq_true List.set_cons_zero List.set_cons_succ List.append_nil List.nil_append List.cons_append List.take_zero List.take_succ_cons List.take_nil List.drop_zero List.drop_succ_cons List.map_cons List.map_nil decide_true decide_false beq_self_eq_true Bool.not_true Bool.not_false or_true true_or or_false false_or Nat.zero_add Nat.add_zero Nat.le_refl Nat.lt_irrefl decide_eq_true_eq eq_self_iff_true not_true_eq_false not_false_eq_true List.getD_cons_zero code_loop Nat.zero_le Nat.not_lt_zero Bool.true_beq Bool.false_beq beq_true beq_false ge_iff_le gt_iff_lt Lpure pus Option.map_none assert_ifc assert_nil idxA_ptr idxA_eptr idxV_agg Int.cast_ofNat_Int Nat.mul_one Nat.zero_mul Int.toNat_natCast Int.toNat_zero setParts withO2 eqnil_sl nenil_sl eqnil_loc nenil_loc map_nil_iff okRefs_ints renCells_ints

/-- A cut each of whose volumes is as long as possible. -/
def Greedy (n : Nat) (p : Int → Int → Bool) : Nat → List Int → Prop
  | b, [] => n ≤ b
  | b, e :: r => ∃ E : Nat, e = E ∧ b < E ∧ E ≤ n ∧ p b E = true ∧ (∀ e' : Nat, E < e' → e' ≤ n → p b e' = false) ∧ Greedy n p E r

/-- No volume of another good cut ends later. -/
theorem greedy_last {n : Nat} {p : Int → Int → Bool} (hp : Mono n p) : ∀ (f c : List Int) (b b' : Nat), b' ≤ b → Greedy n p b f → IsGood n p b' c → ∀ v, v < c.length → v < f.length → c.getD v 0 ≤ f.getD v 0
  | [], _, _, _, _, _, _, v, _, h => by simp at h
  | _ :: _, [], _, _, _, _, _, v, h, _ => by simp at h
  | e :: r, x :: c, b, b', hb, hg, hc, v, h1, h2 => by
    obtain ⟨E, rfl, q1, q2, q3, q4, q5⟩ := hg
    obtain ⟨X, rfl, w1, w2, w3, w4⟩ := hc
    have hXE : X ≤ E := by
      apply Classical.byContradiction
      intro h
      have h3 := q4 X (by omega) w2
      have h4 := hp b' b X X hb (by omega) (Nat.le_refl _) w2 w3
      rw [h3] at h4; simp at h4
    cases v with
    | zero => simp only [List.getD_cons_zero]; omega
    | succ v =>
      simp only [List.getD_cons_succ]
      exact greedy_last hp r c E X hXE q5 w4 v (by simpa using h1) (by simpa using h2)

theorem fill_greedy (l : List Int) (room : Int) (n : Nat) (hp : Mono n (fun b e => decide (seg l b e ≤ room))) (hsing : ∀ e : Nat, 1 ≤ e → e ≤ n → seg l ((e : Int) - 1) e ≤ room) :
    ∀ (k b e : Nat) (out : List Int), e + k = n + 1 → b < e → (e = b + 1 ∨ seg l b ((e : Int) - 1) ≤ room) → b < n →
      ∃ r, fillFrom l room k b e out = some (out ++ r) ∧ Greedy n (fun b e => decide (seg l b e ≤ room)) b (r ++ [(n : Int)])
  | 0, b, e, out, hk, hbe, hpre, hbn => by
    refine ⟨[], by simp [fillFrom], ?_⟩
    have h1 : decide (seg l b n ≤ room) = true := by
      rcases hpre with h | h
      · have := hsing (b + 1) (by omega) (by omega)
        rw [show ((b + 1 : Nat) : Int) - 1 = b by omega] at this
        rw [show n = b + 1 by omega]; simpa using this
      · rw [show (e : Int) - 1 = n by omega] at h; simpa using h
    exact ⟨n, rfl, hbn, Nat.le_refl _, h1, fun e h1 h2 => by omega, Nat.le_refl _⟩
  | k + 1, b, e, out, hk, hbe, hpre, hbn => by
    simp only [fillFrom]
    rw [if_neg (by have := hsing e (by omega) (by omega); omega)]
    split
    · next hlt =>
      have hb1 : b < e - 1 := by
        rcases hpre with h | h
        · exfalso
          have := hsing e (by omega) (by omega)
          rw [h] at this hlt
          rw [show ((b + 1 : Nat) : Int) - 1 = b by omega] at this
          omega
        · rcases Nat.lt_or_ge b (e - 1) with h1 | h1
          · exact h1
          · exfalso
            have := hsing e (by omega) (by omega)
            rw [show (e : Int) - 1 = b by omega] at this
            omega
      have hE : seg l b ((e : Int) - 1) ≤ room := by
        rcases hpre with h | h
        · omega
        · exact h
      obtain ⟨r, h1, h2⟩ := fill_greedy l room n hp hsing k (e - 1) (e + 1) (out ++ [(e : Int) - 1]) (by omega) (by omega) (.inr (by
        have := hsing e (by omega) (by omega)
        rw [show ((e - 1 : Nat) : Int) = (e : Int) - 1 by omega, show ((e + 1 : Nat) : Int) - 1 = e by omega]; exact this)) (by omega)
      refine ⟨((e : Int) - 1) :: r, by rw [h1]; simp, e - 1, by omega, hb1, by omega, ?_, fun e' h3 h4 => ?_, h2⟩
      · rw [show ((e - 1 : Nat) : Int) = (e : Int) - 1 by omega]; simpa using hE
      · rw [decide_eq_false_iff_not]
        intro h5
        have := hp b b e e' (Nat.le_refl _) (by omega) (by omega) h4 (by simpa using h5)
        simp at this; omega
    · next hlt =>
      exact fill_greedy l room n hp hsing k b (e + 1) out (by omega) (by omega) (.inr (by rw [show ((e + 1 : Nat) : Int) - 1 = e by omega]; omega)) hbn

theorem filled_greedy {arts : List (Int × Int)} {room floor : Int} (hc : check arts room floor = 0) (hs : ∀ a ∈ arts, a.2 ≤ room) :
    Greedy arts.length (fun b e => decide (seg (mosts arts) b e ≤ room)) 0 (filled (mosts arts) room) := by
  obtain ⟨g1, g2, g3, g4⟩ := mosts_ok hc
  have hs' := (singles_iff room).2 hs
  obtain ⟨r, h1, h2⟩ := fill_greedy (mosts arts) room arts.length (mono_room hc) hs' arts.length 0 1 [] (by omega) (by omega) (.inl rfl) (by omega)
  have hf : filled (mosts arts) room = r ++ [(arts.length : Int)] := by
    unfold filled
    rw [g2, Nat.add_sub_cancel, h1]
    simp only [List.nil_append]
    congr 2; omega
  rw [hf]
  exact h2

/-! ### the longest rows -/

theorem rowOf_eq {n : Nat} {la : Nat → Nat} (hla : ∀ x, x < n → x < la x ∧ la x ≤ n) (x : Nat) (hx : x < n) : rowOf n la x = if la x < n then max (rowOf n la (x + 1)) (1 + rowOf n la (la x)) else rowOf n la (x + 1) := by
  have := hla x hx
  rw [rowOf, if_pos hx, show max (x + 1) (la x) = la x by omega]
theorem rowOf_end {n : Nat} {la : Nat → Nat} {x : Nat} (h : n ≤ x) : rowOf n la x = 0 := by rw [rowOf, if_neg (by omega)]
theorem rowOf_step {n : Nat} {la : Nat → Nat} (hla : ∀ x, x < n → x < la x ∧ la x ≤ n) (x : Nat) : rowOf n la (x + 1) ≤ rowOf n la x := by
  by_cases hx : x < n
  · rw [rowOf_eq hla x hx]; split <;> omega
  · rw [rowOf_end (show n ≤ x + 1 by omega)]; omega
theorem rowOf_anti {n : Nat} {la : Nat → Nat} (hla : ∀ x, x < n → x < la x ∧ la x ≤ n) (x : Nat) : ∀ k, rowOf n la (x + k) ≤ rowOf n la x
  | 0 => Nat.le_refl _
  | k + 1 => Nat.le_trans (rowOf_step hla (x + k)) (rowOf_anti hla x k)
/-- The longest row begins with the shortest stretch. -/
theorem rowOf_first {n : Nat} {la : Nat → Nat} (hla : ∀ x, x < n → x < la x ∧ la x ≤ n) (hm : ∀ x, x + 1 < n → la x ≤ la (x + 1)) : ∀ (m x : Nat), n - x = m → x < n → rowOf n la x = if la x < n then 1 + rowOf n la (la x) else 0 := by
  intro m
  induction m using Nat.strongRecOn with
  | ind m ih =>
    intro x hm' hx
    rw [rowOf_eq hla x hx]
    have h1 := hla x hx
    by_cases h2 : x + 1 < n
    · have h3 := ih (n - (x + 1)) (by omega) (x + 1) rfl h2
      have h4 := hm x h2
      by_cases h5 : la x < n
      · rw [if_pos h5, if_pos h5]
        have h6 := rowOf_anti hla (la x) (la (x + 1) - la x)
        rw [show la x + (la (x + 1) - la x) = la (x + 1) by omega] at h6
        split at h3 <;> omega
      · rw [if_neg h5, if_neg h5, h3, if_neg (by omega)]
    · rw [rowOf_end (show n ≤ x + 1 by omega)]
      rw [if_neg (by omega), if_neg (by omega)]

/-- THE STAGE'S THEOREM: as many volumes as stretches in the longest row, and one more. -/
theorem greedy_row {n : Nat} {p : Int → Int → Bool} {la : Nat → Nat} (hla : ∀ x, x < n → x < la x ∧ la x ≤ n) (hm : ∀ x, x + 1 < n → la x ≤ la (x + 1))
    (hpla : ∀ x E : Nat, x < E → E ≤ n → p x E = true → (∀ e' : Nat, E < e' → e' ≤ n → p x e' = false) → la x = E) : ∀ (f : List Int) (b : Nat), b < n → Greedy n p b f → f.length = 1 + rowOf n la b
  | [], b, hb, h => by simp only [Greedy] at h; omega
  | e :: r, b, hb, h => by
    obtain ⟨E, rfl, q1, q2, q3, q4, q5⟩ := h
    have h1 := hpla b E q1 q2 q3 q4
    have h2 := rowOf_first hla hm _ b rfl hb
    rw [h1] at h2
    by_cases h3 : E < n
    · rw [if_pos h3] at h2
      have := greedy_row hla hm hpla r E h3 q5
      rw [List.length_cons, this, h2]; omega
    · rw [if_neg h3] at h2
      cases r with
      | nil => rw [h2]; rfl
      | cons x t => obtain ⟨X, _, h4, h5, _⟩ := q5; omega

theorem last_greedy {arts : List (Int × Int)} {room0 floor : Int} (hck : check arts room0 floor = 0) (room : Int) (x E : Nat) (h1 : x < E) (h2 : E ≤ arts.length) (h3 : decide (seg (mosts arts) x E ≤ room) = true)
    (h4 : ∀ e' : Nat, E < e' → e' ≤ arts.length → decide (seg (mosts arts) x e' ≤ room) = false) : lastOfArt (mosts arts) room arts.length x = E := by
  obtain ⟨k1, k2⟩ := lastOfArt_ok (mosts arts) room arts.length x (by omega)
  obtain ⟨k3, k4⟩ := stretchEnd_spec (mosts arts) room arts.length x (arts.length - (x + 1)) (x + 1) (by omega)
  have hm := mono_any hck room
  have e0 : lastOfArt (mosts arts) room arts.length x = stretchEnd (mosts arts) room arts.length x (arts.length - (x + 1)) (x + 1) := rfl
  rw [← e0] at k3 k4
  generalize lastOfArt (mosts arts) room arts.length x = Y at *
  rw [decide_eq_true_eq] at h3
  rcases Nat.lt_trichotomy Y E with h | h | h
  · have h5 := k4 (by omega)
    have h6 := hm x x (Y + 1) E (Nat.le_refl _) (by omega) (by omega) h2 (by simpa using h3)
    rw [decide_eq_true_eq, show ((Y + 1 : Nat) : Int) = (Y : Int) + 1 by omega] at h6
    omega
  · exact h
  · have h5 := k3 E (by omega) h
    have h6 := h4 (E + 1) (by omega) (by omega)
    rw [decide_eq_false_iff_not, show ((E + 1 : Nat) : Int) = (E : Int) + 1 by omega] at h6
    omega
theorem last_mono {arts : List (Int × Int)} {room0 floor : Int} (hck : check arts room0 floor = 0) (room : Int) (x : Nat) (hx : x + 1 < arts.length) : lastOfArt (mosts arts) room arts.length x ≤ lastOfArt (mosts arts) room arts.length (x + 1) := by
  obtain ⟨k1, k2⟩ := lastOfArt_ok (mosts arts) room arts.length x (by omega)
  obtain ⟨j1, j2⟩ := lastOfArt_ok (mosts arts) room arts.length (x + 1) (by omega)
  obtain ⟨k3, _⟩ := stretchEnd_spec (mosts arts) room arts.length x (arts.length - (x + 1)) (x + 1) (by omega)
  obtain ⟨_, j4⟩ := stretchEnd_spec (mosts arts) room arts.length (x + 1) (arts.length - (x + 1 + 1)) (x + 1 + 1) (by omega)
  have hm := mono_any hck room
  have e0 : lastOfArt (mosts arts) room arts.length x = stretchEnd (mosts arts) room arts.length x (arts.length - (x + 1)) (x + 1) := rfl
  have e1 : lastOfArt (mosts arts) room arts.length (x + 1) = stretchEnd (mosts arts) room arts.length (x + 1) (arts.length - (x + 1 + 1)) (x + 1 + 1) := rfl
  rw [← e0] at k3
  rw [← e1] at j4
  generalize lastOfArt (mosts arts) room arts.length x = Y at *
  generalize lastOfArt (mosts arts) room arts.length (x + 1) = Z at *
  apply Classical.byContradiction
  intro h
  have h5 := k3 Z (by omega) (by omega)
  have h6 := j4 (by omega)
  have h7 := hm x (x + 1) (Z + 1) (Z + 1) (by omega) (by omega) (Nat.le_refl _) (by omega) (by rw [decide_eq_true_eq, show ((Z + 1 : Nat) : Int) = (Z : Int) + 1 by omega]; exact h5)
  rw [decide_eq_true_eq, show ((Z + 1 : Nat) : Int) = (Z : Int) + 1 by omega] at h7
  omega
/-- The longest row proves the number. -/
theorem row_proves (arts : List (Int × Int)) (room : Int) : ∀ (m x : Nat) (from' : Int), arts.length - x = m → from' ≤ x → provesFrom arts.length (mosts arts) room from' (rowD arts.length (lastOfArt (mosts arts) room arts.length) x) = 0 := by
  intro m
  induction m using Nat.strongRecOn with
  | ind m ih =>
    intro x from' hm hf
    rw [rowD]
    by_cases hx : x < arts.length
    · rw [if_pos hx]
      obtain ⟨k1, k2⟩ := lastOfArt_ok (mosts arts) room arts.length x hx
      obtain ⟨_, k4⟩ := stretchEnd_spec (mosts arts) room arts.length x (arts.length - (x + 1)) (x + 1) (by omega)
      have e0 : lastOfArt (mosts arts) room arts.length x = stretchEnd (mosts arts) room arts.length x (arts.length - (x + 1)) (x + 1) := rfl
      rw [← e0] at k4
      split
      · next h =>
        have h5 := k4 h.1
        simp only [provesFrom]
        rw [if_neg (by omega), if_neg (by omega), if_neg (by omega)]
        exact ih (arts.length - max (x + 1) (lastOfArt (mosts arts) room arts.length x)) (by omega) _ _ rfl (by omega)
      · exact ih (arts.length - (x + 1)) (by omega) _ _ rfl (by omega)
    · rw [if_neg hx]; rfl
end Go.Proofs.Ytiifibgadipalaa.Vm

namespace Go.Proofs.Ytiifibgadipalaa.Vm
open Go Go.Ev
set_option maxRecDepth 100000
attribute [local go_sem] cells_any storable_any ren1_any shaped_ptr cells_ptr storable_ptr ren1_ptr shaped_eptr cells_eptr storable_eptr ren1_eptr shaped_rsl cells_rsl storable_rsl ren1_rsl shaped_int cells_int storable_int ren1_int shaped_bool cells_bool storable_bool ren1_bool shaped_nils cells_nils storable_nils ren1_nils shaped_lst cells_lst storable_lst shaped_fn cells_fn storable_fn ren1_fn shaped_ifc cells_ifc storable_ifc ren1_ifc shaped_agg cells_agg storable_agg ren1_agg shaped_tup cells_tup storable_tup ren1_tup shaped_nif cells_nif storable_nif ren1_nif ren1_lany ren1_lfull ren1_lown len_lst len_rsl len_nil load_ptr load_eptr isRsl_lst isRsl_nil isRsl_rsl elems_nil elems_lst elems_sl isRsl_sl body_eq bodyK_normal bodyK_ret resK_some leaveK_some only_some code_skip code_exit code_ret code_ops code_seq code_cond code_block seqK_normal seqK_ret seqK_exit condK_true condK_false blockK_normal blockK_ret blockK_exit opsK_some ops_nil ops_cons wantK_true wantK_false stepK_some pubs pub pub_sl params okRef_loc storable_loc shaped_loc cells_loc isRsl_loc elems_loc len_loc untips untip untip_sl wantedAV setElems withO isAgg_v isAgg_agg isAgg_lst isAgg_ptr isAgg_fn isAgg_ifc isAgg_rsl isAgg_sl isAgg_loc List.replicate_succ List.replicate_zero opAV valAV aval avals ofVal Env.get setD canon gcAV renAll renEnv renStore renCells ren1_sl cutSt okEnv okStore okRefs okRef okRef_sl bin_int bin_bool bin_lst bin_rsl bin_nil bin_agg cellsEq cellEq isShift intOp boolOp min_int max_int beq_int bne resAV tupAV leave_eq fin_sl fin_loc fins fin_v fin_lst fin_agg fin_tup fin_fn storeAV readCells putCells cells_sl shaped_sl storable_sl fieldAddrAV len_sl goI List.getElem?_cons_zero List.getElem?_cons_succ List.getElem?_nil Option.bind_some Option.map_some List.length_cons List.length_nil List.all_cons List.all_nil Bool.and_true Bool.true_and Bool.and_false Bool.false_and and_true true_and and_false false_and Bool.false_eq_true List.set_cons_zero List.set_cons_succ List.append_nil List.nil_append List.cons_append List.take_zero List.take_succ_cons List.take_nil List.drop_zero List.drop_succ_cons List.map_cons List.map_nil decide_true decide_false beq_self_eq_true Bool.not_true Bool.not_false or_true true_or or_false false_or Nat.zero_add Nat.add_zero Nat.le_refl Nat.lt_irrefl decide_eq_true_eq eq_self_iff_true not_true_eq_false not_false_eq_true List.getD_cons_zero code_loop Nat.zero_le Nat.not_lt_zero Bool.true_beq Bool.false_beq beq_true beq_false ge_iff_le gt_iff_lt Lpure pus Option.map_none assert_ifc assert_nil idxA_ptr idxA_eptr idxV_agg Int.cast_ofNat_Int Nat.mul_one Nat.zero_mul Int.toNat_natCast Int.toNat_zero setParts withO2 eqnil_sl nenil_sl eqnil_loc nenil_loc map_nil_iff okRefs_ints renCells_ints

abbrev caps48 : List AV := [.ptr 1 0, .ptr 3 0, .ptr 4 0, .ptr 2 0]
/-- The fewest volumes of some cuts, n at most. -/
def fewN (n : Nat) (l : List (List Int)) : Nat := l.foldl (fun m c => min m c.length) n
theorem fewN_le : ∀ (l : List (List Int)) (n : Nat), fewN n l ≤ n ∧ ∀ c ∈ l, fewN n l ≤ c.length
  | [], n => ⟨Nat.le_refl _, fun c h => by simp at h⟩
  | x :: r, n => by
    obtain ⟨h1, h2⟩ := fewN_le r (min n x.length)
    have e : fewN n (x :: r) = fewN (min n x.length) r := rfl
    rw [e]
    refine ⟨by omega, fun c hc => ?_⟩
    rcases List.mem_cons.1 hc with rfl | hc
    · omega
    · exact h2 c hc
theorem fewN_ge (k : Nat) : ∀ (l : List (List Int)) (n : Nat), k ≤ n → (∀ c ∈ l, k ≤ c.length) → k ≤ fewN n l
  | [], n, h, _ => h
  | x :: r, n, h, hl => fewN_ge k r (min n x.length) (by have := hl x (by simp); omega) fun c hc => hl c (by simp [hc])
theorem fewN_snoc (n : Nat) (l : List (List Int)) (x : List Int) : fewN n (l ++ [x]) = min (fewN n l) x.length := by simp [fewN]

def strP (s0 : Shelf) (arts : List (Int × Int)) (room floor : Int) (F : List Int) (a : Five) (done : List (List Int)) : Prop :=
  a.c0 = s0.cells ∧ a.c1 = bookCells true arts room floor ∧ a.c2 = [sl 1 true (F.map I)] ∧ a.c3 = [I (fewN arts.length (goodsOf arts room floor false done))] ∧ a.c4 = [B true]

theorem loop48 (n f : Nat) (fv : List AV) (a0 a1 a3 : List AV) (F : List Int) (T : List Nat) (g : Tag) (l : List Int) (hl : l.length < 1000) (hF : F.length < 1000) (hd : ∀ v, v < l.length → v < F.length → l.getD v 0 ≤ F.getD v 0) (lo hi2 : Nat) (v : Nat) (hok : v ≤ l.length) (env : Env) (st : St)
    (hg : gcAV false lo hi2 (canon env [3, 4, 24, 25, 26]) st = ([(3, .ptr 4 0), (4, .ptr 2 0), (24, .lst g 1 (l.map I)), (25, I l.length), (26, I v)], ⟨trySt n f fv ⟨a0, a1, [sl 1 true (F.map I)], a3, [B true]⟩, T⟩)) :
    ∃ x_1 en s, lim (headed pure (run L) false [3, 4, 24, 25, 26] lp48_0 lo hi2) env st = some (x_1, en, s) ∧ (x_1 = .exit 0 ∧ s = ⟨trySt n f fv ⟨a0, a1, [sl 1 true (F.map I)], a3, [B true]⟩, T⟩) := by
  refine loop_wp (α := Nat) (fun v => l.length - v) (fun v => v ≤ l.length) (fun v => ([(3, .ptr 4 0), (4, .ptr 2 0), (24, .lst g 1 (l.map I)), (25, I l.length), (26, I v)], ⟨trySt n f fv ⟨a0, a1, [sl 1 true (F.map I)], a3, [B true]⟩, T⟩)) (fun v x_1 en s => x_1 = .exit 0 ∧ s = ⟨trySt n f fv ⟨a0, a1, [sl 1 true (F.map I)], a3, [B true]⟩, T⟩) (fun v hok => ?_) v hok env st hg
  by_cases q : (v : Int) < (l.length : Int)
  · have hs := succ64 v (by omega)
    have x0 : (0 ≤ (v : Int)) = True := eq_true (by omega)
    have hx : indexSAV 1 (.lst g 1 (l.map I)) (.v (.int .i64 v)) = some (.eptr (I (l.getD v 0)) 0) := by
      simp [indexSAV, List.getD_eq_getElem?_getD, List.getElem?_eq_getElem (show v < l.length by omega)]
    have q1 : l.length - (v + 1) < l.length - v := by omega
    have q2 : v + 1 ≤ l.length := by omega
    by_cases p : (F.length : Int) ≤ (v : Int)
    · simp only [go_sem, reduceIte, Nat.reduceEqDiff, Nat.reduceAdd, Nat.reduceSub, Nat.reduceLeDiff, Nat.reduceLT, reduceCtorEq, Int.reduceLT, Int.reduceLE, Int.reduceEq, Int.reduceBEq, Int.reduceSub, Int.reduceAdd, Int.reduceMul, Int.reduceNeg, Int.reduceToNat, Nat.reduceMul, Nat.reduceBEq, index_rsl_if, setm, make_ints, condK_dec, wantK_dec, not_dec, and_dec, or_dec, seqK_ite, seqK_none, blockK_ite, blockK_none, opsK_ite, opsK_none, stepK_ite, stepK_none, bodyK_ite, bodyK_none, resK_ite, resK_none, leaveK_ite, leaveK_none, only_ite, only_none, bind_ite, gives_some, gives_none, gives_ite, then_normal, then_ret, then_exit, then_none, then_ite, Option.bind_none, Bool.not_eq_true', decide_eq_false_iff_not, Bool.and_eq_true, Bool.or_eq_true, Option.some.injEq, Int.not_lt, Int.not_le, lp48_0, q, hs, hx, p, List.length_map]
      refine ⟨v + 1, rfl, q2, q1, fun x_1 en s hq => hq⟩
    · have hy := index_ints true F v (by omega)
      have hg : F.getD v 0 = F[v]'(by omega) := by simp [List.getD_eq_getElem?_getD, List.getElem?_eq_getElem (show v < F.length by omega)]
      have hdv := hd v (by omega) (by omega)
      rw [hg] at hdv
      have z : (l.getD v 0 ≤ F[v]'(by omega)) = True := eq_true hdv
      simp only [go_sem, reduceIte, Nat.reduceEqDiff, Nat.reduceAdd, Nat.reduceSub, Nat.reduceLeDiff, Nat.reduceLT, reduceCtorEq, Int.reduceLT, Int.reduceLE, Int.reduceEq, Int.reduceBEq, Int.reduceSub, Int.reduceAdd, Int.reduceMul, Int.reduceNeg, Int.reduceToNat, Nat.reduceMul, Nat.reduceBEq, index_rsl_if, setm, make_ints, condK_dec, wantK_dec, not_dec, and_dec, or_dec, seqK_ite, seqK_none, blockK_ite, blockK_none, opsK_ite, opsK_none, stepK_ite, stepK_none, bodyK_ite, bodyK_none, resK_ite, resK_none, leaveK_ite, leaveK_none, only_ite, only_none, bind_ite, gives_some, gives_none, gives_ite, then_normal, then_ret, then_exit, then_none, then_ite, Option.bind_none, Bool.not_eq_true', decide_eq_false_iff_not, Bool.and_eq_true, Bool.or_eq_true, Option.some.injEq, Int.not_lt, Int.not_le, lp48_0, q, hs, hx, hy, p, z, List.length_map]
      refine ⟨v + 1, rfl, q2, q1, fun x_1 en s hq => hq⟩
  · simp only [go_sem, reduceIte, Nat.reduceEqDiff, Nat.reduceAdd, Nat.reduceSub, Nat.reduceLeDiff, Nat.reduceLT, reduceCtorEq, Int.reduceLT, Int.reduceLE, Int.reduceEq, Int.reduceBEq, Int.reduceSub, Int.reduceAdd, Int.reduceMul, Int.reduceNeg, Int.reduceToNat, Nat.reduceMul, Nat.reduceBEq, index_rsl_if, setm, make_ints, condK_dec, wantK_dec, not_dec, and_dec, or_dec, seqK_ite, seqK_none, blockK_ite, blockK_none, opsK_ite, opsK_none, stepK_ite, stepK_none, bodyK_ite, bodyK_none, resK_ite, resK_none, leaveK_ite, leaveK_none, only_ite, only_none, bind_ite, gives_some, gives_none, gives_ite, then_normal, then_ret, then_exit, then_none, then_ite, Option.bind_none, Bool.not_eq_true', decide_eq_false_iff_not, Bool.and_eq_true, Bool.or_eq_true, Option.some.injEq, Int.not_lt, Int.not_le, lp48_0, q]

theorem isGood_of {arts : List (Int × Int)} {room : Int} {l : List Int} (hm : l ∈ cutsOf arts.length 0) (ho : okC (fun b e => decide (seg (mosts arts) b e ≤ room)) 0 l = true) :
    IsGood arts.length (fun b e => decide (seg (mosts arts) b e ≤ room)) 0 l := by
  refine (goods_iff _ _ _ 0 rfl l).1 ?_
  unfold goods
  rw [List.mem_filter]
  exact ⟨hm, ho⟩

theorem each48 (s0 : Shelf) (arts : List (Int × Int)) (room floor : Int) (hck : check arts room floor = 0) (hlen : arts.length ≤ 12) (hs : ∀ a ∈ arts, a.2 ≤ room) :
    Each arts.length 48 caps48 (strP s0 arts room floor (filled (mosts arts) room)) := by
  intro a done l l0 T hl0 hpre hP
  obtain ⟨rest, hpre⟩ := hpre
  obtain ⟨a0, a1, a2, a3, a4⟩ := a
  obtain ⟨h0, h1, h2, h3, h4⟩ := hP
  simp only at h0 h1 h2 h3 h4
  subst h0 h1 h2 h3 h4
  obtain ⟨g1, g2, g3, g4⟩ := mosts_ok hck
  have hmem : l ∈ cutsOf arts.length 0 := by rw [hpre]; simp
  obtain ⟨e1, e2⟩ := cuts_ok arts.length (arts.length - 0) 0 rfl (Nat.zero_le _) l hmem
  have hne : l ≠ [] := by
    intro h; subst h
    simp only [endOf] at e2
    omega
  have hl1000 : l.length < 1000 := cut_len hlen hmem
  have hg : goodsOf arts room floor false (done ++ [l]) = goodsOf arts room floor false done ++ (if okC (goodP arts room floor false) 0 l = true then [l] else []) := by
    simp only [goodsOf, List.filter_append, List.filter_cons, List.filter_nil]
  have ok2 := goodP_ok arts room floor false l
  have hfN := (fewN_le (goodsOf arts room floor false done) arts.length).1
  rcases hl0 with ⟨hl, rfl⟩ | ⟨g, rfl⟩
  · exact absurd hl hne
  have h49 := fun st => c49l g true arts room floor hck l hl1000 e1 st
  rw [run_shared (fn := ir48) rfl rfl]
  have hgo := okC_congr (p := goodP arts room floor false) (q := fun b e => decide (seg (mosts arts) b e ≤ room)) (fun b e => by simp [goodP]) 0 l
  obtain ⟨u1, u2⟩ := filled_some hck hs
  obtain ⟨u3, u4⟩ := goods_cut (lastMin_mem u1).1
  have hFl := cut_len hlen u3
  have hgr := filled_greedy hck hs
  generalize filled (mosts arts) room = F at *
  generalize firstV (mosts arts) (fun n => decide (n > room)) 0 0 l = v1 at *
  by_cases p1 : 0 ≤ v1
  · have z : (v1 < 0) = False := eq_false (by omega)
    simp only [z, decide_false, Bool.false_and] at ok2
    refine ⟨⟨_, _, _, _, _⟩, T, by simp only [ir48, go_sem, reduceIte, Nat.reduceEqDiff, Nat.reduceAdd, Nat.reduceSub, Nat.reduceLeDiff, Nat.reduceLT, reduceCtorEq, Int.reduceLT, Int.reduceLE, Int.reduceEq, Int.reduceBEq, Int.reduceSub, Int.reduceAdd, Int.reduceMul, Int.reduceNeg, Int.reduceToNat, Nat.reduceMul, Nat.reduceBEq, h49, p1]; rfl, rfl, rfl, rfl, ?_, rfl⟩
    rw [hg, ok2]; simp
  · have z : (v1 < 0) = True := eq_true (by omega)
    simp only [z, decide_true, Bool.not_false, Bool.true_or, Bool.and_true] at ok2
    rw [hgo] at ok2
    have hgood := isGood_of hmem ok2
    have hdom := greedy_last (mono_any hck room) F l 0 0 (Nat.le_refl _) hgr hgood
    rw [hgo, ok2] at hg
    simp only [if_true] at hg
    generalize goodsOf arts room floor false done = G at *
    have hmin : min ((fewN arts.length G : Nat) : Int) ((l.length : Nat) : Int) = ((fewN arts.length (G ++ [l]) : Nat) : Int) := by rw [fewN_snoc]; omega
    simp only [ir48, go_sem, reduceIte, Nat.reduceEqDiff, Nat.reduceAdd, Nat.reduceSub, Nat.reduceLeDiff, Nat.reduceLT, reduceCtorEq, Int.reduceLT, Int.reduceLE, Int.reduceEq, Int.reduceBEq, Int.reduceSub, Int.reduceAdd, Int.reduceMul, Int.reduceNeg, Int.reduceToNat, Nat.reduceMul, Nat.reduceBEq, h49, p1, List.length_map, hmin]
    generalize hg : lim (headed pure (run L) false _ lp48_0 _ _) _ _ = o
    obtain ⟨x, en, s, rfl, h2⟩ : ∃ x en s, o = some (x, en, s) ∧ _ := by rw [← hg]; exact loop48 arts.length 48 caps48 s0.cells (bookCells true arts room floor) [I (fewN arts.length (G ++ [l]))] F T g l hl1000 hFl hdom _ _ 0 (Nat.zero_le _) _ _ (by simp only [go_sem, reduceIte, Nat.reduceEqDiff, Nat.reduceAdd, Nat.reduceSub, Nat.reduceLeDiff, Nat.reduceLT, reduceCtorEq, Int.reduceLT, Int.reduceLE, Int.reduceEq, Int.reduceBEq, Int.reduceSub, Int.reduceAdd, Int.reduceMul, Int.reduceNeg, Int.reduceToNat, Nat.reduceMul, Nat.reduceBEq] <;> rfl)
    clear hg
    obtain ⟨rfl, rfl⟩ := h2
    simp only [go_sem, reduceIte, Nat.reduceEqDiff, Nat.reduceAdd, Nat.reduceSub, Nat.reduceLeDiff, Nat.reduceLT, reduceCtorEq, Int.reduceLT, Int.reduceLE, Int.reduceEq, Int.reduceBEq, Int.reduceSub, Int.reduceAdd, Int.reduceMul, Int.reduceNeg, Int.reduceToNat, Nat.reduceMul, Nat.reduceBEq]
    refine ⟨⟨_, _, _, _, _⟩, T, rfl, rfl, rfl, rfl, ?_, rfl⟩
    rw [hg]
end Go.Proofs.Ytiifibgadipalaa.Vm

namespace Go.Proofs.Ytiifibgadipalaa.Vm
open Go Go.Ev
set_option maxRecDepth 100000
attribute [local go_sem] cells_any storable_any ren1_any shaped_ptr cells_ptr storable_ptr ren1_ptr shaped_eptr cells_eptr storable_eptr ren1_eptr shaped_rsl cells_rsl storable_rsl ren1_rsl shaped_int cells_int storable_int ren1_int shaped_bool cells_bool storable_bool ren1_bool shaped_nils cells_nils storable_nils ren1_nils shaped_lst cells_lst storable_lst shaped_fn cells_fn storable_fn ren1_fn shaped_ifc cells_ifc storable_ifc ren1_ifc shaped_agg cells_agg storable_agg ren1_agg shaped_tup cells_tup storable_tup ren1_tup shaped_nif cells_nif storable_nif ren1_nif ren1_lany ren1_lfull ren1_lown len_lst len_rsl len_nil load_ptr load_eptr isRsl_lst isRsl_nil isRsl_rsl elems_nil elems_lst elems_sl isRsl_sl body_eq bodyK_normal bodyK_ret resK_some leaveK_some only_some code_skip code_exit code_ret code_ops code_seq code_cond code_block seqK_normal seqK_ret seqK_exit condK_true condK_false blockK_normal blockK_ret blockK_exit opsK_some ops_nil ops_cons wantK_true wantK_false stepK_some pubs pub pub_sl params okRef_loc storable_loc shaped_loc cells_loc isRsl_loc elems_loc len_loc untips untip untip_sl wantedAV setElems withO isAgg_v isAgg_agg isAgg_lst isAgg_ptr isAgg_fn isAgg_ifc isAgg_rsl isAgg_sl isAgg_loc List.replicate_succ List.replicate_zero opAV valAV aval avals ofVal Env.get setD canon gcAV renAll renEnv renStore renCells ren1_sl cutSt okEnv okStore okRefs okRef okRef_sl bin_int bin_bool bin_lst bin_rsl bin_nil bin_agg cellsEq cellEq isShift intOp boolOp min_int max_int beq_int bne resAV tupAV leave_eq fin_sl fin_loc fins fin_v fin_lst fin_agg fin_tup fin_fn storeAV readCells putCells cells_sl shaped_sl storable_sl fieldAddrAV len_sl goI List.getElem?_cons_zero List.getElem?_cons_succ List.getElem?_nil Option.bind_some Option.map_some List.length_cons List.length_nil List.all_cons List.all_nil Bool.and_true Bool.true_and Bool.and_false Bool.false_and and_true true_and and_false false_and Bool.false_eq_true List.set_cons_zero List.set_cons_succ List.append_nil List.nil_append List.cons_append List.take_zero List.take_succ_cons List.take_nil List.drop_zero List.drop_succ_cons List.map_cons List.map_nil decide_true decide_false beq_self_eq_true Bool.not_true Bool.not_false or_true true_or or_false false_or Nat.zero_add Nat.add_zero Nat.le_refl Nat.lt_irrefl decide_eq_true_eq eq_self_iff_true not_true_eq_false not_false_eq_true List.getD_cons_zero code_loop Nat.zero_le Nat.not_lt_zero Bool.true_beq Bool.false_beq beq_true beq_false ge_iff_le gt_iff_lt Lpure pus Option.map_none assert_ifc assert_nil idxA_ptr idxA_eptr idxV_agg Int.cast_ofNat_Int Nat.mul_one Nat.zero_mul Int.toNat_natCast Int.toNat_zero setParts withO2 eqnil_sl nenil_sl eqnil_loc nenil_loc map_nil_iff okRefs_ints renCells_ints

theorem loop7 (s0 : Shelf) (arts : List (Int × Int)) (room floor : Int) (hc : check arts room floor = 0) (rows : List (Int × Int)) (hlen : rows.length < 1000) (F : List Int) (k : Nat) (T : List Nat) (i : Nat) (hok : i ≤ rows.length ∧ provesFrom arts.length (mosts arts) room (lastOf rows i) (rows.drop i) = 0) (env : Env) (st : St)
    (hg : gcAV true 8 T.length (canon env [3, 4, 7, 9, 14, 97, 98, 99]) st = ([(3, .ptr 1 0), (4, I arts.length), (7, sl 2 true (rows.map artAV)), (9, .ptr 3 0), (14, I (lastOf rows i)), (97, sl 2 true (rows.map artAV)), (98, I rows.length), (99, I i)], ⟨trySt arts.length 48 caps48 ⟨s0.cells, bookCells true arts room floor, [sl 1 true (F.map I)], [I k], [B true]⟩, T⟩)) :
    ∃ x_1 en s, lim (headed pure (run L) true [3, 4, 7, 9, 14, 97, 98, 99] lp7_0 8 T.length) env st = some (x_1, en, s) ∧ (x_1 = .exit 0 ∧ en.get 3 = .ptr 1 0 ∧ en.get 7 = sl 2 true (rows.map artAV) ∧ en.get 9 = .ptr 3 0 ∧ s = ⟨trySt arts.length 48 caps48 ⟨s0.cells, bookCells true arts room floor, [sl 1 true (F.map I)], [I k], [B true]⟩, T⟩) := by
  refine loop_wp (α := Nat) (fun i => rows.length - i) (fun i => i ≤ rows.length ∧ provesFrom arts.length (mosts arts) room (lastOf rows i) (rows.drop i) = 0) (fun i => ([(3, .ptr 1 0), (4, I arts.length), (7, sl 2 true (rows.map artAV)), (9, .ptr 3 0), (14, I (lastOf rows i)), (97, sl 2 true (rows.map artAV)), (98, I rows.length), (99, I i)], ⟨trySt arts.length 48 caps48 ⟨s0.cells, bookCells true arts room floor, [sl 1 true (F.map I)], [I k], [B true]⟩, T⟩)) (fun i x_1 en s => x_1 = .exit 0 ∧ en.get 3 = .ptr 1 0 ∧ en.get 7 = sl 2 true (rows.map artAV) ∧ en.get 9 = .ptr 3 0 ∧ s = ⟨trySt arts.length 48 caps48 ⟨s0.cells, bookCells true arts room floor, [sl 1 true (F.map I)], [I k], [B true]⟩, T⟩) (fun i hok => ?_) i hok env st hg
  obtain ⟨hok, hpf⟩ := hok
  by_cases q : (i : Int) < (rows.length : Int)
  · have hx := index_arts true rows i (by omega)
    have hs := succ64 i (by omega)
    have hd : rows.drop i = rows[i]'(by omega) :: rows.drop (i + 1) := List.drop_eq_getElem_cons (by omega)
    have hl := lastOf_succ rows i (by omega)
    rw [hd] at hpf
    generalize rows[i]'(by omega) = s at *
    obtain ⟨x, y⟩ := s
    simp only [provesFrom] at hpf hl
    split at hpf
    · exact absurd hpf (by decide)
    · next p1 =>
      split at hpf
      · exact absurd hpf (by decide)
      · next p2 =>
        split at hpf
        · exact absurd hpf (by decide)
        · next p3 =>
          have hw := wrap64 (y + 1) (by obtain ⟨g1, g2, g3, g4⟩ := mosts_ok hc; omega) (by obtain ⟨g1, g2, g3, g4⟩ := mosts_ok hc; omega)
          have h50 := fun st => c50 true arts room floor hc x (y + 1) (by omega) (by omega) (by omega) st
          have z1 : (x < lastOf rows i) = False := eq_false (by omega)
          have z2 : (y ≤ x) = False := eq_false (by omega)
          have z3 : ((arts.length : Int) ≤ y) = False := eq_false (by omega)
          have z4 : (seg (mosts arts) x (y + 1) ≤ room) = False := eq_false p3
          have hok' : i + 1 ≤ rows.length ∧ provesFrom arts.length (mosts arts) room (lastOf rows (i + 1)) (rows.drop (i + 1)) = 0 := ⟨by omega, by rw [hl]; exact hpf⟩
          simp only [go_sem, reduceIte, Nat.reduceEqDiff, Nat.reduceAdd, Nat.reduceSub, Nat.reduceLeDiff, Nat.reduceLT, reduceCtorEq, Int.reduceLT, Int.reduceLE, Int.reduceEq, Int.reduceBEq, Int.reduceSub, Int.reduceAdd, Int.reduceMul, Int.reduceNeg, Int.reduceToNat, Nat.reduceMul, Nat.reduceBEq, index_rsl_if, setm, make_ints, condK_dec, wantK_dec, not_dec, and_dec, or_dec, seqK_ite, seqK_none, blockK_ite, blockK_none, opsK_ite, opsK_none, stepK_ite, stepK_none, bodyK_ite, bodyK_none, resK_ite, resK_none, leaveK_ite, leaveK_none, only_ite, only_none, bind_ite, gives_some, gives_none, gives_ite, then_normal, then_ret, then_exit, then_none, then_ite, Option.bind_none, Bool.not_eq_true', decide_eq_false_iff_not, Bool.and_eq_true, Bool.or_eq_true, Option.some.injEq, Int.not_lt, Int.not_le, lp7_0, q, hx, hs, hw, h50, z1, z2, z3, z4, List.length_map]
          refine ⟨i + 1, by simp only [go_sem, reduceIte, Nat.reduceEqDiff, Nat.reduceAdd, Nat.reduceSub, Nat.reduceLeDiff, Nat.reduceLT, reduceCtorEq, Int.reduceLT, Int.reduceLE, Int.reduceEq, Int.reduceBEq, Int.reduceSub, Int.reduceAdd, Int.reduceMul, Int.reduceNeg, Int.reduceToNat, Nat.reduceMul, Nat.reduceBEq, ren1_locm, loc_tips, locT_eq, hl, okRefs_shelf, renCells_shelf, List.take_length] <;> rfl, ?_, ?_, fun x en s hq => ?_⟩
          · exact hok'
          · omega
          · exact hq
  · simp only [go_sem, reduceIte, Nat.reduceEqDiff, Nat.reduceAdd, Nat.reduceSub, Nat.reduceLeDiff, Nat.reduceLT, reduceCtorEq, Int.reduceLT, Int.reduceLE, Int.reduceEq, Int.reduceBEq, Int.reduceSub, Int.reduceAdd, Int.reduceMul, Int.reduceNeg, Int.reduceToNat, Nat.reduceMul, Nat.reduceBEq, index_rsl_if, setm, make_ints, condK_dec, wantK_dec, not_dec, and_dec, or_dec, seqK_ite, seqK_none, blockK_ite, blockK_none, opsK_ite, opsK_none, stepK_ite, stepK_none, bodyK_ite, bodyK_none, resK_ite, resK_none, leaveK_ite, leaveK_none, only_ite, only_none, bind_ite, gives_some, gives_none, gives_ite, then_normal, then_ret, then_exit, then_none, then_ite, Option.bind_none, Bool.not_eq_true', decide_eq_false_iff_not, Bool.and_eq_true, Bool.or_eq_true, Option.some.injEq, Int.not_lt, Int.not_le, lp7_0, q]

theorem c7 (s0 : Shelf) (hs : s0.ok) (st : St) : run L 7 [s0.av] st = some (B true, st) := by
  rw [run_pure (fn := ir7) rfl rfl]
  have h45 := fun st => c45 s0 hs 9 30 (by omega) (by omega) (by omega) (by omega) st
  have hck := made_check (s := s0) (many := 9) (lines := 30) (by omega) (by omega) (by omega) (by omega)
  obtain ⟨_, _, hsing, k1, k2, k3, k4⟩ := made_ok (s := s0) (many := 9) (lines := 30) (by omega) (by omega) (by omega) (by omega)
  generalize madeArts s0 9 30 = arts at *
  generalize madeRoom s0 9 30 = room at *
  generalize madeFloor s0 9 30 = floor at *
  have hs1 : ∀ a ∈ arts, a.2 ≤ room := fun a ha => (hsing a ha).2.2.2
  obtain ⟨g1, g2, g3, g4⟩ := mosts_ok hck
  obtain ⟨u1, u2⟩ := filled_some hck hs1
  obtain ⟨u3, u4⟩ := goods_cut (lastMin_mem u1).1
  obtain ⟨u5, u6⟩ := cuts_ok arts.length arts.length 0 rfl (by omega) _ u3
  simp only [Int.natCast_zero] at u5 u6
  have hFl := cut_len g4 u3
  have hgr := filled_greedy hck hs1
  have hFn := good_length _ 0 (Nat.zero_le _) ((goods_iff _ _ _ 0 rfl _).1 (lastMin_mem u1).1)
  have hfv : fewestV arts room floor = (filled (mosts arts) room, 0) := by unfold fewestV; rw [if_pos hck, if_neg u2]
  have h31 := fun st => c31 true arts room floor st
  rw [hfv] at h31
  have h25 := fun st => c25 true arts room floor st
  rw [hck] at h25
  have h46 := fun st => c46 true arts.length g3 (filled (mosts arts) room) hFl u5 u6 st
  have hneg : firstV (mosts arts) (fun n => decide (n > room)) 0 0 (filled (mosts arts) room) < 0 := by
    rw [firstV_neg, okC_congr (q := fun b e => decide (seg (mosts arts) b e ≤ room)) (fun b e => by rw [Bool.eq_iff_iff]; simp)]
    exact u4
  have hh : holdsErr arts room floor (filled (mosts arts) room) = 0 := by
    unfold holdsErr
    have : cutErr arts room floor (filled (mosts arts) room) = 0 := cut_err hck u3
    rw [if_pos this, if_neg (by omega)]
  have h27 := fun st => c27 true true arts room floor (filled (mosts arts) room) hFl st
  rw [hh] at h27
  have h49 := fun st => c49 true true arts room floor hck (filled (mosts arts) room) hFl u5 st
  obtain ⟨a', T', h47, hP⟩ := c47 arts.length 48 caps48 (strP s0 arts room floor (filled (mosts arts) room)) (by omega) rfl (each48 s0 arts room floor hck (by omega) hs1)
    ⟨s0.cells, bookCells true arts room floor, [sl 1 true ((filled (mosts arts) room).map I)], [I arts.length], [B true]⟩ [] ⟨rfl, rfl, rfl, rfl, rfl⟩
  obtain ⟨a0, a1, a2, a3, a4⟩ := a'
  obtain ⟨p0, p1, p2, p3, p4⟩ := hP
  simp only at p0 p1 p2 p3 p4
  subst p0 p1 p2 p3 p4
  have hgf : goodsOf arts room floor false (cutsOf arts.length 0) = goodL arts room floor false := rfl
  have hgl : goods arts.length (fun b e => decide (seg (mosts arts) b e ≤ room)) 0 = goodL arts room floor false := by
    rw [goodL_goods]; exact goods_congr (fun b e => by simp [goodP]) 0
  have hfew : fewN arts.length (goodsOf arts room floor false (cutsOf arts.length 0)) = (filled (mosts arts) room).length := by
    rw [hgf, ← hgl]
    have hm := lastMin_mem u1
    have q1 := (fewN_le (goods arts.length (fun b e => decide (seg (mosts arts) b e ≤ room)) 0) arts.length).2 _ hm.1
    have q2 := fewN_ge (filled (mosts arts) room).length (goods arts.length (fun b e => decide (seg (mosts arts) b e ≤ room)) 0) arts.length (by omega) hm.2
    omega
  rw [hfew] at h47
  have hrow := greedy_row (lastOfArt_ok (mosts arts) room arts.length) (last_mono hck room) (last_greedy hck room) _ 0 (by omega) hgr
  have hrl := rowD_len arts.length (lastOfArt (mosts arts) room arts.length) _ 0 rfl
  have hpr := row_proves arts room _ 0 0 rfl (by omega)
  have hwl : whyL arts room = rowD arts.length (lastOfArt (mosts arts) room arts.length) 0 := by
    unfold whyL
    exact rowWalk_eq _ _ (lastOfArt_ok _ _ _) _ _ (by omega)
  have hw : whyV arts room floor = if rowD arts.length (lastOfArt (mosts arts) room arts.length) 0 = [] then ([], 13) else (rowD arts.length (lastOfArt (mosts arts) room arts.length) 0, 0) := by
    unfold whyV; rw [hfv, hwl]; simp only [if_true]
  have h36 := fun st => c36 true arts room floor st
  rw [hw] at h36
  generalize rowD arts.length (lastOfArt (mosts arts) room arts.length) 0 = rows at *
  generalize hF : filled (mosts arts) room = F at *
  generalize firstV (mosts arts) (fun n => decide (n > room)) 0 0 F = v1 at *
  have hlr : F.length = rows.length + 1 := by omega
  have hrl2 : rows.length < 1000 := by omega
  have h39a := fun st => c39 true true arts room floor (F.length : Int) (by omega) rows hrl2 st
  have h39b := fun st => c39 true true arts room floor (((F.length + 1 : Nat) : Int)) (by omega) rows hrl2 st
  have e1 : provesV arts room floor (F.length : Int) rows = 0 := by
    unfold provesV; rw [if_pos hck, if_neg (by omega), if_pos hpr, if_neg (by omega)]
  have e2 : provesV arts room floor (((F.length + 1 : Nat) : Int)) rows = 14 := by
    unfold provesV; rw [if_pos hck, if_neg (by omega), if_pos hpr, if_pos (by omega)]
  rw [e1] at h39a
  rw [e2] at h39b
  have hsF := succ64 F.length (by omega)
  have z1 : (0 ≤ v1) = False := eq_false (by omega)
  have wF : IntKind.i64.wrap ((F.length : Int) - 1) = (rows.length : Int) := by rw [wrap64] <;> omega
  have h36' : ∀ e : Int, (rows = [] ∧ e = 13 ∨ rows ≠ [] ∧ e = 0) → ∀ st, run L 36 [bookAV true arts room floor] st = some (.tup [sl 2 true (rows.map artAV), I e], st) := by
    intro e he st
    rcases he with ⟨rfl, rfl⟩ | ⟨h, rfl⟩
    · have := h36 st; rw [if_pos rfl] at this; exact this
    · have := h36 st; rw [if_neg h] at this; exact this
  clear h36
  have hpf : 0 ≤ rows.length ∧ provesFrom arts.length (mosts arts) room (lastOf rows 0) (rows.drop 0) = 0 := ⟨Nat.zero_le _, by rw [List.drop_zero]; exact hpr⟩
  by_cases q : rows = []
  · have h36 := h36' 13 (.inl ⟨q, rfl⟩)
    have z2 : ((F.length : Int) = 1) = True := eq_true (by have : rows.length = 0 := by rw [q]; rfl
                                                           omega)
    have z3 : (1 < (F.length : Int)) = False := eq_false (by have : rows.length = 0 := by rw [q]; rfl
                                                             omega)
    simp only [ir7, go_sem, reduceIte, Nat.reduceEqDiff, Nat.reduceAdd, Nat.reduceSub, Nat.reduceLeDiff, Nat.reduceLT, reduceCtorEq, Int.reduceLT, Int.reduceLE, Int.reduceEq, Int.reduceBEq, Int.reduceSub, Int.reduceAdd, Int.reduceMul, Int.reduceNeg, Int.reduceToNat, Nat.reduceMul, Nat.reduceBEq, pubs_shelf, shelf_storable, shelf_len hs, shelf_take hs, h45, h31, h36, h25, h46, h27, h47, h49, z1, z2, z3, wF, List.length_map, Int.natCast_zero]
    generalize hg : lim (headed pure (run L) true _ lp7_0 _ _) _ _ = o
    obtain ⟨x, en, s, rfl, h2⟩ : ∃ x en s, o = some (x, en, s) ∧ _ := by rw [← hg]; exact loop7 s0 arts room floor hck rows hrl2 F F.length T' 0 hpf _ _ (by simp only [go_sem, reduceIte, Nat.reduceEqDiff, Nat.reduceAdd, Nat.reduceSub, Nat.reduceLeDiff, Nat.reduceLT, reduceCtorEq, Int.reduceLT, Int.reduceLE, Int.reduceEq, Int.reduceBEq, Int.reduceSub, Int.reduceAdd, Int.reduceMul, Int.reduceNeg, Int.reduceToNat, Nat.reduceMul, Nat.reduceBEq, okRefs_shelf, renCells_shelf, List.take_length, List.length_map, lastOf] <;> rfl)
    clear hg
    obtain ⟨rfl, m3, m7, m9, rfl⟩ := h2
    simp only [go_sem, reduceIte, Nat.reduceEqDiff, Nat.reduceAdd, Nat.reduceSub, Nat.reduceLeDiff, Nat.reduceLT, reduceCtorEq, Int.reduceLT, Int.reduceLE, Int.reduceEq, Int.reduceBEq, Int.reduceSub, Int.reduceAdd, Int.reduceMul, Int.reduceNeg, Int.reduceToNat, Nat.reduceMul, Nat.reduceBEq, m3, m7, m9, h39a, h39b, hsF, c17]
  · have h36 := h36' 0 (.inr ⟨q, rfl⟩)
    have z2 : ((F.length : Int) = 1) = False := eq_false (by have := List.length_pos_iff.2 q; omega)
    have z3 : (1 < (F.length : Int)) = True := eq_true (by have := List.length_pos_iff.2 q; omega)
    simp only [ir7, go_sem, reduceIte, Nat.reduceEqDiff, Nat.reduceAdd, Nat.reduceSub, Nat.reduceLeDiff, Nat.reduceLT, reduceCtorEq, Int.reduceLT, Int.reduceLE, Int.reduceEq, Int.reduceBEq, Int.reduceSub, Int.reduceAdd, Int.reduceMul, Int.reduceNeg, Int.reduceToNat, Nat.reduceMul, Nat.reduceBEq, pubs_shelf, shelf_storable, shelf_len hs, shelf_take hs, h45, h31, h36, h25, h46, h27, h47, h49, z1, z2, z3, wF, List.length_map, Int.natCast_zero]
    generalize hg : lim (headed pure (run L) true _ lp7_0 _ _) _ _ = o
    obtain ⟨x, en, s, rfl, h2⟩ : ∃ x en s, o = some (x, en, s) ∧ _ := by rw [← hg]; exact loop7 s0 arts room floor hck rows hrl2 F F.length T' 0 hpf _ _ (by simp only [go_sem, reduceIte, Nat.reduceEqDiff, Nat.reduceAdd, Nat.reduceSub, Nat.reduceLeDiff, Nat.reduceLT, reduceCtorEq, Int.reduceLT, Int.reduceLE, Int.reduceEq, Int.reduceBEq, Int.reduceSub, Int.reduceAdd, Int.reduceMul, Int.reduceNeg, Int.reduceToNat, Nat.reduceMul, Nat.reduceBEq, okRefs_shelf, renCells_shelf, List.take_length, List.length_map, lastOf] <;> rfl)
    clear hg
    obtain ⟨rfl, m3, m7, m9, rfl⟩ := h2
    simp only [go_sem, reduceIte, Nat.reduceEqDiff, Nat.reduceAdd, Nat.reduceSub, Nat.reduceLeDiff, Nat.reduceLT, reduceCtorEq, Int.reduceLT, Int.reduceLE, Int.reduceEq, Int.reduceBEq, Int.reduceSub, Int.reduceAdd, Int.reduceMul, Int.reduceNeg, Int.reduceToNat, Nat.reduceMul, Nat.reduceBEq, m3, m7, m9, h39a, h39b, hsF, c17]
end Go.Proofs.Ytiifibgadipalaa.Vm
