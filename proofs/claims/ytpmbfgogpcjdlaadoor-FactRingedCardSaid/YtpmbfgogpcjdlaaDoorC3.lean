/- What is proved: what each function of this program computes, as equations on the evaluator. No condition. -/
import Derived.Test.YtpmbfgogpcjdlaaDoorC2
set_option linter.all false
namespace Go.Proofs.YtpmbfgogpcjdlaaDoor.Vm
open Go Go.Ev
set_option maxRecDepth 100000
attribute [local go_sem] cells_any storable_any ren1_any shaped_ptr cells_ptr storable_ptr ren1_ptr shaped_eptr cells_eptr storable_eptr ren1_eptr shaped_rsl cells_rsl storable_rsl ren1_rsl shaped_int cells_int storable_int ren1_int shaped_bool cells_bool storable_bool ren1_bool shaped_nils cells_nils storable_nils ren1_nils shaped_lst cells_lst storable_lst shaped_fn cells_fn storable_fn ren1_fn shaped_ifc cells_ifc storable_ifc ren1_ifc shaped_agg cells_agg storable_agg ren1_agg shaped_tup cells_tup storable_tup ren1_tup shaped_nif cells_nif storable_nif ren1_nif ren1_lany ren1_lfull ren1_lown len_lst len_rsl len_nil load_ptr load_eptr isRsl_lst isRsl_nil isRsl_rsl elems_nil elems_lst elems_sl isRsl_sl body_eq bodyK_normal bodyK_ret resK_some leaveK_some only_some code_skip code_exit code_ret code_ops code_seq code_cond code_block seqK_normal seqK_ret seqK_exit condK_true condK_false blockK_normal blockK_ret blockK_exit opsK_some ops_nil ops_cons wantK_true wantK_false stepK_some pubs pub pub_sl params okRef_loc storable_loc shaped_loc cells_loc isRsl_loc elems_loc len_loc untips untip untip_sl wantedAV setElems withO isAgg_v isAgg_agg isAgg_lst isAgg_ptr isAgg_fn isAgg_ifc isAgg_rsl isAgg_sl isAgg_loc List.replicate_succ List.replicate_zero opAV valAV aval avals ofVal Env.get setD canon gcAV renAll renEnv renStore renCells ren1_sl cutSt okEnv okStore okRefs okRef okRef_sl bin_int bin_bool bin_lst bin_rsl bin_nil bin_agg cellsEq cellEq isShift intOp boolOp min_int max_int beq_int bne resAV tupAV leave_eq fin_sl fin_loc fins fin_v fin_lst fin_agg fin_tup fin_fn storeAV readCells putCells cells_sl shaped_sl storable_sl fieldAddrAV len_sl goI List.getElem?_cons_zero List.getElem?_cons_succ List.getElem?_nil Option.bind_some Option.map_some List.length_cons List.length_nil List.all_cons List.all_nil Bool.and_true Bool.true_and Bool.and_false Bool.false_and and_true true_and and_false false_and Bool.false_eq_true List.set_cons_zero List.set_cons_succ List.append_nil List.nil_append List.cons_append List.take_zero List.take_succ_cons List.take_nil List.drop_zero List.drop_succ_cons List.map_cons List.map_nil decide_true decide_false beq_self_eq_true Bool.not_true Bool.not_false or_true true_or or_false false_or Nat.zero_add Nat.add_zero Nat.le_refl Nat.lt_irrefl decide_eq_true_eq eq_self_iff_true not_true_eq_false not_false_eq_true List.getD_cons_zero code_loop Nat.zero_le Nat.not_lt_zero Bool.true_beq Bool.false_beq beq_true beq_false ge_iff_le gt_iff_lt Lpure pus Option.map_none assert_ifc assert_nil idxA_ptr idxA_eptr idxV_agg Int.cast_ofNat_Int Nat.mul_one Nat.zero_mul Int.toNat_natCast Int.toNat_zero setParts withO2 hasKey eqnil_sl nenil_sl eqnil_loc nenil_loc map_nil_iff okRefs_ints renCells_ints

/-! ### how many pairs with a share an article has -/
def cntF (v : Int) (W : List ((Int × Int) × Int)) (a : Nat) : Int := sumL (W.map fun e => if e.2 = v ∧ (e.1.1 = (a : Int) ∨ e.1.2 = (a : Int)) then 1 else 0)
theorem sumL_snoc (l : List Int) (x : Int) : sumL (l ++ [x]) = sumL l + x := by
  induction l with
  | nil => simp [sumL]
  | cons a r ih => simp only [List.cons_append, sumL, ih]; omega
theorem cntF_snoc (v : Int) (W : List ((Int × Int) × Int)) (e : (Int × Int) × Int) (a : Nat) : cntF v (W ++ [e]) a = cntF v W a + if e.2 = v ∧ (e.1.1 = (a : Int) ∨ e.1.2 = (a : Int)) then 1 else 0 := by
  unfold cntF; rw [List.map_append, List.map_singleton, sumL_snoc]
theorem cntF_bd (v : Int) (a : Nat) : ∀ W : List ((Int × Int) × Int), 0 ≤ cntF v W a ∧ cntF v W a ≤ W.length
  | [] => by simp [cntF, sumL]
  | e :: r => by
    have := cntF_bd v a r
    unfold cntF at this ⊢
    simp only [List.map_cons, sumL, List.length_cons]
    split <;> omega
theorem load_cnt (a : Nat) : ∀ W : List ((Int × Int) × Int), (∀ e ∈ W, 0 ≤ e.2 ∧ e.2 ≤ 2) → loadOf W (a : Int) = cntF 1 W a + 2 * cntF 2 W a
  | [], _ => by simp [cntF, sumL, loadOf]
  | e :: r, h => by
    have ih := load_cnt a r fun x hx => h x (by simp [hx])
    have he := h e (by simp)
    unfold cntF at ih ⊢
    simp only [List.map_cons, sumL, loadOf, ih]
    by_cases q : e.1.1 = (a : Int) ∨ e.1.2 = (a : Int)
    · rw [if_pos q]
      have c : e.2 = 0 ∨ e.2 = 1 ∨ e.2 = 2 := by omega
      rcases c with c | c | c <;> simp only [c, q] <;> simp <;> omega
    · rw [if_neg q, if_neg (fun h => q h.2), if_neg (fun h => q h.2)]; omega
theorem cnt_ones (a : Nat) : ∀ W : List ((Int × Int) × Int), cntF 1 W a = (((onesL W).filter fun p => decide (p.1 = (a : Int) ∨ p.2 = (a : Int))).length : Int)
  | [] => rfl
  | e :: r => by
    have ih := cnt_ones a r
    have e1 : cntF 1 (e :: r) a = (if e.2 = 1 ∧ (e.1.1 = (a : Int) ∨ e.1.2 = (a : Int)) then 1 else 0) + cntF 1 r a := rfl
    rw [e1, ih, onesL_cons]
    by_cases p : e.2 = 1
    · rw [if_pos p]
      by_cases q : e.1.1 = (a : Int) ∨ e.1.2 = (a : Int)
      · rw [if_pos ⟨p, q⟩, List.filter_cons_of_pos (by simpa using q), List.length_cons]; omega
      · rw [if_neg (fun h => q h.2), List.filter_cons_of_neg (by simpa using q)]; omega
    · rw [if_neg p, if_neg (fun h => p h.1)]; omega
theorem edges_perm {n : Nat} (hn : n ≤ 7) {os : List (Int × Int)} (hps : ∀ p ∈ os, 0 ≤ p.1 ∧ p.1 < p.2 ∧ p.2 < (n : Int)) (hon : os.Nodup) : (((edges n).filter (inOs os)).map castE).Perm os := by
  have hen : (edges n).Nodup := nodupE_ok _ (List.all_eq_true.1 edges_nodup n (List.mem_range.2 (by omega)))
  rw [List.perm_ext_iff_of_nodup (nodup_castE (hen.filter _)) hon]
  intro p
  simp only [List.mem_map, List.mem_filter]
  constructor
  · rintro ⟨e, ⟨_, h6⟩, rfl⟩
    exact of_decide_eq_true h6
  · intro hp
    have hh := hps p hp
    have hc : castE (p.1.toNat, p.2.toNat) = p := Prod.ext (by simp only [castE]; omega) (by simp only [castE]; omega)
    refine ⟨(p.1.toNat, p.2.toNat), ⟨mem_edges.2 (by simp only; omega), ?_⟩, hc⟩
    have : castE (p.1.toNat, p.2.toNat) ∈ os := by rw [hc]; exact hp
    exact decide_eq_true this
theorem ones_nodup {n : Nat} {ps : List (Int × Int)} (hnd : ps.Nodup) : (onesR n ps).Nodup := by
  unfold onesR onesL
  have hfst : (ps.zip (sharesR n ps)).map (fun e => e.1) = ps := List.map_fst_zip (by have := (sharesR_len n ps).1; omega)
  have hs : List.Sublist (((ps.zip (sharesR n ps)).filter fun e => decide (e.2 = 1)).map fun e => e.1) ps := by
    conv => rhs; rw [← hfst]
    exact List.Sublist.map _ List.filter_sublist
  exact List.Nodup.sublist hs hnd
/-- What is asked of each article. -/
theorem cnt_ok {n : Nat} {ps : List (Int × Int)} (hn1 : 1 ≤ n) (hn : n ≤ 7) (hps : ∀ p ∈ ps, 0 ≤ p.1 ∧ p.1 < p.2 ∧ p.2 < (n : Int)) (h7 : ∀ p ∈ ps, okP p) (hnd : ps.Nodup) (a : Nat) :
    (cntF 1 (ps.zip (sharesR n ps)) a = 0 ∨ cntF 1 (ps.zip (sharesR n ps)) a = 2) ∧ 0 ≤ cntF 2 (ps.zip (sharesR n ps)) a ∧ cntF 2 (ps.zip (sharesR n ps)) a ≤ 1 ∧ (cntF 1 (ps.zip (sharesR n ps)) a = 2 → cntF 2 (ps.zip (sharesR n ps)) a = 0) := by
  obtain ⟨s1, _⟩ := sharesR_in (n := n) (ps := ps)
  obtain ⟨_, a2⟩ := shF_ok s1
  have hM1 := over_none s1 hps a
  have hb : ∀ e ∈ ps.zip (sharesR n ps), 0 ≤ e.2 ∧ e.2 ≤ 2 := fun e he => a2 _ (List.of_mem_zip he).2
  rw [load_cnt a _ hb] at hM1
  have h2 := (cntF_bd 2 a (ps.zip (sharesR n ps))).1
  have h1 : cntF 1 (ps.zip (sharesR n ps)) a = 0 ∨ cntF 1 (ps.zip (sharesR n ps)) a = 2 := by
    obtain ⟨_, _, h3⟩ := ones_ring hn1 hn hps h7 hnd
    have hops : ∀ p ∈ onesR n ps, 0 ≤ p.1 ∧ p.1 < p.2 ∧ p.2 < (n : Int) := fun p hp => hps p (onesL_in p hp)
    have h4 := ((edges_perm hn hops (ones_nodup hnd)).filter fun p => decide (p.1 = (a : Int) ∨ p.2 = (a : Int))).length_eq
    rw [cnt_ones]
    have e1 : onesL (ps.zip (sharesR n ps)) = onesR n ps := rfl
    rw [e1, ← h4, List.filter_map, List.length_map]
    have e2 : ((fun p : Int × Int => decide (p.1 = (a : Int) ∨ p.2 = (a : Int))) ∘ castE) = touches a := by
      funext e
      show decide ((castE e).1 = (a : Int) ∨ (castE e).2 = (a : Int)) = decide (a = e.1 ∨ a = e.2)
      unfold castE
      rw [decide_eq_decide]
      simp only
      omega
    rw [e2]
    have := h3 a
    omega
  refine ⟨h1, h2, by omega, fun h => by omega⟩

/-! ### pairs of a ring -/
def rgPr (b : List Int) (k : Nat) : Int × Int := (min (b.getD k 0) (b.getD ((k + 1) % b.length) 0), max (b.getD k 0) (b.getD ((k + 1) % b.length) 0))
def rgPrs (b : List Int) : List (Int × Int) := (List.range b.length).map (rgPr b)
theorem rgPr_cast (b : List Nat) (k : Nat) : rgPr (intL b) k = castE (ringE b k) := by
  unfold rgPr ringE mkE
  rw [intL_getD, intL_getD, intL_len]
  split
  · exact Prod.ext (by simp only [castE]; omega) (by simp only [castE]; omega)
  · exact Prod.ext (by simp only [castE]; omega) (by simp only [castE]; omega)
theorem rgPrs_cast (b : List Nat) : rgPrs (intL b) = (ringEs b).map castE := by
  unfold rgPrs ringEs
  rw [intL_len, List.map_map]
  apply List.map_congr_left
  intro k _
  exact rgPr_cast b k
theorem own_cast : ∀ L : List (List Nat), (L.map intL).flatMap rgPrs = (L.flatMap ringEs).map castE
  | [] => rfl
  | b :: L => by
    rw [List.map_cons, List.flatMap_cons, List.flatMap_cons, List.map_append, own_cast L, rgPrs_cast]
theorem lexN_cast : ∀ a b : List Nat, lexN a b = lexLt (intL a) (intL b)
  | [], [] => rfl
  | [], _ :: _ => rfl
  | _ :: _, [] => rfl
  | a :: r, b :: s => by
    have ih := lexN_cast r s
    unfold intL at ih ⊢
    rw [List.map_cons, List.map_cons, lexN, lexLt, ih]
    have e1 : Nat.blt a b = decide ((a : Int) < (b : Int)) := by
      rw [Bool.eq_iff_iff, decide_eq_true_iff]
      constructor
      · intro h; have : a < b := Nat.le_of_ble_eq_true h; omega
      · intro h; exact Nat.ble_eq_true_of_le (by omega)
    have e2 : Nat.beq a b = decide ((a : Int) = (b : Int)) := by
      rw [Bool.eq_iff_iff, decide_eq_true_iff, Nat.beq_eq]; omega
    rw [e1, e2]
/-- The rings that are returned, as the law asks for them. -/
theorem rings_say {n : Nat} {ps : List (Int × Int)} (hn1 : 1 ≤ n) (hn : n ≤ 7) (hps : ∀ p ∈ ps, 0 ≤ p.1 ∧ p.1 < p.2 ∧ p.2 < (n : Int)) (h7 : ∀ p ∈ ps, okP p) (hnd : ps.Nodup) :
    (∀ b ∈ ringsP n (advL (onesR n ps)), 3 ≤ b.length ∧ b.length ≤ 7 ∧ b.length % 2 = 1 ∧ b.getD 1 0 < b.getD (b.length - 1) 0 ∧ ∀ x ∈ b, b.getD 0 0 ≤ x ∧ 0 ≤ x ∧ x < (n : Int)) ∧
    (∀ (i : Nat) (a b : List Int), (ringsP n (advL (onesR n ps)))[i]? = some a → (ringsP n (advL (onesR n ps)))[i + 1]? = some b → lexLt a b = true) ∧ ((ringsP n (advL (onesR n ps))).flatMap rgPrs).Perm (onesR n ps) := by
  obtain ⟨L, h1, h2, h3, h4⟩ := rings_law hn1 hn hps h7 hnd
  rw [h1]
  refine ⟨fun b hb => ?_, ?_, by rw [own_cast]; exact h4⟩
  · obtain ⟨c, hc, rfl⟩ := List.mem_map.1 hb
    obtain ⟨g1, g2, g3, g4, g5⟩ := h2 c hc
    rw [intL_len, intL_getD, intL_getD, intL_getD]
    refine ⟨g1, g2, g3, by unfold lastN at g4; omega, fun x hx => ?_⟩
    unfold intL at hx
    obtain ⟨y, hy, rfl⟩ := List.mem_map.1 hx
    have := g5 y hy
    omega
  · have asc : ∀ (M : List (List Nat)), ascL M = true → ∀ (i : Nat) (a b : List Nat), M[i]? = some a → M[i + 1]? = some b → lexN a b = true := by
      intro M
      induction M with
      | nil => intro _ i a b h; simp at h
      | cons x M ih =>
        intro hM i a b ha hb
        cases M with
        | nil => simp at hb
        | cons y M =>
          simp only [ascL, Bool.and_eq_true] at hM
          cases i with
          | zero =>
            simp at ha hb
            rw [← ha, ← hb]; exact hM.1
          | succ i => exact ih hM.2 i a b (by simpa using ha) (by simpa using hb)
    intro i a b ha hb
    rw [List.getElem?_map] at ha hb
    obtain ⟨a', ha', rfl⟩ := Option.map_eq_some_iff.1 ha
    obtain ⟨b', hb', rfl⟩ := Option.map_eq_some_iff.1 hb
    rw [← lexN_cast]
    exact asc L h3 i a' b' ha' hb'


/-! ### counts of pairs -/
def arrC (f : Nat → Int) : List AV := (List.range 7).map fun a => I (f a)
theorem arrC_len (f : Nat → Int) : (arrC f).length = 7 := by simp [arrC]
theorem inert_arr (f : Nat → Int) : Inert (arrC f) := inert_map (fun a : Nat => Value.int .i64 (f a)) (List.range 7)
theorem arrC_at (f : Nat → Int) {a : Nat} (h : a < 7) : (arrC f)[a]? = some (I (f a)) := by
  unfold arrC; rw [List.getElem?_map, List.getElem?_range h]; rfl
def incV (v x : Int) (f : Nat → Int) (p : Int) : Nat → Int := fun a => f a + if x = v ∧ (a : Int) = p then 1 else 0
theorem arrC_set (v x : Int) (f : Nat → Int) (p : Int) (h0 : 0 ≤ p) (h : x = v) : (arrC f).set p.toNat (I (f p.toNat + 1)) = arrC (incV v x f p) := by
  apply List.ext_getElem (by simp [arrC])
  intro i h1 h2
  have h1' : i < 7 := by simpa [arrC] using h1
  rw [List.getElem_set]
  have e2 : (arrC (incV v x f p))[i] = I (incV v x f p i) := by simp only [arrC, List.getElem_map, List.getElem_range]
  have e3 : (arrC f)[i]'(by simpa [arrC] using h1') = I (f i) := by simp only [arrC, List.getElem_map, List.getElem_range]
  refine Eq.trans ?_ e2.symm
  by_cases e : p.toNat = i
  · subst e
    rw [if_pos rfl]
    unfold incV
    rw [if_pos ⟨h, by omega⟩]
  · rw [if_neg e]
    refine Eq.trans e3 ?_
    unfold incV
    rw [if_neg (fun g => e (by omega)), Int.add_zero]
theorem incV_no (v x : Int) (f : Nat → Int) (p : Int) (h : x ≠ v) : incV v x f p = f := by
  funext a; unfold incV; rw [if_neg (fun g => h g.1)]; omega
def aF (v x : Int) (p : Int × Int) (f : Nat → Int) : Nat → Nat → Int
  | 0 => f
  | 1 => incV v x f p.1
  | _ + 2 => incV v x (incV v x f p.1) p.2
def pkF (p : Int × Int) (k : Nat) : Int := if k = 0 then p.1 else p.2
theorem aF_succ (v x : Int) (p : Int × Int) (f : Nat → Int) {k : Nat} (h : k < 2) : aF v x p f (k + 1) = incV v x (aF v x p f k) (pkF p k) := by
  match k, h with
  | 0, _ => rfl
  | 1, _ => rfl
theorem aF_bd (v x : Int) (p : Int × Int) (f : Nat → Int) (hf : ∀ a, 0 ≤ f a ∧ f a ≤ 100) (k a : Nat) : 0 ≤ aF v x p f k a ∧ aF v x p f k a ≤ 102 := by
  have := hf a
  match k with
  | 0 => show 0 ≤ f a ∧ f a ≤ 102; omega
  | 1 => simp only [aF, incV]; split <;> omega
  | k + 2 => simp only [aF, incV]; split <;> split <;> omega
theorem aF_cnt (v : Int) (W : List ((Int × Int) × Int)) (e : (Int × Int) × Int) (h : e.1.1 < e.1.2) : aF v e.2 e.1 (cntF v W) 2 = cntF v (W ++ [e]) := by
  funext a
  rw [cntF_snoc]
  simp only [aF, incV]
  by_cases q : e.2 = v
  · by_cases q1 : (a : Int) = e.1.1
    · rw [if_pos ⟨q, q1⟩, if_neg (fun g => by omega), if_pos ⟨q, .inl q1.symm⟩]; omega
    · by_cases q2 : (a : Int) = e.1.2
      · rw [if_neg (fun g => q1 g.2), if_pos ⟨q, q2⟩, if_pos ⟨q, .inr q2.symm⟩]; omega
      · rw [if_neg (fun g => q1 g.2), if_neg (fun g => q2 g.2), if_neg (fun g => by rcases g.2 with g | g <;> omega)]; omega
  · rw [if_neg (fun g => q g.1), if_neg (fun g => q g.1), if_neg (fun g => q g.1)]; omega

theorem loop15_0a (Q B : List AV) (hQ : Inert Q) (hB : Inert B) (n1 : Bool) (sh : List Int) (R : List (List Int)) (ps : List (Int × Int)) (m : Nat) (i : Nat) (hi : i < sh.length) (n57 : Int) (p : Int × Int) (hp : 0 ≤ p.1 ∧ p.1 < p.2 ∧ p.2 < 7) (f g : Nat → Int) (hf : ∀ a, 0 ≤ f a ∧ f a ≤ 100) (hg2 : ∀ a, 0 ≤ g a ∧ g a ≤ 100) (k : Nat) (hok : k ≤ 2) (env : Env) (st : St)
    (hg : gcAV true 5 0 (canon env [4, 6, 8, 9, 10, 11, 12, 56, 57, 58, 63, 64]) st = ([(4, sl 1 n1 (sh.map I)), (6, sl 1 true (R.map listAV)), (8, .ptr 2 0), (9, .ptr 3 0), (10, .v (.slice none 0 0)), (11, I i), (12, .ptr 4 0), (56, sl 2 true (ps.map prAV)), (57, I n57), (58, I i), (63, .agg [I p.1, I p.2]), (64, I k)], ⟨[Q, B, arrC (aF 1 sh[i] p f k), arrC (aF 2 sh[i] p g k), [I p.1, I p.2]], []⟩)) :
    ∃ x_1 en s, lim (headed pure (run L) true [4, 6, 8, 9, 10, 11, 12, 56, 57, 58, 63, 64] lp15_0 5 0) env st = some (x_1, en, s) ∧ (x_1 = .exit 2 ∧ en.get 4 = sl 1 n1 (sh.map I) ∧ en.get 6 = sl 1 true (R.map listAV) ∧ en.get 8 = .ptr 2 0 ∧ en.get 9 = .ptr 3 0 ∧ en.get 10 = .v (.slice none 0 0) ∧ en.get 11 = I i ∧ en.get 12 = .ptr 4 0 ∧ en.get 56 = sl 2 true (ps.map prAV) ∧ en.get 57 = I n57 ∧ en.get 58 = I i ∧ en.get 3000000 = .any ∧ s = ⟨[Q, B, arrC (aF 1 sh[i] p f 2), arrC (aF 2 sh[i] p g 2), [I p.1, I p.2]], []⟩) := by
  refine loop_wp (α := Nat) (fun k => 2 - k) (fun k => k ≤ 2) (fun k => ([(4, sl 1 n1 (sh.map I)), (6, sl 1 true (R.map listAV)), (8, .ptr 2 0), (9, .ptr 3 0), (10, .v (.slice none 0 0)), (11, I i), (12, .ptr 4 0), (56, sl 2 true (ps.map prAV)), (57, I n57), (58, I i), (63, .agg [I p.1, I p.2]), (64, I k)], ⟨[Q, B, arrC (aF 1 sh[i] p f k), arrC (aF 2 sh[i] p g k), [I p.1, I p.2]], []⟩)) (fun k x_1 en s => x_1 = .exit 2 ∧ en.get 4 = sl 1 n1 (sh.map I) ∧ en.get 6 = sl 1 true (R.map listAV) ∧ en.get 8 = .ptr 2 0 ∧ en.get 9 = .ptr 3 0 ∧ en.get 10 = .v (.slice none 0 0) ∧ en.get 11 = I i ∧ en.get 12 = .ptr 4 0 ∧ en.get 56 = sl 2 true (ps.map prAV) ∧ en.get 57 = I n57 ∧ en.get 58 = I i ∧ en.get 3000000 = .any ∧ s = ⟨[Q, B, arrC (aF 1 sh[i] p f 2), arrC (aF 2 sh[i] p g 2), [I p.1, I p.2]], []⟩) (fun k hok => ?_) k hok env st hg
  dsimp only
  have hx := index_ints n1 sh i hi
  generalize sh[i] = x at *
  by_cases h : k < 2
  · have hs := succ64 k (by omega)
    have hlt : ((k : Int) < 2) = True := eq_true (by omega)
    have k0 : ((0 : Int) ≤ (k : Int)) = True := eq_true (by omega)
    have hpk : ([I p.1, I p.2] : List AV)[k]? = some (I (pkF p k)) := by
      match k, h with
      | 0, _ => rfl
      | 1, _ => rfl
    have hpkb : 0 ≤ pkF p k ∧ pkF p k < 7 := by unfold pkF; split <;> omega
    have b0 : (0 ≤ pkF p k) = True := eq_true hpkb.1
    have b1 : (pkF p k < 7) = True := eq_true hpkb.2
    have t7 : (pkF p k).toNat < 7 := by omega
    have b2 : ((pkF p k).toNat + 1 ≤ 7) = True := eq_true (by omega)
    have g1 := arrC_at (aF 1 x p f k) t7
    have g2 := arrC_at (aF 2 x p g k) t7
    have n1 := aF_bd 1 x p f hf k (pkF p k).toNat
    have n2 := aF_bd 2 x p g hg2 k (pkF p k).toNat
    have w1 : IntKind.i64.wrap (aF 1 x p f k (pkF p k).toNat + 1) = aF 1 x p f k (pkF p k).toNat + 1 := by rw [wrap64] <;> omega
    have w2 : IntKind.i64.wrap (aF 2 x p g k (pkF p k).toNat + 1) = aF 2 x p g k (pkF p k).toNat + 1 := by rw [wrap64] <;> omega
    have l1 := arrC_len (aF 1 x p f k)
    have l2 := arrC_len (aF 2 x p g k)
    have u1 := arrC_set 1 x (aF 1 x p f k) (pkF p k) hpkb.1
    have u2 := arrC_set 2 x (aF 2 x p g k) (pkF p k) hpkb.1
    have m1 := incV_no 1 x (aF 1 x p f k) (pkF p k)
    have m2 := incV_no 2 x (aF 2 x p g k) (pkF p k)
    rw [← aF_succ 1 x p f h] at u1 m1
    rw [← aF_succ 2 x p g h] at u2 m2
    have j1 := inert_arr (aF 1 x p f (k + 1))
    have j2 := inert_arr (aF 2 x p g (k + 1))
    generalize (aF 1 x p f k (pkF p k).toNat) = y1 at *
    generalize (aF 2 x p g k (pkF p k).toNat) = y2 at *
    by_cases q1 : x = 1
    · have r1 : (x = 1) = True := eq_true q1
      have m2' := m2 (by omega)
      rw [m2'] at j2
      rw [← u1 q1] at j1
      have q1' := u1 q1
      simp only [go_sem, reduceIte, Nat.reduceEqDiff, Nat.reduceAdd, Nat.reduceSub, Nat.reduceLeDiff, Nat.reduceLT, reduceCtorEq, Int.reduceLT, Int.reduceLE, Int.reduceEq, Int.reduceBEq, Int.reduceSub, Int.reduceAdd, Int.reduceMul, Int.reduceNeg, Int.reduceToNat, Nat.reduceMul, Nat.reduceBEq, index_rsl_if, setm, make_ints, condK_dec, wantK_dec, not_dec, and_dec, or_dec, seqK_ite, seqK_none, blockK_ite, blockK_none, opsK_ite, opsK_none, stepK_ite, stepK_none, bodyK_ite, bodyK_none, resK_ite, resK_none, leaveK_ite, leaveK_none, only_ite, only_none, bind_ite, gives_some, gives_none, gives_ite, then_normal, then_ret, then_exit, then_none, then_ite, Option.bind_none, Bool.not_eq_true', decide_eq_false_iff_not, Bool.and_eq_true, Bool.or_eq_true, Option.some.injEq, Int.not_lt, Int.not_le, lp15_0, hlt, hs, k0, hx, hpk, b0, b1, b2, g1, g2, w1, l1, l2, r1]
      refine ⟨k + 1, by simp only [go_sem, reduceIte, Nat.reduceEqDiff, Nat.reduceAdd, Nat.reduceSub, Nat.reduceLeDiff, Nat.reduceLT, reduceCtorEq, Int.reduceLT, Int.reduceLE, Int.reduceEq, Int.reduceBEq, Int.reduceSub, Int.reduceAdd, Int.reduceMul, Int.reduceNeg, Int.reduceToNat, Nat.reduceMul, Nat.reduceBEq, ren1_locm, loc_tips, locT_eq, hQ.2.2.1, hQ.2.2.2.1, hB.2.2.1, hB.2.2.2.1, j1.2.2.1, j1.2.2.2.1, j2.2.2.1, j2.2.2.2.1, m2', ← q1'] <;> rfl, ?_, ?_, fun x en s hq => ?_⟩
      · omega
      · omega
      · exact hq
    · have r1 : (x = 1) = False := eq_false q1
      have m1' := m1 q1
      rw [m1'] at j1
      by_cases q2 : x = 2
      · have r2 : (x = 2) = True := eq_true q2
        rw [← u2 q2] at j2
        have q2' := u2 q2
        simp only [go_sem, reduceIte, Nat.reduceEqDiff, Nat.reduceAdd, Nat.reduceSub, Nat.reduceLeDiff, Nat.reduceLT, reduceCtorEq, Int.reduceLT, Int.reduceLE, Int.reduceEq, Int.reduceBEq, Int.reduceSub, Int.reduceAdd, Int.reduceMul, Int.reduceNeg, Int.reduceToNat, Nat.reduceMul, Nat.reduceBEq, index_rsl_if, setm, make_ints, condK_dec, wantK_dec, not_dec, and_dec, or_dec, seqK_ite, seqK_none, blockK_ite, blockK_none, opsK_ite, opsK_none, stepK_ite, stepK_none, bodyK_ite, bodyK_none, resK_ite, resK_none, leaveK_ite, leaveK_none, only_ite, only_none, bind_ite, gives_some, gives_none, gives_ite, then_normal, then_ret, then_exit, then_none, then_ite, Option.bind_none, Bool.not_eq_true', decide_eq_false_iff_not, Bool.and_eq_true, Bool.or_eq_true, Option.some.injEq, Int.not_lt, Int.not_le, lp15_0, hlt, hs, k0, hx, hpk, b0, b1, b2, g1, g2, w2, l1, l2, r1, r2]
        refine ⟨k + 1, by simp only [go_sem, reduceIte, Nat.reduceEqDiff, Nat.reduceAdd, Nat.reduceSub, Nat.reduceLeDiff, Nat.reduceLT, reduceCtorEq, Int.reduceLT, Int.reduceLE, Int.reduceEq, Int.reduceBEq, Int.reduceSub, Int.reduceAdd, Int.reduceMul, Int.reduceNeg, Int.reduceToNat, Nat.reduceMul, Nat.reduceBEq, ren1_locm, loc_tips, locT_eq, hQ.2.2.1, hQ.2.2.2.1, hB.2.2.1, hB.2.2.2.1, j1.2.2.1, j1.2.2.2.1, j2.2.2.1, j2.2.2.2.1, m1', ← q2'] <;> rfl, ?_, ?_, fun x en s hq => ?_⟩
        · omega
        · omega
        · exact hq
      · have r2 : (x = 2) = False := eq_false q2
        have m2' := m2 q2
        rw [m2'] at j2
        simp only [go_sem, reduceIte, Nat.reduceEqDiff, Nat.reduceAdd, Nat.reduceSub, Nat.reduceLeDiff, Nat.reduceLT, reduceCtorEq, Int.reduceLT, Int.reduceLE, Int.reduceEq, Int.reduceBEq, Int.reduceSub, Int.reduceAdd, Int.reduceMul, Int.reduceNeg, Int.reduceToNat, Nat.reduceMul, Nat.reduceBEq, index_rsl_if, setm, make_ints, condK_dec, wantK_dec, not_dec, and_dec, or_dec, seqK_ite, seqK_none, blockK_ite, blockK_none, opsK_ite, opsK_none, stepK_ite, stepK_none, bodyK_ite, bodyK_none, resK_ite, resK_none, leaveK_ite, leaveK_none, only_ite, only_none, bind_ite, gives_some, gives_none, gives_ite, then_normal, then_ret, then_exit, then_none, then_ite, Option.bind_none, Bool.not_eq_true', decide_eq_false_iff_not, Bool.and_eq_true, Bool.or_eq_true, Option.some.injEq, Int.not_lt, Int.not_le, lp15_0, hlt, hs, k0, hx, hpk, b0, b1, b2, g1, g2, l1, l2, r1, r2]
        refine ⟨k + 1, by simp only [go_sem, reduceIte, Nat.reduceEqDiff, Nat.reduceAdd, Nat.reduceSub, Nat.reduceLeDiff, Nat.reduceLT, reduceCtorEq, Int.reduceLT, Int.reduceLE, Int.reduceEq, Int.reduceBEq, Int.reduceSub, Int.reduceAdd, Int.reduceMul, Int.reduceNeg, Int.reduceToNat, Nat.reduceMul, Nat.reduceBEq, ren1_locm, loc_tips, locT_eq, hQ.2.2.1, hQ.2.2.2.1, hB.2.2.1, hB.2.2.2.1, j1.2.2.1, j1.2.2.2.1, j2.2.2.1, j2.2.2.2.1, m1', m2'] <;> rfl, ?_, ?_, fun x en s hq => ?_⟩
        · omega
        · omega
        · exact hq
  · obtain rfl : k = 2 := by omega
    simp only [go_sem, reduceIte, Nat.reduceEqDiff, Nat.reduceAdd, Nat.reduceSub, Nat.reduceLeDiff, Nat.reduceLT, reduceCtorEq, Int.reduceLT, Int.reduceLE, Int.reduceEq, Int.reduceBEq, Int.reduceSub, Int.reduceAdd, Int.reduceMul, Int.reduceNeg, Int.reduceToNat, Nat.reduceMul, Nat.reduceBEq, index_rsl_if, setm, make_ints, condK_dec, wantK_dec, not_dec, and_dec, or_dec, seqK_ite, seqK_none, blockK_ite, blockK_none, opsK_ite, opsK_none, stepK_ite, stepK_none, bodyK_ite, bodyK_none, resK_ite, resK_none, leaveK_ite, leaveK_none, only_ite, only_none, bind_ite, gives_some, gives_none, gives_ite, then_normal, then_ret, then_exit, then_none, then_ite, Option.bind_none, Bool.not_eq_true', decide_eq_false_iff_not, Bool.and_eq_true, Bool.or_eq_true, Option.some.injEq, Int.not_lt, Int.not_le, lp15_0, show (((2 : Nat) : Int) < 2) = False from eq_false (by omega)]

theorem loop15_0b (Q B C : List AV) (hQ : Inert Q) (hB : Inert B) (hC : Inert C) (n1 : Bool) (sh : List Int) (R : List (List Int)) (ps : List (Int × Int)) (m : Nat) (i : Nat) (hi : i < sh.length) (n57 : Int) (p : Int × Int) (hp : 0 ≤ p.1 ∧ p.1 < p.2 ∧ p.2 < 7) (f g : Nat → Int) (hf : ∀ a, 0 ≤ f a ∧ f a ≤ 100) (hg2 : ∀ a, 0 ≤ g a ∧ g a ≤ 100) (k : Nat) (hok : k ≤ 2) (env : Env) (st : St)
    (hg : gcAV true 6 0 (canon env [4, 6, 8, 9, 10, 11, 12, 56, 57, 58, 63, 64]) st = ([(4, sl 1 n1 (sh.map I)), (6, sl 1 true (R.map listAV)), (8, .ptr 2 0), (9, .ptr 3 0), (10, .rsl 4 0 m m 2 true), (11, I i), (12, .ptr 5 0), (56, sl 2 true (ps.map prAV)), (57, I n57), (58, I i), (63, .agg [I p.1, I p.2]), (64, I k)], ⟨[Q, B, arrC (aF 1 sh[i] p f k), arrC (aF 2 sh[i] p g k), C, [I p.1, I p.2]], []⟩)) :
    ∃ x_1 en s, lim (headed pure (run L) true [4, 6, 8, 9, 10, 11, 12, 56, 57, 58, 63, 64] lp15_0 6 0) env st = some (x_1, en, s) ∧ (x_1 = .exit 2 ∧ en.get 4 = sl 1 n1 (sh.map I) ∧ en.get 6 = sl 1 true (R.map listAV) ∧ en.get 8 = .ptr 2 0 ∧ en.get 9 = .ptr 3 0 ∧ en.get 10 = .rsl 4 0 m m 2 true ∧ en.get 11 = I i ∧ en.get 12 = .ptr 5 0 ∧ en.get 56 = sl 2 true (ps.map prAV) ∧ en.get 57 = I n57 ∧ en.get 58 = I i ∧ en.get 3000000 = .any ∧ s = ⟨[Q, B, arrC (aF 1 sh[i] p f 2), arrC (aF 2 sh[i] p g 2), C, [I p.1, I p.2]], []⟩) := by
  refine loop_wp (α := Nat) (fun k => 2 - k) (fun k => k ≤ 2) (fun k => ([(4, sl 1 n1 (sh.map I)), (6, sl 1 true (R.map listAV)), (8, .ptr 2 0), (9, .ptr 3 0), (10, .rsl 4 0 m m 2 true), (11, I i), (12, .ptr 5 0), (56, sl 2 true (ps.map prAV)), (57, I n57), (58, I i), (63, .agg [I p.1, I p.2]), (64, I k)], ⟨[Q, B, arrC (aF 1 sh[i] p f k), arrC (aF 2 sh[i] p g k), C, [I p.1, I p.2]], []⟩)) (fun k x_1 en s => x_1 = .exit 2 ∧ en.get 4 = sl 1 n1 (sh.map I) ∧ en.get 6 = sl 1 true (R.map listAV) ∧ en.get 8 = .ptr 2 0 ∧ en.get 9 = .ptr 3 0 ∧ en.get 10 = .rsl 4 0 m m 2 true ∧ en.get 11 = I i ∧ en.get 12 = .ptr 5 0 ∧ en.get 56 = sl 2 true (ps.map prAV) ∧ en.get 57 = I n57 ∧ en.get 58 = I i ∧ en.get 3000000 = .any ∧ s = ⟨[Q, B, arrC (aF 1 sh[i] p f 2), arrC (aF 2 sh[i] p g 2), C, [I p.1, I p.2]], []⟩) (fun k hok => ?_) k hok env st hg
  dsimp only
  have hx := index_ints n1 sh i hi
  generalize sh[i] = x at *
  by_cases h : k < 2
  · have hs := succ64 k (by omega)
    have hlt : ((k : Int) < 2) = True := eq_true (by omega)
    have k0 : ((0 : Int) ≤ (k : Int)) = True := eq_true (by omega)
    have hpk : ([I p.1, I p.2] : List AV)[k]? = some (I (pkF p k)) := by
      match k, h with
      | 0, _ => rfl
      | 1, _ => rfl
    have hpkb : 0 ≤ pkF p k ∧ pkF p k < 7 := by unfold pkF; split <;> omega
    have b0 : (0 ≤ pkF p k) = True := eq_true hpkb.1
    have b1 : (pkF p k < 7) = True := eq_true hpkb.2
    have t7 : (pkF p k).toNat < 7 := by omega
    have b2 : ((pkF p k).toNat + 1 ≤ 7) = True := eq_true (by omega)
    have g1 := arrC_at (aF 1 x p f k) t7
    have g2 := arrC_at (aF 2 x p g k) t7
    have n1 := aF_bd 1 x p f hf k (pkF p k).toNat
    have n2 := aF_bd 2 x p g hg2 k (pkF p k).toNat
    have w1 : IntKind.i64.wrap (aF 1 x p f k (pkF p k).toNat + 1) = aF 1 x p f k (pkF p k).toNat + 1 := by rw [wrap64] <;> omega
    have w2 : IntKind.i64.wrap (aF 2 x p g k (pkF p k).toNat + 1) = aF 2 x p g k (pkF p k).toNat + 1 := by rw [wrap64] <;> omega
    have l1 := arrC_len (aF 1 x p f k)
    have l2 := arrC_len (aF 2 x p g k)
    have u1 := arrC_set 1 x (aF 1 x p f k) (pkF p k) hpkb.1
    have u2 := arrC_set 2 x (aF 2 x p g k) (pkF p k) hpkb.1
    have m1 := incV_no 1 x (aF 1 x p f k) (pkF p k)
    have m2 := incV_no 2 x (aF 2 x p g k) (pkF p k)
    rw [← aF_succ 1 x p f h] at u1 m1
    rw [← aF_succ 2 x p g h] at u2 m2
    have j1 := inert_arr (aF 1 x p f (k + 1))
    have j2 := inert_arr (aF 2 x p g (k + 1))
    generalize (aF 1 x p f k (pkF p k).toNat) = y1 at *
    generalize (aF 2 x p g k (pkF p k).toNat) = y2 at *
    by_cases q1 : x = 1
    · have r1 : (x = 1) = True := eq_true q1
      have m2' := m2 (by omega)
      rw [m2'] at j2
      rw [← u1 q1] at j1
      have q1' := u1 q1
      simp only [go_sem, reduceIte, Nat.reduceEqDiff, Nat.reduceAdd, Nat.reduceSub, Nat.reduceLeDiff, Nat.reduceLT, reduceCtorEq, Int.reduceLT, Int.reduceLE, Int.reduceEq, Int.reduceBEq, Int.reduceSub, Int.reduceAdd, Int.reduceMul, Int.reduceNeg, Int.reduceToNat, Nat.reduceMul, Nat.reduceBEq, index_rsl_if, setm, make_ints, condK_dec, wantK_dec, not_dec, and_dec, or_dec, seqK_ite, seqK_none, blockK_ite, blockK_none, opsK_ite, opsK_none, stepK_ite, stepK_none, bodyK_ite, bodyK_none, resK_ite, resK_none, leaveK_ite, leaveK_none, only_ite, only_none, bind_ite, gives_some, gives_none, gives_ite, then_normal, then_ret, then_exit, then_none, then_ite, Option.bind_none, Bool.not_eq_true', decide_eq_false_iff_not, Bool.and_eq_true, Bool.or_eq_true, Option.some.injEq, Int.not_lt, Int.not_le, lp15_0, hlt, hs, k0, hx, hpk, b0, b1, b2, g1, g2, w1, l1, l2, r1]
      refine ⟨k + 1, by simp only [go_sem, reduceIte, Nat.reduceEqDiff, Nat.reduceAdd, Nat.reduceSub, Nat.reduceLeDiff, Nat.reduceLT, reduceCtorEq, Int.reduceLT, Int.reduceLE, Int.reduceEq, Int.reduceBEq, Int.reduceSub, Int.reduceAdd, Int.reduceMul, Int.reduceNeg, Int.reduceToNat, Nat.reduceMul, Nat.reduceBEq, ren1_locm, loc_tips, locT_eq, hQ.2.2.1, hQ.2.2.2.1, hB.2.2.1, hB.2.2.2.1, hC.2.2.1, hC.2.2.2.1, j1.2.2.1, j1.2.2.2.1, j2.2.2.1, j2.2.2.2.1, m2', ← q1'] <;> rfl, ?_, ?_, fun x en s hq => ?_⟩
      · omega
      · omega
      · exact hq
    · have r1 : (x = 1) = False := eq_false q1
      have m1' := m1 q1
      rw [m1'] at j1
      by_cases q2 : x = 2
      · have r2 : (x = 2) = True := eq_true q2
        rw [← u2 q2] at j2
        have q2' := u2 q2
        simp only [go_sem, reduceIte, Nat.reduceEqDiff, Nat.reduceAdd, Nat.reduceSub, Nat.reduceLeDiff, Nat.reduceLT, reduceCtorEq, Int.reduceLT, Int.reduceLE, Int.reduceEq, Int.reduceBEq, Int.reduceSub, Int.reduceAdd, Int.reduceMul, Int.reduceNeg, Int.reduceToNat, Nat.reduceMul, Nat.reduceBEq, index_rsl_if, setm, make_ints, condK_dec, wantK_dec, not_dec, and_dec, or_dec, seqK_ite, seqK_none, blockK_ite, blockK_none, opsK_ite, opsK_none, stepK_ite, stepK_none, bodyK_ite, bodyK_none, resK_ite, resK_none, leaveK_ite, leaveK_none, only_ite, only_none, bind_ite, gives_some, gives_none, gives_ite, then_normal, then_ret, then_exit, then_none, then_ite, Option.bind_none, Bool.not_eq_true', decide_eq_false_iff_not, Bool.and_eq_true, Bool.or_eq_true, Option.some.injEq, Int.not_lt, Int.not_le, lp15_0, hlt, hs, k0, hx, hpk, b0, b1, b2, g1, g2, w2, l1, l2, r1, r2]
        refine ⟨k + 1, by simp only [go_sem, reduceIte, Nat.reduceEqDiff, Nat.reduceAdd, Nat.reduceSub, Nat.reduceLeDiff, Nat.reduceLT, reduceCtorEq, Int.reduceLT, Int.reduceLE, Int.reduceEq, Int.reduceBEq, Int.reduceSub, Int.reduceAdd, Int.reduceMul, Int.reduceNeg, Int.reduceToNat, Nat.reduceMul, Nat.reduceBEq, ren1_locm, loc_tips, locT_eq, hQ.2.2.1, hQ.2.2.2.1, hB.2.2.1, hB.2.2.2.1, hC.2.2.1, hC.2.2.2.1, j1.2.2.1, j1.2.2.2.1, j2.2.2.1, j2.2.2.2.1, m1', ← q2'] <;> rfl, ?_, ?_, fun x en s hq => ?_⟩
        · omega
        · omega
        · exact hq
      · have r2 : (x = 2) = False := eq_false q2
        have m2' := m2 q2
        rw [m2'] at j2
        simp only [go_sem, reduceIte, Nat.reduceEqDiff, Nat.reduceAdd, Nat.reduceSub, Nat.reduceLeDiff, Nat.reduceLT, reduceCtorEq, Int.reduceLT, Int.reduceLE, Int.reduceEq, Int.reduceBEq, Int.reduceSub, Int.reduceAdd, Int.reduceMul, Int.reduceNeg, Int.reduceToNat, Nat.reduceMul, Nat.reduceBEq, index_rsl_if, setm, make_ints, condK_dec, wantK_dec, not_dec, and_dec, or_dec, seqK_ite, seqK_none, blockK_ite, blockK_none, opsK_ite, opsK_none, stepK_ite, stepK_none, bodyK_ite, bodyK_none, resK_ite, resK_none, leaveK_ite, leaveK_none, only_ite, only_none, bind_ite, gives_some, gives_none, gives_ite, then_normal, then_ret, then_exit, then_none, then_ite, Option.bind_none, Bool.not_eq_true', decide_eq_false_iff_not, Bool.and_eq_true, Bool.or_eq_true, Option.some.injEq, Int.not_lt, Int.not_le, lp15_0, hlt, hs, k0, hx, hpk, b0, b1, b2, g1, g2, l1, l2, r1, r2]
        refine ⟨k + 1, by simp only [go_sem, reduceIte, Nat.reduceEqDiff, Nat.reduceAdd, Nat.reduceSub, Nat.reduceLeDiff, Nat.reduceLT, reduceCtorEq, Int.reduceLT, Int.reduceLE, Int.reduceEq, Int.reduceBEq, Int.reduceSub, Int.reduceAdd, Int.reduceMul, Int.reduceNeg, Int.reduceToNat, Nat.reduceMul, Nat.reduceBEq, ren1_locm, loc_tips, locT_eq, hQ.2.2.1, hQ.2.2.2.1, hB.2.2.1, hB.2.2.2.1, hC.2.2.1, hC.2.2.2.1, j1.2.2.1, j1.2.2.2.1, j2.2.2.1, j2.2.2.2.1, m1', m2'] <;> rfl, ?_, ?_, fun x en s hq => ?_⟩
        · omega
        · omega
        · exact hq
  · obtain rfl : k = 2 := by omega
    simp only [go_sem, reduceIte, Nat.reduceEqDiff, Nat.reduceAdd, Nat.reduceSub, Nat.reduceLeDiff, Nat.reduceLT, reduceCtorEq, Int.reduceLT, Int.reduceLE, Int.reduceEq, Int.reduceBEq, Int.reduceSub, Int.reduceAdd, Int.reduceMul, Int.reduceNeg, Int.reduceToNat, Nat.reduceMul, Nat.reduceBEq, index_rsl_if, setm, make_ints, condK_dec, wantK_dec, not_dec, and_dec, or_dec, seqK_ite, seqK_none, blockK_ite, blockK_none, opsK_ite, opsK_none, stepK_ite, stepK_none, bodyK_ite, bodyK_none, resK_ite, resK_none, leaveK_ite, leaveK_none, only_ite, only_none, bind_ite, gives_some, gives_none, gives_ite, then_normal, then_ret, then_exit, then_none, then_ite, Option.bind_none, Bool.not_eq_true', decide_eq_false_iff_not, Bool.and_eq_true, Bool.or_eq_true, Option.some.injEq, Int.not_lt, Int.not_le, lp15_0, show (((2 : Nat) : Int) < 2) = False from eq_false (by omega)]


/-! ### sorting pairs -/
def ltP (p q : Int × Int) : Bool := lexLt [p.1, p.2] [q.1, q.2]
theorem ltP_iff (p q : Int × Int) : ltP p q = true ↔ p.1 < q.1 ∨ p.1 = q.1 ∧ p.2 < q.2 := by
  simp [ltP, lexLt]
theorem ltP_h1 (a b : Int × Int) (h : ltP a b = true) : ltP b a = false := by
  rw [ltP_iff] at h
  cases e : ltP b a
  · rfl
  · rw [ltP_iff] at e; omega
theorem ltP_h2 (a b c : Int × Int) (h1 : ltP b a = false) (h2 : ltP c b = false) : ltP c a = false := by
  cases e : ltP c a
  · rfl
  · rw [ltP_iff] at e
    have g1 : ¬ (ltP b a = true) := by rw [h1]; simp
    have g2 : ¬ (ltP c b = true) := by rw [h2]; simp
    rw [ltP_iff] at g1 g2
    omega
theorem ltP_h3 (a b : Int × Int) (h1 : ltP a b = false) (h2 : ltP b a = false) : a = b := by
  have g1 : ¬ (ltP a b = true) := by rw [h1]; simp
  have g2 : ¬ (ltP b a = true) := by rw [h2]; simp
  rw [ltP_iff] at g1 g2
  exact Prod.ext (by omega) (by omega)
theorem c70 (p q : Int × Int) : ∃ k : Int, (∀ st, run L 70 [prAV p, prAV q] st = some (I k, st)) ∧ decide (k < 0) = ltP p q := by
  obtain ⟨k, h1, h2⟩ := c69 true true [p.1, p.2] [q.1, q.2] (by simp) ⟨[[], []], []⟩
  refine ⟨k, fun st => ?_, h2⟩
  have e : ∀ a b : Int, sl 1 true ([a, b].map I) = .lst .any 1 [I a, I b] := fun a b => rfl
  rw [e, e] at h1
  rw [run_pure (fn := ir70) rfl rfl]
  have hs : ∀ l : Nat, sliceaAV 2 1 false (.ptr l 0) none none none = some (.rsl l 0 2 2 1 false) := fun l => by simp [sliceaAV, natOr]
  have hf : ∀ a b c d : Int, frzArgs (rslsOf [.rsl 0 0 2 2 1 false, .rsl 1 0 2 2 1 false]) [.rsl 0 0 2 2 1 false, .rsl 1 0 2 2 1 false] ⟨[[I a, I b], [I c, I d]], []⟩ = ([.lst .any 1 [I a, I b], .lst .any 1 [I c, I d]], ⟨[[], []], []⟩) := fun _ _ _ _ => rfl
  simp only [ir70, go_sem, reduceIte, Nat.reduceEqDiff, Nat.reduceAdd, Nat.reduceSub, Nat.reduceLeDiff, Nat.reduceLT, reduceCtorEq, Int.reduceLT, Int.reduceLE, Int.reduceEq, Int.reduceBEq, Int.reduceSub, Int.reduceAdd, Int.reduceMul, Int.reduceNeg, Int.reduceToNat, Nat.reduceMul, Nat.reduceBEq, hs, show pure 69 = true from rfl, hf, h1]
abbrev cmpP : AV := .fn (.func 70) [] []

theorem getPr (X : List (Int × Int)) (i : Nat) (x : Int × Int) (h : X[i]? = some x) : ((prC X).drop (i * 2)).take 2 = [I x.1, I x.2] := prC_at X i x h
theorem at_onePr (A : List (Int × Int)) (x : Int × Int) (B : List (Int × Int)) : (A ++ x :: B)[A.length]? = some x := by simp

theorem loop128_0 (S0 : List (List AV)) (T : List Nat) (l : Nat) (hl : l < S0.length) (n : Nat) (hn : n ≤ 1000) (x : Int × Int) (i : Nat) (lo hi : Nat) (j : Nat) (A : List (Int × Int)) (B : List (Int × Int)) (hok : A.length = j ∧ j + 1 + B.length = n) (env : Env) (st : St)
    (hg : gcAV false lo hi (canon env [0, 1, 2, 3, 8, 9]) st = ([(0, .rsl l 0 n n 2 true), (1, I 0), (2, I n), (3, cmpP), (8, I i), (9, I j)], ⟨S0.set l (prC (A ++ x :: B)), T⟩)) :
    ∃ x_1 en s, lim (headed pure (run L) false [0, 1, 2, 3, 8, 9] lp128_0 lo hi) env st = some (x_1, en, s) ∧ (x_1 = .exit 2 ∧ en.get 0 = .rsl l 0 n n 2 true ∧ en.get 1 = I 0 ∧ en.get 2 = I n ∧ en.get 3 = cmpP ∧ en.get 8 = I i ∧ s = ⟨S0.set l (prC (insL ltP A x ++ B)), T⟩) := by
  refine loop_wp (α := Nat × List (Int × Int) × List (Int × Int)) (fun ⟨j, A, B⟩ => j) (fun ⟨j, A, B⟩ => A.length = j ∧ j + 1 + B.length = n) (fun ⟨j, A, B⟩ => ([(0, .rsl l 0 n n 2 true), (1, I 0), (2, I n), (3, cmpP), (8, I i), (9, I j)], ⟨S0.set l (prC (A ++ x :: B)), T⟩)) (fun ⟨j, A, B⟩ x_1 en s => x_1 = .exit 2 ∧ en.get 0 = .rsl l 0 n n 2 true ∧ en.get 1 = I 0 ∧ en.get 2 = I n ∧ en.get 3 = cmpP ∧ en.get 8 = I i ∧ s = ⟨S0.set l (prC (insL ltP A x ++ B)), T⟩) (fun ⟨j, A, B⟩ hok => ?_) ⟨j, A, B⟩ hok env st hg
  simp only at hok
  obtain ⟨h1, h2⟩ := hok
  dsimp only at h1 h2 ⊢
  have hget : ∀ C : List AV, (S0.set l C)[l]? = some C := fun C => List.getElem?_set_self hl
  rcases List.eq_nil_or_concat A with rfl | ⟨A', a, rfl⟩
  · have hj : j = 0 := by simpa using h1.symm
    subst hj
    rw [insL_nil]
    simp only [go_sem, reduceIte, Nat.reduceEqDiff, Nat.reduceAdd, Nat.reduceSub, Nat.reduceLeDiff, Nat.reduceLT, reduceCtorEq, Int.reduceLT, Int.reduceLE, Int.reduceEq, Int.reduceBEq, Int.reduceSub, Int.reduceAdd, Int.reduceMul, Int.reduceNeg, Int.reduceToNat, Nat.reduceMul, Nat.reduceBEq, index_rsl_if, setm, make_ints, condK_dec, wantK_dec, not_dec, and_dec, or_dec, seqK_ite, seqK_none, blockK_ite, blockK_none, opsK_ite, opsK_none, stepK_ite, stepK_none, bodyK_ite, bodyK_none, resK_ite, resK_none, leaveK_ite, leaveK_none, only_ite, only_none, bind_ite, gives_some, gives_none, gives_ite, then_normal, then_ret, then_exit, then_none, then_ite, Option.bind_none, Bool.not_eq_true', decide_eq_false_iff_not, Bool.and_eq_true, Bool.or_eq_true, Option.some.injEq, Int.not_lt, Int.not_le, lp128_0, Int.natCast_zero]
  · rw [List.concat_eq_append] at h1 ⊢
    obtain ⟨m, rfl⟩ : ∃ m, j = m + 1 := ⟨A'.length, by rw [← h1]; simp⟩
    have hm : A'.length = m := by simpa using h1
    have hg1 := getPr ((A' ++ [a]) ++ x :: B) (m + 1) x (by
      have := at_onePr (A' ++ [a]) x B
      rwa [h1] at this)
    have hg2 := getPr ((A' ++ [a]) ++ x :: B) m a (by
      have := at_onePr A' a (x :: B)
      rw [hm] at this
      simpa using this)
    have hset : (((A' ++ [a]) ++ x :: B).set (m + 1) (a.1, a.2)).set m (x.1, x.2) = A' ++ x :: a :: B := by
      subst hm
      simp
    have hlen : ((A' ++ [a]) ++ x :: B).length = n := by simp; omega
    have p1 := prC_put ((A' ++ [a]) ++ x :: B) (m + 1) a.1 a.2 (by omega)
    have p2 := prC_put (((A' ++ [a]) ++ x :: B).set (m + 1) (a.1, a.2)) m x.1 x.2 (by rw [List.length_set]; omega)
    have hXl : (prC ((A' ++ [a]) ++ x :: B)).length = n * 2 := by rw [prC_len, hlen]
    have hYl : (prC (((A' ++ [a]) ++ x :: B).set (m + 1) (a.1, a.2))).length = n * 2 := by rw [prC_len, List.length_set, hlen]
    have hpos : ((0 : Int) < ((m + 1 : Nat) : Int)) = True := eq_true (by omega)
    have hw : IntKind.i64.wrap (((m + 1 : Nat) : Int) - 1) = ((m : Nat) : Int) := by rw [wrap64] <;> omega
    have b0 : ((0 : Int) ≤ ((m + 1 : Nat) : Int)) = True := eq_true (by omega)
    have b1 : (((m + 1 : Nat) : Int) < (n : Int)) = True := eq_true (by omega)
    have b2 : ((0 : Int) ≤ ((m : Nat) : Int)) = True := eq_true (by omega)
    have b3 : (((m : Nat) : Int) < (n : Int)) = True := eq_true (by omega)
    have b6 : ((m + 1) * 2 + 2 ≤ n * 2) = True := eq_true (by omega)
    have b7 : (m * 2 + 2 ≤ n * 2) = True := eq_true (by omega)
    obtain ⟨k, h70, hk⟩ := c70 x a
    rw [insL_snoc]
    generalize hX : (A' ++ [a]) ++ x :: B = X at *
    by_cases p : ltP x a = true
    · rw [p, decide_eq_true_iff] at hk
      have hk0 : (k < 0) = True := eq_true hk
      rw [if_pos p]
      simp only [go_sem, reduceIte, Nat.reduceEqDiff, Nat.reduceAdd, Nat.reduceSub, Nat.reduceLeDiff, Nat.reduceLT, reduceCtorEq, Int.reduceLT, Int.reduceLE, Int.reduceEq, Int.reduceBEq, Int.reduceSub, Int.reduceAdd, Int.reduceMul, Int.reduceNeg, Int.reduceToNat, Nat.reduceMul, Nat.reduceBEq, index_rsl_if, setm, make_ints, condK_dec, wantK_dec, not_dec, and_dec, or_dec, seqK_ite, seqK_none, blockK_ite, blockK_none, opsK_ite, opsK_none, stepK_ite, stepK_none, bodyK_ite, bodyK_none, resK_ite, resK_none, leaveK_ite, leaveK_none, only_ite, only_none, bind_ite, gives_some, gives_none, gives_ite, then_normal, then_ret, then_exit, then_none, then_ite, Option.bind_none, Bool.not_eq_true', decide_eq_false_iff_not, Bool.and_eq_true, Bool.or_eq_true, Option.some.injEq, Int.not_lt, Int.not_le, lp128_0, hpos, hw, b0, b1, b2, b3, b6, b7, hg1, hg2, h70, hk0, hget, hXl, hYl, p1, p2, List.set_set, show pure 70 = true from rfl]
      refine ⟨(m, A', a :: B), by simp only [go_sem, reduceIte, Nat.reduceEqDiff, Nat.reduceAdd, Nat.reduceSub, Nat.reduceLeDiff, Nat.reduceLT, reduceCtorEq, Int.reduceLT, Int.reduceLE, Int.reduceEq, Int.reduceBEq, Int.reduceSub, Int.reduceAdd, Int.reduceMul, Int.reduceNeg, Int.reduceToNat, Nat.reduceMul, Nat.reduceBEq, ren1_locm, loc_tips, locT_eq, hset] <;> rfl, ?_, ?_, fun x en s hq => ?_⟩
      · dsimp only; exact ⟨hm, by rw [List.length_cons]; omega⟩
      · dsimp only; omega
      · dsimp only at hq; rw [List.append_assoc, List.singleton_append]; exact hq
    · have hlt' : ltP x a = false := by simpa using p
      rw [hlt', decide_eq_false_iff_not] at hk
      have hk0 : (k < 0) = False := eq_false hk
      rw [if_neg p]
      have e : A' ++ [a, x] ++ B = X := by rw [← hX]; simp
      rw [e]
      simp only [go_sem, reduceIte, Nat.reduceEqDiff, Nat.reduceAdd, Nat.reduceSub, Nat.reduceLeDiff, Nat.reduceLT, reduceCtorEq, Int.reduceLT, Int.reduceLE, Int.reduceEq, Int.reduceBEq, Int.reduceSub, Int.reduceAdd, Int.reduceMul, Int.reduceNeg, Int.reduceToNat, Nat.reduceMul, Nat.reduceBEq, index_rsl_if, setm, make_ints, condK_dec, wantK_dec, not_dec, and_dec, or_dec, seqK_ite, seqK_none, blockK_ite, blockK_none, opsK_ite, opsK_none, stepK_ite, stepK_none, bodyK_ite, bodyK_none, resK_ite, resK_none, leaveK_ite, leaveK_none, only_ite, only_none, bind_ite, gives_some, gives_none, gives_ite, then_normal, then_ret, then_exit, then_none, then_ite, Option.bind_none, Bool.not_eq_true', decide_eq_false_iff_not, Bool.and_eq_true, Bool.or_eq_true, Option.some.injEq, Int.not_lt, Int.not_le, lp128_0, hpos, hw, b0, b1, b2, b3, b6, b7, hg1, hg2, h70, hk0, hget, hXl, show pure 70 = true from rfl]

theorem loop128_1 (S0 : List (List AV)) (T : List Nat) (l : Nat) (hl : l < S0.length) (n : Nat) (hn : n ≤ 1000) (lo hi : Nat) (i : Nat) (A : List (Int × Int)) (B : List (Int × Int)) (hok : A.length = i ∧ i + B.length = n) (env : Env) (st : St)
    (hg : gcAV false lo hi (canon env [0, 1, 2, 3, 8]) st = ([(0, .rsl l 0 n n 2 true), (1, I 0), (2, I n), (3, cmpP), (8, I i)], ⟨S0.set l (prC (A ++ B)), T⟩)) :
    ∃ x_1 en s, lim (headed pure (run L) false [0, 1, 2, 3, 8] lp128_1 lo hi) env st = some (x_1, en, s) ∧ (x_1 = .exit 0 ∧ s = ⟨S0.set l (prC (B.foldl (insL ltP) A)), T⟩) := by
  refine loop_wp (α := Nat × List (Int × Int) × List (Int × Int)) (fun ⟨i, A, B⟩ => B.length) (fun ⟨i, A, B⟩ => A.length = i ∧ i + B.length = n) (fun ⟨i, A, B⟩ => ([(0, .rsl l 0 n n 2 true), (1, I 0), (2, I n), (3, cmpP), (8, I i)], ⟨S0.set l (prC (A ++ B)), T⟩)) (fun ⟨i, A, B⟩ x_1 en s => x_1 = .exit 0 ∧ s = ⟨S0.set l (prC (B.foldl (insL ltP) A)), T⟩) (fun ⟨i, A, B⟩ hok => ?_) ⟨i, A, B⟩ hok env st hg
  simp only at hok
  obtain ⟨h1, h2⟩ := hok
  dsimp only at h1 h2 ⊢
  cases B with
  | nil =>
    obtain rfl : i = n := by simpa using h2
    rw [List.append_nil]
    simp only [go_sem, reduceIte, Nat.reduceEqDiff, Nat.reduceAdd, Nat.reduceSub, Nat.reduceLeDiff, Nat.reduceLT, reduceCtorEq, Int.reduceLT, Int.reduceLE, Int.reduceEq, Int.reduceBEq, Int.reduceSub, Int.reduceAdd, Int.reduceMul, Int.reduceNeg, Int.reduceToNat, Nat.reduceMul, Nat.reduceBEq, index_rsl_if, setm, make_ints, condK_dec, wantK_dec, not_dec, and_dec, or_dec, seqK_ite, seqK_none, blockK_ite, blockK_none, opsK_ite, opsK_none, stepK_ite, stepK_none, bodyK_ite, bodyK_none, resK_ite, resK_none, leaveK_ite, leaveK_none, only_ite, only_none, bind_ite, gives_some, gives_none, gives_ite, then_normal, then_ret, then_exit, then_none, then_ite, Option.bind_none, Bool.not_eq_true', decide_eq_false_iff_not, Bool.and_eq_true, Bool.or_eq_true, Option.some.injEq, Int.not_lt, Int.not_le, lp128_1, show ((i : Int) < (i : Int)) = False from eq_false (by omega)]
    rfl
  | cons x B =>
    rw [List.length_cons] at h2
    have hs := succ64 i (by omega)
    have hlt : ((i : Int) < (n : Int)) = True := eq_true (by omega)
    rw [List.foldl_cons]
    simp only [go_sem, reduceIte, Nat.reduceEqDiff, Nat.reduceAdd, Nat.reduceSub, Nat.reduceLeDiff, Nat.reduceLT, reduceCtorEq, Int.reduceLT, Int.reduceLE, Int.reduceEq, Int.reduceBEq, Int.reduceSub, Int.reduceAdd, Int.reduceMul, Int.reduceNeg, Int.reduceToNat, Nat.reduceMul, Nat.reduceBEq, index_rsl_if, setm, make_ints, condK_dec, wantK_dec, not_dec, and_dec, or_dec, seqK_ite, seqK_none, blockK_ite, blockK_none, opsK_ite, opsK_none, stepK_ite, stepK_none, bodyK_ite, bodyK_none, resK_ite, resK_none, leaveK_ite, leaveK_none, only_ite, only_none, bind_ite, gives_some, gives_none, gives_ite, then_normal, then_ret, then_exit, then_none, then_ite, Option.bind_none, Bool.not_eq_true', decide_eq_false_iff_not, Bool.and_eq_true, Bool.or_eq_true, Option.some.injEq, Int.not_lt, Int.not_le, lp128_1, hlt, hs]
    generalize hg : lim (headed pure (run L) false _ lp128_0 _ _) _ _ = o
    obtain ⟨x, en, s, rfl, h2⟩ : ∃ x en s, o = some (x, en, s) ∧ _ := by rw [← hg]; exact loop128_0 S0 T l hl n hn x i _ _ i A B ⟨h1, by omega⟩ _ _ (by simp only [go_sem, reduceIte, Nat.reduceEqDiff, Nat.reduceAdd, Nat.reduceSub, Nat.reduceLeDiff, Nat.reduceLT, reduceCtorEq, Int.reduceLT, Int.reduceLE, Int.reduceEq, Int.reduceBEq, Int.reduceSub, Int.reduceAdd, Int.reduceMul, Int.reduceNeg, Int.reduceToNat, Nat.reduceMul, Nat.reduceBEq] <;> rfl)
    clear hg
    obtain ⟨rfl, e0, e1, e2, e3, e8, rfl⟩ := h2
    have hA := insL_len ltP A x
    simp only [go_sem, reduceIte, Nat.reduceEqDiff, Nat.reduceAdd, Nat.reduceSub, Nat.reduceLeDiff, Nat.reduceLT, reduceCtorEq, Int.reduceLT, Int.reduceLE, Int.reduceEq, Int.reduceBEq, Int.reduceSub, Int.reduceAdd, Int.reduceMul, Int.reduceNeg, Int.reduceToNat, Nat.reduceMul, Nat.reduceBEq, index_rsl_if, setm, make_ints, condK_dec, wantK_dec, not_dec, and_dec, or_dec, seqK_ite, seqK_none, blockK_ite, blockK_none, opsK_ite, opsK_none, stepK_ite, stepK_none, bodyK_ite, bodyK_none, resK_ite, resK_none, leaveK_ite, leaveK_none, only_ite, only_none, bind_ite, gives_some, gives_none, gives_ite, then_normal, then_ret, then_exit, then_none, then_ite, Option.bind_none, Bool.not_eq_true', decide_eq_false_iff_not, Bool.and_eq_true, Bool.or_eq_true, Option.some.injEq, Int.not_lt, Int.not_le, lp128_1, e0, e1, e2, e3, e8, hs]
    refine ⟨(i + 1, insL ltP A x, B), by simp only [go_sem, reduceIte, Nat.reduceEqDiff, Nat.reduceAdd, Nat.reduceSub, Nat.reduceLeDiff, Nat.reduceLT, reduceCtorEq, Int.reduceLT, Int.reduceLE, Int.reduceEq, Int.reduceBEq, Int.reduceSub, Int.reduceAdd, Int.reduceMul, Int.reduceNeg, Int.reduceToNat, Nat.reduceMul, Nat.reduceBEq, ren1_locm, loc_tips, locT_eq, e0, e1, e2, e3, e8] <;> rfl, ?_, ?_, fun x en s hq => ?_⟩
    · dsimp only; exact ⟨by omega, by omega⟩
    · dsimp only; omega
    · exact hq

theorem c128 (S : List (List AV)) (T : List Nat) (l : Nat) (X : List (Int × Int)) (h : S[l]? = some (prC X)) (h1 : 1 ≤ X.length) (hn : X.length ≤ 1000) :
    run L 128 [.rsl l 0 X.length X.length 2 true, I 0, I X.length, cmpP] ⟨S, T⟩ = some (.tup [], ⟨S.set l (prC (sortL ltP X)), T⟩) := by
  rw [run_shared (fn := ir128) rfl rfl]
  have hl := (List.getElem?_eq_some_iff.1 h).1
  have hS := set_same S l _ h
  cases X with
  | nil => simp at h1
  | cons x B =>
    have hw : IntKind.i64.wrap (0 + 1) = 1 := by decide
    rw [sortL_cons]
    generalize hk : (x :: B).length = k at *
    rw [List.length_cons] at hk
    rw [← hS]
    simp only [ir128, go_sem, reduceIte, Nat.reduceEqDiff, Nat.reduceAdd, Nat.reduceSub, Nat.reduceLeDiff, Nat.reduceLT, reduceCtorEq, Int.reduceLT, Int.reduceLE, Int.reduceEq, Int.reduceBEq, Int.reduceSub, Int.reduceAdd, Int.reduceMul, Int.reduceNeg, Int.reduceToNat, Nat.reduceMul, Nat.reduceBEq, hw, List.set_set]
    generalize hg : lim (headed pure (run L) false _ lp128_1 _ _) _ _ = o
    obtain ⟨x, en, s, rfl, h2⟩ : ∃ x en s, o = some (x, en, s) ∧ _ := by rw [← hg]; exact loop128_1 S T l hl k hn _ _ 1 [x] B ⟨rfl, by omega⟩ _ _ (by simp only [go_sem, reduceIte, Nat.reduceEqDiff, Nat.reduceAdd, Nat.reduceSub, Nat.reduceLeDiff, Nat.reduceLT, reduceCtorEq, Int.reduceLT, Int.reduceLE, Int.reduceEq, Int.reduceBEq, Int.reduceSub, Int.reduceAdd, Int.reduceMul, Int.reduceNeg, Int.reduceToNat, Nat.reduceMul, Nat.reduceBEq, show ((1 : Nat) : Int) = 1 from rfl, show [x] ++ B = x :: B from rfl] <;> rfl)
    clear hg
    obtain ⟨rfl, rfl⟩ := h2
    simp only [go_sem, reduceIte, Nat.reduceEqDiff, Nat.reduceAdd, Nat.reduceSub, Nat.reduceLeDiff, Nat.reduceLT, reduceCtorEq, Int.reduceLT, Int.reduceLE, Int.reduceEq, Int.reduceBEq, Int.reduceSub, Int.reduceAdd, Int.reduceMul, Int.reduceNeg, Int.reduceToNat, Nat.reduceMul, Nat.reduceBEq]
theorem loop103 (S : List (List AV)) (T : List Nat) (l : Nat) (X : List (Int × Int)) (h : S[l]? = some (prC X)) (h1 : 1 ≤ X.length) (hn : X.length ≤ 12) (lim0 : Int) (lo hi : Nat) (u : Nat) (hok : True) (env : Env) (st : St)
    (hg : gcAV false lo hi (canon env [0, 1, 2, 3, 4, 10, 11]) st = ([(0, .rsl l 0 X.length X.length 2 true), (1, I 0), (2, I X.length), (3, I lim0), (4, cmpP), (10, B true), (11, B true)], ⟨S, T⟩)) :
    ∃ x_1 en s, lim (headed pure (run L) false [0, 1, 2, 3, 4, 10, 11] lp103_0 lo hi) env st = some (x_1, en, s) ∧ (x_1 = .ret ∧ s = ⟨S.set l (prC (sortL ltP X)), T⟩) := by
  refine loop_wp (α := Nat) (fun u => u) (fun u => True) (fun u => ([(0, .rsl l 0 X.length X.length 2 true), (1, I 0), (2, I X.length), (3, I lim0), (4, cmpP), (10, B true), (11, B true)], ⟨S, T⟩)) (fun u x_1 en s => x_1 = .ret ∧ s = ⟨S.set l (prC (sortL ltP X)), T⟩) (fun u hok => ?_) u hok env st hg
  have h128 := c128 S T l X h h1 (by omega)
  have hw : IntKind.i64.wrap ((X.length : Int) - 0) = (X.length : Int) := by rw [wrap64] <;> omega
  have q : ((X.length : Int) ≤ 12) = True := eq_true (by omega)
  simp only [go_sem, reduceIte, Nat.reduceEqDiff, Nat.reduceAdd, Nat.reduceSub, Nat.reduceLeDiff, Nat.reduceLT, reduceCtorEq, Int.reduceLT, Int.reduceLE, Int.reduceEq, Int.reduceBEq, Int.reduceSub, Int.reduceAdd, Int.reduceMul, Int.reduceNeg, Int.reduceToNat, Nat.reduceMul, Nat.reduceBEq, index_rsl_if, setm, make_ints, condK_dec, wantK_dec, not_dec, and_dec, or_dec, seqK_ite, seqK_none, blockK_ite, blockK_none, opsK_ite, opsK_none, stepK_ite, stepK_none, bodyK_ite, bodyK_none, resK_ite, resK_none, leaveK_ite, leaveK_none, only_ite, only_none, bind_ite, gives_some, gives_none, gives_ite, then_normal, then_ret, then_exit, then_none, then_ite, Option.bind_none, Bool.not_eq_true', decide_eq_false_iff_not, Bool.and_eq_true, Bool.or_eq_true, Option.some.injEq, Int.not_lt, Int.not_le, lp103_0, hw, q, h128, show pure 128 = false from rfl]

theorem c103 (S : List (List AV)) (T : List Nat) (l : Nat) (X : List (Int × Int)) (h : S[l]? = some (prC X)) (h1 : 1 ≤ X.length) (hn : X.length ≤ 12) (lim0 : Int) :
    run L 103 [.rsl l 0 X.length X.length 2 true, I 0, I X.length, I lim0, cmpP] ⟨S, T⟩ = some (.tup [], ⟨S.set l (prC (sortL ltP X)), T⟩) := by
  rw [run_shared (fn := ir103) rfl rfl]
  simp only [ir103, go_sem, reduceIte, Nat.reduceEqDiff, Nat.reduceAdd, Nat.reduceSub, Nat.reduceLeDiff, Nat.reduceLT, reduceCtorEq, Int.reduceLT, Int.reduceLE, Int.reduceEq, Int.reduceBEq, Int.reduceSub, Int.reduceAdd, Int.reduceMul, Int.reduceNeg, Int.reduceToNat, Nat.reduceMul, Nat.reduceBEq]
  generalize hg : lim (headed pure (run L) false _ lp103_0 _ _) _ _ = o
  obtain ⟨x, en, s, rfl, h2⟩ : ∃ x en s, o = some (x, en, s) ∧ _ := by rw [← hg]; exact loop103 S T l X h h1 hn lim0 _ _ 0 trivial _ _ (by simp only [go_sem, reduceIte, Nat.reduceEqDiff, Nat.reduceAdd, Nat.reduceSub, Nat.reduceLeDiff, Nat.reduceLT, reduceCtorEq, Int.reduceLT, Int.reduceLE, Int.reduceEq, Int.reduceBEq, Int.reduceSub, Int.reduceAdd, Int.reduceMul, Int.reduceNeg, Int.reduceToNat, Nat.reduceMul, Nat.reduceBEq] <;> rfl)
  clear hg
  obtain ⟨rfl, rfl⟩ := h2
  simp only [go_sem, reduceIte, Nat.reduceEqDiff, Nat.reduceAdd, Nat.reduceSub, Nat.reduceLeDiff, Nat.reduceLT, reduceCtorEq, Int.reduceLT, Int.reduceLE, Int.reduceEq, Int.reduceBEq, Int.reduceSub, Int.reduceAdd, Int.reduceMul, Int.reduceNeg, Int.reduceToNat, Nat.reduceMul, Nat.reduceBEq]
theorem c71 (S : List (List AV)) (T : List Nat) (l : Nat) (X : List (Int × Int)) (h : S[l]? = some (prC X)) (h1 : 1 ≤ X.length) (hn : X.length ≤ 12) :
    run L 71 [.rsl l 0 X.length X.length 2 true, cmpP] ⟨S, T⟩ = some (.tup [], ⟨S.set l (prC (sortL ltP X)), T⟩) := by
  rw [run_shared (fn := ir71) rfl rfl]
  have hw : IntKind.u64.wrap (X.length : Int) = (X.length : Int) := by simp [IntKind.wrap, IntKind.bits, IntKind.signed]; omega
  have h101 := fun st => c101 X.length hn st
  have h103 := c103 S T l X h h1 hn (blN X.length : Nat)
  simp only [ir71, go_sem, reduceIte, Nat.reduceEqDiff, Nat.reduceAdd, Nat.reduceSub, Nat.reduceLeDiff, Nat.reduceLT, reduceCtorEq, Int.reduceLT, Int.reduceLE, Int.reduceEq, Int.reduceBEq, Int.reduceSub, Int.reduceAdd, Int.reduceMul, Int.reduceNeg, Int.reduceToNat, Nat.reduceMul, Nat.reduceBEq, hw, h101, h103, show pure 103 = false from rfl]
/-- Nothing to sort. -/
theorem c128n (st : St) : run L 128 [.v (.slice none 0 0), I 0, I 0, cmpP] st = some (.tup [], st) := by
  rw [run_shared (fn := ir128) rfl rfl]
  have hw : IntKind.i64.wrap (0 + 1) = 1 := by decide
  simp only [ir128, go_sem, reduceIte, Nat.reduceEqDiff, Nat.reduceAdd, Nat.reduceSub, Nat.reduceLeDiff, Nat.reduceLT, reduceCtorEq, Int.reduceLT, Int.reduceLE, Int.reduceEq, Int.reduceBEq, Int.reduceSub, Int.reduceAdd, Int.reduceMul, Int.reduceNeg, Int.reduceToNat, Nat.reduceMul, Nat.reduceBEq, hw]
  generalize hg : lim (headed pure (run L) false _ lp128_1 _ _) _ _ = o
  obtain ⟨x, en, s, rfl, h2⟩ : ∃ x en s, o = some (x, en, s) ∧ (x = .exit 0 ∧ s = st) := by
    rw [← hg]
    refine loop_wp (α := Nat) (fun _ => 0) (fun _ => True) (fun _ => ([(0, .v (.slice none 0 0)), (1, I 0), (2, I 0), (3, cmpP), (8, I 1)], st)) (fun _ x_1 en s => x_1 = .exit 0 ∧ s = st) (fun _ hok => ?_) 0 trivial _ _ (by simp only [go_sem, reduceIte, Nat.reduceEqDiff, Nat.reduceAdd, Nat.reduceSub, Nat.reduceLeDiff, Nat.reduceLT, reduceCtorEq, Int.reduceLT, Int.reduceLE, Int.reduceEq, Int.reduceBEq, Int.reduceSub, Int.reduceAdd, Int.reduceMul, Int.reduceNeg, Int.reduceToNat, Nat.reduceMul, Nat.reduceBEq] <;> rfl)
    simp only [go_sem, reduceIte, Nat.reduceEqDiff, Nat.reduceAdd, Nat.reduceSub, Nat.reduceLeDiff, Nat.reduceLT, reduceCtorEq, Int.reduceLT, Int.reduceLE, Int.reduceEq, Int.reduceBEq, Int.reduceSub, Int.reduceAdd, Int.reduceMul, Int.reduceNeg, Int.reduceToNat, Nat.reduceMul, Nat.reduceBEq, index_rsl_if, setm, make_ints, condK_dec, wantK_dec, not_dec, and_dec, or_dec, seqK_ite, seqK_none, blockK_ite, blockK_none, opsK_ite, opsK_none, stepK_ite, stepK_none, bodyK_ite, bodyK_none, resK_ite, resK_none, leaveK_ite, leaveK_none, only_ite, only_none, bind_ite, gives_some, gives_none, gives_ite, then_normal, then_ret, then_exit, then_none, then_ite, Option.bind_none, Bool.not_eq_true', decide_eq_false_iff_not, Bool.and_eq_true, Bool.or_eq_true, Option.some.injEq, Int.not_lt, Int.not_le, lp128_1]
  clear hg
  obtain ⟨rfl, rfl⟩ := h2
  simp only [go_sem, reduceIte, Nat.reduceEqDiff, Nat.reduceAdd, Nat.reduceSub, Nat.reduceLeDiff, Nat.reduceLT, reduceCtorEq, Int.reduceLT, Int.reduceLE, Int.reduceEq, Int.reduceBEq, Int.reduceSub, Int.reduceAdd, Int.reduceMul, Int.reduceNeg, Int.reduceToNat, Nat.reduceMul, Nat.reduceBEq]
theorem c103n (k : Int) (st : St) : run L 103 [.v (.slice none 0 0), I 0, I 0, I k, cmpP] st = some (.tup [], st) := by
  rw [run_shared (fn := ir103) rfl rfl]
  simp only [ir103, go_sem, reduceIte, Nat.reduceEqDiff, Nat.reduceAdd, Nat.reduceSub, Nat.reduceLeDiff, Nat.reduceLT, reduceCtorEq, Int.reduceLT, Int.reduceLE, Int.reduceEq, Int.reduceBEq, Int.reduceSub, Int.reduceAdd, Int.reduceMul, Int.reduceNeg, Int.reduceToNat, Nat.reduceMul, Nat.reduceBEq]
  generalize hg : lim (headed pure (run L) false _ lp103_0 _ _) _ _ = o
  obtain ⟨x, en, s, rfl, h2⟩ : ∃ x en s, o = some (x, en, s) ∧ (x = .ret ∧ s = st) := by
    rw [← hg]
    refine loop_wp (α := Nat) (fun _ => 0) (fun _ => True) (fun _ => ([(0, .v (.slice none 0 0)), (1, I 0), (2, I 0), (3, I k), (4, cmpP), (10, B true), (11, B true)], st)) (fun _ x_1 en s => x_1 = .ret ∧ s = st) (fun _ hok => ?_) 0 trivial _ _ (by simp only [go_sem, reduceIte, Nat.reduceEqDiff, Nat.reduceAdd, Nat.reduceSub, Nat.reduceLeDiff, Nat.reduceLT, reduceCtorEq, Int.reduceLT, Int.reduceLE, Int.reduceEq, Int.reduceBEq, Int.reduceSub, Int.reduceAdd, Int.reduceMul, Int.reduceNeg, Int.reduceToNat, Nat.reduceMul, Nat.reduceBEq] <;> rfl)
    have hw : IntKind.i64.wrap 0 = 0 := by decide
    have hlt : ((0 : Int) ≤ 12) = True := eq_true (by omega)
    have h128 := c128n
    simp only [go_sem, reduceIte, Nat.reduceEqDiff, Nat.reduceAdd, Nat.reduceSub, Nat.reduceLeDiff, Nat.reduceLT, reduceCtorEq, Int.reduceLT, Int.reduceLE, Int.reduceEq, Int.reduceBEq, Int.reduceSub, Int.reduceAdd, Int.reduceMul, Int.reduceNeg, Int.reduceToNat, Nat.reduceMul, Nat.reduceBEq, index_rsl_if, setm, make_ints, condK_dec, wantK_dec, not_dec, and_dec, or_dec, seqK_ite, seqK_none, blockK_ite, blockK_none, opsK_ite, opsK_none, stepK_ite, stepK_none, bodyK_ite, bodyK_none, resK_ite, resK_none, leaveK_ite, leaveK_none, only_ite, only_none, bind_ite, gives_some, gives_none, gives_ite, then_normal, then_ret, then_exit, then_none, then_ite, Option.bind_none, Bool.not_eq_true', decide_eq_false_iff_not, Bool.and_eq_true, Bool.or_eq_true, Option.some.injEq, Int.not_lt, Int.not_le, lp103_0, hw, hlt, h128, show pure 128 = false from rfl]
  clear hg
  obtain ⟨rfl, rfl⟩ := h2
  simp only [go_sem, reduceIte, Nat.reduceEqDiff, Nat.reduceAdd, Nat.reduceSub, Nat.reduceLeDiff, Nat.reduceLT, reduceCtorEq, Int.reduceLT, Int.reduceLE, Int.reduceEq, Int.reduceBEq, Int.reduceSub, Int.reduceAdd, Int.reduceMul, Int.reduceNeg, Int.reduceToNat, Nat.reduceMul, Nat.reduceBEq]
theorem c71n (st : St) : run L 71 [.v (.slice none 0 0), cmpP] st = some (.tup [], st) := by
  rw [run_shared (fn := ir71) rfl rfl]
  have hw : IntKind.u64.wrap 0 = 0 := by decide
  have h101 := fun st => c101 0 (by omega) st
  have h103 := fun st => c103n (blN 0 : Nat) st
  simp only [Int.natCast_zero] at h101
  simp only [ir71, go_sem, reduceIte, Nat.reduceEqDiff, Nat.reduceAdd, Nat.reduceSub, Nat.reduceLeDiff, Nat.reduceLT, reduceCtorEq, Int.reduceLT, Int.reduceLE, Int.reduceEq, Int.reduceBEq, Int.reduceSub, Int.reduceAdd, Int.reduceMul, Int.reduceNeg, Int.reduceToNat, Nat.reduceMul, Nat.reduceBEq, hw, h101, h103, show pure 103 = false from rfl]


theorem onesL_snoc (W : List ((Int × Int) × Int)) (e : (Int × Int) × Int) : onesL (W ++ [e]) = onesL W ++ if e.2 = 1 then [e.1] else [] := by
  unfold onesL
  rw [List.filter_append, List.map_append]
  congr 1
  by_cases h : e.2 = 1
  · rw [if_pos h, List.filter_cons_of_pos (by simpa using h)]; rfl
  · rw [if_neg h, List.filter_cons_of_neg (by simpa using h)]; rfl
theorem aF_zero (v x : Int) (p : Int × Int) (f : Nat → Int) : aF v x p f 0 = f := rfl

set_option maxHeartbeats 2000000 in
theorem loop15_1 (Q B : List AV) (hQ : Inert Q) (hB : Inert B) (n1 : Bool) (sh : List Int) (R : List (List Int)) (ps : List (Int × Int)) (hps : ∀ p ∈ ps, 0 ≤ p.1 ∧ p.1 < p.2 ∧ p.2 < 7) (hlen : ps.length ≤ 10) (hsl : sh.length = ps.length) (i : Nat) (u : List (Int × Int)) (hok : i ≤ ps.length ∧ u = onesL ((ps.zip sh).take i)) (env : Env) (st : St)
    (hg : gcAV true 4 0 (canon env [4, 6, 8, 9, 10, 56, 57, 58, 3000000]) st = ([(4, sl 1 n1 (sh.map I)), (6, sl 1 true (R.map listAV)), (8, .ptr 2 0), (9, .ptr 3 0), (10, wpA 4 u), (56, sl 2 true (ps.map prAV)), (57, I ps.length), (58, I i), (3000000, .any)], ⟨[Q, B, arrC (cntF 1 ((ps.zip sh).take i)), arrC (cntF 2 ((ps.zip sh).take i))] ++ wpS u, []⟩)) :
    ∃ x_1 en s, lim (headed pure (run L) true [4, 6, 8, 9, 10, 56, 57, 58, 3000000] lp15_1 4 0) env st = some (x_1, en, s) ∧ (x_1 = .exit 0 ∧ en.get 6 = sl 1 true (R.map listAV) ∧ en.get 8 = .ptr 2 0 ∧ en.get 9 = .ptr 3 0 ∧ en.get 10 = wpA 4 (onesL (ps.zip sh)) ∧ en.get 3000000 = .any ∧ s = ⟨[Q, B, arrC (cntF 1 (ps.zip sh)), arrC (cntF 2 (ps.zip sh))] ++ wpS (onesL (ps.zip sh)), []⟩) := by
  refine loop_wp (α := Nat × List (Int × Int)) (fun ⟨i, u⟩ => ps.length - i) (fun ⟨i, u⟩ => i ≤ ps.length ∧ u = onesL ((ps.zip sh).take i)) (fun ⟨i, u⟩ => ([(4, sl 1 n1 (sh.map I)), (6, sl 1 true (R.map listAV)), (8, .ptr 2 0), (9, .ptr 3 0), (10, wpA 4 u), (56, sl 2 true (ps.map prAV)), (57, I ps.length), (58, I i), (3000000, .any)], ⟨[Q, B, arrC (cntF 1 ((ps.zip sh).take i)), arrC (cntF 2 ((ps.zip sh).take i))] ++ wpS u, []⟩)) (fun ⟨i, u⟩ x_1 en s => x_1 = .exit 0 ∧ en.get 6 = sl 1 true (R.map listAV) ∧ en.get 8 = .ptr 2 0 ∧ en.get 9 = .ptr 3 0 ∧ en.get 10 = wpA 4 (onesL (ps.zip sh)) ∧ en.get 3000000 = .any ∧ s = ⟨[Q, B, arrC (cntF 1 (ps.zip sh)), arrC (cntF 2 (ps.zip sh))] ++ wpS (onesL (ps.zip sh)), []⟩) (fun ⟨i, u⟩ hok => ?_) ⟨i, u⟩ hok env st hg
  simp only at hok
  obtain ⟨h1, h2⟩ := hok
  dsimp only at h1 h2 ⊢
  have hWl : (ps.zip sh).length = ps.length := by rw [List.length_zip]; omega
  by_cases h : i < ps.length
  · have hi : i < sh.length := by omega
    have hs := succ64 i (by omega)
    have hx := index_prs2 true ps i h
    have hy := index_ints n1 sh i hi
    have hlt : ((i : Int) < (ps.length : Int)) = True := eq_true (by omega)
    have hp := hps ps[i] (List.getElem_mem h)
    have hWi : (ps.zip sh)[i]'(by omega) = (ps[i], sh[i]) := List.getElem_zip
    have htk : (ps.zip sh).take (i + 1) = (ps.zip sh).take i ++ [(ps[i], sh[i])] := by rw [← hWi]; exact (List.take_append_getElem (by omega)).symm
    have hon : onesL ((ps.zip sh).take (i + 1)) = u ++ if sh[i] = 1 then [ps[i]] else [] := by rw [htk, onesL_snoc, ← h2]
    have hol : u.length ≤ 10 := by
      rw [h2]
      have := onesL_len ((ps.zip sh).take i)
      rw [List.length_take] at this; omega
    have b1 := fun a => cntF_bd 1 a ((ps.zip sh).take i)
    have b2 := fun a => cntF_bd 2 a ((ps.zip sh).take i)
    rw [List.length_take] at b1 b2
    have c1 := aF_cnt 1 ((ps.zip sh).take i) (ps[i], sh[i]) hp.2.1
    have c2 := aF_cnt 2 ((ps.zip sh).take i) (ps[i], sh[i]) hp.2.1
    rw [← htk] at c1 c2
    dsimp only at c1 c2
    have j1 := inert_arr (cntF 1 ((ps.zip sh).take (i + 1)))
    have j2 := inert_arr (cntF 2 ((ps.zip sh).take (i + 1)))
    have i1 := inert_arr (cntF 1 ((ps.zip sh).take i))
    have i2 := inert_arr (cntF 2 ((ps.zip sh).take i))
    by_cases hX : u = []
    · have eA : wpA 4 u = .v (.slice none 0 0) := by rw [hX]; rfl
      have eS : wpS u = [] := by rw [hX]; rfl
      simp only [go_sem, reduceIte, Nat.reduceEqDiff, Nat.reduceAdd, Nat.reduceSub, Nat.reduceLeDiff, Nat.reduceLT, reduceCtorEq, Int.reduceLT, Int.reduceLE, Int.reduceEq, Int.reduceBEq, Int.reduceSub, Int.reduceAdd, Int.reduceMul, Int.reduceNeg, Int.reduceToNat, Nat.reduceMul, Nat.reduceBEq, index_rsl_if, setm, make_ints, condK_dec, wantK_dec, not_dec, and_dec, or_dec, seqK_ite, seqK_none, blockK_ite, blockK_none, opsK_ite, opsK_none, stepK_ite, stepK_none, bodyK_ite, bodyK_none, resK_ite, resK_none, leaveK_ite, leaveK_none, only_ite, only_none, bind_ite, gives_some, gives_none, gives_ite, then_normal, then_ret, then_exit, then_none, then_ite, Option.bind_none, Bool.not_eq_true', decide_eq_false_iff_not, Bool.and_eq_true, Bool.or_eq_true, Option.some.injEq, Int.not_lt, Int.not_le, lp15_1, hlt, hs, hx, eA, eS]
      generalize hg : lim (headed pure (run L) true _ lp15_0 _ _) _ _ = o
      obtain ⟨x, en, s, rfl, h2⟩ : ∃ x en s, o = some (x, en, s) ∧ _ := by rw [← hg]; exact loop15_0a Q B hQ hB n1 sh R ps 0 i hi ps.length ps[i] hp (cntF 1 ((ps.zip sh).take i)) (cntF 2 ((ps.zip sh).take i)) (fun a => by have := b1 a; omega) (fun a => by have := b2 a; omega) 0 (Nat.zero_le _) _ _ (by simp only [go_sem, reduceIte, Nat.reduceEqDiff, Nat.reduceAdd, Nat.reduceSub, Nat.reduceLeDiff, Nat.reduceLT, reduceCtorEq, Int.reduceLT, Int.reduceLE, Int.reduceEq, Int.reduceBEq, Int.reduceSub, Int.reduceAdd, Int.reduceMul, Int.reduceNeg, Int.reduceToNat, Nat.reduceMul, Nat.reduceBEq, aF_zero, Int.natCast_zero, hQ.1, hQ.2.1, hQ.2.2.1, hQ.2.2.2.1, hB.1, hB.2.1, hB.2.2.1, hB.2.2.2.1, i1.1, i1.2.1, i1.2.2.1, i1.2.2.2.1, i2.1, i2.2.1, i2.2.2.1, i2.2.2.2.1] <;> rfl)
      clear hg
      obtain ⟨rfl, e4, e6, e8, e9, e10, e11, e12, e56, e57, e58, ek, rfl⟩ := h2
      rw [c1, c2]
      by_cases q : sh[i] = 1
      · have q' : (sh[i] = 1) = True := eq_true q
        rw [if_pos q] at hon
        have happ := wp_nil ps[i].1 ps[i].2
        have eo : [ps[i]] = u ++ [ps[i]] := by rw [hX]; rfl
        rw [show [(ps[i].1, ps[i].2)] = u ++ [ps[i]] from eo] at happ
        have eA2 := wpA_ne (l := 4) (show u ++ [ps[i]] ≠ [] by simp)
        have eS2 := wpS_ne (show u ++ [ps[i]] ≠ [] by simp)
        have hl2 : (u ++ [ps[i]]).length = 1 := by rw [hX]; rfl
        rw [hl2] at eA2
        have i2' := inert_prC (u ++ [ps[i]])
        generalize prC (u ++ [ps[i]]) = C at *
        simp only [go_sem, reduceIte, Nat.reduceEqDiff, Nat.reduceAdd, Nat.reduceSub, Nat.reduceLeDiff, Nat.reduceLT, reduceCtorEq, Int.reduceLT, Int.reduceLE, Int.reduceEq, Int.reduceBEq, Int.reduceSub, Int.reduceAdd, Int.reduceMul, Int.reduceNeg, Int.reduceToNat, Nat.reduceMul, Nat.reduceBEq, index_rsl_if, setm, make_ints, condK_dec, wantK_dec, not_dec, and_dec, or_dec, seqK_ite, seqK_none, blockK_ite, blockK_none, opsK_ite, opsK_none, stepK_ite, stepK_none, bodyK_ite, bodyK_none, resK_ite, resK_none, leaveK_ite, leaveK_none, only_ite, only_none, bind_ite, gives_some, gives_none, gives_ite, then_normal, then_ret, then_exit, then_none, then_ite, Option.bind_none, Bool.not_eq_true', decide_eq_false_iff_not, Bool.and_eq_true, Bool.or_eq_true, Option.some.injEq, Int.not_lt, Int.not_le, lp15_1, hlt, hs, hy, e4, e6, e8, e9, e10, e11, e12, e56, e57, e58, ek, q', happ]
        refine ⟨(i + 1, u ++ [ps[i]]), by simp only [go_sem, reduceIte, Nat.reduceEqDiff, Nat.reduceAdd, Nat.reduceSub, Nat.reduceLeDiff, Nat.reduceLT, reduceCtorEq, Int.reduceLT, Int.reduceLE, Int.reduceEq, Int.reduceBEq, Int.reduceSub, Int.reduceAdd, Int.reduceMul, Int.reduceNeg, Int.reduceToNat, Nat.reduceMul, Nat.reduceBEq, ren1_locm, loc_tips, locT_eq, e4, e6, e8, e9, e10, e11, e12, e56, e57, e58, ek, eA2, eS2, hQ.1, hQ.2.1, hQ.2.2.1, hQ.2.2.2.1, hB.1, hB.2.1, hB.2.2.1, hB.2.2.2.1, j1.1, j1.2.1, j1.2.2.1, j1.2.2.2.1, j2.1, j2.2.1, j2.2.2.1, j2.2.2.2.1, i2'.1, i2'.2.1, i2'.2.2.1, i2'.2.2.2.1, compact, compactW, refsEnv, refsV, refsL, refsStore, refsAt, mapEnv, mapL, mapLs, newName, posOf, mapStore, pickStore, namesOk, refsV_sl, mapL_sl, List.contains_nil, List.contains_cons, Option.getD_some, hasKey] <;> rfl, ?_, ?_, fun x en s hq => ?_⟩
        · dsimp only; exact ⟨by omega, hon.symm⟩
        · dsimp only; omega
        · exact hq
      · have q' : (sh[i] = 1) = False := eq_false q
        rw [if_neg q, List.append_nil] at hon
        simp only [go_sem, reduceIte, Nat.reduceEqDiff, Nat.reduceAdd, Nat.reduceSub, Nat.reduceLeDiff, Nat.reduceLT, reduceCtorEq, Int.reduceLT, Int.reduceLE, Int.reduceEq, Int.reduceBEq, Int.reduceSub, Int.reduceAdd, Int.reduceMul, Int.reduceNeg, Int.reduceToNat, Nat.reduceMul, Nat.reduceBEq, index_rsl_if, setm, make_ints, condK_dec, wantK_dec, not_dec, and_dec, or_dec, seqK_ite, seqK_none, blockK_ite, blockK_none, opsK_ite, opsK_none, stepK_ite, stepK_none, bodyK_ite, bodyK_none, resK_ite, resK_none, leaveK_ite, leaveK_none, only_ite, only_none, bind_ite, gives_some, gives_none, gives_ite, then_normal, then_ret, then_exit, then_none, then_ite, Option.bind_none, Bool.not_eq_true', decide_eq_false_iff_not, Bool.and_eq_true, Bool.or_eq_true, Option.some.injEq, Int.not_lt, Int.not_le, lp15_1, hlt, hs, hy, e4, e6, e8, e9, e10, e11, e12, e56, e57, e58, ek, q']
        refine ⟨(i + 1, u), by simp only [go_sem, reduceIte, Nat.reduceEqDiff, Nat.reduceAdd, Nat.reduceSub, Nat.reduceLeDiff, Nat.reduceLT, reduceCtorEq, Int.reduceLT, Int.reduceLE, Int.reduceEq, Int.reduceBEq, Int.reduceSub, Int.reduceAdd, Int.reduceMul, Int.reduceNeg, Int.reduceToNat, Nat.reduceMul, Nat.reduceBEq, ren1_locm, loc_tips, locT_eq, e4, e6, e8, e9, e10, e11, e12, e56, e57, e58, ek, eA, eS, hQ.1, hQ.2.1, hQ.2.2.1, hQ.2.2.2.1, hB.1, hB.2.1, hB.2.2.1, hB.2.2.2.1, j1.1, j1.2.1, j1.2.2.1, j1.2.2.2.1, j2.1, j2.2.1, j2.2.2.1, j2.2.2.2.1, compact, compactW, refsEnv, refsV, refsL, refsStore, refsAt, mapEnv, mapL, mapLs, newName, posOf, mapStore, pickStore, namesOk, refsV_sl, mapL_sl, List.contains_nil, List.contains_cons, Option.getD_some, hasKey] <;> rfl, ?_, ?_, fun x en s hq => ?_⟩
        · dsimp only; exact ⟨by omega, hon.symm⟩
        · dsimp only; omega
        · exact hq
    · have hpos : 1 ≤ u.length := by
        cases u with
        | nil => exact absurd rfl hX
        | cons x r => simp
      have io := inert_prC u
      have eA := wpA_ne (l := 4) hX
      have eS := wpS_ne hX
      simp only [go_sem, reduceIte, Nat.reduceEqDiff, Nat.reduceAdd, Nat.reduceSub, Nat.reduceLeDiff, Nat.reduceLT, reduceCtorEq, Int.reduceLT, Int.reduceLE, Int.reduceEq, Int.reduceBEq, Int.reduceSub, Int.reduceAdd, Int.reduceMul, Int.reduceNeg, Int.reduceToNat, Nat.reduceMul, Nat.reduceBEq, index_rsl_if, setm, make_ints, condK_dec, wantK_dec, not_dec, and_dec, or_dec, seqK_ite, seqK_none, blockK_ite, blockK_none, opsK_ite, opsK_none, stepK_ite, stepK_none, bodyK_ite, bodyK_none, resK_ite, resK_none, leaveK_ite, leaveK_none, only_ite, only_none, bind_ite, gives_some, gives_none, gives_ite, then_normal, then_ret, then_exit, then_none, then_ite, Option.bind_none, Bool.not_eq_true', decide_eq_false_iff_not, Bool.and_eq_true, Bool.or_eq_true, Option.some.injEq, Int.not_lt, Int.not_le, lp15_1, hlt, hs, hx, eA, eS]
      generalize hg : lim (headed pure (run L) true _ lp15_0 _ _) _ _ = o
      obtain ⟨x, en, s, rfl, h2⟩ : ∃ x en s, o = some (x, en, s) ∧ _ := by rw [← hg]; exact loop15_0b Q B (prC u) hQ hB io n1 sh R ps u.length i hi ps.length ps[i] hp (cntF 1 ((ps.zip sh).take i)) (cntF 2 ((ps.zip sh).take i)) (fun a => by have := b1 a; omega) (fun a => by have := b2 a; omega) 0 (Nat.zero_le _) _ _ (by simp only [go_sem, reduceIte, Nat.reduceEqDiff, Nat.reduceAdd, Nat.reduceSub, Nat.reduceLeDiff, Nat.reduceLT, reduceCtorEq, Int.reduceLT, Int.reduceLE, Int.reduceEq, Int.reduceBEq, Int.reduceSub, Int.reduceAdd, Int.reduceMul, Int.reduceNeg, Int.reduceToNat, Nat.reduceMul, Nat.reduceBEq, aF_zero, Int.natCast_zero, hQ.1, hQ.2.1, hQ.2.2.1, hQ.2.2.2.1, hB.1, hB.2.1, hB.2.2.1, hB.2.2.2.1, i1.1, i1.2.1, i1.2.2.1, i1.2.2.2.1, i2.1, i2.2.1, i2.2.2.1, i2.2.2.2.1, io.1, io.2.1, io.2.2.1, io.2.2.2.1] <;> rfl)
      clear hg
      obtain ⟨rfl, e4, e6, e8, e9, e10, e11, e12, e56, e57, e58, ek, rfl⟩ := h2
      rw [c1, c2]
      by_cases q : sh[i] = 1
      · have q' : (sh[i] = 1) = True := eq_true q
        rw [if_pos q] at hon
        have happ := fun A1 A2 PP => wp_at [Q, B, A1, A2, prC u, PP] [] 4 u ps[i].1 ps[i].2 rfl hpos (by omega)
        rw [show (ps[i].1, ps[i].2) = ps[i] from rfl] at happ
        have eA2 := wpA_ne (l := 4) (show u ++ [ps[i]] ≠ [] by simp)
        have eS2 := wpS_ne (show u ++ [ps[i]] ≠ [] by simp)
        have hl2 : (u ++ [ps[i]]).length = u.length + 1 := by simp
        rw [hl2] at eA2
        have i2' := inert_prC (u ++ [ps[i]])
        generalize prC (u ++ [ps[i]]) = C at *
        generalize prC u = C0 at *
        simp only [go_sem, reduceIte, Nat.reduceEqDiff, Nat.reduceAdd, Nat.reduceSub, Nat.reduceLeDiff, Nat.reduceLT, reduceCtorEq, Int.reduceLT, Int.reduceLE, Int.reduceEq, Int.reduceBEq, Int.reduceSub, Int.reduceAdd, Int.reduceMul, Int.reduceNeg, Int.reduceToNat, Nat.reduceMul, Nat.reduceBEq, index_rsl_if, setm, make_ints, condK_dec, wantK_dec, not_dec, and_dec, or_dec, seqK_ite, seqK_none, blockK_ite, blockK_none, opsK_ite, opsK_none, stepK_ite, stepK_none, bodyK_ite, bodyK_none, resK_ite, resK_none, leaveK_ite, leaveK_none, only_ite, only_none, bind_ite, gives_some, gives_none, gives_ite, then_normal, then_ret, then_exit, then_none, then_ite, Option.bind_none, Bool.not_eq_true', decide_eq_false_iff_not, Bool.and_eq_true, Bool.or_eq_true, Option.some.injEq, Int.not_lt, Int.not_le, lp15_1, hlt, hs, hy, e4, e6, e8, e9, e10, e11, e12, e56, e57, e58, ek, q', happ]
        refine ⟨(i + 1, u ++ [ps[i]]), by simp only [go_sem, reduceIte, Nat.reduceEqDiff, Nat.reduceAdd, Nat.reduceSub, Nat.reduceLeDiff, Nat.reduceLT, reduceCtorEq, Int.reduceLT, Int.reduceLE, Int.reduceEq, Int.reduceBEq, Int.reduceSub, Int.reduceAdd, Int.reduceMul, Int.reduceNeg, Int.reduceToNat, Nat.reduceMul, Nat.reduceBEq, ren1_locm, loc_tips, locT_eq, e4, e6, e8, e9, e10, e11, e12, e56, e57, e58, ek, eA2, eS2, hQ.1, hQ.2.1, hQ.2.2.1, hQ.2.2.2.1, hB.1, hB.2.1, hB.2.2.1, hB.2.2.2.1, j1.1, j1.2.1, j1.2.2.1, j1.2.2.2.1, j2.1, j2.2.1, j2.2.2.1, j2.2.2.2.1, i2'.1, i2'.2.1, i2'.2.2.1, i2'.2.2.2.1, io.1, io.2.1, io.2.2.1, io.2.2.2.1, compact, compactW, refsEnv, refsV, refsL, refsStore, refsAt, mapEnv, mapL, mapLs, newName, posOf, mapStore, pickStore, namesOk, refsV_sl, mapL_sl, List.contains_nil, List.contains_cons, Option.getD_some, hasKey] <;> rfl, ?_, ?_, fun x en s hq => ?_⟩
        · dsimp only; exact ⟨by omega, hon.symm⟩
        · dsimp only; omega
        · exact hq
      · have q' : (sh[i] = 1) = False := eq_false q
        rw [if_neg q, List.append_nil] at hon
        simp only [go_sem, reduceIte, Nat.reduceEqDiff, Nat.reduceAdd, Nat.reduceSub, Nat.reduceLeDiff, Nat.reduceLT, reduceCtorEq, Int.reduceLT, Int.reduceLE, Int.reduceEq, Int.reduceBEq, Int.reduceSub, Int.reduceAdd, Int.reduceMul, Int.reduceNeg, Int.reduceToNat, Nat.reduceMul, Nat.reduceBEq, index_rsl_if, setm, make_ints, condK_dec, wantK_dec, not_dec, and_dec, or_dec, seqK_ite, seqK_none, blockK_ite, blockK_none, opsK_ite, opsK_none, stepK_ite, stepK_none, bodyK_ite, bodyK_none, resK_ite, resK_none, leaveK_ite, leaveK_none, only_ite, only_none, bind_ite, gives_some, gives_none, gives_ite, then_normal, then_ret, then_exit, then_none, then_ite, Option.bind_none, Bool.not_eq_true', decide_eq_false_iff_not, Bool.and_eq_true, Bool.or_eq_true, Option.some.injEq, Int.not_lt, Int.not_le, lp15_1, hlt, hs, hy, e4, e6, e8, e9, e10, e11, e12, e56, e57, e58, ek, q']
        refine ⟨(i + 1, u), by simp only [go_sem, reduceIte, Nat.reduceEqDiff, Nat.reduceAdd, Nat.reduceSub, Nat.reduceLeDiff, Nat.reduceLT, reduceCtorEq, Int.reduceLT, Int.reduceLE, Int.reduceEq, Int.reduceBEq, Int.reduceSub, Int.reduceAdd, Int.reduceMul, Int.reduceNeg, Int.reduceToNat, Nat.reduceMul, Nat.reduceBEq, ren1_locm, loc_tips, locT_eq, e4, e6, e8, e9, e10, e11, e12, e56, e57, e58, ek, eA, eS, hQ.1, hQ.2.1, hQ.2.2.1, hQ.2.2.2.1, hB.1, hB.2.1, hB.2.2.1, hB.2.2.2.1, j1.1, j1.2.1, j1.2.2.1, j1.2.2.2.1, j2.1, j2.2.1, j2.2.2.1, j2.2.2.2.1, compact, compactW, refsEnv, refsV, refsL, refsStore, refsAt, mapEnv, mapL, mapLs, newName, posOf, mapStore, pickStore, namesOk, refsV_sl, mapL_sl, List.contains_nil, List.contains_cons, Option.getD_some, hasKey, io.1, io.2.1, io.2.2.1, io.2.2.2.1] <;> rfl, ?_, ?_, fun x en s hq => ?_⟩
        · dsimp only; exact ⟨by omega, hon.symm⟩
        · dsimp only; omega
        · exact hq
  · obtain rfl : i = ps.length := by omega
    rw [List.take_of_length_le (by omega)] at h2 ⊢
    rw [← h2]
    simp only [go_sem, reduceIte, Nat.reduceEqDiff, Nat.reduceAdd, Nat.reduceSub, Nat.reduceLeDiff, Nat.reduceLT, reduceCtorEq, Int.reduceLT, Int.reduceLE, Int.reduceEq, Int.reduceBEq, Int.reduceSub, Int.reduceAdd, Int.reduceMul, Int.reduceNeg, Int.reduceToNat, Nat.reduceMul, Nat.reduceBEq, index_rsl_if, setm, make_ints, condK_dec, wantK_dec, not_dec, and_dec, or_dec, seqK_ite, seqK_none, blockK_ite, blockK_none, opsK_ite, opsK_none, stepK_ite, stepK_none, bodyK_ite, bodyK_none, resK_ite, resK_none, leaveK_ite, leaveK_none, only_ite, only_none, bind_ite, gives_some, gives_none, gives_ite, then_normal, then_ret, then_exit, then_none, then_ite, Option.bind_none, Bool.not_eq_true', decide_eq_false_iff_not, Bool.and_eq_true, Bool.or_eq_true, Option.some.injEq, Int.not_lt, Int.not_le, lp15_1, show ((ps.length : Int) < (ps.length : Int)) = False from eq_false (by omega)]


/-! ### the least number -/
theorem loop68 (n1 : Bool) (l : List Int) (hlen : l.length < 1000000) (m : Int) (hm : ∀ x ∈ l, m ≤ x) (i : Nat) (hok : i ≤ l.length) (env : Env) (st : St)
    (hg : gcAV true 0 0 (canon env [0, 3, 4]) st = ([(0, sl 1 n1 (l.map I)), (3, I m), (4, I i)], ⟨[], []⟩)) :
    ∃ x_1 en s, lim (headed pure (run L) true [0, 3, 4] lp68_0 0 0) env st = some (x_1, en, s) ∧ (x_1 = .exit 0 ∧ en.get 3 = I m) := by
  refine loop_wp (α := Nat) (fun i => l.length - i) (fun i => i ≤ l.length) (fun i => ([(0, sl 1 n1 (l.map I)), (3, I m), (4, I i)], ⟨[], []⟩)) (fun i x_1 en s => x_1 = .exit 0 ∧ en.get 3 = I m) (fun i hok => ?_) i hok env st hg
  by_cases h : i < l.length
  · have hx := index_ints n1 l i h
    have hs := succ64 i (by omega)
    have hlt : ((i : Int) < (l.length : Int)) = True := eq_true (by omega)
    have hmi := hm l[i] (List.getElem_mem h)
    have hmin : min m l[i] = m := Int.min_eq_left hmi
    simp only [go_sem, reduceIte, Nat.reduceEqDiff, Nat.reduceAdd, Nat.reduceSub, Nat.reduceLeDiff, Nat.reduceLT, reduceCtorEq, Int.reduceLT, Int.reduceLE, Int.reduceEq, Int.reduceBEq, Int.reduceSub, Int.reduceAdd, Int.reduceMul, Int.reduceNeg, Int.reduceToNat, Nat.reduceMul, Nat.reduceBEq, index_rsl_if, setm, make_ints, condK_dec, wantK_dec, not_dec, and_dec, or_dec, seqK_ite, seqK_none, blockK_ite, blockK_none, opsK_ite, opsK_none, stepK_ite, stepK_none, bodyK_ite, bodyK_none, resK_ite, resK_none, leaveK_ite, leaveK_none, only_ite, only_none, bind_ite, gives_some, gives_none, gives_ite, then_normal, then_ret, then_exit, then_none, then_ite, Option.bind_none, Bool.not_eq_true', decide_eq_false_iff_not, Bool.and_eq_true, Bool.or_eq_true, Option.some.injEq, Int.not_lt, Int.not_le, lp68_0, hx, hs, hlt, hmin, List.length_map]
    refine ⟨i + 1, by simp only [go_sem, reduceIte, Nat.reduceEqDiff, Nat.reduceAdd, Nat.reduceSub, Nat.reduceLeDiff, Nat.reduceLT, reduceCtorEq, Int.reduceLT, Int.reduceLE, Int.reduceEq, Int.reduceBEq, Int.reduceSub, Int.reduceAdd, Int.reduceMul, Int.reduceNeg, Int.reduceToNat, Nat.reduceMul, Nat.reduceBEq, ren1_locm, loc_tips, locT_eq] <;> rfl, ?_, ?_, fun x en s hq => ?_⟩
    · omega
    · omega
    · exact hq
  · simp only [go_sem, reduceIte, Nat.reduceEqDiff, Nat.reduceAdd, Nat.reduceSub, Nat.reduceLeDiff, Nat.reduceLT, reduceCtorEq, Int.reduceLT, Int.reduceLE, Int.reduceEq, Int.reduceBEq, Int.reduceSub, Int.reduceAdd, Int.reduceMul, Int.reduceNeg, Int.reduceToNat, Nat.reduceMul, Nat.reduceBEq, index_rsl_if, setm, make_ints, condK_dec, wantK_dec, not_dec, and_dec, or_dec, seqK_ite, seqK_none, blockK_ite, blockK_none, opsK_ite, opsK_none, stepK_ite, stepK_none, bodyK_ite, bodyK_none, resK_ite, resK_none, leaveK_ite, leaveK_none, only_ite, only_none, bind_ite, gives_some, gives_none, gives_ite, then_normal, then_ret, then_exit, then_none, then_ite, Option.bind_none, Bool.not_eq_true', decide_eq_false_iff_not, Bool.and_eq_true, Bool.or_eq_true, Option.some.injEq, Int.not_lt, Int.not_le, lp68_0, show ((i : Int) < (l.length : Int)) = False from eq_false (by omega), List.length_map]

theorem c68 (n1 : Bool) (l : List Int) (h1 : 1 ≤ l.length) (hlen : l.length < 1000000) (hm : ∀ x ∈ l, l.getD 0 0 ≤ x) (st : St) : run L 68 [sl 1 n1 (l.map I)] st = some (I (l.getD 0 0), st) := by
  rw [run_pure (fn := ir68) rfl rfl]
  have hx := index_ints n1 l 0 (by omega)
  rw [Int.natCast_zero] at hx
  have e : l[0] = l.getD 0 0 := by rw [List.getD_eq_getElem?_getD, List.getElem?_eq_getElem (by omega)]; rfl
  rw [e] at hx
  have q : ((l.length : Int) < 1) = False := eq_false (by omega)
  simp only [ir68, go_sem, reduceIte, Nat.reduceEqDiff, Nat.reduceAdd, Nat.reduceSub, Nat.reduceLeDiff, Nat.reduceLT, reduceCtorEq, Int.reduceLT, Int.reduceLE, Int.reduceEq, Int.reduceBEq, Int.reduceSub, Int.reduceAdd, Int.reduceMul, Int.reduceNeg, Int.reduceToNat, Nat.reduceMul, Nat.reduceBEq, List.length_map, q, hx]
  generalize hg : lim (headed pure (run L) true _ lp68_0 _ _) _ _ = o
  obtain ⟨x, en, s, rfl, h2⟩ : ∃ x en s, o = some (x, en, s) ∧ _ := by rw [← hg]; exact loop68 n1 l hlen (l.getD 0 0) hm 1 (by omega) _ _ (by simp only [go_sem, reduceIte, Nat.reduceEqDiff, Nat.reduceAdd, Nat.reduceSub, Nat.reduceLeDiff, Nat.reduceLT, reduceCtorEq, Int.reduceLT, Int.reduceLE, Int.reduceEq, Int.reduceBEq, Int.reduceSub, Int.reduceAdd, Int.reduceMul, Int.reduceNeg, Int.reduceToNat, Nat.reduceMul, Nat.reduceBEq, show ((1 : Nat) : Int) = 1 from rfl] <;> rfl)
  clear hg
  obtain ⟨rfl, h3⟩ := h2
  simp only [go_sem, reduceIte, Nat.reduceEqDiff, Nat.reduceAdd, Nat.reduceSub, Nat.reduceLeDiff, Nat.reduceLT, reduceCtorEq, Int.reduceLT, Int.reduceLE, Int.reduceEq, Int.reduceBEq, Int.reduceSub, Int.reduceAdd, Int.reduceMul, Int.reduceNeg, Int.reduceToNat, Nat.reduceMul, Nat.reduceBEq, h3]

/-! ### each article -/
theorem loop15_2 (Q B : List AV) (hQ : Inert Q) (hB : Inert B) (f g : Nat → Int) (hfg : ∀ a, (f a = 0 ∨ f a = 2) ∧ 0 ≤ g a ∧ g a ≤ 1 ∧ (f a = 2 → g a = 0)) (R : List (List Int)) (u : List (Int × Int)) (lo : Nat) (hlo : lo = 4 + (wpS u).length) (i : Nat) (hok : i ≤ 7) (env : Env) (st : St)
    (hg : gcAV true lo 0 (canon env [6, 8, 9, 10, 96]) st = ([(6, sl 1 true (R.map listAV)), (8, .ptr 2 0), (9, .ptr 3 0), (10, wpA 4 u), (96, I i)], ⟨[Q, B, arrC f, arrC g] ++ wpS u, []⟩)) :
    ∃ x_1 en s, lim (headed pure (run L) true [6, 8, 9, 10, 96] lp15_2 lo 0) env st = some (x_1, en, s) ∧ (x_1 = .exit 5 ∧ en.get 6 = sl 1 true (R.map listAV) ∧ en.get 10 = wpA 4 u ∧ en.get 3000000 = .any ∧ s = ⟨[Q, B, arrC f, arrC g] ++ wpS u, []⟩) := by
  refine loop_wp (α := Nat) (fun i => 7 - i) (fun i => i ≤ 7) (fun i => ([(6, sl 1 true (R.map listAV)), (8, .ptr 2 0), (9, .ptr 3 0), (10, wpA 4 u), (96, I i)], ⟨[Q, B, arrC f, arrC g] ++ wpS u, []⟩)) (fun i x_1 en s => x_1 = .exit 5 ∧ en.get 6 = sl 1 true (R.map listAV) ∧ en.get 10 = wpA 4 u ∧ en.get 3000000 = .any ∧ s = ⟨[Q, B, arrC f, arrC g] ++ wpS u, []⟩) (fun i hok => ?_) i hok env st hg
  have jf := inert_arr f
  have jg := inert_arr g
  have jo := inert_prC u
  by_cases h : i < 7
  · have hs := succ64 i (by omega)
    have hlt : ((i : Int) < 7) = True := eq_true (by omega)
    have i0 : ((0 : Int) ≤ (i : Int)) = True := eq_true (by omega)
    have g1 := arrC_at f h
    have g2 := arrC_at g h
    obtain ⟨k1, k2, k3, k4⟩ := hfg i
    have r1 : (1 < g i) = False := eq_false (by omega)
    generalize arrC f = F at *
    generalize arrC g = G at *
    by_cases hX : u = []
    · have eA : wpA 4 u = .v (.slice none 0 0) := by rw [hX]; rfl
      have eS : wpS u = [] := by rw [hX]; rfl
      rw [eS] at hlo
      subst hlo
      rcases k1 with k1 | k1
      · have r2 : (0 < f i) = False := eq_false (by omega)
        by_cases k6 : 0 < g i
        · have r3 : (0 < g i) = True := eq_true k6
          simp only [go_sem, reduceIte, Nat.reduceEqDiff, Nat.reduceAdd, Nat.reduceSub, Nat.reduceLeDiff, Nat.reduceLT, reduceCtorEq, Int.reduceLT, Int.reduceLE, Int.reduceEq, Int.reduceBEq, Int.reduceSub, Int.reduceAdd, Int.reduceMul, Int.reduceNeg, Int.reduceToNat, Nat.reduceMul, Nat.reduceBEq, index_rsl_if, setm, make_ints, condK_dec, wantK_dec, not_dec, and_dec, or_dec, seqK_ite, seqK_none, blockK_ite, blockK_none, opsK_ite, opsK_none, stepK_ite, stepK_none, bodyK_ite, bodyK_none, resK_ite, resK_none, leaveK_ite, leaveK_none, only_ite, only_none, bind_ite, gives_some, gives_none, gives_ite, then_normal, then_ret, then_exit, then_none, then_ite, Option.bind_none, Bool.not_eq_true', decide_eq_false_iff_not, Bool.and_eq_true, Bool.or_eq_true, Option.some.injEq, Int.not_lt, Int.not_le, lp15_2, hlt, hs, i0, g1, g2, r1, r3, k1, eA, eS, show ((0 : Int) < 0) = False from eq_false (by omega)]
          refine ⟨i + 1, by simp only [go_sem, reduceIte, Nat.reduceEqDiff, Nat.reduceAdd, Nat.reduceSub, Nat.reduceLeDiff, Nat.reduceLT, reduceCtorEq, Int.reduceLT, Int.reduceLE, Int.reduceEq, Int.reduceBEq, Int.reduceSub, Int.reduceAdd, Int.reduceMul, Int.reduceNeg, Int.reduceToNat, Nat.reduceMul, Nat.reduceBEq, ren1_locm, loc_tips, locT_eq, eA, eS, hQ.2.2.1, hQ.2.2.2.1, hB.2.2.1, hB.2.2.2.1, jf.2.2.1, jf.2.2.2.1, jg.2.2.1, jg.2.2.2.1] <;> rfl, ?_, ?_, fun x en s hq => ?_⟩
          · omega
          · omega
          · exact hq
        · have r3 : (0 < g i) = False := eq_false k6
          simp only [go_sem, reduceIte, Nat.reduceEqDiff, Nat.reduceAdd, Nat.reduceSub, Nat.reduceLeDiff, Nat.reduceLT, reduceCtorEq, Int.reduceLT, Int.reduceLE, Int.reduceEq, Int.reduceBEq, Int.reduceSub, Int.reduceAdd, Int.reduceMul, Int.reduceNeg, Int.reduceToNat, Nat.reduceMul, Nat.reduceBEq, index_rsl_if, setm, make_ints, condK_dec, wantK_dec, not_dec, and_dec, or_dec, seqK_ite, seqK_none, blockK_ite, blockK_none, opsK_ite, opsK_none, stepK_ite, stepK_none, bodyK_ite, bodyK_none, resK_ite, resK_none, leaveK_ite, leaveK_none, only_ite, only_none, bind_ite, gives_some, gives_none, gives_ite, then_normal, then_ret, then_exit, then_none, then_ite, Option.bind_none, Bool.not_eq_true', decide_eq_false_iff_not, Bool.and_eq_true, Bool.or_eq_true, Option.some.injEq, Int.not_lt, Int.not_le, lp15_2, hlt, hs, i0, g1, g2, r1, r3, k1, eA, eS, show ((0 : Int) < 0) = False from eq_false (by omega)]
          refine ⟨i + 1, by simp only [go_sem, reduceIte, Nat.reduceEqDiff, Nat.reduceAdd, Nat.reduceSub, Nat.reduceLeDiff, Nat.reduceLT, reduceCtorEq, Int.reduceLT, Int.reduceLE, Int.reduceEq, Int.reduceBEq, Int.reduceSub, Int.reduceAdd, Int.reduceMul, Int.reduceNeg, Int.reduceToNat, Nat.reduceMul, Nat.reduceBEq, ren1_locm, loc_tips, locT_eq, eA, eS, hQ.2.2.1, hQ.2.2.2.1, hB.2.2.1, hB.2.2.2.1, jf.2.2.1, jf.2.2.2.1, jg.2.2.1, jg.2.2.2.1] <;> rfl, ?_, ?_, fun x en s hq => ?_⟩
          · omega
          · omega
          · exact hq
      · have k5 := k4 k1
        simp only [go_sem, reduceIte, Nat.reduceEqDiff, Nat.reduceAdd, Nat.reduceSub, Nat.reduceLeDiff, Nat.reduceLT, reduceCtorEq, Int.reduceLT, Int.reduceLE, Int.reduceEq, Int.reduceBEq, Int.reduceSub, Int.reduceAdd, Int.reduceMul, Int.reduceNeg, Int.reduceToNat, Nat.reduceMul, Nat.reduceBEq, index_rsl_if, setm, make_ints, condK_dec, wantK_dec, not_dec, and_dec, or_dec, seqK_ite, seqK_none, blockK_ite, blockK_none, opsK_ite, opsK_none, stepK_ite, stepK_none, bodyK_ite, bodyK_none, resK_ite, resK_none, leaveK_ite, leaveK_none, only_ite, only_none, bind_ite, gives_some, gives_none, gives_ite, then_normal, then_ret, then_exit, then_none, then_ite, Option.bind_none, Bool.not_eq_true', decide_eq_false_iff_not, Bool.and_eq_true, Bool.or_eq_true, Option.some.injEq, Int.not_lt, Int.not_le, lp15_2, hlt, hs, i0, g1, g2, k1, k5, eA, eS]
        refine ⟨i + 1, by simp only [go_sem, reduceIte, Nat.reduceEqDiff, Nat.reduceAdd, Nat.reduceSub, Nat.reduceLeDiff, Nat.reduceLT, reduceCtorEq, Int.reduceLT, Int.reduceLE, Int.reduceEq, Int.reduceBEq, Int.reduceSub, Int.reduceAdd, Int.reduceMul, Int.reduceNeg, Int.reduceToNat, Nat.reduceMul, Nat.reduceBEq, ren1_locm, loc_tips, locT_eq, eA, eS, hQ.2.2.1, hQ.2.2.2.1, hB.2.2.1, hB.2.2.2.1, jf.2.2.1, jf.2.2.2.1, jg.2.2.1, jg.2.2.2.1] <;> rfl, ?_, ?_, fun x en s hq => ?_⟩
        · omega
        · omega
        · exact hq
    · have eA := wpA_ne (l := 4) hX
      have eS := wpS_ne hX
      rw [eS] at hlo
      subst hlo
      generalize prC u = C0 at *
      rcases k1 with k1 | k1
      · have r2 : (0 < f i) = False := eq_false (by omega)
        by_cases k6 : 0 < g i
        · have r3 : (0 < g i) = True := eq_true k6
          simp only [go_sem, reduceIte, Nat.reduceEqDiff, Nat.reduceAdd, Nat.reduceSub, Nat.reduceLeDiff, Nat.reduceLT, reduceCtorEq, Int.reduceLT, Int.reduceLE, Int.reduceEq, Int.reduceBEq, Int.reduceSub, Int.reduceAdd, Int.reduceMul, Int.reduceNeg, Int.reduceToNat, Nat.reduceMul, Nat.reduceBEq, index_rsl_if, setm, make_ints, condK_dec, wantK_dec, not_dec, and_dec, or_dec, seqK_ite, seqK_none, blockK_ite, blockK_none, opsK_ite, opsK_none, stepK_ite, stepK_none, bodyK_ite, bodyK_none, resK_ite, resK_none, leaveK_ite, leaveK_none, only_ite, only_none, bind_ite, gives_some, gives_none, gives_ite, then_normal, then_ret, then_exit, then_none, then_ite, Option.bind_none, Bool.not_eq_true', decide_eq_false_iff_not, Bool.and_eq_true, Bool.or_eq_true, Option.some.injEq, Int.not_lt, Int.not_le, lp15_2, hlt, hs, i0, g1, g2, r1, r3, k1, eA, eS, show ((0 : Int) < 0) = False from eq_false (by omega)]
          refine ⟨i + 1, by simp only [go_sem, reduceIte, Nat.reduceEqDiff, Nat.reduceAdd, Nat.reduceSub, Nat.reduceLeDiff, Nat.reduceLT, reduceCtorEq, Int.reduceLT, Int.reduceLE, Int.reduceEq, Int.reduceBEq, Int.reduceSub, Int.reduceAdd, Int.reduceMul, Int.reduceNeg, Int.reduceToNat, Nat.reduceMul, Nat.reduceBEq, ren1_locm, loc_tips, locT_eq, eA, eS, hQ.2.2.1, hQ.2.2.2.1, hB.2.2.1, hB.2.2.2.1, jf.2.2.1, jf.2.2.2.1, jg.2.2.1, jg.2.2.2.1, jo.2.2.1, jo.2.2.2.1] <;> rfl, ?_, ?_, fun x en s hq => ?_⟩
          · omega
          · omega
          · exact hq
        · have r3 : (0 < g i) = False := eq_false k6
          simp only [go_sem, reduceIte, Nat.reduceEqDiff, Nat.reduceAdd, Nat.reduceSub, Nat.reduceLeDiff, Nat.reduceLT, reduceCtorEq, Int.reduceLT, Int.reduceLE, Int.reduceEq, Int.reduceBEq, Int.reduceSub, Int.reduceAdd, Int.reduceMul, Int.reduceNeg, Int.reduceToNat, Nat.reduceMul, Nat.reduceBEq, index_rsl_if, setm, make_ints, condK_dec, wantK_dec, not_dec, and_dec, or_dec, seqK_ite, seqK_none, blockK_ite, blockK_none, opsK_ite, opsK_none, stepK_ite, stepK_none, bodyK_ite, bodyK_none, resK_ite, resK_none, leaveK_ite, leaveK_none, only_ite, only_none, bind_ite, gives_some, gives_none, gives_ite, then_normal, then_ret, then_exit, then_none, then_ite, Option.bind_none, Bool.not_eq_true', decide_eq_false_iff_not, Bool.and_eq_true, Bool.or_eq_true, Option.some.injEq, Int.not_lt, Int.not_le, lp15_2, hlt, hs, i0, g1, g2, r1, r3, k1, eA, eS, show ((0 : Int) < 0) = False from eq_false (by omega)]
          refine ⟨i + 1, by simp only [go_sem, reduceIte, Nat.reduceEqDiff, Nat.reduceAdd, Nat.reduceSub, Nat.reduceLeDiff, Nat.reduceLT, reduceCtorEq, Int.reduceLT, Int.reduceLE, Int.reduceEq, Int.reduceBEq, Int.reduceSub, Int.reduceAdd, Int.reduceMul, Int.reduceNeg, Int.reduceToNat, Nat.reduceMul, Nat.reduceBEq, ren1_locm, loc_tips, locT_eq, eA, eS, hQ.2.2.1, hQ.2.2.2.1, hB.2.2.1, hB.2.2.2.1, jf.2.2.1, jf.2.2.2.1, jg.2.2.1, jg.2.2.2.1, jo.2.2.1, jo.2.2.2.1] <;> rfl, ?_, ?_, fun x en s hq => ?_⟩
          · omega
          · omega
          · exact hq
      · have k5 := k4 k1
        simp only [go_sem, reduceIte, Nat.reduceEqDiff, Nat.reduceAdd, Nat.reduceSub, Nat.reduceLeDiff, Nat.reduceLT, reduceCtorEq, Int.reduceLT, Int.reduceLE, Int.reduceEq, Int.reduceBEq, Int.reduceSub, Int.reduceAdd, Int.reduceMul, Int.reduceNeg, Int.reduceToNat, Nat.reduceMul, Nat.reduceBEq, index_rsl_if, setm, make_ints, condK_dec, wantK_dec, not_dec, and_dec, or_dec, seqK_ite, seqK_none, blockK_ite, blockK_none, opsK_ite, opsK_none, stepK_ite, stepK_none, bodyK_ite, bodyK_none, resK_ite, resK_none, leaveK_ite, leaveK_none, only_ite, only_none, bind_ite, gives_some, gives_none, gives_ite, then_normal, then_ret, then_exit, then_none, then_ite, Option.bind_none, Bool.not_eq_true', decide_eq_false_iff_not, Bool.and_eq_true, Bool.or_eq_true, Option.some.injEq, Int.not_lt, Int.not_le, lp15_2, hlt, hs, i0, g1, g2, k1, k5, eA, eS]
        refine ⟨i + 1, by simp only [go_sem, reduceIte, Nat.reduceEqDiff, Nat.reduceAdd, Nat.reduceSub, Nat.reduceLeDiff, Nat.reduceLT, reduceCtorEq, Int.reduceLT, Int.reduceLE, Int.reduceEq, Int.reduceBEq, Int.reduceSub, Int.reduceAdd, Int.reduceMul, Int.reduceNeg, Int.reduceToNat, Nat.reduceMul, Nat.reduceBEq, ren1_locm, loc_tips, locT_eq, eA, eS, hQ.2.2.1, hQ.2.2.2.1, hB.2.2.1, hB.2.2.2.1, jf.2.2.1, jf.2.2.2.1, jg.2.2.1, jg.2.2.2.1, jo.2.2.1, jo.2.2.2.1] <;> rfl, ?_, ?_, fun x en s hq => ?_⟩
        · omega
        · omega
        · exact hq
  · obtain rfl : i = 7 := by omega
    simp only [go_sem, reduceIte, Nat.reduceEqDiff, Nat.reduceAdd, Nat.reduceSub, Nat.reduceLeDiff, Nat.reduceLT, reduceCtorEq, Int.reduceLT, Int.reduceLE, Int.reduceEq, Int.reduceBEq, Int.reduceSub, Int.reduceAdd, Int.reduceMul, Int.reduceNeg, Int.reduceToNat, Nat.reduceMul, Nat.reduceBEq, index_rsl_if, setm, make_ints, condK_dec, wantK_dec, not_dec, and_dec, or_dec, seqK_ite, seqK_none, blockK_ite, blockK_none, opsK_ite, opsK_none, stepK_ite, stepK_none, bodyK_ite, bodyK_none, resK_ite, resK_none, leaveK_ite, leaveK_none, only_ite, only_none, bind_ite, gives_some, gives_none, gives_ite, then_normal, then_ret, then_exit, then_none, then_ite, Option.bind_none, Bool.not_eq_true', decide_eq_false_iff_not, Bool.and_eq_true, Bool.or_eq_true, Option.some.injEq, Int.not_lt, Int.not_le, lp15_2, show (((7 : Nat) : Int) < 7) = False from eq_false (by omega)]


/-! ### the pairs of the rings -/
set_option maxHeartbeats 2000000 in
theorem loop15_3a (Q B F G C4 : List AV) (hQ : Inert Q) (hB : Inert B) (hF : Inert F) (hG : Inert G) (hC : Inert C4) (m : Nat) (R : List (List Int)) (i : Nat) (b : List Int) (hb3 : 3 ≤ b.length) (hb7 : b.length ≤ 7) (k : Nat) (u : List (Int × Int)) (hok : k ≤ b.length ∧ u = (List.range k).map (rgPr b)) (env : Env) (st : St)
    (hg : gcAV true 5 0 (canon env [6, 10, 16, 18, 128, 129, 130, 183, 184, 185, 3000000]) st = ([(6, sl 1 true (R.map listAV)), (10, .rsl 4 0 m m 2 true), (16, wpA 5 u), (18, listAV b), (128, sl 1 true (R.map listAV)), (129, I R.length), (130, I i), (183, listAV b), (184, I b.length), (185, I k), (3000000, .any)], ⟨[Q, B, F, G, C4] ++ wpS u, []⟩)) :
    ∃ x_1 en s, lim (headed pure (run L) true [6, 10, 16, 18, 128, 129, 130, 183, 184, 185, 3000000] lp15_3 5 0) env st = some (x_1, en, s) ∧ (x_1 = .exit 9 ∧ en.get 6 = sl 1 true (R.map listAV) ∧ en.get 10 = .rsl 4 0 m m 2 true ∧ en.get 16 = wpA 5 (rgPrs b) ∧ en.get 128 = sl 1 true (R.map listAV) ∧ en.get 129 = I R.length ∧ en.get 130 = I i ∧ en.get 3000000 = .any ∧ s = ⟨[Q, B, F, G, C4] ++ wpS (rgPrs b), []⟩) := by
  refine loop_wp (α := Nat × List (Int × Int)) (fun ⟨k, u⟩ => b.length - k) (fun ⟨k, u⟩ => k ≤ b.length ∧ u = (List.range k).map (rgPr b)) (fun ⟨k, u⟩ => ([(6, sl 1 true (R.map listAV)), (10, .rsl 4 0 m m 2 true), (16, wpA 5 u), (18, listAV b), (128, sl 1 true (R.map listAV)), (129, I R.length), (130, I i), (183, listAV b), (184, I b.length), (185, I k), (3000000, .any)], ⟨[Q, B, F, G, C4] ++ wpS u, []⟩)) (fun ⟨k, u⟩ x_1 en s => x_1 = .exit 9 ∧ en.get 6 = sl 1 true (R.map listAV) ∧ en.get 10 = .rsl 4 0 m m 2 true ∧ en.get 16 = wpA 5 (rgPrs b) ∧ en.get 128 = sl 1 true (R.map listAV) ∧ en.get 129 = I R.length ∧ en.get 130 = I i ∧ en.get 3000000 = .any ∧ s = ⟨[Q, B, F, G, C4] ++ wpS (rgPrs b), []⟩) (fun ⟨k, u⟩ hok => ?_) ⟨k, u⟩ hok env st hg
  simp only at hok
  obtain ⟨h1, h2⟩ := hok
  dsimp only at h1 h2 ⊢
  by_cases h : k < b.length
  · have hul : u.length = k := by rw [h2]; simp
    have hs := succ64 k (by omega)
    have hx := index_ints false b k h
    have hlt : ((k : Int) < (b.length : Int)) = True := eq_true (by omega)
    have hm : ((k + 1 : Nat) : Int).tmod (b.length : Int) = (((k + 1) % b.length : Nat) : Int) := by
      rw [Int.tmod_eq_emod_of_nonneg (by omega), Int.natCast_emod]
    have hz : ((b.length : Int) = 0) = False := eq_false (by omega)
    have hml : (k + 1) % b.length < b.length := Nat.mod_lt _ (by omega)
    have hx2 := index_ints false b ((k + 1) % b.length) hml
    have e1 : b[k] = b.getD k 0 := by rw [List.getD_eq_getElem?_getD, List.getElem?_eq_getElem h]; rfl
    have e2 : b[(k + 1) % b.length] = b.getD ((k + 1) % b.length) 0 := by rw [List.getD_eq_getElem?_getD, List.getElem?_eq_getElem hml]; rfl
    rw [e1] at hx
    rw [e2] at hx2
    have hr : (List.range (k + 1)).map (rgPr b) = (List.range k).map (rgPr b) ++ [rgPr b k] := by rw [List.range_succ, List.map_append]; rfl
    have hrp : rgPr b k = (min (b.getD k 0) (b.getD ((k + 1) % b.length) 0), max (b.getD k 0) (b.getD ((k + 1) % b.length) 0)) := rfl
    have hu2 : u ++ [rgPr b k] = (List.range (k + 1)).map (rgPr b) := by rw [hr, h2]
    have eA2 := wpA_ne (l := 5) (show u ++ [rgPr b k] ≠ [] by simp)
    have eS2 := wpS_ne (show u ++ [rgPr b k] ≠ [] by simp)
    have hl2 : (u ++ [rgPr b k]).length = u.length + 1 := by simp
    rw [hl2] at eA2
    have i2' := inert_prC (u ++ [rgPr b k])
    by_cases hX : u = []
    · have eA : wpA 5 u = .v (.slice none 0 0) := by rw [hX]; rfl
      have eS : wpS u = [] := by rw [hX]; rfl
      have happ := wp_nil (rgPr b k).1 (rgPr b k).2
      rw [show [((rgPr b k).1, (rgPr b k).2)] = u ++ [rgPr b k] by rw [hX]; rfl] at happ
      have ul0 : u.length = 0 := by rw [hX]; rfl
      rw [ul0, Nat.zero_add] at eA2
      generalize prC (u ++ [rgPr b k]) = C at *
      rw [hrp] at happ
      dsimp only at happ
      simp only [go_sem, reduceIte, Nat.reduceEqDiff, Nat.reduceAdd, Nat.reduceSub, Nat.reduceLeDiff, Nat.reduceLT, reduceCtorEq, Int.reduceLT, Int.reduceLE, Int.reduceEq, Int.reduceBEq, Int.reduceSub, Int.reduceAdd, Int.reduceMul, Int.reduceNeg, Int.reduceToNat, Nat.reduceMul, Nat.reduceBEq, index_rsl_if, setm, make_ints, condK_dec, wantK_dec, not_dec, and_dec, or_dec, seqK_ite, seqK_none, blockK_ite, blockK_none, opsK_ite, opsK_none, stepK_ite, stepK_none, bodyK_ite, bodyK_none, resK_ite, resK_none, leaveK_ite, leaveK_none, only_ite, only_none, bind_ite, gives_some, gives_none, gives_ite, then_normal, then_ret, then_exit, then_none, then_ite, Option.bind_none, Bool.not_eq_true', decide_eq_false_iff_not, Bool.and_eq_true, Bool.or_eq_true, Option.some.injEq, Int.not_lt, Int.not_le, lp15_3, hlt, hs, hx, hm, hz, hx2, happ, List.length_map, eA, eS]
      refine ⟨(k + 1, u ++ [rgPr b k]), by simp only [go_sem, reduceIte, Nat.reduceEqDiff, Nat.reduceAdd, Nat.reduceSub, Nat.reduceLeDiff, Nat.reduceLT, reduceCtorEq, Int.reduceLT, Int.reduceLE, Int.reduceEq, Int.reduceBEq, Int.reduceSub, Int.reduceAdd, Int.reduceMul, Int.reduceNeg, Int.reduceToNat, Nat.reduceMul, Nat.reduceBEq, ren1_locm, loc_tips, locT_eq, eA2, eS2, hQ.1, hQ.2.1, hQ.2.2.1, hQ.2.2.2.1, hB.1, hB.2.1, hB.2.2.1, hB.2.2.2.1, hF.1, hF.2.1, hF.2.2.1, hF.2.2.2.1, hG.1, hG.2.1, hG.2.2.1, hG.2.2.2.1, hC.1, hC.2.1, hC.2.2.1, hC.2.2.2.1, i2'.1, i2'.2.1, i2'.2.2.1, i2'.2.2.2.1, compact, compactW, refsEnv, refsV, refsL, refsStore, refsAt, mapEnv, mapL, mapLs, newName, posOf, mapStore, pickStore, namesOk, refsV_sl, mapL_sl, List.contains_nil, List.contains_cons, Option.getD_some, hasKey] <;> rfl, ?_, ?_, fun x en s hq => ?_⟩
      · dsimp only; exact ⟨by omega, hu2⟩
      · dsimp only; omega
      · exact hq
    · have hpos : 1 ≤ u.length := by
        cases u with
        | nil => exact absurd rfl hX
        | cons x r => simp
      have io := inert_prC u
      have eA := wpA_ne (l := 5) hX
      have eS := wpS_ne hX
      have happ := wp_at [Q, B, F, G, C4, prC u] [] 5 u (rgPr b k).1 (rgPr b k).2 rfl hpos (by omega)
      rw [show ((rgPr b k).1, (rgPr b k).2) = rgPr b k from rfl] at happ
      generalize prC (u ++ [rgPr b k]) = C at *
      generalize prC u = C0 at *
      rw [hrp] at happ
      dsimp only at happ
      simp only [go_sem, reduceIte, Nat.reduceEqDiff, Nat.reduceAdd, Nat.reduceSub, Nat.reduceLeDiff, Nat.reduceLT, reduceCtorEq, Int.reduceLT, Int.reduceLE, Int.reduceEq, Int.reduceBEq, Int.reduceSub, Int.reduceAdd, Int.reduceMul, Int.reduceNeg, Int.reduceToNat, Nat.reduceMul, Nat.reduceBEq, index_rsl_if, setm, make_ints, condK_dec, wantK_dec, not_dec, and_dec, or_dec, seqK_ite, seqK_none, blockK_ite, blockK_none, opsK_ite, opsK_none, stepK_ite, stepK_none, bodyK_ite, bodyK_none, resK_ite, resK_none, leaveK_ite, leaveK_none, only_ite, only_none, bind_ite, gives_some, gives_none, gives_ite, then_normal, then_ret, then_exit, then_none, then_ite, Option.bind_none, Bool.not_eq_true', decide_eq_false_iff_not, Bool.and_eq_true, Bool.or_eq_true, Option.some.injEq, Int.not_lt, Int.not_le, lp15_3, hlt, hs, hx, hm, hz, hx2, happ, List.length_map, eA, eS]
      refine ⟨(k + 1, u ++ [rgPr b k]), by simp only [go_sem, reduceIte, Nat.reduceEqDiff, Nat.reduceAdd, Nat.reduceSub, Nat.reduceLeDiff, Nat.reduceLT, reduceCtorEq, Int.reduceLT, Int.reduceLE, Int.reduceEq, Int.reduceBEq, Int.reduceSub, Int.reduceAdd, Int.reduceMul, Int.reduceNeg, Int.reduceToNat, Nat.reduceMul, Nat.reduceBEq, ren1_locm, loc_tips, locT_eq, eA2, eS2, hQ.1, hQ.2.1, hQ.2.2.1, hQ.2.2.2.1, hB.1, hB.2.1, hB.2.2.1, hB.2.2.2.1, hF.1, hF.2.1, hF.2.2.1, hF.2.2.2.1, hG.1, hG.2.1, hG.2.2.1, hG.2.2.2.1, hC.1, hC.2.1, hC.2.2.1, hC.2.2.2.1, i2'.1, i2'.2.1, i2'.2.2.1, i2'.2.2.2.1, io.1, io.2.1, io.2.2.1, io.2.2.2.1, compact, compactW, refsEnv, refsV, refsL, refsStore, refsAt, mapEnv, mapL, mapLs, newName, posOf, mapStore, pickStore, namesOk, refsV_sl, mapL_sl, List.contains_nil, List.contains_cons, Option.getD_some, hasKey] <;> rfl, ?_, ?_, fun x en s hq => ?_⟩
      · dsimp only; exact ⟨by omega, hu2⟩
      · dsimp only; omega
      · exact hq
  · obtain rfl : k = b.length := by omega
    rw [show (List.range b.length).map (rgPr b) = rgPrs b from rfl] at h2
    rw [← h2]
    simp only [go_sem, reduceIte, Nat.reduceEqDiff, Nat.reduceAdd, Nat.reduceSub, Nat.reduceLeDiff, Nat.reduceLT, reduceCtorEq, Int.reduceLT, Int.reduceLE, Int.reduceEq, Int.reduceBEq, Int.reduceSub, Int.reduceAdd, Int.reduceMul, Int.reduceNeg, Int.reduceToNat, Nat.reduceMul, Nat.reduceBEq, index_rsl_if, setm, make_ints, condK_dec, wantK_dec, not_dec, and_dec, or_dec, seqK_ite, seqK_none, blockK_ite, blockK_none, opsK_ite, opsK_none, stepK_ite, stepK_none, bodyK_ite, bodyK_none, resK_ite, resK_none, leaveK_ite, leaveK_none, only_ite, only_none, bind_ite, gives_some, gives_none, gives_ite, then_normal, then_ret, then_exit, then_none, then_ite, Option.bind_none, Bool.not_eq_true', decide_eq_false_iff_not, Bool.and_eq_true, Bool.or_eq_true, Option.some.injEq, Int.not_lt, Int.not_le, lp15_3, show ((b.length : Int) < (b.length : Int)) = False from eq_false (by omega)]

def owA (u0 u : List (Int × Int)) : Nat → AV
  | 0 => .rsl 5 0 u0.length u0.length 2 true
  | _ + 1 => .rsl 6 0 u.length u.length 2 true
def owS (u0 u : List (Int × Int)) : Nat → List (List AV)
  | 0 => [prC u0]
  | _ + 1 => [[], prC u]
set_option maxHeartbeats 2000000 in
theorem loop15_3b (Q B F G C4 : List AV) (hQ : Inert Q) (hB : Inert B) (hF : Inert F) (hG : Inert G) (hC : Inert C4) (m : Nat) (R : List (List Int)) (i : Nat) (b : List Int) (hb3 : 3 ≤ b.length) (hb7 : b.length ≤ 7) (u0 : List (Int × Int)) (hu0 : 1 ≤ u0.length) (hu1 : u0.length ≤ 100) (k : Nat) (u : List (Int × Int)) (hok : k ≤ b.length ∧ u = u0 ++ (List.range k).map (rgPr b)) (env : Env) (st : St)
    (hg : gcAV true 6 0 (canon env [6, 10, 16, 18, 128, 129, 130, 183, 184, 185, 3000000]) st = ([(6, sl 1 true (R.map listAV)), (10, .rsl 4 0 m m 2 true), (16, owA u0 u k), (18, listAV b), (128, sl 1 true (R.map listAV)), (129, I R.length), (130, I i), (183, listAV b), (184, I b.length), (185, I k), (3000000, .any)], ⟨[Q, B, F, G, C4] ++ owS u0 u k, []⟩)) :
    ∃ x_1 en s, lim (headed pure (run L) true [6, 10, 16, 18, 128, 129, 130, 183, 184, 185, 3000000] lp15_3 6 0) env st = some (x_1, en, s) ∧ (x_1 = .exit 9 ∧ en.get 6 = sl 1 true (R.map listAV) ∧ en.get 10 = .rsl 4 0 m m 2 true ∧ en.get 16 = .rsl 6 0 (u0 ++ rgPrs b).length (u0 ++ rgPrs b).length 2 true ∧ en.get 128 = sl 1 true (R.map listAV) ∧ en.get 129 = I R.length ∧ en.get 130 = I i ∧ en.get 3000000 = .any ∧ s = ⟨[Q, B, F, G, C4] ++ [[], prC (u0 ++ rgPrs b)], []⟩) := by
  refine loop_wp (α := Nat × List (Int × Int)) (fun ⟨k, u⟩ => b.length - k) (fun ⟨k, u⟩ => k ≤ b.length ∧ u = u0 ++ (List.range k).map (rgPr b)) (fun ⟨k, u⟩ => ([(6, sl 1 true (R.map listAV)), (10, .rsl 4 0 m m 2 true), (16, owA u0 u k), (18, listAV b), (128, sl 1 true (R.map listAV)), (129, I R.length), (130, I i), (183, listAV b), (184, I b.length), (185, I k), (3000000, .any)], ⟨[Q, B, F, G, C4] ++ owS u0 u k, []⟩)) (fun ⟨k, u⟩ x_1 en s => x_1 = .exit 9 ∧ en.get 6 = sl 1 true (R.map listAV) ∧ en.get 10 = .rsl 4 0 m m 2 true ∧ en.get 16 = .rsl 6 0 (u0 ++ rgPrs b).length (u0 ++ rgPrs b).length 2 true ∧ en.get 128 = sl 1 true (R.map listAV) ∧ en.get 129 = I R.length ∧ en.get 130 = I i ∧ en.get 3000000 = .any ∧ s = ⟨[Q, B, F, G, C4] ++ [[], prC (u0 ++ rgPrs b)], []⟩) (fun ⟨k, u⟩ hok => ?_) ⟨k, u⟩ hok env st hg
  simp only at hok
  obtain ⟨h1, h2⟩ := hok
  dsimp only at h1 h2 ⊢
  by_cases h : k < b.length
  · have hul : u.length = u0.length + k := by rw [h2]; simp
    have hs := succ64 k (by omega)
    have hx := index_ints false b k h
    have hlt : ((k : Int) < (b.length : Int)) = True := eq_true (by omega)
    have hm : ((k + 1 : Nat) : Int).tmod (b.length : Int) = (((k + 1) % b.length : Nat) : Int) := by
      rw [Int.tmod_eq_emod_of_nonneg (by omega), Int.natCast_emod]
    have hz : ((b.length : Int) = 0) = False := eq_false (by omega)
    have hml : (k + 1) % b.length < b.length := Nat.mod_lt _ (by omega)
    have hx2 := index_ints false b ((k + 1) % b.length) hml
    have e1 : b[k] = b.getD k 0 := by rw [List.getD_eq_getElem?_getD, List.getElem?_eq_getElem h]; rfl
    have e2 : b[(k + 1) % b.length] = b.getD ((k + 1) % b.length) 0 := by rw [List.getD_eq_getElem?_getD, List.getElem?_eq_getElem hml]; rfl
    rw [e1] at hx
    rw [e2] at hx2
    have hr : (List.range (k + 1)).map (rgPr b) = (List.range k).map (rgPr b) ++ [rgPr b k] := by rw [List.range_succ, List.map_append]; rfl
    have hrp : rgPr b k = (min (b.getD k 0) (b.getD ((k + 1) % b.length) 0), max (b.getD k 0) (b.getD ((k + 1) % b.length) 0)) := rfl
    have hu2 : u ++ [rgPr b k] = u0 ++ (List.range (k + 1)).map (rgPr b) := by rw [hr, h2, List.append_assoc]
    have eA2 : owA u0 (u ++ [rgPr b k]) (k + 1) = .rsl 6 0 (u ++ [rgPr b k]).length (u ++ [rgPr b k]).length 2 true := rfl
    have eS2 : owS u0 (u ++ [rgPr b k]) (k + 1) = [[], prC (u ++ [rgPr b k])] := rfl
    have hl2 : (u ++ [rgPr b k]).length = u.length + 1 := by simp
    rw [hl2] at eA2
    have i2' := inert_prC (u ++ [rgPr b k])
    have io := inert_prC u
    have ie : Inert [] := inert_of [] (by simp)
    cases k with
    | zero =>
      have eu : u = u0 := by rw [h2]; simp
      rw [eu] at hu2 eA2 eS2 hl2 i2' io hul ⊢
      have eA : owA u0 u0 0 = .rsl 5 0 u0.length u0.length 2 true := rfl
      have eS : owS u0 u0 0 = [prC u0] := rfl
      have happ := wp_at [Q, B, F, G, C4, prC u0] [] 5 u0 (rgPr b 0).1 (rgPr b 0).2 rfl hu0 (by omega)
      rw [show ((rgPr b 0).1, (rgPr b 0).2) = rgPr b 0 from rfl] at happ
      generalize prC (u0 ++ [rgPr b 0]) = C at *
      generalize prC u0 = C0 at *
      rw [hrp] at happ
      dsimp only at happ
      have w1 : IntKind.i64.wrap 1 = 1 := by decide
      have hm1 : (1 : Int).tmod (b.length : Int) = (((0 + 1) % b.length : Nat) : Int) := hm
      have hz1 : ((0 : Int) < (b.length : Int)) = True := hlt
      have hx1 : indexSAV 1 (listAV b) (.v (.int .i64 0)) = some (.eptr (I (b.getD 0 0)) 0) := hx
      generalize (0 + 1) % b.length = k1 at *
      simp only [go_sem, reduceIte, Nat.reduceEqDiff, Nat.reduceAdd, Nat.reduceSub, Nat.reduceLeDiff, Nat.reduceLT, reduceCtorEq, Int.reduceLT, Int.reduceLE, Int.reduceEq, Int.reduceBEq, Int.reduceSub, Int.reduceAdd, Int.reduceMul, Int.reduceNeg, Int.reduceToNat, Nat.reduceMul, Nat.reduceBEq, index_rsl_if, setm, make_ints, condK_dec, wantK_dec, not_dec, and_dec, or_dec, seqK_ite, seqK_none, blockK_ite, blockK_none, opsK_ite, opsK_none, stepK_ite, stepK_none, bodyK_ite, bodyK_none, resK_ite, resK_none, leaveK_ite, leaveK_none, only_ite, only_none, bind_ite, gives_some, gives_none, gives_ite, then_normal, then_ret, then_exit, then_none, then_ite, Option.bind_none, Bool.not_eq_true', decide_eq_false_iff_not, Bool.and_eq_true, Bool.or_eq_true, Option.some.injEq, Int.not_lt, Int.not_le, lp15_3, hz1, w1, hx1, hm1, hz, hx2, happ, List.length_map, eA, eS, Int.natCast_zero]
      refine ⟨(0 + 1, u0 ++ [rgPr b 0]), by simp only [go_sem, reduceIte, Nat.reduceEqDiff, Nat.reduceAdd, Nat.reduceSub, Nat.reduceLeDiff, Nat.reduceLT, reduceCtorEq, Int.reduceLT, Int.reduceLE, Int.reduceEq, Int.reduceBEq, Int.reduceSub, Int.reduceAdd, Int.reduceMul, Int.reduceNeg, Int.reduceToNat, Nat.reduceMul, Nat.reduceBEq, ren1_locm, loc_tips, locT_eq, eA2, eS2, hQ.1, hQ.2.1, hQ.2.2.1, hQ.2.2.2.1, hB.1, hB.2.1, hB.2.2.1, hB.2.2.2.1, hF.1, hF.2.1, hF.2.2.1, hF.2.2.2.1, hG.1, hG.2.1, hG.2.2.1, hG.2.2.2.1, hC.1, hC.2.1, hC.2.2.1, hC.2.2.2.1, i2'.1, i2'.2.1, i2'.2.2.1, i2'.2.2.2.1, io.1, io.2.1, io.2.2.1, io.2.2.2.1, compact, compactW, refsEnv, refsV, refsL, refsStore, refsAt, mapEnv, mapL, mapLs, newName, posOf, mapStore, pickStore, namesOk, refsV_sl, mapL_sl, List.contains_nil, List.contains_cons, Option.getD_some, hasKey] <;> rfl, ?_, ?_, fun x en s hq => ?_⟩
      · dsimp only; exact ⟨by omega, hu2⟩
      · dsimp only; omega
      · exact hq
    | succ j =>
      have eA : owA u0 u (j + 1) = .rsl 6 0 u.length u.length 2 true := rfl
      have eS : owS u0 u (j + 1) = [[], prC u] := rfl
      have happ := wp_at [Q, B, F, G, C4, [], prC u] [] 6 u (rgPr b (j + 1)).1 (rgPr b (j + 1)).2 rfl (by omega) (by omega)
      rw [show ((rgPr b (j + 1)).1, (rgPr b (j + 1)).2) = rgPr b (j + 1) from rfl] at happ
      generalize prC (u ++ [rgPr b (j + 1)]) = C at *
      generalize prC u = C0 at *
      rw [hrp] at happ
      dsimp only at happ
      simp only [go_sem, reduceIte, Nat.reduceEqDiff, Nat.reduceAdd, Nat.reduceSub, Nat.reduceLeDiff, Nat.reduceLT, reduceCtorEq, Int.reduceLT, Int.reduceLE, Int.reduceEq, Int.reduceBEq, Int.reduceSub, Int.reduceAdd, Int.reduceMul, Int.reduceNeg, Int.reduceToNat, Nat.reduceMul, Nat.reduceBEq, index_rsl_if, setm, make_ints, condK_dec, wantK_dec, not_dec, and_dec, or_dec, seqK_ite, seqK_none, blockK_ite, blockK_none, opsK_ite, opsK_none, stepK_ite, stepK_none, bodyK_ite, bodyK_none, resK_ite, resK_none, leaveK_ite, leaveK_none, only_ite, only_none, bind_ite, gives_some, gives_none, gives_ite, then_normal, then_ret, then_exit, then_none, then_ite, Option.bind_none, Bool.not_eq_true', decide_eq_false_iff_not, Bool.and_eq_true, Bool.or_eq_true, Option.some.injEq, Int.not_lt, Int.not_le, lp15_3, hlt, hs, hx, hm, hz, hx2, happ, List.length_map, eA, eS]
      refine ⟨(j + 1 + 1, u ++ [rgPr b (j + 1)]), by simp only [go_sem, reduceIte, Nat.reduceEqDiff, Nat.reduceAdd, Nat.reduceSub, Nat.reduceLeDiff, Nat.reduceLT, reduceCtorEq, Int.reduceLT, Int.reduceLE, Int.reduceEq, Int.reduceBEq, Int.reduceSub, Int.reduceAdd, Int.reduceMul, Int.reduceNeg, Int.reduceToNat, Nat.reduceMul, Nat.reduceBEq, ren1_locm, loc_tips, locT_eq, eA2, eS2, hQ.1, hQ.2.1, hQ.2.2.1, hQ.2.2.2.1, hB.1, hB.2.1, hB.2.2.1, hB.2.2.2.1, hF.1, hF.2.1, hF.2.2.1, hF.2.2.2.1, hG.1, hG.2.1, hG.2.2.1, hG.2.2.2.1, hC.1, hC.2.1, hC.2.2.1, hC.2.2.2.1, i2'.1, i2'.2.1, i2'.2.2.1, i2'.2.2.2.1, io.1, io.2.1, io.2.2.1, io.2.2.2.1, ie.1, ie.2.1, ie.2.2.1, ie.2.2.2.1, compact, compactW, refsEnv, refsV, refsL, refsStore, refsAt, mapEnv, mapL, mapLs, newName, posOf, mapStore, pickStore, namesOk, refsV_sl, mapL_sl, List.contains_nil, List.contains_cons, Option.getD_some, hasKey] <;> rfl, ?_, ?_, fun x en s hq => ?_⟩
      · dsimp only; exact ⟨by omega, hu2⟩
      · dsimp only; omega
      · exact hq
  · obtain rfl : k = b.length := by omega
    rw [show (List.range b.length).map (rgPr b) = rgPrs b from rfl] at h2
    rw [← h2]
    obtain ⟨j, hj⟩ : ∃ j, b.length = j + 1 := ⟨b.length - 1, by omega⟩
    have eA : owA u0 u b.length = .rsl 6 0 u.length u.length 2 true := by rw [hj]; rfl
    have eS : owS u0 u b.length = [[], prC u] := by rw [hj]; rfl
    simp only [go_sem, reduceIte, Nat.reduceEqDiff, Nat.reduceAdd, Nat.reduceSub, Nat.reduceLeDiff, Nat.reduceLT, reduceCtorEq, Int.reduceLT, Int.reduceLE, Int.reduceEq, Int.reduceBEq, Int.reduceSub, Int.reduceAdd, Int.reduceMul, Int.reduceNeg, Int.reduceToNat, Nat.reduceMul, Nat.reduceBEq, index_rsl_if, setm, make_ints, condK_dec, wantK_dec, not_dec, and_dec, or_dec, seqK_ite, seqK_none, blockK_ite, blockK_none, opsK_ite, opsK_none, stepK_ite, stepK_none, bodyK_ite, bodyK_none, resK_ite, resK_none, leaveK_ite, leaveK_none, only_ite, only_none, bind_ite, gives_some, gives_none, gives_ite, then_normal, then_ret, then_exit, then_none, then_ite, Option.bind_none, Bool.not_eq_true', decide_eq_false_iff_not, Bool.and_eq_true, Bool.or_eq_true, Option.some.injEq, Int.not_lt, Int.not_le, lp15_3, show ((b.length : Int) < (b.length : Int)) = False from eq_false (by omega), eA, eS]


theorem index_l (R : List (List Int)) (i : Nat) (h : i < R.length) : indexSAV 1 (sl 1 true (R.map listAV)) (.v (.int .i64 (i : Int))) = some (.eptr (listAV R[i]) 0) := by
  rw [index_sl _ _ _ _ _ (by omega) (by simpa using h)]
  simp
set_option maxHeartbeats 4000000 in
theorem loop15_4 (Q B F G C4 : List AV) (hQ : Inert Q) (hB : Inert B) (hF : Inert F) (hG : Inert G) (hC : Inert C4) (m : Nat) (R : List (List Int)) (hR : ∀ b ∈ R, 3 ≤ b.length ∧ b.length ≤ 7 ∧ b.length % 2 = 1 ∧ b.getD 1 0 < b.getD (b.length - 1) 0 ∧ ∀ x ∈ b, b.getD 0 0 ≤ x) (hasc : ∀ (i : Nat) (a b : List Int), R[i]? = some a → R[i + 1]? = some b → lexLt a b = true) (hown : (R.flatMap rgPrs).length ≤ 10) (hRl : R.length ≤ 1000) (i : Nat) (u : List (Int × Int)) (hok : i ≤ R.length ∧ u = (R.take i).flatMap rgPrs) (env : Env) (st : St)
    (hg : gcAV true 5 0 (canon env [6, 10, 16, 128, 129, 130, 3000000]) st = ([(6, sl 1 true (R.map listAV)), (10, .rsl 4 0 m m 2 true), (16, wpA 5 u), (128, sl 1 true (R.map listAV)), (129, I R.length), (130, I i), (3000000, .any)], ⟨[Q, B, F, G, C4] ++ wpS u, []⟩)) :
    ∃ x_1 en s, lim (headed pure (run L) true [6, 10, 16, 128, 129, 130, 3000000] lp15_4 5 0) env st = some (x_1, en, s) ∧ (x_1 = .exit 7 ∧ en.get 10 = .rsl 4 0 m m 2 true ∧ en.get 16 = wpA 5 (R.flatMap rgPrs) ∧ s = ⟨[Q, B, F, G, C4] ++ wpS (R.flatMap rgPrs), []⟩) := by
  refine loop_wp (α := Nat × List (Int × Int)) (fun ⟨i, u⟩ => R.length - i) (fun ⟨i, u⟩ => i ≤ R.length ∧ u = (R.take i).flatMap rgPrs) (fun ⟨i, u⟩ => ([(6, sl 1 true (R.map listAV)), (10, .rsl 4 0 m m 2 true), (16, wpA 5 u), (128, sl 1 true (R.map listAV)), (129, I R.length), (130, I i), (3000000, .any)], ⟨[Q, B, F, G, C4] ++ wpS u, []⟩)) (fun ⟨i, u⟩ x_1 en s => x_1 = .exit 7 ∧ en.get 10 = .rsl 4 0 m m 2 true ∧ en.get 16 = wpA 5 (R.flatMap rgPrs) ∧ s = ⟨[Q, B, F, G, C4] ++ wpS (R.flatMap rgPrs), []⟩) (fun ⟨i, u⟩ hok => ?_) ⟨i, u⟩ hok env st hg
  simp only at hok
  obtain ⟨h1, h2⟩ := hok
  dsimp only at h1 h2 ⊢
  by_cases h : i < R.length
  · have hs := succ64 i (by omega)
    have hxi := index_l R i h
    have hlt : ((i : Int) < (R.length : Int)) = True := eq_true (by omega)
    have htk : R.take (i + 1) = R.take i ++ [R[i]] := (List.take_append_getElem h).symm
    have hu2 : u ++ rgPrs R[i] = (R.take (i + 1)).flatMap rgPrs := by rw [htk, List.flatMap_append, h2]; simp
    have hpre : u.length ≤ 10 := by
      have e : R.flatMap rgPrs = (R.take i).flatMap rgPrs ++ (R.drop i).flatMap rgPrs := by rw [← List.flatMap_append, List.take_append_drop]
      rw [e, List.length_append, ← h2] at hown; omega
    obtain ⟨hb3, hb7, hbo, hb1, hbm⟩ := hR R[i] (List.getElem_mem h)
    have hsome : R[i]? = some R[i] := List.getElem?_eq_getElem h
    generalize hbe : R[i] = b at *
    have hrne : rgPrs b ≠ [] := by
      intro e
      have : (rgPrs b).length = b.length := by unfold rgPrs; simp
      rw [e] at this; simp at this; omega
    have c3 : ((b.length : Int) < 3) = False := eq_false (by omega)
    have c7 : ((7 : Int) < (b.length : Int)) = False := eq_false (by omega)
    have hm2 : (b.length : Int).tmod 2 = 1 := by rw [Int.tmod_eq_emod_of_nonneg (by omega)]; omega
    have idx1 : indexSAV 1 (listAV b) (.v (.int .i64 1)) = some (.eptr (I (b.getD 1 0)) 0) := index_at false b 1 (by omega) (by omega)
    have wl : IntKind.i64.wrap ((b.length : Int) - 1) = ((b.length - 1 : Nat) : Int) := by rw [wrap64] <;> omega
    have idxl : indexSAV 1 (listAV b) (.v (.int .i64 ((b.length - 1 : Nat) : Int))) = some (.eptr (I (b.getD (b.length - 1) 0)) 0) := by
      have := index_at false b ((b.length - 1 : Nat) : Int) (by omega) (by omega)
      rwa [Int.toNat_natCast] at this
    have c4 : (b.getD (b.length - 1) 0 ≤ b.getD 1 0) = False := eq_false (by omega)
    have idx0 : indexSAV 1 (listAV b) (.v (.int .i64 0)) = some (.eptr (I (b.getD 0 0)) 0) := index_at false b 0 (by omega) (by omega)
    have h68 := fun st => c68 false b (by omega) (by omega) hbm st
    cases i with
    | zero =>
      have hs0 : IntKind.i64.wrap 1 = 1 := by decide
      have hlt0 : ((0 : Int) < (R.length : Int)) = True := hlt
      have hxi0 : indexSAV 1 (sl 1 true (R.map listAV)) (.v (.int .i64 0)) = some (.eptr (listAV b) 0) := hxi
      have e0 : ((0 : Nat) : Int) = 0 := rfl
      by_cases hX : u = []
      · have eA : wpA 5 u = .v (.slice none 0 0) := by rw [hX]; rfl
        have eS : wpS u = [] := by rw [hX]; rfl
        have hne : u ++ rgPrs b = rgPrs b := by rw [hX]; rfl
        have eA2 := wpA_ne (l := 5) hrne
        have eS2 := wpS_ne hrne
        have io := inert_prC (rgPrs b)
        rw [hne] at hu2
        simp only [go_sem, reduceIte, Nat.reduceEqDiff, Nat.reduceAdd, Nat.reduceSub, Nat.reduceLeDiff, Nat.reduceLT, reduceCtorEq, Int.reduceLT, Int.reduceLE, Int.reduceEq, Int.reduceBEq, Int.reduceSub, Int.reduceAdd, Int.reduceMul, Int.reduceNeg, Int.reduceToNat, Nat.reduceMul, Nat.reduceBEq, index_rsl_if, setm, make_ints, condK_dec, wantK_dec, not_dec, and_dec, or_dec, seqK_ite, seqK_none, blockK_ite, blockK_none, opsK_ite, opsK_none, stepK_ite, stepK_none, bodyK_ite, bodyK_none, resK_ite, resK_none, leaveK_ite, leaveK_none, only_ite, only_none, bind_ite, gives_some, gives_none, gives_ite, then_normal, then_ret, then_exit, then_none, then_ite, Option.bind_none, Bool.not_eq_true', decide_eq_false_iff_not, Bool.and_eq_true, Bool.or_eq_true, Option.some.injEq, Int.not_lt, Int.not_le, lp15_4, hlt0, hs0, hxi0, c3, c7, hm2, idx1, wl, idxl, c4, idx0, h68, List.length_map, e0, eA, eS]
        generalize hg : lim (headed pure (run L) true _ lp15_3 _ _) _ _ = o
        obtain ⟨x, en, s, rfl, h2⟩ : ∃ x en s, o = some (x, en, s) ∧ _ := by rw [← hg]; exact loop15_3a Q B F G C4 hQ hB hF hG hC m R 0 b hb3 hb7 0 [] ⟨Nat.zero_le _, rfl⟩ _ _ (by simp only [go_sem, reduceIte, Nat.reduceEqDiff, Nat.reduceAdd, Nat.reduceSub, Nat.reduceLeDiff, Nat.reduceLT, reduceCtorEq, Int.reduceLT, Int.reduceLE, Int.reduceEq, Int.reduceBEq, Int.reduceSub, Int.reduceAdd, Int.reduceMul, Int.reduceNeg, Int.reduceToNat, Nat.reduceMul, Nat.reduceBEq, show wpA 5 [] = .v (.slice none 0 0) from rfl, show wpS [] = [] from rfl, List.append_nil, Int.natCast_zero, hQ.1, hQ.2.1, hQ.2.2.1, hQ.2.2.2.1, hB.1, hB.2.1, hB.2.2.1, hB.2.2.2.1, hF.1, hF.2.1, hF.2.2.1, hF.2.2.2.1, hG.1, hG.2.1, hG.2.2.1, hG.2.2.2.1, hC.1, hC.2.1, hC.2.2.1, hC.2.2.2.1, compact, compactW, refsEnv, refsV, refsL, refsStore, refsAt, mapEnv, mapL, mapLs, newName, posOf, mapStore, pickStore, namesOk, refsV_sl, mapL_sl, List.contains_nil, List.contains_cons, Option.getD_some, hasKey] <;> rfl)
        clear hg
        obtain ⟨rfl, g6, g10, g16, g128, g129, g130, gk, rfl⟩ := h2
        rw [eA2] at g16
        rw [eS2]
        generalize prC (rgPrs b) = C at *
        simp only [go_sem, reduceIte, Nat.reduceEqDiff, Nat.reduceAdd, Nat.reduceSub, Nat.reduceLeDiff, Nat.reduceLT, reduceCtorEq, Int.reduceLT, Int.reduceLE, Int.reduceEq, Int.reduceBEq, Int.reduceSub, Int.reduceAdd, Int.reduceMul, Int.reduceNeg, Int.reduceToNat, Nat.reduceMul, Nat.reduceBEq, index_rsl_if, setm, make_ints, condK_dec, wantK_dec, not_dec, and_dec, or_dec, seqK_ite, seqK_none, blockK_ite, blockK_none, opsK_ite, opsK_none, stepK_ite, stepK_none, bodyK_ite, bodyK_none, resK_ite, resK_none, leaveK_ite, leaveK_none, only_ite, only_none, bind_ite, gives_some, gives_none, gives_ite, then_normal, then_ret, then_exit, then_none, then_ite, Option.bind_none, Bool.not_eq_true', decide_eq_false_iff_not, Bool.and_eq_true, Bool.or_eq_true, Option.some.injEq, Int.not_lt, Int.not_le, lp15_4, g6, g10, g16, g128, g129, g130, gk, hs0, e0]
        refine ⟨(0 + 1, rgPrs b), by simp only [go_sem, reduceIte, Nat.reduceEqDiff, Nat.reduceAdd, Nat.reduceSub, Nat.reduceLeDiff, Nat.reduceLT, reduceCtorEq, Int.reduceLT, Int.reduceLE, Int.reduceEq, Int.reduceBEq, Int.reduceSub, Int.reduceAdd, Int.reduceMul, Int.reduceNeg, Int.reduceToNat, Nat.reduceMul, Nat.reduceBEq, ren1_locm, loc_tips, locT_eq, g6, g10, g16, g128, g129, g130, gk, eA2, eS2, hQ.1, hQ.2.1, hQ.2.2.1, hQ.2.2.2.1, hB.1, hB.2.1, hB.2.2.1, hB.2.2.2.1, hF.1, hF.2.1, hF.2.2.1, hF.2.2.2.1, hG.1, hG.2.1, hG.2.2.1, hG.2.2.2.1, hC.1, hC.2.1, hC.2.2.1, hC.2.2.2.1, io.1, io.2.1, io.2.2.1, io.2.2.2.1, compact, compactW, refsEnv, refsV, refsL, refsStore, refsAt, mapEnv, mapL, mapLs, newName, posOf, mapStore, pickStore, namesOk, refsV_sl, mapL_sl, List.contains_nil, List.contains_cons, Option.getD_some, hasKey] <;> rfl, ?_, ?_, fun x en s hq => ?_⟩
        · dsimp only; exact ⟨by omega, hu2⟩
        · dsimp only; omega
        · exact hq
      · have hpos : 1 ≤ u.length := by
          cases u with
          | nil => exact absurd rfl hX
          | cons x r => simp
        have eA := wpA_ne (l := 5) hX
        have eS := wpS_ne hX
        have hne : u ++ rgPrs b ≠ [] := by simp [hX]
        have eA2 := wpA_ne (l := 5) hne
        have eS2 := wpS_ne hne
        have eO : owA u [] 0 = .rsl 5 0 u.length u.length 2 true := rfl
        have eO2 : owA u u 0 = .rsl 5 0 u.length u.length 2 true := rfl
        have eP2 : owS u u 0 = [prC u] := rfl
        have io := inert_prC u
        have i2 := inert_prC (u ++ rgPrs b)
        have ie : Inert [] := inert_of [] (by simp)
        simp only [go_sem, reduceIte, Nat.reduceEqDiff, Nat.reduceAdd, Nat.reduceSub, Nat.reduceLeDiff, Nat.reduceLT, reduceCtorEq, Int.reduceLT, Int.reduceLE, Int.reduceEq, Int.reduceBEq, Int.reduceSub, Int.reduceAdd, Int.reduceMul, Int.reduceNeg, Int.reduceToNat, Nat.reduceMul, Nat.reduceBEq, index_rsl_if, setm, make_ints, condK_dec, wantK_dec, not_dec, and_dec, or_dec, seqK_ite, seqK_none, blockK_ite, blockK_none, opsK_ite, opsK_none, stepK_ite, stepK_none, bodyK_ite, bodyK_none, resK_ite, resK_none, leaveK_ite, leaveK_none, only_ite, only_none, bind_ite, gives_some, gives_none, gives_ite, then_normal, then_ret, then_exit, then_none, then_ite, Option.bind_none, Bool.not_eq_true', decide_eq_false_iff_not, Bool.and_eq_true, Bool.or_eq_true, Option.some.injEq, Int.not_lt, Int.not_le, lp15_4, hlt0, hs0, hxi0, c3, c7, hm2, idx1, wl, idxl, c4, idx0, h68, List.length_map, e0, eA, eS]
        generalize hg : lim (headed pure (run L) true _ lp15_3 _ _) _ _ = o
        obtain ⟨x, en, s, rfl, h2⟩ : ∃ x en s, o = some (x, en, s) ∧ _ := by rw [← hg]; exact loop15_3b Q B F G C4 hQ hB hF hG hC m R 0 b hb3 hb7 u hpos (by omega) 0 u ⟨Nat.zero_le _, by simp⟩ _ _ (by simp only [go_sem, reduceIte, Nat.reduceEqDiff, Nat.reduceAdd, Nat.reduceSub, Nat.reduceLeDiff, Nat.reduceLT, reduceCtorEq, Int.reduceLT, Int.reduceLE, Int.reduceEq, Int.reduceBEq, Int.reduceSub, Int.reduceAdd, Int.reduceMul, Int.reduceNeg, Int.reduceToNat, Nat.reduceMul, Nat.reduceBEq, eO2, eP2, Int.natCast_zero, hQ.1, hQ.2.1, hQ.2.2.1, hQ.2.2.2.1, hB.1, hB.2.1, hB.2.2.1, hB.2.2.2.1, hF.1, hF.2.1, hF.2.2.1, hF.2.2.2.1, hG.1, hG.2.1, hG.2.2.1, hG.2.2.2.1, hC.1, hC.2.1, hC.2.2.1, hC.2.2.2.1, io.1, io.2.1, io.2.2.1, io.2.2.2.1, compact, compactW, refsEnv, refsV, refsL, refsStore, refsAt, mapEnv, mapL, mapLs, newName, posOf, mapStore, pickStore, namesOk, refsV_sl, mapL_sl, List.contains_nil, List.contains_cons, Option.getD_some, hasKey] <;> rfl)
        clear hg
        obtain ⟨rfl, g6, g10, g16, g128, g129, g130, gk, rfl⟩ := h2
        generalize prC (u ++ rgPrs b) = C at *
        generalize prC u = C0 at *
        simp only [go_sem, reduceIte, Nat.reduceEqDiff, Nat.reduceAdd, Nat.reduceSub, Nat.reduceLeDiff, Nat.reduceLT, reduceCtorEq, Int.reduceLT, Int.reduceLE, Int.reduceEq, Int.reduceBEq, Int.reduceSub, Int.reduceAdd, Int.reduceMul, Int.reduceNeg, Int.reduceToNat, Nat.reduceMul, Nat.reduceBEq, index_rsl_if, setm, make_ints, condK_dec, wantK_dec, not_dec, and_dec, or_dec, seqK_ite, seqK_none, blockK_ite, blockK_none, opsK_ite, opsK_none, stepK_ite, stepK_none, bodyK_ite, bodyK_none, resK_ite, resK_none, leaveK_ite, leaveK_none, only_ite, only_none, bind_ite, gives_some, gives_none, gives_ite, then_normal, then_ret, then_exit, then_none, then_ite, Option.bind_none, Bool.not_eq_true', decide_eq_false_iff_not, Bool.and_eq_true, Bool.or_eq_true, Option.some.injEq, Int.not_lt, Int.not_le, lp15_4, g6, g10, g16, g128, g129, g130, gk, hs0, e0]
        refine ⟨(0 + 1, u ++ rgPrs b), by simp only [go_sem, reduceIte, Nat.reduceEqDiff, Nat.reduceAdd, Nat.reduceSub, Nat.reduceLeDiff, Nat.reduceLT, reduceCtorEq, Int.reduceLT, Int.reduceLE, Int.reduceEq, Int.reduceBEq, Int.reduceSub, Int.reduceAdd, Int.reduceMul, Int.reduceNeg, Int.reduceToNat, Nat.reduceMul, Nat.reduceBEq, ren1_locm, loc_tips, locT_eq, g6, g10, g16, g128, g129, g130, gk, eA2, eS2, hQ.1, hQ.2.1, hQ.2.2.1, hQ.2.2.2.1, hB.1, hB.2.1, hB.2.2.1, hB.2.2.2.1, hF.1, hF.2.1, hF.2.2.1, hF.2.2.2.1, hG.1, hG.2.1, hG.2.2.1, hG.2.2.2.1, hC.1, hC.2.1, hC.2.2.1, hC.2.2.2.1, i2.1, i2.2.1, i2.2.2.1, i2.2.2.2.1, ie.1, ie.2.1, ie.2.2.1, ie.2.2.2.1, io.1, io.2.1, io.2.2.1, io.2.2.2.1, compact, compactW, refsEnv, refsV, refsL, refsStore, refsAt, mapEnv, mapL, mapLs, newName, posOf, mapStore, pickStore, namesOk, refsV_sl, mapL_sl, List.contains_nil, List.contains_cons, Option.getD_some, hasKey] <;> rfl, ?_, ?_, fun x en s hq => ?_⟩
        · dsimp only; exact ⟨by omega, hu2⟩
        · dsimp only; omega
        · exact hq
    | succ j =>
      have hpj : ((0 : Int) < ((j + 1 : Nat) : Int)) = True := eq_true (by omega)
      have wj : IntKind.i64.wrap (((j + 1 : Nat) : Int) - 1) = (j : Int) := by rw [wrap64] <;> omega
      have hxj := index_l R j (by omega)
      have hl69 := hasc j R[j] b (List.getElem?_eq_getElem (by omega)) hsome
      obtain ⟨hj3, hj7, _⟩ := hR R[j] (List.getElem_mem (by omega))
      obtain ⟨z, hz1, hz2⟩ := c69 false false R[j] b (by omega) ⟨[], []⟩
      have h69 := fun st => run_any' (fn := ir69) rfl rfl hz1 st
      rw [hl69, decide_eq_true_iff] at hz2
      have hz0 : ((0 : Int) ≤ z) = False := eq_false (by omega)
      generalize R[j] = a at *
      by_cases hX : u = []
      · have eA : wpA 5 u = .v (.slice none 0 0) := by rw [hX]; rfl
        have eS : wpS u = [] := by rw [hX]; rfl
        have hne : u ++ rgPrs b = rgPrs b := by rw [hX]; rfl
        have eA2 := wpA_ne (l := 5) hrne
        have eS2 := wpS_ne hrne
        have io := inert_prC (rgPrs b)
        rw [hne] at hu2
        simp only [go_sem, reduceIte, Nat.reduceEqDiff, Nat.reduceAdd, Nat.reduceSub, Nat.reduceLeDiff, Nat.reduceLT, reduceCtorEq, Int.reduceLT, Int.reduceLE, Int.reduceEq, Int.reduceBEq, Int.reduceSub, Int.reduceAdd, Int.reduceMul, Int.reduceNeg, Int.reduceToNat, Nat.reduceMul, Nat.reduceBEq, index_rsl_if, setm, make_ints, condK_dec, wantK_dec, not_dec, and_dec, or_dec, seqK_ite, seqK_none, blockK_ite, blockK_none, opsK_ite, opsK_none, stepK_ite, stepK_none, bodyK_ite, bodyK_none, resK_ite, resK_none, leaveK_ite, leaveK_none, only_ite, only_none, bind_ite, gives_some, gives_none, gives_ite, then_normal, then_ret, then_exit, then_none, then_ite, Option.bind_none, Bool.not_eq_true', decide_eq_false_iff_not, Bool.and_eq_true, Bool.or_eq_true, Option.some.injEq, Int.not_lt, Int.not_le, lp15_4, hlt, hs, hxi, c3, c7, hm2, idx1, wl, idxl, c4, idx0, h68, List.length_map, hpj, wj, hxj, h69, hz0, eA, eS]
        generalize hg : lim (headed pure (run L) true _ lp15_3 _ _) _ _ = o
        obtain ⟨x, en, s, rfl, h2⟩ : ∃ x en s, o = some (x, en, s) ∧ _ := by rw [← hg]; exact loop15_3a Q B F G C4 hQ hB hF hG hC m R (j + 1) b hb3 hb7 0 [] ⟨Nat.zero_le _, rfl⟩ _ _ (by simp only [go_sem, reduceIte, Nat.reduceEqDiff, Nat.reduceAdd, Nat.reduceSub, Nat.reduceLeDiff, Nat.reduceLT, reduceCtorEq, Int.reduceLT, Int.reduceLE, Int.reduceEq, Int.reduceBEq, Int.reduceSub, Int.reduceAdd, Int.reduceMul, Int.reduceNeg, Int.reduceToNat, Nat.reduceMul, Nat.reduceBEq, show wpA 5 [] = .v (.slice none 0 0) from rfl, show wpS [] = [] from rfl, List.append_nil, Int.natCast_zero, hQ.1, hQ.2.1, hQ.2.2.1, hQ.2.2.2.1, hB.1, hB.2.1, hB.2.2.1, hB.2.2.2.1, hF.1, hF.2.1, hF.2.2.1, hF.2.2.2.1, hG.1, hG.2.1, hG.2.2.1, hG.2.2.2.1, hC.1, hC.2.1, hC.2.2.1, hC.2.2.2.1, compact, compactW, refsEnv, refsV, refsL, refsStore, refsAt, mapEnv, mapL, mapLs, newName, posOf, mapStore, pickStore, namesOk, refsV_sl, mapL_sl, List.contains_nil, List.contains_cons, Option.getD_some, hasKey] <;> rfl)
        clear hg
        obtain ⟨rfl, g6, g10, g16, g128, g129, g130, gk, rfl⟩ := h2
        rw [eA2] at g16
        rw [eS2]
        generalize prC (rgPrs b) = C at *
        simp only [go_sem, reduceIte, Nat.reduceEqDiff, Nat.reduceAdd, Nat.reduceSub, Nat.reduceLeDiff, Nat.reduceLT, reduceCtorEq, Int.reduceLT, Int.reduceLE, Int.reduceEq, Int.reduceBEq, Int.reduceSub, Int.reduceAdd, Int.reduceMul, Int.reduceNeg, Int.reduceToNat, Nat.reduceMul, Nat.reduceBEq, index_rsl_if, setm, make_ints, condK_dec, wantK_dec, not_dec, and_dec, or_dec, seqK_ite, seqK_none, blockK_ite, blockK_none, opsK_ite, opsK_none, stepK_ite, stepK_none, bodyK_ite, bodyK_none, resK_ite, resK_none, leaveK_ite, leaveK_none, only_ite, only_none, bind_ite, gives_some, gives_none, gives_ite, then_normal, then_ret, then_exit, then_none, then_ite, Option.bind_none, Bool.not_eq_true', decide_eq_false_iff_not, Bool.and_eq_true, Bool.or_eq_true, Option.some.injEq, Int.not_lt, Int.not_le, lp15_4, g6, g10, g16, g128, g129, g130, gk, hs]
        refine ⟨(j + 1 + 1, rgPrs b), by simp only [go_sem, reduceIte, Nat.reduceEqDiff, Nat.reduceAdd, Nat.reduceSub, Nat.reduceLeDiff, Nat.reduceLT, reduceCtorEq, Int.reduceLT, Int.reduceLE, Int.reduceEq, Int.reduceBEq, Int.reduceSub, Int.reduceAdd, Int.reduceMul, Int.reduceNeg, Int.reduceToNat, Nat.reduceMul, Nat.reduceBEq, ren1_locm, loc_tips, locT_eq, g6, g10, g16, g128, g129, g130, gk, eA2, eS2, hQ.1, hQ.2.1, hQ.2.2.1, hQ.2.2.2.1, hB.1, hB.2.1, hB.2.2.1, hB.2.2.2.1, hF.1, hF.2.1, hF.2.2.1, hF.2.2.2.1, hG.1, hG.2.1, hG.2.2.1, hG.2.2.2.1, hC.1, hC.2.1, hC.2.2.1, hC.2.2.2.1, io.1, io.2.1, io.2.2.1, io.2.2.2.1, compact, compactW, refsEnv, refsV, refsL, refsStore, refsAt, mapEnv, mapL, mapLs, newName, posOf, mapStore, pickStore, namesOk, refsV_sl, mapL_sl, List.contains_nil, List.contains_cons, Option.getD_some, hasKey] <;> rfl, ?_, ?_, fun x en s hq => ?_⟩
        · dsimp only; exact ⟨by omega, hu2⟩
        · dsimp only; omega
        · exact hq
      · have hpos : 1 ≤ u.length := by
          cases u with
          | nil => exact absurd rfl hX
          | cons x r => simp
        have eA := wpA_ne (l := 5) hX
        have eS := wpS_ne hX
        have hne : u ++ rgPrs b ≠ [] := by simp [hX]
        have eA2 := wpA_ne (l := 5) hne
        have eS2 := wpS_ne hne
        have eO : owA u [] 0 = .rsl 5 0 u.length u.length 2 true := rfl
        have eO2 : owA u u 0 = .rsl 5 0 u.length u.length 2 true := rfl
        have eP2 : owS u u 0 = [prC u] := rfl
        have io := inert_prC u
        have i2 := inert_prC (u ++ rgPrs b)
        have ie : Inert [] := inert_of [] (by simp)
        simp only [go_sem, reduceIte, Nat.reduceEqDiff, Nat.reduceAdd, Nat.reduceSub, Nat.reduceLeDiff, Nat.reduceLT, reduceCtorEq, Int.reduceLT, Int.reduceLE, Int.reduceEq, Int.reduceBEq, Int.reduceSub, Int.reduceAdd, Int.reduceMul, Int.reduceNeg, Int.reduceToNat, Nat.reduceMul, Nat.reduceBEq, index_rsl_if, setm, make_ints, condK_dec, wantK_dec, not_dec, and_dec, or_dec, seqK_ite, seqK_none, blockK_ite, blockK_none, opsK_ite, opsK_none, stepK_ite, stepK_none, bodyK_ite, bodyK_none, resK_ite, resK_none, leaveK_ite, leaveK_none, only_ite, only_none, bind_ite, gives_some, gives_none, gives_ite, then_normal, then_ret, then_exit, then_none, then_ite, Option.bind_none, Bool.not_eq_true', decide_eq_false_iff_not, Bool.and_eq_true, Bool.or_eq_true, Option.some.injEq, Int.not_lt, Int.not_le, lp15_4, hlt, hs, hxi, c3, c7, hm2, idx1, wl, idxl, c4, idx0, h68, List.length_map, hpj, wj, hxj, h69, hz0, eA, eS]
        generalize hg : lim (headed pure (run L) true _ lp15_3 _ _) _ _ = o
        obtain ⟨x, en, s, rfl, h2⟩ : ∃ x en s, o = some (x, en, s) ∧ _ := by rw [← hg]; exact loop15_3b Q B F G C4 hQ hB hF hG hC m R (j + 1) b hb3 hb7 u hpos (by omega) 0 u ⟨Nat.zero_le _, by simp⟩ _ _ (by simp only [go_sem, reduceIte, Nat.reduceEqDiff, Nat.reduceAdd, Nat.reduceSub, Nat.reduceLeDiff, Nat.reduceLT, reduceCtorEq, Int.reduceLT, Int.reduceLE, Int.reduceEq, Int.reduceBEq, Int.reduceSub, Int.reduceAdd, Int.reduceMul, Int.reduceNeg, Int.reduceToNat, Nat.reduceMul, Nat.reduceBEq, eO2, eP2, Int.natCast_zero, hQ.1, hQ.2.1, hQ.2.2.1, hQ.2.2.2.1, hB.1, hB.2.1, hB.2.2.1, hB.2.2.2.1, hF.1, hF.2.1, hF.2.2.1, hF.2.2.2.1, hG.1, hG.2.1, hG.2.2.1, hG.2.2.2.1, hC.1, hC.2.1, hC.2.2.1, hC.2.2.2.1, io.1, io.2.1, io.2.2.1, io.2.2.2.1, compact, compactW, refsEnv, refsV, refsL, refsStore, refsAt, mapEnv, mapL, mapLs, newName, posOf, mapStore, pickStore, namesOk, refsV_sl, mapL_sl, List.contains_nil, List.contains_cons, Option.getD_some, hasKey] <;> rfl)
        clear hg
        obtain ⟨rfl, g6, g10, g16, g128, g129, g130, gk, rfl⟩ := h2
        generalize prC (u ++ rgPrs b) = C at *
        generalize prC u = C0 at *
        simp only [go_sem, reduceIte, Nat.reduceEqDiff, Nat.reduceAdd, Nat.reduceSub, Nat.reduceLeDiff, Nat.reduceLT, reduceCtorEq, Int.reduceLT, Int.reduceLE, Int.reduceEq, Int.reduceBEq, Int.reduceSub, Int.reduceAdd, Int.reduceMul, Int.reduceNeg, Int.reduceToNat, Nat.reduceMul, Nat.reduceBEq, index_rsl_if, setm, make_ints, condK_dec, wantK_dec, not_dec, and_dec, or_dec, seqK_ite, seqK_none, blockK_ite, blockK_none, opsK_ite, opsK_none, stepK_ite, stepK_none, bodyK_ite, bodyK_none, resK_ite, resK_none, leaveK_ite, leaveK_none, only_ite, only_none, bind_ite, gives_some, gives_none, gives_ite, then_normal, then_ret, then_exit, then_none, then_ite, Option.bind_none, Bool.not_eq_true', decide_eq_false_iff_not, Bool.and_eq_true, Bool.or_eq_true, Option.some.injEq, Int.not_lt, Int.not_le, lp15_4, g6, g10, g16, g128, g129, g130, gk, hs]
        refine ⟨(j + 1 + 1, u ++ rgPrs b), by simp only [go_sem, reduceIte, Nat.reduceEqDiff, Nat.reduceAdd, Nat.reduceSub, Nat.reduceLeDiff, Nat.reduceLT, reduceCtorEq, Int.reduceLT, Int.reduceLE, Int.reduceEq, Int.reduceBEq, Int.reduceSub, Int.reduceAdd, Int.reduceMul, Int.reduceNeg, Int.reduceToNat, Nat.reduceMul, Nat.reduceBEq, ren1_locm, loc_tips, locT_eq, g6, g10, g16, g128, g129, g130, gk, eA2, eS2, hQ.1, hQ.2.1, hQ.2.2.1, hQ.2.2.2.1, hB.1, hB.2.1, hB.2.2.1, hB.2.2.2.1, hF.1, hF.2.1, hF.2.2.1, hF.2.2.2.1, hG.1, hG.2.1, hG.2.2.1, hG.2.2.2.1, hC.1, hC.2.1, hC.2.2.1, hC.2.2.2.1, i2.1, i2.2.1, i2.2.2.1, i2.2.2.2.1, ie.1, ie.2.1, ie.2.2.1, ie.2.2.2.1, io.1, io.2.1, io.2.2.1, io.2.2.2.1, compact, compactW, refsEnv, refsV, refsL, refsStore, refsAt, mapEnv, mapL, mapLs, newName, posOf, mapStore, pickStore, namesOk, refsV_sl, mapL_sl, List.contains_nil, List.contains_cons, Option.getD_some, hasKey] <;> rfl, ?_, ?_, fun x en s hq => ?_⟩
        · dsimp only; exact ⟨by omega, hu2⟩
        · dsimp only; omega
        · exact hq
  · obtain rfl : i = R.length := by omega
    rw [List.take_of_length_le (Nat.le_refl _)] at h2
    rw [← h2]
    simp only [go_sem, reduceIte, Nat.reduceEqDiff, Nat.reduceAdd, Nat.reduceSub, Nat.reduceLeDiff, Nat.reduceLT, reduceCtorEq, Int.reduceLT, Int.reduceLE, Int.reduceEq, Int.reduceBEq, Int.reduceSub, Int.reduceAdd, Int.reduceMul, Int.reduceNeg, Int.reduceToNat, Nat.reduceMul, Nat.reduceBEq, index_rsl_if, setm, make_ints, condK_dec, wantK_dec, not_dec, and_dec, or_dec, seqK_ite, seqK_none, blockK_ite, blockK_none, opsK_ite, opsK_none, stepK_ite, stepK_none, bodyK_ite, bodyK_none, resK_ite, resK_none, leaveK_ite, leaveK_none, only_ite, only_none, bind_ite, gives_some, gives_none, gives_ite, then_normal, then_ret, then_exit, then_none, then_ite, Option.bind_none, Bool.not_eq_true', decide_eq_false_iff_not, Bool.and_eq_true, Bool.or_eq_true, Option.some.injEq, Int.not_lt, Int.not_le, lp15_4, show ((R.length : Int) < (R.length : Int)) = False from eq_false (by omega)]


theorem loop15_4e (Q B F G : List AV) (hQ : Inert Q) (hB : Inert B) (hF : Inert F) (hG : Inert G) (u : Nat) (hok : True) (env : Env) (st : St)
    (hg : gcAV true 4 0 (canon env [6, 10, 16, 128, 129, 130, 3000000]) st = ([(6, sl 1 true (([] : List (List Int)).map listAV)), (10, .v (.slice none 0 0)), (16, .v (.slice none 0 0)), (128, sl 1 true (([] : List (List Int)).map listAV)), (129, I 0), (130, I 0), (3000000, .any)], ⟨[Q, B, F, G], []⟩)) :
    ∃ x_1 en s, lim (headed pure (run L) true [6, 10, 16, 128, 129, 130, 3000000] lp15_4 4 0) env st = some (x_1, en, s) ∧ (x_1 = .exit 7 ∧ en.get 10 = .v (.slice none 0 0) ∧ en.get 16 = .v (.slice none 0 0) ∧ s = ⟨[Q, B, F, G], []⟩) := by
  refine loop_wp (α := Nat) (fun u => u) (fun u => True) (fun u => ([(6, sl 1 true (([] : List (List Int)).map listAV)), (10, .v (.slice none 0 0)), (16, .v (.slice none 0 0)), (128, sl 1 true (([] : List (List Int)).map listAV)), (129, I 0), (130, I 0), (3000000, .any)], ⟨[Q, B, F, G], []⟩)) (fun u x_1 en s => x_1 = .exit 7 ∧ en.get 10 = .v (.slice none 0 0) ∧ en.get 16 = .v (.slice none 0 0) ∧ s = ⟨[Q, B, F, G], []⟩) (fun u hok => ?_) u hok env st hg
  have hlt : ((0 : Int) < 0) = False := eq_false (by omega)
  simp only [go_sem, reduceIte, Nat.reduceEqDiff, Nat.reduceAdd, Nat.reduceSub, Nat.reduceLeDiff, Nat.reduceLT, reduceCtorEq, Int.reduceLT, Int.reduceLE, Int.reduceEq, Int.reduceBEq, Int.reduceSub, Int.reduceAdd, Int.reduceMul, Int.reduceNeg, Int.reduceToNat, Nat.reduceMul, Nat.reduceBEq, index_rsl_if, setm, make_ints, condK_dec, wantK_dec, not_dec, and_dec, or_dec, seqK_ite, seqK_none, blockK_ite, blockK_none, opsK_ite, opsK_none, stepK_ite, stepK_none, bodyK_ite, bodyK_none, resK_ite, resK_none, leaveK_ite, leaveK_none, only_ite, only_none, bind_ite, gives_some, gives_none, gives_ite, then_normal, then_ret, then_exit, then_none, then_ite, Option.bind_none, Bool.not_eq_true', decide_eq_false_iff_not, Bool.and_eq_true, Bool.or_eq_true, Option.some.injEq, Int.not_lt, Int.not_le, lp15_4, hlt]

theorem frzL5r {Q B F G C D : List AV} (hne : D ≠ []) (env : Env) : frzL 5 env ⟨[Q, B, F, G, C, D], []⟩ = (frzEnv 5 D env, ⟨[frzVs 5 D Q, frzVs 5 D B, frzVs 5 D F, frzVs 5 D G, frzVs 5 D C, []], []⟩) := by
  cases D with
  | nil => exact absurd rfl hne
  | cons c cs => rfl
theorem frzL4r {Q B F G C D : List AV} (hne : C ≠ []) (env : Env) : frzL 4 env ⟨[Q, B, F, G, C, D], []⟩ = (frzEnv 4 C env, ⟨[frzVs 4 C Q, frzVs 4 C B, frzVs 4 C F, frzVs 4 C G, [], frzVs 4 C D], []⟩) := by
  cases C with
  | nil => exact absurd rfl hne
  | cons c cs => rfl
theorem over_no {n : Nat} (hn : n ≤ 7) {ps : List (Int × Int)} (hps : ∀ p ∈ ps, 0 ≤ p.1 ∧ p.1 < p.2 ∧ p.2 < (n : Int)) : overB ps (sharesR n ps) = false := by
  cases h : overB ps (sharesR n ps)
  · rfl
  · rw [← over_eq hn hps] at h
    obtain ⟨a, _, h2⟩ := (over_iff _).1 h
    have := over_none (sharesR_in (n := n) (ps := ps)).1 hps a
    omega
theorem rgPrs_len (b : List Int) : (rgPrs b).length = b.length := by unfold rgPrs; simp
theorem flat_none : ∀ (R : List (List Int)), (∀ b ∈ R, 3 ≤ b.length) → R.flatMap rgPrs = [] → R = []
  | [], _, _ => rfl
  | b :: R, h, e => by
    rw [List.flatMap_cons, List.append_eq_nil_iff] at e
    have h1 := h b (by simp)
    have h2 := rgPrs_len b
    rw [e.1] at h2
    simp at h2; omega
theorem flat_count : ∀ (R : List (List Int)), (∀ b ∈ R, 3 ≤ b.length) → R.length ≤ (R.flatMap rgPrs).length
  | [], _ => by simp
  | b :: R, h => by
    have h1 := h b (by simp)
    have h2 := rgPrs_len b
    have h3 := flat_count R fun c hc => h c (by simp [hc])
    rw [List.flatMap_cons, List.length_append, List.length_cons]; omega

set_option maxHeartbeats 4000000 in
theorem c15 (zs : List Int) (hzl : zs.length = 22) (hz : ∀ a ∈ zs, Byte a) (st : St) : run L 15 [qAV zs] st = some (B true, st) := by
  rw [run_pure (fn := ir15) rfl rfl]
  have h44 := fun st => c44 zs hzl hz 1 (.inl rfl) st
  obtain ⟨n, hN, hn1, _, hn, hlen, hps, h7, hnd, hck⟩ := made_ok (.inl rfl : (1 : Int) = 1 ∨ (1 : Int) = 2) zs
  rw [hN] at h44
  generalize madeP 1 zs = ps at *
  have htk : (zs.map B8).take 22 = zs.map B8 := List.take_of_length_le (by simp [hzl])
  obtain ⟨n2, h35⟩ := c35 true n ps
  have h37 := fun st => c37r true n ps st
  have hsh : shv (n : Int) ps = (sharesR n ps, 0) := by unfold shv; rw [if_pos hck, Int.toNat_natCast]
  have hrr : rrv (n : Int) ps = (ringsP n (advL (onesR n ps)), 0) := by
    unfold rrv; rw [if_pos hck, Int.toNat_natCast, rings_eq hn1 hn hps h7 hnd]
  simp only [hsh] at h35
  simp only [hrr] at h37
  obtain ⟨a1, a2⟩ := shF_ok (sharesR_in (n := n) (ps := ps)).1
  have hov := over_no hn hps
  have h40 := fun st => c40 true n2 n ps (sharesR n ps) (by omega) st
  have e2 : (sharedV n ps (sharesR n ps)).2 = 0 := by
    rw [shared_eq hck (fun x hx => by have := a2 x hx; omega)]
    unfold sharedE
    rw [if_pos a1, if_neg, if_neg]
    · rw [hov]; simp
    · intro h; have := a2 _ h; omega
  simp only [e2] at h40
  have h45 := fun st => c45 n2 (sharesR n ps) (by omega) ps.length st
  rw [totalV_ok a1 a2] at h45
  have hs0 : 0 ≤ sumL (sharesR n ps) := sum_nn _ fun x hx => (a2 x hx).1
  have hcnt := cnt_ok hn1 hn hps h7 hnd
  obtain ⟨hR1, hR2, hR3⟩ := rings_say hn1 hn hps h7 hnd
  have honl : (onesR n ps).length ≤ 10 := onesR_len hlen
  have hps7 : ∀ p ∈ ps, 0 ≤ p.1 ∧ p.1 < p.2 ∧ p.2 < 7 := fun p hp => by have := hps p hp; omega
  have hQ : Inert (zs.map B8) := inert_map (fun a => Value.int .u8 a) zs
  have hB : Inert (bkCells true n ps) := inert_bk _ _ _
  have hor : onesL (ps.zip (sharesR n ps)) = onesR n ps := rfl
  clear hsh hrr e2 hov
  generalize ringsP n (advL (onesR n ps)) = R at *
  have hflen : (R.flatMap rgPrs).length = (onesR n ps).length := hR3.length_eq
  have hRl := flat_count R fun b hb => (hR1 b hb).1
  generalize hsg : onesR n ps = sg at *
  generalize sharesR n ps = sh at *
  have q1 : (sumL sh < 0) = False := eq_false (by omega)
  have hF := inert_arr (cntF 1 (ps.zip sh))
  have hG := inert_arr (cntF 2 (ps.zip sh))
  have hz1 : arrC (cntF 1 []) = [I 0, I 0, I 0, I 0, I 0, I 0, I 0] := rfl
  have hz2 : arrC (cntF 2 []) = [I 0, I 0, I 0, I 0, I 0, I 0, I 0] := rfl
  simp only [ir15, go_sem, reduceIte, Nat.reduceEqDiff, Nat.reduceAdd, Nat.reduceSub, Nat.reduceLeDiff, Nat.reduceLT, reduceCtorEq, Int.reduceLT, Int.reduceLE, Int.reduceEq, Int.reduceBEq, Int.reduceSub, Int.reduceAdd, Int.reduceMul, Int.reduceNeg, Int.reduceToNat, Nat.reduceMul, Nat.reduceBEq, okRefsB, pubsB, storableB, htk, hzl, h44, h35, h37, h40, h45, q1, List.length_map]
  generalize hg : lim (headed pure (run L) true _ lp15_1 _ _) _ _ = o
  obtain ⟨x, en, s, rfl, h2⟩ : ∃ x en s, o = some (x, en, s) ∧ _ := by rw [← hg]; exact loop15_1 (zs.map B8) (bkCells true n ps) hQ hB n2 sh R ps hps7 hlen a1 0 [] ⟨Nat.zero_le _, rfl⟩ _ _ (by simp only [go_sem, reduceIte, Nat.reduceEqDiff, Nat.reduceAdd, Nat.reduceSub, Nat.reduceLeDiff, Nat.reduceLT, reduceCtorEq, Int.reduceLT, Int.reduceLE, Int.reduceEq, Int.reduceBEq, Int.reduceSub, Int.reduceAdd, Int.reduceMul, Int.reduceNeg, Int.reduceToNat, Nat.reduceMul, Nat.reduceBEq, hQ.1, hQ.2.1, hQ.2.2.1, hQ.2.2.2.1, hB.1, hB.2.1, hB.2.2.1, hB.2.2.2.1, compact, compactW, refsEnv, refsV, refsL, refsStore, refsAt, mapEnv, mapL, mapLs, newName, posOf, mapStore, pickStore, namesOk, refsV_sl, mapL_sl, List.contains_nil, List.contains_cons, Option.getD_some, hasKey, hz1, hz2, List.take_zero, show wpA 4 [] = .v (.slice none 0 0) from rfl, show wpS [] = [] from rfl, List.append_nil, Int.natCast_zero] <;> rfl)
  clear hg
  obtain ⟨rfl, e6, e8, e9, e10, ek, rfl⟩ := h2
  rw [hor] at e10
  rw [hor]
  have hw15 := loop15_2 (zs.map B8) (bkCells true n ps) hQ hB (cntF 1 (ps.zip sh)) (cntF 2 (ps.zip sh)) hcnt R sg
  generalize arrC (cntF 1 (ps.zip sh)) = F at *
  generalize arrC (cntF 2 (ps.zip sh)) = G at *
  by_cases hX : sg = []
  · have hR0 : R = [] := by
      apply flat_none R fun b hb => (hR1 b hb).1
      apply List.eq_nil_of_length_eq_zero
      rw [hflen, hX]; rfl
    subst hR0
    have eA : wpA 4 sg = .v (.slice none 0 0) := by rw [hX]; rfl
    have eS : wpS sg = [] := by rw [hX]; rfl
    have hw := hw15 4 (by rw [eS]; rfl)
    rw [eA, eS] at hw
    rw [eA] at e10
    rw [eS]
    simp only [go_sem, reduceIte, Nat.reduceEqDiff, Nat.reduceAdd, Nat.reduceSub, Nat.reduceLeDiff, Nat.reduceLT, reduceCtorEq, Int.reduceLT, Int.reduceLE, Int.reduceEq, Int.reduceBEq, Int.reduceSub, Int.reduceAdd, Int.reduceMul, Int.reduceNeg, Int.reduceToNat, Nat.reduceMul, Nat.reduceBEq, e6, e8, e9, e10, ek]
    generalize hg : lim (headed pure (run L) true _ lp15_2 _ _) _ _ = o
    obtain ⟨x, en, s, rfl, h2⟩ : ∃ x en s, o = some (x, en, s) ∧ _ := by rw [← hg]; exact hw 0 (by omega) _ _ (by simp only [go_sem, reduceIte, Nat.reduceEqDiff, Nat.reduceAdd, Nat.reduceSub, Nat.reduceLeDiff, Nat.reduceLT, reduceCtorEq, Int.reduceLT, Int.reduceLE, Int.reduceEq, Int.reduceBEq, Int.reduceSub, Int.reduceAdd, Int.reduceMul, Int.reduceNeg, Int.reduceToNat, Nat.reduceMul, Nat.reduceBEq, e6, e8, e9, e10, ek, hQ.1, hQ.2.1, hQ.2.2.1, hQ.2.2.2.1, hB.1, hB.2.1, hB.2.2.1, hB.2.2.2.1, hF.1, hF.2.1, hF.2.2.1, hF.2.2.2.1, hG.1, hG.2.1, hG.2.2.1, hG.2.2.2.1, compact, compactW, refsEnv, refsV, refsL, refsStore, refsAt, mapEnv, mapL, mapLs, newName, posOf, mapStore, pickStore, namesOk, refsV_sl, mapL_sl, List.contains_nil, List.contains_cons, Option.getD_some, hasKey, Int.natCast_zero] <;> rfl)
    clear hg
    obtain ⟨rfl, f6, f10, fk, rfl⟩ := h2
    simp only [go_sem, reduceIte, Nat.reduceEqDiff, Nat.reduceAdd, Nat.reduceSub, Nat.reduceLeDiff, Nat.reduceLT, reduceCtorEq, Int.reduceLT, Int.reduceLE, Int.reduceEq, Int.reduceBEq, Int.reduceSub, Int.reduceAdd, Int.reduceMul, Int.reduceNeg, Int.reduceToNat, Nat.reduceMul, Nat.reduceBEq, f6, f10, fk, List.map_nil, List.length_nil, Int.natCast_zero]
    generalize hg : lim (headed pure (run L) true _ lp15_4 _ _) _ _ = o
    obtain ⟨x, en, s, rfl, h2⟩ : ∃ x en s, o = some (x, en, s) ∧ _ := by rw [← hg]; exact loop15_4e (zs.map B8) (bkCells true n ps) F G hQ hB hF hG 0 trivial _ _ (by simp only [go_sem, reduceIte, Nat.reduceEqDiff, Nat.reduceAdd, Nat.reduceSub, Nat.reduceLeDiff, Nat.reduceLT, reduceCtorEq, Int.reduceLT, Int.reduceLE, Int.reduceEq, Int.reduceBEq, Int.reduceSub, Int.reduceAdd, Int.reduceMul, Int.reduceNeg, Int.reduceToNat, Nat.reduceMul, Nat.reduceBEq, f6, f10, fk, List.map_nil, List.length_nil, Int.natCast_zero, hQ.1, hQ.2.1, hQ.2.2.1, hQ.2.2.2.1, hB.1, hB.2.1, hB.2.2.1, hB.2.2.2.1, hF.1, hF.2.1, hF.2.2.1, hF.2.2.2.1, hG.1, hG.2.1, hG.2.2.1, hG.2.2.2.1, compact, compactW, refsEnv, refsV, refsL, refsStore, refsAt, mapEnv, mapL, mapLs, newName, posOf, mapStore, pickStore, namesOk, refsV_sl, mapL_sl, List.contains_nil, List.contains_cons, Option.getD_some, hasKey] <;> rfl)
    clear hg
    obtain ⟨rfl, g10, g16, rfl⟩ := h2
    have h34 := fun st => c34 true true [] [] (by simp) st
    rw [decide_eq_true rfl] at h34
    have h34' : ∀ st, run L 34 [.v (.slice none 0 0), .v (.slice none 0 0)] st = some (B true, st) := h34
    have h71 := c71n
    simp only [go_sem, reduceIte, Nat.reduceEqDiff, Nat.reduceAdd, Nat.reduceSub, Nat.reduceLeDiff, Nat.reduceLT, reduceCtorEq, Int.reduceLT, Int.reduceLE, Int.reduceEq, Int.reduceBEq, Int.reduceSub, Int.reduceAdd, Int.reduceMul, Int.reduceNeg, Int.reduceToNat, Nat.reduceMul, Nat.reduceBEq, g10, g16, h71, code_frz, frzAV, frzT, frzLs, rslsOf, frzEnv, frzEnv_get, frzStore, frzVs, frzV_v, frzV_ptr, frzV_sl, hQ.2.2.2.2, hB.2.2.2.2, hF.2.2.2.2, hG.2.2.2.2, show pure 71 = false from rfl, h34', c16]
  · have eA := wpA_ne (l := 4) hX
    have eS := wpS_ne hX
    have hpos : 1 ≤ sg.length := List.length_pos_iff.2 hX
    have hC := inert_prC sg
    have hw := hw15 5 (by rw [eS]; rfl)
    rw [eA, eS] at hw
    rw [eA] at e10
    rw [eS]
    have hUne : R.flatMap rgPrs ≠ [] := by
      intro e; rw [e] at hflen; simp at hflen; omega
    have eA5 := wpA_ne (l := 5) hUne
    have eS5 := wpS_ne hUne
    rw [hflen] at eA5
    have hso : sortL ltP (R.flatMap rgPrs) = sortL ltP sg := by
      apply sorted_unique ltP ltP_h3
      · exact ((sortL_perm ltP _).trans hR3).trans (sortL_perm ltP _).symm
      · exact sortL_sorted ltP ltP_h1 ltP_h2 _
      · exact sortL_sorted ltP ltP_h1 ltP_h2 _
    have hsol : (sortL ltP sg).length = sg.length := (sortL_perm ltP _).length_eq
    have hson : sortL ltP sg ≠ [] := by
      intro e; rw [e] at hsol; simp at hsol; omega
    have h71a := c71 [zs.map B8, bkCells true n ps, F, G, prC sg, prC (R.flatMap rgPrs)] [] 5 (R.flatMap rgPrs) rfl (by omega) (by omega)
    have h71b := c71 [zs.map B8, bkCells true n ps, F, G, prC sg, prC (sortL ltP sg)] [] 4 sg rfl (by omega) (by omega)
    rw [hflen, hso] at h71a
    simp only [List.set_cons_succ, List.set_cons_zero] at h71a h71b
    have hl15 := loop15_4 (zs.map B8) (bkCells true n ps) F G (prC sg) hQ hB hF hG hC sg.length R (fun b hb => ⟨(hR1 b hb).1, (hR1 b hb).2.1, (hR1 b hb).2.2.1, (hR1 b hb).2.2.2.1, fun x hx => ((hR1 b hb).2.2.2.2 x hx).1⟩) hR2 (by omega) (by omega)
    have hfv5 := frz_wp 5 _ hson
    have hfv4 := frz_wp 4 _ hson
    rw [hsol] at hfv5 hfv4
    have n54 := frzV_rsl_ne (show 4 ≠ 5 by omega) (prC (sortL ltP sg)) 0 sg.length sg.length 2 true
    have hfz5 := fun E => frzL5r (Q := zs.map B8) (B := bkCells true n ps) (F := F) (G := G) (C := prC (sortL ltP sg)) (prC_ne hson) E
    have hfz4 := fun E => frzL4r (Q := zs.map B8) (B := bkCells true n ps) (F := F) (G := G) (D := []) (prC_ne hson) E
    have hD := inert_prC (sortL ltP sg)
    have h34 := fun st => c34 true true (sortL ltP sg) (sortL ltP sg) (by omega) st
    rw [decide_eq_true rfl] at h34
    simp only [go_sem, reduceIte, Nat.reduceEqDiff, Nat.reduceAdd, Nat.reduceSub, Nat.reduceLeDiff, Nat.reduceLT, reduceCtorEq, Int.reduceLT, Int.reduceLE, Int.reduceEq, Int.reduceBEq, Int.reduceSub, Int.reduceAdd, Int.reduceMul, Int.reduceNeg, Int.reduceToNat, Nat.reduceMul, Nat.reduceBEq, e6, e8, e9, e10, ek]
    generalize hg : lim (headed pure (run L) true _ lp15_2 _ _) _ _ = o
    obtain ⟨x, en, s, rfl, h2⟩ : ∃ x en s, o = some (x, en, s) ∧ _ := by rw [← hg]; exact hw 0 (by omega) _ _ (by simp only [go_sem, reduceIte, Nat.reduceEqDiff, Nat.reduceAdd, Nat.reduceSub, Nat.reduceLeDiff, Nat.reduceLT, reduceCtorEq, Int.reduceLT, Int.reduceLE, Int.reduceEq, Int.reduceBEq, Int.reduceSub, Int.reduceAdd, Int.reduceMul, Int.reduceNeg, Int.reduceToNat, Nat.reduceMul, Nat.reduceBEq, e6, e8, e9, e10, ek, hQ.1, hQ.2.1, hQ.2.2.1, hQ.2.2.2.1, hB.1, hB.2.1, hB.2.2.1, hB.2.2.2.1, hF.1, hF.2.1, hF.2.2.1, hF.2.2.2.1, hG.1, hG.2.1, hG.2.2.1, hG.2.2.2.1, hC.1, hC.2.1, hC.2.2.1, hC.2.2.2.1, compact, compactW, refsEnv, refsV, refsL, refsStore, refsAt, mapEnv, mapL, mapLs, newName, posOf, mapStore, pickStore, namesOk, refsV_sl, mapL_sl, List.contains_nil, List.contains_cons, Option.getD_some, hasKey, Int.natCast_zero] <;> rfl)
    clear hg
    obtain ⟨rfl, f6, f10, fk, rfl⟩ := h2
    simp only [go_sem, reduceIte, Nat.reduceEqDiff, Nat.reduceAdd, Nat.reduceSub, Nat.reduceLeDiff, Nat.reduceLT, reduceCtorEq, Int.reduceLT, Int.reduceLE, Int.reduceEq, Int.reduceBEq, Int.reduceSub, Int.reduceAdd, Int.reduceMul, Int.reduceNeg, Int.reduceToNat, Nat.reduceMul, Nat.reduceBEq, f6, f10, fk, List.length_map]
    generalize hg : lim (headed pure (run L) true _ lp15_4 _ _) _ _ = o
    obtain ⟨x, en, s, rfl, h2⟩ : ∃ x en s, o = some (x, en, s) ∧ _ := by rw [← hg]; exact hl15 0 [] ⟨Nat.zero_le _, rfl⟩ _ _ (by simp only [go_sem, reduceIte, Nat.reduceEqDiff, Nat.reduceAdd, Nat.reduceSub, Nat.reduceLeDiff, Nat.reduceLT, reduceCtorEq, Int.reduceLT, Int.reduceLE, Int.reduceEq, Int.reduceBEq, Int.reduceSub, Int.reduceAdd, Int.reduceMul, Int.reduceNeg, Int.reduceToNat, Nat.reduceMul, Nat.reduceBEq, f6, f10, fk, show wpA 5 [] = .v (.slice none 0 0) from rfl, show wpS [] = [] from rfl, List.append_nil, Int.natCast_zero, hQ.1, hQ.2.1, hQ.2.2.1, hQ.2.2.2.1, hB.1, hB.2.1, hB.2.2.1, hB.2.2.2.1, hF.1, hF.2.1, hF.2.2.1, hF.2.2.2.1, hG.1, hG.2.1, hG.2.2.1, hG.2.2.2.1, hC.1, hC.2.1, hC.2.2.1, hC.2.2.2.1, compact, compactW, refsEnv, refsV, refsL, refsStore, refsAt, mapEnv, mapL, mapLs, newName, posOf, mapStore, pickStore, namesOk, refsV_sl, mapL_sl, List.contains_nil, List.contains_cons, Option.getD_some, hasKey] <;> rfl)
    clear hg
    obtain ⟨rfl, g10, g16, rfl⟩ := h2
    rw [eA5] at g16
    rw [eS5]
    generalize sortL ltP sg = Z at *
    generalize prC (R.flatMap rgPrs) = C5 at *
    generalize prC sg = C4 at *
    generalize prC Z = CZ at *
    simp only [go_sem, reduceIte, Nat.reduceEqDiff, Nat.reduceAdd, Nat.reduceSub, Nat.reduceLeDiff, Nat.reduceLT, reduceCtorEq, Int.reduceLT, Int.reduceLE, Int.reduceEq, Int.reduceBEq, Int.reduceSub, Int.reduceAdd, Int.reduceMul, Int.reduceNeg, Int.reduceToNat, Nat.reduceMul, Nat.reduceBEq, g10, g16, h71a, h71b, hfz5, hfz4, hfv5, hfv4, n54, hD.2.2.2.2, code_frz, frzAV, frzT, frzLs, rslsOf, frzEnv, frzEnv_get, frzStore, frzVs, frzV_v, frzV_ptr, frzV_sl, hQ.2.2.2.2, hB.2.2.2.2, hF.2.2.2.2, hG.2.2.2.2, show pure 71 = false from rfl, h34, c16]
end Go.Proofs.YtpmbfgogpcjdlaaDoor.Vm
