/- What is proved: what each function of this program computes, as equations on the evaluator. No condition. -/
import Derived.Test.YtpmbfgogpcjdlaaDoorC1
import Derived.Test.YtpmbfgogpcjdlaaDoorFkf
set_option linter.all false
namespace Go.Proofs.YtpmbfgogpcjdlaaDoor.Vm
open Go Go.Ev
set_option maxRecDepth 100000
attribute [local go_sem] cells_any storable_any ren1_any shaped_ptr cells_ptr storable_ptr ren1_ptr shaped_eptr cells_eptr storable_eptr ren1_eptr shaped_rsl cells_rsl storable_rsl ren1_rsl shaped_int cells_int storable_int ren1_int shaped_bool cells_bool storable_bool ren1_bool shaped_nils cells_nils storable_nils ren1_nils shaped_lst cells_lst storable_lst shaped_fn cells_fn storable_fn ren1_fn shaped_ifc cells_ifc storable_ifc ren1_ifc shaped_agg cells_agg storable_agg ren1_agg shaped_tup cells_tup storable_tup ren1_tup shaped_nif cells_nif storable_nif ren1_nif ren1_lany ren1_lfull ren1_lown len_lst len_rsl len_nil load_ptr load_eptr isRsl_lst isRsl_nil isRsl_rsl elems_nil elems_lst elems_sl isRsl_sl body_eq bodyK_normal bodyK_ret resK_some leaveK_some only_some code_skip code_exit code_ret code_ops code_seq code_cond code_block seqK_normal seqK_ret seqK_exit condK_true condK_false blockK_normal blockK_ret blockK_exit opsK_some ops_nil ops_cons wantK_true wantK_false stepK_some pubs pub pub_sl params okRef_loc storable_loc shaped_loc cells_loc isRsl_loc elems_loc len_loc untips untip untip_sl wantedAV setElems withO isAgg_v isAgg_agg isAgg_lst isAgg_ptr isAgg_fn isAgg_ifc isAgg_rsl isAgg_sl isAgg_loc List.replicate_succ List.replicate_zero opAV valAV aval avals ofVal Env.get setD canon gcAV renAll renEnv renStore renCells ren1_sl cutSt okEnv okStore okRefs okRef okRef_sl bin_int bin_bool bin_lst bin_rsl bin_nil bin_agg cellsEq cellEq isShift intOp boolOp min_int max_int beq_int bne resAV tupAV leave_eq fin_sl fin_loc fins fin_v fin_lst fin_agg fin_tup fin_fn storeAV readCells putCells cells_sl shaped_sl storable_sl fieldAddrAV len_sl goI List.getElem?_cons_zero List.getElem?_cons_succ List.getElem?_nil Option.bind_some Option.map_some List.length_cons List.length_nil List.all_cons List.all_nil Bool.and_true Bool.true_and Bool.and_false Bool.false_and and_true true_and and_false false_and Bool.false_eq_true List.set_cons_zero List.set_cons_succ List.append_nil List.nil_append List.cons_append List.take_zero List.take_succ_cons List.take_nil List.drop_zero List.drop_succ_cons List.map_cons List.map_nil decide_true decide_false beq_self_eq_true Bool.not_true Bool.not_false or_true true_or or_false false_or Nat.zero_add Nat.add_zero Nat.le_refl Nat.lt_irrefl decide_eq_true_eq eq_self_iff_true not_true_eq_false not_false_eq_true List.getD_cons_zero code_loop Nat.zero_le Nat.not_lt_zero Bool.true_beq Bool.false_beq beq_true beq_false ge_iff_le gt_iff_lt Lpure pus Option.map_none assert_ifc assert_nil idxA_ptr idxA_eptr idxV_agg Int.cast_ofNat_Int Nat.mul_one Nat.zero_mul Int.toNat_natCast Int.toNat_zero setParts withO2 hasKey eqnil_sl nenil_sl eqnil_loc nenil_loc map_nil_iff okRefs_ints renCells_ints

/-! ### other numbers of articles -/
/-- The new place's number goes to a place, and that one's to the end. -/
def nmStep (by_ : Nat → Nat) (l : List Nat) (i : Nat) : List Nat := if by_ i % (i + 1) < i then l.set (by_ i % (i + 1)) i ++ [l.getD (by_ i % (i + 1)) 0] else l ++ [i]
def nmL (by_ : Nat → Nat) (n : Nat) : List Nat := (List.range n).foldl (nmStep by_) []
theorem nmL_succ (by_ : Nat → Nat) (n : Nat) : nmL by_ (n + 1) = nmStep by_ (nmL by_ n) n := by
  unfold nmL; rw [List.range_succ, List.foldl_append]; rfl
theorem nmStep_len (by_ : Nat → Nat) (l : List Nat) (i : Nat) : (nmStep by_ l i).length = l.length + 1 := by
  unfold nmStep; split <;> simp
theorem nmL_len (by_ : Nat → Nat) : ∀ n, (nmL by_ n).length = n
  | 0 => rfl
  | n + 1 => by rw [nmL_succ, nmStep_len, nmL_len by_ n]
theorem set_perm : ∀ (l : List Nat) (k x : Nat), k < l.length → (l.set k x ++ [l.getD k 0]).Perm (l ++ [x])
  | [], k, x, h => by simp at h
  | a :: r, 0, x, _ => by
    simp only [List.set_cons_zero, List.getD_cons_zero, List.cons_append]
    have h1 : (x :: (r ++ [a])).Perm (x :: a :: r) := (List.perm_append_singleton a r).cons x
    have h2 : (a :: (r ++ [x])).Perm (a :: x :: r) := (List.perm_append_singleton x r).cons a
    exact h1.trans ((List.Perm.swap a x r).trans h2.symm)
  | a :: r, k + 1, x, h => by
    simp only [List.set_cons_succ, List.getD_cons_succ, List.cons_append]
    exact (set_perm r k x (by simpa using h)).cons a
theorem nmL_perm (by_ : Nat → Nat) : ∀ n, (nmL by_ n).Perm (List.range n)
  | 0 => List.Perm.refl _
  | n + 1 => by
    rw [nmL_succ, List.range_succ]
    have ih := nmL_perm by_ n
    unfold nmStep
    split
    · next h => exact (set_perm _ _ _ (by rw [nmL_len]; exact h)).trans (ih.append_right [n])
    · exact ih.append_right [n]
/-- The number of article a. -/
abbrev nmF (nm : List Nat) (a : Nat) : Nat := nm.getD a 0
theorem nm_lt {nm : List Nat} {n : Nat} (h : nm.Perm (List.range n)) {a : Nat} (ha : a < n) : nmF nm a < n := by
  have hl : nm.length = n := by rw [h.length_eq]; simp
  unfold nmF
  rw [List.getD_eq_getElem?_getD, List.getElem?_eq_getElem (by omega : a < nm.length)]
  exact List.mem_range.1 (h.mem_iff.1 (List.getElem_mem _))
theorem nm_inj {nm : List Nat} {n : Nat} (h : nm.Perm (List.range n)) {a b : Nat} (ha : a < n) (hb : b < n) (he : nmF nm a = nmF nm b) : a = b := by
  have hl : nm.length = n := by rw [h.length_eq]; simp
  have hnd : nm.Nodup := h.nodup_iff.2 List.nodup_range
  unfold nmF at he
  rw [List.getD_eq_getElem?_getD, List.getElem?_eq_getElem (by omega : a < nm.length), List.getD_eq_getElem?_getD, List.getElem?_eq_getElem (by omega : b < nm.length)] at he
  have hpw := List.pairwise_iff_getElem.1 hnd
  simp only [Option.getD_some] at he
  rcases Nat.lt_trichotomy a b with h1 | h1 | h1
  · exact absurd he (hpw a b (by omega) (by omega) h1)
  · exact h1
  · exact absurd he.symm (hpw b a (by omega) (by omega) h1)
theorem nm_onto {nm : List Nat} {n : Nat} (h : nm.Perm (List.range n)) {b : Nat} (hb : b < n) : ∃ a, a < n ∧ nmF nm a = b := by
  have hl : nm.length = n := by rw [h.length_eq]; simp
  obtain ⟨a, ha, e⟩ := List.getElem_of_mem (h.mem_iff.2 (List.mem_range.2 hb))
  refine ⟨a, by omega, ?_⟩
  unfold nmF
  rw [List.getD_eq_getElem?_getD, List.getElem?_eq_getElem ha]; exact e

/-- The book with the other numbers, pairs the other way round. -/
def nmP (nm : List Nat) (p : Int × Int) : Int × Int := (min (nmF nm p.1.toNat : Int) (nmF nm p.2.toNat : Int), max (nmF nm p.1.toNat : Int) (nmF nm p.2.toNat : Int))
def nmPs (nm : List Nat) (ps : List (Int × Int)) : List (Int × Int) := (ps.map (nmP nm)).reverse
/-- Values, each with its article. -/
def nmV (n : Nat) (nm : List Nat) (v : List Int) : List Int := byF n fun b => v.getD (nm.idxOf b) 0
theorem idx_nm {nm : List Nat} {n : Nat} (h : nm.Perm (List.range n)) {a : Nat} (ha : a < n) : nm.idxOf (nmF nm a) = a := by
  have hl : nm.length = n := by rw [h.length_eq]; simp
  have hm : nmF nm a ∈ nm := by
    unfold nmF
    rw [List.getD_eq_getElem?_getD, List.getElem?_eq_getElem (by omega : a < nm.length)]; exact List.getElem_mem _
  have h1 : nm.idxOf (nmF nm a) < nm.length := List.idxOf_lt_length_of_mem hm
  refine nm_inj h (by omega) ha ?_
  show nm.getD _ 0 = _
  rw [List.getD_eq_getElem?_getD, List.getElem?_eq_getElem h1, List.getElem_idxOf h1]; rfl
theorem nmV_at {nm : List Nat} {n : Nat} (h : nm.Perm (List.range n)) (v : List Int) {a : Nat} (ha : a < n) : (nmV n nm v).getD (nmF nm a) 0 = v.getD a 0 := by
  unfold nmV
  rw [byF_getD _ (nm_lt h ha), idx_nm h ha]
theorem sum_perm : ∀ {a b : List Int}, a.Perm b → sumL a = sumL b := by
  intro a b h
  induction h with
  | nil => rfl
  | cons x _ ih => simp only [sumL, ih]
  | swap x y l => simp only [sumL]; omega
  | trans _ _ h1 h2 => rw [h1, h2]
theorem nm_map {nm : List Nat} {n : Nat} (h : nm.Perm (List.range n)) : (List.range n).map (nmF nm) = nm := by
  have hl : nm.length = n := by rw [h.length_eq]; simp
  subst hl
  apply List.ext_getElem (by simp)
  intro i h1 h2
  rw [List.getElem_map, List.getElem_range]
  unfold nmF
  rw [List.getD_eq_getElem?_getD, List.getElem?_eq_getElem h2]; rfl
theorem nmV_perm {nm : List Nat} {n : Nat} (h : nm.Perm (List.range n)) {v : List Int} (hv : v.length = n) : (nmV n nm v).Perm v := by
  have h1 : (nm.map fun b => v.getD (nm.idxOf b) 0) = v := by
    have e2 : (List.range n).map (fun a => v.getD a 0) = v := (list_range v n hv).symm
    have e3 : (nm.map fun b => v.getD (nm.idxOf b) 0) = ((List.range n).map (nmF nm)).map fun b => v.getD (nm.idxOf b) 0 := by rw [nm_map h]
    rw [e3, List.map_map]
    refine Eq.trans ?_ e2
    apply List.map_congr_left
    intro a ha
    have ha := List.mem_range.1 ha
    show v.getD (nm.idxOf (nmF nm a)) 0 = v.getD a 0
    rw [idx_nm h ha]
  have h2 : (nmV n nm v) = (List.range n).map fun b => v.getD (nm.idxOf b) 0 := rfl
  rw [h2]
  have := h.symm.map fun b => v.getD (nm.idxOf b) 0
  rw [h1] at this
  exact this
theorem ext_getD {v w : List Int} {n : Nat} (hv : v.length = n) (hw : w.length = n) (h : ∀ a, a < n → v.getD a 0 = w.getD a 0) : v = w := by
  rw [list_range v n hv, list_range w n hw]
  apply List.map_congr_left
  intro a ha
  exact h a (List.mem_range.1 ha)
theorem byF_perm {nm : List Nat} {n : Nat} (h : nm.Perm (List.range n)) {w : List Int} (hw : w.length = n) : nmV n nm (byF n fun a => w.getD (nmF nm a) 0) = w := by
  refine ext_getD (byF_len _ _) hw fun b hb => ?_
  obtain ⟨a, ha, rfl⟩ := nm_onto h hb
  rw [nmV_at h _ ha, byF_getD _ ha]
theorem allL_iff {t n : Nat} (ht : t = 1 ∨ t = 2) {v : List Int} : v ∈ allL t n ↔ v.length = n ∧ ∀ x ∈ v, (t = 1 → 0 ≤ x ∧ x ≤ 2) ∧ (t = 2 → x = 0 ∨ x = 2) := by
  constructor
  · intro h
    refine ⟨(allL_in n v h).1, fun x hx => ⟨fun _ => (allL_in n v h).2 x hx, ?_⟩⟩
    rintro rfl
    exact allL2_val n v h x hx
  · rintro ⟨rfl, h⟩
    rcases ht with rfl | rfl
    · exact allL1_mem v fun x hx => (h x hx).1 rfl
    · exact allL2_mem v fun x hx => (h x hx).2 rfl
theorem nmV_all {t n : Nat} (ht : t = 1 ∨ t = 2) {nm : List Nat} (h : nm.Perm (List.range n)) {v : List Int} (hv : v ∈ allL t n) : nmV n nm v ∈ allL t n := by
  rw [allL_iff ht] at hv ⊢
  exact ⟨byF_len _ _, fun x hx => hv.2 x ((nmV_perm h hv.1).mem_iff.1 hx)⟩
theorem byF_all {t n : Nat} (ht : t = 1 ∨ t = 2) {nm : List Nat} (h : nm.Perm (List.range n)) {w : List Int} (hw : w ∈ allL t n) : (byF n fun a => w.getD (nmF nm a) 0) ∈ allL t n := by
  rw [allL_iff ht] at hw ⊢
  refine ⟨byF_len _ _, fun x hx => ?_⟩
  obtain ⟨a, ha, rfl⟩ := List.mem_map.1 hx
  have hl := nm_lt h (List.mem_range.1 ha)
  apply hw.2
  show w.getD _ 0 ∈ w
  rw [List.getD_eq_getElem?_getD, List.getElem?_eq_getElem (by omega : nmF nm a < w.length)]
  exact List.getElem_mem _

section
variable {n : Nat} {ps : List (Int × Int)} (hps : ∀ p ∈ ps, 0 ≤ p.1 ∧ p.1 < p.2 ∧ p.2 < (n : Int)) {nm : List Nat} (hm : nm.Perm (List.range n))
include hps hm
theorem nmP_ok {p : Int × Int} (hp : p ∈ ps) : 0 ≤ (nmP nm p).1 ∧ (nmP nm p).1 < (nmP nm p).2 ∧ (nmP nm p).2 < (n : Int) := by
  have h := hps p hp
  have h1 := nm_lt hm (show p.1.toNat < n by omega)
  have h2 := nm_lt hm (show p.2.toNat < n by omega)
  have h3 : nmF nm p.1.toNat ≠ nmF nm p.2.toNat := fun e => by
    have := nm_inj hm (show p.1.toNat < n by omega) (show p.2.toNat < n by omega) e
    omega
  unfold nmP
  simp only
  omega
theorem nmPs_ok : ∀ p ∈ nmPs nm ps, 0 ≤ p.1 ∧ p.1 < p.2 ∧ p.2 < (n : Int) := by
  intro p hp
  unfold nmPs at hp
  rw [List.mem_reverse] at hp
  obtain ⟨q, hq, rfl⟩ := List.mem_map.1 hp
  exact nmP_ok hps hm hq
theorem nmPs_nodup (hnd : ps.Nodup) : (nmPs nm ps).Nodup := by
  unfold nmPs
  rw [(List.reverse_perm _).nodup_iff]
  apply nodup_map_inj hnd
  intro p hp q hq he
  have h1 := hps p hp
  have h2 := hps q hq
  unfold nmP at he
  rw [Prod.mk.injEq] at he
  obtain ⟨e1, e2⟩ := he
  have i1 := fun e => nm_inj hm (show p.1.toNat < n by omega) (show q.1.toNat < n by omega) e
  have i2 := fun e => nm_inj hm (show p.2.toNat < n by omega) (show q.2.toNat < n by omega) e
  have i3 := fun e => nm_inj hm (show p.1.toNat < n by omega) (show q.2.toNat < n by omega) e
  have i4 := fun e => nm_inj hm (show p.2.toNat < n by omega) (show q.1.toNat < n by omega) e
  have c : (nmF nm p.1.toNat = nmF nm q.1.toNat ∧ nmF nm p.2.toNat = nmF nm q.2.toNat) ∨ (nmF nm p.1.toNat = nmF nm q.2.toNat ∧ nmF nm p.2.toNat = nmF nm q.1.toNat) := by omega
  rcases c with ⟨c1, c2⟩ | ⟨c1, c2⟩
  · have := i1 c1
    have := i2 c2
    exact Prod.ext (by omega) (by omega)
  · have := i3 c1
    have := i4 c2
    omega
theorem nmPs_nb {a b : Nat} (ha : a < n) (hb : b < n) : nb (nmPs nm ps) (nmF nm a) (nmF nm b) ↔ nb ps a b := by
  have key : ∀ a b : Nat, a < n → b < n → ((((nmF nm a : Nat) : Int), ((nmF nm b : Nat) : Int)) ∈ nmPs nm ps → nb ps a b) := by
    intro a b ha hb h
    unfold nmPs at h
    rw [List.mem_reverse] at h
    obtain ⟨q, hq, e⟩ := List.mem_map.1 h
    have h2 := hps q hq
    unfold nmP at e
    rw [Prod.mk.injEq] at e
    obtain ⟨e1, e2⟩ := e
    have c : (nmF nm q.1.toNat = nmF nm a ∧ nmF nm q.2.toNat = nmF nm b) ∨ (nmF nm q.1.toNat = nmF nm b ∧ nmF nm q.2.toNat = nmF nm a) := by omega
    rcases c with ⟨c1, c2⟩ | ⟨c1, c2⟩
    · have d1 := nm_inj hm (show q.1.toNat < n by omega) ha c1
      have d2 := nm_inj hm (show q.2.toNat < n by omega) hb c2
      left
      have : q = ((a : Int), (b : Int)) := Prod.ext (by simp only; omega) (by simp only; omega)
      rw [← this]; exact hq
    · have d1 := nm_inj hm (show q.1.toNat < n by omega) hb c1
      have d2 := nm_inj hm (show q.2.toNat < n by omega) ha c2
      right
      have : q = ((b : Int), (a : Int)) := Prod.ext (by simp only; omega) (by simp only; omega)
      rw [← this]; exact hq
  have back : ∀ a b : Nat, ((a : Int), (b : Int)) ∈ ps → nb (nmPs nm ps) (nmF nm a) (nmF nm b) := by
    intro a b h
    have h2 := nmP_ok hps hm h
    have h3 : nmP nm ((a : Int), (b : Int)) ∈ nmPs nm ps := by
      unfold nmPs; rw [List.mem_reverse]; exact List.mem_map.2 ⟨_, h, rfl⟩
    unfold nmP at h2 h3
    simp only [Int.toNat_natCast] at h2 h3
    rcases Int.le_total ((nmF nm a : Nat) : Int) ((nmF nm b : Nat) : Int) with g | g
    · rw [Int.min_eq_left g, Int.max_eq_right g] at h3; exact .inl h3
    · rw [Int.min_eq_right g, Int.max_eq_left g] at h3; exact .inr h3
  constructor
  · rintro (h | h)
    · exact key a b ha hb h
    · exact nb_symm (key b a hb ha h)
  · rintro (h | h)
    · exact back a b h
    · exact nb_symm (back b a h)
theorem nm_half {v : List Int} : halfOk (nmPs nm ps) (nmV n nm v) = true ↔ halfOk ps v = true := by
  rw [half_nb (nmPs_ok hps hm), half_nb hps]
  constructor
  · intro h a b hab
    obtain ⟨h1, h2, _⟩ := nb_lt hps hab
    have := h _ _ ((nmPs_nb hps hm h1 h2).2 hab)
    rw [nmV_at hm v h1, nmV_at hm v h2] at this
    exact this
  · intro h a b hab
    obtain ⟨h1, h2, _⟩ := nb_lt (nmPs_ok hps hm) hab
    obtain ⟨a, ha, rfl⟩ := nm_onto hm h1
    obtain ⟨b, hb, rfl⟩ := nm_onto hm h2
    rw [nmV_at hm v ha, nmV_at hm v hb]
    exact h a b ((nmPs_nb hps hm ha hb).1 hab)
theorem lex_nodup {X : List (List Int)} (h : X.Pairwise fun a b => lexLt a b = true) : X.Nodup := by
  apply List.Pairwise.imp _ h
  intro a b hab e
  subst e
  rw [lex_irrefl] at hab; simp at hab
theorem nm_pool {t : Nat} (ht : t = 1 ∨ t = 2) : (((allL t n).filter (halfOk ps)).map (nmV n nm)).Perm ((allL t n).filter (halfOk (nmPs nm ps))) := by
  have hnd : (allL t n).Nodup := lex_nodup hps hm (lex_sorted t ht n)
  rw [List.perm_ext_iff_of_nodup (nodup_map_inj (hnd.filter _) ?_) (hnd.filter _)]
  · intro w
    simp only [List.mem_map, List.mem_filter]
    constructor
    · rintro ⟨v, ⟨h1, h2⟩, rfl⟩
      exact ⟨nmV_all ht hm h1, (nm_half hps hm).2 h2⟩
    · rintro ⟨h1, h2⟩
      have hw := ((allL_iff ht).1 h1).1
      refine ⟨_, ⟨byF_all ht hm h1, ?_⟩, byF_perm hm hw⟩
      rw [← nm_half hps hm, byF_perm hm hw]; exact h2
  · intro v hv w hw e
    have hv := ((allL_iff ht).1 (List.mem_filter.1 hv).1).1
    have hw := ((allL_iff ht).1 (List.mem_filter.1 hw).1).1
    refine ext_getD hv hw fun a ha => ?_
    rw [← nmV_at hm v ha, ← nmV_at hm w ha, e]
theorem nm_cheap {t : Nat} (ht : t = 1 ∨ t = 2) : ((cheap n t ps).map (nmV n nm)).Perm (cheap n t (nmPs nm ps)) := by
  rw [cheap_eq, cheap_eq]
  rw [least_map (g := sumL) (nmV n nm) _ ?_]
  · exact least_perm sumL (nm_pool hps hm ht)
  · intro a ha b hb
    have ha := ((allL_iff ht).1 (List.mem_filter.1 ha).1).1
    have hb := ((allL_iff ht).1 (List.mem_filter.1 hb).1).1
    rw [sum_perm (nmV_perm hm ha), sum_perm (nmV_perm hm hb)]
theorem nm_count : (cheap n 2 (nmPs nm ps)).length = (cheap n 2 ps).length := by
  have := (nm_cheap hps hm (.inr rfl)).length_eq
  rw [List.length_map] at this; exact this.symm
theorem cheap_same {t : Nat} {qs : List (Int × Int)} {a b : List Int} (ha : a ∈ cheap n t qs) (hb : b ∈ cheap n t qs) : sumL a = sumL b := by
  have h1 := (cheap_mem.1 ha).2 b (cheap_mem.1 hb).1.1 (cheap_mem.1 hb).1.2
  have h2 := (cheap_mem.1 hb).2 a (cheap_mem.1 ha).1.1 (cheap_mem.1 ha).1.2
  omega
theorem nm_in {t : Nat} (ht : t = 1 ∨ t = 2) {y : List Int} (hy : y ∈ cheap n t ps) : nmV n nm y ∈ cheap n t (nmPs nm ps) := (nm_cheap hps hm ht).mem_iff.1 (List.mem_map.2 ⟨y, hy, rfl⟩)
theorem nm_first : (bestL ((cheap n 2 (nmPs nm ps)).map twos)).length = (bestL ((cheap n 2 ps).map twos)).length := by
  obtain ⟨y, hy, e⟩ := first_cheap hps
  obtain ⟨z, hz, e2⟩ := first_cheap (nmPs_ok hps hm)
  have h1 := cheap_two_sum hy
  have h2 := cheap_two_sum hz
  have h3 := cheap_same hps hm hz (nm_in hps hm (.inr rfl) hy)
  have h4 := sum_perm (nmV_perm hm ((allL_iff (.inr rfl)).1 (cheap_mem.1 hy).1.1).1)
  rw [e, e2]
  omega
theorem nm_halves (hn1 : 1 ≤ n) (hn : n ≤ 7) (h7 : ∀ p ∈ ps, okP p) (h7' : ∀ p ∈ nmPs nm ps, okP p) : sumL (halvesV n (nmPs nm ps)) = sumL (halvesV n ps) := by
  have h1 := (halves_spec hn1 hn hps h7).1
  have h2 := (halves_spec hn1 hn (nmPs_ok hps hm) h7').1
  have h3 := cheap_same hps hm h2 (nm_in hps hm (.inl rfl) h1)
  have h4 := sum_perm (nmV_perm hm ((allL_iff (.inl rfl)).1 (cheap_mem.1 h1).1.1).1)
  omega
end
theorem nmPs_7 {n : Nat} (hn : n ≤ 7) {qs : List (Int × Int)} (h : ∀ p ∈ qs, 0 ≤ p.1 ∧ p.1 < p.2 ∧ p.2 < (n : Int)) : ∀ p ∈ qs, okP p := by
  intro p hp
  have := h p hp
  unfold okP; omega
/-- The numbers in ascending order. -/
def ltI (a b : Int) : Bool := decide (a < b)
theorem nm_sorted {n : Nat} {nm : List Nat} (hm : nm.Perm (List.range n)) {y : List Int} (hy : y.length = n) : sortL ltI ((twos y).map fun a => ((nmF nm a.toNat : Nat) : Int)) = twos (nmV n nm y) := by
  apply sorted_unique ltI (fun a b h1 h2 => by unfold ltI at h1 h2; have := of_decide_eq_false h1; have := of_decide_eq_false h2; omega)
  · refine (sortL_perm ltI _).trans ?_
    have hnm : (nmV n nm y).length = n := byF_len _ _
    have e1 : twos y = ((List.range n).filter fun a => decide (y.getD a 0 = 2)).map fun (a : Nat) => (a : Int) := withL_eq hy
    have e2 : twos (nmV n nm y) = ((List.range n).filter fun a => decide ((nmV n nm y).getD a 0 = 2)).map fun (a : Nat) => (a : Int) := withL_eq hnm
    rw [e1, e2, List.map_map]
    have e3 : (((List.range n).filter fun a => decide (y.getD a 0 = 2)).map ((fun a : Int => ((nmF nm a.toNat : Nat) : Int)) ∘ fun (a : Nat) => (a : Int))) = (((List.range n).filter fun a => decide (y.getD a 0 = 2)).map (nmF nm)).map fun (a : Nat) => (a : Int) := by
      rw [List.map_map]; apply List.map_congr_left; intro a _; rfl
    rw [e3]
    apply List.Perm.map
    have e4 : ((List.range n).filter fun a => decide (y.getD a 0 = 2)) = (List.range n).filter ((fun b => decide ((nmV n nm y).getD b 0 = 2)) ∘ nmF nm) := by
      apply List.filter_congr
      intro a ha
      show _ = decide ((nmV n nm y).getD (nmF nm a) 0 = 2)
      rw [nmV_at hm y (List.mem_range.1 ha)]
    rw [e4, ← List.filter_map, nm_map hm]
    exact hm.filter _
  · exact sortL_sorted ltI (fun a b h => by unfold ltI at *; have := of_decide_eq_true h; exact decide_eq_false (by omega)) (fun a b c h1 h2 => by unfold ltI at *; have := of_decide_eq_false h1; have := of_decide_eq_false h2; exact decide_eq_false (by omega)) _
  · have hnm : (nmV n nm y).length = n := byF_len _ _
    have e2 : twos (nmV n nm y) = ((List.range n).filter fun a => decide ((nmV n nm y).getD a 0 = 2)).map fun (a : Nat) => (a : Int) := withL_eq hnm
    rw [e2, List.pairwise_map]
    refine List.Pairwise.imp ?_ (List.Pairwise.filter _ (List.pairwise_lt_range (n := n)))
    intro a b h
    unfold ltI; exact decide_eq_false (by omega)
theorem nm_valid {n : Nat} (hn : n ≤ 7) {qs : List (Int × Int)} (h7 : ∀ p ∈ qs, okP p) (hc : chk n qs = 0) {w : List Int} (hw : w ∈ allL 2 n) (h : halfOk qs w = true) : validV n qs (twos w) = 0 := by
  have h1 : twos w ∈ (List.range (2 ^ n)).map memb := (perm_of n hn).mem_iff.2 (List.mem_map.2 ⟨w, hw, rfl⟩)
  obtain ⟨m, hm, e⟩ := List.mem_map.1 h1
  rw [← e, valid_memb hn hc (List.mem_range.1 hm), expl_meets h7, e, ← half_meets h7 (allL2_val n w hw), h]; rfl


/-! ### sorting numbers -/
theorem getX (X : List Int) (i : Nat) (x : Int) (h : X[i]? = some x) : (X.map I)[i]? = some (I x) := by
  rw [List.getElem?_map, h]; rfl
theorem at_oneX (A : List Int) (x : Int) (B : List Int) : (A ++ x :: B)[A.length]? = some x := by simp

theorem loop117_0 (S0 : List (List AV)) (T : List Nat) (l : Nat) (hl : l < S0.length) (n : Nat) (hn : n ≤ 1000) (x : Int) (i : Nat) (lo hi : Nat) (j : Nat) (A : List Int) (B : List Int) (hok : A.length = j ∧ j + 1 + B.length = n) (env : Env) (st : St)
    (hg : gcAV false lo hi (canon env [0, 1, 2, 6, 7]) st = ([(0, .rsl l 0 n n 1 false), (1, I 0), (2, I n), (6, I i), (7, I j)], ⟨S0.set l ((A ++ x :: B).map I), T⟩)) :
    ∃ x_1 en s, lim (headed pure (run L) false [0, 1, 2, 6, 7] lp117_0 lo hi) env st = some (x_1, en, s) ∧ (x_1 = .exit 2 ∧ en.get 0 = .rsl l 0 n n 1 false ∧ en.get 1 = I 0 ∧ en.get 2 = I n ∧ en.get 6 = I i ∧ s = ⟨S0.set l ((insL ltI A x ++ B).map I), T⟩) := by
  refine loop_wp (α := Nat × List Int × List Int) (fun ⟨j, A, B⟩ => j) (fun ⟨j, A, B⟩ => A.length = j ∧ j + 1 + B.length = n) (fun ⟨j, A, B⟩ => ([(0, .rsl l 0 n n 1 false), (1, I 0), (2, I n), (6, I i), (7, I j)], ⟨S0.set l ((A ++ x :: B).map I), T⟩)) (fun ⟨j, A, B⟩ x_1 en s => x_1 = .exit 2 ∧ en.get 0 = .rsl l 0 n n 1 false ∧ en.get 1 = I 0 ∧ en.get 2 = I n ∧ en.get 6 = I i ∧ s = ⟨S0.set l ((insL ltI A x ++ B).map I), T⟩) (fun ⟨j, A, B⟩ hok => ?_) ⟨j, A, B⟩ hok env st hg
  simp only at hok
  obtain ⟨h1, h2⟩ := hok
  dsimp only at h1 h2 ⊢
  have hget : ∀ C : List AV, (S0.set l C)[l]? = some C := fun C => List.getElem?_set_self hl
  rcases List.eq_nil_or_concat A with rfl | ⟨A', a, rfl⟩
  · have hj : j = 0 := by simpa using h1.symm
    subst hj
    rw [insL_nil]
    simp only [go_sem, reduceIte, Nat.reduceEqDiff, Nat.reduceAdd, Nat.reduceSub, Nat.reduceLeDiff, Nat.reduceLT, reduceCtorEq, Int.reduceLT, Int.reduceLE, Int.reduceEq, Int.reduceBEq, Int.reduceSub, Int.reduceAdd, Int.reduceMul, Int.reduceNeg, Int.reduceToNat, Nat.reduceMul, Nat.reduceBEq, index_rsl_if, setm, make_ints, condK_dec, wantK_dec, not_dec, and_dec, or_dec, seqK_ite, seqK_none, blockK_ite, blockK_none, opsK_ite, opsK_none, stepK_ite, stepK_none, bodyK_ite, bodyK_none, resK_ite, resK_none, leaveK_ite, leaveK_none, only_ite, only_none, bind_ite, gives_some, gives_none, gives_ite, then_normal, then_ret, then_exit, then_none, then_ite, Option.bind_none, Bool.not_eq_true', decide_eq_false_iff_not, Bool.and_eq_true, Bool.or_eq_true, Option.some.injEq, Int.not_lt, Int.not_le, lp117_0, Int.natCast_zero]
  · rw [List.concat_eq_append] at h1 ⊢
    obtain ⟨m, rfl⟩ : ∃ m, j = m + 1 := ⟨A'.length, by rw [← h1]; simp⟩
    have hm : A'.length = m := by simpa using h1
    have hg1 := getX ((A' ++ [a]) ++ x :: B) (m + 1) x (by
      have := at_oneX (A' ++ [a]) x B
      rwa [h1] at this)
    have hg2 := getX ((A' ++ [a]) ++ x :: B) m a (by
      have := at_oneX A' a (x :: B)
      rw [hm] at this
      simpa using this)
    have hset : (((A' ++ [a]) ++ x :: B).set (m + 1) a).set m x = A' ++ x :: a :: B := by
      subst hm
      simp
    have hlen : ((A' ++ [a]) ++ x :: B).length = n := by simp; omega
    have hpos : ((0 : Int) < ((m + 1 : Nat) : Int)) = True := eq_true (by omega)
    have hw : IntKind.i64.wrap (((m + 1 : Nat) : Int) - 1) = ((m : Nat) : Int) := by rw [wrap64] <;> omega
    have b0 : ((0 : Int) ≤ ((m + 1 : Nat) : Int)) = True := eq_true (by omega)
    have b1 : (((m + 1 : Nat) : Int) < (n : Int)) = True := eq_true (by omega)
    have b2 : ((0 : Int) ≤ ((m : Nat) : Int)) = True := eq_true (by omega)
    have b3 : (((m : Nat) : Int) < (n : Int)) = True := eq_true (by omega)
    have b4 : (m + 1 < n) = True := eq_true (by omega)
    have b5 : (m < n) = True := eq_true (by omega)
    have b6 : (m + 1 + 1 ≤ n) = True := eq_true (by omega)
    have b7 : (m + 1 ≤ n) = True := eq_true (by omega)
    have h110 := fun st => c110 x a st
    rw [insL_snoc]
    generalize hX : (A' ++ [a]) ++ x :: B = X at *
    by_cases p : ltI x a = true
    · have hk0 : (x < a) = True := eq_true (of_decide_eq_true p)
      rw [if_pos p]
      simp only [go_sem, reduceIte, Nat.reduceEqDiff, Nat.reduceAdd, Nat.reduceSub, Nat.reduceLeDiff, Nat.reduceLT, reduceCtorEq, Int.reduceLT, Int.reduceLE, Int.reduceEq, Int.reduceBEq, Int.reduceSub, Int.reduceAdd, Int.reduceMul, Int.reduceNeg, Int.reduceToNat, Nat.reduceMul, Nat.reduceBEq, index_rsl_if, setm, make_ints, condK_dec, wantK_dec, not_dec, and_dec, or_dec, seqK_ite, seqK_none, blockK_ite, blockK_none, opsK_ite, opsK_none, stepK_ite, stepK_none, bodyK_ite, bodyK_none, resK_ite, resK_none, leaveK_ite, leaveK_none, only_ite, only_none, bind_ite, gives_some, gives_none, gives_ite, then_normal, then_ret, then_exit, then_none, then_ite, Option.bind_none, Bool.not_eq_true', decide_eq_false_iff_not, Bool.and_eq_true, Bool.or_eq_true, Option.some.injEq, Int.not_lt, Int.not_le, lp117_0, hpos, hw, b0, b1, b2, b3, b4, b5, b6, b7, hg1, hg2, h110, hk0, hget, hset, hlen, List.set_set, show pure 110 = true from rfl, List.length_map, List.length_set]
      refine ⟨(m, A', a :: B), by simp only [go_sem, reduceIte, Nat.reduceEqDiff, Nat.reduceAdd, Nat.reduceSub, Nat.reduceLeDiff, Nat.reduceLT, reduceCtorEq, Int.reduceLT, Int.reduceLE, Int.reduceEq, Int.reduceBEq, Int.reduceSub, Int.reduceAdd, Int.reduceMul, Int.reduceNeg, Int.reduceToNat, Nat.reduceMul, Nat.reduceBEq, ren1_locm, loc_tips, locT_eq] <;> rfl, ?_, ?_, fun x en s hq => ?_⟩
      · dsimp only; exact ⟨hm, by rw [List.length_cons]; omega⟩
      · dsimp only; omega
      · dsimp only at hq; rw [List.append_assoc, List.singleton_append]; exact hq
    · have hk0 : (x < a) = False := eq_false (fun h => p (decide_eq_true h))
      rw [if_neg p]
      have e : A' ++ [a, x] ++ B = X := by rw [← hX]; simp
      rw [e]
      simp only [go_sem, reduceIte, Nat.reduceEqDiff, Nat.reduceAdd, Nat.reduceSub, Nat.reduceLeDiff, Nat.reduceLT, reduceCtorEq, Int.reduceLT, Int.reduceLE, Int.reduceEq, Int.reduceBEq, Int.reduceSub, Int.reduceAdd, Int.reduceMul, Int.reduceNeg, Int.reduceToNat, Nat.reduceMul, Nat.reduceBEq, index_rsl_if, setm, make_ints, condK_dec, wantK_dec, not_dec, and_dec, or_dec, seqK_ite, seqK_none, blockK_ite, blockK_none, opsK_ite, opsK_none, stepK_ite, stepK_none, bodyK_ite, bodyK_none, resK_ite, resK_none, leaveK_ite, leaveK_none, only_ite, only_none, bind_ite, gives_some, gives_none, gives_ite, then_normal, then_ret, then_exit, then_none, then_ite, Option.bind_none, Bool.not_eq_true', decide_eq_false_iff_not, Bool.and_eq_true, Bool.or_eq_true, Option.some.injEq, Int.not_lt, Int.not_le, lp117_0, hpos, hw, b0, b1, b2, b3, b4, b5, b6, b7, hg1, hg2, h110, hk0, hget, hlen, show pure 110 = true from rfl, List.length_map]

theorem loop117_1 (S0 : List (List AV)) (T : List Nat) (l : Nat) (hl : l < S0.length) (n : Nat) (hn : n ≤ 1000) (lo hi : Nat) (i : Nat) (A : List Int) (B : List Int) (hok : A.length = i ∧ i + B.length = n) (env : Env) (st : St)
    (hg : gcAV false lo hi (canon env [0, 1, 2, 6]) st = ([(0, .rsl l 0 n n 1 false), (1, I 0), (2, I n), (6, I i)], ⟨S0.set l ((A ++ B).map I), T⟩)) :
    ∃ x_1 en s, lim (headed pure (run L) false [0, 1, 2, 6] lp117_1 lo hi) env st = some (x_1, en, s) ∧ (x_1 = .exit 0 ∧ s = ⟨S0.set l ((B.foldl (insL ltI) A).map I), T⟩) := by
  refine loop_wp (α := Nat × List Int × List Int) (fun ⟨i, A, B⟩ => B.length) (fun ⟨i, A, B⟩ => A.length = i ∧ i + B.length = n) (fun ⟨i, A, B⟩ => ([(0, .rsl l 0 n n 1 false), (1, I 0), (2, I n), (6, I i)], ⟨S0.set l ((A ++ B).map I), T⟩)) (fun ⟨i, A, B⟩ x_1 en s => x_1 = .exit 0 ∧ s = ⟨S0.set l ((B.foldl (insL ltI) A).map I), T⟩) (fun ⟨i, A, B⟩ hok => ?_) ⟨i, A, B⟩ hok env st hg
  simp only at hok
  obtain ⟨h1, h2⟩ := hok
  dsimp only at h1 h2 ⊢
  cases B with
  | nil =>
    obtain rfl : i = n := by simpa using h2
    rw [List.append_nil]
    simp only [go_sem, reduceIte, Nat.reduceEqDiff, Nat.reduceAdd, Nat.reduceSub, Nat.reduceLeDiff, Nat.reduceLT, reduceCtorEq, Int.reduceLT, Int.reduceLE, Int.reduceEq, Int.reduceBEq, Int.reduceSub, Int.reduceAdd, Int.reduceMul, Int.reduceNeg, Int.reduceToNat, Nat.reduceMul, Nat.reduceBEq, index_rsl_if, setm, make_ints, condK_dec, wantK_dec, not_dec, and_dec, or_dec, seqK_ite, seqK_none, blockK_ite, blockK_none, opsK_ite, opsK_none, stepK_ite, stepK_none, bodyK_ite, bodyK_none, resK_ite, resK_none, leaveK_ite, leaveK_none, only_ite, only_none, bind_ite, gives_some, gives_none, gives_ite, then_normal, then_ret, then_exit, then_none, then_ite, Option.bind_none, Bool.not_eq_true', decide_eq_false_iff_not, Bool.and_eq_true, Bool.or_eq_true, Option.some.injEq, Int.not_lt, Int.not_le, lp117_1, show ((i : Int) < (i : Int)) = False from eq_false (by omega)]
    rfl
  | cons x B =>
    rw [List.length_cons] at h2
    have hs := succ64 i (by omega)
    have hlt : ((i : Int) < (n : Int)) = True := eq_true (by omega)
    rw [List.foldl_cons]
    simp only [go_sem, reduceIte, Nat.reduceEqDiff, Nat.reduceAdd, Nat.reduceSub, Nat.reduceLeDiff, Nat.reduceLT, reduceCtorEq, Int.reduceLT, Int.reduceLE, Int.reduceEq, Int.reduceBEq, Int.reduceSub, Int.reduceAdd, Int.reduceMul, Int.reduceNeg, Int.reduceToNat, Nat.reduceMul, Nat.reduceBEq, index_rsl_if, setm, make_ints, condK_dec, wantK_dec, not_dec, and_dec, or_dec, seqK_ite, seqK_none, blockK_ite, blockK_none, opsK_ite, opsK_none, stepK_ite, stepK_none, bodyK_ite, bodyK_none, resK_ite, resK_none, leaveK_ite, leaveK_none, only_ite, only_none, bind_ite, gives_some, gives_none, gives_ite, then_normal, then_ret, then_exit, then_none, then_ite, Option.bind_none, Bool.not_eq_true', decide_eq_false_iff_not, Bool.and_eq_true, Bool.or_eq_true, Option.some.injEq, Int.not_lt, Int.not_le, lp117_1, hlt, hs]
    generalize hg : lim (headed pure (run L) false _ lp117_0 _ _) _ _ = o
    obtain ⟨x, en, s, rfl, h2⟩ : ∃ x en s, o = some (x, en, s) ∧ _ := by rw [← hg]; exact loop117_0 S0 T l hl n hn x i _ _ i A B ⟨h1, by omega⟩ _ _ (by simp only [go_sem, reduceIte, Nat.reduceEqDiff, Nat.reduceAdd, Nat.reduceSub, Nat.reduceLeDiff, Nat.reduceLT, reduceCtorEq, Int.reduceLT, Int.reduceLE, Int.reduceEq, Int.reduceBEq, Int.reduceSub, Int.reduceAdd, Int.reduceMul, Int.reduceNeg, Int.reduceToNat, Nat.reduceMul, Nat.reduceBEq] <;> rfl)
    clear hg
    obtain ⟨rfl, e0, e1, e2, e6, rfl⟩ := h2
    have hA := insL_len ltI A x
    simp only [go_sem, reduceIte, Nat.reduceEqDiff, Nat.reduceAdd, Nat.reduceSub, Nat.reduceLeDiff, Nat.reduceLT, reduceCtorEq, Int.reduceLT, Int.reduceLE, Int.reduceEq, Int.reduceBEq, Int.reduceSub, Int.reduceAdd, Int.reduceMul, Int.reduceNeg, Int.reduceToNat, Nat.reduceMul, Nat.reduceBEq, index_rsl_if, setm, make_ints, condK_dec, wantK_dec, not_dec, and_dec, or_dec, seqK_ite, seqK_none, blockK_ite, blockK_none, opsK_ite, opsK_none, stepK_ite, stepK_none, bodyK_ite, bodyK_none, resK_ite, resK_none, leaveK_ite, leaveK_none, only_ite, only_none, bind_ite, gives_some, gives_none, gives_ite, then_normal, then_ret, then_exit, then_none, then_ite, Option.bind_none, Bool.not_eq_true', decide_eq_false_iff_not, Bool.and_eq_true, Bool.or_eq_true, Option.some.injEq, Int.not_lt, Int.not_le, lp117_1, e0, e1, e2, e6, hs]
    refine ⟨(i + 1, insL ltI A x, B), by simp only [go_sem, reduceIte, Nat.reduceEqDiff, Nat.reduceAdd, Nat.reduceSub, Nat.reduceLeDiff, Nat.reduceLT, reduceCtorEq, Int.reduceLT, Int.reduceLE, Int.reduceEq, Int.reduceBEq, Int.reduceSub, Int.reduceAdd, Int.reduceMul, Int.reduceNeg, Int.reduceToNat, Nat.reduceMul, Nat.reduceBEq, ren1_locm, loc_tips, locT_eq, e0, e1, e2, e6] <;> rfl, ?_, ?_, fun x en s hq => ?_⟩
    · dsimp only; exact ⟨by omega, by omega⟩
    · dsimp only; omega
    · exact hq

theorem set_same {α : Type} (S : List α) (l : Nat) (c : α) (h : S[l]? = some c) : S.set l c = S := by
  apply List.ext_getElem?
  intro i
  rw [List.getElem?_set]
  split
  · next e => subst e; rw [h]; split <;> simp_all
  · rfl
theorem c117 (S : List (List AV)) (T : List Nat) (l : Nat) (X : List Int) (h : S[l]? = some (X.map I)) (h1 : 1 ≤ X.length) (hn : X.length ≤ 1000) :
    run L 117 [.rsl l 0 X.length X.length 1 false, I 0, I X.length] ⟨S, T⟩ = some (.tup [], ⟨S.set l ((sortL ltI X).map I), T⟩) := by
  rw [run_shared (fn := ir117) rfl rfl]
  have hl := (List.getElem?_eq_some_iff.1 h).1
  have hS := set_same S l _ h
  cases X with
  | nil => simp at h1
  | cons x B =>
    have hw : IntKind.i64.wrap (0 + 1) = 1 := by decide
    rw [sortL_cons]
    generalize hk : (x :: B).length = k at *
    rw [List.length_cons] at hk
    rw [← hS]
    simp only [ir117, go_sem, reduceIte, Nat.reduceEqDiff, Nat.reduceAdd, Nat.reduceSub, Nat.reduceLeDiff, Nat.reduceLT, reduceCtorEq, Int.reduceLT, Int.reduceLE, Int.reduceEq, Int.reduceBEq, Int.reduceSub, Int.reduceAdd, Int.reduceMul, Int.reduceNeg, Int.reduceToNat, Nat.reduceMul, Nat.reduceBEq, hw, List.set_set]
    generalize hg : lim (headed pure (run L) false _ lp117_1 _ _) _ _ = o
    obtain ⟨x, en, s, rfl, h2⟩ : ∃ x en s, o = some (x, en, s) ∧ _ := by rw [← hg]; exact loop117_1 S T l hl k hn _ _ 1 [x] B ⟨rfl, by omega⟩ _ _ (by simp only [go_sem, reduceIte, Nat.reduceEqDiff, Nat.reduceAdd, Nat.reduceSub, Nat.reduceLeDiff, Nat.reduceLT, reduceCtorEq, Int.reduceLT, Int.reduceLE, Int.reduceEq, Int.reduceBEq, Int.reduceSub, Int.reduceAdd, Int.reduceMul, Int.reduceNeg, Int.reduceToNat, Nat.reduceMul, Nat.reduceBEq, show ((1 : Nat) : Int) = 1 from rfl, show [x] ++ B = x :: B from rfl] <;> rfl)
    clear hg
    obtain ⟨rfl, rfl⟩ := h2
    simp only [go_sem, reduceIte, Nat.reduceEqDiff, Nat.reduceAdd, Nat.reduceSub, Nat.reduceLeDiff, Nat.reduceLT, reduceCtorEq, Int.reduceLT, Int.reduceLE, Int.reduceEq, Int.reduceBEq, Int.reduceSub, Int.reduceAdd, Int.reduceMul, Int.reduceNeg, Int.reduceToNat, Nat.reduceMul, Nat.reduceBEq]
theorem loop100 (S : List (List AV)) (T : List Nat) (l : Nat) (X : List Int) (h : S[l]? = some (X.map I)) (h1 : 1 ≤ X.length) (hn : X.length ≤ 12) (lim0 : Int) (lo hi : Nat) (u : Nat) (hok : True) (env : Env) (st : St)
    (hg : gcAV false lo hi (canon env [0, 1, 2, 3, 8, 9]) st = ([(0, .rsl l 0 X.length X.length 1 false), (1, I 0), (2, I X.length), (3, I lim0), (8, B true), (9, B true)], ⟨S, T⟩)) :
    ∃ x_1 en s, lim (headed pure (run L) false [0, 1, 2, 3, 8, 9] lp100_0 lo hi) env st = some (x_1, en, s) ∧ (x_1 = .ret ∧ s = ⟨S.set l ((sortL ltI X).map I), T⟩) := by
  refine loop_wp (α := Nat) (fun u => u) (fun u => True) (fun u => ([(0, .rsl l 0 X.length X.length 1 false), (1, I 0), (2, I X.length), (3, I lim0), (8, B true), (9, B true)], ⟨S, T⟩)) (fun u x_1 en s => x_1 = .ret ∧ s = ⟨S.set l ((sortL ltI X).map I), T⟩) (fun u hok => ?_) u hok env st hg
  have h117 := c117 S T l X h h1 (by omega)
  have hw : IntKind.i64.wrap ((X.length : Int) - 0) = (X.length : Int) := by rw [wrap64] <;> omega
  have q : ((X.length : Int) ≤ 12) = True := eq_true (by omega)
  simp only [go_sem, reduceIte, Nat.reduceEqDiff, Nat.reduceAdd, Nat.reduceSub, Nat.reduceLeDiff, Nat.reduceLT, reduceCtorEq, Int.reduceLT, Int.reduceLE, Int.reduceEq, Int.reduceBEq, Int.reduceSub, Int.reduceAdd, Int.reduceMul, Int.reduceNeg, Int.reduceToNat, Nat.reduceMul, Nat.reduceBEq, index_rsl_if, setm, make_ints, condK_dec, wantK_dec, not_dec, and_dec, or_dec, seqK_ite, seqK_none, blockK_ite, blockK_none, opsK_ite, opsK_none, stepK_ite, stepK_none, bodyK_ite, bodyK_none, resK_ite, resK_none, leaveK_ite, leaveK_none, only_ite, only_none, bind_ite, gives_some, gives_none, gives_ite, then_normal, then_ret, then_exit, then_none, then_ite, Option.bind_none, Bool.not_eq_true', decide_eq_false_iff_not, Bool.and_eq_true, Bool.or_eq_true, Option.some.injEq, Int.not_lt, Int.not_le, lp100_0, hw, q, h117, show pure 117 = false from rfl]

theorem c100 (S : List (List AV)) (T : List Nat) (l : Nat) (X : List Int) (h : S[l]? = some (X.map I)) (h1 : 1 ≤ X.length) (hn : X.length ≤ 12) (lim0 : Int) :
    run L 100 [.rsl l 0 X.length X.length 1 false, I 0, I X.length, I lim0] ⟨S, T⟩ = some (.tup [], ⟨S.set l ((sortL ltI X).map I), T⟩) := by
  rw [run_shared (fn := ir100) rfl rfl]
  simp only [ir100, go_sem, reduceIte, Nat.reduceEqDiff, Nat.reduceAdd, Nat.reduceSub, Nat.reduceLeDiff, Nat.reduceLT, reduceCtorEq, Int.reduceLT, Int.reduceLE, Int.reduceEq, Int.reduceBEq, Int.reduceSub, Int.reduceAdd, Int.reduceMul, Int.reduceNeg, Int.reduceToNat, Nat.reduceMul, Nat.reduceBEq]
  generalize hg : lim (headed pure (run L) false _ lp100_0 _ _) _ _ = o
  obtain ⟨x, en, s, rfl, h2⟩ : ∃ x en s, o = some (x, en, s) ∧ _ := by rw [← hg]; exact loop100 S T l X h h1 hn lim0 _ _ 0 trivial _ _ (by simp only [go_sem, reduceIte, Nat.reduceEqDiff, Nat.reduceAdd, Nat.reduceSub, Nat.reduceLeDiff, Nat.reduceLT, reduceCtorEq, Int.reduceLT, Int.reduceLE, Int.reduceEq, Int.reduceBEq, Int.reduceSub, Int.reduceAdd, Int.reduceMul, Int.reduceNeg, Int.reduceToNat, Nat.reduceMul, Nat.reduceBEq] <;> rfl)
  clear hg
  obtain ⟨rfl, rfl⟩ := h2
  simp only [go_sem, reduceIte, Nat.reduceEqDiff, Nat.reduceAdd, Nat.reduceSub, Nat.reduceLeDiff, Nat.reduceLT, reduceCtorEq, Int.reduceLT, Int.reduceLE, Int.reduceEq, Int.reduceBEq, Int.reduceSub, Int.reduceAdd, Int.reduceMul, Int.reduceNeg, Int.reduceToNat, Nat.reduceMul, Nat.reduceBEq]
theorem c67 (S : List (List AV)) (T : List Nat) (l : Nat) (X : List Int) (h : S[l]? = some (X.map I)) (h1 : 1 ≤ X.length) (hn : X.length ≤ 12) :
    run L 67 [.rsl l 0 X.length X.length 1 false] ⟨S, T⟩ = some (.tup [], ⟨S.set l ((sortL ltI X).map I), T⟩) := by
  rw [run_shared (fn := ir67) rfl rfl]
  have hw : IntKind.u64.wrap (X.length : Int) = (X.length : Int) := by simp [IntKind.wrap, IntKind.bits, IntKind.signed]; omega
  have h101 := fun st => c101 X.length hn st
  have h100 := c100 S T l X h h1 hn (blN X.length : Nat)
  simp only [ir67, go_sem, reduceIte, Nat.reduceEqDiff, Nat.reduceAdd, Nat.reduceSub, Nat.reduceLeDiff, Nat.reduceLT, reduceCtorEq, Int.reduceLT, Int.reduceLE, Int.reduceEq, Int.reduceBEq, Int.reduceSub, Int.reduceAdd, Int.reduceMul, Int.reduceNeg, Int.reduceToNat, Nat.reduceMul, Nat.reduceBEq, hw, h101, h100, show pure 100 = false from rfl]
/-- Nothing to sort. -/
theorem c117n (st : St) : run L 117 [.v (.slice none 0 0), I 0, I 0] st = some (.tup [], st) := by
  rw [run_shared (fn := ir117) rfl rfl]
  have hw : IntKind.i64.wrap (0 + 1) = 1 := by decide
  simp only [ir117, go_sem, reduceIte, Nat.reduceEqDiff, Nat.reduceAdd, Nat.reduceSub, Nat.reduceLeDiff, Nat.reduceLT, reduceCtorEq, Int.reduceLT, Int.reduceLE, Int.reduceEq, Int.reduceBEq, Int.reduceSub, Int.reduceAdd, Int.reduceMul, Int.reduceNeg, Int.reduceToNat, Nat.reduceMul, Nat.reduceBEq, hw]
  generalize hg : lim (headed pure (run L) false _ lp117_1 _ _) _ _ = o
  obtain ⟨x, en, s, rfl, h2⟩ : ∃ x en s, o = some (x, en, s) ∧ (x = .exit 0 ∧ s = st) := by
    rw [← hg]
    refine loop_wp (α := Nat) (fun _ => 0) (fun _ => True) (fun _ => ([(0, .v (.slice none 0 0)), (1, I 0), (2, I 0), (6, I 1)], st)) (fun _ x_1 en s => x_1 = .exit 0 ∧ s = st) (fun _ hok => ?_) 0 trivial _ _ (by simp only [go_sem, reduceIte, Nat.reduceEqDiff, Nat.reduceAdd, Nat.reduceSub, Nat.reduceLeDiff, Nat.reduceLT, reduceCtorEq, Int.reduceLT, Int.reduceLE, Int.reduceEq, Int.reduceBEq, Int.reduceSub, Int.reduceAdd, Int.reduceMul, Int.reduceNeg, Int.reduceToNat, Nat.reduceMul, Nat.reduceBEq] <;> rfl)
    simp only [go_sem, reduceIte, Nat.reduceEqDiff, Nat.reduceAdd, Nat.reduceSub, Nat.reduceLeDiff, Nat.reduceLT, reduceCtorEq, Int.reduceLT, Int.reduceLE, Int.reduceEq, Int.reduceBEq, Int.reduceSub, Int.reduceAdd, Int.reduceMul, Int.reduceNeg, Int.reduceToNat, Nat.reduceMul, Nat.reduceBEq, index_rsl_if, setm, make_ints, condK_dec, wantK_dec, not_dec, and_dec, or_dec, seqK_ite, seqK_none, blockK_ite, blockK_none, opsK_ite, opsK_none, stepK_ite, stepK_none, bodyK_ite, bodyK_none, resK_ite, resK_none, leaveK_ite, leaveK_none, only_ite, only_none, bind_ite, gives_some, gives_none, gives_ite, then_normal, then_ret, then_exit, then_none, then_ite, Option.bind_none, Bool.not_eq_true', decide_eq_false_iff_not, Bool.and_eq_true, Bool.or_eq_true, Option.some.injEq, Int.not_lt, Int.not_le, lp117_1]
  clear hg
  obtain ⟨rfl, rfl⟩ := h2
  simp only [go_sem, reduceIte, Nat.reduceEqDiff, Nat.reduceAdd, Nat.reduceSub, Nat.reduceLeDiff, Nat.reduceLT, reduceCtorEq, Int.reduceLT, Int.reduceLE, Int.reduceEq, Int.reduceBEq, Int.reduceSub, Int.reduceAdd, Int.reduceMul, Int.reduceNeg, Int.reduceToNat, Nat.reduceMul, Nat.reduceBEq]


/-! ### pairs in a block that may be written -/
def prC (ps : List (Int × Int)) : List AV := ps.flatMap fun p => [I p.1, I p.2]
theorem prC_cons (p : Int × Int) (ps : List (Int × Int)) : prC (p :: ps) = I p.1 :: I p.2 :: prC ps := rfl
theorem prC_append (a b : List (Int × Int)) : prC (a ++ b) = prC a ++ prC b := List.flatMap_append
theorem prC_len : ∀ ps : List (Int × Int), (prC ps).length = ps.length * 2
  | [] => rfl
  | p :: r => by rw [prC_cons, List.length_cons, List.length_cons, prC_len r, List.length_cons]; omega
theorem prC_at : ∀ (ps : List (Int × Int)) (i : Nat) (p : Int × Int), ps[i]? = some p → ((prC ps).drop (i * 2)).take 2 = [I p.1, I p.2]
  | [], i, p, h => by simp at h
  | q :: r, 0, p, h => by
    have : q = p := by simpa using h
    subst this; rfl
  | q :: r, i + 1, p, h => by
    rw [prC_cons, show (i + 1) * 2 = i * 2 + 1 + 1 by omega, List.drop_succ_cons, List.drop_succ_cons]
    exact prC_at r i p (by simpa using h)
theorem prC_put : ∀ (ps : List (Int × Int)) (i : Nat) (a b : Int), i < ps.length → ((prC ps).set (i * 2) (I a)).set (i * 2 + 1) (I b) = prC (ps.set i (a, b))
  | [], i, a, b, h => by simp at h
  | q :: r, 0, a, b, h => rfl
  | q :: r, i + 1, a, b, h => by
    rw [prC_cons, show (i + 1) * 2 = i * 2 + 1 + 1 by omega, List.set_cons_succ, List.set_cons_succ, List.set_cons_succ, List.set_cons_succ, prC_put r i a b (by simpa using h), List.set_cons_succ, prC_cons]
theorem split_ends : ∀ M : List (Int × Int), 2 ≤ M.length → ∃ x N y, M = x :: (N ++ [y]) := by
  intro M h
  cases M with
  | nil => simp at h
  | cons x R =>
    rcases List.eq_nil_or_concat R with rfl | ⟨N, y, rfl⟩
    · simp at h
    · exact ⟨x, N, y, by rw [List.concat_eq_append]⟩

theorem loop66 (S0 : List (List AV)) (T : List Nat) (l : Nat) (hl : l < S0.length) (n : Nat) (hn : n ≤ 1000) (lo hi : Nat) (i : Nat) (j : Int) (A : List (Int × Int)) (M : List (Int × Int)) (B : List (Int × Int)) (hok : A.length = i ∧ B.length = i ∧ i + M.length + i = n ∧ j = (i : Int) + M.length - 1) (env : Env) (st : St)
    (hg : gcAV false lo hi (canon env [0, 2, 3]) st = ([(0, .rsl l 0 n n 2 true), (2, I i), (3, I j)], ⟨S0.set l (prC (B.reverse ++ M ++ A.reverse)), T⟩)) :
    ∃ x_1 en s, lim (headed pure (run L) false [0, 2, 3] lp66_0 lo hi) env st = some (x_1, en, s) ∧ (x_1 = .exit 0 ∧ s = ⟨S0.set l (prC ((A ++ M ++ B).reverse)), T⟩) := by
  refine loop_wp (α := Nat × Int × List (Int × Int) × List (Int × Int) × List (Int × Int)) (fun ⟨i, j, A, M, B⟩ => M.length) (fun ⟨i, j, A, M, B⟩ => A.length = i ∧ B.length = i ∧ i + M.length + i = n ∧ j = (i : Int) + M.length - 1) (fun ⟨i, j, A, M, B⟩ => ([(0, .rsl l 0 n n 2 true), (2, I i), (3, I j)], ⟨S0.set l (prC (B.reverse ++ M ++ A.reverse)), T⟩)) (fun ⟨i, j, A, M, B⟩ x_1 en s => x_1 = .exit 0 ∧ s = ⟨S0.set l (prC ((A ++ M ++ B).reverse)), T⟩) (fun ⟨i, j, A, M, B⟩ hok => ?_) ⟨i, j, A, M, B⟩ hok env st hg
  simp only at hok
  obtain ⟨h1, h2, h3, h4⟩ := hok
  dsimp only at h1 h2 h3 h4 ⊢
  have hget : ∀ C : List AV, (S0.set l C)[l]? = some C := fun C => List.getElem?_set_self hl
  by_cases h : 2 ≤ M.length
  · obtain ⟨x, N, y, rfl⟩ := split_ends M h
    simp only [List.length_cons, List.length_append, List.length_nil] at h3 h4
    have hs := succ64 i (by omega)
    have hlt : ((i : Int) < j) = True := eq_true (by omega)
    have hj : j = ((i + N.length + 1 : Nat) : Int) := by omega
    have hX : (B.reverse ++ (x :: (N ++ [y])) ++ A.reverse).length = n := by simp; omega
    have g1 : (B.reverse ++ (x :: (N ++ [y])) ++ A.reverse)[i]? = some x := by
      rw [List.append_assoc, List.getElem?_append_right (by simp; omega)]; simp [h2]
    have g2 : (B.reverse ++ (x :: (N ++ [y])) ++ A.reverse)[i + N.length + 1]? = some y := by
      rw [List.append_assoc, List.getElem?_append_right (by simp; omega)]
      simp only [List.length_reverse, h2]
      rw [show i + N.length + 1 - i = N.length + 1 by omega]
      simp
    have hset : ((B.reverse ++ (x :: (N ++ [y])) ++ A.reverse).set i y).set (i + N.length + 1) x = (y :: B).reverse ++ N ++ (A ++ [x]).reverse := by
      have e1 : (B.reverse ++ (x :: (N ++ [y])) ++ A.reverse).set i y = B.reverse ++ (y :: (N ++ [y])) ++ A.reverse := by
        rw [List.append_assoc, List.set_append_right _ _ (by simp; omega)]; simp [h2]
      have e2 : (B.reverse ++ (y :: (N ++ [y])) ++ A.reverse).set (i + N.length + 1) x = B.reverse ++ (y :: (N ++ [x])) ++ A.reverse := by
        rw [List.append_assoc, List.set_append_right _ _ (by simp; omega)]
        simp only [List.length_reverse, h2]
        rw [show i + N.length + 1 - i = N.length + 1 by omega]
        simp
      rw [e1, e2]; simp
    have horg : (A ++ (x :: (N ++ [y])) ++ B) = ((A ++ [x]) ++ N ++ (y :: B)) := by simp
    have a1 := prC_at _ _ _ g1
    have a2 := prC_at _ _ _ g2
    have hXl := prC_len (B.reverse ++ (x :: (N ++ [y])) ++ A.reverse)
    rw [hX] at hXl
    have p1 := prC_put (B.reverse ++ (x :: (N ++ [y])) ++ A.reverse) i y.1 y.2 (by omega)
    have p2 := prC_put ((B.reverse ++ (x :: (N ++ [y])) ++ A.reverse).set i y) (i + N.length + 1) x.1 x.2 (by rw [List.length_set]; omega)
    have hw : IntKind.i64.wrap (((i + N.length + 1 : Nat) : Int) - 1) = ((i + N.length + 1 : Nat) : Int) - 1 := by rw [wrap64] <;> omega
    have hYl : (prC ((B.reverse ++ (x :: (N ++ [y])) ++ A.reverse).set i (y.1, y.2))).length = n * 2 := by rw [prC_len, List.length_set, hX]
    rw [horg]
    replace hset : ((B.reverse ++ (x :: (N ++ [y])) ++ A.reverse).set i (y.1, y.2)).set (i + N.length + 1) (x.1, x.2) = (y :: B).reverse ++ N ++ (A ++ [x]).reverse := hset
    replace p2 : ((prC ((B.reverse ++ (x :: (N ++ [y])) ++ A.reverse).set i (y.1, y.2))).set ((i + N.length + 1) * 2) (I x.1)).set ((i + N.length + 1) * 2 + 1) (I x.2) = _ := p2
    generalize B.reverse ++ (x :: (N ++ [y])) ++ A.reverse = X at *
    subst hj
    generalize hk : i + N.length + 1 = k at *
    have b0 : ((0 : Int) ≤ (i : Int)) = True := eq_true (by omega)
    have b1 : ((i : Int) < (n : Int)) = True := eq_true (by omega)
    have b2 : ((0 : Int) ≤ (k : Int)) = True := eq_true (by omega)
    have b3 : ((k : Int) < (n : Int)) = True := eq_true (by omega)
    have b4 : (i * 2 + 2 ≤ n * 2) = True := eq_true (by omega)
    have b5 : (k * 2 + 2 ≤ n * 2) = True := eq_true (by omega)
    simp only [go_sem, reduceIte, Nat.reduceEqDiff, Nat.reduceAdd, Nat.reduceSub, Nat.reduceLeDiff, Nat.reduceLT, reduceCtorEq, Int.reduceLT, Int.reduceLE, Int.reduceEq, Int.reduceBEq, Int.reduceSub, Int.reduceAdd, Int.reduceMul, Int.reduceNeg, Int.reduceToNat, Nat.reduceMul, Nat.reduceBEq, index_rsl_if, setm, make_ints, condK_dec, wantK_dec, not_dec, and_dec, or_dec, seqK_ite, seqK_none, blockK_ite, blockK_none, opsK_ite, opsK_none, stepK_ite, stepK_none, bodyK_ite, bodyK_none, resK_ite, resK_none, leaveK_ite, leaveK_none, only_ite, only_none, bind_ite, gives_some, gives_none, gives_ite, then_normal, then_ret, then_exit, then_none, then_ite, Option.bind_none, Bool.not_eq_true', decide_eq_false_iff_not, Bool.and_eq_true, Bool.or_eq_true, Option.some.injEq, Int.not_lt, Int.not_le, lp66_0, hlt, hs, hw, b0, b1, b2, b3, b4, b5, hget, hXl, hYl, a1, a2, p1, p2, List.set_set]
    refine ⟨(i + 1, (k : Int) - 1, A ++ [x], N, y :: B), by simp only [go_sem, reduceIte, Nat.reduceEqDiff, Nat.reduceAdd, Nat.reduceSub, Nat.reduceLeDiff, Nat.reduceLT, reduceCtorEq, Int.reduceLT, Int.reduceLE, Int.reduceEq, Int.reduceBEq, Int.reduceSub, Int.reduceAdd, Int.reduceMul, Int.reduceNeg, Int.reduceToNat, Nat.reduceMul, Nat.reduceBEq, ren1_locm, loc_tips, locT_eq, hset] <;> rfl, ?_, ?_, fun x en s hq => ?_⟩
    · dsimp only; refine ⟨by simp; omega, by simp; omega, by omega, by omega⟩
    · dsimp only; simp; omega
    · exact hq
  · have hlt : ((i : Int) < j) = False := eq_false (by omega)
    have hM : M.reverse = M := by
      match M, h with
      | [], _ => rfl
      | [x], _ => rfl
      | x :: y :: r, h => exact absurd (by simp) h
    have e : (A ++ M ++ B).reverse = B.reverse ++ M ++ A.reverse := by simp [hM]
    rw [e]
    simp only [go_sem, reduceIte, Nat.reduceEqDiff, Nat.reduceAdd, Nat.reduceSub, Nat.reduceLeDiff, Nat.reduceLT, reduceCtorEq, Int.reduceLT, Int.reduceLE, Int.reduceEq, Int.reduceBEq, Int.reduceSub, Int.reduceAdd, Int.reduceMul, Int.reduceNeg, Int.reduceToNat, Nat.reduceMul, Nat.reduceBEq, index_rsl_if, setm, make_ints, condK_dec, wantK_dec, not_dec, and_dec, or_dec, seqK_ite, seqK_none, blockK_ite, blockK_none, opsK_ite, opsK_none, stepK_ite, stepK_none, bodyK_ite, bodyK_none, resK_ite, resK_none, leaveK_ite, leaveK_none, only_ite, only_none, bind_ite, gives_some, gives_none, gives_ite, then_normal, then_ret, then_exit, then_none, then_ite, Option.bind_none, Bool.not_eq_true', decide_eq_false_iff_not, Bool.and_eq_true, Bool.or_eq_true, Option.some.injEq, Int.not_lt, Int.not_le, lp66_0, hlt]

theorem c66 (S : List (List AV)) (T : List Nat) (l : Nat) (X : List (Int × Int)) (h : S[l]? = some (prC X)) (hn : X.length ≤ 1000) :
    run L 66 [.rsl l 0 X.length X.length 2 true] ⟨S, T⟩ = some (.tup [], ⟨S.set l (prC X.reverse), T⟩) := by
  rw [run_shared (fn := ir66) rfl rfl]
  have hl := (List.getElem?_eq_some_iff.1 h).1
  have hS := set_same S l _ h
  have hw : IntKind.i64.wrap ((X.length : Int) - 1) = (X.length : Int) - 1 := by rw [wrap64] <;> omega
  generalize hk : X.length = k at *
  rw [← hS]
  simp only [ir66, go_sem, reduceIte, Nat.reduceEqDiff, Nat.reduceAdd, Nat.reduceSub, Nat.reduceLeDiff, Nat.reduceLT, reduceCtorEq, Int.reduceLT, Int.reduceLE, Int.reduceEq, Int.reduceBEq, Int.reduceSub, Int.reduceAdd, Int.reduceMul, Int.reduceNeg, Int.reduceToNat, Nat.reduceMul, Nat.reduceBEq, hw, List.set_set]
  generalize hg : lim (headed pure (run L) false _ lp66_0 _ _) _ _ = o
  obtain ⟨x, en, s, rfl, h2⟩ : ∃ x en s, o = some (x, en, s) ∧ _ := by rw [← hg]; exact loop66 S T l hl k hn _ _ 0 ((k : Int) - 1) [] X [] ⟨rfl, rfl, by omega, by omega⟩ _ _ (by simp only [go_sem, reduceIte, Nat.reduceEqDiff, Nat.reduceAdd, Nat.reduceSub, Nat.reduceLeDiff, Nat.reduceLT, reduceCtorEq, Int.reduceLT, Int.reduceLE, Int.reduceEq, Int.reduceBEq, Int.reduceSub, Int.reduceAdd, Int.reduceMul, Int.reduceNeg, Int.reduceToNat, Nat.reduceMul, Nat.reduceBEq, List.reverse_nil, List.nil_append, List.append_nil, Int.natCast_zero] <;> rfl)
  clear hg
  obtain ⟨rfl, rfl⟩ := h2
  simp only [go_sem, reduceIte, Nat.reduceEqDiff, Nat.reduceAdd, Nat.reduceSub, Nat.reduceLeDiff, Nat.reduceLT, reduceCtorEq, Int.reduceLT, Int.reduceLE, Int.reduceEq, Int.reduceBEq, Int.reduceSub, Int.reduceAdd, Int.reduceMul, Int.reduceNeg, Int.reduceToNat, Nat.reduceMul, Nat.reduceBEq]
theorem c66n (st : St) : run L 66 [.v (.slice none 0 0)] st = some (.tup [], st) := by
  rw [run_shared (fn := ir66) rfl rfl]
  have hw : IntKind.i64.wrap (0 - 1) = -1 := by decide
  simp only [ir66, go_sem, reduceIte, Nat.reduceEqDiff, Nat.reduceAdd, Nat.reduceSub, Nat.reduceLeDiff, Nat.reduceLT, reduceCtorEq, Int.reduceLT, Int.reduceLE, Int.reduceEq, Int.reduceBEq, Int.reduceSub, Int.reduceAdd, Int.reduceMul, Int.reduceNeg, Int.reduceToNat, Nat.reduceMul, Nat.reduceBEq, hw]
  generalize hg : lim (headed pure (run L) false _ lp66_0 _ _) _ _ = o
  obtain ⟨x, en, s, rfl, h2⟩ : ∃ x en s, o = some (x, en, s) ∧ (x = .exit 0 ∧ s = st) := by
    rw [← hg]
    refine loop_wp (α := Nat) (fun _ => 0) (fun _ => True) (fun _ => ([(0, .v (.slice none 0 0)), (2, I 0), (3, I (-1))], st)) (fun _ x_1 en s => x_1 = .exit 0 ∧ s = st) (fun _ hok => ?_) 0 trivial _ _ (by simp only [go_sem, reduceIte, Nat.reduceEqDiff, Nat.reduceAdd, Nat.reduceSub, Nat.reduceLeDiff, Nat.reduceLT, reduceCtorEq, Int.reduceLT, Int.reduceLE, Int.reduceEq, Int.reduceBEq, Int.reduceSub, Int.reduceAdd, Int.reduceMul, Int.reduceNeg, Int.reduceToNat, Nat.reduceMul, Nat.reduceBEq] <;> rfl)
    have hlt : ((0 : Int) < -1) = False := eq_false (by omega)
    simp only [go_sem, reduceIte, Nat.reduceEqDiff, Nat.reduceAdd, Nat.reduceSub, Nat.reduceLeDiff, Nat.reduceLT, reduceCtorEq, Int.reduceLT, Int.reduceLE, Int.reduceEq, Int.reduceBEq, Int.reduceSub, Int.reduceAdd, Int.reduceMul, Int.reduceNeg, Int.reduceToNat, Nat.reduceMul, Nat.reduceBEq, index_rsl_if, setm, make_ints, condK_dec, wantK_dec, not_dec, and_dec, or_dec, seqK_ite, seqK_none, blockK_ite, blockK_none, opsK_ite, opsK_none, stepK_ite, stepK_none, bodyK_ite, bodyK_none, resK_ite, resK_none, leaveK_ite, leaveK_none, only_ite, only_none, bind_ite, gives_some, gives_none, gives_ite, then_normal, then_ret, then_exit, then_none, then_ite, Option.bind_none, Bool.not_eq_true', decide_eq_false_iff_not, Bool.and_eq_true, Bool.or_eq_true, Option.some.injEq, Int.not_lt, Int.not_le, lp66_0, hlt]
  clear hg
  obtain ⟨rfl, rfl⟩ := h2
  simp only [go_sem, reduceIte, Nat.reduceEqDiff, Nat.reduceAdd, Nat.reduceSub, Nat.reduceLeDiff, Nat.reduceLT, reduceCtorEq, Int.reduceLT, Int.reduceLE, Int.reduceEq, Int.reduceBEq, Int.reduceSub, Int.reduceAdd, Int.reduceMul, Int.reduceNeg, Int.reduceToNat, Nat.reduceMul, Nat.reduceBEq]


/-! ### blocks that name nothing -/
def Calm (a : AV) : Prop := (∀ n acc, refsV n acc a = acc) ∧ (∀ n M, mapL n M a = a) ∧ (∀ n, okRef n a = true) ∧ (∀ n T acc, ren1 n T acc a = (a, acc)) ∧ ∀ l cs, frzV l cs a = a
theorem calm_v (x : Value) : Calm (.v x) := ⟨fun _ _ => by simp only [refsV], fun _ _ => by simp only [mapL], fun _ => by simp only [okRef], fun _ _ _ => by simp only [ren1], fun _ _ => by simp only [frzV]⟩
theorem calm_sl (z : Nat) (nl : Bool) (xs : List AV) : Calm (sl z nl xs) := ⟨fun n acc => refsV_sl n acc z nl xs, fun n M => mapL_sl n M z nl xs, fun n => okRef_sl z nl xs n, fun n T acc => ren1_sl z nl xs n T acc, fun l cs => frzV_sl l cs z nl xs⟩
def Inert (Q : List AV) : Prop := (∀ n acc, refsL n acc Q = acc) ∧ (∀ n M, mapLs n M Q = Q) ∧ (∀ n, okRefs n Q = true) ∧ (∀ n T acc, renCells n T acc Q = (Q, acc)) ∧ ∀ l cs, frzVs l cs Q = Q
theorem inert_of : ∀ (Q : List AV), (∀ a ∈ Q, Calm a) → Inert Q
  | [], _ => ⟨fun _ _ => by simp only [refsL], fun _ _ => by simp only [mapLs], fun _ => by simp only [okRefs], fun _ _ _ => by simp only [renCells], fun _ _ => by simp only [frzVs]⟩
  | a :: Q, h => by
    obtain ⟨h1, h2, h3, h4, h5⟩ := h a (by simp)
    obtain ⟨g1, g2, g3, g4, g5⟩ := inert_of Q fun b hb => h b (by simp [hb])
    exact ⟨fun n acc => by simp only [refsL, h1, g1], fun n M => by simp only [mapLs, h2, g2], fun n => by simp only [okRefs, h3, g3, Bool.and_self], fun n T acc => by simp only [renCells, h4, g4], fun l cs => by simp only [frzVs, h5, g5]⟩
theorem inert_map {α : Type} (f : α → Value) (xs : List α) : Inert (xs.map fun x => .v (f x)) := inert_of _ fun a ha => by
  obtain ⟨x, _, rfl⟩ := List.mem_map.1 ha
  exact calm_v _
theorem inert_I (xs : List Int) : Inert (xs.map I) := inert_map _ xs
theorem inert_prC (ps : List (Int × Int)) : Inert (prC ps) := inert_of _ fun a ha => by
  unfold prC at ha
  obtain ⟨p, _, h⟩ := List.mem_flatMap.1 ha
  simp only [List.mem_cons, List.not_mem_nil, or_false] at h
  rcases h with rfl | rfl <;> exact calm_v _
theorem inert_bk (nl : Bool) (n : Int) (ps : List (Int × Int)) : Inert (bkCells nl n ps) := inert_of _ fun a ha => by
  simp only [bkCells, List.mem_cons, List.not_mem_nil, or_false] at ha
  rcases ha with rfl | rfl
  · exact calm_v _
  · exact calm_sl _ _ _

/-! ### the numbers of articles -/
def nmC (L : List Nat) (r : Nat) : List AV := (L.map fun (a : Nat) => I (a : Int)) ++ List.replicate r (I 0)
theorem nmC_len (L : List Nat) (r : Nat) : (nmC L r).length = L.length + r := by simp [nmC]
theorem nmC_zero (L : List Nat) : nmC L 0 = L.map fun (a : Nat) => I (a : Int) := by simp [nmC]
theorem inert_nm (L : List Nat) (r : Nat) : Inert (nmC L r) := inert_of _ fun a ha => by
  unfold nmC at ha
  rcases List.mem_append.1 ha with h | h
  · obtain ⟨x, _, rfl⟩ := List.mem_map.1 h
    exact calm_v _
  · rw [(List.mem_replicate.1 h).2]; exact calm_v _
theorem nmC_put (L : List Nat) (r : Nat) : (nmC L (r + 1)).set L.length (I (L.length : Nat)) = nmC (L ++ [L.length]) r := by
  unfold nmC
  rw [List.set_append_right _ _ (by simp), List.length_map, Nat.sub_self, List.replicate_succ, List.set_cons_zero]
  simp
theorem nmC_at (L : List Nat) (r k : Nat) (h : k < L.length) : (nmC L r)[k]? = some (I (L.getD k 0 : Nat)) := by
  unfold nmC
  rw [List.getElem?_append_left (by simpa using h), List.getElem?_map, List.getElem?_eq_getElem h, List.getD_eq_getElem?_getD, List.getElem?_eq_getElem h]; rfl
theorem nmC_set (L : List Nat) (r k x : Nat) (h : k < L.length) : (nmC L r).set k (I (x : Nat)) = nmC (L.set k x) r := by
  unfold nmC
  rw [List.set_append_left _ _ (by simpa using h), List.map_set]
theorem nm_swap (by_ : Nat → Nat) (L : List Nat) (i k : Nat) (hL : L.length = i) (hk : by_ i % (i + 1) = k) :
    ((L ++ [i]).set i ((L ++ [i]).getD k 0)).set k i = nmStep by_ L i := by
  unfold nmStep
  rw [hk]
  have hki : k < i + 1 := by rw [← hk]; exact Nat.mod_lt _ (by omega)
  subst hL
  split
  · next h =>
    rw [List.set_append_right _ _ (by omega), Nat.sub_self, List.set_cons_zero, List.set_append_left _ _ h]
    congr 2
    rw [List.getD_eq_getElem?_getD, List.getElem?_append_left h, ← List.getD_eq_getElem?_getD]
  · have : k = L.length := by omega
    subst this
    simp

theorem loop14_0 (Q B : List AV) (hQ : Inert Q) (hB : Inert B) (ys : List Int) (hyl : ys.length = 7) (hy : ∀ a ∈ ys, Byte a) (n : Nat) (hn : n ≤ 7) (f : Nat → Nat) (hf : ∀ i, i < 7 → f i = (ys.getD i 0).toNat) (i : Nat) (hok : i ≤ n) (env : Env) (st : St)
    (hg : gcAV true 4 0 (canon env [3, 5, 6, 35, 36]) st = ([(3, .ptr 1 0), (5, .ptr 2 0), (6, .rsl 3 0 n n 1 false), (35, I n), (36, I i)], ⟨[Q, ys.map B8, B, nmC (nmL f i) (n - i)], []⟩)) :
    ∃ x_1 en s, lim (headed pure (run L) true [3, 5, 6, 35, 36] lp14_0 4 0) env st = some (x_1, en, s) ∧ (x_1 = .exit 0 ∧ en.get 5 = .ptr 2 0 ∧ en.get 6 = .rsl 3 0 n n 1 false ∧ en.get 3000000 = .any ∧ s = ⟨[Q, ys.map B8, B, (nmL f n).map fun (a : Nat) => I (a : Int)], []⟩) := by
  refine loop_wp (α := Nat) (fun i => n - i) (fun i => i ≤ n) (fun i => ([(3, .ptr 1 0), (5, .ptr 2 0), (6, .rsl 3 0 n n 1 false), (35, I n), (36, I i)], ⟨[Q, ys.map B8, B, nmC (nmL f i) (n - i)], []⟩)) (fun i x_1 en s => x_1 = .exit 0 ∧ en.get 5 = .ptr 2 0 ∧ en.get 6 = .rsl 3 0 n n 1 false ∧ en.get 3000000 = .any ∧ s = ⟨[Q, ys.map B8, B, (nmL f n).map fun (a : Nat) => I (a : Int)], []⟩) (fun i hok => ?_) i hok env st hg
  have hY : Inert (ys.map B8) := inert_map (fun a => Value.int .u8 a) ys
  by_cases h : i < n
  · have hs := succ64 i (by omega)
    have hlt : ((i : Int) < (n : Int)) = True := eq_true (by omega)
    have hr : n - i = (n - (i + 1)) + 1 := by omega
    have hyb := byte_getD hy i
    have gy := getB ys i (by omega)
    have hfi := hf i (by omega)
    unfold Byte at hyb
    have wy := wrap64 (ys.getD i 0) (by omega) (by omega)
    have hz : (((i + 1 : Nat) : Int) = 0) = False := eq_false (by omega)
    have hm : (ys.getD i 0).tmod ((i + 1 : Nat) : Int) = ((f i % (i + 1) : Nat) : Int) := by
      rw [Int.tmod_eq_emod_of_nonneg (by omega), hfi, Int.natCast_emod, Int.toNat_of_nonneg (by omega)]
    generalize hk : f i % (i + 1) = k at *
    have hki : k < i + 1 := by rw [← hk]; exact Nat.mod_lt _ (by omega)
    have hL := nmL_len f i
    have c1 := nmC_put (nmL f i) (n - (i + 1))
    rw [hL] at c1
    have g1 := nmC_at (nmL f i ++ [i]) (n - (i + 1)) k (by simp; omega)
    have g2 := nmC_at (nmL f i ++ [i]) (n - (i + 1)) i (by simp; omega)
    have e2 : (nmL f i ++ [i]).getD i 0 = i := by rw [List.getD_eq_getElem?_getD, List.getElem?_append_right (by omega)]; simp [hL]
    rw [e2] at g2
    have c2 := nmC_set (nmL f i ++ [i]) (n - (i + 1)) i ((nmL f i ++ [i]).getD k 0) (by simp; omega)
    have c3 := nmC_set ((nmL f i ++ [i]).set i ((nmL f i ++ [i]).getD k 0)) (n - (i + 1)) k i (by simp; omega)
    rw [nm_swap f _ i k hL hk, ← nmL_succ] at c3
    have l0 : (nmC (nmL f i) (n - i)).length = n := by rw [nmC_len, hL]; omega
    have l1 : (nmC (nmL f i ++ [i]) (n - (i + 1))).length = n := by rw [nmC_len]; simp [hL]; omega
    have l2 : (nmC ((nmL f i ++ [i]).set i ((nmL f i ++ [i]).getD k 0)) (n - (i + 1))).length = n := by rw [nmC_len]; simp [hL]; omega
    rw [← hr] at c1
    have i1 := inert_nm (nmL f (i + 1)) (n - (i + 1))
    have b0 : ((0 : Int) ≤ (i : Int)) = True := eq_true (by omega)
    have b1 : ((0 : Int) ≤ (k : Int)) = True := eq_true (by omega)
    have b2 : ((k : Int) < (n : Int)) = True := eq_true (by omega)
    have b3 : ((i : Int) < 7) = True := eq_true (by omega)
    have b4 : (i + 1 ≤ n) = True := eq_true (by omega)
    have b5 : (k + 1 ≤ n) = True := eq_true (by omega)
    generalize (nmL f i ++ [i]).getD k 0 = x at *
    generalize nmC (nmL f i) (n - i) = C0 at *
    generalize nmC (nmL f i ++ [i]) (n - (i + 1)) = C1 at *
    generalize nmC ((nmL f i ++ [i]).set i x) (n - (i + 1)) = C2 at *
    generalize hC3 : nmC (nmL f (i + 1)) (n - (i + 1)) = C3 at *
    simp only [go_sem, reduceIte, Nat.reduceEqDiff, Nat.reduceAdd, Nat.reduceSub, Nat.reduceLeDiff, Nat.reduceLT, reduceCtorEq, Int.reduceLT, Int.reduceLE, Int.reduceEq, Int.reduceBEq, Int.reduceSub, Int.reduceAdd, Int.reduceMul, Int.reduceNeg, Int.reduceToNat, Nat.reduceMul, Nat.reduceBEq, index_rsl_if, setm, make_ints, condK_dec, wantK_dec, not_dec, and_dec, or_dec, seqK_ite, seqK_none, blockK_ite, blockK_none, opsK_ite, opsK_none, stepK_ite, stepK_none, bodyK_ite, bodyK_none, resK_ite, resK_none, leaveK_ite, leaveK_none, only_ite, only_none, bind_ite, gives_some, gives_none, gives_ite, then_normal, then_ret, then_exit, then_none, then_ite, Option.bind_none, Bool.not_eq_true', decide_eq_false_iff_not, Bool.and_eq_true, Bool.or_eq_true, Option.some.injEq, Int.not_lt, Int.not_le, lp14_0, hlt, hs, b0, b1, b2, b3, b4, b5, gy, wy, hz, hm, l0, l1, l2, c1, c2, c3, g1, g2]
    refine ⟨i + 1, by simp only [go_sem, reduceIte, Nat.reduceEqDiff, Nat.reduceAdd, Nat.reduceSub, Nat.reduceLeDiff, Nat.reduceLT, reduceCtorEq, Int.reduceLT, Int.reduceLE, Int.reduceEq, Int.reduceBEq, Int.reduceSub, Int.reduceAdd, Int.reduceMul, Int.reduceNeg, Int.reduceToNat, Nat.reduceMul, Nat.reduceBEq, ren1_locm, loc_tips, locT_eq, hQ.2.2.1, hQ.2.2.2.1, hY.2.2.1, hY.2.2.2.1, hB.2.2.1, hB.2.2.2.1, i1.2.2.1, i1.2.2.2.1, hC3] <;> rfl, ?_, ?_, fun x en s hq => ?_⟩
    · omega
    · omega
    · exact hq
  · obtain rfl : i = n := by omega
    rw [Nat.sub_self, nmC_zero]
    simp only [go_sem, reduceIte, Nat.reduceEqDiff, Nat.reduceAdd, Nat.reduceSub, Nat.reduceLeDiff, Nat.reduceLT, reduceCtorEq, Int.reduceLT, Int.reduceLE, Int.reduceEq, Int.reduceBEq, Int.reduceSub, Int.reduceAdd, Int.reduceMul, Int.reduceNeg, Int.reduceToNat, Nat.reduceMul, Nat.reduceBEq, index_rsl_if, setm, make_ints, condK_dec, wantK_dec, not_dec, and_dec, or_dec, seqK_ite, seqK_none, blockK_ite, blockK_none, opsK_ite, opsK_none, stepK_ite, stepK_none, bodyK_ite, bodyK_none, resK_ite, resK_none, leaveK_ite, leaveK_none, only_ite, only_none, bind_ite, gives_some, gives_none, gives_ite, then_normal, then_ret, then_exit, then_none, then_ite, Option.bind_none, Bool.not_eq_true', decide_eq_false_iff_not, Bool.and_eq_true, Bool.or_eq_true, Option.some.injEq, Int.not_lt, Int.not_le, lp14_0, show ((i : Int) < (i : Int)) = False from eq_false (by omega)]


/-- A list of pairs that may be written, in block l. -/
def wpA (l : Nat) (o : List (Int × Int)) : AV := if o = [] then .v (.slice none 0 0) else .rsl l 0 o.length o.length 2 true
def wpS (o : List (Int × Int)) : List (List AV) := if o = [] then [] else [prC o]
theorem wpA_ne {l : Nat} {o : List (Int × Int)} (h : o ≠ []) : wpA l o = .rsl l 0 o.length o.length 2 true := by unfold wpA; rw [if_neg h]
theorem wpS_ne {o : List (Int × Int)} (h : o ≠ []) : wpS o = [prC o] := by unfold wpS; rw [if_neg h]
/-- Lists of numbers that may be written. -/
def wiA (l : Nat) (o : List Int) : AV := if o = [] then .v (.slice none 0 0) else .rsl l 0 o.length o.length 1 false
def wiS (o : List Int) : List (List AV) := if o = [] then [] else [o.map I]
theorem wiA_ne {l : Nat} {o : List Int} (h : o ≠ []) : wiA l o = .rsl l 0 o.length o.length 1 false := by unfold wiA; rw [if_neg h]
theorem wiS_ne {o : List Int} (h : o ≠ []) : wiS o = [o.map I] := by unfold wiS; rw [if_neg h]
theorem wp_nil (x y : Int) (S : List (List AV)) (T : List Nat) : appendmAV 2 true (.v (.slice none 0 0)) [.agg [I x, I y]] ⟨S, T⟩ = some (.rsl S.length 0 1 1 2 true, ⟨S ++ [prC [(x, y)]], T⟩) := by
  simp [appendmAV, newM, maxGrow, flatAV, AV.cells, prC]
theorem wp_at (S : List (List AV)) (T : List Nat) (l : Nat) (o : List (Int × Int)) (x y : Int) (h : S[l]? = some (prC o)) (h1 : 1 ≤ o.length) (h2 : o.length ≤ 1000) : appendmAV 2 true (.rsl l 0 o.length o.length 2 true) [.agg [I x, I y]] ⟨S, T⟩ = some (.rsl S.length 0 (o.length + 1) (o.length + 1) 2 true, ⟨S.set l [] ++ [prC (o ++ [(x, y)])], T⟩) := by
  have hl := prC_len o
  simp only [appendmAV, h]
  rw [if_pos ⟨trivial, trivial, Nat.le_refl _, by omega, by omega⟩, if_neg (by simp), if_pos ⟨trivial, by unfold maxGrow; simp; omega, by simp⟩]
  rw [List.take_of_length_le (by omega), prC_append]
  simp [flatAV, AV.cells, prC]
theorem wi_nil (x : Int) (S : List (List AV)) (T : List Nat) : appendmAV 1 false (.v (.slice none 0 0)) [I x] ⟨S, T⟩ = some (.rsl S.length 0 1 1 1 false, ⟨S ++ [[x].map I], T⟩) := by
  simp [appendmAV, newM, maxGrow, flatAV, AV.cells]
theorem wi_at (S : List (List AV)) (T : List Nat) (l : Nat) (o : List Int) (x : Int) (h : S[l]? = some (o.map I)) (h1 : 1 ≤ o.length) (h2 : o.length ≤ 1000) : appendmAV 1 false (.rsl l 0 o.length o.length 1 false) [I x] ⟨S, T⟩ = some (.rsl S.length 0 (o.length + 1) (o.length + 1) 1 false, ⟨S.set l [] ++ [(o ++ [x]).map I], T⟩) := by
  simp only [appendmAV, h]
  rw [if_pos ⟨trivial, trivial, Nat.le_refl _, by simp, by rw [List.length_map]; omega⟩, if_neg (by simp), if_pos ⟨trivial, by unfold maxGrow; simp; omega, by simp⟩]
  rw [List.take_of_length_le (by simp)]
  simp [flatAV, AV.cells]

set_option maxHeartbeats 1000000 in
theorem loop14_1 (Q Y B : List AV) (hQ : Inert Q) (hY : Inert Y) (hB : Inert B) (n : Nat) (hn : n ≤ 7) (nm : List Nat) (hm : nm.length = n) (ps : List (Int × Int)) (hps : ∀ p ∈ ps, 0 ≤ p.1 ∧ p.1 < p.2 ∧ p.2 < (n : Int)) (hlen : ps.length ≤ 10) (i : Nat) (o : List (Int × Int)) (hok : i ≤ ps.length ∧ o = (ps.take i).map (nmP nm)) (env : Env) (st : St)
    (hg : gcAV true 5 0 (canon env [5, 6, 9, 69, 70, 71, 3000000]) st = ([(5, .ptr 2 0), (6, .rsl 3 0 n n 1 false), (9, .ptr 4 0), (69, sl 2 true (ps.map prAV)), (70, I ps.length), (71, I i), (3000000, .any)], ⟨[Q, Y, B, nm.map fun (a : Nat) => I (a : Int), [I n, wpA 5 o]] ++ wpS o, []⟩)) :
    ∃ x_1 en s, lim (headed pure (run L) true [5, 6, 9, 69, 70, 71, 3000000] lp14_1 5 0) env st = some (x_1, en, s) ∧ (x_1 = .exit 2 ∧ en.get 5 = .ptr 2 0 ∧ en.get 6 = .rsl 3 0 n n 1 false ∧ en.get 9 = .ptr 4 0 ∧ en.get 3000000 = .any ∧ s = ⟨[Q, Y, B, nm.map fun (a : Nat) => I (a : Int), [I n, wpA 5 (ps.map (nmP nm))]] ++ wpS (ps.map (nmP nm)), []⟩) := by
  refine loop_wp (α := Nat × List (Int × Int)) (fun ⟨i, o⟩ => ps.length - i) (fun ⟨i, o⟩ => i ≤ ps.length ∧ o = (ps.take i).map (nmP nm)) (fun ⟨i, o⟩ => ([(5, .ptr 2 0), (6, .rsl 3 0 n n 1 false), (9, .ptr 4 0), (69, sl 2 true (ps.map prAV)), (70, I ps.length), (71, I i), (3000000, .any)], ⟨[Q, Y, B, nm.map fun (a : Nat) => I (a : Int), [I n, wpA 5 o]] ++ wpS o, []⟩)) (fun ⟨i, o⟩ x_1 en s => x_1 = .exit 2 ∧ en.get 5 = .ptr 2 0 ∧ en.get 6 = .rsl 3 0 n n 1 false ∧ en.get 9 = .ptr 4 0 ∧ en.get 3000000 = .any ∧ s = ⟨[Q, Y, B, nm.map fun (a : Nat) => I (a : Int), [I n, wpA 5 (ps.map (nmP nm))]] ++ wpS (ps.map (nmP nm)), []⟩) (fun ⟨i, o⟩ hok => ?_) ⟨i, o⟩ hok env st hg
  simp only at hok
  obtain ⟨h1, h2⟩ := hok
  dsimp only at h1 h2 ⊢
  have hN : Inert (nm.map fun (a : Nat) => I (a : Int)) := inert_map (fun a : Nat => Value.int .i64 (a : Int)) nm
  have hNl : (nm.map fun (a : Nat) => I (a : Int)).length = n := by simpa using hm
  by_cases h : i < ps.length
  · have hs := succ64 i (by omega)
    have hx := index_prs2 true ps i h
    have hlt : ((i : Int) < (ps.length : Int)) = True := eq_true (by omega)
    have hp := hps ps[i] (List.getElem_mem h)
    have htk : ps.take (i + 1) = ps.take i ++ [ps[i]] := (List.take_append_getElem h).symm
    have ho2 : o ++ [nmP nm ps[i]] = (ps.take (i + 1)).map (nmP nm) := by rw [htk, List.map_append, h2]; rfl
    have hol : o.length ≤ 10 := by rw [h2, List.length_map, List.length_take]; omega
    have hat : ∀ a : Int, 0 ≤ a → a < (n : Int) → (nm.map fun (a : Nat) => I (a : Int))[a.toNat]? = some (I (nmF nm a.toNat : Nat)) := by
      intro a a0 a1
      rw [List.getElem?_map, List.getElem?_eq_getElem (by omega : a.toNat < nm.length)]
      unfold nmF
      rw [List.getD_eq_getElem?_getD, List.getElem?_eq_getElem (by omega : a.toNat < nm.length)]; rfl
    have g1 := hat ps[i].1 (by omega) (by omega)
    have g2 := hat ps[i].2 (by omega) (by omega)
    have b0 : (0 ≤ ps[i].1) = True := eq_true (by omega)
    have b1 : (ps[i].1 < (n : Int)) = True := eq_true (by omega)
    have b2 : (0 ≤ ps[i].2) = True := eq_true (by omega)
    have b3 : (ps[i].2 < (n : Int)) = True := eq_true (by omega)
    have hnp : nmP nm ps[i] = (min ((nmF nm ps[i].1.toNat : Nat) : Int) ((nmF nm ps[i].2.toNat : Nat) : Int), max ((nmF nm ps[i].1.toNat : Nat) : Int) ((nmF nm ps[i].2.toNat : Nat) : Int)) := rfl
    have hne2 : o ++ [nmP nm ps[i]] ≠ [] := by simp
    have eA2 := wpA_ne (l := 5) hne2
    have eS2 := wpS_ne hne2
    have i2 := inert_prC (o ++ [nmP nm ps[i]])
    have hl2 : (o ++ [nmP nm ps[i]]).length = o.length + 1 := by simp
    rw [hl2] at eA2
    generalize nm.map (fun (a : Nat) => I (a : Int)) = N at *
    by_cases hX : o = []
    · have happ := fun S => wp_nil (nmP nm ps[i]).1 (nmP nm ps[i]).2 S []
      have eA : wpA 5 o = .v (.slice none 0 0) := by rw [hX]; rfl
      have eS : wpS o = [] := by rw [hX]; rfl
      have eo : prC [((nmP nm ps[i]).1, (nmP nm ps[i]).2)] = prC (o ++ [nmP nm ps[i]]) := by rw [hX]; rfl
      have ol : o.length = 0 := by rw [hX]; rfl
      rw [eo] at happ
      rw [ol, Nat.zero_add] at eA2
      generalize prC (o ++ [nmP nm ps[i]]) = C at *
      rw [hnp] at happ
      dsimp only at happ
      simp only [go_sem, reduceIte, Nat.reduceEqDiff, Nat.reduceAdd, Nat.reduceSub, Nat.reduceLeDiff, Nat.reduceLT, reduceCtorEq, Int.reduceLT, Int.reduceLE, Int.reduceEq, Int.reduceBEq, Int.reduceSub, Int.reduceAdd, Int.reduceMul, Int.reduceNeg, Int.reduceToNat, Nat.reduceMul, Nat.reduceBEq, index_rsl_if, setm, make_ints, condK_dec, wantK_dec, not_dec, and_dec, or_dec, seqK_ite, seqK_none, blockK_ite, blockK_none, opsK_ite, opsK_none, stepK_ite, stepK_none, bodyK_ite, bodyK_none, resK_ite, resK_none, leaveK_ite, leaveK_none, only_ite, only_none, bind_ite, gives_some, gives_none, gives_ite, then_normal, then_ret, then_exit, then_none, then_ite, Option.bind_none, Bool.not_eq_true', decide_eq_false_iff_not, Bool.and_eq_true, Bool.or_eq_true, Option.some.injEq, Int.not_lt, Int.not_le, lp14_1, hlt, hs, hx, b0, b1, b2, b3, g1, g2, eA, eS, happ, List.length_map, hNl]
      refine ⟨(i + 1, o ++ [nmP nm ps[i]]), by simp only [go_sem, reduceIte, Nat.reduceEqDiff, Nat.reduceAdd, Nat.reduceSub, Nat.reduceLeDiff, Nat.reduceLT, reduceCtorEq, Int.reduceLT, Int.reduceLE, Int.reduceEq, Int.reduceBEq, Int.reduceSub, Int.reduceAdd, Int.reduceMul, Int.reduceNeg, Int.reduceToNat, Nat.reduceMul, Nat.reduceBEq, ren1_locm, loc_tips, locT_eq, eA2, eS2, hQ.1, hQ.2.1, hQ.2.2.1, hQ.2.2.2.1, hY.1, hY.2.1, hY.2.2.1, hY.2.2.2.1, hB.1, hB.2.1, hB.2.2.1, hB.2.2.2.1, hN.1, hN.2.1, hN.2.2.1, hN.2.2.2.1, i2.1, i2.2.1, i2.2.2.1, i2.2.2.2.1, compact, compactW, refsEnv, refsV, refsL, refsStore, refsAt, mapEnv, mapL, mapLs, newName, posOf, mapStore, pickStore, namesOk, refsV_sl, mapL_sl, List.contains_nil, List.contains_cons, Option.getD_some, hasKey] <;> rfl, ?_, ?_, fun x en s hq => ?_⟩
      · dsimp only; exact ⟨by omega, ho2⟩
      · dsimp only; omega
      · exact hq
    · have hpos : 1 ≤ o.length := by
        cases o with
        | nil => exact absurd rfl hX
        | cons x r => simp
      have io := inert_prC o
      have eA := wpA_ne (l := 5) hX
      have eS := wpS_ne hX
      have happ := fun D E => wp_at [Q, Y, B, N, D, prC o, E] [] 5 o (nmP nm ps[i]).1 (nmP nm ps[i]).2 rfl hpos (by omega)
      rw [show ((nmP nm ps[i]).1, (nmP nm ps[i]).2) = nmP nm ps[i] from rfl] at happ
      generalize prC (o ++ [nmP nm ps[i]]) = C at *
      generalize prC o = C0 at *
      rw [hnp] at happ
      dsimp only at happ
      simp only [go_sem, reduceIte, Nat.reduceEqDiff, Nat.reduceAdd, Nat.reduceSub, Nat.reduceLeDiff, Nat.reduceLT, reduceCtorEq, Int.reduceLT, Int.reduceLE, Int.reduceEq, Int.reduceBEq, Int.reduceSub, Int.reduceAdd, Int.reduceMul, Int.reduceNeg, Int.reduceToNat, Nat.reduceMul, Nat.reduceBEq, index_rsl_if, setm, make_ints, condK_dec, wantK_dec, not_dec, and_dec, or_dec, seqK_ite, seqK_none, blockK_ite, blockK_none, opsK_ite, opsK_none, stepK_ite, stepK_none, bodyK_ite, bodyK_none, resK_ite, resK_none, leaveK_ite, leaveK_none, only_ite, only_none, bind_ite, gives_some, gives_none, gives_ite, then_normal, then_ret, then_exit, then_none, then_ite, Option.bind_none, Bool.not_eq_true', decide_eq_false_iff_not, Bool.and_eq_true, Bool.or_eq_true, Option.some.injEq, Int.not_lt, Int.not_le, lp14_1, hlt, hs, hx, b0, b1, b2, b3, g1, g2, eA, eS, happ, List.length_map, hNl]
      refine ⟨(i + 1, o ++ [nmP nm ps[i]]), by simp only [go_sem, reduceIte, Nat.reduceEqDiff, Nat.reduceAdd, Nat.reduceSub, Nat.reduceLeDiff, Nat.reduceLT, reduceCtorEq, Int.reduceLT, Int.reduceLE, Int.reduceEq, Int.reduceBEq, Int.reduceSub, Int.reduceAdd, Int.reduceMul, Int.reduceNeg, Int.reduceToNat, Nat.reduceMul, Nat.reduceBEq, ren1_locm, loc_tips, locT_eq, eA2, eS2, hQ.1, hQ.2.1, hQ.2.2.1, hQ.2.2.2.1, hY.1, hY.2.1, hY.2.2.1, hY.2.2.2.1, hB.1, hB.2.1, hB.2.2.1, hB.2.2.2.1, hN.1, hN.2.1, hN.2.2.1, hN.2.2.2.1, i2.1, i2.2.1, i2.2.2.1, i2.2.2.2.1, compact, compactW, refsEnv, refsV, refsL, refsStore, refsAt, mapEnv, mapL, mapLs, newName, posOf, mapStore, pickStore, namesOk, refsV_sl, mapL_sl, List.contains_nil, List.contains_cons, Option.getD_some, hasKey, io.1, io.2.1, io.2.2.1, io.2.2.2.1] <;> rfl, ?_, ?_, fun x en s hq => ?_⟩
      · dsimp only; exact ⟨by omega, ho2⟩
      · dsimp only; omega
      · exact hq
  · obtain rfl : i = ps.length := by omega
    rw [List.take_of_length_le (Nat.le_refl _)] at h2
    rw [← h2]
    simp only [go_sem, reduceIte, Nat.reduceEqDiff, Nat.reduceAdd, Nat.reduceSub, Nat.reduceLeDiff, Nat.reduceLT, reduceCtorEq, Int.reduceLT, Int.reduceLE, Int.reduceEq, Int.reduceBEq, Int.reduceSub, Int.reduceAdd, Int.reduceMul, Int.reduceNeg, Int.reduceToNat, Nat.reduceMul, Nat.reduceBEq, index_rsl_if, setm, make_ints, condK_dec, wantK_dec, not_dec, and_dec, or_dec, seqK_ite, seqK_none, blockK_ite, blockK_none, opsK_ite, opsK_none, stepK_ite, stepK_none, bodyK_ite, bodyK_none, resK_ite, resK_none, leaveK_ite, leaveK_none, only_ite, only_none, bind_ite, gives_some, gives_none, gives_ite, then_normal, then_ret, then_exit, then_none, then_ite, Option.bind_none, Bool.not_eq_true', decide_eq_false_iff_not, Bool.and_eq_true, Bool.or_eq_true, Option.some.injEq, Int.not_lt, Int.not_le, lp14_1, show ((ps.length : Int) < (ps.length : Int)) = False from eq_false (by omega)]


abbrev nmI (nm : List Nat) (a : Int) : Int := ((nmF nm a.toNat : Nat) : Int)
theorem nm_at (nm : List Nat) (a : Int) (h : a.toNat < nm.length) : (nm.map fun (a : Nat) => I (a : Int))[a.toNat]? = some (I (nmI nm a)) := by
  rw [List.getElem?_map, List.getElem?_eq_getElem h]
  unfold nmI nmF
  rw [List.getD_eq_getElem?_getD, List.getElem?_eq_getElem h]; rfl

set_option maxHeartbeats 1000000 in
theorem loop14_2 (Q Y B O : List AV) (hQ : Inert Q) (hY : Inert Y) (hB : Inert B) (hO : Inert O) (n : Nat) (hn : n ≤ 7) (hB0 : B[0]? = some (I n)) (hBl : 1 ≤ B.length) (nm : List Nat) (hm : nm.length = n) (l : List Int) (hl : ∀ a ∈ l, 0 ≤ a ∧ a < (n : Int)) (hlen : l.length ≤ 7) (i : Nat) (o : List Int) (hok : i ≤ l.length ∧ o = (l.take i).map (nmI nm)) (env : Env) (st : St)
    (hg : gcAV true 6 0 (canon env [5, 6, 9, 26, 183, 184, 185, 3000000]) st = ([(5, .ptr 2 0), (6, .rsl 3 0 n n 1 false), (9, .ptr 4 0), (26, wiA 6 o), (183, sl 1 true (l.map I)), (184, I l.length), (185, I i), (3000000, .any)], ⟨[Q, Y, B, nm.map fun (a : Nat) => I (a : Int), O, []] ++ wiS o, []⟩)) :
    ∃ x_1 en s, lim (headed pure (run L) true [5, 6, 9, 26, 183, 184, 185, 3000000] lp14_2 6 0) env st = some (x_1, en, s) ∧ (x_1 = .exit 4 ∧ en.get 9 = .ptr 4 0 ∧ en.get 26 = wiA 6 (l.map (nmI nm)) ∧ s = ⟨[Q, Y, B, nm.map fun (a : Nat) => I (a : Int), O, []] ++ wiS (l.map (nmI nm)), []⟩) := by
  refine loop_wp (α := Nat × List Int) (fun ⟨i, o⟩ => l.length - i) (fun ⟨i, o⟩ => i ≤ l.length ∧ o = (l.take i).map (nmI nm)) (fun ⟨i, o⟩ => ([(5, .ptr 2 0), (6, .rsl 3 0 n n 1 false), (9, .ptr 4 0), (26, wiA 6 o), (183, sl 1 true (l.map I)), (184, I l.length), (185, I i), (3000000, .any)], ⟨[Q, Y, B, nm.map fun (a : Nat) => I (a : Int), O, []] ++ wiS o, []⟩)) (fun ⟨i, o⟩ x_1 en s => x_1 = .exit 4 ∧ en.get 9 = .ptr 4 0 ∧ en.get 26 = wiA 6 (l.map (nmI nm)) ∧ s = ⟨[Q, Y, B, nm.map fun (a : Nat) => I (a : Int), O, []] ++ wiS (l.map (nmI nm)), []⟩) (fun ⟨i, o⟩ hok => ?_) ⟨i, o⟩ hok env st hg
  simp only at hok
  obtain ⟨h1, h2⟩ := hok
  dsimp only at h1 h2 ⊢
  have hN : Inert (nm.map fun (a : Nat) => I (a : Int)) := inert_map (fun a : Nat => Value.int .i64 (a : Int)) nm
  have hNl : (nm.map fun (a : Nat) => I (a : Int)).length = n := by simpa using hm
  by_cases h : i < l.length
  · have hs := succ64 i (by omega)
    have hx := index_ints true l i h
    have hlt : ((i : Int) < (l.length : Int)) = True := eq_true (by omega)
    have hp := hl l[i] (List.getElem_mem h)
    have htk : l.take (i + 1) = l.take i ++ [l[i]] := (List.take_append_getElem h).symm
    have ho2 : o ++ [nmI nm l[i]] = (l.take (i + 1)).map (nmI nm) := by rw [htk, List.map_append, h2]; rfl
    have hol : o.length ≤ 7 := by rw [h2, List.length_map, List.length_take]; omega
    have g1 := nm_at nm l[i] (by omega)
    have b0 : (0 ≤ l[i]) = True := eq_true (by omega)
    have b1 : (l[i] < (n : Int)) = True := eq_true (by omega)
    have b2 : (l[i] < 0) = False := eq_false (by omega)
    have b3 : ((n : Int) ≤ l[i]) = False := eq_false (by omega)
    have b4 : (1 ≤ B.length) = True := eq_true hBl
    have hne2 : o ++ [nmI nm l[i]] ≠ [] := by simp
    have eA2 := wiA_ne (l := 6) hne2
    have eS2 := wiS_ne hne2
    have i2 := inert_I (o ++ [nmI nm l[i]])
    have hl2 : (o ++ [nmI nm l[i]]).length = o.length + 1 := by simp
    rw [hl2] at eA2
    generalize nm.map (fun (a : Nat) => I (a : Int)) = N at *
    by_cases hX : o = []
    · have happ := fun S => wi_nil (nmI nm l[i]) S []
      have eA : wiA 6 o = .v (.slice none 0 0) := by rw [hX]; rfl
      have eS : wiS o = [] := by rw [hX]; rfl
      have eo : [nmI nm l[i]].map I = (o ++ [nmI nm l[i]]).map I := by rw [hX]; rfl
      have ol : o.length = 0 := by rw [hX]; rfl
      rw [eo] at happ
      rw [ol, Nat.zero_add] at eA2
      generalize (o ++ [nmI nm l[i]]).map I = C at *
      simp only [go_sem, reduceIte, Nat.reduceEqDiff, Nat.reduceAdd, Nat.reduceSub, Nat.reduceLeDiff, Nat.reduceLT, reduceCtorEq, Int.reduceLT, Int.reduceLE, Int.reduceEq, Int.reduceBEq, Int.reduceSub, Int.reduceAdd, Int.reduceMul, Int.reduceNeg, Int.reduceToNat, Nat.reduceMul, Nat.reduceBEq, index_rsl_if, setm, make_ints, condK_dec, wantK_dec, not_dec, and_dec, or_dec, seqK_ite, seqK_none, blockK_ite, blockK_none, opsK_ite, opsK_none, stepK_ite, stepK_none, bodyK_ite, bodyK_none, resK_ite, resK_none, leaveK_ite, leaveK_none, only_ite, only_none, bind_ite, gives_some, gives_none, gives_ite, then_normal, then_ret, then_exit, then_none, then_ite, Option.bind_none, Bool.not_eq_true', decide_eq_false_iff_not, Bool.and_eq_true, Bool.or_eq_true, Option.some.injEq, Int.not_lt, Int.not_le, lp14_2, hlt, hs, hx, b0, b1, b2, b3, b4, g1, hB0, eA, eS, happ, List.length_map, hNl]
      refine ⟨(i + 1, o ++ [nmI nm l[i]]), by simp only [go_sem, reduceIte, Nat.reduceEqDiff, Nat.reduceAdd, Nat.reduceSub, Nat.reduceLeDiff, Nat.reduceLT, reduceCtorEq, Int.reduceLT, Int.reduceLE, Int.reduceEq, Int.reduceBEq, Int.reduceSub, Int.reduceAdd, Int.reduceMul, Int.reduceNeg, Int.reduceToNat, Nat.reduceMul, Nat.reduceBEq, ren1_locm, loc_tips, locT_eq, eA2, eS2, hQ.1, hQ.2.1, hQ.2.2.1, hQ.2.2.2.1, hY.1, hY.2.1, hY.2.2.1, hY.2.2.2.1, hB.1, hB.2.1, hB.2.2.1, hB.2.2.2.1, hN.1, hN.2.1, hN.2.2.1, hN.2.2.2.1, hO.1, hO.2.1, hO.2.2.1, hO.2.2.2.1, i2.1, i2.2.1, i2.2.2.1, i2.2.2.2.1, compact, compactW, refsEnv, refsV, refsL, refsStore, refsAt, mapEnv, mapL, mapLs, newName, posOf, mapStore, pickStore, namesOk, refsV_sl, mapL_sl, List.contains_nil, List.contains_cons, Option.getD_some, hasKey] <;> rfl, ?_, ?_, fun x en s hq => ?_⟩
      · dsimp only; exact ⟨by omega, ho2⟩
      · dsimp only; omega
      · exact hq
    · have hpos : 1 ≤ o.length := by
        cases o with
        | nil => exact absurd rfl hX
        | cons x r => simp
      have io := inert_I o
      have eA := wiA_ne (l := 6) hX
      have eS := wiS_ne hX
      have happ := wi_at [Q, Y, B, N, O, [], o.map I] [] 6 o (nmI nm l[i]) rfl hpos (by omega)
      generalize (o ++ [nmI nm l[i]]).map I = C at *
      generalize o.map I = C0 at *
      simp only [go_sem, reduceIte, Nat.reduceEqDiff, Nat.reduceAdd, Nat.reduceSub, Nat.reduceLeDiff, Nat.reduceLT, reduceCtorEq, Int.reduceLT, Int.reduceLE, Int.reduceEq, Int.reduceBEq, Int.reduceSub, Int.reduceAdd, Int.reduceMul, Int.reduceNeg, Int.reduceToNat, Nat.reduceMul, Nat.reduceBEq, index_rsl_if, setm, make_ints, condK_dec, wantK_dec, not_dec, and_dec, or_dec, seqK_ite, seqK_none, blockK_ite, blockK_none, opsK_ite, opsK_none, stepK_ite, stepK_none, bodyK_ite, bodyK_none, resK_ite, resK_none, leaveK_ite, leaveK_none, only_ite, only_none, bind_ite, gives_some, gives_none, gives_ite, then_normal, then_ret, then_exit, then_none, then_ite, Option.bind_none, Bool.not_eq_true', decide_eq_false_iff_not, Bool.and_eq_true, Bool.or_eq_true, Option.some.injEq, Int.not_lt, Int.not_le, lp14_2, hlt, hs, hx, b0, b1, b2, b3, b4, g1, hB0, eA, eS, happ, List.length_map, hNl]
      refine ⟨(i + 1, o ++ [nmI nm l[i]]), by simp only [go_sem, reduceIte, Nat.reduceEqDiff, Nat.reduceAdd, Nat.reduceSub, Nat.reduceLeDiff, Nat.reduceLT, reduceCtorEq, Int.reduceLT, Int.reduceLE, Int.reduceEq, Int.reduceBEq, Int.reduceSub, Int.reduceAdd, Int.reduceMul, Int.reduceNeg, Int.reduceToNat, Nat.reduceMul, Nat.reduceBEq, ren1_locm, loc_tips, locT_eq, eA2, eS2, hQ.1, hQ.2.1, hQ.2.2.1, hQ.2.2.2.1, hY.1, hY.2.1, hY.2.2.1, hY.2.2.2.1, hB.1, hB.2.1, hB.2.2.1, hB.2.2.2.1, hN.1, hN.2.1, hN.2.2.1, hN.2.2.2.1, hO.1, hO.2.1, hO.2.2.1, hO.2.2.2.1, i2.1, i2.2.1, i2.2.2.1, i2.2.2.2.1, compact, compactW, refsEnv, refsV, refsL, refsStore, refsAt, mapEnv, mapL, mapLs, newName, posOf, mapStore, pickStore, namesOk, refsV_sl, mapL_sl, List.contains_nil, List.contains_cons, Option.getD_some, hasKey, io.1, io.2.1, io.2.2.1, io.2.2.2.1] <;> rfl, ?_, ?_, fun x en s hq => ?_⟩
      · dsimp only; exact ⟨by omega, ho2⟩
      · dsimp only; omega
      · exact hq
  · obtain rfl : i = l.length := by omega
    rw [List.take_of_length_le (Nat.le_refl _)] at h2
    rw [← h2]
    simp only [go_sem, reduceIte, Nat.reduceEqDiff, Nat.reduceAdd, Nat.reduceSub, Nat.reduceLeDiff, Nat.reduceLT, reduceCtorEq, Int.reduceLT, Int.reduceLE, Int.reduceEq, Int.reduceBEq, Int.reduceSub, Int.reduceAdd, Int.reduceMul, Int.reduceNeg, Int.reduceToNat, Nat.reduceMul, Nat.reduceBEq, index_rsl_if, setm, make_ints, condK_dec, wantK_dec, not_dec, and_dec, or_dec, seqK_ite, seqK_none, blockK_ite, blockK_none, opsK_ite, opsK_none, stepK_ite, stepK_none, bodyK_ite, bodyK_none, resK_ite, resK_none, leaveK_ite, leaveK_none, only_ite, only_none, bind_ite, gives_some, gives_none, gives_ite, then_normal, then_ret, then_exit, then_none, then_ite, Option.bind_none, Bool.not_eq_true', decide_eq_false_iff_not, Bool.and_eq_true, Bool.or_eq_true, Option.some.injEq, Int.not_lt, Int.not_le, lp14_2, show ((l.length : Int) < (l.length : Int)) = False from eq_false (by omega)]


theorem group_pr : ∀ o : List (Int × Int), group true 2 o.length (prC o) = o.map prAV
  | [] => rfl
  | p :: r => by rw [prC_cons, List.length_cons, group, if_pos rfl, List.map_cons]; congr 1; exact group_pr r
theorem pubs_prC : ∀ o : List (Int × Int), pubs (prC o) = prC o
  | [] => rfl
  | p :: r => by rw [prC_cons, pubs, pubs, pubs_prC r]; rfl
theorem frz_wp (l : Nat) (o : List (Int × Int)) (h : o ≠ []) : frzV l (prC o) (.rsl l 0 o.length o.length 2 true) = sl 2 true (o.map prAV) := by
  simp only [frzV, List.drop_zero]
  rw [if_pos ⟨trivial, by rw [prC_len]; omega, .inl trivial, Nat.le_refl _⟩, pubs_prC, group_pr, sl_ne (by simpa using h)]
theorem frzL5 {Q Y B N O C : List AV} (hne : C ≠ []) (env : Env) : frzL 5 env ⟨[Q, Y, B, N, O, C], []⟩ = (frzEnv 5 C env, ⟨[frzVs 5 C Q, frzVs 5 C Y, frzVs 5 C B, frzVs 5 C N, frzVs 5 C O, []], []⟩) := by
  cases C with
  | nil => exact absurd rfl hne
  | cons c cs => rfl
theorem frzL6 {Q Y B N O C : List AV} (hne : C ≠ []) (env : Env) : frzL 6 env ⟨[Q, Y, B, N, O, [], C], []⟩ = (frzEnv 6 C env, ⟨[frzVs 6 C Q, frzVs 6 C Y, frzVs 6 C B, frzVs 6 C N, frzVs 6 C O, [], []], []⟩) := by
  cases C with
  | nil => exact absurd rfl hne
  | cons c cs => rfl
theorem prC_ne {o : List (Int × Int)} (h : o ≠ []) : prC o ≠ [] := by
  cases o with
  | nil => exact absurd rfl h
  | cons p r => simp [prC_cons]
theorem cheap_nil {n : Nat} : bestL ((cheap n 2 []).map twos) = [] := by
  obtain ⟨y, hy, e⟩ := first_cheap (n := n) (ps := []) (by simp)
  have h2 := cheap_two_sum hy
  have h3 := (cheap_mem.1 hy).2 (byF n fun _ => 0) (byF_all2 fun _ _ => .inl rfl) rfl
  have h4 : sumL (byF n fun _ => (0 : Int)) = 0 := by
    unfold byF
    apply sum_zero
    intro _ _; rfl
  rw [e]
  exact List.eq_nil_of_length_eq_zero (by omega)
theorem twos_in {n : Nat} {y : List Int} (hy : y.length = n) : ∀ a ∈ twos y, 0 ≤ a ∧ a < (n : Int) := by
  intro a ha
  obtain ⟨k, h1, _, rfl⟩ := (withL_mem 2 y a).1 ha
  omega
theorem c100n (k : Int) (st : St) : run L 100 [.v (.slice none 0 0), I 0, I 0, I k] st = some (.tup [], st) := by
  rw [run_shared (fn := ir100) rfl rfl]
  simp only [ir100, go_sem, reduceIte, Nat.reduceEqDiff, Nat.reduceAdd, Nat.reduceSub, Nat.reduceLeDiff, Nat.reduceLT, reduceCtorEq, Int.reduceLT, Int.reduceLE, Int.reduceEq, Int.reduceBEq, Int.reduceSub, Int.reduceAdd, Int.reduceMul, Int.reduceNeg, Int.reduceToNat, Nat.reduceMul, Nat.reduceBEq]
  generalize hg : lim (headed pure (run L) false _ lp100_0 _ _) _ _ = o
  obtain ⟨x, en, s, rfl, h2⟩ : ∃ x en s, o = some (x, en, s) ∧ (x = .ret ∧ s = st) := by
    rw [← hg]
    refine loop_wp (α := Nat) (fun _ => 0) (fun _ => True) (fun _ => ([(0, .v (.slice none 0 0)), (1, I 0), (2, I 0), (3, I k), (8, B true), (9, B true)], st)) (fun _ x_1 en s => x_1 = .ret ∧ s = st) (fun _ hok => ?_) 0 trivial _ _ (by simp only [go_sem, reduceIte, Nat.reduceEqDiff, Nat.reduceAdd, Nat.reduceSub, Nat.reduceLeDiff, Nat.reduceLT, reduceCtorEq, Int.reduceLT, Int.reduceLE, Int.reduceEq, Int.reduceBEq, Int.reduceSub, Int.reduceAdd, Int.reduceMul, Int.reduceNeg, Int.reduceToNat, Nat.reduceMul, Nat.reduceBEq] <;> rfl)
    have hw : IntKind.i64.wrap 0 = 0 := by decide
    have hlt : ((0 : Int) ≤ 12) = True := eq_true (by omega)
    have h117 := c117n
    simp only [go_sem, reduceIte, Nat.reduceEqDiff, Nat.reduceAdd, Nat.reduceSub, Nat.reduceLeDiff, Nat.reduceLT, reduceCtorEq, Int.reduceLT, Int.reduceLE, Int.reduceEq, Int.reduceBEq, Int.reduceSub, Int.reduceAdd, Int.reduceMul, Int.reduceNeg, Int.reduceToNat, Nat.reduceMul, Nat.reduceBEq, index_rsl_if, setm, make_ints, condK_dec, wantK_dec, not_dec, and_dec, or_dec, seqK_ite, seqK_none, blockK_ite, blockK_none, opsK_ite, opsK_none, stepK_ite, stepK_none, bodyK_ite, bodyK_none, resK_ite, resK_none, leaveK_ite, leaveK_none, only_ite, only_none, bind_ite, gives_some, gives_none, gives_ite, then_normal, then_ret, then_exit, then_none, then_ite, Option.bind_none, Bool.not_eq_true', decide_eq_false_iff_not, Bool.and_eq_true, Bool.or_eq_true, Option.some.injEq, Int.not_lt, Int.not_le, lp100_0, hw, hlt, h117, show pure 117 = false from rfl]
  clear hg
  obtain ⟨rfl, rfl⟩ := h2
  simp only [go_sem, reduceIte, Nat.reduceEqDiff, Nat.reduceAdd, Nat.reduceSub, Nat.reduceLeDiff, Nat.reduceLT, reduceCtorEq, Int.reduceLT, Int.reduceLE, Int.reduceEq, Int.reduceBEq, Int.reduceSub, Int.reduceAdd, Int.reduceMul, Int.reduceNeg, Int.reduceToNat, Nat.reduceMul, Nat.reduceBEq]
theorem c67n (st : St) : run L 67 [.v (.slice none 0 0)] st = some (.tup [], st) := by
  rw [run_shared (fn := ir67) rfl rfl]
  have hw : IntKind.u64.wrap 0 = 0 := by decide
  have h101 := fun st => c101 0 (by omega) st
  have h100 := fun st => c100n (blN 0 : Nat) st
  simp only [Int.natCast_zero] at h101
  simp only [ir67, go_sem, reduceIte, Nat.reduceEqDiff, Nat.reduceAdd, Nat.reduceSub, Nat.reduceLeDiff, Nat.reduceLT, reduceCtorEq, Int.reduceLT, Int.reduceLE, Int.reduceEq, Int.reduceBEq, Int.reduceSub, Int.reduceAdd, Int.reduceMul, Int.reduceNeg, Int.reduceToNat, Nat.reduceMul, Nat.reduceBEq, hw, h101, h100, show pure 100 = false from rfl]

theorem loop14_2e (S : List (List AV)) (n : Nat) (u : Nat) (hok : True) (env : Env) (st : St)
    (hg : gcAV true 5 0 (canon env [5, 6, 9, 26, 183, 184, 185, 3000000]) st = ([(5, .ptr 2 0), (6, .rsl 3 0 n n 1 false), (9, .ptr 4 0), (26, .v (.slice none 0 0)), (183, sl 1 true []), (184, I 0), (185, I 0), (3000000, .any)], ⟨S, []⟩)) :
    ∃ x_1 en s, lim (headed pure (run L) true [5, 6, 9, 26, 183, 184, 185, 3000000] lp14_2 5 0) env st = some (x_1, en, s) ∧ (x_1 = .exit 4 ∧ en.get 9 = .ptr 4 0 ∧ en.get 26 = .v (.slice none 0 0) ∧ s = ⟨S, []⟩) := by
  refine loop_wp (α := Nat) (fun u => u) (fun u => True) (fun u => ([(5, .ptr 2 0), (6, .rsl 3 0 n n 1 false), (9, .ptr 4 0), (26, .v (.slice none 0 0)), (183, sl 1 true []), (184, I 0), (185, I 0), (3000000, .any)], ⟨S, []⟩)) (fun u x_1 en s => x_1 = .exit 4 ∧ en.get 9 = .ptr 4 0 ∧ en.get 26 = .v (.slice none 0 0) ∧ s = ⟨S, []⟩) (fun u hok => ?_) u hok env st hg
  have hlt : ((0 : Int) < 0) = False := eq_false (by omega)
  simp only [go_sem, reduceIte, Nat.reduceEqDiff, Nat.reduceAdd, Nat.reduceSub, Nat.reduceLeDiff, Nat.reduceLT, reduceCtorEq, Int.reduceLT, Int.reduceLE, Int.reduceEq, Int.reduceBEq, Int.reduceSub, Int.reduceAdd, Int.reduceMul, Int.reduceNeg, Int.reduceToNat, Nat.reduceMul, Nat.reduceBEq, index_rsl_if, setm, make_ints, condK_dec, wantK_dec, not_dec, and_dec, or_dec, seqK_ite, seqK_none, blockK_ite, blockK_none, opsK_ite, opsK_none, stepK_ite, stepK_none, bodyK_ite, bodyK_none, resK_ite, resK_none, leaveK_ite, leaveK_none, only_ite, only_none, bind_ite, gives_some, gives_none, gives_ite, then_normal, then_ret, then_exit, then_none, then_ite, Option.bind_none, Bool.not_eq_true', decide_eq_false_iff_not, Bool.and_eq_true, Bool.or_eq_true, Option.some.injEq, Int.not_lt, Int.not_le, lp14_2, hlt]

theorem frzV_rsl_ne {l l' : Nat} (h : l' ≠ l) (cs : List AV) (o n c z : Nat) (a : Bool) : frzV l cs (.rsl l' o n c z a) = .rsl l' o n c z a := by
  simp only [frzV]; rw [if_neg (fun e => h e.1)]

set_option maxHeartbeats 4000000 in
theorem c14 (zs ys : List Int) (hzl : zs.length = 22) (hz : ∀ a ∈ zs, Byte a) (hyl : ys.length = 7) (hy : ∀ a ∈ ys, Byte a) (st : St) : run L 14 [qAV zs, .agg (ys.map B8)] st = some (B true, st) := by
  rw [run_pure (fn := ir14) rfl rfl]
  have h44 := fun st => c44 zs hzl hz 1 (.inl rfl) st
  obtain ⟨n, hN, hn1, _, hn, hlen, hps, h7, hnd, hck⟩ := made_ok (.inl rfl : (1 : Int) = 1 ∨ (1 : Int) = 2) zs
  rw [hN] at h44
  generalize madeP 1 zs = ps at *
  have htk : (zs.map B8).take 22 = zs.map B8 := List.take_of_length_le (by simp [hzl])
  have htk7 : (ys.map B8).take 7 = ys.map B8 := List.take_of_length_le (by simp [hyl])
  -- the other book
  obtain ⟨f, hf⟩ : ∃ f : Nat → Nat, ∀ i, f i = (ys.getD i 0).toNat := ⟨fun i => (ys.getD i 0).toNat, fun _ => rfl⟩
  have hm := nmL_perm f n
  have hml := nmL_len f n
  generalize hnm : nmL f n = nm at *
  have hqs := nmPs_ok hps hm
  have q7 := nmPs_7 hn hqs
  have qnd := nmPs_nodup hps hm hnd
  have qlen : (nmPs nm ps).length = ps.length := by unfold nmPs; simp
  have qck : chk (n : Int) (nmPs nm ps) = 0 := by
    unfold chk
    rw [if_neg (by omega), if_neg (by omega)]
    exact prsErr_ok _ [] hqs (by simpa using qnd)
  -- what is answered
  have a17 := fun st => c17 true n ps st
  have a19 := fun st => c19 true n ps st
  have a26 := fun st => c26 true n ps st
  have b17 := fun st => c17 true n (nmPs nm ps) st
  have b19 := fun st => c19 true n (nmPs nm ps) st
  have b26 := fun st => c26 true n (nmPs nm ps) st
  have af : firstV (n : Int) ps = (bestL ((cheap n 2 ps).map twos), 0) := by rw [first_eq]; unfold firstR; rw [if_pos hck, Int.toNat_natCast]
  have ac : countV (n : Int) ps = (((cheap n 2 ps).length : Int), 0) := by rw [count_eq]; unfold countR; rw [if_pos hck, Int.toNat_natCast]
  have ah : hv (n : Int) ps = (halvesV n ps, 0) := by unfold hv; rw [if_pos hck, Int.toNat_natCast]
  have bf : firstV (n : Int) (nmPs nm ps) = (bestL ((cheap n 2 (nmPs nm ps)).map twos), 0) := by rw [first_eq]; unfold firstR; rw [if_pos qck, Int.toNat_natCast]
  have bc : countV (n : Int) (nmPs nm ps) = (((cheap n 2 (nmPs nm ps)).length : Int), 0) := by rw [count_eq]; unfold countR; rw [if_pos qck, Int.toNat_natCast]
  have bh : hv (n : Int) (nmPs nm ps) = (halvesV n (nmPs nm ps), 0) := by unfold hv; rw [if_pos qck, Int.toNat_natCast]
  simp only [af] at a17
  simp only [ac] at a19
  simp only [ah] at a26
  simp only [bf] at b17
  simp only [bc, nm_count hps hm] at b19
  simp only [bh] at b26
  have hfl := nm_first hps hm
  have hhl := nm_halves hps hm hn1 hn h7 q7
  obtain ⟨t1, t2, t3⟩ := halves_total hn1 hn hps h7
  obtain ⟨u1, u2, _⟩ := halves_total hn1 hn hqs q7
  have a45 := fun st => c45 true (halvesV n ps) (by omega) n st
  have b45 := fun st => c45 true (halvesV n (nmPs nm ps)) (by omega) n st
  rw [t2] at a45
  rw [u2, hhl] at b45
  -- the first list, with the other numbers
  obtain ⟨y, hyc, hye⟩ := first_cheap (n := n) (ps := ps) hps
  have hyl2 := (allL_in n y (cheap_mem.1 hyc).1.1).1
  have hyin := nm_in hps hm (.inr rfl) hyc
  have hval := nm_valid hn q7 qck (cheap_mem.1 hyin).1.1 (cheap_mem.1 hyin).1.2
  have hso := nm_sorted hm hyl2
  rw [← hso] at hval
  have hlin := twos_in hyl2
  have hl7 : (bestL ((cheap n 2 ps).map twos)).length ≤ 7 := by
    have := firstV_len n ps
    rw [af] at this; exact this
  have hnil : ps = [] → bestL ((cheap n 2 ps).map twos) = [] := by rintro rfl; exact cheap_nil
  rw [← hye] at hval hlin
  have hlT : (sortL ltI ((bestL ((cheap n 2 ps).map twos)).map (nmI nm))).length = (bestL ((cheap n 2 ps).map twos)).length := by
    rw [(sortL_perm ltI _).length_eq, List.length_map]
  have h24 := fun st => c24 true true n (nmPs nm ps) (sortL ltI ((bestL ((cheap n 2 ps).map twos)).map (nmI nm))) (by omega) st
  have hval' : validV n (nmPs nm ps) (sortL ltI ((bestL ((cheap n 2 ps).map twos)).map (nmI nm))) = 0 := hval
  rw [hval'] at h24
  clear af ac ah bf bc bh hye hyc hyin hval hval' hso
  have hrev : (ps.map (nmP nm)).reverse = nmPs nm ps := rfl
  have hQ : Inert (zs.map B8) := inert_map (fun a => Value.int .u8 a) zs
  have hY : Inert (ys.map B8) := inert_map (fun a => Value.int .u8 a) ys
  have hB : Inert (bkCells true n ps) := inert_bk _ _ _
  have hN : Inert (nm.map fun (a : Nat) => I (a : Int)) := inert_map (fun a : Nat => Value.int .i64 (a : Int)) nm
  have hz0 : ∀ (S : List (List AV)) (T : List Nat), makeAV 1 false [I 0] ⟨S, T⟩ (I n) (I n) = some (.rsl S.length 0 n n 1 false, ⟨S ++ [nmC [] n], T⟩) := by
    intro S T
    have : (List.replicate n [I 0]).flatten = nmC [] n := by simp [nmC]
    simp only [makeAV, natOf]
    rw [if_pos (by omega)]
    simp only [Int.toNat_natCast]
    rw [if_pos ⟨Nat.le_refl _, by unfold maxGrow; omega⟩, this]
  have iz := inert_nm [] n
  generalize bestL ((cheap n 2 ps).map twos) = l at *
  generalize bestL ((cheap n 2 (nmPs nm ps)).map twos) = m at *
  generalize halvesV n ps = v at *
  generalize halvesV n (nmPs nm ps) = w at *
  have q1 : ((l.length : Int) = (m.length : Int)) = True := eq_true (by omega)
  have q2 : (sumL v < 0) = False := eq_false (by omega)
  simp only [ir14, go_sem, reduceIte, Nat.reduceEqDiff, Nat.reduceAdd, Nat.reduceSub, Nat.reduceLeDiff, Nat.reduceLT, reduceCtorEq, Int.reduceLT, Int.reduceLE, Int.reduceEq, Int.reduceBEq, Int.reduceSub, Int.reduceAdd, Int.reduceMul, Int.reduceNeg, Int.reduceToNat, Nat.reduceMul, Nat.reduceBEq, okRefsB, pubsB, storableB, htk, htk7, hzl, hyl, h44, hz0, List.length_map]
  generalize hg : lim (headed pure (run L) true _ lp14_0 _ _) _ _ = o
  obtain ⟨x, en, s, rfl, h2⟩ : ∃ x en s, o = some (x, en, s) ∧ _ := by rw [← hg]; exact loop14_0 (zs.map B8) (bkCells true n ps) hQ hB ys hyl hy n hn f (fun i _ => hf i) 0 (Nat.zero_le _) _ _ (by simp only [go_sem, reduceIte, Nat.reduceEqDiff, Nat.reduceAdd, Nat.reduceSub, Nat.reduceLeDiff, Nat.reduceLT, reduceCtorEq, Int.reduceLT, Int.reduceLE, Int.reduceEq, Int.reduceBEq, Int.reduceSub, Int.reduceAdd, Int.reduceMul, Int.reduceNeg, Int.reduceToNat, Nat.reduceMul, Nat.reduceBEq, hQ.1, hQ.2.1, hQ.2.2.1, hQ.2.2.2.1, hQ.2.2.2.2, hY.1, hY.2.1, hY.2.2.1, hY.2.2.2.1, hY.2.2.2.2, hB.1, hB.2.1, hB.2.2.1, hB.2.2.2.1, hB.2.2.2.2, iz.1, iz.2.1, iz.2.2.1, iz.2.2.2.1, iz.2.2.2.2, nmL, List.range_zero, List.foldl_nil, Nat.sub_zero, Int.natCast_zero] <;> rfl)
  clear hg
  obtain ⟨rfl, e5, e6, ek, rfl⟩ := h2
  rw [hnm]
  have hml2 : nm.length = n := hml
  simp only [go_sem, reduceIte, Nat.reduceEqDiff, Nat.reduceAdd, Nat.reduceSub, Nat.reduceLeDiff, Nat.reduceLT, reduceCtorEq, Int.reduceLT, Int.reduceLE, Int.reduceEq, Int.reduceBEq, Int.reduceSub, Int.reduceAdd, Int.reduceMul, Int.reduceNeg, Int.reduceToNat, Nat.reduceMul, Nat.reduceBEq, e5, e6]
  generalize hg : lim (headed pure (run L) true _ lp14_1 _ _) _ _ = o
  obtain ⟨x, en, s, rfl, h2⟩ : ∃ x en s, o = some (x, en, s) ∧ _ := by rw [← hg]; exact loop14_1 (zs.map B8) (ys.map B8) (bkCells true n ps) hQ hY hB n hn nm hml ps hps hlen 0 [] ⟨Nat.zero_le _, rfl⟩ _ _ (by simp only [go_sem, reduceIte, Nat.reduceEqDiff, Nat.reduceAdd, Nat.reduceSub, Nat.reduceLeDiff, Nat.reduceLT, reduceCtorEq, Int.reduceLT, Int.reduceLE, Int.reduceEq, Int.reduceBEq, Int.reduceSub, Int.reduceAdd, Int.reduceMul, Int.reduceNeg, Int.reduceToNat, Nat.reduceMul, Nat.reduceBEq, hQ.1, hQ.2.1, hQ.2.2.1, hQ.2.2.2.1, hY.1, hY.2.1, hY.2.2.1, hY.2.2.2.1, hB.1, hB.2.1, hB.2.2.1, hB.2.2.2.1, hN.1, hN.2.1, hN.2.2.1, hN.2.2.2.1, compact, compactW, refsEnv, refsV, refsL, refsStore, refsAt, mapEnv, mapL, mapLs, newName, posOf, mapStore, pickStore, namesOk, refsV_sl, mapL_sl, List.contains_nil, List.contains_cons, Option.getD_some, hasKey, e5, e6, ek, show wpA 5 [] = .v (.slice none 0 0) from rfl, show wpS [] = [] from rfl, List.append_nil, Int.natCast_zero, List.length_map] <;> rfl)
  clear hg
  obtain ⟨rfl, f5, f6, f9, fk, rfl⟩ := h2
  by_cases hps0 : ps = []
  · have eA : wpA 5 (ps.map (nmP nm)) = .v (.slice none 0 0) := by rw [hps0]; rfl
    have eS : wpS (ps.map (nmP nm)) = [] := by rw [hps0]; rfl
    have eB : bkAV true n (nmPs nm ps) = .agg [I n, .v (.slice none 0 0)] := by rw [hps0]; rfl
    have el := hnil hps0
    subst el
    have h24' : ∀ st, run L 24 [bkAV true n (nmPs nm ps), .v (.slice none 0 0)] st = some (I 0, st) := h24
    rw [eB] at h24'
    simp only [eB] at b17 b19 b26
    rw [eA, eS]
    simp only [go_sem, reduceIte, Nat.reduceEqDiff, Nat.reduceAdd, Nat.reduceSub, Nat.reduceLeDiff, Nat.reduceLT, reduceCtorEq, Int.reduceLT, Int.reduceLE, Int.reduceEq, Int.reduceBEq, Int.reduceSub, Int.reduceAdd, Int.reduceMul, Int.reduceNeg, Int.reduceToNat, Nat.reduceMul, Nat.reduceBEq, List.length_map, f5, f6, f9, fk, c66n, code_frz, frzAV, frzT, frzLs, rslsOf, frzEnv, frzEnv_get, frzStore, frzVs, frzV_v, frzV_ptr, frzV_sl, hQ.2.2.2.2, hY.2.2.2.2, hB.2.2.2.2, hN.2.2.2.2, show pure 66 = false from rfl, a17, a19, a26, b17, b19, b26, a45, b45, q1, q2, hfl]
    generalize hg : lim (headed pure (run L) true _ lp14_2 _ _) _ _ = o
    obtain ⟨x, en, s, rfl, h2⟩ : ∃ x en s, o = some (x, en, s) ∧ _ := by rw [← hg]; exact loop14_2e [zs.map B8, ys.map B8, bkCells true n ps, nm.map fun (a : Nat) => I (a : Int), [I n, .v (.slice none 0 0)]] n 0 trivial _ _ (by simp only [go_sem, reduceIte, Nat.reduceEqDiff, Nat.reduceAdd, Nat.reduceSub, Nat.reduceLeDiff, Nat.reduceLT, reduceCtorEq, Int.reduceLT, Int.reduceLE, Int.reduceEq, Int.reduceBEq, Int.reduceSub, Int.reduceAdd, Int.reduceMul, Int.reduceNeg, Int.reduceToNat, Nat.reduceMul, Nat.reduceBEq, hQ.1, hQ.2.1, hQ.2.2.1, hQ.2.2.2.1, hY.1, hY.2.1, hY.2.2.1, hY.2.2.2.1, hB.1, hB.2.1, hB.2.2.1, hB.2.2.2.1, hN.1, hN.2.1, hN.2.2.1, hN.2.2.2.1, compact, compactW, refsEnv, refsV, refsL, refsStore, refsAt, mapEnv, mapL, mapLs, newName, posOf, mapStore, pickStore, namesOk, refsV_sl, mapL_sl, List.contains_nil, List.contains_cons, Option.getD_some, hasKey, f5, f6, f9, fk, List.map_nil, Int.natCast_zero] <;> rfl)
    clear hg
    obtain ⟨rfl, g9, g26, rfl⟩ := h2
    simp only [go_sem, reduceIte, Nat.reduceEqDiff, Nat.reduceAdd, Nat.reduceSub, Nat.reduceLeDiff, Nat.reduceLT, reduceCtorEq, Int.reduceLT, Int.reduceLE, Int.reduceEq, Int.reduceBEq, Int.reduceSub, Int.reduceAdd, Int.reduceMul, Int.reduceNeg, Int.reduceToNat, Nat.reduceMul, Nat.reduceBEq, g9, g26, c67n, code_frz, frzAV, frzT, frzLs, rslsOf, frzEnv, frzEnv_get, frzStore, frzVs, frzV_v, frzV_ptr, frzV_sl, hQ.2.2.2.2, hY.2.2.2.2, hB.2.2.2.2, hN.2.2.2.2, show pure 67 = false from rfl, h24', c16]
  · have hX : ps.map (nmP nm) ≠ [] := by simpa using hps0
    have hqne : nmPs nm ps ≠ [] := by unfold nmPs; simpa using hps0
    have eA := wpA_ne (l := 5) hX
    have eS := wpS_ne hX
    rw [List.length_map] at eA
    have h66 := c66 [zs.map B8, ys.map B8, bkCells true n ps, nm.map fun (a : Nat) => I (a : Int), [I n, .rsl 5 0 ps.length ps.length 2 true], prC (ps.map (nmP nm))] [] 5 (ps.map (nmP nm)) rfl (by rw [List.length_map]; omega)
    rw [List.length_map, hrev] at h66
    simp only [List.set_cons_succ, List.set_cons_zero] at h66
    have hfv := frz_wp 5 _ hqne
    rw [qlen] at hfv
    have hfz := fun O E => frzL5 (Q := zs.map B8) (Y := ys.map B8) (B := bkCells true n ps) (N := nm.map fun (a : Nat) => I (a : Int)) (O := O) (prC_ne hqne) E
    have h6 := frzV_rsl_ne (show 3 ≠ 5 by omega) (prC (nmPs nm ps)) 0 n n 1 false
    rw [eA, eS]
    generalize prC (nmPs nm ps) = C at *
    generalize prC (ps.map (nmP nm)) = C' at *
    simp only [go_sem, reduceIte, Nat.reduceEqDiff, Nat.reduceAdd, Nat.reduceSub, Nat.reduceLeDiff, Nat.reduceLT, reduceCtorEq, Int.reduceLT, Int.reduceLE, Int.reduceEq, Int.reduceBEq, Int.reduceSub, Int.reduceAdd, Int.reduceMul, Int.reduceNeg, Int.reduceToNat, Nat.reduceMul, Nat.reduceBEq, List.length_map, f5, f6, f9, fk, h66, hfz, hfv, h6, code_frz, frzAV, frzT, frzLs, rslsOf, frzEnv, frzEnv_get, frzStore, frzVs, frzV_v, frzV_ptr, frzV_sl, hQ.2.2.2.2, hY.2.2.2.2, hB.2.2.2.2, hN.2.2.2.2, show pure 66 = false from rfl, a17, a19, a26, b17, b19, b26, a45, b45, q1, q2, hfl]
    have hO : Inert (bkCells true n (nmPs nm ps)) := inert_bk _ _ _
    generalize hg : lim (headed pure (run L) true _ lp14_2 _ _) _ _ = o
    obtain ⟨x, en, s, rfl, h2⟩ : ∃ x en s, o = some (x, en, s) ∧ _ := by rw [← hg]; exact loop14_2 (zs.map B8) (ys.map B8) (bkCells true n ps) (bkCells true n (nmPs nm ps)) hQ hY hB hO n hn rfl (by simp [bkCells]) nm hml2 l hlin (by omega) 0 [] ⟨Nat.zero_le _, rfl⟩ _ _ (by simp only [go_sem, reduceIte, Nat.reduceEqDiff, Nat.reduceAdd, Nat.reduceSub, Nat.reduceLeDiff, Nat.reduceLT, reduceCtorEq, Int.reduceLT, Int.reduceLE, Int.reduceEq, Int.reduceBEq, Int.reduceSub, Int.reduceAdd, Int.reduceMul, Int.reduceNeg, Int.reduceToNat, Nat.reduceMul, Nat.reduceBEq, hQ.1, hQ.2.1, hQ.2.2.1, hQ.2.2.2.1, hY.1, hY.2.1, hY.2.2.1, hY.2.2.2.1, hB.1, hB.2.1, hB.2.2.1, hB.2.2.2.1, hN.1, hN.2.1, hN.2.2.1, hN.2.2.2.1, hO.1, hO.2.1, hO.2.2.1, hO.2.2.2.1, compact, compactW, refsEnv, refsV, refsL, refsStore, refsAt, mapEnv, mapL, mapLs, newName, posOf, mapStore, pickStore, namesOk, refsV_sl, mapL_sl, List.contains_nil, List.contains_cons, Option.getD_some, hasKey, f5, f6, f9, fk, frzEnv_get, frzV_v, frzV_ptr, frzV_any, h6, show wiA 6 [] = .v (.slice none 0 0) from rfl, show wiS [] = [] from rfl, List.append_nil, Int.natCast_zero] <;> rfl)
    clear hg
    obtain ⟨rfl, g9, g26, rfl⟩ := h2
    by_cases hl0 : l = []
    · have eA2 : wiA 6 (l.map (nmI nm)) = .v (.slice none 0 0) := by rw [hl0]; rfl
      have eS2 : wiS (l.map (nmI nm)) = [] := by rw [hl0]; rfl
      have h24' : ∀ st, run L 24 [bkAV true n (nmPs nm ps), .v (.slice none 0 0)] st = some (I 0, st) := by
        have := h24
        rw [hl0] at this; exact this
      rw [eA2] at g26
      rw [eS2]
      simp only [go_sem, reduceIte, Nat.reduceEqDiff, Nat.reduceAdd, Nat.reduceSub, Nat.reduceLeDiff, Nat.reduceLT, reduceCtorEq, Int.reduceLT, Int.reduceLE, Int.reduceEq, Int.reduceBEq, Int.reduceSub, Int.reduceAdd, Int.reduceMul, Int.reduceNeg, Int.reduceToNat, Nat.reduceMul, Nat.reduceBEq, g9, g26, c67n, code_frz, frzAV, frzT, frzLs, rslsOf, frzEnv, frzEnv_get, frzStore, frzVs, frzV_v, frzV_ptr, frzV_sl, hQ.2.2.2.2, hY.2.2.2.2, hB.2.2.2.2, hN.2.2.2.2, hO.2.2.2.2, show pure 67 = false from rfl, h24', c16]
    · have hX2 : l.map (nmI nm) ≠ [] := by simpa using hl0
      have hY2 : sortL ltI (l.map (nmI nm)) ≠ [] := by
        intro e; rw [e] at hlT; exact hl0 (List.length_eq_zero_iff.1 hlT.symm)
      have eA2 := wiA_ne (l := 6) hX2
      have eS2 := wiS_ne hX2
      rw [List.length_map] at eA2
      have hpos : 1 ≤ l.length := by
        cases l with
        | nil => exact absurd rfl hl0
        | cons x r => simp
      have h67 := c67 [zs.map B8, ys.map B8, bkCells true n ps, nm.map fun (a : Nat) => I (a : Int), bkCells true n (nmPs nm ps), [], (l.map (nmI nm)).map I] [] 6 (l.map (nmI nm)) rfl (by rw [List.length_map]; omega) (by rw [List.length_map]; omega)
      rw [List.length_map] at h67
      simp only [List.set_cons_succ, List.set_cons_zero] at h67
      have hfv2 := frzV_made 6 (sortL ltI (l.map (nmI nm))) hY2
      rw [hlT] at hfv2
      have hfz2 := fun E => frzL6 (Q := zs.map B8) (Y := ys.map B8) (B := bkCells true n ps) (N := nm.map fun (a : Nat) => I (a : Int)) (O := bkCells true n (nmPs nm ps)) (C := (sortL ltI (l.map (nmI nm))).map I) (by simpa using hY2) E
      rw [eA2] at g26
      rw [eS2]
      generalize sortL ltI (l.map (nmI nm)) = Z at *
      generalize (l.map (nmI nm)).map I = C2 at *
      simp only [go_sem, reduceIte, Nat.reduceEqDiff, Nat.reduceAdd, Nat.reduceSub, Nat.reduceLeDiff, Nat.reduceLT, reduceCtorEq, Int.reduceLT, Int.reduceLE, Int.reduceEq, Int.reduceBEq, Int.reduceSub, Int.reduceAdd, Int.reduceMul, Int.reduceNeg, Int.reduceToNat, Nat.reduceMul, Nat.reduceBEq, g9, g26, h67, hfz2, hfv2, code_frz, frzAV, frzT, frzLs, rslsOf, frzEnv, frzEnv_get, frzStore, frzVs, frzV_v, frzV_ptr, frzV_sl, hQ.2.2.2.2, hY.2.2.2.2, hB.2.2.2.2, hN.2.2.2.2, hO.2.2.2.2, show pure 67 = false from rfl, h24, c16]
end Go.Proofs.YtpmbfgogpcjdlaaDoor.Vm
