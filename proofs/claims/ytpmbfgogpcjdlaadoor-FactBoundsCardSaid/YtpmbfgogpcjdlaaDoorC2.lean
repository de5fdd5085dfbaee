/- What is proved: what each function of this program computes, as equations on the evaluator. No condition. -/
import Derived.Test.YtpmbfgogpcjdlaaDoorC1
import Derived.KernelRfl
import Derived.Test.YtpmbfgogpcjdlaaDoorFkf
set_option linter.all false
namespace Go.Proofs.YtpmbfgogpcjdlaaDoor.Vm
open Go Go.Ev
set_option maxRecDepth 100000
attribute [local go_sem] cells_any storable_any ren1_any shaped_ptr cells_ptr storable_ptr ren1_ptr shaped_eptr cells_eptr storable_eptr ren1_eptr shaped_rsl cells_rsl storable_rsl ren1_rsl shaped_int cells_int storable_int ren1_int shaped_bool cells_bool storable_bool ren1_bool shaped_nils cells_nils storable_nils ren1_nils shaped_lst cells_lst storable_lst shaped_fn cells_fn storable_fn ren1_fn shaped_ifc cells_ifc storable_ifc ren1_ifc shaped_agg cells_agg storable_agg ren1_agg shaped_tup cells_tup storable_tup ren1_tup shaped_nif cells_nif storable_nif ren1_nif ren1_lany ren1_lfull ren1_lown len_lst len_rsl len_nil load_ptr load_eptr isRsl_lst isRsl_nil isRsl_rsl elems_nil elems_lst elems_sl isRsl_sl body_eq bodyK_normal bodyK_ret resK_some leaveK_some only_some code_skip code_exit code_ret code_ops code_seq code_cond code_block seqK_normal seqK_ret seqK_exit condK_true condK_false blockK_normal blockK_ret blockK_exit opsK_some ops_nil ops_cons wantK_true wantK_false stepK_some pubs pub pub_sl params okRef_loc storable_loc shaped_loc cells_loc isRsl_loc elems_loc len_loc untips untip untip_sl wantedAV setElems withO isAgg_v isAgg_agg isAgg_lst isAgg_ptr isAgg_fn isAgg_ifc isAgg_rsl isAgg_sl isAgg_loc List.replicate_succ List.replicate_zero opAV valAV aval avals ofVal Env.get setD canon gcAV renAll renEnv renStore renCells ren1_sl cutSt okEnv okStore okRefs okRef okRef_sl bin_int bin_bool bin_lst bin_rsl bin_nil bin_agg cellsEq cellEq isShift intOp boolOp min_int max_int beq_int bne resAV tupAV leave_eq fin_sl fin_loc fins fin_v fin_lst fin_agg fin_tup fin_fn storeAV readCells putCells cells_sl shaped_sl storable_sl fieldAddrAV len_sl goI List.getElem?_cons_zero List.getElem?_cons_succ List.getElem?_nil Option.bind_some Option.map_some List.length_cons List.length_nil List.all_cons List.all_nil Bool.and_true Bool.true_and Bool.and_false Bool.false_and and_true true_and and_false false_and Bool.false_eq_true List.set_cons_zero List.set_cons_succ List.append_nil List.nil_append List.cons_append List.take_zero List.take_succ_cons List.take_nil List.drop_zero List.drop_succ_cons List.map_cons List.map_nil decide_true decide_false beq_self_eq_true Bool.not_true Bool.not_false or_true true_or or_false false_or Nat.zero_add Nat.add_zero Nat.le_refl Nat.lt_irrefl decide_eq_true_eq eq_self_iff_true not_true_eq_false not_false_eq_true List.getD_cons_zero code_loop Nat.zero_le Nat.not_lt_zero Bool.true_beq Bool.false_beq beq_true beq_false ge_iff_le gt_iff_lt Lpure pus Option.map_none assert_ifc assert_nil idxA_ptr idxA_eptr idxV_agg Int.cast_ofNat_Int Nat.mul_one Nat.zero_mul Int.toNat_natCast Int.toNat_zero setParts withO2 hasKey eqnil_sl nenil_sl eqnil_loc nenil_loc map_nil_iff okRefs_ints renCells_ints

/-! ### how many sets of articles there are that nothing can be added to (Moon and Moser) -/
def gM (k : Nat) : Nat := [1, 1, 2, 3, 4, 6, 9, 12].getD k 0
theorem gM_step : (List.range 8).all (fun k => (List.range 8).all fun d => Nat.ble 1 d && Nat.ble d k → decide (d * gM (k - d) ≤ gM k)) = true := by decide
theorem gM_mono : (List.range 8).all (fun a => (List.range 8).all fun b => Nat.ble a b → decide (gM a ≤ gM b)) = true := by decide
theorem gM_step' {k d : Nat} (hk : k ≤ 7) (h1 : 1 ≤ d) (h2 : d ≤ k) : d * gM (k - d) ≤ gM k := by
  have h := List.all_eq_true.1 (List.all_eq_true.1 gM_step k (List.mem_range.2 (by omega))) d (List.mem_range.2 (by omega))
  rw [decide_eq_true_iff] at h
  exact of_decide_eq_true (h (by rw [Nat.ble_eq_true_of_le h1, Nat.ble_eq_true_of_le h2]; rfl))
theorem gM_mono' {a b : Nat} (hb : b ≤ 7) (h : a ≤ b) : gM a ≤ gM b := by
  have h2 := List.all_eq_true.1 (List.all_eq_true.1 gM_mono a (List.mem_range.2 (by omega))) b (List.mem_range.2 (by omega))
  rw [decide_eq_true_iff] at h2
  exact of_decide_eq_true (h2 (Nat.ble_eq_true_of_le h))
theorem filter_len_lt {α : Type} {p q : α → Bool} : ∀ l : List α, (∀ x ∈ l, p x = true → q x = true) → (∃ x ∈ l, q x = true ∧ p x = false) → (l.filter p).length < (l.filter q).length
  | [], _, h => by obtain ⟨x, hx, _⟩ := h; simp at hx
  | a :: l, h1, h2 => by
    have ih := fun h => filter_len_lt (p := p) (q := q) l (fun x hx => h1 x (by simp [hx])) h
    have hle := filter_le_len p q l (fun x hx => h1 x (by simp [hx]))
    have ha := h1 a (by simp)
    obtain ⟨x, hx, h3, h4⟩ := h2
    rcases List.mem_cons.1 hx with rfl | hx
    · rw [List.filter_cons_of_neg (by simp [h4]), List.filter_cons_of_pos h3, List.length_cons]; omega
    · have := ih ⟨x, hx, h3, h4⟩
      cases e1 : p a
      · rw [List.filter_cons_of_neg (by simp [e1])]
        cases e2 : q a
        · rw [List.filter_cons_of_neg (by simp [e2])]; exact this
        · rw [List.filter_cons_of_pos e2, List.length_cons]; omega
      · rw [List.filter_cons_of_pos e1, List.filter_cons_of_pos (ha e1), List.length_cons, List.length_cons]; omega
theorem union_len {p : Nat → Nat → Bool} {B : Nat} : ∀ (K L : List Nat), (∀ z ∈ L, ∃ w ∈ K, p w z = true) → (∀ w ∈ K, (L.filter (p w)).length ≤ B) → L.length ≤ K.length * B
  | [], L, h, _ => by
    cases L with
    | nil => simp
    | cons z L => obtain ⟨w, hw, _⟩ := h z (by simp); simp at hw
  | w :: K, L, h, hB => by
    have h1 := hB w (by simp)
    have h2 := filter_lt (p w) L
    have h3 := union_len (p := p) (B := B) K (L.filter fun z => !p w z) (by
      intro z hz
      rw [List.mem_filter] at hz
      obtain ⟨u, hu, h4⟩ := h z hz.1
      rcases List.mem_cons.1 hu with rfl | hu
      · rw [h4] at hz; simp at hz
      · exact ⟨u, hu, h4⟩) (by
      intro u hu
      rw [List.filter_filter]
      have h4 := hB u (by simp [hu])
      have h5 := filter_le_len (fun z => p u z && !p w z) (p u) L (fun x _ hx => by rw [Bool.and_eq_true] at hx; exact hx.1)
      omega)
    rw [List.length_cons, Nat.add_mul]; omega
/-- Articles that do not contradict each other, to which none can be added. -/
def Mx (J : Nat → Nat → Bool) (V : Nat → Bool) (z : Nat) : Prop :=
  z < 128 ∧ (∀ u, z.testBit u = true → V u = true) ∧ (∀ u w, z.testBit u = true → z.testBit w = true → J u w = false) ∧ ∀ u, u < 7 → V u = true → z.testBit u = true ∨ ∃ w, w < 7 ∧ z.testBit w = true ∧ J u w = true
def sizeV (V : Nat → Bool) : Nat := ((List.range 7).filter V).length
def nbV (J : Nat → Nat → Bool) (V : Nat → Bool) (v : Nat) : List Nat := (List.range 7).filter fun u => V u && (u == v || J v u)
def offV (J : Nat → Nat → Bool) (V : Nat → Bool) (v : Nat) : Nat → Bool := fun u => V u && !(u == v || J v u)
theorem off_size (J : Nat → Nat → Bool) (V : Nat → Bool) (v : Nat) : sizeV (offV J V v) + (nbV J V v).length = sizeV V := by
  unfold sizeV nbV offV
  have h := filter_lt (fun u => u == v || J v u) ((List.range 7).filter V)
  rw [List.filter_filter, List.filter_filter] at h
  have e1 : (List.range 7).filter (fun u => V u && (u == v || J v u)) = (List.range 7).filter fun u => (u == v || J v u) && V u := by
    congr 1; funext u; exact Bool.and_comm _ _
  have e2 : (List.range 7).filter (fun u => V u && !(u == v || J v u)) = (List.range 7).filter fun u => !(u == v || J v u) && V u := by
    congr 1; funext u; exact Bool.and_comm _ _
  rw [e1, e2]; omega
theorem xor_bit (z w u : Nat) : (z ^^^ 2 ^ w).testBit u = (z.testBit u ^^ decide (w = u)) := by rw [Nat.testBit_xor, Nat.testBit_two_pow]
theorem xor_back (z w : Nat) : (z ^^^ 2 ^ w) ^^^ 2 ^ w = z := by
  apply Nat.eq_of_testBit_eq
  intro u
  rw [xor_bit, xor_bit, Bool.xor_assoc, Bool.xor_self, Bool.xor_false]
theorem nodup_map_inj {α β : Type} {f : α → β} : ∀ {l : List α}, l.Nodup → (∀ a ∈ l, ∀ b ∈ l, f a = f b → a = b) → (l.map f).Nodup
  | [], _, _ => by simp
  | a :: l, h, hi => by
    rw [List.nodup_cons] at h
    rw [List.map_cons, List.nodup_cons]
    refine ⟨?_, nodup_map_inj h.2 (fun x hx y hy => hi x (by simp [hx]) y (by simp [hy]))⟩
    intro hm
    obtain ⟨b, hb, e⟩ := List.mem_map.1 hm
    have := hi b (by simp [hb]) a (by simp) e
    subst this; exact h.1 hb
theorem mm {J : Nat → Nat → Bool} (hs : ∀ a b, J a b = J b a) (hr : ∀ a, J a a = false) : ∀ (k : Nat), k ≤ 7 → ∀ V : Nat → Bool, (∀ u, V u = true → u < 7) → sizeV V = k → ∀ L : List Nat, L.Nodup → (∀ z ∈ L, Mx J V z) → L.length ≤ gM k := by
  intro k
  induction k using Nat.strongRecOn with
  | ind k ih =>
    intro hk V hV7 hV L hnd hL
    by_cases h0 : k = 0
    · subst h0
      have hno : ∀ u, V u = false := by
        intro u
        cases e : V u
        · rfl
        · have : u ∈ (List.range 7).filter V := List.mem_filter.2 ⟨List.mem_range.2 (hV7 u e), e⟩
          have := List.length_pos_of_mem this
          unfold sizeV at hV; omega
      have := nodup_len_le L [0] hnd (by
        intro z hz
        have hz2 := hL z hz
        have : z = 0 := by
          apply Nat.eq_of_testBit_eq
          intro u
          rw [Nat.zero_testBit]
          cases e : z.testBit u
          · rfl
          · have := hz2.2.1 u e; rw [hno u] at this; simp at this
        simp [this])
      simpa [gM] using this
    · have hne : (List.range 7).filter V ≠ [] := by
        intro e; unfold sizeV at hV; rw [e] at hV; simp at hV; omega
      have hne2 := least_ne (fun u => ((nbV J V u).length : Int)) _ hne
      obtain ⟨v, hv⟩ := List.exists_mem_of_ne_nil _ hne2
      rw [mem_least] at hv
      obtain ⟨hv1, hv2⟩ := hv
      obtain ⟨hv7, hvV⟩ := List.mem_filter.1 hv1
      rw [List.mem_range] at hv7
      have hd1 : 1 ≤ (nbV J V v).length := List.length_pos_of_mem (a := v) (List.mem_filter.2 ⟨List.mem_range.2 hv7, by simp [hvV]⟩)
      have hsz := off_size J V v
      have hB : ∀ w ∈ nbV J V v, (L.filter fun z => z.testBit w).length ≤ gM (k - (nbV J V v).length) := by
        intro w hw
        obtain ⟨hw7, hw2⟩ := List.mem_filter.1 hw
        rw [List.mem_range] at hw7
        rw [Bool.and_eq_true] at hw2
        have hwV := hw2.1
        have hmin := hv2 w (List.mem_filter.2 ⟨List.mem_range.2 hw7, hwV⟩)
        have hw1 : 1 ≤ (nbV J V w).length := List.length_pos_of_mem (a := w) (List.mem_filter.2 ⟨List.mem_range.2 hw7, by simp [hwV]⟩)
        have hszw := off_size J V w
        have hi := ih (sizeV (offV J V w)) (by omega) (by omega) (offV J V w) (by
          intro u hu; unfold offV at hu; rw [Bool.and_eq_true] at hu; exact hV7 u hu.1) rfl ((L.filter fun z => z.testBit w).map fun z => z ^^^ 2 ^ w) (by
          apply nodup_map_inj (hnd.filter _)
          intro a _ b _ e
          have := congrArg (fun z => z ^^^ 2 ^ w) e
          simp only [xor_back] at this
          exact this) (by
          intro z' hz'
          obtain ⟨z, hz, rfl⟩ := List.mem_map.1 hz'
          obtain ⟨hz, hzw⟩ := List.mem_filter.1 hz
          obtain ⟨m1, m2, m3, m4⟩ := hL z hz
          have hbit : ∀ u, (z ^^^ 2 ^ w).testBit u = true ↔ z.testBit u = true ∧ u ≠ w := by
            intro u
            rw [xor_bit]
            by_cases e : w = u
            · subst e; rw [hzw]; simp
            · have : decide (w = u) = false := by simp [e]
              rw [this, Bool.xor_false]
              constructor
              · intro h; exact ⟨h, fun h2 => e h2.symm⟩
              · exact fun h => h.1
          refine ⟨?_, ?_, ?_, ?_⟩
          · exact Nat.xor_lt_two_pow (n := 7) m1 (Nat.pow_lt_pow_right (by omega) hw7)
          · intro u hu
            obtain ⟨h1, h2⟩ := (hbit u).1 hu
            have h3 := m3 w u hzw h1
            unfold offV
            rw [m2 u h1, h3]; simp [h2]
          · intro a b ha hb
            exact m3 a b ((hbit a).1 ha).1 ((hbit b).1 hb).1
          · intro u hu hVu
            unfold offV at hVu
            rw [Bool.and_eq_true] at hVu
            obtain ⟨g1, g2⟩ := hVu
            have g3 : u ≠ w ∧ J w u = false := by
              rw [Bool.not_eq_true', Bool.or_eq_false_iff] at g2
              exact ⟨by simpa using g2.1, g2.2⟩
            rcases m4 u hu g1 with h1 | ⟨x, h1, h2, h3⟩
            · exact .inl ((hbit u).2 ⟨h1, g3.1⟩)
            · refine .inr ⟨x, h1, (hbit x).2 ⟨h2, ?_⟩, h3⟩
              rintro rfl
              rw [hs] at h3; rw [h3] at g3; simp at g3)
        rw [List.length_map] at hi
        have := gM_mono' (a := sizeV (offV J V w)) (b := k - (nbV J V v).length) (by omega) (by omega)
        omega
      have hU := union_len (p := fun w z => z.testBit w) (B := gM (k - (nbV J V v).length)) (nbV J V v) L (by
        intro z hz
        obtain ⟨m1, m2, m3, m4⟩ := hL z hz
        rcases m4 v hv7 hvV with h1 | ⟨w, h1, h2, h3⟩
        · exact ⟨v, List.mem_filter.2 ⟨List.mem_range.2 hv7, by simp [hvV]⟩, h1⟩
        · exact ⟨w, List.mem_filter.2 ⟨List.mem_range.2 h1, by rw [m2 w h2, h3]; simp⟩, h2⟩) hB
      have := gM_step' hk hd1 (by omega)
      omega

/-! ### the shortest lists -/
def adjB (ps : List (Int × Int)) (a b : Nat) : Bool := decide (((a : Int), (b : Int)) ∈ ps) || decide (((b : Int), (a : Int)) ∈ ps)
theorem adjB_nb {ps : List (Int × Int)} {a b : Nat} : adjB ps a b = true ↔ nb ps a b := by
  unfold adjB nb; rw [Bool.or_eq_true, decide_eq_true_iff, decide_eq_true_iff]
def covZ (n : Nat) (ps : List (Int × Int)) : List Nat := leastOf (fun m => lenI (memb m)) ((List.range (2 ^ n)).filter (expl ps))
def fewV (n : Nat) (ps : List (Int × Int)) : List (List Int) := leastOf lenI (((List.range (2 ^ n)).filter (expl ps)).map memb)
theorem few_map (n : Nat) (ps : List (Int × Int)) : (covZ n ps).map memb = fewV n ps := by
  unfold covZ fewV
  exact least_map _ _ (fun a _ b _ => Iff.rfl)
theorem expl_iff {n : Nat} {ps : List (Int × Int)} (hps : ∀ p ∈ ps, 0 ≤ p.1 ∧ p.1 < p.2 ∧ p.2 < (n : Int)) (m : Nat) : expl ps m = true ↔ ∀ a b : Nat, nb ps a b → m.testBit a = true ∨ m.testBit b = true := by
  unfold expl
  rw [Bool.not_eq_true', List.any_eq_false]
  constructor
  · intro h a b hab
    rcases hab with hab | hab
    · have := h _ hab
      unfold openP at this
      simp only [Int.toNat_natCast] at this
      cases e1 : m.testBit a
      · cases e2 : m.testBit b
        · rw [e1, e2] at this; simp at this
        · exact .inr rfl
      · exact .inl rfl
    · have := h _ hab
      unfold openP at this
      simp only [Int.toNat_natCast] at this
      cases e1 : m.testBit a
      · cases e2 : m.testBit b
        · rw [e1, e2] at this; simp at this
        · exact .inr rfl
      · exact .inl rfl
  · intro h p hp
    have hb := hps p hp
    have h1 := h p.1.toNat p.2.toNat (.inl (by
      have e : (((p.1.toNat : Nat) : Int), ((p.2.toNat : Nat) : Int)) = p := Prod.ext (by simp only; omega) (by simp only; omega)
      rw [e]; exact hp))
    unfold openP
    rcases h1 with h1 | h1 <;> rw [h1] <;> simp
theorem memb_drop {m u : Nat} (hu : u < 7) (h : m.testBit u = true) : (memb (m ^^^ 2 ^ u)).length < (memb m).length := by
  unfold memb
  rw [List.length_map, List.length_map]
  apply filter_len_lt
  · intro x _ hx
    rw [xor_bit] at hx
    by_cases e : u = x
    · subst e; exact h
    · simpa [e] using hx
  · exact ⟨u, List.mem_range.2 hu, h, by rw [xor_bit, h]; simp⟩
theorem few_len {n : Nat} (hn : n ≤ 7) {ps : List (Int × Int)} (hps : ∀ p ∈ ps, 0 ≤ p.1 ∧ p.1 < p.2 ∧ p.2 < (n : Int)) : (fewV n ps).length ≤ 12 := by
  rw [← few_map, List.length_map]
  have h128 : 2 ^ n ≤ 128 := Nat.pow_le_pow_right (by omega) hn
  have hfull : ∀ u, (2 ^ n - 1).testBit u = decide (u < n) := fun u => Nat.testBit_two_pow_sub_one ..
  have hmem : ∀ m ∈ covZ n ps, m < 2 ^ n ∧ (∀ a b : Nat, nb ps a b → m.testBit a = true ∨ m.testBit b = true) ∧ ∀ y, y < 2 ^ n → expl ps y = true → (memb m).length ≤ (memb y).length := by
    intro m hm
    unfold covZ at hm
    rw [mem_least] at hm
    obtain ⟨h1, h2⟩ := hm
    obtain ⟨h3, h4⟩ := List.mem_filter.1 h1
    refine ⟨List.mem_range.1 h3, (expl_iff hps m).1 h4, ?_⟩
    intro y hy he
    have := h2 y (List.mem_filter.2 ⟨List.mem_range.2 hy, he⟩)
    unfold lenI at this; omega
  have hbit : ∀ m u, ((2 ^ n - 1) ^^^ m).testBit u = (decide (u < n) ^^ m.testBit u) := by
    intro m u; rw [Nat.testBit_xor, hfull]
  have hnd : (covZ n ps).Nodup := by
    unfold covZ leastOf
    exact (List.nodup_range.filter _).filter _
  have hsz : sizeV (fun u => decide (u < n)) = n := by
    have : ∀ n, n ≤ 7 → sizeV (fun u => decide (u < n)) = n := by decide
    exact this n hn
  have key := mm (J := adjB ps) (fun a b => by unfold adjB; exact Bool.or_comm _ _) (fun a => by
      cases e : adjB ps a a
      · rfl
      · have := nb_lt hps (adjB_nb.1 e); omega) n hn (fun u => decide (u < n)) (fun u hu => by have := of_decide_eq_true hu; omega) hsz ((covZ n ps).map fun m => (2 ^ n - 1) ^^^ m) (by
      apply nodup_map_inj hnd
      intro a _ b _ e
      apply Nat.eq_of_testBit_eq
      intro u
      have h1 := congrArg (fun z => z.testBit u) e
      simp only [hbit] at h1
      cases decide (u < n) <;> simpa using h1) (by
      intro z hz
      obtain ⟨m, hm, rfl⟩ := List.mem_map.1 hz
      obtain ⟨m1, m2, m3⟩ := hmem m hm
      have hmb : ∀ u, m.testBit u = true → u < n := fun u h => bit_lt m1 h
      refine ⟨?_, ?_, ?_, ?_⟩
      · have := Nat.xor_lt_two_pow (n := n) (x := 2 ^ n - 1) (y := m) (by have := Nat.two_pow_pos n; omega) m1
        omega
      · intro u hu
        rw [hbit] at hu
        cases e : decide (u < n)
        · rw [e] at hu
          have h1 : m.testBit u = true := by simpa using hu
          have := hmb u h1
          rw [decide_eq_false_iff_not] at e; omega
        · exact e
      · intro a b ha hb
        cases e : adjB ps a b
        · rfl
        · have hab := adjB_nb.1 e
          have hl := nb_lt hps hab
          rw [hbit] at ha hb
          rcases m2 a b hab with h1 | h1
          · rw [h1] at ha; simp [hl.1] at ha
          · rw [h1] at hb; simp [hl.2.1] at hb
      · intro u hu hun
        have hun := of_decide_eq_true hun
        by_cases hb : m.testBit u = true
        · right
          apply Classical.byContradiction
          intro hno
          have hexp : expl ps (m ^^^ 2 ^ u) = true := by
            rw [expl_iff hps]
            intro a b hab
            have hl := nb_lt hps hab
            have hkeep : ∀ x, x ≠ u → m.testBit x = true → (m ^^^ 2 ^ u).testBit x = true := by
              intro x hx h; rw [xor_bit, h]; simp; exact fun h2 => hx h2.symm
            have hall : ∀ x, x < 7 → nb ps u x → m.testBit x = true := by
              intro x hx hux
              have hl2 := nb_lt hps hux
              cases e : m.testBit x
              · exfalso; apply hno
                refine ⟨x, hx, ?_, adjB_nb.2 hux⟩
                rw [hbit, e]; simp; exact hl2.2.1
              · rfl
            by_cases ea : a = u
            · subst ea
              exact .inr (hkeep b (fun h => hl.2.2 h.symm) (hall b (by omega) hab))
            · by_cases eb : b = u
              · subst eb
                exact .inl (hkeep a ea (hall a (by omega) (nb_symm hab)))
              · rcases m2 a b hab with h | h
                · exact .inl (hkeep a ea h)
                · exact .inr (hkeep b eb h)
          have hlt : m ^^^ 2 ^ u < 2 ^ n := Nat.xor_lt_two_pow m1 (Nat.pow_lt_pow_right (by omega) hun)
          have h1 := m3 _ hlt hexp
          have h2 := memb_drop hu hb
          omega
        · left
          rw [hbit]
          simp [hun, hb])
  rw [List.length_map] at key
  have := gM_mono' (a := n) (b := 7) (by omega) hn
  have h12 : gM 7 = 12 := rfl
  omega


/-! ### values by a rule -/
theorem allL2_mem : ∀ (v : List Int), (∀ x ∈ v, x = 0 ∨ x = 2) → v ∈ allL 2 v.length
  | [], _ => by simp [allL]
  | a :: r, h => by
    have ih := allL2_mem r (fun x hx => h x (by simp [hx]))
    have ha := h a (by simp)
    simp only [List.length_cons, allL, List.mem_flatMap, List.mem_map]
    refine ⟨a.toNat, ?_, r, ih, by rcases ha with rfl | rfl <;> rfl⟩
    rcases ha with rfl | rfl <;> decide
def byF (n : Nat) (f : Nat → Int) : List Int := (List.range n).map f
theorem byF_len (n : Nat) (f : Nat → Int) : (byF n f).length = n := by simp [byF]
theorem byF_getD {n : Nat} (f : Nat → Int) {a : Nat} (ha : a < n) : (byF n f).getD a 0 = f a := by
  unfold byF; rw [List.getD_eq_getElem?_getD, List.getElem?_map, List.getElem?_range ha]; rfl
theorem byF_all2 {n : Nat} {f : Nat → Int} (h : ∀ a, a < n → f a = 0 ∨ f a = 2) : byF n f ∈ allL 2 n := by
  have := allL2_mem (byF n f) (by
    intro x hx; unfold byF at hx; obtain ⟨a, ha, rfl⟩ := List.mem_map.1 hx; exact h a (List.mem_range.1 ha))
  rwa [byF_len] at this
theorem byF_half {n : Nat} {ps : List (Int × Int)} (hps : ∀ p ∈ ps, 0 ≤ p.1 ∧ p.1 < p.2 ∧ p.2 < (n : Int)) {f : Nat → Int} (h : ∀ a b, a < n → b < n → nb ps a b → 2 ≤ f a + f b) : halfOk ps (byF n f) = true := by
  rw [half_nb hps]
  intro a b hab
  have hl := nb_lt hps hab
  rw [byF_getD f hl.1, byF_getD f hl.2.1]
  exact h a b hl.1 hl.2.1 hab
theorem val_range {v : List Int} {n : Nat} (h : v.length = n) : sumL v = sumL ((List.range n).map fun a => v.getD a 0) := by rw [← list_range v n h]
theorem bestL_in {X : List (List Int)} (h : X ≠ []) : bestL X ∈ X ∧ ∀ c ∈ X, lexLt c (bestL X) = false := by
  cases X with
  | nil => exact absurd rfl h
  | cons b r => exact pickL_spec r b
theorem cheap_two_sum {n : Nat} {ps : List (Int × Int)} {y : List Int} (h : y ∈ cheap n 2 ps) : sumL y = 2 * ((twos y).length : Int) :=
  two_sum y 0 (allL2_val n y (cheap_mem.1 h).1.1)
theorem first_cheap {n : Nat} {ps : List (Int × Int)} (hps : ∀ p ∈ ps, 0 ≤ p.1 ∧ p.1 < p.2 ∧ p.2 < (n : Int)) : ∃ y ∈ cheap n 2 ps, bestL ((cheap n 2 ps).map twos) = twos y := by
  have hne : (cheap n 2 ps).map twos ≠ [] := by
    intro e; rw [List.map_eq_nil_iff] at e; exact cheap_ne 2 hps e
  obtain ⟨y, h1, h2⟩ := List.mem_map.1 (bestL_in hne).1
  exact ⟨y, h1, h2.symm⟩
/-- Covers cost at least what half values cost, at most twice that; just that much where articles can be put on two sides. -/
theorem bounds {n : Nat} {ps : List (Int × Int)} (hn1 : 1 ≤ n) (hn : n ≤ 7) (hps : ∀ p ∈ ps, 0 ≤ p.1 ∧ p.1 < p.2 ∧ p.2 < (n : Int)) (h7 : ∀ p ∈ ps, okP p) :
    sumL (halvesV n ps) ≤ 2 * ((bestL ((cheap n 2 ps).map twos)).length : Int) ∧ ((bestL ((cheap n 2 ps).map twos)).length : Int) ≤ sumL (halvesV n ps) ∧
    ∀ z : Nat, (∀ a b : Nat, nb ps a b → z.testBit a ≠ z.testBit b) → 2 * ((bestL ((cheap n 2 ps).map twos)).length : Int) = sumL (halvesV n ps) := by
  obtain ⟨y, hy, e⟩ := first_cheap (n := n) (ps := ps) hps
  rw [e]
  have hys := cheap_two_sum hy
  obtain ⟨⟨y1, y2⟩, y3⟩ := cheap_mem.1 hy
  obtain ⟨⟨v1, v2⟩, v3⟩ := cheap_mem.1 (halves_spec hn1 hn hps h7).1
  obtain ⟨hvl, hvb⟩ := allL_in n _ v1
  obtain ⟨hyl, hyb⟩ := allL_in n _ y1
  have hvok := (half_nb hps _).1 v2
  generalize halvesV n ps = v at *
  have hb := fun a => getD_bd (B := 2) (by omega) hvb a
  have hvs := val_range hvl
  have hy1' : y ∈ allL 1 n := by have := allL1_mem y hyb; rwa [hyl] at this
  have g1 := v3 y hy1' y2
  have g2 := y3 (byF n fun a => if 1 ≤ v.getD a 0 then 2 else 0) (byF_all2 (fun a _ => by split <;> omega)) (byF_half hps (fun a b _ _ hab => by
    have h1 := hvok a b hab; have h2 := hb a; have h3 := hb b
    split <;> split <;> omega))
  have g3 := sum_le2 (f := fun a => if 1 ≤ v.getD a 0 then (2 : Int) else 0) (g := fun a => v.getD a 0 * 2) (List.range n) (by
    intro a _; have := hb a; split <;> omega)
  rw [sum_two, ← hvs] at g3
  have g4 : sumL (byF n fun a => if 1 ≤ v.getD a 0 then (2 : Int) else 0) = sumL ((List.range n).map fun a => if 1 ≤ v.getD a 0 then (2 : Int) else 0) := rfl
  refine ⟨by omega, by omega, fun z hz => ?_⟩
  have k1 := y3 (byF n fun a => if v.getD a 0 = 2 ∨ v.getD a 0 = 1 ∧ z.testBit a = true then 2 else 0) (byF_all2 (fun a _ => by split <;> omega)) (byF_half hps (fun a b _ _ hab => by
    have h1 := hvok a b hab; have h2 := hb a; have h3 := hb b; have h4 := hz a b hab
    cases e1 : z.testBit a <;> cases e2 : z.testBit b <;> rw [e1, e2] at h4 <;> simp at h4 <;> simp only [Bool.false_eq_true, and_false, or_false, and_true] <;> split <;> split <;> omega))
  have k2 := y3 (byF n fun a => if v.getD a 0 = 2 ∨ v.getD a 0 = 1 ∧ z.testBit a = false then 2 else 0) (byF_all2 (fun a _ => by split <;> omega)) (byF_half hps (fun a b _ _ hab => by
    have h1 := hvok a b hab; have h2 := hb a; have h3 := hb b; have h4 := hz a b hab
    cases e1 : z.testBit a <;> cases e2 : z.testBit b <;> rw [e1, e2] at h4 <;> simp at h4 <;> simp only [Bool.true_eq_false, and_false, or_false, and_true] <;> split <;> split <;> omega))
  have k3 := sum_add (fun a => if v.getD a 0 = 2 ∨ v.getD a 0 = 1 ∧ z.testBit a = true then (2 : Int) else 0) (fun a => if v.getD a 0 = 2 ∨ v.getD a 0 = 1 ∧ z.testBit a = false then (2 : Int) else 0) (List.range n)
  have k4 : (List.range n).map (fun a => (if v.getD a 0 = 2 ∨ v.getD a 0 = 1 ∧ z.testBit a = true then (2 : Int) else 0) + (if v.getD a 0 = 2 ∨ v.getD a 0 = 1 ∧ z.testBit a = false then (2 : Int) else 0)) = (List.range n).map fun a => v.getD a 0 * 2 := by
    apply List.map_congr_left
    intro a _
    have := hb a
    cases z.testBit a <;> simp only [Bool.false_eq_true, Bool.true_eq_false, and_false, or_false, and_true] <;> split <;> split <;> omega
  rw [k4, sum_two, ← hvs] at k3
  have k5 : sumL (byF n fun a => if v.getD a 0 = 2 ∨ v.getD a 0 = 1 ∧ z.testBit a = true then (2 : Int) else 0) = sumL ((List.range n).map fun a => if v.getD a 0 = 2 ∨ v.getD a 0 = 1 ∧ z.testBit a = true then (2 : Int) else 0) := rfl
  have k6 : sumL (byF n fun a => if v.getD a 0 = 2 ∨ v.getD a 0 = 1 ∧ z.testBit a = false then (2 : Int) else 0) = sumL ((List.range n).map fun a => if v.getD a 0 = 2 ∨ v.getD a 0 = 1 ∧ z.testBit a = false then (2 : Int) else 0) := rfl
  omega
/-- The shortest lists, in the two orders. -/
theorem few_perm {n : Nat} (hn : n ≤ 7) {ps : List (Int × Int)} (h7 : ∀ p ∈ ps, okP p) : (fewV n ps).Perm ((cheap n 2 ps).map twos) := by
  rw [cheap_twos]
  exact least_perm lenI (short_perm hn h7)


/-! ### sorting by insertion -/
section
variable {α : Type} (lt : α → α → Bool)
/-- Into a list in the opposite order. -/
def insR : List α → α → List α
  | [], x => [x]
  | a :: C, x => if lt x a = true then a :: insR C x else x :: a :: C
def insL (A : List α) (x : α) : List α := (insR lt A.reverse x).reverse
def sortL (l : List α) : List α := l.foldl (insL lt) []
theorem insL_nil (x : α) : insL lt [] x = [x] := rfl
theorem insL_snoc (A : List α) (a x : α) : insL lt (A ++ [a]) x = if lt x a = true then insL lt A x ++ [a] else A ++ [a, x] := by
  unfold insL
  rw [List.reverse_append, List.reverse_singleton, List.singleton_append]
  simp only [insR]
  split
  · rw [List.reverse_cons]
  · simp
theorem insR_perm : ∀ (C : List α) (x : α), (insR lt C x).Perm (x :: C)
  | [], _ => List.Perm.refl _
  | a :: C, x => by
    simp only [insR]
    split
    · exact ((insR_perm C x).cons a).trans (List.Perm.swap x a C)
    · exact List.Perm.refl _
theorem insL_perm (A : List α) (x : α) : (insL lt A x).Perm (A ++ [x]) := by
  unfold insL
  refine (List.reverse_perm _).trans ((insR_perm lt _ x).trans ?_)
  refine ((List.reverse_perm A).cons x).trans ?_
  exact (List.perm_append_singleton x A).symm
theorem insL_len (A : List α) (x : α) : (insL lt A x).length = A.length + 1 := by
  rw [(insL_perm lt A x).length_eq]; simp
theorem fold_perm : ∀ (l A : List α), (l.foldl (insL lt) A).Perm (A ++ l)
  | [], A => by simp
  | x :: l, A => by
    rw [List.foldl_cons]
    refine (fold_perm l _).trans ?_
    have := (insL_perm lt A x).append_right l
    rwa [List.append_assoc] at this
theorem sortL_perm (l : List α) : (sortL lt l).Perm l := fold_perm lt l []
theorem sortL_cons (x : α) (l : List α) : sortL lt (x :: l) = l.foldl (insL lt) [x] := rfl
variable (h1 : ∀ a b, lt a b = true → lt b a = false) (h2 : ∀ a b c, lt b a = false → lt c b = false → lt c a = false)
include h1 h2
theorem insR_sorted : ∀ (C : List α) (x : α), C.Pairwise (fun a b => lt a b = false) → (insR lt C x).Pairwise fun a b => lt a b = false
  | [], x, _ => by simp [insR]
  | a :: C, x, h => by
    rw [List.pairwise_cons] at h
    simp only [insR]
    split
    · next hx =>
      rw [List.pairwise_cons]
      refine ⟨fun y hy => ?_, insR_sorted C x h.2⟩
      rcases List.mem_cons.1 ((insR_perm lt C x).mem_iff.1 hy) with rfl | hy
      · exact h1 _ _ hx
      · exact h.1 y hy
    · next hx =>
      have hx : lt x a = false := by simpa using hx
      rw [List.pairwise_cons]
      refine ⟨fun y hy => ?_, List.pairwise_cons.2 h⟩
      rcases List.mem_cons.1 hy with rfl | hy
      · exact hx
      · exact h2 y a x (h.1 y hy) hx
theorem insL_sorted (A : List α) (x : α) (h : A.Pairwise fun a b => lt b a = false) : (insL lt A x).Pairwise fun a b => lt b a = false := by
  unfold insL
  rw [List.pairwise_reverse]
  exact insR_sorted lt h1 h2 _ x (List.pairwise_reverse.2 h)
theorem sortL_sorted (l : List α) : (sortL lt l).Pairwise fun a b => lt b a = false := by
  have key : ∀ (l A : List α), A.Pairwise (fun a b => lt b a = false) → (l.foldl (insL lt) A).Pairwise fun a b => lt b a = false := by
    intro l
    induction l with
    | nil => intro A h; exact h
    | cons x l ih => intro A h; rw [List.foldl_cons]; exact ih _ (insL_sorted lt h1 h2 A x h)
  exact key l [] List.Pairwise.nil
omit h1 h2 in
end
theorem lex_h2 (a b c : List Int) (h1 : lexLt b a = false) (h2 : lexLt c b = false) : lexLt c a = false := lex_le h1 h2
/-- The first of the sorted shortest lists is the first of the shortest ones. -/
theorem few_first {n : Nat} (hn : n ≤ 7) {ps : List (Int × Int)} (hps : ∀ p ∈ ps, 0 ≤ p.1 ∧ p.1 < p.2 ∧ p.2 < (n : Int)) (h7 : ∀ p ∈ ps, okP p) :
    ∃ r, sortL lexLt (fewV n ps) = bestL ((cheap n 2 ps).map twos) :: r := by
  have hp := (sortL_perm lexLt (fewV n ps)).trans (few_perm hn h7)
  have hs := sortL_sorted lexLt (fun a b h => lex_asymm h) lex_h2 (fewV n ps)
  have hne : (cheap n 2 ps).map twos ≠ [] := by
    intro e; rw [List.map_eq_nil_iff] at e; exact cheap_ne 2 hps e
  obtain ⟨b1, b2⟩ := bestL_in hne
  cases e : sortL lexLt (fewV n ps) with
  | nil => rw [e] at hp; exact absurd (List.nil_perm.1 hp) hne
  | cons x r =>
    rw [e] at hp hs
    rw [List.pairwise_cons] at hs
    refine ⟨r, ?_⟩
    have hx : x = bestL ((cheap n 2 ps).map twos) := by
      refine pick_unique (X := (cheap n 2 ps).map twos) (hp.mem_iff.1 (by simp)) b1 (fun c hc => ?_) b2
      rcases List.mem_cons.1 (hp.mem_iff.2 hc) with rfl | h
      · exact lex_irrefl _
      · exact hs.1 c h
    rw [hx]


/-! ### lists of lists are equal -/
/-! ### a list of lists that grows, above other tips -/
def nAV (k : Nat) (o : List (List Int)) : AV := if o = [] then .v (.slice none 0 0) else .lst (.own k o.length) 1 (o.map listAV)
theorem okRef_n (n k : Nat) (o : List (List Int)) : okRef n (nAV k o) = true := by unfold nAV; split <;> rfl
theorem fin_n (st : St) (k : Nat) (o : List (List Int)) : fin st (nAV k o) = sl 1 true (o.map listAV) := by
  unfold nAV
  by_cases h : o = []
  · subst h; rfl
  · rw [if_neg h, sl_ne (by simpa using h)]; rfl
attribute [local go_sem] okRef_out storable_out shaped_out cells_out fin_out pub_out okRef_n fin_n


/-! ### sorting lists -/
def tAV (l : List Int) : AV := sl 1 true (l.map I)
theorem shaped_t (l : List Int) : (tAV l).shaped = true := by unfold tAV sl; split <;> rfl
theorem cells_t (l : List Int) : (tAV l).cells = [tAV l] := by unfold tAV sl; split <;> rfl
theorem isAgg_t (l : List Int) : Ev.isAgg (tAV l) = false := by unfold tAV sl; split <;> rfl
theorem storable_t (l : List Int) : storable (tAV l) = true := by unfold tAV sl; split <;> rfl
theorem okRef_t (n : Nat) (l : List Int) : okRef n (tAV l) = true := by unfold tAV sl; split <;> rfl
theorem pub_t (l : List Int) : pub (tAV l) = tAV l := pub_sl _ _ _
theorem getT (X : List (List Int)) (i : Nat) (x : List Int) (h : X[i]? = some x) : (X.map tAV)[i]? = some (tAV x) := by
  rw [List.getElem?_map, h]; rfl
theorem c69t (x a : List Int) (hx : x.length < 1000000) : ∃ k : Int, (∀ st, run L 69 [tAV x, tAV a] st = some (I k, st)) ∧ decide (k < 0) = lexLt x a := by
  obtain ⟨k, h1, h2⟩ := c69 true true x a hx ⟨[], []⟩
  exact ⟨k, fun st => run_any' (fn := ir69) rfl rfl h1 st, h2⟩
attribute [local go_sem] shaped_t cells_t isAgg_t storable_t okRef_t
theorem at_one (A : List (List Int)) (x : List Int) (B : List (List Int)) : (A ++ x :: B)[A.length]? = some x := by simp
abbrev cmpF : AV := .fn (.func 69) [] []

theorem loop138_0 (b : List AV) (n : Nat) (hn : n ≤ 1000) (x : List Int) (hx : x.length < 1000000) (i : Nat) (lo hi : Nat) (j : Nat) (A : List (List Int)) (B : List (List Int)) (hok : A.length = j ∧ j + 1 + B.length = n) (env : Env) (st : St)
    (hg : gcAV false lo hi (canon env [0, 1, 2, 3, 8, 9]) st = ([(0, .rsl 1 0 n n 1 false), (1, I 0), (2, I n), (3, cmpF), (8, I i), (9, I j)], ⟨[b, (A ++ x :: B).map tAV], []⟩)) :
    ∃ x_1 en s, lim (headed pure (run L) false [0, 1, 2, 3, 8, 9] lp138_0 lo hi) env st = some (x_1, en, s) ∧ (x_1 = .exit 2 ∧ en.get 0 = .rsl 1 0 n n 1 false ∧ en.get 1 = I 0 ∧ en.get 2 = I n ∧ en.get 3 = cmpF ∧ en.get 8 = I i ∧ s = ⟨[b, (insL lexLt A x ++ B).map tAV], []⟩) := by
  refine loop_wp (α := Nat × List (List Int) × List (List Int)) (fun ⟨j, A, B⟩ => j) (fun ⟨j, A, B⟩ => A.length = j ∧ j + 1 + B.length = n) (fun ⟨j, A, B⟩ => ([(0, .rsl 1 0 n n 1 false), (1, I 0), (2, I n), (3, cmpF), (8, I i), (9, I j)], ⟨[b, (A ++ x :: B).map tAV], []⟩)) (fun ⟨j, A, B⟩ x_1 en s => x_1 = .exit 2 ∧ en.get 0 = .rsl 1 0 n n 1 false ∧ en.get 1 = I 0 ∧ en.get 2 = I n ∧ en.get 3 = cmpF ∧ en.get 8 = I i ∧ s = ⟨[b, (insL lexLt A x ++ B).map tAV], []⟩) (fun ⟨j, A, B⟩ hok => ?_) ⟨j, A, B⟩ hok env st hg
  simp only at hok
  obtain ⟨h1, h2⟩ := hok
  dsimp only at h1 h2 ⊢
  rcases List.eq_nil_or_concat A with rfl | ⟨A', a, rfl⟩
  · have hj : j = 0 := by simpa using h1.symm
    subst hj
    rw [insL_nil]
    simp only [go_sem, reduceIte, Nat.reduceEqDiff, Nat.reduceAdd, Nat.reduceSub, Nat.reduceLeDiff, Nat.reduceLT, reduceCtorEq, Int.reduceLT, Int.reduceLE, Int.reduceEq, Int.reduceBEq, Int.reduceSub, Int.reduceAdd, Int.reduceMul, Int.reduceNeg, Int.reduceToNat, Nat.reduceMul, Nat.reduceBEq, index_rsl_if, setm, make_ints, condK_dec, wantK_dec, not_dec, and_dec, or_dec, seqK_ite, seqK_none, blockK_ite, blockK_none, opsK_ite, opsK_none, stepK_ite, stepK_none, bodyK_ite, bodyK_none, resK_ite, resK_none, leaveK_ite, leaveK_none, only_ite, only_none, bind_ite, gives_some, gives_none, gives_ite, then_normal, then_ret, then_exit, then_none, then_ite, Option.bind_none, Bool.not_eq_true', decide_eq_false_iff_not, Bool.and_eq_true, Bool.or_eq_true, Option.some.injEq, Int.not_lt, Int.not_le, lp138_0, Int.natCast_zero]
  · rw [List.concat_eq_append] at h1 ⊢
    obtain ⟨m, rfl⟩ : ∃ m, j = m + 1 := ⟨A'.length, by rw [← h1]; simp⟩
    have hm : A'.length = m := by simpa using h1
    obtain ⟨k, hk, hlt⟩ := c69t x a hx
    have hg1 := getT ((A' ++ [a]) ++ x :: B) (m + 1) x (by
      have := at_one (A' ++ [a]) x B
      rwa [h1] at this)
    have hg2 := getT ((A' ++ [a]) ++ x :: B) m a (by
      have := at_one A' a (x :: B)
      rw [hm] at this
      simpa using this)
    have hset : (((A' ++ [a]) ++ x :: B).set (m + 1) a).set m x = A' ++ x :: a :: B := by
      subst hm
      simp
    have hlen : ((A' ++ [a]) ++ x :: B).length = n := by simp; omega
    have hpos : ((0 : Int) < ((m + 1 : Nat) : Int)) = True := eq_true (by omega)
    have hw : IntKind.i64.wrap (((m + 1 : Nat) : Int) - 1) = ((m : Nat) : Int) := by rw [wrap64] <;> omega
    have b0 : ((0 : Int) ≤ ((m + 1 : Nat) : Int)) = True := eq_true (by omega)
    have b1 : (((m + 1 : Nat) : Int) < (n : Int)) = True := eq_true (by omega)
    have b2 : ((0 : Int) ≤ ((m : Nat) : Int)) = True := eq_true (by omega)
    have b3 : (((m : Nat) : Int) < (n : Int)) = True := eq_true (by omega)
    have b4 : (m + 1 < n) = True := eq_true (by omega)
    have b5 : (m < n) = True := eq_true (by omega)
    have b6 : (m + 1 + 1 ≤ n) = True := eq_true (by omega)
    have b7 : (m + 1 ≤ n) = True := eq_true (by omega)
    rw [insL_snoc]
    generalize hX : (A' ++ [a]) ++ x :: B = X at *
    by_cases p : lexLt x a = true
    · rw [p, decide_eq_true_iff] at hlt
      have hk0 : (k < 0) = True := eq_true hlt
      rw [if_pos p]
      simp only [go_sem, reduceIte, Nat.reduceEqDiff, Nat.reduceAdd, Nat.reduceSub, Nat.reduceLeDiff, Nat.reduceLT, reduceCtorEq, Int.reduceLT, Int.reduceLE, Int.reduceEq, Int.reduceBEq, Int.reduceSub, Int.reduceAdd, Int.reduceMul, Int.reduceNeg, Int.reduceToNat, Nat.reduceMul, Nat.reduceBEq, index_rsl_if, setm, make_ints, condK_dec, wantK_dec, not_dec, and_dec, or_dec, seqK_ite, seqK_none, blockK_ite, blockK_none, opsK_ite, opsK_none, stepK_ite, stepK_none, bodyK_ite, bodyK_none, resK_ite, resK_none, leaveK_ite, leaveK_none, only_ite, only_none, bind_ite, gives_some, gives_none, gives_ite, then_normal, then_ret, then_exit, then_none, then_ite, Option.bind_none, Bool.not_eq_true', decide_eq_false_iff_not, Bool.and_eq_true, Bool.or_eq_true, Option.some.injEq, Int.not_lt, Int.not_le, lp138_0, hpos, hw, b0, b1, b2, b3, b4, b5, b6, b7, hg1, hg2, hk, hk0, hset, hlen, show pure 69 = true from rfl, List.length_map, List.length_set]
      refine ⟨(m, A', a :: B), by simp only [go_sem, reduceIte, Nat.reduceEqDiff, Nat.reduceAdd, Nat.reduceSub, Nat.reduceLeDiff, Nat.reduceLT, reduceCtorEq, Int.reduceLT, Int.reduceLE, Int.reduceEq, Int.reduceBEq, Int.reduceSub, Int.reduceAdd, Int.reduceMul, Int.reduceNeg, Int.reduceToNat, Nat.reduceMul, Nat.reduceBEq, ren1_locm, loc_tips, locT_eq] <;> rfl, ?_, ?_, fun x en s hq => ?_⟩
      · dsimp only; exact ⟨hm, by rw [List.length_cons]; omega⟩
      · dsimp only; omega
      · dsimp only at hq; rw [List.append_assoc, List.singleton_append]; exact hq
    · have hlt' : lexLt x a = false := by simpa using p
      rw [hlt', decide_eq_false_iff_not] at hlt
      have hk0 : (k < 0) = False := eq_false hlt
      rw [if_neg p]
      have e : A' ++ [a, x] ++ B = X := by rw [← hX]; simp
      rw [e]
      simp only [go_sem, reduceIte, Nat.reduceEqDiff, Nat.reduceAdd, Nat.reduceSub, Nat.reduceLeDiff, Nat.reduceLT, reduceCtorEq, Int.reduceLT, Int.reduceLE, Int.reduceEq, Int.reduceBEq, Int.reduceSub, Int.reduceAdd, Int.reduceMul, Int.reduceNeg, Int.reduceToNat, Nat.reduceMul, Nat.reduceBEq, index_rsl_if, setm, make_ints, condK_dec, wantK_dec, not_dec, and_dec, or_dec, seqK_ite, seqK_none, blockK_ite, blockK_none, opsK_ite, opsK_none, stepK_ite, stepK_none, bodyK_ite, bodyK_none, resK_ite, resK_none, leaveK_ite, leaveK_none, only_ite, only_none, bind_ite, gives_some, gives_none, gives_ite, then_normal, then_ret, then_exit, then_none, then_ite, Option.bind_none, Bool.not_eq_true', decide_eq_false_iff_not, Bool.and_eq_true, Bool.or_eq_true, Option.some.injEq, Int.not_lt, Int.not_le, lp138_0, hpos, hw, b0, b1, b2, b3, b4, b5, b6, b7, hg1, hg2, hk, hk0, hlen, show pure 69 = true from rfl, List.length_map]

attribute [local go_sem] shaped_t cells_t isAgg_t storable_t okRef_t

theorem loop138_1 (b : List AV) (n : Nat) (hn : n ≤ 1000) (lo hi : Nat) (i : Nat) (A : List (List Int)) (B : List (List Int)) (hok : A.length = i ∧ i + B.length = n ∧ ∀ l ∈ B, l.length < 1000000) (env : Env) (st : St)
    (hg : gcAV false lo hi (canon env [0, 1, 2, 3, 8]) st = ([(0, .rsl 1 0 n n 1 false), (1, I 0), (2, I n), (3, cmpF), (8, I i)], ⟨[b, (A ++ B).map tAV], []⟩)) :
    ∃ x_1 en s, lim (headed pure (run L) false [0, 1, 2, 3, 8] lp138_1 lo hi) env st = some (x_1, en, s) ∧ (x_1 = .exit 0 ∧ s = ⟨[b, (B.foldl (insL lexLt) A).map tAV], []⟩) := by
  refine loop_wp (α := Nat × List (List Int) × List (List Int)) (fun ⟨i, A, B⟩ => B.length) (fun ⟨i, A, B⟩ => A.length = i ∧ i + B.length = n ∧ ∀ l ∈ B, l.length < 1000000) (fun ⟨i, A, B⟩ => ([(0, .rsl 1 0 n n 1 false), (1, I 0), (2, I n), (3, cmpF), (8, I i)], ⟨[b, (A ++ B).map tAV], []⟩)) (fun ⟨i, A, B⟩ x_1 en s => x_1 = .exit 0 ∧ s = ⟨[b, (B.foldl (insL lexLt) A).map tAV], []⟩) (fun ⟨i, A, B⟩ hok => ?_) ⟨i, A, B⟩ hok env st hg
  simp only at hok
  obtain ⟨h1, h2, h3⟩ := hok
  dsimp only at h1 h2 h3 ⊢
  cases B with
  | nil =>
    obtain rfl : i = n := by simpa using h2
    rw [List.append_nil]
    simp only [go_sem, reduceIte, Nat.reduceEqDiff, Nat.reduceAdd, Nat.reduceSub, Nat.reduceLeDiff, Nat.reduceLT, reduceCtorEq, Int.reduceLT, Int.reduceLE, Int.reduceEq, Int.reduceBEq, Int.reduceSub, Int.reduceAdd, Int.reduceMul, Int.reduceNeg, Int.reduceToNat, Nat.reduceMul, Nat.reduceBEq, index_rsl_if, setm, make_ints, condK_dec, wantK_dec, not_dec, and_dec, or_dec, seqK_ite, seqK_none, blockK_ite, blockK_none, opsK_ite, opsK_none, stepK_ite, stepK_none, bodyK_ite, bodyK_none, resK_ite, resK_none, leaveK_ite, leaveK_none, only_ite, only_none, bind_ite, gives_some, gives_none, gives_ite, then_normal, then_ret, then_exit, then_none, then_ite, Option.bind_none, Bool.not_eq_true', decide_eq_false_iff_not, Bool.and_eq_true, Bool.or_eq_true, Option.some.injEq, Int.not_lt, Int.not_le, lp138_1, show ((i : Int) < (i : Int)) = False from eq_false (by omega)]
    rfl
  | cons x B =>
    rw [List.length_cons] at h2
    have hs := succ64 i (by omega)
    have hlt : ((i : Int) < (n : Int)) = True := eq_true (by omega)
    rw [List.foldl_cons]
    simp only [go_sem, reduceIte, Nat.reduceEqDiff, Nat.reduceAdd, Nat.reduceSub, Nat.reduceLeDiff, Nat.reduceLT, reduceCtorEq, Int.reduceLT, Int.reduceLE, Int.reduceEq, Int.reduceBEq, Int.reduceSub, Int.reduceAdd, Int.reduceMul, Int.reduceNeg, Int.reduceToNat, Nat.reduceMul, Nat.reduceBEq, index_rsl_if, setm, make_ints, condK_dec, wantK_dec, not_dec, and_dec, or_dec, seqK_ite, seqK_none, blockK_ite, blockK_none, opsK_ite, opsK_none, stepK_ite, stepK_none, bodyK_ite, bodyK_none, resK_ite, resK_none, leaveK_ite, leaveK_none, only_ite, only_none, bind_ite, gives_some, gives_none, gives_ite, then_normal, then_ret, then_exit, then_none, then_ite, Option.bind_none, Bool.not_eq_true', decide_eq_false_iff_not, Bool.and_eq_true, Bool.or_eq_true, Option.some.injEq, Int.not_lt, Int.not_le, lp138_1, hlt, hs]
    generalize hg : lim (headed pure (run L) false _ lp138_0 _ _) _ _ = o
    obtain ⟨x, en, s, rfl, h2⟩ : ∃ x en s, o = some (x, en, s) ∧ _ := by rw [← hg]; exact loop138_0 b n hn x (h3 x (by simp)) i _ _ i A B ⟨h1, by omega⟩ _ _ (by simp only [go_sem, reduceIte, Nat.reduceEqDiff, Nat.reduceAdd, Nat.reduceSub, Nat.reduceLeDiff, Nat.reduceLT, reduceCtorEq, Int.reduceLT, Int.reduceLE, Int.reduceEq, Int.reduceBEq, Int.reduceSub, Int.reduceAdd, Int.reduceMul, Int.reduceNeg, Int.reduceToNat, Nat.reduceMul, Nat.reduceBEq] <;> rfl)
    clear hg
    obtain ⟨rfl, e0, e1, e2, e3, e8, rfl⟩ := h2
    have hA := insL_len lexLt A x
    simp only [go_sem, reduceIte, Nat.reduceEqDiff, Nat.reduceAdd, Nat.reduceSub, Nat.reduceLeDiff, Nat.reduceLT, reduceCtorEq, Int.reduceLT, Int.reduceLE, Int.reduceEq, Int.reduceBEq, Int.reduceSub, Int.reduceAdd, Int.reduceMul, Int.reduceNeg, Int.reduceToNat, Nat.reduceMul, Nat.reduceBEq, index_rsl_if, setm, make_ints, condK_dec, wantK_dec, not_dec, and_dec, or_dec, seqK_ite, seqK_none, blockK_ite, blockK_none, opsK_ite, opsK_none, stepK_ite, stepK_none, bodyK_ite, bodyK_none, resK_ite, resK_none, leaveK_ite, leaveK_none, only_ite, only_none, bind_ite, gives_some, gives_none, gives_ite, then_normal, then_ret, then_exit, then_none, then_ite, Option.bind_none, Bool.not_eq_true', decide_eq_false_iff_not, Bool.and_eq_true, Bool.or_eq_true, Option.some.injEq, Int.not_lt, Int.not_le, lp138_1, e0, e1, e2, e3, e8, hs]
    refine ⟨(i + 1, insL lexLt A x, B), by simp only [go_sem, reduceIte, Nat.reduceEqDiff, Nat.reduceAdd, Nat.reduceSub, Nat.reduceLeDiff, Nat.reduceLT, reduceCtorEq, Int.reduceLT, Int.reduceLE, Int.reduceEq, Int.reduceBEq, Int.reduceSub, Int.reduceAdd, Int.reduceMul, Int.reduceNeg, Int.reduceToNat, Nat.reduceMul, Nat.reduceBEq, ren1_locm, loc_tips, locT_eq, e0, e1, e2, e3, e8] <;> rfl, ?_, ?_, fun x en s hq => ?_⟩
    · dsimp only; exact ⟨by omega, by omega, fun l hl => h3 l (by simp [hl])⟩
    · dsimp only; omega
    · exact hq

theorem c138 (b : List AV) (X : List (List Int)) (h1 : 1 ≤ X.length) (hn : X.length ≤ 1000) (hx : ∀ l ∈ X, l.length < 1000000) :
    run L 138 [.rsl 1 0 X.length X.length 1 false, I 0, I X.length, cmpF] ⟨[b, X.map tAV], []⟩ = some (.tup [], ⟨[b, (sortL lexLt X).map tAV], []⟩) := by
  rw [run_shared (fn := ir138) rfl rfl]
  cases X with
  | nil => simp at h1
  | cons x B =>
    have hw : IntKind.i64.wrap (0 + 1) = 1 := by decide
    rw [sortL_cons]
    generalize hk : (x :: B).length = k at *
    rw [List.length_cons] at hk
    simp only [ir138, go_sem, reduceIte, Nat.reduceEqDiff, Nat.reduceAdd, Nat.reduceSub, Nat.reduceLeDiff, Nat.reduceLT, reduceCtorEq, Int.reduceLT, Int.reduceLE, Int.reduceEq, Int.reduceBEq, Int.reduceSub, Int.reduceAdd, Int.reduceMul, Int.reduceNeg, Int.reduceToNat, Nat.reduceMul, Nat.reduceBEq, hw]
    generalize hg : lim (headed pure (run L) false _ lp138_1 _ _) _ _ = o
    obtain ⟨x, en, s, rfl, h2⟩ : ∃ x en s, o = some (x, en, s) ∧ _ := by rw [← hg]; exact loop138_1 b k hn _ _ 1 [x] B ⟨rfl, by omega, fun l hl => hx l (by simp [hl])⟩ _ _ (by simp only [go_sem, reduceIte, Nat.reduceEqDiff, Nat.reduceAdd, Nat.reduceSub, Nat.reduceLeDiff, Nat.reduceLT, reduceCtorEq, Int.reduceLT, Int.reduceLE, Int.reduceEq, Int.reduceBEq, Int.reduceSub, Int.reduceAdd, Int.reduceMul, Int.reduceNeg, Int.reduceToNat, Nat.reduceMul, Nat.reduceBEq, show ((1 : Nat) : Int) = 1 from rfl, show [x] ++ B = x :: B from rfl] <;> rfl)
    clear hg
    obtain ⟨rfl, rfl⟩ := h2
    simp only [go_sem, reduceIte, Nat.reduceEqDiff, Nat.reduceAdd, Nat.reduceSub, Nat.reduceLeDiff, Nat.reduceLT, reduceCtorEq, Int.reduceLT, Int.reduceLE, Int.reduceEq, Int.reduceBEq, Int.reduceSub, Int.reduceAdd, Int.reduceMul, Int.reduceNeg, Int.reduceToNat, Nat.reduceMul, Nat.reduceBEq]
theorem loop116 (b : List AV) (X : List (List Int)) (h1 : 1 ≤ X.length) (hn : X.length ≤ 12) (hx : ∀ l ∈ X, l.length < 1000000) (lim0 : Int) (lo hi : Nat) (u : Nat) (hok : True) (env : Env) (st : St)
    (hg : gcAV false lo hi (canon env [0, 1, 2, 3, 4, 10, 11]) st = ([(0, .rsl 1 0 X.length X.length 1 false), (1, I 0), (2, I X.length), (3, I lim0), (4, cmpF), (10, B true), (11, B true)], ⟨[b, X.map tAV], []⟩)) :
    ∃ x_1 en s, lim (headed pure (run L) false [0, 1, 2, 3, 4, 10, 11] lp116_0 lo hi) env st = some (x_1, en, s) ∧ (x_1 = .ret ∧ s = ⟨[b, (sortL lexLt X).map tAV], []⟩) := by
  refine loop_wp (α := Nat) (fun u => u) (fun u => True) (fun u => ([(0, .rsl 1 0 X.length X.length 1 false), (1, I 0), (2, I X.length), (3, I lim0), (4, cmpF), (10, B true), (11, B true)], ⟨[b, X.map tAV], []⟩)) (fun u x_1 en s => x_1 = .ret ∧ s = ⟨[b, (sortL lexLt X).map tAV], []⟩) (fun u hok => ?_) u hok env st hg
  have h138 := c138 b X h1 (by omega) hx
  have hw : IntKind.i64.wrap ((X.length : Int) - 0) = (X.length : Int) := by rw [wrap64] <;> omega
  have q : ((X.length : Int) ≤ 12) = True := eq_true (by omega)
  simp only [go_sem, reduceIte, Nat.reduceEqDiff, Nat.reduceAdd, Nat.reduceSub, Nat.reduceLeDiff, Nat.reduceLT, reduceCtorEq, Int.reduceLT, Int.reduceLE, Int.reduceEq, Int.reduceBEq, Int.reduceSub, Int.reduceAdd, Int.reduceMul, Int.reduceNeg, Int.reduceToNat, Nat.reduceMul, Nat.reduceBEq, index_rsl_if, setm, make_ints, condK_dec, wantK_dec, not_dec, and_dec, or_dec, seqK_ite, seqK_none, blockK_ite, blockK_none, opsK_ite, opsK_none, stepK_ite, stepK_none, bodyK_ite, bodyK_none, resK_ite, resK_none, leaveK_ite, leaveK_none, only_ite, only_none, bind_ite, gives_some, gives_none, gives_ite, then_normal, then_ret, then_exit, then_none, then_ite, Option.bind_none, Bool.not_eq_true', decide_eq_false_iff_not, Bool.and_eq_true, Bool.or_eq_true, Option.some.injEq, Int.not_lt, Int.not_le, lp116_0, hw, q, h138, show pure 138 = false from rfl]

def blN (n : Nat) : Nat := if n = 0 then 0 else Nat.log2 n + 1
theorem all101 : (List.range 13).map (fun (n : Nat) => callAV L 60 101 [.v (.int .u64 (n : Int))] ⟨[], []⟩) = (List.range 13).map (fun n => some (I (blN n : Nat), (⟨[], []⟩ : St))) := by kernel_rfl
theorem c101 (n : Nat) (hn : n ≤ 12) (st : St) : run L 101 [.v (.int .u64 (n : Int))] st = some (I (blN n), st) :=
  run_any' (fn := ir101) rfl rfl (callAV_run L 60 _ _ _ _ (all_of all101 n (by omega))) st
theorem c116 (b : List AV) (X : List (List Int)) (h1 : 1 ≤ X.length) (hn : X.length ≤ 12) (hx : ∀ l ∈ X, l.length < 1000000) (lim0 : Int) :
    run L 116 [.rsl 1 0 X.length X.length 1 false, I 0, I X.length, I lim0, cmpF] ⟨[b, X.map tAV], []⟩ = some (.tup [], ⟨[b, (sortL lexLt X).map tAV], []⟩) := by
  rw [run_shared (fn := ir116) rfl rfl]
  simp only [ir116, go_sem, reduceIte, Nat.reduceEqDiff, Nat.reduceAdd, Nat.reduceSub, Nat.reduceLeDiff, Nat.reduceLT, reduceCtorEq, Int.reduceLT, Int.reduceLE, Int.reduceEq, Int.reduceBEq, Int.reduceSub, Int.reduceAdd, Int.reduceMul, Int.reduceNeg, Int.reduceToNat, Nat.reduceMul, Nat.reduceBEq]
  generalize hg : lim (headed pure (run L) false _ lp116_0 _ _) _ _ = o
  obtain ⟨x, en, s, rfl, h2⟩ : ∃ x en s, o = some (x, en, s) ∧ _ := by rw [← hg]; exact loop116 b X h1 hn hx lim0 _ _ 0 trivial _ _ (by simp only [go_sem, reduceIte, Nat.reduceEqDiff, Nat.reduceAdd, Nat.reduceSub, Nat.reduceLeDiff, Nat.reduceLT, reduceCtorEq, Int.reduceLT, Int.reduceLE, Int.reduceEq, Int.reduceBEq, Int.reduceSub, Int.reduceAdd, Int.reduceMul, Int.reduceNeg, Int.reduceToNat, Nat.reduceMul, Nat.reduceBEq] <;> rfl)
  clear hg
  obtain ⟨rfl, rfl⟩ := h2
  simp only [go_sem, reduceIte, Nat.reduceEqDiff, Nat.reduceAdd, Nat.reduceSub, Nat.reduceLeDiff, Nat.reduceLT, reduceCtorEq, Int.reduceLT, Int.reduceLE, Int.reduceEq, Int.reduceBEq, Int.reduceSub, Int.reduceAdd, Int.reduceMul, Int.reduceNeg, Int.reduceToNat, Nat.reduceMul, Nat.reduceBEq]
theorem c96 (b : List AV) (X : List (List Int)) (h1 : 1 ≤ X.length) (hn : X.length ≤ 12) (hx : ∀ l ∈ X, l.length < 1000000) :
    run L 96 [.rsl 1 0 X.length X.length 1 false, cmpF] ⟨[b, X.map tAV], []⟩ = some (.tup [], ⟨[b, (sortL lexLt X).map tAV], []⟩) := by
  rw [run_shared (fn := ir96) rfl rfl]
  have hw : IntKind.u64.wrap (X.length : Int) = (X.length : Int) := by simp [IntKind.wrap, IntKind.bits, IntKind.signed]; omega
  have h101 := fun st => c101 X.length hn st
  have h116 := c116 b X h1 hn hx (blN X.length : Nat)
  simp only [ir96, go_sem, reduceIte, Nat.reduceEqDiff, Nat.reduceAdd, Nat.reduceSub, Nat.reduceLeDiff, Nat.reduceLT, reduceCtorEq, Int.reduceLT, Int.reduceLE, Int.reduceEq, Int.reduceBEq, Int.reduceSub, Int.reduceAdd, Int.reduceMul, Int.reduceNeg, Int.reduceToNat, Nat.reduceMul, Nat.reduceBEq, hw, h101, h116, show pure 116 = false from rfl]

/-! ### the shortest lists, by the law -/
def fewA (X : List (List Int)) : AV := if X = [] then .v (.slice none 0 0) else .rsl 1 0 X.length X.length 1 false
def fewS (X : List (List Int)) : List (List AV) := if X = [] then [] else [X.map tAV]
theorem refsL_T (n : Nat) : ∀ (X : List (List Int)) (acc : List Nat), refsL n acc (X.map tAV) = acc
  | [], acc => by simp only [List.map_nil, refsL]
  | x :: r, acc => by
    have e : refsV n acc (tAV x) = acc := refsV_sl n acc 1 true (x.map I)
    simp only [List.map_cons, refsL, e, refsL_T n r]
theorem mapLs_T (n : Nat) (M : List Nat) : ∀ (X : List (List Int)), mapLs n M (X.map tAV) = X.map tAV
  | [] => by simp only [List.map_nil, mapLs]
  | x :: r => by
    have e : mapL n M (tAV x) = tAV x := mapL_sl n M 1 true (x.map I)
    simp only [List.map_cons, mapLs, e, mapLs_T n M r]
theorem ren1_t (n : Nat) (tips : List Nat) (l : List Int) (acc : List (Nat × Nat)) : ren1 n tips acc (tAV l) = (tAV l, acc) := by
  unfold tAV
  cases l with
  | nil => rfl
  | cons a r => rw [sl_ne (by simp)]; simp [ren1]
theorem okRefsT (n : Nat) (X : List (List Int)) : okRefs n (X.map tAV) = true := okRefs_map tAV n (okRef_t n) X
theorem renCellsT (n : Nat) (tips : List Nat) (acc : List (Nat × Nat)) (X : List (List Int)) : renCells n tips acc (X.map tAV) = (X.map tAV, acc) := renCells_map tAV n tips (ren1_t n tips) X acc
theorem keepF_at {X : List (List Int)} {x : List Int} (h : X[0]? = some x) (a : List Int) : keepF lenI X a = if a.length < x.length then [a] else if a.length = x.length then X ++ [a] else X := by
  cases X with
  | nil => simp at h
  | cons y r =>
    have : y = x := by simpa using h
    subst this
    show (if lenI a < lenI y then [a] else if lenI a = lenI y then (y :: r) ++ [a] else y :: r) = _
    by_cases p : a.length < y.length
    · rw [if_pos p, if_pos (show lenI a < lenI y by unfold lenI; omega)]
    · rw [if_neg p, if_neg (show ¬ lenI a < lenI y by unfold lenI; omega)]
      by_cases q : a.length = y.length
      · rw [if_pos q, if_pos (show lenI a = lenI y by unfold lenI; omega)]
      · rw [if_neg q, if_neg (show ¬ lenI a = lenI y by unfold lenI; omega)]
theorem memb_len7 (m : Nat) : (memb m).length ≤ 7 := by
  unfold memb; rw [List.length_map]
  exact Nat.le_trans (List.length_filter_le _ _) (by simp)

attribute [local go_sem] shaped_t cells_t isAgg_t storable_t okRef_t pub_t

theorem happ_nil (l : List Int) (S : List (List AV)) : appendmAV 1 false (.v (.slice none 0 0)) [tAV l] ⟨S, []⟩ = some (.rsl S.length 0 1 1 1 false, ⟨S ++ [[tAV l]], []⟩) := by
  simp [appendmAV, newM, maxGrow, flatAV, cells_t]
theorem happ_at (b : List AV) (X : List (List Int)) (l : List Int) (h : 1 ≤ X.length) (h2 : X.length ≤ 1000) : appendmAV 1 false (.rsl 1 0 X.length X.length 1 false) [tAV l] ⟨[b, X.map tAV], []⟩ = some (.rsl 2 0 (X.length + 1) (X.length + 1) 1 false, ⟨[b, [], (X ++ [l]).map tAV], []⟩) := by
  have htk : (X.map tAV).take X.length = X.map tAV := List.take_of_length_le (by simp)
  simp only [appendmAV, List.getElem?_cons_succ, List.getElem?_cons_zero, List.length_cons, List.length_nil, List.length_map, Nat.mul_one, htk]
  rw [if_pos ⟨trivial, trivial, Nat.le_refl _, by omega, by omega⟩, if_neg (by omega), if_pos ⟨trivial, by unfold maxGrow; omega, by omega⟩]
  simp [flatAV, cells_t]

theorem refsV_t (n : Nat) (acc : List Nat) (l : List Int) : refsV n acc (tAV l) = acc := refsV_sl n acc 1 true (l.map I)
theorem mapL_t (n : Nat) (M : List Nat) (l : List Int) : mapL n M (tAV l) = tAV l := mapL_sl n M 1 true (l.map I)
theorem frzL1b {b cs : List AV} (hne : cs ≠ []) (T : List Nat) (env : Env) : frzL 1 env ⟨[b, cs], T⟩ = (frzEnv 1 cs env, ⟨[frzVs 1 cs b, []], T⟩) := by
  cases cs with
  | nil => exact absurd rfl hne
  | cons c cs => rfl
theorem cell1_t (l : List Int) : cell1 (tAV l) = tAV l := by unfold tAV sl; split <;> rfl
theorem frzV_madeT (l : Nat) (X : List (List Int)) (h : X ≠ []) : frzV l (X.map tAV) (.rsl l 0 X.length X.length 1 false) = sl 1 true (X.map tAV) := by
  simp only [frzV, List.length_map, List.drop_zero]
  rw [if_pos ⟨trivial, by omega, .inr trivial, Nat.le_refl _⟩, pubs_map tAV pub_t, groupm_one tAV cell1_t, sl_ne (by simpa using h)]
/-- The shortest lists among some sets. -/
def fewR (ps : List (Int × Int)) (X : List (List Int)) (l : List Nat) : List (List Int) := ((l.filter (expl ps)).map memb).foldl (keepF lenI) X
theorem fewR_nil (ps : List (Int × Int)) (X : List (List Int)) : fewR ps X [] = X := rfl
theorem fewR_cons (ps : List (Int × Int)) (X : List (List Int)) (m : Nat) (l : List Nat) : fewR ps X (m :: l) = fewR ps (if expl ps m = true then keepF lenI X (memb m) else X) l := by
  unfold fewR
  by_cases h : expl ps m = true
  · rw [if_pos h, List.filter_cons_of_pos h, List.map_cons, List.foldl_cons]
  · rw [if_neg h, List.filter_cons_of_neg h]
theorem fewA_ne {X : List (List Int)} (h : X ≠ []) : fewA X = .rsl 1 0 X.length X.length 1 false := by unfold fewA; rw [if_neg h]
theorem fewS_ne {X : List (List Int)} (h : X ≠ []) : fewS X = [X.map tAV] := by unfold fewS; rw [if_neg h]
theorem fewA_one (l : List Int) : fewA [l] = .rsl 1 0 1 1 1 false := rfl
theorem fewS_one (l : List Int) : fewS [l] = [[tAV l]] := rfl

set_option maxHeartbeats 1000000 in
theorem loop61 (nl : Bool) (n : Nat) (hn : n ≤ 7) (ps : List (Int × Int)) (hlen : ps.length < 1000000) (h7 : ∀ p ∈ ps, okP p) (m : Nat) (X : List (List Int)) (hok : m ≤ 2 ^ n ∧ X.length ≤ m ∧ ∀ l ∈ X, l.length ≤ 7) (env : Env) (st : St)
    (hg : gcAV true 1 0 (canon env [1, 3, 8, 9, 3000000]) st = ([(1, .ptr 0 0), (3, fewA X), (8, .v (.int .i64 ((2 ^ n : Nat) : Int))), (9, I m), (3000000, .any)], ⟨bkCells nl n ps :: fewS X, []⟩)) :
    ∃ x_1 en s, lim (headed pure (run L) true [1, 3, 8, 9, 3000000] lp61_0 1 0) env st = some (x_1, en, s) ∧ (x_1 = .exit 0 ∧ en.get 3 = fewA (fewR ps X (List.range' m (2 ^ n - m))) ∧ s = ⟨bkCells nl n ps :: fewS (fewR ps X (List.range' m (2 ^ n - m))), []⟩) := by
  refine loop_wp (α := Nat × List (List Int)) (fun ⟨m, X⟩ => 2 ^ n - m) (fun ⟨m, X⟩ => m ≤ 2 ^ n ∧ X.length ≤ m ∧ ∀ l ∈ X, l.length ≤ 7) (fun ⟨m, X⟩ => ([(1, .ptr 0 0), (3, fewA X), (8, .v (.int .i64 ((2 ^ n : Nat) : Int))), (9, I m), (3000000, .any)], ⟨bkCells nl n ps :: fewS X, []⟩)) (fun ⟨m, X⟩ x_1 en s => x_1 = .exit 0 ∧ en.get 3 = fewA (fewR ps X (List.range' m (2 ^ n - m))) ∧ s = ⟨bkCells nl n ps :: fewS (fewR ps X (List.range' m (2 ^ n - m))), []⟩) (fun ⟨m, X⟩ hok => ?_) ⟨m, X⟩ hok env st hg
  simp only at hok
  obtain ⟨h1, h2, h3⟩ := hok
  dsimp only at h1 h2 h3 ⊢
  have h128 : 2 ^ n ≤ 128 := Nat.le_trans (Nat.pow_le_pow_right (by omega) hn) (by decide)
  generalize 2 ^ n = N at *
  by_cases h : m < N
  · have hs := succ64 m (by omega)
    have hlt : ((m : Int) < (N : Int)) = True := eq_true (by omega)
    have hr : List.range' m (N - m) = m :: List.range' (m + 1) (N - (m + 1)) := by
      rw [show N - m = (N - (m + 1)) + 1 by omega, List.range'_succ]
    have h55 := fun st => c55 nl n ps hlen h7 m st
    have h56 : ∀ st, run L 56 [I (m : Int)] st = some (tAV (memb m), st) := fun st => c56 m st
    have hl7 := memb_len7 m
    have hla : ∀ l : List Int, lenAV (tAV l) = some (I l.length) := fun l => by unfold tAV; rw [len_sl]; simp
    have hN := fun S => happ_nil (memb m) S
    rw [hr, fewR_cons]
    cases he : expl ps m
    · rw [he] at h55
      simp only [Bool.false_eq_true, if_false]
      by_cases hX : X = []
      · subst hX
        have eA : fewA [] = .v (.slice none 0 0) := rfl
        have eS : fewS [] = [] := rfl
        simp only [go_sem, reduceIte, Nat.reduceEqDiff, Nat.reduceAdd, Nat.reduceSub, Nat.reduceLeDiff, Nat.reduceLT, reduceCtorEq, Int.reduceLT, Int.reduceLE, Int.reduceEq, Int.reduceBEq, Int.reduceSub, Int.reduceAdd, Int.reduceMul, Int.reduceNeg, Int.reduceToNat, Nat.reduceMul, Nat.reduceBEq, index_rsl_if, setm, make_ints, condK_dec, wantK_dec, not_dec, and_dec, or_dec, seqK_ite, seqK_none, blockK_ite, blockK_none, opsK_ite, opsK_none, stepK_ite, stepK_none, bodyK_ite, bodyK_none, resK_ite, resK_none, leaveK_ite, leaveK_none, only_ite, only_none, bind_ite, gives_some, gives_none, gives_ite, then_normal, then_ret, then_exit, then_none, then_ite, Option.bind_none, Bool.not_eq_true', decide_eq_false_iff_not, Bool.and_eq_true, Bool.or_eq_true, Option.some.injEq, Int.not_lt, Int.not_le, lp61_0, hlt, hs, h55, eA, eS]
        refine ⟨(m + 1, ([] : List (List Int))), by simp only [go_sem, reduceIte, Nat.reduceEqDiff, Nat.reduceAdd, Nat.reduceSub, Nat.reduceLeDiff, Nat.reduceLT, reduceCtorEq, Int.reduceLT, Int.reduceLE, Int.reduceEq, Int.reduceBEq, Int.reduceSub, Int.reduceAdd, Int.reduceMul, Int.reduceNeg, Int.reduceToNat, Nat.reduceMul, Nat.reduceBEq, ren1_locm, loc_tips, locT_eq, eA, eS, okRefsT, renCellsT, compact, compactW, refsEnv, refsV, refsL, refsStore, refsAt, mapEnv, mapL, mapLs, newName, posOf, mapStore, pickStore, namesOk, refsV_sl, mapL_sl, refsL_T, mapLs_T, refsV_t, mapL_t, ren1_t, List.contains_nil, List.contains_cons, Option.getD_some, hasKey] <;> rfl, ?_, ?_, fun x en s hq => ?_⟩
        · dsimp only; exact ⟨by omega, by simp, by simp⟩
        · dsimp only; omega
        · exact hq
      · have eA := fewA_ne hX
        have eS := fewS_ne hX
        simp only [go_sem, reduceIte, Nat.reduceEqDiff, Nat.reduceAdd, Nat.reduceSub, Nat.reduceLeDiff, Nat.reduceLT, reduceCtorEq, Int.reduceLT, Int.reduceLE, Int.reduceEq, Int.reduceBEq, Int.reduceSub, Int.reduceAdd, Int.reduceMul, Int.reduceNeg, Int.reduceToNat, Nat.reduceMul, Nat.reduceBEq, index_rsl_if, setm, make_ints, condK_dec, wantK_dec, not_dec, and_dec, or_dec, seqK_ite, seqK_none, blockK_ite, blockK_none, opsK_ite, opsK_none, stepK_ite, stepK_none, bodyK_ite, bodyK_none, resK_ite, resK_none, leaveK_ite, leaveK_none, only_ite, only_none, bind_ite, gives_some, gives_none, gives_ite, then_normal, then_ret, then_exit, then_none, then_ite, Option.bind_none, Bool.not_eq_true', decide_eq_false_iff_not, Bool.and_eq_true, Bool.or_eq_true, Option.some.injEq, Int.not_lt, Int.not_le, lp61_0, hlt, hs, h55, eA, eS]
        refine ⟨(m + 1, X), by simp only [go_sem, reduceIte, Nat.reduceEqDiff, Nat.reduceAdd, Nat.reduceSub, Nat.reduceLeDiff, Nat.reduceLT, reduceCtorEq, Int.reduceLT, Int.reduceLE, Int.reduceEq, Int.reduceBEq, Int.reduceSub, Int.reduceAdd, Int.reduceMul, Int.reduceNeg, Int.reduceToNat, Nat.reduceMul, Nat.reduceBEq, ren1_locm, loc_tips, locT_eq, eA, eS, okRefsT, renCellsT, compact, compactW, refsEnv, refsV, refsL, refsStore, refsAt, mapEnv, mapL, mapLs, newName, posOf, mapStore, pickStore, namesOk, refsV_sl, mapL_sl, refsL_T, mapLs_T, refsV_t, mapL_t, ren1_t, List.contains_nil, List.contains_cons, Option.getD_some, hasKey] <;> rfl, ?_, ?_, fun x en s hq => ?_⟩
        · dsimp only; exact ⟨by omega, by omega, h3⟩
        · dsimp only; omega
        · exact hq
    · rw [he] at h55
      simp only [if_true]
      by_cases hX : X = []
      · subst hX
        have eA : fewA [] = .v (.slice none 0 0) := rfl
        have eS : fewS [] = [] := rfl
        have ek : keepF lenI [] (memb m) = [memb m] := rfl
        rw [ek]
        generalize memb m = l at *
        simp only [go_sem, reduceIte, Nat.reduceEqDiff, Nat.reduceAdd, Nat.reduceSub, Nat.reduceLeDiff, Nat.reduceLT, reduceCtorEq, Int.reduceLT, Int.reduceLE, Int.reduceEq, Int.reduceBEq, Int.reduceSub, Int.reduceAdd, Int.reduceMul, Int.reduceNeg, Int.reduceToNat, Nat.reduceMul, Nat.reduceBEq, index_rsl_if, setm, make_ints, condK_dec, wantK_dec, not_dec, and_dec, or_dec, seqK_ite, seqK_none, blockK_ite, blockK_none, opsK_ite, opsK_none, stepK_ite, stepK_none, bodyK_ite, bodyK_none, resK_ite, resK_none, leaveK_ite, leaveK_none, only_ite, only_none, bind_ite, gives_some, gives_none, gives_ite, then_normal, then_ret, then_exit, then_none, then_ite, Option.bind_none, Bool.not_eq_true', decide_eq_false_iff_not, Bool.and_eq_true, Bool.or_eq_true, Option.some.injEq, Int.not_lt, Int.not_le, lp61_0, hlt, hs, h55, h56, eA, eS, hla, hN]
        refine ⟨(m + 1, [l]), by simp only [go_sem, reduceIte, Nat.reduceEqDiff, Nat.reduceAdd, Nat.reduceSub, Nat.reduceLeDiff, Nat.reduceLT, reduceCtorEq, Int.reduceLT, Int.reduceLE, Int.reduceEq, Int.reduceBEq, Int.reduceSub, Int.reduceAdd, Int.reduceMul, Int.reduceNeg, Int.reduceToNat, Nat.reduceMul, Nat.reduceBEq, ren1_locm, loc_tips, locT_eq, fewA_one, fewS_one, okRefsT, renCellsT, compact, compactW, refsEnv, refsV, refsL, refsStore, refsAt, mapEnv, mapL, mapLs, newName, posOf, mapStore, pickStore, namesOk, refsV_sl, mapL_sl, refsL_T, mapLs_T, refsV_t, mapL_t, ren1_t, List.contains_nil, List.contains_cons, Option.getD_some, hasKey] <;> rfl, ?_, ?_, fun x en s hq => ?_⟩
        · dsimp only; exact ⟨by omega, by simp, by simpa using hl7⟩
        · dsimp only; omega
        · exact hq
      · have eA := fewA_ne hX
        have eS := fewS_ne hX
        obtain ⟨x, hx⟩ : ∃ x, X[0]? = some x := by
          cases X with
          | nil => exact absurd rfl hX
          | cons x r => exact ⟨x, rfl⟩
        have hxt := getT X 0 x hx
        have hk := keepF_at hx (memb m)
        have hpos : 1 ≤ X.length := by
          cases X with
          | nil => exact absurd rfl hX
          | cons x r => simp
        have hpos' : ((0 : Int) < (X.length : Int)) = True := eq_true (by omega)
        have hp2 : (0 < X.length) = True := eq_true (by omega)
        have hp3 : (1 ≤ X.length) = True := eq_true (by omega)
        have hp4 : ((X.length : Int) = 0) = False := eq_false (by omega)
        have hA := happ_at (bkCells nl n ps) X (memb m) hpos (by omega)
        rw [hk]
        generalize memb m = l at *
        by_cases p : l.length < x.length
        · have p' : ((l.length : Int) < (x.length : Int)) = True := eq_true (by omega)
          rw [if_pos p]
          simp only [go_sem, reduceIte, Nat.reduceEqDiff, Nat.reduceAdd, Nat.reduceSub, Nat.reduceLeDiff, Nat.reduceLT, reduceCtorEq, Int.reduceLT, Int.reduceLE, Int.reduceEq, Int.reduceBEq, Int.reduceSub, Int.reduceAdd, Int.reduceMul, Int.reduceNeg, Int.reduceToNat, Nat.reduceMul, Nat.reduceBEq, index_rsl_if, setm, make_ints, condK_dec, wantK_dec, not_dec, and_dec, or_dec, seqK_ite, seqK_none, blockK_ite, blockK_none, opsK_ite, opsK_none, stepK_ite, stepK_none, bodyK_ite, bodyK_none, resK_ite, resK_none, leaveK_ite, leaveK_none, only_ite, only_none, bind_ite, gives_some, gives_none, gives_ite, then_normal, then_ret, then_exit, then_none, then_ite, Option.bind_none, Bool.not_eq_true', decide_eq_false_iff_not, Bool.and_eq_true, Bool.or_eq_true, Option.some.injEq, Int.not_lt, Int.not_le, lp61_0, hlt, hs, h55, h56, eA, eS, hla, hN, hxt, hpos', hp2, hp3, hp4, p']
          refine ⟨(m + 1, [l]), by simp only [go_sem, reduceIte, Nat.reduceEqDiff, Nat.reduceAdd, Nat.reduceSub, Nat.reduceLeDiff, Nat.reduceLT, reduceCtorEq, Int.reduceLT, Int.reduceLE, Int.reduceEq, Int.reduceBEq, Int.reduceSub, Int.reduceAdd, Int.reduceMul, Int.reduceNeg, Int.reduceToNat, Nat.reduceMul, Nat.reduceBEq, ren1_locm, loc_tips, locT_eq, fewA_one, fewS_one, okRefsT, renCellsT, compact, compactW, refsEnv, refsV, refsL, refsStore, refsAt, mapEnv, mapL, mapLs, newName, posOf, mapStore, pickStore, namesOk, refsV_sl, mapL_sl, refsL_T, mapLs_T, refsV_t, mapL_t, ren1_t, List.contains_nil, List.contains_cons, Option.getD_some, hasKey] <;> rfl, ?_, ?_, fun x en s hq => ?_⟩
          · dsimp only; exact ⟨by omega, by simp, by simpa using hl7⟩
          · dsimp only; omega
          · exact hq
        · have p' : ((l.length : Int) < (x.length : Int)) = False := eq_false (by omega)
          rw [if_neg p]
          by_cases q : l.length = x.length
          · have q' : ((l.length : Int) = (x.length : Int)) = True := eq_true (by omega)
            have eA2 : fewA (X ++ [l]) = .rsl 1 0 (X.length + 1) (X.length + 1) 1 false := by rw [fewA_ne (by simp)]; simp
            have eS2 : fewS (X ++ [l]) = [(X ++ [l]).map tAV] := fewS_ne (by simp)
            rw [if_pos q]
            generalize hY : X ++ [l] = Y at *
            have hYl : Y.length = X.length + 1 := by rw [← hY]; simp
            simp only [go_sem, reduceIte, Nat.reduceEqDiff, Nat.reduceAdd, Nat.reduceSub, Nat.reduceLeDiff, Nat.reduceLT, reduceCtorEq, Int.reduceLT, Int.reduceLE, Int.reduceEq, Int.reduceBEq, Int.reduceSub, Int.reduceAdd, Int.reduceMul, Int.reduceNeg, Int.reduceToNat, Nat.reduceMul, Nat.reduceBEq, index_rsl_if, setm, make_ints, condK_dec, wantK_dec, not_dec, and_dec, or_dec, seqK_ite, seqK_none, blockK_ite, blockK_none, opsK_ite, opsK_none, stepK_ite, stepK_none, bodyK_ite, bodyK_none, resK_ite, resK_none, leaveK_ite, leaveK_none, only_ite, only_none, bind_ite, gives_some, gives_none, gives_ite, then_normal, then_ret, then_exit, then_none, then_ite, Option.bind_none, Bool.not_eq_true', decide_eq_false_iff_not, Bool.and_eq_true, Bool.or_eq_true, Option.some.injEq, Int.not_lt, Int.not_le, lp61_0, hlt, hs, h55, h56, eA, eS, hla, hA, hxt, hpos', hp2, hp3, hp4, p', q']
            refine ⟨(m + 1, Y), by simp only [go_sem, reduceIte, Nat.reduceEqDiff, Nat.reduceAdd, Nat.reduceSub, Nat.reduceLeDiff, Nat.reduceLT, reduceCtorEq, Int.reduceLT, Int.reduceLE, Int.reduceEq, Int.reduceBEq, Int.reduceSub, Int.reduceAdd, Int.reduceMul, Int.reduceNeg, Int.reduceToNat, Nat.reduceMul, Nat.reduceBEq, ren1_locm, loc_tips, locT_eq, eA2, eS2, okRefsT, renCellsT, compact, compactW, refsEnv, refsV, refsL, refsStore, refsAt, mapEnv, mapL, mapLs, newName, posOf, mapStore, pickStore, namesOk, refsV_sl, mapL_sl, refsL_T, mapLs_T, refsV_t, mapL_t, ren1_t, List.contains_nil, List.contains_cons, Option.getD_some, hasKey] <;> rfl, ?_, ?_, fun x en s hq => ?_⟩
            · dsimp only
              refine ⟨by omega, by omega, fun z hz => ?_⟩
              rw [← hY] at hz
              rcases List.mem_append.1 hz with hz | hz
              · exact h3 z hz
              · rw [List.mem_singleton.1 hz]; exact hl7
            · dsimp only; omega
            · exact hq
          · have q' : ((l.length : Int) = (x.length : Int)) = False := eq_false (by omega)
            rw [if_neg q]
            simp only [go_sem, reduceIte, Nat.reduceEqDiff, Nat.reduceAdd, Nat.reduceSub, Nat.reduceLeDiff, Nat.reduceLT, reduceCtorEq, Int.reduceLT, Int.reduceLE, Int.reduceEq, Int.reduceBEq, Int.reduceSub, Int.reduceAdd, Int.reduceMul, Int.reduceNeg, Int.reduceToNat, Nat.reduceMul, Nat.reduceBEq, index_rsl_if, setm, make_ints, condK_dec, wantK_dec, not_dec, and_dec, or_dec, seqK_ite, seqK_none, blockK_ite, blockK_none, opsK_ite, opsK_none, stepK_ite, stepK_none, bodyK_ite, bodyK_none, resK_ite, resK_none, leaveK_ite, leaveK_none, only_ite, only_none, bind_ite, gives_some, gives_none, gives_ite, then_normal, then_ret, then_exit, then_none, then_ite, Option.bind_none, Bool.not_eq_true', decide_eq_false_iff_not, Bool.and_eq_true, Bool.or_eq_true, Option.some.injEq, Int.not_lt, Int.not_le, lp61_0, hlt, hs, h55, h56, eA, eS, hla, hxt, hpos', hp2, hp3, hp4, p', q']
            refine ⟨(m + 1, X), by simp only [go_sem, reduceIte, Nat.reduceEqDiff, Nat.reduceAdd, Nat.reduceSub, Nat.reduceLeDiff, Nat.reduceLT, reduceCtorEq, Int.reduceLT, Int.reduceLE, Int.reduceEq, Int.reduceBEq, Int.reduceSub, Int.reduceAdd, Int.reduceMul, Int.reduceNeg, Int.reduceToNat, Nat.reduceMul, Nat.reduceBEq, ren1_locm, loc_tips, locT_eq, eA, eS, okRefsT, renCellsT, compact, compactW, refsEnv, refsV, refsL, refsStore, refsAt, mapEnv, mapL, mapLs, newName, posOf, mapStore, pickStore, namesOk, refsV_sl, mapL_sl, refsL_T, mapLs_T, refsV_t, mapL_t, ren1_t, List.contains_nil, List.contains_cons, Option.getD_some, hasKey] <;> rfl, ?_, ?_, fun x en s hq => ?_⟩
            · dsimp only; exact ⟨by omega, by omega, h3⟩
            · dsimp only; omega
            · exact hq
  · obtain rfl : m = N := by omega
    have hr : List.range' m (m - m) = [] := by simp
    rw [hr, fewR_nil]
    simp only [go_sem, reduceIte, Nat.reduceEqDiff, Nat.reduceAdd, Nat.reduceSub, Nat.reduceLeDiff, Nat.reduceLT, reduceCtorEq, Int.reduceLT, Int.reduceLE, Int.reduceEq, Int.reduceBEq, Int.reduceSub, Int.reduceAdd, Int.reduceMul, Int.reduceNeg, Int.reduceToNat, Nat.reduceMul, Nat.reduceBEq, index_rsl_if, setm, make_ints, condK_dec, wantK_dec, not_dec, and_dec, or_dec, seqK_ite, seqK_none, blockK_ite, blockK_none, opsK_ite, opsK_none, stepK_ite, stepK_none, bodyK_ite, bodyK_none, resK_ite, resK_none, leaveK_ite, leaveK_none, only_ite, only_none, bind_ite, gives_some, gives_none, gives_ite, then_normal, then_ret, then_exit, then_none, then_ite, Option.bind_none, Bool.not_eq_true', decide_eq_false_iff_not, Bool.and_eq_true, Bool.or_eq_true, Option.some.injEq, Int.not_lt, Int.not_le, lp61_0, show ((m : Int) < (m : Int)) = False from eq_false (by omega)]

theorem few_ne {n : Nat} (hn : n ≤ 7) {ps : List (Int × Int)} (hps : ∀ p ∈ ps, 0 ≤ p.1 ∧ p.1 < p.2 ∧ p.2 < (n : Int)) (h7 : ∀ p ∈ ps, okP p) : fewV n ps ≠ [] := by
  intro e
  have h := few_perm hn h7
  rw [e] at h
  have h2 := List.nil_perm.1 h
  rw [List.map_eq_nil_iff] at h2
  exact cheap_ne 2 hps h2
theorem few_in {n : Nat} {ps : List (Int × Int)} : ∀ l ∈ fewV n ps, l.length ≤ 7 := by
  intro l hl
  unfold fewV at hl
  obtain ⟨m, _, rfl⟩ := List.mem_map.1 (mem_least.1 hl).1
  exact memb_len7 m
theorem fewR_all (n : Nat) (ps : List (Int × Int)) : fewR ps [] (List.range' 0 (2 ^ n - 0)) = fewV n ps := by
  unfold fewR fewV
  rw [keepF_spec, Nat.sub_zero, ← List.range_eq_range']
/-- The shortest lists, in order. -/
def allV (n : Nat) (ps : List (Int × Int)) : List (List Int) := sortL lexLt (fewV n ps)
attribute [local go_sem high] shl_i
theorem c61 (nl : Bool) (n : Nat) (hn : n ≤ 7) (ps : List (Int × Int)) (hlen : ps.length < 1000000) (hps : ∀ p ∈ ps, 0 ≤ p.1 ∧ p.1 < p.2 ∧ p.2 < (n : Int)) (h7 : ∀ p ∈ ps, okP p) (st : St) :
    run L 61 [bkAV nl n ps] st = some (sl 1 true ((allV n ps).map tAV), st) := by
  rw [run_pure (fn := ir61) rfl rfl]
  have hsh := shI_eq n hn
  simp only [ir61, go_sem, reduceIte, Nat.reduceEqDiff, Nat.reduceAdd, Nat.reduceSub, Nat.reduceLeDiff, Nat.reduceLT, reduceCtorEq, Int.reduceLT, Int.reduceLE, Int.reduceEq, Int.reduceBEq, Int.reduceSub, Int.reduceAdd, Int.reduceMul, Int.reduceNeg, Int.reduceToNat, Nat.reduceMul, Nat.reduceBEq, hsh]
  generalize hg : lim (headed pure (run L) true _ lp61_0 _ _) _ _ = o
  obtain ⟨x, en, s, rfl, h2⟩ : ∃ x en s, o = some (x, en, s) ∧ _ := by rw [← hg]; exact loop61 nl n hn ps hlen h7 0 [] ⟨Nat.zero_le _, by simp, by simp⟩ _ _ (by simp only [go_sem, reduceIte, Nat.reduceEqDiff, Nat.reduceAdd, Nat.reduceSub, Nat.reduceLeDiff, Nat.reduceLT, reduceCtorEq, Int.reduceLT, Int.reduceLE, Int.reduceEq, Int.reduceBEq, Int.reduceSub, Int.reduceAdd, Int.reduceMul, Int.reduceNeg, Int.reduceToNat, Nat.reduceMul, Nat.reduceBEq, show fewA [] = .v (.slice none 0 0) from rfl, show fewS [] = [] from rfl, okRefsT, renCellsT, compact, compactW, refsEnv, refsV, refsL, refsStore, refsAt, mapEnv, mapL, mapLs, newName, posOf, mapStore, pickStore, namesOk, refsV_sl, mapL_sl, refsL_T, mapLs_T, List.contains_nil, List.contains_cons, Option.getD_some, hasKey, Int.natCast_zero] <;> rfl)
  clear hg
  rw [fewR_all] at h2
  obtain ⟨rfl, e3, rfl⟩ := h2
  have hne := few_ne hn hps h7
  have h12 := few_len hn hps
  have hin := few_in (n := n) (ps := ps)
  have eA := fewA_ne hne
  have eS := fewS_ne hne
  have h96 := c96 (bkCells nl n ps) (fewV n ps) (List.length_pos_iff.2 hne) h12 (fun l hl => by have := hin l hl; omega)
  have hlS : (sortL lexLt (fewV n ps)).length = (fewV n ps).length := (sortL_perm lexLt (fewV n ps)).length_eq
  have hneS : sortL lexLt (fewV n ps) ≠ [] := by
    intro e; rw [e] at hlS; exact hne (List.length_eq_zero_iff.1 hlS.symm)
  have hfz := fun T env => frzL1b (b := bkCells nl n ps) (cs := (sortL lexLt (fewV n ps)).map tAV) (by simpa using hneS) T env
  have hfv := frzV_madeT 1 (sortL lexLt (fewV n ps)) hneS
  rw [hlS] at hfv
  unfold allV
  generalize sortL lexLt (fewV n ps) = Y at *
  generalize fewV n ps = X at *
  simp only [go_sem, reduceIte, Nat.reduceEqDiff, Nat.reduceAdd, Nat.reduceSub, Nat.reduceLeDiff, Nat.reduceLT, reduceCtorEq, Int.reduceLT, Int.reduceLE, Int.reduceEq, Int.reduceBEq, Int.reduceSub, Int.reduceAdd, Int.reduceMul, Int.reduceNeg, Int.reduceToNat, Nat.reduceMul, Nat.reduceBEq, e3, eA, eS, h96, show pure 96 = false from rfl, code_frz, frzAV, frzT, frzLs, rslsOf, hfz, frzEnv, frzEnv_get, frzStore, frzVs, frzV_v, frzV_ptr, frzV_sl, hfv]

attribute [local go_sem high] and_i shr_i shl_i

/-! ### two sides -/
def sameP (m : Nat) (p : Int × Int) : Bool := m.testBit p.1.toNat == m.testBit p.2.toNat
theorem bit_same (m u v : Nat) : ((((m >>> u) % 2 : Nat) : Int) = (((m >>> v) % 2 : Nat) : Int)) = (m.testBit u = m.testBit v) := by
  have h1 := bitI_eq m u
  have h2 := bitI_eq m v
  unfold bitI at h1 h2
  rw [h1, h2]
  cases m.testBit u <;> cases m.testBit v <;> simp
theorem c99 (m u v : Nat) (hu : u < 7) (hv : v < 7) (l : Nat) (st : St) (hl : st.store[l]? = some [I m]) :
    run L 99 [.agg [I u, I v], .ptr l 0] st = some (B (sameP m ((u : Int), (v : Int))), ⟨st.store ++ [[I u, I v]], st.tips⟩) := by
  rw [run_shared (fn := ir99) rfl rfl]
  have hl2 : (st.store ++ [[I u, I v]])[l]? = some [I m] := by rw [List.getElem?_append_left (by have := List.getElem?_eq_some_iff.1 hl; exact this.1)]; exact hl
  have hs1 := min64 u (by omega)
  have hs2 := min64 v (by omega)
  have z := bit_same m u v
  have hn : (st.store ++ [[I u, I v]])[st.store.length]? = some [I u, I v] := by simp
  have e : sameP m ((u : Int), (v : Int)) = decide (m.testBit u = m.testBit v) := by
    unfold sameP; simp only [Int.toNat_natCast]
    cases m.testBit u <;> cases m.testBit v <;> rfl
  rw [e]
  simp only [ir99, go_sem, reduceIte, Nat.reduceEqDiff, Nat.reduceAdd, Nat.reduceSub, Nat.reduceLeDiff, Nat.reduceLT, reduceCtorEq, Int.reduceLT, Int.reduceLE, Int.reduceEq, Int.reduceBEq, Int.reduceSub, Int.reduceAdd, Int.reduceMul, Int.reduceNeg, Int.reduceToNat, Nat.reduceMul, Nat.reduceBEq, loadAV, hl2, hn, hs1, hs2, z]

theorem loop95s (nl : Bool) (ps : List (Int × Int)) (hlen : ps.length < 1000000) (hok7 : ∀ p ∈ ps, okP p) (m : Nat) (l : Nat) (S0 : List (List AV)) (T : List Nat) (hl : S0[l]? = some [I m]) (lo hi : Nat) (i : Nat) (junk : List (List AV)) (hok : i ≤ ps.length) (env : Env) (st : St)
    (hg : gcAV false lo hi (canon env [0, 1, 7, 8]) st = ([(0, sl 2 nl (ps.map prAV)), (1, .fn (.func 99) [] [.ptr l 0]), (7, I ps.length), (8, I i)], ⟨S0 ++ junk, T⟩)) :
    ∃ x_1 en s, lim (headed pure (run L) false [0, 1, 7, 8] lp95_0 lo hi) env st = some (x_1, en, s) ∧ ((∃ j, s = ⟨S0 ++ j, T⟩) ∧ (if (ps.drop i).any (sameP m) = true then x_1 = .ret ∧ ∃ k : Int, 0 ≤ k ∧ en.get 4 = I k else x_1 = .exit 0)) := by
  refine loop_wp (α := Nat × List (List AV)) (fun ⟨i, junk⟩ => ps.length - i) (fun ⟨i, junk⟩ => i ≤ ps.length) (fun ⟨i, junk⟩ => ([(0, sl 2 nl (ps.map prAV)), (1, .fn (.func 99) [] [.ptr l 0]), (7, I ps.length), (8, I i)], ⟨S0 ++ junk, T⟩)) (fun ⟨i, junk⟩ x_1 en s => (∃ j, s = ⟨S0 ++ j, T⟩) ∧ (if (ps.drop i).any (sameP m) = true then x_1 = .ret ∧ ∃ k : Int, 0 ≤ k ∧ en.get 4 = I k else x_1 = .exit 0)) (fun ⟨i, junk⟩ hok => ?_) ⟨i, junk⟩ hok env st hg
  simp only at hok
  have hl2 : (S0 ++ junk)[l]? = some [I m] := by rw [List.getElem?_append_left (List.getElem?_eq_some_iff.1 hl).1]; exact hl
  by_cases h : i < ps.length
  · have hx := index_prs nl ps i h
    have hs := succ64 i (by omega)
    have hd : ps.drop i = ps[i] :: ps.drop (i + 1) := List.drop_eq_getElem_cons h
    have hin : ps[i] ∈ ps := List.getElem_mem h
    have h7 := hok7 _ hin
    dsimp only
    rw [hd]
    generalize ps[i] = c at *
    obtain ⟨u, v⟩ := c
    obtain ⟨a1, a2, a3, a4⟩ := h7
    simp only at a1 a2 a3 a4
    obtain ⟨u, rfl⟩ := Int.eq_ofNat_of_zero_le a1
    obtain ⟨v, rfl⟩ := Int.eq_ofNat_of_zero_le a3
    have hlt : ((i : Int) < (ps.length : Int)) = True := eq_true (by omega)
    have h99 := c99 m u v (by omega) (by omega) l ⟨S0 ++ junk, T⟩ hl2
    simp only at hx h99
    cases p : sameP m ((u : Int), (v : Int))
    · rw [p] at h99
      simp only [go_sem, reduceIte, Nat.reduceEqDiff, Nat.reduceAdd, Nat.reduceSub, Nat.reduceLeDiff, Nat.reduceLT, reduceCtorEq, Int.reduceLT, Int.reduceLE, Int.reduceEq, Int.reduceBEq, Int.reduceSub, Int.reduceAdd, Int.reduceMul, Int.reduceNeg, Int.reduceToNat, Nat.reduceMul, Nat.reduceBEq, index_rsl_if, setm, make_ints, condK_dec, wantK_dec, not_dec, and_dec, or_dec, seqK_ite, seqK_none, blockK_ite, blockK_none, opsK_ite, opsK_none, stepK_ite, stepK_none, bodyK_ite, bodyK_none, resK_ite, resK_none, leaveK_ite, leaveK_none, only_ite, only_none, bind_ite, gives_some, gives_none, gives_ite, then_normal, then_ret, then_exit, then_none, then_ite, Option.bind_none, Bool.not_eq_true', decide_eq_false_iff_not, Bool.and_eq_true, Bool.or_eq_true, Option.some.injEq, Int.not_lt, Int.not_le, lp95_0, hx, hlt, h99, hs, show pure 99 = false from rfl, List.append_assoc]
      refine ⟨(i + 1, junk ++ [[I u, I v]]), by simp only [go_sem, reduceIte, Nat.reduceEqDiff, Nat.reduceAdd, Nat.reduceSub, Nat.reduceLeDiff, Nat.reduceLT, reduceCtorEq, Int.reduceLT, Int.reduceLE, Int.reduceEq, Int.reduceBEq, Int.reduceSub, Int.reduceAdd, Int.reduceMul, Int.reduceNeg, Int.reduceToNat, Nat.reduceMul, Nat.reduceBEq, ren1_locm, loc_tips, locT_eq] <;> rfl, ?_, ?_, fun x en s hq => ?_⟩
      · omega
      · simp only; omega
      · rw [List.any_cons, p, Bool.false_or]; exact hq
    · rw [p] at h99
      simp only [go_sem, reduceIte, Nat.reduceEqDiff, Nat.reduceAdd, Nat.reduceSub, Nat.reduceLeDiff, Nat.reduceLT, reduceCtorEq, Int.reduceLT, Int.reduceLE, Int.reduceEq, Int.reduceBEq, Int.reduceSub, Int.reduceAdd, Int.reduceMul, Int.reduceNeg, Int.reduceToNat, Nat.reduceMul, Nat.reduceBEq, index_rsl_if, setm, make_ints, condK_dec, wantK_dec, not_dec, and_dec, or_dec, seqK_ite, seqK_none, blockK_ite, blockK_none, opsK_ite, opsK_none, stepK_ite, stepK_none, bodyK_ite, bodyK_none, resK_ite, resK_none, leaveK_ite, leaveK_none, only_ite, only_none, bind_ite, gives_some, gives_none, gives_ite, then_normal, then_ret, then_exit, then_none, then_ite, Option.bind_none, Bool.not_eq_true', decide_eq_false_iff_not, Bool.and_eq_true, Bool.or_eq_true, Option.some.injEq, Int.not_lt, Int.not_le, lp95_0, hx, hlt, h99, show pure 99 = false from rfl, List.append_assoc]
      refine ⟨⟨_, rfl⟩, ?_⟩
      rw [if_pos (by rw [List.any_cons, p]; rfl)]
      exact ⟨(i : Int), by omega, rfl⟩
  · have hd : ps.drop i = [] := List.drop_eq_nil_of_le (by omega)
    have hlt : ((i : Int) < (ps.length : Int)) = False := eq_false (by omega)
    simp only [go_sem, reduceIte, Nat.reduceEqDiff, Nat.reduceAdd, Nat.reduceSub, Nat.reduceLeDiff, Nat.reduceLT, reduceCtorEq, Int.reduceLT, Int.reduceLE, Int.reduceEq, Int.reduceBEq, Int.reduceSub, Int.reduceAdd, Int.reduceMul, Int.reduceNeg, Int.reduceToNat, Nat.reduceMul, Nat.reduceBEq, index_rsl_if, setm, make_ints, condK_dec, wantK_dec, not_dec, and_dec, or_dec, seqK_ite, seqK_none, blockK_ite, blockK_none, opsK_ite, opsK_none, stepK_ite, stepK_none, bodyK_ite, bodyK_none, resK_ite, resK_none, leaveK_ite, leaveK_none, only_ite, only_none, bind_ite, gives_some, gives_none, gives_ite, then_normal, then_ret, then_exit, then_none, then_ite, Option.bind_none, Bool.not_eq_true', decide_eq_false_iff_not, Bool.and_eq_true, Bool.or_eq_true, Option.some.injEq, Int.not_lt, Int.not_le, lp95_0, hlt]
    refine ⟨⟨_, rfl⟩, ?_⟩
    rw [hd]; simp

theorem c95s (nl : Bool) (ps : List (Int × Int)) (hlen : ps.length < 1000000) (hok7 : ∀ p ∈ ps, okP p) (m : Nat) (l : Nat) (st : St) (hl : st.store[l]? = some [I m]) :
    ∃ (k : Int) (j : List (List AV)), run L 95 [sl 2 nl (ps.map prAV), .fn (.func 99) [] [.ptr l 0]] st = some (I k, ⟨st.store ++ j, st.tips⟩) ∧ (0 ≤ k ↔ ps.any (sameP m) = true) := by
  obtain ⟨S0, T⟩ := st
  rw [run_shared (fn := ir95) rfl rfl]
  simp only [ir95, go_sem, reduceIte, Nat.reduceEqDiff, Nat.reduceAdd, Nat.reduceSub, Nat.reduceLeDiff, Nat.reduceLT, reduceCtorEq, Int.reduceLT, Int.reduceLE, Int.reduceEq, Int.reduceBEq, Int.reduceSub, Int.reduceAdd, Int.reduceMul, Int.reduceNeg, Int.reduceToNat, Nat.reduceMul, Nat.reduceBEq, List.length_map]
  generalize hg : lim (headed pure (run L) false _ lp95_0 _ _) _ _ = o
  obtain ⟨x, en, s, rfl, h2⟩ : ∃ x en s, o = some (x, en, s) ∧ _ := by rw [← hg]; exact loop95s nl ps hlen hok7 m l S0 T hl S0.length T.length 0 [] (by omega) _ _ (by simp only [go_sem, reduceIte, Nat.reduceEqDiff, Nat.reduceAdd, Nat.reduceSub, Nat.reduceLeDiff, Nat.reduceLT, reduceCtorEq, Int.reduceLT, Int.reduceLE, Int.reduceEq, Int.reduceBEq, Int.reduceSub, Int.reduceAdd, Int.reduceMul, Int.reduceNeg, Int.reduceToNat, Nat.reduceMul, Nat.reduceBEq, List.append_nil] <;> rfl)
  clear hg
  rw [List.drop_zero] at h2
  obtain ⟨⟨j, rfl⟩, h2⟩ := h2
  by_cases h : ps.any (sameP m) = true
  · rw [if_pos h] at h2
    obtain ⟨rfl, k, hk, h3⟩ := h2
    exact ⟨k, j, by simp only [go_sem, reduceIte, Nat.reduceEqDiff, Nat.reduceAdd, Nat.reduceSub, Nat.reduceLeDiff, Nat.reduceLT, reduceCtorEq, Int.reduceLT, Int.reduceLE, Int.reduceEq, Int.reduceBEq, Int.reduceSub, Int.reduceAdd, Int.reduceMul, Int.reduceNeg, Int.reduceToNat, Nat.reduceMul, Nat.reduceBEq, h3], by simp [h, hk]⟩
  · rw [if_neg h] at h2
    subst h2
    exact ⟨-1, j, by simp only [go_sem, reduceIte, Nat.reduceEqDiff, Nat.reduceAdd, Nat.reduceSub, Nat.reduceLeDiff, Nat.reduceLT, reduceCtorEq, Int.reduceLT, Int.reduceLE, Int.reduceEq, Int.reduceBEq, Int.reduceSub, Int.reduceAdd, Int.reduceMul, Int.reduceNeg, Int.reduceToNat, Nat.reduceMul, Nat.reduceBEq], by simp [h]⟩
theorem c98s (nl : Bool) (ps : List (Int × Int)) (hlen : ps.length < 1000000) (hok7 : ∀ p ∈ ps, okP p) (m : Nat) (l : Nat) (st : St) (hl : st.store[l]? = some [I m]) :
    ∃ j : List (List AV), run L 98 [sl 2 nl (ps.map prAV), .fn (.func 99) [] [.ptr l 0]] st = some (B (ps.any (sameP m)), ⟨st.store ++ j, st.tips⟩) := by
  obtain ⟨k, j, h1, h2⟩ := c95s nl ps hlen hok7 m l st hl
  rw [run_shared (fn := ir98) rfl rfl]
  refine ⟨j, ?_⟩
  have e : decide (0 ≤ k) = ps.any (sameP m) := by rw [Bool.eq_iff_iff, decide_eq_true_iff]; exact h2
  obtain ⟨S0, T⟩ := st
  simp only [ir98, go_sem, reduceIte, Nat.reduceEqDiff, Nat.reduceAdd, Nat.reduceSub, Nat.reduceLeDiff, Nat.reduceLT, reduceCtorEq, Int.reduceLT, Int.reduceLE, Int.reduceEq, Int.reduceBEq, Int.reduceSub, Int.reduceAdd, Int.reduceMul, Int.reduceNeg, Int.reduceToNat, Nat.reduceMul, Nat.reduceBEq, h1, e, show pure 95 = false from rfl]
def sidesAt (ps : List (Int × Int)) (m : Nat) : Bool := !ps.any (sameP m)
theorem loop65 (nl : Bool) (n : Nat) (hn : n ≤ 7) (ps : List (Int × Int)) (hlen : ps.length < 1000000) (h7 : ∀ p ∈ ps, okP p) (m : Nat) (hok : m ≤ 2 ^ n) (env : Env) (st : St)
    (hg : gcAV true 1 0 (canon env [1, 6, 7]) st = ([(1, .ptr 0 0), (6, .v (.int .i64 ((2 ^ n : Nat) : Int))), (7, I m)], ⟨[bkCells nl n ps], []⟩)) :
    ∃ x_1 en s, lim (headed pure (run L) true [1, 6, 7] lp65_0 1 0) env st = some (x_1, en, s) ∧ (if (List.range' m (2 ^ n - m)).any (sidesAt ps) = true then x_1 = .ret ∧ en.get 2 = B true else x_1 = .exit 0) := by
  refine loop_wp (α := Nat) (fun m => 2 ^ n - m) (fun m => m ≤ 2 ^ n) (fun m => ([(1, .ptr 0 0), (6, .v (.int .i64 ((2 ^ n : Nat) : Int))), (7, I m)], ⟨[bkCells nl n ps], []⟩)) (fun m x_1 en s => if (List.range' m (2 ^ n - m)).any (sidesAt ps) = true then x_1 = .ret ∧ en.get 2 = B true else x_1 = .exit 0) (fun m hok => ?_) m hok env st hg
  have h128 : 2 ^ n ≤ 128 := Nat.le_trans (Nat.pow_le_pow_right (by omega) hn) (by decide)
  dsimp only
  generalize 2 ^ n = N at *
  by_cases h : m < N
  · have hs := succ64 m (by omega)
    have hlt : ((m : Int) < (N : Int)) = True := eq_true (by omega)
    have hr : List.range' m (N - m) = m :: List.range' (m + 1) (N - (m + 1)) := by
      rw [show N - m = (N - (m + 1)) + 1 by omega, List.range'_succ]
    obtain ⟨j, h98⟩ := c98s nl ps hlen h7 m 1 ⟨[bkCells nl n ps, [I m]], []⟩ rfl
    have h98' : run L 98 [sl 2 nl (ps.map prAV), .fn (.func 99) [] [.ptr 1 0]] ⟨[bkCells nl n ps, [I m]], []⟩ = some (B (ps.any (sameP m)), ⟨bkCells nl n ps :: [I m] :: j, []⟩) := h98
    rw [hr, List.any_cons]
    cases p : ps.any (sameP m)
    · rw [p] at h98'
      have e : sidesAt ps m = true := by unfold sidesAt; rw [p]; rfl
      rw [e, Bool.true_or]
      simp only [if_true]
      simp only [go_sem, reduceIte, Nat.reduceEqDiff, Nat.reduceAdd, Nat.reduceSub, Nat.reduceLeDiff, Nat.reduceLT, reduceCtorEq, Int.reduceLT, Int.reduceLE, Int.reduceEq, Int.reduceBEq, Int.reduceSub, Int.reduceAdd, Int.reduceMul, Int.reduceNeg, Int.reduceToNat, Nat.reduceMul, Nat.reduceBEq, index_rsl_if, setm, make_ints, condK_dec, wantK_dec, not_dec, and_dec, or_dec, seqK_ite, seqK_none, blockK_ite, blockK_none, opsK_ite, opsK_none, stepK_ite, stepK_none, bodyK_ite, bodyK_none, resK_ite, resK_none, leaveK_ite, leaveK_none, only_ite, only_none, bind_ite, gives_some, gives_none, gives_ite, then_normal, then_ret, then_exit, then_none, then_ite, Option.bind_none, Bool.not_eq_true', decide_eq_false_iff_not, Bool.and_eq_true, Bool.or_eq_true, Option.some.injEq, Int.not_lt, Int.not_le, lp65_0, hlt, h98', show pure 98 = false from rfl]
    · rw [p] at h98'
      have e : sidesAt ps m = false := by unfold sidesAt; rw [p]; rfl
      rw [e, Bool.false_or]
      simp only [go_sem, reduceIte, Nat.reduceEqDiff, Nat.reduceAdd, Nat.reduceSub, Nat.reduceLeDiff, Nat.reduceLT, reduceCtorEq, Int.reduceLT, Int.reduceLE, Int.reduceEq, Int.reduceBEq, Int.reduceSub, Int.reduceAdd, Int.reduceMul, Int.reduceNeg, Int.reduceToNat, Nat.reduceMul, Nat.reduceBEq, index_rsl_if, setm, make_ints, condK_dec, wantK_dec, not_dec, and_dec, or_dec, seqK_ite, seqK_none, blockK_ite, blockK_none, opsK_ite, opsK_none, stepK_ite, stepK_none, bodyK_ite, bodyK_none, resK_ite, resK_none, leaveK_ite, leaveK_none, only_ite, only_none, bind_ite, gives_some, gives_none, gives_ite, then_normal, then_ret, then_exit, then_none, then_ite, Option.bind_none, Bool.not_eq_true', decide_eq_false_iff_not, Bool.and_eq_true, Bool.or_eq_true, Option.some.injEq, Int.not_lt, Int.not_le, lp65_0, hlt, h98', hs, show pure 98 = false from rfl]
      refine ⟨m + 1, by simp only [go_sem, reduceIte, Nat.reduceEqDiff, Nat.reduceAdd, Nat.reduceSub, Nat.reduceLeDiff, Nat.reduceLT, reduceCtorEq, Int.reduceLT, Int.reduceLE, Int.reduceEq, Int.reduceBEq, Int.reduceSub, Int.reduceAdd, Int.reduceMul, Int.reduceNeg, Int.reduceToNat, Nat.reduceMul, Nat.reduceBEq, ren1_locm, loc_tips, locT_eq] <;> rfl, ?_, ?_, fun x en s hq => ?_⟩
      · omega
      · omega
      · exact hq
  · obtain rfl : m = N := by omega
    have hr : List.range' m (m - m) = [] := by simp
    rw [hr]
    simp only [go_sem, reduceIte, Nat.reduceEqDiff, Nat.reduceAdd, Nat.reduceSub, Nat.reduceLeDiff, Nat.reduceLT, reduceCtorEq, Int.reduceLT, Int.reduceLE, Int.reduceEq, Int.reduceBEq, Int.reduceSub, Int.reduceAdd, Int.reduceMul, Int.reduceNeg, Int.reduceToNat, Nat.reduceMul, Nat.reduceBEq, index_rsl_if, setm, make_ints, condK_dec, wantK_dec, not_dec, and_dec, or_dec, seqK_ite, seqK_none, blockK_ite, blockK_none, opsK_ite, opsK_none, stepK_ite, stepK_none, bodyK_ite, bodyK_none, resK_ite, resK_none, leaveK_ite, leaveK_none, only_ite, only_none, bind_ite, gives_some, gives_none, gives_ite, then_normal, then_ret, then_exit, then_none, then_ite, Option.bind_none, Bool.not_eq_true', decide_eq_false_iff_not, Bool.and_eq_true, Bool.or_eq_true, Option.some.injEq, Int.not_lt, Int.not_le, lp65_0, show ((m : Int) < (m : Int)) = False from eq_false (by omega)]
    simp

def evenV (n : Nat) (ps : List (Int × Int)) : Bool := (List.range (2 ^ n)).any (sidesAt ps)
theorem c65 (nl : Bool) (n : Nat) (hn : n ≤ 7) (ps : List (Int × Int)) (hlen : ps.length < 1000000) (h7 : ∀ p ∈ ps, okP p) (st : St) :
    run L 65 [bkAV nl n ps] st = some (B (evenV n ps), st) := by
  rw [run_pure (fn := ir65) rfl rfl]
  have hsh := shI_eq n hn
  simp only [ir65, go_sem, reduceIte, Nat.reduceEqDiff, Nat.reduceAdd, Nat.reduceSub, Nat.reduceLeDiff, Nat.reduceLT, reduceCtorEq, Int.reduceLT, Int.reduceLE, Int.reduceEq, Int.reduceBEq, Int.reduceSub, Int.reduceAdd, Int.reduceMul, Int.reduceNeg, Int.reduceToNat, Nat.reduceMul, Nat.reduceBEq, hsh]
  generalize hg : lim (headed pure (run L) true _ lp65_0 _ _) _ _ = o
  obtain ⟨x, en, s, rfl, h2⟩ : ∃ x en s, o = some (x, en, s) ∧ _ := by rw [← hg]; exact loop65 nl n hn ps hlen h7 0 (Nat.zero_le _) _ _ (by simp only [go_sem, reduceIte, Nat.reduceEqDiff, Nat.reduceAdd, Nat.reduceSub, Nat.reduceLeDiff, Nat.reduceLT, reduceCtorEq, Int.reduceLT, Int.reduceLE, Int.reduceEq, Int.reduceBEq, Int.reduceSub, Int.reduceAdd, Int.reduceMul, Int.reduceNeg, Int.reduceToNat, Nat.reduceMul, Nat.reduceBEq, Int.natCast_zero] <;> rfl)
  clear hg
  rw [Nat.sub_zero, ← List.range_eq_range'] at h2
  have e : (List.range (2 ^ n)).any (sidesAt ps) = evenV n ps := rfl
  rw [e] at h2
  cases h : evenV n ps
  · rw [h, if_neg (by simp)] at h2
    subst h2
    simp only [go_sem, reduceIte, Nat.reduceEqDiff, Nat.reduceAdd, Nat.reduceSub, Nat.reduceLeDiff, Nat.reduceLT, reduceCtorEq, Int.reduceLT, Int.reduceLE, Int.reduceEq, Int.reduceBEq, Int.reduceSub, Int.reduceAdd, Int.reduceMul, Int.reduceNeg, Int.reduceToNat, Nat.reduceMul, Nat.reduceBEq]
  · rw [h, if_pos rfl] at h2
    obtain ⟨rfl, h3⟩ := h2
    simp only [go_sem, reduceIte, Nat.reduceEqDiff, Nat.reduceAdd, Nat.reduceSub, Nat.reduceLeDiff, Nat.reduceLT, reduceCtorEq, Int.reduceLT, Int.reduceLE, Int.reduceEq, Int.reduceBEq, Int.reduceSub, Int.reduceAdd, Int.reduceMul, Int.reduceNeg, Int.reduceToNat, Nat.reduceMul, Nat.reduceBEq, h3]
theorem even_sides {n : Nat} {ps : List (Int × Int)} (hps : ∀ p ∈ ps, 0 ≤ p.1 ∧ p.1 < p.2 ∧ p.2 < (n : Int)) (h : evenV n ps = true) : ∃ z : Nat, ∀ a b : Nat, nb ps a b → z.testBit a ≠ z.testBit b := by
  unfold evenV at h
  rw [List.any_eq_true] at h
  obtain ⟨z, _, hz⟩ := h
  unfold sidesAt at hz
  rw [Bool.not_eq_true', List.any_eq_false] at hz
  refine ⟨z, fun a b hab => ?_⟩
  rcases hab with hab | hab
  · have := hz _ hab
    unfold sameP at this
    simpa using this
  · have := hz _ hab
    unfold sameP at this
    intro e; apply this; simp [e]

attribute [local go_sem] shaped_t cells_t isAgg_t storable_t okRef_t pub_t

/-! ### good values and shares -/
theorem totalV_ok {l : List Int} {n : Nat} (h : l.length = n) (hb : ∀ x ∈ l, 0 ≤ x ∧ x ≤ 2) : totalV l n = sumL l := by
  unfold totalV
  have ha : l.all in02 = true := List.all_eq_true.2 fun x hx => decide_eq_true (hb x hx)
  rw [if_pos (by omega), if_pos ha]
theorem sum_nn : ∀ l : List Int, (∀ x ∈ l, 0 ≤ x) → 0 ≤ sumL l
  | [], _ => by simp [sumL]
  | a :: r, h => by
    have h1 := h a (by simp)
    have h2 := sum_nn r (fun x hx => h x (by simp [hx]))
    simp only [sumL]; omega
/-! ### a shortest list that does as halves say -/

attribute [local go_sem] shaped_t cells_t isAgg_t storable_t okRef_t pub_t

theorem index_t (nl : Bool) (X : List (List Int)) (x : List Int) (i : Nat) (h : X[i]? = some x) : indexSAV 1 (sl 1 nl (X.map tAV)) (.v (.int .i64 (i : Int))) = some (.eptr (tAV x) 0) := by
  obtain ⟨h1, h2⟩ := List.getElem?_eq_some_iff.1 h
  rw [index_sl _ _ _ _ _ (by omega) (by simpa using h1)]
  simp [h2]
theorem len_t (l : List Int) : lenAV (tAV l) = some (I l.length) := by unfold tAV; rw [len_sl]; simp
theorem halves_total {n : Nat} {ps : List (Int × Int)} (hn1 : 1 ≤ n) (hn : n ≤ 7) (hps : ∀ p ∈ ps, 0 ≤ p.1 ∧ p.1 < p.2 ∧ p.2 < (n : Int)) (h7 : ∀ p ∈ ps, okP p) : (halvesV n ps).length = n ∧ totalV (halvesV n ps) n = sumL (halvesV n ps) ∧ 0 ≤ sumL (halvesV n ps) := by
  obtain ⟨h1, h2⟩ := allL_in n _ (cheap_mem.1 (halves_spec hn1 hn hps h7).1).1.1
  exact ⟨h1, totalV_ok h1 h2, sum_nn _ fun x hx => (h2 x hx).1⟩

theorem c13 (zs : List Int) (hzl : zs.length = 22) (hz : ∀ a ∈ zs, Byte a) (st : St) : run L 13 [qAV zs] st = some (B true, st) := by
  rw [run_pure (fn := ir13) rfl rfl]
  have h44 := fun st => c44 zs hzl hz 1 (.inl rfl) st
  obtain ⟨n, hN, hn1, _, hn, hlen, hps, h7, hnd, hck⟩ := made_ok (.inl rfl : (1 : Int) = 1 ∨ (1 : Int) = 2) zs
  rw [hN] at h44
  generalize madeP 1 zs = ps at *
  have htk : (zs.map B8).take 22 = zs.map B8 := List.take_of_length_le (by simp [hzl])
  have h17 := fun st => c17 true n ps st
  have h26 := fun st => c26 true n ps st
  have h61 := fun st => c61 true n hn ps (by omega) hps h7 st
  have h65 := fun st => c65 true n hn ps (by omega) h7 st
  have hf : firstV (n : Int) ps = (bestL ((cheap n 2 ps).map twos), 0) := by rw [first_eq]; unfold firstR; rw [if_pos hck, Int.toNat_natCast]
  have hh : hv (n : Int) ps = (halvesV n ps, 0) := by unfold hv; rw [if_pos hck, Int.toNat_natCast]
  obtain ⟨t1, t2, t3⟩ := halves_total hn1 hn hps h7
  have h45 := fun st => c45 true (halvesV n ps) (by omega) n st
  rw [t2] at h45
  obtain ⟨b1, b2, b3⟩ := bounds hn1 hn hps h7
  obtain ⟨r, hr⟩ := few_first hn hps h7
  have hall : allV n ps = bestL ((cheap n 2 ps).map twos) :: r := hr
  have hix := index_t true (allV n ps) (bestL ((cheap n 2 ps).map twos)) 0 (by rw [hall]; rfl)
  rw [Int.natCast_zero] at hix
  have hl7 : (bestL ((cheap n 2 ps).map twos)).length ≤ 7 := by
    have := firstV_len n ps
    rw [hf] at this; exact this
  have hev := fun h => b3 _ (even_sides hps h).choose_spec
  simp only [hf] at h17
  simp only [hh] at h26
  generalize bestL ((cheap n 2 ps).map twos) = l at *
  generalize halvesV n ps = v at *
  generalize allV n ps = Y at *
  have q1 : (sumL v < 0) = False := eq_false (by omega)
  have hw : IntKind.i64.wrap (2 * (l.length : Int)) = 2 * (l.length : Int) := by rw [wrap64] <;> omega
  have q2 : (2 * (l.length : Int) < sumL v) = False := eq_false (by omega)
  have q3 : (sumL v < (l.length : Int)) = False := eq_false (by omega)
  cases he : evenV n ps
  · rw [he] at h65
    simp only [ir13, go_sem, reduceIte, Nat.reduceEqDiff, Nat.reduceAdd, Nat.reduceSub, Nat.reduceLeDiff, Nat.reduceLT, reduceCtorEq, Int.reduceLT, Int.reduceLE, Int.reduceEq, Int.reduceBEq, Int.reduceSub, Int.reduceAdd, Int.reduceMul, Int.reduceNeg, Int.reduceToNat, Nat.reduceMul, Nat.reduceBEq, okRefsB, pubsB, storableB, htk, hzl, h44, h17, h26, h45, h61, h65, hix, len_t, hw, q1, q2, q3, c16, List.length_map]
  · rw [he] at h65
    have q4 : (2 * (l.length : Int) = sumL v) = True := eq_true (hev he)
    simp only [ir13, go_sem, reduceIte, Nat.reduceEqDiff, Nat.reduceAdd, Nat.reduceSub, Nat.reduceLeDiff, Nat.reduceLT, reduceCtorEq, Int.reduceLT, Int.reduceLE, Int.reduceEq, Int.reduceBEq, Int.reduceSub, Int.reduceAdd, Int.reduceMul, Int.reduceNeg, Int.reduceToNat, Nat.reduceMul, Nat.reduceBEq, okRefsB, pubsB, storableB, htk, hzl, h44, h17, h26, h45, h61, h65, hix, len_t, hw, q1, q2, q3, q4, c16, List.length_map]
end Go.Proofs.YtpmbfgogpcjdlaaDoor.Vm
