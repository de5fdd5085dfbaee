/- What is proved: what each function of this program computes, as equations on the evaluator. No condition. -/
import Derived.Test.YtpmbfgogpcjdlaaDoorC1
import Derived.Test.YtpmbfgogpcjdlaaDoorFkf
import Derived.KernelRfl
set_option linter.all false
namespace Go.Proofs.YtpmbfgogpcjdlaaDoor.Vm
open Go Go.Ev
set_option maxRecDepth 100000
attribute [local go_sem] cells_any storable_any ren1_any shaped_ptr cells_ptr storable_ptr ren1_ptr shaped_eptr cells_eptr storable_eptr ren1_eptr shaped_rsl cells_rsl storable_rsl ren1_rsl shaped_int cells_int storable_int ren1_int shaped_bool cells_bool storable_bool ren1_bool shaped_nils cells_nils storable_nils ren1_nils shaped_lst cells_lst storable_lst shaped_fn cells_fn storable_fn ren1_fn shaped_ifc cells_ifc storable_ifc ren1_ifc shaped_agg cells_agg storable_agg ren1_agg shaped_tup cells_tup storable_tup ren1_tup shaped_nif cells_nif storable_nif ren1_nif ren1_lany ren1_lfull ren1_lown len_lst len_rsl len_nil load_ptr load_eptr isRsl_lst isRsl_nil isRsl_rsl elems_nil elems_lst elems_sl isRsl_sl body_eq bodyK_normal bodyK_ret resK_some leaveK_some only_some code_skip code_exit code_ret code_ops code_seq code_cond code_block seqK_normal seqK_ret seqK_exit condK_true condK_false blockK_normal blockK_ret blockK_exit opsK_some ops_nil ops_cons wantK_true wantK_false stepK_some pubs pub pub_sl params okRef_loc storable_loc shaped_loc cells_loc isRsl_loc elems_loc len_loc untips untip untip_sl wantedAV setElems withO isAgg_v isAgg_agg isAgg_lst isAgg_ptr isAgg_fn isAgg_ifc isAgg_rsl isAgg_sl isAgg_loc List.replicate_succ List.replicate_zero opAV valAV aval avals ofVal Env.get setD canon gcAV renAll renEnv renStore renCells ren1_sl cutSt okEnv okStore okRefs okRef okRef_sl bin_int bin_bool bin_lst bin_rsl bin_nil bin_agg cellsEq cellEq isShift intOp boolOp min_int max_int beq_int bne resAV tupAV leave_eq fin_sl fin_loc fins fin_v fin_lst fin_agg fin_tup fin_fn storeAV readCells putCells cells_sl shaped_sl storable_sl fieldAddrAV len_sl goI List.getElem?_cons_zero List.getElem?_cons_succ List.getElem?_nil Option.bind_some Option.map_some List.length_cons List.length_nil List.all_cons List.all_nil Bool.and_true Bool.true_and Bool.and_false Bool.false_and and_true true_and and_false false_and Bool.false_eq_true List.set_cons_zero List.set_cons_succ List.append_nil List.nil_append List.cons_append List.take_zero List.take_succ_cons List.take_nil List.drop_zero List.drop_succ_cons List.map_cons List.map_nil decide_true decide_false beq_self_eq_true Bool.not_true Bool.not_false or_true true_or or_false false_or Nat.zero_add Nat.add_zero Nat.le_refl Nat.lt_irrefl decide_eq_true_eq eq_self_iff_true not_true_eq_false not_false_eq_true List.getD_cons_zero code_loop Nat.zero_le Nat.not_lt_zero Bool.true_beq Bool.false_beq beq_true beq_false ge_iff_le gt_iff_lt Lpure pus Option.map_none assert_ifc assert_nil idxA_ptr idxA_eptr idxV_agg Int.cast_ofNat_Int Nat.mul_one Nat.zero_mul Int.toNat_natCast Int.toNat_zero setParts withO2 hasKey eqnil_sl nenil_sl eqnil_loc nenil_loc map_nil_iff okRefs_ints renCells_ints

theorem ind_or (A B : Prop) [Decidable A] [Decidable B] : (if A ∨ B then (1 : Int) else 0) ≤ (if A then 1 else 0) + (if B then 1 else 0) := by
  by_cases h1 : A
  · rw [if_pos (.inl h1), if_pos h1]; split <;> omega
  · by_cases h2 : B
    · rw [if_pos (.inr h2), if_neg h1, if_pos h2]; omega
    · rw [if_neg (by simp [h1, h2]), if_neg h1, if_neg h2]; omega
theorem half_le {n : Nat} {ps : List (Int × Int)} (hn1 : 1 ≤ n) (hn : n ≤ 7) (hps : ∀ p ∈ ps, 0 ≤ p.1 ∧ p.1 < p.2 ∧ p.2 < (n : Int)) (h7 : ∀ p ∈ ps, okP p) : 0 ≤ sumL (halvesV n ps) ∧ sumL (halvesV n ps) ≤ n := by
  obtain ⟨h1, h2, _⟩ := halvesV_ok hn1 hn hps h7
  have hb := sumL_bd _ h2
  have hd := deficit hn1 hn hps h7 (fun _ => false)
  have e0 : (List.range n).filter (fun _ => false) = [] := by rw [List.filter_eq_nil_iff]; intro x _; simp
  rw [e0, List.length_nil] at hd
  have : (nbrs n (nbB ps) []).length = 0 := by
    unfold nbrs
    have : (List.range n).filter (fun y => ([] : List Nat).any fun x => nbB ps x y) = [] := by rw [List.filter_eq_nil_iff]; intro x _; simp
    rw [this]; rfl
  rw [this] at hd
  omega

/-- There are shares that are worth what the cheapest values cost. -/
theorem dual {n : Nat} {ps : List (Int × Int)} (hn1 : 1 ≤ n) (hn : n ≤ 7) (hps : ∀ p ∈ ps, 0 ≤ p.1 ∧ p.1 < p.2 ∧ p.2 < (n : Int)) (h7 : ∀ p ∈ ps, okP p) (hnd : ps.Nodup) :
    ∃ s ∈ shF n ps ps.length [], sumL (halvesV n ps) ≤ sumL s := by
  obtain ⟨c0, c1⟩ := half_le hn1 hn hps h7
  obtain ⟨d, hd⟩ := Int.eq_ofNat_of_zero_le (show 0 ≤ (n : Int) - sumL (halvesV n ps) by omega)
  let r : Nat → Nat → Bool := fun x y => nbB ps x y || decide (n ≤ y)
  have hcond : ∀ p : Nat → Bool, ((List.range n).filter p).length ≤ (nbrs (n + d) r ((List.range n).filter p)).length := by
    intro p
    by_cases hz : (List.range n).filter p = []
    · rw [hz]; simp
    obtain ⟨w, hw⟩ := List.exists_mem_of_ne_nil _ hz
    have h1 := deficit hn1 hn hps h7 p
    rw [hd] at h1
    have h2 : (nbrs (n + d) r ((List.range n).filter p)).length = (nbrs n (nbB ps) ((List.range n).filter p)).length + d := by
      unfold nbrs
      have e : List.range (n + d) = List.range n ++ (List.range d).map (n + ·) := List.range_add
      rw [e, List.filter_append, List.length_append]
      congr 1
      · congr 1
        apply List.filter_congr
        intro y hy
        have hy2 : ¬ n ≤ y := by have := List.mem_range.1 hy; omega
        show (((List.range n).filter p).any fun x => nbB ps x y || decide (n ≤ y)) = _
        simp [hy2]
      · have : ((List.range d).map (n + ·)).filter (fun y => ((List.range n).filter p).any fun x => r x y) = (List.range d).map (n + ·) := by
          rw [List.filter_eq_self]
          intro y hy
          rw [List.mem_map] at hy
          obtain ⟨i, _, rfl⟩ := hy
          exact List.any_eq_true.2 ⟨w, hw, by show (nbB ps w (n + i) || decide (n ≤ n + i)) = true; simp⟩
        rw [this]; simp
    omega
  obtain ⟨f, f1, f2⟩ := hall (n + d) n (List.range n) r (by simp) List.nodup_range hcond
  have hf : ∀ a, a < n → f a < n + d ∧ (f a < n → nb ps a (f a)) := by
    intro a ha
    obtain ⟨h1, h2⟩ := f1 a (List.mem_range.2 ha)
    refine ⟨h1, fun h3 => ?_⟩
    have h4 : (nbB ps a (f a) || decide (n ≤ f a)) = true := h2
    have h5 : decide (n ≤ f a) = false := decide_eq_false (by omega)
    rw [h5, Bool.or_false] at h4
    exact nbB_iff.1 h4
  have hinj : ∀ a b, a < n → b < n → f a = f b → a = b := fun a b ha hb h => f2 a (List.mem_range.2 ha) b (List.mem_range.2 hb) h
  let g : Int × Int → Int := fun p => (if (f p.1.toNat : Int) = p.2 then 1 else 0) + (if (f p.2.toNat : Int) = p.1 then 1 else 0)
  have hgb : ∀ p, 0 ≤ g p ∧ g p ≤ 2 := by
    intro p; show 0 ≤ (if _ then (1 : Int) else 0) + (if _ then (1 : Int) else 0) ∧ (if _ then (1 : Int) else 0) + (if _ then (1 : Int) else 0) ≤ 2
    split <;> split <;> omega
  refine ⟨ps.map g, ?_, ?_⟩
  · -- they are shares
    refine (mem_shF ps.length [] _ (by simp)).2 ⟨_, rfl, by simp, ?_, .inr ?_⟩
    · intro x hx; rw [List.mem_map] at hx; obtain ⟨p, _, rfl⟩ := hx; exact hgb p
    · cases ho : overFrom (ps.zip (ps.map g)) n 0
      · rfl
      · obtain ⟨a, ha, h2⟩ := (over_iff _).1 ho
        rw [load_map] at h2
        let P : Int × Int → Prop := fun p => (p.1 = a ∧ (f a : Int) = p.2) ∨ (p.2 = a ∧ (f a : Int) = p.1)
        let Q : Int × Int → Prop := fun p => (p.1 = a ∧ (f p.2.toNat : Int) = a) ∨ (p.2 = a ∧ (f p.1.toNat : Int) = a)
        have hle : sumL (ps.map fun p => if p.1 = (a : Int) ∨ p.2 = (a : Int) then g p else 0) ≤ sumL (ps.map fun p => (if P p then (1 : Int) else 0) + (if Q p then (1 : Int) else 0)) := by
          apply sum_le2
          intro p hp
          have hpp := hps p hp
          by_cases e1 : p.1 = (a : Int)
          · rw [if_pos (.inl e1)]
            have hP : P p ↔ (f p.1.toNat : Int) = p.2 := by
              show ((p.1 = a ∧ (f a : Int) = p.2) ∨ (p.2 = a ∧ (f a : Int) = p.1)) ↔ _
              have : p.1.toNat = a := by omega
              rw [this]
              constructor
              · rintro (⟨_, h⟩ | ⟨h, _⟩)
                · exact h
                · omega
              · intro h; exact .inl ⟨e1, h⟩
            have hQ : Q p ↔ (f p.2.toNat : Int) = p.1 := by
              show ((p.1 = a ∧ (f p.2.toNat : Int) = a) ∨ (p.2 = a ∧ (f p.1.toNat : Int) = a)) ↔ _
              constructor
              · rintro (⟨_, h⟩ | ⟨h, _⟩)
                · omega
                · omega
              · intro h; exact .inl ⟨e1, by omega⟩
            show (if (f p.1.toNat : Int) = p.2 then (1 : Int) else 0) + (if (f p.2.toNat : Int) = p.1 then (1 : Int) else 0) ≤ _
            simp only [hP, hQ]; exact Int.le_refl _
          · by_cases e2 : p.2 = (a : Int)
            · rw [if_pos (.inr e2)]
              have hP : P p ↔ (f p.2.toNat : Int) = p.1 := by
                show ((p.1 = a ∧ (f a : Int) = p.2) ∨ (p.2 = a ∧ (f a : Int) = p.1)) ↔ _
                have : p.2.toNat = a := by omega
                rw [this]
                constructor
                · rintro (⟨h, _⟩ | ⟨_, h⟩)
                  · exact absurd h e1
                  · exact h
                · intro h; exact .inr ⟨e2, h⟩
              have hQ : Q p ↔ (f p.1.toNat : Int) = p.2 := by
                show ((p.1 = a ∧ (f p.2.toNat : Int) = a) ∨ (p.2 = a ∧ (f p.1.toNat : Int) = a)) ↔ _
                constructor
                · rintro (⟨h, _⟩ | ⟨_, h⟩)
                  · exact absurd h e1
                  · omega
                · intro h; exact .inr ⟨e2, by omega⟩
              show (if (f p.1.toNat : Int) = p.2 then (1 : Int) else 0) + (if (f p.2.toNat : Int) = p.1 then (1 : Int) else 0) ≤ _
              simp only [hP, hQ]; omega
            · rw [if_neg (by simp [e1, e2])]
              split <;> split <;> omega
        rw [sum_add] at hle
        have hP1 := ind_le_one P ps hnd (by
          intro p hp q hq h3 h4
          have k1 := hps p hp
          have k2 := hps q hq
          rcases h3 with ⟨a1, a2⟩ | ⟨a1, a2⟩ <;> rcases h4 with ⟨b1, b2⟩ | ⟨b1, b2⟩
          · exact Prod.ext (by omega) (by omega)
          · omega
          · omega
          · exact Prod.ext (by omega) (by omega))
        have hQ1 := ind_le_one Q ps hnd (by
          intro p hp q hq h3 h4
          have k1 := hps p hp
          have k2 := hps q hq
          have key : ∀ x y : Int, 0 ≤ x → x < n → 0 ≤ y → y < n → (f x.toNat : Int) = a → (f y.toNat : Int) = a → x = y := by
            intro x y x0 x1 y0 y1 h5 h6
            have := hinj x.toNat y.toNat (by omega) (by omega) (by omega)
            omega
          rcases h3 with ⟨a1, a2⟩ | ⟨a1, a2⟩ <;> rcases h4 with ⟨b1, b2⟩ | ⟨b1, b2⟩
          · have := key p.2 q.2 (by omega) (by omega) (by omega) (by omega) a2 b2
            exact Prod.ext (by omega) (by omega)
          · have := key p.2 q.1 (by omega) (by omega) (by omega) (by omega) a2 b2
            omega
          · have := key p.1 q.2 (by omega) (by omega) (by omega) (by omega) a2 b2
            omega
          · have := key p.1 q.1 (by omega) (by omega) (by omega) (by omega) a2 b2
            exact Prod.ext (by omega) (by omega))
        omega
  · -- and worth enough
    let M := (List.range n).filter fun a => decide (f a < n)
    have hMn : n ≤ M.length + d := by
      have e := filter_lt (fun a => decide (f a < n)) (List.range n)
      have e2 : ((List.range n).filter fun a => !decide (f a < n)).length ≤ d := by
        have h1 := nodup_len_le (((List.range n).filter fun a => !decide (f a < n)).map f) ((List.range d).map (n + ·)) (by
            rw [List.nodup_iff_pairwise_ne, List.pairwise_map]
            refine List.Pairwise.imp_of_mem ?_ (List.nodup_iff_pairwise_ne.1 (List.nodup_range.filter _))
            intro x y hx hy hne he
            rw [List.mem_filter, List.mem_range] at hx hy
            exact hne (hinj x y hx.1 hy.1 he)) (by
            intro y hy
            rw [List.mem_map] at hy
            obtain ⟨x, hx, rfl⟩ := hy
            rw [List.mem_filter, List.mem_range] at hx
            have h3 := (hf x hx.1).1
            have h4 : ¬ f x < n := by simpa using hx.2
            exact List.mem_map.2 ⟨f x - n, List.mem_range.2 (by omega), by omega⟩)
        simpa using h1
      rw [List.length_range] at e
      show n ≤ ((List.range n).filter fun a => decide (f a < n)).length + d
      omega
    have hMd : M.Nodup := List.nodup_range.filter _
    have hMm : ∀ a ∈ M, a < n ∧ f a < n := by
      intro a ha
      have : a ∈ (List.range n).filter fun a => decide (f a < n) := ha
      rw [List.mem_filter, List.mem_range] at this
      exact ⟨this.1, of_decide_eq_true this.2⟩
    let E : Int × Int → Nat → Prop := fun p a => ((a : Int) = p.1 ∧ (f a : Int) = p.2) ∨ ((a : Int) = p.2 ∧ (f a : Int) = p.1)
    have h1 : sumL (ps.map fun p => sumL (M.map fun a => if E p a then (1 : Int) else 0)) ≤ sumL (ps.map g) := by
      apply sum_le2
      intro p hp
      have hpp := hps p hp
      have e1 : sumL (M.map fun a => if E p a then (1 : Int) else 0) ≤ sumL (M.map fun (a : Nat) => (if ((a : Int) = p.1 ∧ (f a : Int) = p.2) then (1 : Int) else 0) + (if ((a : Int) = p.2 ∧ (f a : Int) = p.1) then (1 : Int) else 0)) := by
        apply sum_le2
        intro a _
        show (if ((a : Int) = p.1 ∧ (f a : Int) = p.2) ∨ ((a : Int) = p.2 ∧ (f a : Int) = p.1) then (1 : Int) else 0) ≤ _
        exact ind_or _ _
      rw [sum_add] at e1
      have z : ∀ (P : Nat → Prop) [DecidablePred P], (∀ a ∈ M, ¬ P a) → sumL (M.map fun a => if P a then (1 : Int) else 0) = 0 := by
        intro P _ h
        have : M.map (fun a => if P a then (1 : Int) else 0) = M.map fun _ => 0 := List.map_congr_left fun a ha => if_neg (h a ha)
        rw [this]
        generalize M = l
        induction l with
        | nil => rfl
        | cons b l ih => simp only [List.map_cons, sumL, ih]; rfl
      have b1 : sumL (M.map fun (a : Nat) => if ((a : Int) = p.1 ∧ (f a : Int) = p.2) then (1 : Int) else 0) ≤ if (f p.1.toNat : Int) = p.2 then 1 else 0 := by
        by_cases x : (f p.1.toNat : Int) = p.2
        · rw [if_pos x]
          exact ind_le_one _ M hMd (fun a _ b _ ha hb => by have := ha.1; have := hb.1; omega)
        · have hno : ∀ a ∈ M, ¬((a : Int) = p.1 ∧ (f a : Int) = p.2) := by
            rintro a _ ⟨h5, h6⟩
            have e : p.1.toNat = a := by omega
            exact x (by rw [e]; exact h6)
          rw [if_neg x, z _ hno]
          exact Int.le_refl _
      have b2 : sumL (M.map fun (a : Nat) => if ((a : Int) = p.2 ∧ (f a : Int) = p.1) then (1 : Int) else 0) ≤ if (f p.2.toNat : Int) = p.1 then 1 else 0 := by
        by_cases x : (f p.2.toNat : Int) = p.1
        · rw [if_pos x]
          exact ind_le_one _ M hMd (fun a _ b _ ha hb => by have := ha.1; have := hb.1; omega)
        · have hno : ∀ a ∈ M, ¬((a : Int) = p.2 ∧ (f a : Int) = p.1) := by
            rintro a _ ⟨h5, h6⟩
            have e : p.2.toNat = a := by omega
            exact x (by rw [e]; exact h6)
          rw [if_neg x, z _ hno]
          exact Int.le_refl _
      show _ ≤ (if (f p.1.toNat : Int) = p.2 then (1 : Int) else 0) + (if (f p.2.toNat : Int) = p.1 then (1 : Int) else 0)
      omega
    rw [sum_swap] at h1
    have h2 := sum_ones (fun a => sumL (ps.map fun p => if E p a then (1 : Int) else 0)) M (by
      intro a ha
      obtain ⟨a1, a2⟩ := hMm a ha
      rcases (hf a a1).2 a2 with h | h
      · exact ind_mem (fun p => E p a) ps _ h (.inl ⟨rfl, rfl⟩)
      · exact ind_mem (fun p => E p a) ps _ h (.inr ⟨rfl, rfl⟩))
    omega

theorem shares_worth {n : Nat} {ps : List (Int × Int)} (hn1 : 1 ≤ n) (hn : n ≤ 7) (hps : ∀ p ∈ ps, 0 ≤ p.1 ∧ p.1 < p.2 ∧ p.2 < (n : Int)) (h7 : ∀ p ∈ ps, okP p) (hnd : ps.Nodup) : sumL (sharesR n ps) = sumL (halvesV n ps) := by
  obtain ⟨s, hs, hle⟩ := dual hn1 hn hps h7 hnd
  obtain ⟨h1, h2⟩ := sharesR_in (n := n) (ps := ps)
  have h3 := (h2 s hs).1
  obtain ⟨a1, a2⟩ := shF_ok h1
  obtain ⟨v1, v2, _⟩ := halvesV_ok hn1 hn hps h7
  have hv := (cheap_mem.1 (halves_spec hn1 hn hps h7).1).1.2
  have ho : overB ps (sharesR n ps) = false := by
    rw [← over_eq hn hps]
    obtain ⟨t, e, _, _, e4⟩ := (mem_shF ps.length [] _ (by simp)).1 h1
    rcases e4 with e4 | e4
    · have : ps = [] := List.eq_nil_of_length_eq_zero e4
      subst this
      cases h : overFrom (List.zip ([] : List (Int × Int)) (sharesR n [])) n 0
      · rfl
      · obtain ⟨a, _, h5⟩ := (over_iff _).1 h
        simp [loadOf] at h5
    · exact e4
  have := weak hn hps v1 v2 a1 a2 hv ho
  omega


/-! ### a list of numbers that may be written, in a block behind the first four -/
def Rep (J : List (List AV)) (o : List Int) (v : AV) : Prop :=
  (o = [] ∧ v = .v (.slice none 0 0)) ∨ ∃ (l c : Nat) (cs : List AV), v = .rsl (l + 4) 0 o.length c 1 false ∧ J[l]? = some cs ∧ cs.take o.length = o.map I ∧ o.length ≤ c ∧ c = cs.length ∧ 0 < c
def NotAt (q : Nat) (v : AV) : Prop := ∀ n c : Nat, v ≠ .rsl (q + 4) 0 n c 1 false
def Frame (J0 : List (List AV)) (v0 : AV) (J : List (List AV)) (v : AV) : Prop := ∀ (q : Nat) (c : List AV), J0[q]? = some c → NotAt q v0 → J[q]? = some c ∧ NotAt q v
theorem Frame.refl (J : List (List AV)) (v : AV) : Frame J v J v := fun _ _ h1 h2 => ⟨h1, h2⟩
theorem Frame.trans {J0 J1 J2 : List (List AV)} {v0 v1 v2 : AV} (h : Frame J0 v0 J1 v1) (h' : Frame J1 v1 J2 v2) : Frame J0 v0 J2 v2 := fun q c h1 h2 => by
  obtain ⟨h3, h4⟩ := h q c h1 h2
  exact h' q c h3 h4
theorem rep_append {J : List (List AV)} {o : List Int} {v : AV} (h : Rep J o v) (hl : o.length < 1000) (x : Int) : ∃ (v2 : AV) (J2 : List (List AV)), (∀ A B C D : List AV, appendmAV 1 false v [I x] ⟨A :: B :: C :: D :: J, []⟩ = some (v2, ⟨A :: B :: C :: D :: J2, []⟩)) ∧ Rep J2 (o ++ [x]) v2 ∧ Frame J v J2 v2 ∧ v2.shaped = true ∧ v2.cells = [v2] ∧ storable v2 = true := by
  rcases h with ⟨rfl, rfl⟩ | ⟨l, c, cs, rfl, h1, h2, h3, h4, h5⟩
  · refine ⟨.rsl (J.length + 4) 0 1 1 1 false, J ++ [[I x]], fun A B C D => ?_, .inr ⟨J.length, 1, [I x], rfl, by simp, rfl, by simp, rfl, by omega⟩, ?_, rfl, rfl, rfl⟩
    · simp [appendmAV, newM, maxGrow, flatAV, AV.cells]
    · intro q c hq hn
      have hql := (List.getElem?_eq_some_iff.1 hq).1
      refine ⟨by rw [List.getElem?_append_left hql]; exact hq, fun n c2 e => ?_⟩
      simp at e; omega
  · have hll := (List.getElem?_eq_some_iff.1 h1).1
    have hget : ∀ A B C D : List AV, (A :: B :: C :: D :: J)[l + 4]? = some cs := fun A B C D => h1
    by_cases hc : o.length + 1 ≤ c
    · refine ⟨.rsl (l + 4) 0 (o.length + 1) c 1 false, J.set l (cs.take o.length ++ [I x] ++ cs.drop (o.length + 1)), fun A B C D => ?_, .inr ⟨l, c, cs.take o.length ++ [I x] ++ cs.drop (o.length + 1), by simp, by simp [hll], ?_, by simpa using hc, ?_, h5⟩, ?_, rfl, rfl, rfl⟩
      · simp only [appendmAV, hget]
        rw [if_pos ⟨trivial, trivial, h3, by omega, by omega⟩, if_pos (by simpa using hc), if_pos (by simp; omega)]
        simp [flatAV, AV.cells]
      · rw [h2]
        have : (o.map I).length = o.length := by simp
        rw [List.length_append, List.length_singleton, List.take_append_of_le_length (by simp), List.take_of_length_le (by simp)]
        simp
      · simp; omega
      · intro q c2 hq hn
        have hne : q ≠ l := fun e => hn o.length c (by rw [e])
        refine ⟨by rw [List.getElem?_set_ne (Ne.symm hne)]; exact hq, fun n c3 e => ?_⟩
        simp at e; omega
    · have hcl : o.length = c := by omega
      refine ⟨.rsl (J.length + 4) 0 (o.length + 1) (o.length + 1) 1 false, J.set l [] ++ [o.map I ++ [I x]], fun A B C D => ?_, .inr ⟨J.length, o.length + 1, o.map I ++ [I x], by simp, by simp, ?_, by simp, by simp, by omega⟩, ?_, rfl, rfl, rfl⟩
      · simp only [appendmAV, hget]
        rw [if_pos ⟨trivial, trivial, h3, by omega, by omega⟩, if_neg (by simp; omega), if_pos ⟨trivial, by unfold maxGrow; simp; omega, by simp; omega⟩]
        simp [flatAV, AV.cells, h2]
      · rw [List.take_of_length_le (by simp)]; simp
      · intro q c2 hq hn
        have hne : q ≠ l := fun e => hn o.length c (by rw [e])
        have hql := (List.getElem?_eq_some_iff.1 hq).1
        refine ⟨by rw [List.getElem?_append_left (by simpa using hql), List.getElem?_set_ne (Ne.symm hne)]; exact hq, fun n c3 e => ?_⟩
        simp at e; omega
/-- The last number is taken away. -/
theorem rep_back {J : List (List AV)} {o : List Int} {x : Int} {v : AV} (h : Rep J (o ++ [x]) v) : ∃ v2 : AV, lenAV v = some (I ((o.length : Int) + 1)) ∧ sliceAV 1 v none (some (I o.length)) none = some v2 ∧ Rep J o v2 ∧ Frame J v J v2 ∧ v2.shaped = true ∧ v2.cells = [v2] ∧ storable v2 = true := by
  rcases h with ⟨h0, _⟩ | ⟨l, c, cs, rfl, h1, h2, h3, h4, h5⟩
  · simp at h0
  · simp only [List.length_append, List.length_singleton] at h2 h3
    refine ⟨.rsl (l + 4) 0 o.length c 1 false, by simp [lenAV, goI], ?_, .inr ⟨l, c, cs, rfl, h1, ?_, by omega, h4, h5⟩, ?_, rfl, rfl, rfl⟩
    · simp only [sliceAV, natOr, natOf]
      simp; omega
    · have := congrArg (List.take o.length) h2
      rw [List.take_take, Nat.min_eq_left (by omega), List.map_append, List.take_left' (by simp)] at this
      exact this
    · intro q c2 hq hn
      refine ⟨hq, fun n c3 e => ?_⟩
      simp at e
      exact hn (o ++ [x]).length c (by simp; omega)


/-! ### the search for shares -/
def takeR (room : List Int) (p : Int × Int) (x : Int) : List Int := (room.set p.1.toNat (room.getD p.1.toNat 0 - x)).set p.2.toNat (room.getD p.2.toNat 0 - x)
def mxR (room : List Int) (p : Int × Int) (left : Int) : Nat := (min (min (room.getD p.1.toNat 0) (room.getD p.2.toNat 0)) left).toNat
def findL (n : Nat) : List (Int × Int) → List Int → Int → Option (List Int)
  | [], _, left => if left = 0 then some [] else none
  | p :: q, room, left => if sumL (room.take n) < 2 * left then none else (List.range' 0 (mxR room p left + 1)).findSome? fun (x : Nat) => (findL n q (takeR room p x) (left - x)).map ((x : Int) :: ·)
abbrev fnPut : AV := .fn (.func 112) [] [.ptr 0 0, .ptr 2 0, .ptr 1 0, .ptr 3 0]
abbrev S4 (B0 : List AV) (v : AV) (room : List Int) (J : List (List AV)) : St := ⟨B0 :: [v] :: room.map I :: [fnPut] :: J, []⟩

theorem loop112_0 (nl : Bool) (n : Nat) (hn : n ≤ 7) (ps : List (Int × Int)) (i : Nat) (left : Int) (room : List Int) (hrl : room.length = 7) (hrb : ∀ x ∈ room, 0 ≤ x ∧ x ≤ 2) (v : AV) (J : List (List AV)) (lo hi : Nat) (a : Nat) (acc : Int) (hok : a ≤ n ∧ 0 ≤ acc ∧ acc ≤ 2 * a) (env : Env) (st : St)
    (hg : gcAV false lo hi (canon env [0, 1, 2, 3, 4, 5, 9, 23, 24, 25]) st = ([(0, I i), (1, I left), (2, .ptr 0 0), (3, .ptr 2 0), (4, .ptr 1 0), (5, .ptr 3 0), (9, I acc), (23, .rsl 2 0 n 7 1 false), (24, I n), (25, I a)], S4 (bkCells nl n ps) v room J)) :
    ∃ x_1 en s, lim (headed pure (run L) false [0, 1, 2, 3, 4, 5, 9, 23, 24, 25] lp112_0 lo hi) env st = some (x_1, en, s) ∧ (x_1 = .exit 0 ∧ en.get 0 = I i ∧ en.get 1 = I left ∧ en.get 2 = .ptr 0 0 ∧ en.get 3 = .ptr 2 0 ∧ en.get 4 = .ptr 1 0 ∧ en.get 5 = .ptr 3 0 ∧ en.get 9 = I (acc + sumL ((room.take n).drop a)) ∧ s = S4 (bkCells nl n ps) v room J) := by
  refine loop_wp (α := Nat × Int) (fun ⟨a, acc⟩ => n - a) (fun ⟨a, acc⟩ => a ≤ n ∧ 0 ≤ acc ∧ acc ≤ 2 * a) (fun ⟨a, acc⟩ => ([(0, I i), (1, I left), (2, .ptr 0 0), (3, .ptr 2 0), (4, .ptr 1 0), (5, .ptr 3 0), (9, I acc), (23, .rsl 2 0 n 7 1 false), (24, I n), (25, I a)], S4 (bkCells nl n ps) v room J)) (fun ⟨a, acc⟩ x_1 en s => x_1 = .exit 0 ∧ en.get 0 = I i ∧ en.get 1 = I left ∧ en.get 2 = .ptr 0 0 ∧ en.get 3 = .ptr 2 0 ∧ en.get 4 = .ptr 1 0 ∧ en.get 5 = .ptr 3 0 ∧ en.get 9 = I (acc + sumL ((room.take n).drop a)) ∧ s = S4 (bkCells nl n ps) v room J) (fun ⟨a, acc⟩ hok => ?_) ⟨a, acc⟩ hok env st hg
  simp only at hok
  obtain ⟨h1, h2, h3⟩ := hok
  dsimp only
  by_cases h : a < n
  · have hs := succ64 a (by omega)
    have hlt : ((a : Int) < (n : Int)) = True := eq_true (by omega)
    have ha0 : ((0 : Int) ≤ (a : Int)) = True := eq_true (by omega)
    have hg := getI room a (by omega)
    have hb := getD_bd (B := 2) (by omega) hrb a
    have hd : (room.take n).drop a = room.getD a 0 :: (room.take n).drop (a + 1) := by
      rw [List.drop_eq_getElem_cons (by simp; omega)]
      congr 1
      rw [List.getElem_take, List.getD_eq_getElem?_getD, List.getElem?_eq_getElem (by omega)]; rfl
    rw [hd]
    generalize room.getD a 0 = x at *
    have hw : IntKind.i64.wrap (acc + x) = acc + x := by rw [wrap64] <;> omega
    simp only [go_sem, reduceIte, Nat.reduceEqDiff, Nat.reduceAdd, Nat.reduceSub, Nat.reduceLeDiff, Nat.reduceLT, reduceCtorEq, Int.reduceLT, Int.reduceLE, Int.reduceEq, Int.reduceBEq, Int.reduceSub, Int.reduceAdd, Int.reduceMul, Int.reduceNeg, Int.reduceToNat, Nat.reduceMul, Nat.reduceBEq, index_rsl_if, setm, make_ints, condK_dec, wantK_dec, not_dec, and_dec, or_dec, seqK_ite, seqK_none, blockK_ite, blockK_none, opsK_ite, opsK_none, stepK_ite, stepK_none, bodyK_ite, bodyK_none, resK_ite, resK_none, leaveK_ite, leaveK_none, only_ite, only_none, bind_ite, gives_some, gives_none, gives_ite, then_normal, then_ret, then_exit, then_none, then_ite, Option.bind_none, Bool.not_eq_true', decide_eq_false_iff_not, Bool.and_eq_true, Bool.or_eq_true, Option.some.injEq, Int.not_lt, Int.not_le, lp112_0, hlt, ha0, hs, hg, hw]
    refine ⟨(a + 1, acc + x), by simp only [go_sem, reduceIte, Nat.reduceEqDiff, Nat.reduceAdd, Nat.reduceSub, Nat.reduceLeDiff, Nat.reduceLT, reduceCtorEq, Int.reduceLT, Int.reduceLE, Int.reduceEq, Int.reduceBEq, Int.reduceSub, Int.reduceAdd, Int.reduceMul, Int.reduceNeg, Int.reduceToNat, Nat.reduceMul, Nat.reduceBEq, ren1_locm, loc_tips, locT_eq] <;> rfl, ?_, ?_, fun x en s hq => ?_⟩
    · dsimp only; exact ⟨by omega, by omega, by omega⟩
    · simp only; omega
    · simp only [sumL]; rw [← Int.add_assoc]; exact hq
  · have hd : (room.take n).drop a = [] := List.drop_eq_nil_of_le (by simp; omega)
    have hlt : ((a : Int) < (n : Int)) = False := eq_false (by omega)
    simp only [go_sem, reduceIte, Nat.reduceEqDiff, Nat.reduceAdd, Nat.reduceSub, Nat.reduceLeDiff, Nat.reduceLT, reduceCtorEq, Int.reduceLT, Int.reduceLE, Int.reduceEq, Int.reduceBEq, Int.reduceSub, Int.reduceAdd, Int.reduceMul, Int.reduceNeg, Int.reduceToNat, Nat.reduceMul, Nat.reduceBEq, index_rsl_if, setm, make_ints, condK_dec, wantK_dec, not_dec, and_dec, or_dec, seqK_ite, seqK_none, blockK_ite, blockK_none, opsK_ite, opsK_none, stepK_ite, stepK_none, bodyK_ite, bodyK_none, resK_ite, resK_none, leaveK_ite, leaveK_none, only_ite, only_none, bind_ite, gives_some, gives_none, gives_ite, then_normal, then_ret, then_exit, then_none, then_ite, Option.bind_none, Bool.not_eq_true', decide_eq_false_iff_not, Bool.and_eq_true, Bool.or_eq_true, Option.some.injEq, Int.not_lt, Int.not_le, lp112_0, hlt]
    rw [hd]; simp [sumL]


/-- What the search answers, and how it leaves the memory. -/
def Does (nl : Bool) (n : Nat) (ps : List (Int × Int)) (k : Nat) : Prop := ∀ (i : Nat), i + k = ps.length → ∀ (room : List Int), room.length = 7 → (∀ x ∈ room, 0 ≤ x ∧ x ≤ 2) → ∀ left : Int, 0 ≤ left → left ≤ 14 → ∀ (o : List Int), o.length ≤ i → ∀ (v : AV) (J : List (List AV)), Rep J o v →
  ∃ (b : Bool) (room' : List Int) (v' : AV) (J' : List (List AV)), run L 112 [I i, I left, .ptr 0 0, .ptr 2 0, .ptr 1 0, .ptr 3 0] (S4 (bkCells nl n ps) v room J) = some (B b, S4 (bkCells nl n ps) v' room' J') ∧ Frame J v J' v' ∧
    match findL n (ps.drop i) room left with
    | some l => b = true ∧ Rep J' (o ++ l) v' ∧ room'.length = 7
    | none => b = false ∧ Rep J' o v' ∧ room' = room
def fromX (n : Nat) (q : List (Int × Int)) (p : Int × Int) (room : List Int) (left : Int) (mx x : Nat) : Option (List Int) := (List.range' x (mx + 1 - x)).findSome? fun (x : Nat) => (findL n q (takeR room p x) (left - x)).map ((x : Int) :: ·)

set_option maxHeartbeats 4000000 in
theorem loop112_1 (nl : Bool) (n : Nat) (hn : n ≤ 7) (ps : List (Int × Int)) (hlen : ps.length ≤ 10) (i k : Nat) (hik : i + 1 + k = ps.length) (u w : Nat) (huw : u < w ∧ w < n) (room : List Int) (hrl : room.length = 7) (hrb : ∀ x ∈ room, 0 ≤ x ∧ x ≤ 2) (left : Int) (hl0 : 0 ≤ left) (hl1 : left ≤ 14) (o : List Int) (ho : o.length ≤ i) (mx : Nat) (hmu : (mx : Int) ≤ room.getD u 0) (hmw : (mx : Int) ≤ room.getD w 0) (hml : (mx : Int) ≤ left) (hrec : Does nl n ps k) (qb : Nat) (J00 : List (List AV)) (v00 : AV) (lo hi : Nat) (x : Nat) (v : AV) (J : List (List AV)) (hok : x ≤ mx + 1 ∧ Rep J o v ∧ J[qb]? = some [I u, I w] ∧ NotAt qb v ∧ Frame J00 v00 J v) (env : Env) (st : St)
    (hg : gcAV false lo hi (canon env [0, 1, 3, 4, 5, 12, 52, 53]) st = ([(0, I i), (1, I left), (3, .ptr 2 0), (4, .ptr 1 0), (5, .ptr 3 0), (12, .ptr (qb + 4) 0), (52, I ((mx : Int) + 1)), (53, I x)], S4 (bkCells nl n ps) v room J)) :
    ∃ x_1 en s, lim (headed pure (run L) false [0, 1, 3, 4, 5, 12, 52, 53] lp112_1 lo hi) env st = some (x_1, en, s) ∧ (∃ v' J' room', s = S4 (bkCells nl n ps) v' room' J' ∧ Frame J00 v00 J' v' ∧ (match fromX n (ps.drop (i + 1)) ((u : Int), (w : Int)) room left mx x with | some l => x_1 = .ret ∧ en.get 8 = B true ∧ Rep J' (o ++ l) v' ∧ room'.length = 7 | none => x_1 = .exit 2 ∧ Rep J' o v' ∧ room' = room)) := by
  refine loop_wp (α := Nat × AV × List (List AV)) (fun ⟨x, v, J⟩ => mx + 1 - x) (fun ⟨x, v, J⟩ => x ≤ mx + 1 ∧ Rep J o v ∧ J[qb]? = some [I u, I w] ∧ NotAt qb v ∧ Frame J00 v00 J v) (fun ⟨x, v, J⟩ => ([(0, I i), (1, I left), (3, .ptr 2 0), (4, .ptr 1 0), (5, .ptr 3 0), (12, .ptr (qb + 4) 0), (52, I ((mx : Int) + 1)), (53, I x)], S4 (bkCells nl n ps) v room J)) (fun ⟨x, v, J⟩ x_1 en s => ∃ v' J' room', s = S4 (bkCells nl n ps) v' room' J' ∧ Frame J00 v00 J' v' ∧ (match fromX n (ps.drop (i + 1)) ((u : Int), (w : Int)) room left mx x with | some l => x_1 = .ret ∧ en.get 8 = B true ∧ Rep J' (o ++ l) v' ∧ room'.length = 7 | none => x_1 = .exit 2 ∧ Rep J' o v' ∧ room' = room)) (fun ⟨x, v, J⟩ hok => ?_) ⟨x, v, J⟩ hok env st hg
  simp only at hok
  obtain ⟨h1, hR, hq0, hqn, hF⟩ := hok
  dsimp only at h1 hR hq0 hqn hF ⊢
  by_cases h : x < mx + 1
  · have hs := succ64 x (by omega)
    have hsi := succ64 i (by omega)
    have hlt : ((x : Int) < (mx : Int) + 1) = True := eq_true (by omega)
    have hfx : fromX n (ps.drop (i + 1)) ((u : Int), (w : Int)) room left mx x = match findL n (ps.drop (i + 1)) (takeR room ((u : Int), (w : Int)) x) (left - x) with | some l => some ((x : Int) :: l) | none => fromX n (ps.drop (i + 1)) ((u : Int), (w : Int)) room left mx (x + 1) := by
      unfold fromX
      rw [show mx + 1 - x = (mx + 1 - (x + 1)) + 1 by omega, List.range'_succ, List.findSome?_cons]
      cases findL n (ps.drop (i + 1)) (takeR room ((u : Int), (w : Int)) x) (left - x) <;> rfl
    have gu := getI room u (by omega)
    have gw := getI room w (by omega)
    have bu := getD_bd (B := 2) (by omega) hrb u
    have bw := getD_bd (B := 2) (by omega) hrb w
    obtain ⟨v2, J2, happ, hR2, hF2, hsh2, hce2, hst2⟩ := rep_append hR (by omega) (x : Int)
    obtain ⟨hq2, hqn2⟩ := hF2 qb _ hq0 hqn
    have hT : takeR room ((u : Int), (w : Int)) x = (room.set u (room.getD u 0 - x)).set w (room.getD w 0 - x) := by unfold takeR; simp only [Int.toNat_natCast]
    have hRl : (takeR room ((u : Int), (w : Int)) x).length = 7 := by rw [hT]; simp [hrl]
    have hRb : ∀ y ∈ takeR room ((u : Int), (w : Int)) x, 0 ≤ y ∧ y ≤ 2 := by
      intro y hy
      rw [hT] at hy
      rcases List.mem_or_eq_of_mem_set hy with hy | rfl
      · rcases List.mem_or_eq_of_mem_set hy with hy | rfl
        · exact hrb y hy
        · omega
      · omega
    have hRu : (takeR room ((u : Int), (w : Int)) x).getD u 0 = room.getD u 0 - x := by
      rw [hT, List.getD_eq_getElem?_getD, List.getElem?_set_ne (by omega), List.getElem?_set_self (by omega)]; rfl
    have hRw : (takeR room ((u : Int), (w : Int)) x).getD w 0 = room.getD w 0 - x := by
      rw [hT, List.getD_eq_getElem?_getD, List.getElem?_set_self (by simp; omega)]; rfl
    have hback : ((takeR room ((u : Int), (w : Int)) x).set u (room.getD u 0)).set w (room.getD w 0) = room := by
      rw [hT]
      apply List.ext_getElem?
      intro j
      simp only [List.getElem?_set, List.length_set]
      by_cases e1 : w = j
      · subst e1
        simp [List.getD_eq_getElem?_getD, List.getElem?_eq_getElem (show w < room.length by omega), show w < room.length by omega]
      · by_cases e2 : u = j
        · subst e2
          simp [e1, List.getD_eq_getElem?_getD, List.getElem?_eq_getElem (show u < room.length by omega), show u < room.length by omega]
        · simp [e1, e2]
    obtain ⟨b, room', v3, J3, hrun, hF3, hm⟩ := hrec (i + 1) (by omega) _ hRl hRb (left - x) (by omega) (by omega) (o ++ [(x : Int)]) (by simp; omega) v2 J2 hR2
    obtain ⟨hq3, hqn3⟩ := hF3 qb _ hq2 hqn2
    have gu2 := getI (takeR room ((u : Int), (w : Int)) x) u (by omega)
    have gw2 := getI (takeR room ((u : Int), (w : Int)) x) w (by omega)
    rw [hRu] at gu2
    rw [hRw] at gw2
    have hF4 := (hF.trans hF2).trans hF3
    have hset1 : (room.set u (room.getD u 0 - x)).set w (room.getD w 0 - x) = takeR room ((u : Int), (w : Int)) x := hT.symm
    generalize takeR room ((u : Int), (w : Int)) x = R2 at *
    generalize room.getD u 0 = ru at *
    generalize room.getD w 0 = rw0 at *
    have w1 : IntKind.i64.wrap (ru - (x : Int)) = ru - (x : Int) := by rw [wrap64] <;> omega
    have w2 : IntKind.i64.wrap (rw0 - (x : Int)) = rw0 - (x : Int) := by rw [wrap64] <;> omega
    have w3 : IntKind.i64.wrap (left - (x : Int)) = left - (x : Int) := by rw [wrap64] <;> omega
    have w4 : IntKind.i64.wrap (ru - (x : Int) + (x : Int)) = ru := by rw [wrap64] <;> omega
    have w5 : IntKind.i64.wrap (rw0 - (x : Int) + (x : Int)) = rw0 := by rw [wrap64] <;> omega
    have w6 : IntKind.i64.wrap ((o.length : Int) + 1 - 1) = (o.length : Int) := by rw [wrap64] <;> omega
    have b1 : ((0 : Int) ≤ (u : Int)) = True := eq_true (by omega)
    have b2 : ((u : Int) < 7) = True := eq_true (by omega)
    have b3 : ((0 : Int) ≤ (w : Int)) = True := eq_true (by omega)
    have b4 : ((w : Int) < 7) = True := eq_true (by omega)
    have b5 : (u + 1 ≤ 7) = True := eq_true (by omega)
    have b6 : (w + 1 ≤ 7) = True := eq_true (by omega)
    have hne : (qb + 4 == 2) = false := by simp
    have hp112 : pure 112 = false := rfl
    rw [hfx]
    cases hfl : findL n (ps.drop (i + 1)) R2 (left - x) with
    | some l =>
      rw [hfl] at hm
      obtain ⟨rfl, hm2, hm3⟩ := hm
      simp only [go_sem, reduceIte, Nat.reduceEqDiff, Nat.reduceAdd, Nat.reduceSub, Nat.reduceLeDiff, Nat.reduceLT, reduceCtorEq, Int.reduceLT, Int.reduceLE, Int.reduceEq, Int.reduceBEq, Int.reduceSub, Int.reduceAdd, Int.reduceMul, Int.reduceNeg, Int.reduceToNat, Nat.reduceMul, Nat.reduceBEq, index_rsl_if, setm, make_ints, condK_dec, wantK_dec, not_dec, and_dec, or_dec, seqK_ite, seqK_none, blockK_ite, blockK_none, opsK_ite, opsK_none, stepK_ite, stepK_none, bodyK_ite, bodyK_none, resK_ite, resK_none, leaveK_ite, leaveK_none, only_ite, only_none, bind_ite, gives_some, gives_none, gives_ite, then_normal, then_ret, then_exit, then_none, then_ite, Option.bind_none, Bool.not_eq_true', decide_eq_false_iff_not, Bool.and_eq_true, Bool.or_eq_true, Option.some.injEq, Int.not_lt, Int.not_le, lp112_1, hlt, hs, hsi, happ, hsh2, hce2, hst2, hq2, onB, offB, List.any_cons, List.any_nil, hne, gu, gw, w1, w2, w3, b1, b2, b3, b4, b5, b6, hrl, hset1, hrun, hp112, List.length_map, List.length_singleton, List.length_set, Bool.or_false, Bool.not_false]
      refine ⟨v3, J3, room', rfl, hF4, ?_, hm3⟩
      rw [List.append_assoc, List.singleton_append] at hm2; exact hm2
    | none =>
      rw [hfl] at hm
      obtain ⟨rfl, hm2, hm3⟩ := hm
      subst hm3
      obtain ⟨v4, hln, hsl, hR4, hFb, hsh4, hce4, hst4⟩ := rep_back hm2
      obtain ⟨hq4, hqn4⟩ := hFb qb _ hq3 hqn3
      simp only [go_sem, reduceIte, Nat.reduceEqDiff, Nat.reduceAdd, Nat.reduceSub, Nat.reduceLeDiff, Nat.reduceLT, reduceCtorEq, Int.reduceLT, Int.reduceLE, Int.reduceEq, Int.reduceBEq, Int.reduceSub, Int.reduceAdd, Int.reduceMul, Int.reduceNeg, Int.reduceToNat, Nat.reduceMul, Nat.reduceBEq, index_rsl_if, setm, make_ints, condK_dec, wantK_dec, not_dec, and_dec, or_dec, seqK_ite, seqK_none, blockK_ite, blockK_none, opsK_ite, opsK_none, stepK_ite, stepK_none, bodyK_ite, bodyK_none, resK_ite, resK_none, leaveK_ite, leaveK_none, only_ite, only_none, bind_ite, gives_some, gives_none, gives_ite, then_normal, then_ret, then_exit, then_none, then_ite, Option.bind_none, Bool.not_eq_true', decide_eq_false_iff_not, Bool.and_eq_true, Bool.or_eq_true, Option.some.injEq, Int.not_lt, Int.not_le, lp112_1, hlt, hs, hsi, happ, hsh2, hce2, hst2, hq2, hq3, onB, offB, List.any_cons, List.any_nil, hne, gu, gw, gu2, gw2, w1, w2, w3, w4, w5, w6, b1, b2, b3, b4, b5, b6, hrl, hRl, hset1, hback, hrun, hp112, hln, hsl, hsh4, hce4, hst4, List.length_map, List.length_singleton, List.length_set, Bool.or_false, Bool.not_false]
      refine ⟨(x + 1, v4, J3), by simp only [go_sem, reduceIte, Nat.reduceEqDiff, Nat.reduceAdd, Nat.reduceSub, Nat.reduceLeDiff, Nat.reduceLT, reduceCtorEq, Int.reduceLT, Int.reduceLE, Int.reduceEq, Int.reduceBEq, Int.reduceSub, Int.reduceAdd, Int.reduceMul, Int.reduceNeg, Int.reduceToNat, Nat.reduceMul, Nat.reduceBEq, ren1_locm, loc_tips, locT_eq] <;> rfl, ?_, ?_, fun x en s hq => ?_⟩
      · dsimp only; exact ⟨by omega, hR4, hq4, hqn4, hF4.trans hFb⟩
      · simp only; omega
      · exact hq
  · obtain rfl : x = mx + 1 := by omega
    have hfx : fromX n (ps.drop (i + 1)) ((u : Int), (w : Int)) room left mx (mx + 1) = none := by unfold fromX; rw [Nat.sub_self]; rfl
    rw [hfx]
    simp only [go_sem, reduceIte, Nat.reduceEqDiff, Nat.reduceAdd, Nat.reduceSub, Nat.reduceLeDiff, Nat.reduceLT, reduceCtorEq, Int.reduceLT, Int.reduceLE, Int.reduceEq, Int.reduceBEq, Int.reduceSub, Int.reduceAdd, Int.reduceMul, Int.reduceNeg, Int.reduceToNat, Nat.reduceMul, Nat.reduceBEq, index_rsl_if, setm, make_ints, condK_dec, wantK_dec, not_dec, and_dec, or_dec, seqK_ite, seqK_none, blockK_ite, blockK_none, opsK_ite, opsK_none, stepK_ite, stepK_none, bodyK_ite, bodyK_none, resK_ite, resK_none, leaveK_ite, leaveK_none, only_ite, only_none, bind_ite, gives_some, gives_none, gives_ite, then_normal, then_ret, then_exit, then_none, then_ite, Option.bind_none, Bool.not_eq_true', decide_eq_false_iff_not, Bool.and_eq_true, Bool.or_eq_true, Option.some.injEq, Int.not_lt, Int.not_le, lp112_1, show (((mx + 1 : Nat) : Int) < (mx : Int) + 1) = False from eq_false (by omega)]
    exact ⟨v, J, room, rfl, hF, hR, rfl⟩


set_option maxHeartbeats 2000000 in
theorem does (nl : Bool) (n : Nat) (hn : n ≤ 7) (ps : List (Int × Int)) (hlen : ps.length ≤ 10) (hps : ∀ p ∈ ps, 0 ≤ p.1 ∧ p.1 < p.2 ∧ p.2 < (n : Int)) : ∀ k, Does nl n ps k := by
  intro k
  induction k with
  | zero =>
    intro i hik room hrl hrb left hl0 hl1 ol ho v J hR
    have hi : i = ps.length := by omega
    subst hi
    have hd : ps.drop ps.length = [] := List.drop_length
    rw [hd]
    refine ⟨decide (left = 0), room, v, J, ?_, Frame.refl J v, ?_⟩
    · rw [run_shared (fn := ir112) rfl rfl]
      simp only [ir112, go_sem, reduceIte, Nat.reduceEqDiff, Nat.reduceAdd, Nat.reduceSub, Nat.reduceLeDiff, Nat.reduceLT, reduceCtorEq, Int.reduceLT, Int.reduceLE, Int.reduceEq, Int.reduceBEq, Int.reduceSub, Int.reduceAdd, Int.reduceMul, Int.reduceNeg, Int.reduceToNat, Nat.reduceMul, Nat.reduceBEq, List.length_map]
    · simp only [findL]
      by_cases h : left = 0
      · rw [if_pos h]; exact ⟨by simp [h], by rw [List.append_nil]; exact hR, hrl⟩
      · rw [if_neg h]; exact ⟨by simp [h], hR, trivial⟩
  | succ k ih =>
    intro i hik room hrl hrb left hl0 hl1 ol ho v J hR
    have hi : i < ps.length := by omega
    have hd : ps.drop i = ps[i] :: ps.drop (i + 1) := List.drop_eq_getElem_cons hi
    have hx := index_prs nl ps i hi
    have hp := hps ps[i] (List.getElem_mem hi)
    rw [hd]
    generalize ps[i] = c at *
    obtain ⟨u, w⟩ := c
    simp only at hx hp
    obtain ⟨u, rfl⟩ := Int.eq_ofNat_of_zero_le hp.1
    obtain ⟨w, rfl⟩ := Int.eq_ofNat_of_zero_le (show 0 ≤ w by omega)
    have q1 : ((i : Int) = (ps.length : Int)) = False := eq_false (by omega)
    have hsl : sliceaAV 7 1 false (.ptr 2 0) none (some (.v (.int .i64 (n : Int)))) none = some (.rsl 2 0 n 7 1 false) := by
      simp only [sliceaAV, natOr, natOf]
      simp; omega
    have hsb := sumL_bd (room.take n) (fun x hx => hrb x (List.mem_of_mem_take hx))
    have hw2 := wrap64 (2 * left) (by omega) (by omega)
    have gu := getI room u (by omega)
    have gw := getI room w (by omega)
    have bu := getD_bd (B := 2) (by omega) hrb u
    have bw := getD_bd (B := 2) (by omega) hrb w
    have hmx : ((mxR room ((u : Int), (w : Int)) left : Nat) : Int) = min (min (room.getD u 0) (room.getD w 0)) left := by
      unfold mxR; simp only [Int.toNat_natCast]; omega
    have hfl : findL n (((u : Int), (w : Int)) :: ps.drop (i + 1)) room left = if sumL (room.take n) < 2 * left then none else fromX n (ps.drop (i + 1)) ((u : Int), (w : Int)) room left (mxR room ((u : Int), (w : Int)) left) 0 := rfl
    rw [hfl]
    generalize mxR room ((u : Int), (w : Int)) left = mx at *
    have hmu : (mx : Int) ≤ room.getD u 0 := by omega
    have hmw : (mx : Int) ≤ room.getD w 0 := by omega
    have hml : (mx : Int) ≤ left := by omega
    rw [run_shared (fn := ir112) rfl rfl]
    by_cases pr : sumL (room.take n) < 2 * left
    · rw [if_pos pr]
      refine ⟨false, room, v, J, ?_, Frame.refl J v, rfl, hR, rfl⟩
      simp only [ir112, go_sem, reduceIte, Nat.reduceEqDiff, Nat.reduceAdd, Nat.reduceSub, Nat.reduceLeDiff, Nat.reduceLT, reduceCtorEq, Int.reduceLT, Int.reduceLE, Int.reduceEq, Int.reduceBEq, Int.reduceSub, Int.reduceAdd, Int.reduceMul, Int.reduceNeg, Int.reduceToNat, Nat.reduceMul, Nat.reduceBEq, q1, hsl, List.length_map]
      generalize hg : lim (headed pure (run L) false _ lp112_0 _ _) _ _ = o
      obtain ⟨x, en, s, rfl, h2⟩ : ∃ x en s, o = some (x, en, s) ∧ _ := by rw [← hg]; exact loop112_0 nl n hn ps i left room hrl hrb v J (4 + J.length) 0 0 0 ⟨by omega, by omega, by omega⟩ _ _ (by simp only [go_sem, reduceIte, Nat.reduceEqDiff, Nat.reduceAdd, Nat.reduceSub, Nat.reduceLeDiff, Nat.reduceLT, reduceCtorEq, Int.reduceLT, Int.reduceLE, Int.reduceEq, Int.reduceBEq, Int.reduceSub, Int.reduceAdd, Int.reduceMul, Int.reduceNeg, Int.reduceToNat, Nat.reduceMul, Nat.reduceBEq, Int.natCast_zero] <;> rfl)
      clear hg
      obtain ⟨rfl, e0, e1, e2, e3, e4, e5, e9, rfl⟩ := h2
      rw [List.drop_zero, Int.zero_add] at e9
      simp only [go_sem, reduceIte, Nat.reduceEqDiff, Nat.reduceAdd, Nat.reduceSub, Nat.reduceLeDiff, Nat.reduceLT, reduceCtorEq, Int.reduceLT, Int.reduceLE, Int.reduceEq, Int.reduceBEq, Int.reduceSub, Int.reduceAdd, Int.reduceMul, Int.reduceNeg, Int.reduceToNat, Nat.reduceMul, Nat.reduceBEq, e0, e1, e2, e3, e4, e5, e9, hw2, pr]
    · rw [if_neg pr]
      have hq0 : (J ++ [[I (u : Int), I (w : Int)]])[J.length]? = some [I (u : Int), I (w : Int)] := by simp
      have hz0 : (J ++ [[AV.v (.int .i64 0), AV.v (.int .i64 0)]])[J.length]? = some [AV.v (.int .i64 0), .v (.int .i64 0)] := by simp
      have hzs : ∀ c : List AV, (J ++ [[AV.v (.int .i64 0), AV.v (.int .i64 0)]]).set J.length c = J ++ [c] := fun c => by simp
      have hqn : NotAt J.length v := by
        rcases hR with ⟨_, rfl⟩ | ⟨l, c, cs, rfl, h1, _⟩
        · intro n c e; simp at e
        · intro n c2 e
          have := (List.getElem?_eq_some_iff.1 h1).1
          simp at e; omega
      have hR1 : Rep (J ++ [[I (u : Int), I (w : Int)]]) ol v := by
        rcases hR with ⟨h0, rfl⟩ | ⟨l, c, cs, rfl, h1, h2, h3, h4, h5⟩
        · exact .inl ⟨h0, rfl⟩
        · exact .inr ⟨l, c, cs, rfl, by rw [List.getElem?_append_left (List.getElem?_eq_some_iff.1 h1).1]; exact h1, h2, h3, h4, h5⟩
      have hF1 : Frame J v (J ++ [[I (u : Int), I (w : Int)]]) v := fun q c h1 h2 => ⟨by rw [List.getElem?_append_left (List.getElem?_eq_some_iff.1 h1).1]; exact h1, h2⟩
      have hwm : IntKind.i64.wrap ((mx : Int) + 1) = (mx : Int) + 1 := by rw [wrap64] <;> omega
      have b1 : ((0 : Int) ≤ (u : Int)) = True := eq_true (by omega)
      have b2 : ((u : Int) < 7) = True := eq_true (by omega)
      have b3 : ((0 : Int) ≤ (w : Int)) = True := eq_true (by omega)
      have b4 : ((w : Int) < 7) = True := eq_true (by omega)
      have main : ∃ e8 S8, run L 112 [I i, I left, .ptr 0 0, .ptr 2 0, .ptr 1 0, .ptr 3 0] (S4 (bkCells nl n ps) v room J) = some (e8, S8) ∧ ∃ v' J' room', S8 = S4 (bkCells nl n ps) v' room' J' ∧ Frame J v J' v' ∧ (match fromX n (ps.drop (i + 1)) ((u : Int), (w : Int)) room left mx 0 with | some l => e8 = B true ∧ Rep J' (ol ++ l) v' ∧ room'.length = 7 | none => e8 = B false ∧ Rep J' ol v' ∧ room' = room) := by
        rw [run_shared (fn := ir112) rfl rfl]
        simp only [ir112, go_sem, reduceIte, Nat.reduceEqDiff, Nat.reduceAdd, Nat.reduceSub, Nat.reduceLeDiff, Nat.reduceLT, reduceCtorEq, Int.reduceLT, Int.reduceLE, Int.reduceEq, Int.reduceBEq, Int.reduceSub, Int.reduceAdd, Int.reduceMul, Int.reduceNeg, Int.reduceToNat, Nat.reduceMul, Nat.reduceBEq, q1, hsl, List.length_map]
        generalize hg : lim (headed pure (run L) false _ lp112_0 _ _) _ _ = o
        obtain ⟨x, en, s, rfl, h2⟩ : ∃ x en s, o = some (x, en, s) ∧ _ := by rw [← hg]; exact loop112_0 nl n hn ps i left room hrl hrb v J (4 + J.length) 0 0 0 ⟨by omega, by omega, by omega⟩ _ _ (by simp only [go_sem, reduceIte, Nat.reduceEqDiff, Nat.reduceAdd, Nat.reduceSub, Nat.reduceLeDiff, Nat.reduceLT, reduceCtorEq, Int.reduceLT, Int.reduceLE, Int.reduceEq, Int.reduceBEq, Int.reduceSub, Int.reduceAdd, Int.reduceMul, Int.reduceNeg, Int.reduceToNat, Nat.reduceMul, Nat.reduceBEq, Int.natCast_zero] <;> rfl)
        clear hg
        obtain ⟨rfl, e0, e1, e2, e3, e4, e5, e9, rfl⟩ := h2
        rw [List.drop_zero, Int.zero_add] at e9
        simp only [go_sem, reduceIte, Nat.reduceEqDiff, Nat.reduceAdd, Nat.reduceSub, Nat.reduceLeDiff, Nat.reduceLT, reduceCtorEq, Int.reduceLT, Int.reduceLE, Int.reduceEq, Int.reduceBEq, Int.reduceSub, Int.reduceAdd, Int.reduceMul, Int.reduceNeg, Int.reduceToNat, Nat.reduceMul, Nat.reduceBEq, e0, e1, e2, e3, e4, e5, e9, hw2, pr, hx, hz0, hzs, hq0, gu, gw, b1, b2, b3, b4, ← hmx, hwm]
        generalize hg : lim (headed pure (run L) false _ lp112_1 _ _) _ _ = o
        obtain ⟨x, en, s, rfl, h2⟩ : ∃ x en s, o = some (x, en, s) ∧ _ := by rw [← hg]; exact loop112_1 nl n hn ps hlen i k (by omega) u w (by omega) room hrl hrb left hl0 hl1 ol ho mx hmu hmw hml ih J.length J v (J.length + 1 + 4) 0 0 v (J ++ [[I (u : Int), I (w : Int)]]) ⟨by omega, hR1, hq0, hqn, hF1⟩ _ _ (by simp only [go_sem, reduceIte, Nat.reduceEqDiff, Nat.reduceAdd, Nat.reduceSub, Nat.reduceLeDiff, Nat.reduceLT, reduceCtorEq, Int.reduceLT, Int.reduceLE, Int.reduceEq, Int.reduceBEq, Int.reduceSub, Int.reduceAdd, Int.reduceMul, Int.reduceNeg, Int.reduceToNat, Nat.reduceMul, Nat.reduceBEq, e0, e1, e2, e3, e4, e5, Int.natCast_zero] <;> rfl)
        clear hg
        obtain ⟨v', J', room', rfl, hF', hm⟩ := h2
        cases hfx : fromX n (ps.drop (i + 1)) ((u : Int), (w : Int)) room left mx 0 with
        | some l =>
          rw [hfx] at hm
          obtain ⟨rfl, h8, hR', hl'⟩ := hm
          refine ⟨B true, S4 (bkCells nl n ps) v' room' J', by simp only [go_sem, reduceIte, Nat.reduceEqDiff, Nat.reduceAdd, Nat.reduceSub, Nat.reduceLeDiff, Nat.reduceLT, reduceCtorEq, Int.reduceLT, Int.reduceLE, Int.reduceEq, Int.reduceBEq, Int.reduceSub, Int.reduceAdd, Int.reduceMul, Int.reduceNeg, Int.reduceToNat, Nat.reduceMul, Nat.reduceBEq, h8], v', J', room', rfl, hF', rfl, hR', hl'⟩
        | none =>
          rw [hfx] at hm
          obtain ⟨rfl, hR', hl'⟩ := hm
          refine ⟨B false, S4 (bkCells nl n ps) v' room' J', by simp only [go_sem, reduceIte, Nat.reduceEqDiff, Nat.reduceAdd, Nat.reduceSub, Nat.reduceLeDiff, Nat.reduceLT, reduceCtorEq, Int.reduceLT, Int.reduceLE, Int.reduceEq, Int.reduceBEq, Int.reduceSub, Int.reduceAdd, Int.reduceMul, Int.reduceNeg, Int.reduceToNat, Nat.reduceMul, Nat.reduceBEq], v', J', room', rfl, hF', rfl, hR', hl'⟩
      obtain ⟨e8, S8, hrun, v', J', room', rfl, hF', hm⟩ := main
      rw [run_shared (fn := ir112) rfl rfl] at hrun
      cases hfx : fromX n (ps.drop (i + 1)) ((u : Int), (w : Int)) room left mx 0 with
      | some l =>
        rw [hfx] at hm
        obtain ⟨rfl, hR', hl'⟩ := hm
        exact ⟨true, room', v', J', hrun, hF', rfl, hR', hl'⟩
      | none =>
        rw [hfx] at hm
        obtain ⟨rfl, hR', hl'⟩ := hm
        exact ⟨false, room', v', J', hrun, hF', rfl, hR', hl'⟩


/-! ### the search finds the first shares of a worth -/
theorem some_first {β : Type} (g : Nat → Option β) : ∀ (m x0 : Nat), match (List.range' x0 m).findSome? g with
    | some r => ∃ x, x0 ≤ x ∧ x < x0 + m ∧ g x = some r ∧ ∀ y, x0 ≤ y → y < x → g y = none
    | none => ∀ y, x0 ≤ y → y < x0 + m → g y = none
  | 0, x0 => by simp; intro y h1 h2; omega
  | m + 1, x0 => by
    have ih := some_first g m (x0 + 1)
    rw [List.range'_succ, List.findSome?_cons]
    cases h : g x0 with
    | some r => exact ⟨x0, by omega, by omega, h, fun y h1 h2 => by omega⟩
    | none =>
      simp only
      cases h2 : (List.range' (x0 + 1) m).findSome? g with
      | some r =>
        rw [h2] at ih
        obtain ⟨x, a1, a2, a3, a4⟩ := ih
        refine ⟨x, by omega, by omega, a3, fun y h3 h4 => ?_⟩
        by_cases e : y = x0
        · subst e; exact h
        · exact a4 y (by omega) h4
      | none =>
        rw [h2] at ih
        intro y h3 h4
        by_cases e : y = x0
        · subst e; exact h
        · exact ih y (by omega) (by omega)

/-- Shares of some pairs for which there is room, and that are worth so much. -/
def Fits (q : List (Int × Int)) (room : List Int) (left : Int) (l : List Int) : Prop := l.length = q.length ∧ (∀ x ∈ l, 0 ≤ x) ∧ (∀ a : Nat, loadOf (q.zip l) (a : Int) ≤ room.getD a 0) ∧ sumL l = left
theorem sum_nonneg : ∀ l : List Int, (∀ x ∈ l, 0 ≤ x) → 0 ≤ sumL l
  | [], _ => by simp [sumL]
  | a :: r, h => by
    have h1 := h a (by simp)
    have h2 := sum_nonneg r (fun x hx => h x (by simp [hx]))
    simp only [sumL]; omega
theorem load_nonneg (a : Int) : ∀ l : List ((Int × Int) × Int), (∀ e ∈ l, 0 ≤ e.2) → 0 ≤ loadOf l a
  | [], _ => by simp [loadOf]
  | e :: r, h => by
    have h1 := h e (by simp)
    have h2 := load_nonneg a r (fun x hx => h x (by simp [hx]))
    simp only [loadOf]; split <;> omega
theorem zip_snd {q : List (Int × Int)} {l : List Int} (h : ∀ x ∈ l, 0 ≤ x) : ∀ e ∈ q.zip l, 0 ≤ e.2 := fun e he => h _ (List.of_mem_zip he).2
theorem takeR_getD {room : List Int} (hrl : room.length = 7) {u w : Nat} (hu : u < w) (hw : w < 7) (x : Int) (a : Nat) : (takeR room ((u : Int), (w : Int)) x).getD a 0 = room.getD a 0 - (if a = u ∨ a = w then x else 0) := by
  unfold takeR
  simp only [Int.toNat_natCast, List.getD_eq_getElem?_getD, List.getElem?_set, List.length_set]
  by_cases e1 : w = a
  · subst e1
    have : (if w = u ∨ w = w then x else 0) = x := if_pos (Or.inr rfl)
    rw [this]
    simp [show w < room.length by omega]
  · by_cases e2 : u = a
    · subst e2
      have : (if u = u ∨ u = w then x else 0) = x := if_pos (Or.inl rfl)
      rw [this]
      simp [e1, show u < room.length by omega]
    · have : (if a = u ∨ a = w then x else 0) = 0 := if_neg (by omega)
      rw [this]
      simp [e1, e2]
theorem fits_cons {q : List (Int × Int)} {room : List Int} (hrl : room.length = 7) {u w : Nat} (hu : u < w) (hw : w < 7) {left x : Int} {l : List Int} :
    Fits (((u : Int), (w : Int)) :: q) room left (x :: l) ↔ 0 ≤ x ∧ Fits q (takeR room ((u : Int), (w : Int)) x) (left - x) l := by
  unfold Fits
  simp only [List.length_cons, List.zip_cons_cons, loadOf, sumL, List.mem_cons, forall_eq_or_imp]
  have key : ∀ a : Nat, ((if (u : Int) = (a : Int) ∨ (w : Int) = (a : Int) then x else 0) + loadOf (q.zip l) (a : Int) ≤ room.getD a 0) ↔ (loadOf (q.zip l) (a : Int) ≤ (takeR room ((u : Int), (w : Int)) x).getD a 0) := by
    intro a
    rw [takeR_getD hrl hu hw]
    have : (((u : Int) = (a : Int)) ∨ ((w : Int) = (a : Int))) ↔ (a = u ∨ a = w) := by omega
    simp only [this]
    omega
  simp only [key]
  constructor
  · rintro ⟨h1, ⟨h2, h3⟩, h4, h5⟩; exact ⟨h2, by omega, h3, h4, by omega⟩
  · rintro ⟨h2, h1, h3, h4, h5⟩; exact ⟨by omega, ⟨h2, h3⟩, h4, by omega⟩
theorem sum_load {n : Nat} : ∀ (l : List ((Int × Int) × Int)), (∀ e ∈ l, 0 ≤ e.1.1 ∧ e.1.1 < e.1.2 ∧ e.1.2 < (n : Int)) → sumL ((List.range n).map fun (a : Nat) => loadOf l (a : Int)) = 2 * sumL (l.map fun e => e.2)
  | [], _ => by
    have : ∀ k : List Nat, sumL (k.map fun (a : Nat) => loadOf [] (a : Int)) = 0 := by
      intro k; induction k with
      | nil => rfl
      | cons b k ih =>
        show (0 : Int) + sumL (k.map fun (a : Nat) => loadOf [] (a : Int)) = 0
        rw [ih]; rfl
    rw [this]; rfl
  | e :: r, h => by
    have he := h e (by simp)
    have ih := sum_load r (fun x hx => h x (by simp [hx]))
    have e0 : (List.range n).map (fun (a : Nat) => loadOf (e :: r) (a : Int)) = (List.range n).map fun (a : Nat) => (if e.1.1 = (a : Int) ∨ e.1.2 = (a : Int) then e.2 else 0) + loadOf r (a : Int) := rfl
    rw [e0, sum_add]
    have z : sumL ((List.range n).map fun (a : Nat) => (0 : Int)) = 0 := by
      generalize List.range n = k
      induction k with
      | nil => rfl
      | cons b k ih => simp only [List.map_cons, sumL, ih]; rfl
    have s1 := sum_upd (f := fun (a : Nat) => if e.1.1 = (a : Int) then e.2 else 0) (g := fun _ => 0) (i := e.1.1.toNat) (d := e.2) (List.range n) List.nodup_range (List.mem_range.2 (by omega)) (by intro a _ hne; rw [if_neg (by omega)]) (by rw [if_pos (by omega)]; omega)
    have s2 := sum_upd (f := fun (a : Nat) => if e.1.2 = (a : Int) then e.2 else 0) (g := fun _ => 0) (i := e.1.2.toNat) (d := e.2) (List.range n) List.nodup_range (List.mem_range.2 (by omega)) (by intro a _ hne; rw [if_neg (by omega)]) (by rw [if_pos (by omega)]; omega)
    have s3 : (List.range n).map (fun (a : Nat) => if e.1.1 = (a : Int) ∨ e.1.2 = (a : Int) then e.2 else 0) = (List.range n).map fun (a : Nat) => (if e.1.1 = (a : Int) then e.2 else 0) + (if e.1.2 = (a : Int) then e.2 else 0) := by
      apply List.map_congr_left
      intro a _
      by_cases h1 : e.1.1 = (a : Int)
      · rw [if_pos (.inl h1), if_pos h1, if_neg (by omega)]; omega
      · by_cases h2 : e.1.2 = (a : Int)
        · rw [if_pos (.inr h2), if_neg h1, if_pos h2]; omega
        · rw [if_neg (by simp [h1, h2]), if_neg h1, if_neg h2]; rfl
    rw [s3, sum_add, s1, s2, z, ih]
    simp only [List.map_cons, sumL]; omega
theorem find_spec {n : Nat} (hn : n ≤ 7) : ∀ (q : List (Int × Int)) (room : List Int) (left : Int), (∀ p ∈ q, 0 ≤ p.1 ∧ p.1 < p.2 ∧ p.2 < (n : Int)) → room.length = 7 → (∀ x ∈ room, 0 ≤ x ∧ x ≤ 2) →
    match findL n q room left with
    | some l => Fits q room left l ∧ ∀ l', Fits q room left l' → lexLt l' l = false
    | none => ∀ l', ¬ Fits q room left l'
  | [], room, left, _, hrl, hrb => by
    simp only [findL]
    have h0 : ∀ a : Nat, (0 : Int) ≤ room.getD a 0 := fun a => (getD_bd (B := 2) (by omega) hrb a).1
    by_cases h : left = 0
    · rw [if_pos h]
      refine ⟨⟨rfl, by simp, fun a => by simpa [loadOf] using h0 a, by simp [sumL, h]⟩, fun l' hl => ?_⟩
      have : l' = [] := List.eq_nil_of_length_eq_zero hl.1
      subst this; rfl
    · rw [if_neg h]
      rintro l' ⟨h1, _, _, h4⟩
      have : l' = [] := List.eq_nil_of_length_eq_zero h1
      subst this
      exact h (by simpa [sumL] using h4.symm)
  | p :: q, room, left, hps, hrl, hrb => by
    have hp := hps p (by simp)
    obtain ⟨u, w⟩ := p
    simp only at hp
    obtain ⟨u, rfl⟩ := Int.eq_ofNat_of_zero_le hp.1
    obtain ⟨w, rfl⟩ := Int.eq_ofNat_of_zero_le (show 0 ≤ w by omega)
    have huw : u < w := by omega
    have hw7 : w < 7 := by omega
    have bu := getD_bd (B := 2) (by omega) hrb u
    have bw := getD_bd (B := 2) (by omega) hrb w
    simp only [findL]
    by_cases pr : sumL (room.take n) < 2 * left
    · rw [if_pos pr]
      rintro l' ⟨h1, h2, h3, h4⟩
      have e1 := sum_load (n := n) ((((u : Int), (w : Int)) :: q).zip l') (fun e he => hps _ (List.of_mem_zip he).1)
      have e2 : ((((u : Int), (w : Int)) :: q).zip l').map (fun e => e.2) = l' := List.map_snd_zip (by omega)
      rw [e2, h4] at e1
      have e3 : room.take n = (List.range n).map fun a => room.getD a 0 := by
        rw [list_range (room.take n) n (by simp; omega)]
        apply List.map_congr_left
        intro a ha
        rw [List.getD_eq_getElem?_getD, List.getD_eq_getElem?_getD, List.getElem?_take, if_pos (List.mem_range.1 ha)]
      have e4 := sum_le2 (f := fun (a : Nat) => loadOf ((((u : Int), (w : Int)) :: q).zip l') (a : Int)) (g := fun a => room.getD a 0) (List.range n) (fun a _ => h3 a)
      rw [← e3, e1] at e4
      omega
    · rw [if_neg pr]
      have hsf := some_first (fun (x : Nat) => (findL n q (takeR room ((u : Int), (w : Int)) x) (left - x)).map ((x : Int) :: ·)) (mxR room ((u : Int), (w : Int)) left + 1) 0
      -- what may come first
      have hmx : ∀ (y : Int) (t : List Int), Fits (((u : Int), (w : Int)) :: q) room left (y :: t) → 0 ≤ y ∧ y.toNat < 0 + (mxR room ((u : Int), (w : Int)) left + 1) ∧ y ≤ room.getD u 0 ∧ y ≤ room.getD w 0 := by
        intro y t hf
        obtain ⟨h1, h2, h3, h4, h5⟩ := (fits_cons hrl huw hw7).1 hf
        have k1 := h4 u
        have k2 := h4 w
        rw [takeR_getD hrl huw hw7] at k1 k2
        rw [if_pos (.inl rfl)] at k1
        rw [if_pos (.inr rfl)] at k2
        have n1 := load_nonneg (u : Int) (q.zip t) (zip_snd h3)
        have n2 := load_nonneg (w : Int) (q.zip t) (zip_snd h3)
        have n3 := sum_nonneg t h3
        refine ⟨h1, ?_, by omega, by omega⟩
        unfold mxR
        simp only [Int.toNat_natCast]
        omega
      have hroom : ∀ x : Nat, (x : Int) ≤ room.getD u 0 → (x : Int) ≤ room.getD w 0 → (takeR room ((u : Int), (w : Int)) x).length = 7 ∧ ∀ y ∈ takeR room ((u : Int), (w : Int)) x, 0 ≤ y ∧ y ≤ 2 := by
        intro x hx1 hx2
        refine ⟨by unfold takeR; simp [hrl], fun y hy => ?_⟩
        unfold takeR at hy
        simp only [Int.toNat_natCast] at hy
        rcases List.mem_or_eq_of_mem_set hy with hy | rfl
        · rcases List.mem_or_eq_of_mem_set hy with hy | rfl
          · exact hrb y hy
          · omega
        · omega
      have hmle : ∀ x : Nat, x < 0 + (mxR room ((u : Int), (w : Int)) left + 1) → 0 ≤ left → (x : Int) ≤ room.getD u 0 ∧ (x : Int) ≤ room.getD w 0 := by
        intro x hx hl
        unfold mxR at hx
        simp only [Int.toNat_natCast] at hx
        omega
      cases hres : (List.range' 0 (mxR room ((u : Int), (w : Int)) left + 1)).findSome? (fun (x : Nat) => (findL n q (takeR room ((u : Int), (w : Int)) x) (left - x)).map ((x : Int) :: ·)) with
      | some r =>
        rw [hres] at hsf
        obtain ⟨x, _, a2, a3, a4⟩ := hsf
        simp only [Option.map_eq_some_iff] at a3
        obtain ⟨l, hl, rfl⟩ := a3
        by_cases hl0 : 0 ≤ left
        · obtain ⟨m1, m2⟩ := hmle x a2 hl0
          obtain ⟨r1, r2⟩ := hroom x m1 m2
          have ih := find_spec hn q (takeR room ((u : Int), (w : Int)) x) (left - x) (fun p hp => hps p (by simp [hp])) r1 r2
          rw [hl] at ih
          refine ⟨(fits_cons hrl huw hw7).2 ⟨by omega, ih.1⟩, fun l' hf => ?_⟩
          cases l' with
          | nil => have := hf.1; simp at this
          | cons y t =>
            obtain ⟨y0, y1, y2, y3⟩ := hmx y t hf
            obtain ⟨_, hft⟩ := (fits_cons hrl huw hw7).1 hf
            obtain ⟨y, rfl⟩ := Int.eq_ofNat_of_zero_le y0
            by_cases c1 : y < x
            · have h5 := a4 y (by omega) c1
              simp only [Option.map_eq_none_iff] at h5
              obtain ⟨s1, s2⟩ := hroom y y2 y3
              have ih2 := find_spec hn q (takeR room ((u : Int), (w : Int)) y) (left - y) (fun p hp => hps p (by simp [hp])) s1 s2
              rw [h5] at ih2
              exact absurd hft (ih2 t)
            · by_cases c2 : y = x
              · subst c2
                have := ih.2 t hft
                simp [lexLt, this]
              · have d1 : ¬ ((y : Int) < (x : Int)) := by omega
                have d2 : ¬ ((y : Int) = (x : Int)) := by omega
                simp [lexLt, d1, d2]
        · exfalso
          -- nothing is worth less than nothing
          have x0 : x = 0 := by
            unfold mxR at a2; simp only [Int.toNat_natCast] at a2; omega
          subst x0
          obtain ⟨r1, r2⟩ := hroom 0 (by omega) (by omega)
          have ih := find_spec hn q (takeR room ((u : Int), (w : Int)) ((0 : Nat) : Int)) (left - ((0 : Nat) : Int)) (fun p hp => hps p (by simp [hp])) r1 r2
          rw [hl] at ih
          obtain ⟨_, i2, _, i4⟩ := ih.1
          have := sum_nonneg l i2
          omega
      | none =>
        rw [hres] at hsf
        intro l' hf
        cases l' with
        | nil => have := hf.1; simp at this
        | cons y t =>
          obtain ⟨y0, y1, y2, y3⟩ := hmx y t hf
          obtain ⟨_, hft⟩ := (fits_cons hrl huw hw7).1 hf
          obtain ⟨y, rfl⟩ := Int.eq_ofNat_of_zero_le y0
          have h5 := hsf y (by omega) (by omega)
          simp only [Option.map_eq_none_iff] at h5
          obtain ⟨s1, s2⟩ := hroom y y2 y3
          have ih2 := find_spec hn q (takeR room ((u : Int), (w : Int)) y) (left - y) (fun p hp => hps p (by simp [hp])) s1 s2
          rw [h5] at ih2
          exact ih2 t hft
theorem find_shares {n : Nat} {ps : List (Int × Int)} (hn1 : 1 ≤ n) (hn : n ≤ 7) (hps : ∀ p ∈ ps, 0 ≤ p.1 ∧ p.1 < p.2 ∧ p.2 < (n : Int)) (h7 : ∀ p ∈ ps, okP p) (hnd : ps.Nodup) : findL n ps (List.replicate 7 2) (sumL (halvesV n ps)) = some (sharesR n ps) := by
  have hw := shares_worth hn1 hn hps h7 hnd
  obtain ⟨h1, h2⟩ := sharesR_in (n := n) (ps := ps)
  have hrep : ∀ a : Nat, (List.replicate 7 (2 : Int)).getD a 0 = if a < 7 then 2 else 0 := by
    intro a; rw [List.getD_eq_getElem?_getD, List.getElem?_replicate]; split <;> simp
  have hiff : ∀ l, Fits ps (List.replicate 7 2) (sumL (halvesV n ps)) l ↔ l ∈ shF n ps ps.length [] ∧ sumL l = sumL (halvesV n ps) := by
    intro l
    rw [mem_shF ps.length [] l (by simp)]
    constructor
    · rintro ⟨a1, a2, a3, a4⟩
      refine ⟨⟨l, rfl, a1, fun x hx => ⟨a2 x hx, ?_⟩, .inr ?_⟩, a4⟩
      · -- no share is more than 2
        obtain ⟨i, hi, rfl⟩ := List.getElem_of_mem hx
        have hip : i < ps.length := by omega
        have hpi := hps ps[i] (List.getElem_mem hip)
        have h3 := a3 ps[i].1.toNat
        rw [hrep, if_pos (by omega)] at h3
        have hmem : (ps[i], l[i]) ∈ ps.zip l := by
          have : (ps.zip l)[i]'(by rw [List.length_zip]; omega) = (ps[i], l[i]) := by simp
          rw [← this]; exact List.getElem_mem _
        have : ∀ (z : List ((Int × Int) × Int)) (e : (Int × Int) × Int), e ∈ z → (∀ e ∈ z, 0 ≤ e.2) → e.2 ≤ loadOf z e.1.1 := by
          intro z
          induction z with
          | nil => intro e he _; simp at he
          | cons c z ih =>
            intro e he hz
            have hc := hz c (by simp)
            have hz2 := load_nonneg e.1.1 z (fun x hx => hz x (by simp [hx]))
            simp only [loadOf]
            rcases List.mem_cons.1 he with rfl | he
            · rw [if_pos (.inl rfl)]; omega
            · have := ih e he (fun x hx => hz x (by simp [hx]))
              split <;> omega
        have h4 := this _ _ hmem (zip_snd a2)
        have e5 : ((ps[i].1.toNat : Nat) : Int) = ps[i].1 := by omega
        rw [e5] at h3
        simp only at h4; omega
      · cases ho : overFrom (ps.zip l) n 0
        · rfl
        · obtain ⟨a, ha, h5⟩ := (over_iff _).1 ho
          have := a3 a
          rw [hrep, if_pos (by omega)] at this
          omega
    · rintro ⟨⟨t, e, a1, a2, a3⟩, a4⟩
      rw [List.nil_append] at e; subst e
      refine ⟨a1, fun x hx => (a2 x hx).1, fun a => ?_, a4⟩
      rw [hrep]
      by_cases ha : a < n
      · rw [if_pos (by omega)]
        rcases a3 with a3 | a3
        · have : ps = [] := List.eq_nil_of_length_eq_zero a3
          subst this; simp [loadOf]
        · by_cases h5 : 2 < loadOf (ps.zip l) (a : Int)
          · have := (over_iff (n := n) (ps.zip l)).2 ⟨a, ha, h5⟩
            rw [a3] at this; simp at this
          · omega
      · rw [load_out _ a (by omega) (zip_ok hps l)]; split <;> omega
  have hs := find_spec hn ps (List.replicate 7 2) (sumL (halvesV n ps)) hps (by simp) (by intro x hx; rw [List.mem_replicate] at hx; omega)
  have hfit : Fits ps (List.replicate 7 2) (sumL (halvesV n ps)) (sharesR n ps) := (hiff _).2 ⟨h1, hw⟩
  cases hf : findL n ps (List.replicate 7 2) (sumL (halvesV n ps)) with
  | none => rw [hf] at hs; exact absurd hfit (hs _)
  | some l =>
    rw [hf] at hs
    obtain ⟨k1, k2⟩ := (hiff l).1 hs.1
    have g1 := hs.2 _ hfit
    have g2 := (h2 l k1).2 (by omega)
    rw [lex_total _ _ g2 g1]


theorem group_take : ∀ (o : List Int) (cs : List AV), cs.take o.length = o.map I → group false 1 o.length (pubs cs) = o.map I
  | [], _, _ => rfl
  | x :: o, [], h => by simp at h
  | x :: o, c :: cs, h => by
    simp only [List.length_cons, List.take_succ_cons, List.map_cons, List.cons.injEq] at h
    obtain ⟨rfl, h⟩ := h
    have ih := group_take o cs h
    simp only [List.length_cons, group, pubs, List.map_cons, pub]
    simp [ih, cell1]
theorem frz_out {J : List (List AV)} {o : List Int} {v : AV} (h : Rep J o v) (B0 : List AV) (room : List Int) (env : Env) (he : env.get 6 = .ptr 1 0) :
    ∃ (env' : Env) (st' : St) (nl : Bool), frzAV [6] env (S4 B0 v room J) = (env', st') ∧ env'.get 6 = .ptr 1 0 ∧ st'.store[1]? = some [sl 1 nl (o.map I)] := by
  rcases h with ⟨rfl, rfl⟩ | ⟨l, c, cs, rfl, h1, h2, h3, h4, h5⟩
  · refine ⟨env, S4 B0 (.v (.slice none 0 0)) room J, true, ?_, he, rfl⟩
    simp only [frzAV, frzT, he]
    rfl
  · cases cs with
    | nil => simp at h4; omega
    | cons c0 cs =>
      have hg : (S4 B0 (.rsl (l + 4) 0 o.length c 1 false) room J).store[l + 4]? = some (c0 :: cs) := h1
      refine ⟨frzEnv (l + 4) (c0 :: cs) env, ⟨(frzStore (l + 4) (c0 :: cs) (S4 B0 (.rsl (l + 4) 0 o.length c 1 false) room J).store).set (l + 4) [], []⟩, false, ?_, ?_, ?_⟩
      · have e1 : frzT 6 env (S4 B0 (.rsl (l + 4) 0 o.length c 1 false) room J) = [l + 4] := by
          simp only [frzT, he]; rfl
        simp only [frzAV, e1, frzLs, frzL, hg]
      · rw [frzEnv_get, he]; rfl
      · have e2 : (frzStore (l + 4) (c0 :: cs) (S4 B0 (.rsl (l + 4) 0 o.length c 1 false) room J).store)[1]? = some [frzV (l + 4) (c0 :: cs) (.rsl (l + 4) 0 o.length c 1 false)] := rfl
        rw [List.getElem?_set_ne (by omega), e2]
        have e3 : frzV (l + 4) (c0 :: cs) (.rsl (l + 4) 0 o.length c 1 false) = .lst .any 1 (o.map I) := by
          simp only [frzV]
          rw [if_pos ⟨trivial, by omega, .inr trivial, h3⟩, List.drop_zero, group_take o _ h2]
        rw [e3, sl_false]

theorem loop87_0 (nl : Bool) (n : Int) (ps : List (Int × Int)) (l : List Int) (hlen : l.length < 1000) (hb : ∀ x ∈ l, 0 ≤ x ∧ x ≤ 2) (i : Nat) (acc : Int) (hok : i ≤ l.length ∧ 0 ≤ acc ∧ acc ≤ 2 * i) (env : Env) (st : St)
    (hg : gcAV true 1 0 (canon env [1, 3, 11, 12, 13]) st = ([(1, .ptr 0 0), (3, I acc), (11, sl 1 true (l.map I)), (12, I l.length), (13, I i)], ⟨[bkCells nl n ps], []⟩)) :
    ∃ x_1 en s, lim (headed pure (run L) true [1, 3, 11, 12, 13] lp87_0 1 0) env st = some (x_1, en, s) ∧ (x_1 = .exit 0 ∧ en.get 1 = .ptr 0 0 ∧ en.get 3 = I (acc + sumL (l.drop i)) ∧ s = ⟨[bkCells nl n ps], []⟩) := by
  refine loop_wp (α := Nat × Int) (fun ⟨i, acc⟩ => l.length - i) (fun ⟨i, acc⟩ => i ≤ l.length ∧ 0 ≤ acc ∧ acc ≤ 2 * i) (fun ⟨i, acc⟩ => ([(1, .ptr 0 0), (3, I acc), (11, sl 1 true (l.map I)), (12, I l.length), (13, I i)], ⟨[bkCells nl n ps], []⟩)) (fun ⟨i, acc⟩ x_1 en s => x_1 = .exit 0 ∧ en.get 1 = .ptr 0 0 ∧ en.get 3 = I (acc + sumL (l.drop i)) ∧ s = ⟨[bkCells nl n ps], []⟩) (fun ⟨i, acc⟩ hok => ?_) ⟨i, acc⟩ hok env st hg
  simp only at hok
  obtain ⟨h1, h2, h3⟩ := hok
  dsimp only
  by_cases h : i < l.length
  · have hx := index_ints true l i h
    have hs := succ64 i (by omega)
    have hd : l.drop i = l[i] :: l.drop (i + 1) := List.drop_eq_getElem_cons h
    have hlt : ((i : Int) < (l.length : Int)) = True := eq_true (by omega)
    have hbi := hb l[i] (List.getElem_mem h)
    rw [hd]
    generalize l[i] = a at *
    have hw : IntKind.i64.wrap (acc + a) = acc + a := by rw [wrap64] <;> omega
    simp only [go_sem, reduceIte, Nat.reduceEqDiff, Nat.reduceAdd, Nat.reduceSub, Nat.reduceLeDiff, Nat.reduceLT, reduceCtorEq, Int.reduceLT, Int.reduceLE, Int.reduceEq, Int.reduceBEq, Int.reduceSub, Int.reduceAdd, Int.reduceMul, Int.reduceNeg, Int.reduceToNat, Nat.reduceMul, Nat.reduceBEq, index_rsl_if, setm, make_ints, condK_dec, wantK_dec, not_dec, and_dec, or_dec, seqK_ite, seqK_none, blockK_ite, blockK_none, opsK_ite, opsK_none, stepK_ite, stepK_none, bodyK_ite, bodyK_none, resK_ite, resK_none, leaveK_ite, leaveK_none, only_ite, only_none, bind_ite, gives_some, gives_none, gives_ite, then_normal, then_ret, then_exit, then_none, then_ite, Option.bind_none, Bool.not_eq_true', decide_eq_false_iff_not, Bool.and_eq_true, Bool.or_eq_true, Option.some.injEq, Int.not_lt, Int.not_le, lp87_0, hx, hlt, hs, hw]
    refine ⟨(i + 1, acc + a), by simp only [go_sem, reduceIte, Nat.reduceEqDiff, Nat.reduceAdd, Nat.reduceSub, Nat.reduceLeDiff, Nat.reduceLT, reduceCtorEq, Int.reduceLT, Int.reduceLE, Int.reduceEq, Int.reduceBEq, Int.reduceSub, Int.reduceAdd, Int.reduceMul, Int.reduceNeg, Int.reduceToNat, Nat.reduceMul, Nat.reduceBEq, ren1_locm, loc_tips, locT_eq] <;> rfl, ?_, ?_, fun x en s hq => ?_⟩
    · dsimp only; exact ⟨by omega, by omega, by omega⟩
    · simp only; omega
    · simp only [sumL]; rw [← Int.add_assoc]; exact hq
  · have hd : l.drop i = [] := List.drop_eq_nil_of_le (by omega)
    have hlt : ((i : Int) < (l.length : Int)) = False := eq_false (by omega)
    simp only [go_sem, reduceIte, Nat.reduceEqDiff, Nat.reduceAdd, Nat.reduceSub, Nat.reduceLeDiff, Nat.reduceLT, reduceCtorEq, Int.reduceLT, Int.reduceLE, Int.reduceEq, Int.reduceBEq, Int.reduceSub, Int.reduceAdd, Int.reduceMul, Int.reduceNeg, Int.reduceToNat, Nat.reduceMul, Nat.reduceBEq, index_rsl_if, setm, make_ints, condK_dec, wantK_dec, not_dec, and_dec, or_dec, seqK_ite, seqK_none, blockK_ite, blockK_none, opsK_ite, opsK_none, stepK_ite, stepK_none, bodyK_ite, bodyK_none, resK_ite, resK_none, leaveK_ite, leaveK_none, only_ite, only_none, bind_ite, gives_some, gives_none, gives_ite, then_normal, then_ret, then_exit, then_none, then_ite, Option.bind_none, Bool.not_eq_true', decide_eq_false_iff_not, Bool.and_eq_true, Bool.or_eq_true, Option.some.injEq, Int.not_lt, Int.not_le, lp87_0, hlt]
    rw [hd]; simp [sumL]

def roomTo (a : Nat) : List Int := List.replicate a 2 ++ List.replicate (7 - a) 0
theorem roomTo_set (a : Nat) (h : a < 7) : (roomTo a).set a 2 = roomTo (a + 1) := by
  unfold roomTo
  rw [List.set_append, if_neg (by simp), List.length_replicate, Nat.sub_self, show 7 - a = (7 - (a + 1)) + 1 by omega, List.replicate_succ, List.set_cons_zero]
  rw [show List.replicate (a + 1) (2 : Int) = List.replicate a 2 ++ [2] from List.replicate_succ']
  simp
theorem loop87_1 (nl : Bool) (n : Int) (ps : List (Int × Int)) (goal : Int) (a : Nat) (hok : a ≤ 7) (env : Env) (st : St)
    (hg : gcAV true 3 0 (canon env [1, 3, 6, 7, 21]) st = ([(1, .ptr 0 0), (3, I goal), (6, .ptr 1 0), (7, .ptr 2 0), (21, I a)], ⟨[bkCells nl n ps, [.v (.slice none 0 0)], (roomTo a).map I], []⟩)) :
    ∃ x_1 en s, lim (headed pure (run L) true [1, 3, 6, 7, 21] lp87_1 3 0) env st = some (x_1, en, s) ∧ (x_1 = .exit 2 ∧ en.get 1 = .ptr 0 0 ∧ en.get 3 = I goal ∧ en.get 6 = .ptr 1 0 ∧ en.get 7 = .ptr 2 0 ∧ s = ⟨[bkCells nl n ps, [.v (.slice none 0 0)], (List.replicate 7 2).map I], []⟩) := by
  refine loop_wp (α := Nat) (fun a => 7 - a) (fun a => a ≤ 7) (fun a => ([(1, .ptr 0 0), (3, I goal), (6, .ptr 1 0), (7, .ptr 2 0), (21, I a)], ⟨[bkCells nl n ps, [.v (.slice none 0 0)], (roomTo a).map I], []⟩)) (fun a x_1 en s => x_1 = .exit 2 ∧ en.get 1 = .ptr 0 0 ∧ en.get 3 = I goal ∧ en.get 6 = .ptr 1 0 ∧ en.get 7 = .ptr 2 0 ∧ s = ⟨[bkCells nl n ps, [.v (.slice none 0 0)], (List.replicate 7 2).map I], []⟩) (fun a hok => ?_) a hok env st hg
  by_cases h : a < 7
  · have hs := succ64 a (by omega)
    have hlt : ((a : Int) < 7) = True := eq_true (by omega)
    have ha0 : ((0 : Int) ≤ (a : Int)) = True := eq_true (by omega)
    have hl : (roomTo a).length = 7 := by unfold roomTo; simp; omega
    have hset := roomTo_set a h
    have hb : (a + 1 ≤ 7) = True := eq_true (by omega)
    have hsm : ((roomTo a).map I).set a (.v (.int .i64 2)) = (roomTo (a + 1)).map I := by rw [← hset, List.map_set]
    simp only [go_sem, reduceIte, Nat.reduceEqDiff, Nat.reduceAdd, Nat.reduceSub, Nat.reduceLeDiff, Nat.reduceLT, reduceCtorEq, Int.reduceLT, Int.reduceLE, Int.reduceEq, Int.reduceBEq, Int.reduceSub, Int.reduceAdd, Int.reduceMul, Int.reduceNeg, Int.reduceToNat, Nat.reduceMul, Nat.reduceBEq, index_rsl_if, setm, make_ints, condK_dec, wantK_dec, not_dec, and_dec, or_dec, seqK_ite, seqK_none, blockK_ite, blockK_none, opsK_ite, opsK_none, stepK_ite, stepK_none, bodyK_ite, bodyK_none, resK_ite, resK_none, leaveK_ite, leaveK_none, only_ite, only_none, bind_ite, gives_some, gives_none, gives_ite, then_normal, then_ret, then_exit, then_none, then_ite, Option.bind_none, Bool.not_eq_true', decide_eq_false_iff_not, Bool.and_eq_true, Bool.or_eq_true, Option.some.injEq, Int.not_lt, Int.not_le, lp87_1, hlt, ha0, hs, hl, hb, hsm, List.length_map]
    refine ⟨a + 1, by simp only [go_sem, reduceIte, Nat.reduceEqDiff, Nat.reduceAdd, Nat.reduceSub, Nat.reduceLeDiff, Nat.reduceLT, reduceCtorEq, Int.reduceLT, Int.reduceLE, Int.reduceEq, Int.reduceBEq, Int.reduceSub, Int.reduceAdd, Int.reduceMul, Int.reduceNeg, Int.reduceToNat, Nat.reduceMul, Nat.reduceBEq, ren1_locm, loc_tips, locT_eq] <;> rfl, ?_, ?_, fun x en s hq => ?_⟩
    · omega
    · omega
    · exact hq
  · obtain rfl : a = 7 := by omega
    simp only [go_sem, reduceIte, Nat.reduceEqDiff, Nat.reduceAdd, Nat.reduceSub, Nat.reduceLeDiff, Nat.reduceLT, reduceCtorEq, Int.reduceLT, Int.reduceLE, Int.reduceEq, Int.reduceBEq, Int.reduceSub, Int.reduceAdd, Int.reduceMul, Int.reduceNeg, Int.reduceToNat, Nat.reduceMul, Nat.reduceBEq, index_rsl_if, setm, make_ints, condK_dec, wantK_dec, not_dec, and_dec, or_dec, seqK_ite, seqK_none, blockK_ite, blockK_none, opsK_ite, opsK_none, stepK_ite, stepK_none, bodyK_ite, bodyK_none, resK_ite, resK_none, leaveK_ite, leaveK_none, only_ite, only_none, bind_ite, gives_some, gives_none, gives_ite, then_normal, then_ret, then_exit, then_none, then_ite, Option.bind_none, Bool.not_eq_true', decide_eq_false_iff_not, Bool.and_eq_true, Bool.or_eq_true, Option.some.injEq, Int.not_lt, Int.not_le, lp87_1, show (((7 : Nat) : Int) < 7) = False from eq_false (by omega)]
    rfl

theorem c87 (nl : Bool) (n : Nat) (hn1 : 1 ≤ n) (hn : n ≤ 7) (ps : List (Int × Int)) (hlen : ps.length ≤ 10) (hps : ∀ p ∈ ps, 0 ≤ p.1 ∧ p.1 < p.2 ∧ p.2 < (n : Int)) (h7 : ∀ p ∈ ps, okP p) (hnd : ps.Nodup) :
    ∃ n2 : Bool, ∀ st, run L 87 [bkAV nl n ps] st = some (sl 1 n2 ((sharesR n ps).map I), st) := by
  have h81 := fun st => c81 nl n hn1 hn ps (by omega) hps h7 st
  obtain ⟨hvl, hvb, _⟩ := halvesV_ok hn1 hn hps h7
  obtain ⟨c0, c1⟩ := half_le hn1 hn hps h7
  have hfs := find_shares hn1 hn hps h7 hnd
  obtain ⟨b, room', v', J', hrun, hF, hm⟩ := does nl n hn ps hlen hps ps.length 0 (by omega) (List.replicate 7 2) (by simp) (by intro x hx; rw [List.mem_replicate] at hx; omega) (sumL (halvesV n ps)) c0 (by omega) [] (by simp) (.v (.slice none 0 0)) [] (.inl ⟨rfl, rfl⟩)
  rw [List.drop_zero, hfs] at hm
  obtain ⟨rfl, hR, _⟩ := hm
  rw [List.nil_append] at hR
  have main : ∃ n2 : Bool, run L 87 [bkAV nl n ps] ⟨[], []⟩ = some (sl 1 n2 ((sharesR n ps).map I), ⟨[], []⟩) := by
    rw [run_pure (fn := ir87) rfl rfl]
    have hw := fun (acc : Int) => acc
    simp only [ir87, go_sem, reduceIte, Nat.reduceEqDiff, Nat.reduceAdd, Nat.reduceSub, Nat.reduceLeDiff, Nat.reduceLT, reduceCtorEq, Int.reduceLT, Int.reduceLE, Int.reduceEq, Int.reduceBEq, Int.reduceSub, Int.reduceAdd, Int.reduceMul, Int.reduceNeg, Int.reduceToNat, Nat.reduceMul, Nat.reduceBEq, h81, List.length_map]
    generalize hg : lim (headed pure (run L) true _ lp87_0 _ _) _ _ = o
    obtain ⟨x, en, s, rfl, h2⟩ : ∃ x en s, o = some (x, en, s) ∧ _ := by rw [← hg]; exact loop87_0 nl n ps (halvesV n ps) (by omega) hvb 0 0 ⟨by omega, by omega, by omega⟩ _ _ (by simp only [go_sem, reduceIte, Nat.reduceEqDiff, Nat.reduceAdd, Nat.reduceSub, Nat.reduceLeDiff, Nat.reduceLT, reduceCtorEq, Int.reduceLT, Int.reduceLE, Int.reduceEq, Int.reduceBEq, Int.reduceSub, Int.reduceAdd, Int.reduceMul, Int.reduceNeg, Int.reduceToNat, Nat.reduceMul, Nat.reduceBEq, Int.natCast_zero] <;> rfl)
    clear hg
    obtain ⟨rfl, e1, e3, rfl⟩ := h2
    rw [List.drop_zero, Int.zero_add] at e3
    simp only [go_sem, reduceIte, Nat.reduceEqDiff, Nat.reduceAdd, Nat.reduceSub, Nat.reduceLeDiff, Nat.reduceLT, reduceCtorEq, Int.reduceLT, Int.reduceLE, Int.reduceEq, Int.reduceBEq, Int.reduceSub, Int.reduceAdd, Int.reduceMul, Int.reduceNeg, Int.reduceToNat, Nat.reduceMul, Nat.reduceBEq, e1, e3]
    generalize hg : lim (headed pure (run L) true _ lp87_1 _ _) _ _ = o
    obtain ⟨x, en, s, rfl, h2⟩ : ∃ x en s, o = some (x, en, s) ∧ _ := by rw [← hg]; exact loop87_1 nl n ps (sumL (halvesV n ps)) 0 (by omega) _ _ (by simp only [go_sem, reduceIte, Nat.reduceEqDiff, Nat.reduceAdd, Nat.reduceSub, Nat.reduceLeDiff, Nat.reduceLT, reduceCtorEq, Int.reduceLT, Int.reduceLE, Int.reduceEq, Int.reduceBEq, Int.reduceSub, Int.reduceAdd, Int.reduceMul, Int.reduceNeg, Int.reduceToNat, Nat.reduceMul, Nat.reduceBEq, e1, e3, roomTo, Nat.sub_zero, List.map_append, List.map_replicate, Int.natCast_zero] <;> rfl)
    clear hg
    obtain ⟨rfl, f1, f3, f6, f7, rfl⟩ := h2
    have hrun2 : run L 112 [.v (.int .i64 0), I (sumL (halvesV n ps)), .ptr 0 0, .ptr 2 0, .ptr 1 0, .ptr 3 0] ⟨[bkCells nl n ps, [.v (.slice none 0 0)], [I 2, I 2, I 2, I 2, I 2, I 2, I 2], [fnPut]], []⟩ = some (B true, S4 (bkCells nl n ps) v' room' J') := hrun
    simp only [go_sem, reduceIte, Nat.reduceEqDiff, Nat.reduceAdd, Nat.reduceSub, Nat.reduceLeDiff, Nat.reduceLT, reduceCtorEq, Int.reduceLT, Int.reduceLE, Int.reduceEq, Int.reduceBEq, Int.reduceSub, Int.reduceAdd, Int.reduceMul, Int.reduceNeg, Int.reduceToNat, Nat.reduceMul, Nat.reduceBEq, f1, f3, f6, f7, show pure 112 = false from rfl, hrun2, code_frz]
    generalize hE : frzAV [6] _ _ = fz
    obtain ⟨env', st', n2, rfl, g6, gst⟩ : ∃ (env' : Env) (st' : St) (n2 : Bool), fz = (env', st') ∧ env'.get 6 = .ptr 1 0 ∧ st'.store[1]? = some [sl 1 n2 ((sharesR n ps).map I)] := by
      rw [← hE]; exact frz_out hR _ _ _ (by simp only [go_sem, reduceIte, Nat.reduceEqDiff, Nat.reduceAdd, Nat.reduceSub, Nat.reduceLeDiff, Nat.reduceLT, reduceCtorEq, Int.reduceLT, Int.reduceLE, Int.reduceEq, Int.reduceBEq, Int.reduceSub, Int.reduceAdd, Int.reduceMul, Int.reduceNeg, Int.reduceToNat, Nat.reduceMul, Nat.reduceBEq, f6])
    exact ⟨n2, by simp only [go_sem, reduceIte, Nat.reduceEqDiff, Nat.reduceAdd, Nat.reduceSub, Nat.reduceLeDiff, Nat.reduceLT, reduceCtorEq, Int.reduceLT, Int.reduceLE, Int.reduceEq, Int.reduceBEq, Int.reduceSub, Int.reduceAdd, Int.reduceMul, Int.reduceNeg, Int.reduceToNat, Nat.reduceMul, Nat.reduceBEq, g6, gst]⟩
  obtain ⟨n2, h⟩ := main
  exact ⟨n2, fun st => run_any' (fn := ir87) rfl rfl h st⟩


/-! ### the law's search finds the reference's shares -/
theorem prsErr_nodup {n : Int} : ∀ {ps seen : List (Int × Int)}, prsErr n seen ps = 0 → (∀ p ∈ ps, p ∉ seen) ∧ ps.Nodup
  | [], _, _ => by simp
  | a :: r, seen, h => by
    simp only [prsErr] at h
    split at h
    · next h0 =>
      obtain ⟨h1, h2⟩ := prsErr_nodup h
      have ha : a ∉ seen := by
        unfold prErr at h0
        split at h0
        · simp at h0
        · split at h0
          · simp at h0
          · split at h0
            · simp at h0
            · assumption
      refine ⟨fun p hp => ?_, List.nodup_cons.2 ⟨fun hr => h1 a hr (by simp), h2⟩⟩
      rcases List.mem_cons.1 hp with rfl | hp
      · exact ha
      · exact fun hs => h1 p hp (by simp [hs])
    · next h0 => exact absurd h h0
theorem chk_nodup {n : Int} {ps : List (Int × Int)} (h : chk n ps = 0) : ps.Nodup := by
  unfold chk at h
  split at h
  · simp at h
  · split at h
    · simp at h
    · exact (prsErr_nodup h).2


theorem c35 (nl : Bool) (n : Int) (ps : List (Int × Int)) : ∃ n2 : Bool, ∀ st, run L 35 [bkAV nl n ps] st = some (.tup [sl 1 n2 ((shv n ps).1.map I), I (shv n ps).2], st) := by
  have h22 := fun st => c22 nl n ps st
  by_cases h : chk n ps = 0
  · obtain ⟨h1, h2, h3, h4, h5⟩ := chk_zero h
    obtain ⟨k, rfl⟩ := Int.eq_ofNat_of_zero_le (show 0 ≤ n by omega)
    obtain ⟨n2, h87⟩ := c87 nl k (by omega) (by omega) ps h3 h4 h5 (chk_nodup h)
    refine ⟨n2, fun st => ?_⟩
    rw [run_pure (fn := ir35) rfl rfl]
    unfold shv
    rw [if_pos h]
    simp only [Int.toNat_natCast]
    simp only [ir35, go_sem, reduceIte, Nat.reduceEqDiff, Nat.reduceAdd, Nat.reduceSub, Nat.reduceLeDiff, Nat.reduceLT, reduceCtorEq, Int.reduceLT, Int.reduceLE, Int.reduceEq, Int.reduceBEq, Int.reduceSub, Int.reduceAdd, Int.reduceMul, Int.reduceNeg, Int.reduceToNat, Nat.reduceMul, Nat.reduceBEq, h22, h, h87]
  · refine ⟨true, fun st => ?_⟩
    rw [run_pure (fn := ir35) rfl rfl]
    unfold shv
    rw [if_neg h]
    simp only [ir35, go_sem, reduceIte, Nat.reduceEqDiff, Nat.reduceAdd, Nat.reduceSub, Nat.reduceLeDiff, Nat.reduceLT, reduceCtorEq, Int.reduceLT, Int.reduceLE, Int.reduceEq, Int.reduceBEq, Int.reduceSub, Int.reduceAdd, Int.reduceMul, Int.reduceNeg, Int.reduceToNat, Nat.reduceMul, Nat.reduceBEq, h22, h]
    rfl


/-! ### what two articles share -/
def sh (W : List ((Int × Int) × Int)) (a b : Nat) : Int := sumL (W.map fun e => if (e.1.1 = (a : Int) ∧ e.1.2 = (b : Int)) ∨ (e.1.1 = (b : Int) ∧ e.1.2 = (a : Int)) then e.2 else 0)
theorem sh_symm (W : List ((Int × Int) × Int)) (a b : Nat) : sh W a b = sh W b a := by
  unfold sh
  congr 1
  apply List.map_congr_left
  intro e _
  have : ((e.1.1 = (a : Int) ∧ e.1.2 = (b : Int)) ∨ (e.1.1 = (b : Int) ∧ e.1.2 = (a : Int))) ↔ ((e.1.1 = (b : Int) ∧ e.1.2 = (a : Int)) ∨ (e.1.1 = (a : Int) ∧ e.1.2 = (b : Int))) := Or.comm
  simp only [this]
theorem load_eq (a : Int) : ∀ W : List ((Int × Int) × Int), loadOf W a = sumL (W.map fun e => if e.1.1 = a ∨ e.1.2 = a then e.2 else 0)
  | [] => rfl
  | e :: W => by simp only [loadOf, List.map_cons, sumL, load_eq a W]
/-- Pairs as they are in a book. -/
def OkW (n : Nat) (W : List ((Int × Int) × Int)) : Prop := ∀ e ∈ W, 0 ≤ e.1.1 ∧ e.1.1 < e.1.2 ∧ e.1.2 < (n : Int)
theorem load_sh {n : Nat} {W : List ((Int × Int) × Int)} (hW : OkW n W) (a : Nat) : loadOf W (a : Int) = sumL ((List.range n).map fun b => sh W a b) := by
  rw [load_eq]
  unfold sh
  rw [← sum_swap]
  congr 1
  apply List.map_congr_left
  intro e he
  have hb := hW e he
  have z : sumL ((List.range n).map fun (_ : Nat) => (0 : Int)) = 0 := by
    generalize List.range n = k
    induction k with
    | nil => rfl
    | cons b k ih => simp only [List.map_cons, sumL, ih]; rfl
  by_cases h1 : e.1.1 = (a : Int)
  · rw [if_pos (.inl h1)]
    have := sum_upd (f := fun (b : Nat) => if (e.1.1 = (a : Int) ∧ e.1.2 = (b : Int)) ∨ (e.1.1 = (b : Int) ∧ e.1.2 = (a : Int)) then e.2 else 0) (g := fun _ => 0) (i := e.1.2.toNat) (d := e.2) (List.range n) List.nodup_range (List.mem_range.2 (by omega)) (by intro b _ hne; rw [if_neg (by omega)]) (by rw [if_pos (by omega)]; omega)
    rw [this, z]; omega
  · by_cases h2 : e.1.2 = (a : Int)
    · rw [if_pos (.inr h2)]
      have := sum_upd (f := fun (b : Nat) => if (e.1.1 = (a : Int) ∧ e.1.2 = (b : Int)) ∨ (e.1.1 = (b : Int) ∧ e.1.2 = (a : Int)) then e.2 else 0) (g := fun _ => 0) (i := e.1.1.toNat) (d := e.2) (List.range n) List.nodup_range (List.mem_range.2 (by omega)) (by intro b _ hne; rw [if_neg (by omega)]) (by rw [if_pos (by omega)]; omega)
      rw [this, z]; omega
    · rw [if_neg (by simp [h1, h2])]
      have : (List.range n).map (fun (b : Nat) => if (e.1.1 = (a : Int) ∧ e.1.2 = (b : Int)) ∨ (e.1.1 = (b : Int) ∧ e.1.2 = (a : Int)) then e.2 else 0) = (List.range n).map fun _ => 0 := by
        apply List.map_congr_left; intro b _; rw [if_neg (by omega)]
      rw [this, z]
theorem sum_zero {α : Type} {f : α → Int} : ∀ l : List α, (∀ a ∈ l, f a = 0) → sumL (l.map f) = 0
  | [], _ => rfl
  | a :: l, h => by
    simp only [List.map_cons, sumL, h a (by simp), sum_zero l (fun x hx => h x (by simp [hx]))]; rfl
/-- In books no pair comes twice: what two share is the share of their pair. -/
theorem sh_pair_eq {W : List ((Int × Int) × Int)} (hnd : (W.map fun e => e.1).Nodup) {n : Nat} (hW : OkW n W) {e : (Int × Int) × Int} (he : e ∈ W) : sh W e.1.1.toNat e.1.2.toNat = e.2 := by
  induction W with
  | nil => simp at he
  | cons c W ih =>
    rw [List.map_cons, List.nodup_cons] at hnd
    have hc := hW c (by simp)
    have hWr : OkW n W := fun x hx => hW x (by simp [hx])
    have hb := hW e he
    have hcast : ((e.1.1.toNat : Nat) : Int) = e.1.1 ∧ ((e.1.2.toNat : Nat) : Int) = e.1.2 := by omega
    unfold sh
    rw [hcast.1, hcast.2]
    simp only [List.map_cons, sumL]
    rcases List.mem_cons.1 he with rfl | he2
    · rw [if_pos (.inl ⟨rfl, rfl⟩)]
      have : sumL (W.map fun x => if (x.1.1 = e.1.1 ∧ x.1.2 = e.1.2) ∨ (x.1.1 = e.1.2 ∧ x.1.2 = e.1.1) then x.2 else 0) = 0 := by
        apply sum_zero
        intro x hx
        rw [if_neg]
        rintro (⟨h1, h2⟩ | ⟨h1, h2⟩)
        · exact hnd.1 (List.mem_map.2 ⟨x, hx, Prod.ext h1 h2⟩)
        · have := hWr x hx; omega
      omega
    · have hne : ¬((c.1.1 = e.1.1 ∧ c.1.2 = e.1.2) ∨ (c.1.1 = e.1.2 ∧ c.1.2 = e.1.1)) := by
        rintro (⟨h1, h2⟩ | ⟨h1, h2⟩)
        · have h3 : c.1 = e.1 := Prod.ext h1 h2
          exact hnd.1 (h3 ▸ List.mem_map.2 ⟨e, he2, rfl⟩)
        · omega
      rw [if_neg hne]
      have := ih hnd.2 hWr he2
      unfold sh at this
      rw [hcast.1, hcast.2] at this
      omega
theorem sh_pos {W : List ((Int × Int) × Int)} {a b : Nat} (h : sh W a b ≠ 0) : ∃ e ∈ W, ((e.1.1 = (a : Int) ∧ e.1.2 = (b : Int)) ∨ (e.1.1 = (b : Int) ∧ e.1.2 = (a : Int))) := by
  by_cases hex : ∃ e ∈ W, ((e.1.1 = (a : Int) ∧ e.1.2 = (b : Int)) ∨ (e.1.1 = (b : Int) ∧ e.1.2 = (a : Int)))
  · exact hex
  · exfalso
    apply h
    unfold sh
    apply sum_zero
    intro e he
    rw [if_neg]
    intro h2; exact hex ⟨e, he, h2⟩
theorem sh_val {W : List ((Int × Int) × Int)} (hnd : (W.map fun e => e.1).Nodup) {n : Nat} (hW : OkW n W) {a b : Nat} {e : (Int × Int) × Int} (he : e ∈ W) (h : (e.1.1 = (a : Int) ∧ e.1.2 = (b : Int)) ∨ (e.1.1 = (b : Int) ∧ e.1.2 = (a : Int))) : sh W a b = e.2 := by
  have h1 := sh_pair_eq hnd hW he
  rcases h with ⟨h2, h3⟩ | ⟨h2, h3⟩
  · have e1 : e.1.1.toNat = a := by omega
    have e2 : e.1.2.toNat = b := by omega
    rw [e1, e2] at h1; exact h1
  · have e1 : e.1.1.toNat = b := by omega
    have e2 : e.1.2.toNat = a := by omega
    rw [e1, e2, sh_symm] at h1; exact h1
theorem sh_bd {W : List ((Int × Int) × Int)} (hnd : (W.map fun e => e.1).Nodup) {n : Nat} (hW : OkW n W) (hb : ∀ e ∈ W, 0 ≤ e.2 ∧ e.2 ≤ 2) (a b : Nat) : 0 ≤ sh W a b ∧ sh W a b ≤ 2 := by
  by_cases h : sh W a b = 0
  · omega
  · obtain ⟨e, he, h2⟩ := sh_pos h
    rw [sh_val hnd hW he h2]; exact hb e he

/-! ### where nothing is lost -/
theorem sum_le2_eq {α : Type} {f g : α → Int} : ∀ l : List α, (∀ a ∈ l, f a ≤ g a) → sumL (l.map g) ≤ sumL (l.map f) → ∀ a ∈ l, f a = g a
  | [], _, _, a, ha => by simp at ha
  | b :: r, h, hs, a, ha => by
    have h1 := h b (by simp)
    have h2 := sum_le2 (f := f) (g := g) r (fun x hx => h x (by simp [hx]))
    simp only [List.map_cons, sumL] at hs
    rcases List.mem_cons.1 ha with rfl | ha
    · omega
    · exact sum_le2_eq r (fun x hx => h x (by simp [hx])) (by omega) a ha
theorem slack {n : Nat} (hn : n ≤ 7) {ps : List (Int × Int)} (hps : ∀ p ∈ ps, 0 ≤ p.1 ∧ p.1 < p.2 ∧ p.2 < (n : Int)) {v s : List Int} (hv : v.length = n) (hvb : ∀ x ∈ v, 0 ≤ x ∧ x ≤ 2) (hs : s.length = ps.length) (hsb : ∀ x ∈ s, 0 ≤ x ∧ x ≤ 2)
    (hh : halfOk ps v = true) (hl : ∀ a : Nat, loadOf (ps.zip s) (a : Int) ≤ 2) (heq : sumL v ≤ sumL s) :
    (∀ e ∈ ps.zip s, 0 < e.2 → v.getD e.1.1.toNat 0 + v.getD e.1.2.toNat 0 = 2) ∧ ∀ a : Nat, a < n → 0 < v.getD a 0 → loadOf (ps.zip s) (a : Int) = 2 := by
  have hz : ∀ e ∈ ps.zip s, e.1 ∈ ps ∧ e.2 ∈ s := fun e he => ⟨(List.of_mem_zip he).1, (List.of_mem_zip he).2⟩
  have h1 := dot_fold hn v (ps.zip s) (List.replicate 7 0) (by simp) (fun e he => hps _ (hz e he).1)
  have h0 : dot n v (List.replicate 7 0) = 0 := by
    unfold dot
    apply sum_zero
    intro a _
    rw [List.getD_eq_getElem?_getD (l := List.replicate 7 (0 : Int)), List.getElem?_replicate]
    split <;> simp
  rw [h0, Int.zero_add] at h1
  have e1 : sumL s = sumL ((ps.zip s).map fun e => e.2) := by
    have := List.map_snd_zip (l₁ := ps) (l₂ := s) (by omega)
    have e2 : (ps.zip s).map (fun e => e.2) = s := this
    rw [e2]
  have k1 : ∀ e ∈ ps.zip s, e.2 * 2 ≤ (v.getD e.1.1.toNat 0 + v.getD e.1.2.toNat 0) * e.2 := by
    intro e he
    obtain ⟨m1, m2⟩ := hz e he
    have g1 := List.all_eq_true.1 hh _ m1
    simp only [enough, decide_eq_true_iff] at g1
    have g2 := (hsb _ m2).1
    have := Int.mul_le_mul_of_nonneg_left g1 g2
    rw [Int.mul_comm (v.getD _ 0 + v.getD _ 0)]
    exact this
  have k2 := sum_le2 (ps.zip s) k1
  rw [sum_two, ← e1] at k2
  have ev : sumL v = sumL ((List.range n).map fun a => v.getD a 0) := by rw [← list_range v n hv]
  have hg : ∀ a : Nat, a < 7 → ((ps.zip s).foldl has1 (List.replicate 7 0)).getD a 0 = loadOf (ps.zip s) (a : Int) := by
    intro a ha
    rw [fold_getD hn _ _ _ (by simp) (zip_ok hps s), List.getD_eq_getElem?_getD, List.getElem?_replicate]
    split <;> simp
  have k3 : ∀ a ∈ List.range n, v.getD a 0 * ((ps.zip s).foldl has1 (List.replicate 7 0)).getD a 0 ≤ v.getD a 0 * 2 := by
    intro a ha
    rw [List.mem_range] at ha
    rw [hg a (by omega)]
    exact Int.mul_le_mul_of_nonneg_left (hl a) (getD_bd (B := 2) (by omega) hvb a).1
  have k4 := sum_le2 (List.range n) k3
  rw [sum_two, ← ev] at k4
  have hw : wsum v (ps.zip s) = sumL ((ps.zip s).map fun e => (v.getD e.1.1.toNat 0 + v.getD e.1.2.toNat 0) * e.2) := rfl
  have hd : dot n v ((ps.zip s).foldl has1 (List.replicate 7 0)) = sumL ((List.range n).map fun a => v.getD a 0 * ((ps.zip s).foldl has1 (List.replicate 7 0)).getD a 0) := rfl
  rw [← hw] at k2
  rw [← hd] at k4
  refine ⟨?_, ?_⟩
  · intro e he hpos
    have := sum_le2_eq (ps.zip s) k1 (by rw [sum_two, ← e1, ← hw]; omega) e he
    have h3 : e.2 * 2 = e.2 * (v.getD e.1.1.toNat 0 + v.getD e.1.2.toNat 0) := by rw [this, Int.mul_comm]
    have := Int.eq_of_mul_eq_mul_left (by omega) h3
    omega
  · intro a ha hpos
    have := sum_le2_eq (List.range n) k3 (by rw [sum_two, ← ev, ← hd]; omega) a (List.mem_range.2 ha)
    rw [hg a (by omega)] at this
    exact Int.eq_of_mul_eq_mul_left (by omega) this


theorem sum_two_le {f : Nat → Int} : ∀ (l : List Nat), l.Nodup → (∀ a ∈ l, 0 ≤ f a) → ∀ x ∈ l, ∀ y ∈ l, x ≠ y → f x + f y ≤ sumL (l.map f)
  | [], _, _, x, hx, _, _, _ => by simp at hx
  | a :: l, hn, h0, x, hx, y, hy, hne => by
    rw [List.nodup_cons] at hn
    have ha := h0 a (by simp)
    have one : ∀ (k : List Nat), (∀ b ∈ k, 0 ≤ f b) → ∀ b ∈ k, f b ≤ sumL (k.map f) := by
      intro k
      induction k with
      | nil => intro _ b hb; simp at hb
      | cons c k ih =>
        intro hk b hb
        have hc := hk c (by simp)
        have hs := sum_nonneg (k.map f) (by intro z hz; rw [List.mem_map] at hz; obtain ⟨w, hw, rfl⟩ := hz; exact hk w (by simp [hw]))
        simp only [List.map_cons, sumL]
        rcases List.mem_cons.1 hb with rfl | hb
        · omega
        · have := ih (fun z hz => hk z (by simp [hz])) b hb; omega
    have h0' : ∀ b ∈ l, 0 ≤ f b := fun b hb => h0 b (by simp [hb])
    simp only [List.map_cons, sumL]
    rcases List.mem_cons.1 hx with hx | hx
    · rcases List.mem_cons.1 hy with hy | hy
      · exact absurd (hx.trans hy.symm) hne
      · have := one l h0' y hy; subst hx; omega
    · rcases List.mem_cons.1 hy with hy | hy
      · have := one l h0' x hx; subst hy; omega
      · have := sum_two_le l hn.2 h0' x hx y hy hne; omega
theorem len_sum {α : Type} (p : α → Bool) : ∀ l : List α, ((l.filter p).length : Int) = sumL (l.map fun a => if p a = true then 1 else 0)
  | [] => rfl
  | a :: l => by
    have := len_sum p l
    simp only [List.map_cons, sumL]
    by_cases h : p a = true
    · rw [List.filter_cons_of_pos h, List.length_cons, if_pos h]; omega
    · rw [List.filter_cons_of_neg h, if_neg h]; omega
theorem sum_filter {α : Type} (p : α → Bool) (f : α → Int) : ∀ l : List α, sumL ((l.filter p).map f) = sumL (l.map fun a => if p a = true then f a else 0)
  | [] => rfl
  | a :: l => by
    have := sum_filter p f l
    simp only [List.map_cons, sumL]
    by_cases h : p a = true
    · rw [List.filter_cons_of_pos h, if_pos h, List.map_cons, sumL, this]
    · rw [List.filter_cons_of_neg h, if_neg h, this]; omega
theorem first_of {α : Type} (P : α → Prop) : ∀ l : List α, (∃ a ∈ l, P a) → ∃ l1 a l2, l = l1 ++ a :: l2 ∧ P a ∧ ∀ x ∈ l1, ¬ P x
  | [], h => by obtain ⟨a, ha, _⟩ := h; simp at ha
  | b :: l, h => by
    by_cases hb : P b
    · exact ⟨[], b, l, rfl, hb, by simp⟩
    · obtain ⟨a, ha, hp⟩ := h
      have ha2 : a ∈ l := by
        rcases List.mem_cons.1 ha with rfl | ha
        · exact absurd hp hb
        · exact ha
      obtain ⟨l1, c, l2, h1, h2, h3⟩ := first_of P l ⟨a, ha2, hp⟩
      refine ⟨b :: l1, c, l2, by rw [h1]; rfl, h2, fun x hx => ?_⟩
      rcases List.mem_cons.1 hx with rfl | hx
      · exact hb
      · exact h3 x hx

section
variable {n : Nat} {W : List ((Int × Int) × Int)} {v : List Int}
  (hnd : (W.map fun e => e.1).Nodup) (hW : OkW n W) (hb : ∀ e ∈ W, 0 ≤ e.2 ∧ e.2 ≤ 2) (hM1 : ∀ a : Nat, loadOf W (a : Int) ≤ 2)
include hnd hW hb
theorem sh_le1 {a b0 : Nat} (hl : loadOf W (a : Int) ≤ 2) (hb0 : b0 < n) (h1 : sh W a b0 = 1) : ∀ b, b < n → sh W a b = 0 ∨ sh W a b = 1 := by
  intro b hbn
  have h2 := sh_bd hnd hW hb a b
  by_cases e : b = b0
  · subst e; exact .inr h1
  · rw [load_sh hW] at hl
    have := sum_two_le (f := fun b => sh W a b) (List.range n) List.nodup_range (fun c _ => (sh_bd hnd hW hb a c).1) b (List.mem_range.2 hbn) b0 (List.mem_range.2 hb0) e
    omega
/-- An article that has 2 and a pair with 1 has two such pairs. -/
theorem two_ones {a b0 : Nat} (hl : loadOf W (a : Int) = 2) (hb0 : b0 < n) (h1 : sh W a b0 = 1) : sumL ((List.range n).map fun b => if sh W a b = 1 then (1 : Int) else 0) = 2 := by
  have h := sh_le1 hnd hW hb (by omega) hb0 h1
  rw [load_sh hW] at hl
  rw [← hl]
  congr 1
  apply List.map_congr_left
  intro b hbm
  rcases h b (List.mem_range.1 hbm) with e | e <;> simp [e]
theorem ones_le (a : Nat) (hl : loadOf W (a : Int) ≤ 2) : sumL ((List.range n).map fun b => if sh W a b = 1 then (1 : Int) else 0) ≤ 2 := by
  rw [load_sh hW] at hl
  have := sum_le2 (f := fun b => if sh W a b = 1 then (1 : Int) else 0) (g := fun b => sh W a b) (List.range n) (by
    intro b _
    have := sh_bd hnd hW hb a b
    show (if sh W a b = 1 then (1 : Int) else 0) ≤ sh W a b
    split <;> omega)
  omega
include hM1
/-- Each article that has more than half of what it may has a pair of its own with 1, other than a given one. -/
theorem match_ones {t0 z1 : Nat} (ht0 : t0 < n) (hz1 : z1 < n) (h1 : sh W t0 z1 = 1) (hM2 : ∀ a : Nat, a < n → v.getD a 0 = 2 → loadOf W (a : Int) = 2) :
    ∃ f : Nat → Nat, (∀ t, t < n → v.getD t 0 = 2 → (∃ b, b < n ∧ sh W t b = 1) → f t < n ∧ sh W t (f t) = 1) ∧ f t0 = z1 ∧
      ∀ t u, t < n → u < n → v.getD t 0 = 2 → v.getD u 0 = 2 → (∃ b, b < n ∧ sh W t b = 1) → (∃ b, b < n ∧ sh W u b = 1) → f t = f u → t = u := by
  let inT : Nat → Bool := fun a => decide (v.getD a 0 = 2) && ((List.range n).any fun b => decide (sh W a b = 1)) && !decide (a = t0)
  let T := (List.range n).filter inT
  let r : Nat → Nat → Bool := fun t z => decide (sh W t z = 1) && !decide (z = z1)
  have hT : ∀ a, a ∈ T ↔ a < n ∧ v.getD a 0 = 2 ∧ (∃ b, b < n ∧ sh W a b = 1) ∧ a ≠ t0 := by
    intro a
    show a ∈ (List.range n).filter inT ↔ _
    rw [List.mem_filter, List.mem_range]
    show a < n ∧ (decide (v.getD a 0 = 2) && ((List.range n).any fun b => decide (sh W a b = 1)) && !decide (a = t0)) = true ↔ _
    simp [and_assoc]
  have hcond : ∀ p : Nat → Bool, (T.filter p).length ≤ (nbrs n r (T.filter p)).length := by
    intro p
    have hS : T.filter p = (List.range n).filter fun a => p a && inT a := by show ((List.range n).filter inT).filter p = _; rw [List.filter_filter]
    have hSm : ∀ a ∈ T.filter p, a < n ∧ v.getD a 0 = 2 ∧ (∃ b, b < n ∧ sh W a b = 1) ∧ a ≠ t0 := fun a ha => (hT a).1 (List.mem_filter.1 ha).1
    -- the ones of these articles, counted from both sides
    have e1 : sumL ((T.filter p).map fun t => sumL ((List.range n).map fun z => if sh W t z = 1 then (1 : Int) else 0)) = 2 * ((T.filter p).length : Int) := by
      have : (T.filter p).map (fun t => sumL ((List.range n).map fun z => if sh W t z = 1 then (1 : Int) else 0)) = (T.filter p).map fun _ => (1 : Int) * 2 := by
        apply List.map_congr_left
        intro t ht
        obtain ⟨a1, a2, ⟨b, a3, a4⟩, _⟩ := hSm t ht
        rw [two_ones hnd hW hb (hM2 t a1 a2) a3 a4]; rfl
      rw [this, sum_two (fun _ => (1 : Int))]
      congr 1
      generalize T.filter p = l
      induction l with
      | nil => rfl
      | cons c l ih => simp only [List.map_cons, sumL, ih, List.length_cons]; omega
    rw [sum_swap] at e1
    have e2 : sumL ((List.range n).map fun z => sumL ((T.filter p).map fun t => if sh W t z = 1 then (1 : Int) else 0)) ≤ sumL ((List.range n).map fun z => (if ((T.filter p).any fun t => r t z) = true then (1 : Int) else 0) * 2 + (if z = z1 then (1 : Int) else 0)) := by
      apply sum_le2
      intro z hz
      rw [List.mem_range] at hz
      have c1 : sumL ((T.filter p).map fun t => if sh W t z = 1 then (1 : Int) else 0) = sumL ((List.range n).map fun t => if (p t && inT t) = true then (if sh W t z = 1 then (1 : Int) else 0) else 0) := by rw [hS, sum_filter]
      have c2 := ones_le hnd hW hb z (hM1 z)
      by_cases ez : z = z1
      · subst ez
        rw [if_pos rfl]
        have c3 : sumL ((List.range n).map fun t => if (p t && inT t) = true then (if sh W t z = 1 then (1 : Int) else 0) else 0) + 1 ≤ sumL ((List.range n).map fun t => if sh W z t = 1 then (1 : Int) else 0) := by
          have c4 := sum_upd (f := fun t => if sh W z t = 1 then (1 : Int) else 0) (g := fun t => if t = t0 then 0 else if sh W z t = 1 then (1 : Int) else 0) (i := t0) (d := 1) (List.range n) List.nodup_range (List.mem_range.2 ht0) (by intro a _ hne; rw [if_neg hne]) (by rw [if_pos rfl, sh_symm, if_pos h1]; rfl)
          rw [c4]
          have c5 := sum_le2 (f := fun t => if (p t && inT t) = true then (if sh W t z = 1 then (1 : Int) else 0) else 0) (g := fun t => if t = t0 then 0 else if sh W z t = 1 then (1 : Int) else 0) (List.range n) (by
            intro t _
            by_cases et : t = t0
            · have hin : inT t = false := by
                show (decide (v.getD t 0 = 2) && ((List.range n).any fun b => decide (sh W t b = 1)) && !decide (t = t0)) = false
                simp [et]
              rw [if_pos et, hin, Bool.and_false, if_neg (by simp)]; exact Int.le_refl _
            · rw [if_neg et, sh_symm W t z]
              split <;> split <;> omega)
          omega
        split <;> omega
      · rw [if_neg ez]
        by_cases hN : ((T.filter p).any fun t => r t z) = true
        · rw [if_pos hN]
          have c5 := sum_le2 (f := fun t => if (p t && inT t) = true then (if sh W t z = 1 then (1 : Int) else 0) else 0) (g := fun t => if sh W z t = 1 then (1 : Int) else 0) (List.range n) (by
            intro t _
            rw [sh_symm W t z]
            split <;> split <;> omega)
          omega
        · rw [if_neg hN]
          have : sumL ((T.filter p).map fun t => if sh W t z = 1 then (1 : Int) else 0) = 0 := by
            apply sum_zero
            intro t ht
            rw [if_neg]
            intro h5
            apply hN
            exact List.any_eq_true.2 ⟨t, ht, by show (decide (sh W t z = 1) && !decide (z = z1)) = true; simp [h5, ez]⟩
          omega
    rw [sum_add, sum_two (fun z => if ((T.filter p).any fun t => r t z) = true then (1 : Int) else 0)] at e2
    have e3 : ((nbrs n r (T.filter p)).length : Int) = sumL ((List.range n).map fun z => if ((T.filter p).any fun t => r t z) = true then (1 : Int) else 0) := len_sum _ _
    have e4 : sumL ((List.range n).map fun z => if z = z1 then (1 : Int) else 0) ≤ 1 := ind_le_one (fun z => z = z1) _ List.nodup_range (fun a _ b _ ha hb => by rw [ha, hb])
    omega
  obtain ⟨f, f1, f2⟩ := hall n T.length T r rfl (List.nodup_range.filter _) hcond
  have f1' : ∀ t ∈ T, f t < n ∧ sh W t (f t) = 1 ∧ f t ≠ z1 := by
    intro t ht
    obtain ⟨a1, a2⟩ := f1 t ht
    have a3 : (decide (sh W t (f t) = 1) && !decide (f t = z1)) = true := a2
    simp at a3
    exact ⟨a1, a3⟩
  refine ⟨fun t => if t = t0 then z1 else f t, ?_, if_pos rfl, ?_⟩
  · intro t h2 h3 h4
    dsimp only
    by_cases e : t = t0
    · subst e; rw [if_pos rfl]; exact ⟨hz1, h1⟩
    · rw [if_neg e]
      have := f1' t ((hT t).2 ⟨h2, h3, h4, e⟩)
      exact ⟨this.1, this.2.1⟩
  · intro t u h2 h3 h4 h5 h6 h7
    dsimp only
    by_cases e : t = t0 <;> by_cases e2 : u = t0
    · intro _; rw [e, e2]
    · rw [if_pos e, if_neg e2]
      intro h8; exact absurd h8.symm (f1' u ((hT u).2 ⟨h3, h5, h7, e2⟩)).2.2
    · rw [if_neg e, if_pos e2]
      intro h8; exact absurd h8 (f1' t ((hT t).2 ⟨h2, h4, h6, e⟩)).2.2
    · rw [if_neg e, if_neg e2]
      exact f2 t ((hT t).2 ⟨h2, h4, h6, e⟩) u ((hT u).2 ⟨h3, h5, h7, e2⟩)
end


theorem zip_new (f : (Int × Int) × Int → Int) : ∀ (ps : List (Int × Int)) (s : List Int), ps.zip ((ps.zip s).map f) = (ps.zip s).map fun e => (e.1, f e)
  | [], s => by simp
  | p :: ps, [] => by simp
  | p :: ps, x :: s => by simp only [List.zip_cons_cons, List.map_cons, zip_new f ps s]

theorem tight {n : Nat} (hn : n ≤ 7) {ps : List (Int × Int)} (hps : ∀ p ∈ ps, 0 ≤ p.1 ∧ p.1 < p.2 ∧ p.2 < (n : Int)) {v s : List Int} (hv : v.length = n) (hs : s.length = ps.length)
    (h1 : ∀ e ∈ ps.zip s, e.2 ≠ 0 → v.getD e.1.1.toNat 0 + v.getD e.1.2.toNat 0 = 2) (h2 : ∀ a : Nat, a < n → v.getD a 0 ≠ 0 → loadOf (ps.zip s) (a : Int) = 2) : sumL s = sumL v := by
  have hz : ∀ e ∈ ps.zip s, e.1 ∈ ps ∧ e.2 ∈ s := fun e he => ⟨(List.of_mem_zip he).1, (List.of_mem_zip he).2⟩
  have g1 := dot_fold hn v (ps.zip s) (List.replicate 7 0) (by simp) (fun e he => hps _ (hz e he).1)
  have g0 : dot n v (List.replicate 7 0) = 0 := by
    unfold dot
    apply sum_zero
    intro a _
    rw [List.getD_eq_getElem?_getD (l := List.replicate 7 (0 : Int)), List.getElem?_replicate]
    split <;> simp
  rw [g0, Int.zero_add] at g1
  have e1 : sumL s = sumL ((ps.zip s).map fun e => e.2) := by
    have := List.map_snd_zip (l₁ := ps) (l₂ := s) (by omega)
    have e2 : (ps.zip s).map (fun e => e.2) = s := this
    rw [e2]
  have k1 : (ps.zip s).map (fun e => (v.getD e.1.1.toNat 0 + v.getD e.1.2.toNat 0) * e.2) = (ps.zip s).map fun e => e.2 * 2 := by
    apply List.map_congr_left
    intro e he
    by_cases h : e.2 = 0
    · rw [h]; simp
    · rw [h1 e he h]; omega
  have ev : sumL v = sumL ((List.range n).map fun a => v.getD a 0) := by rw [← list_range v n hv]
  have hg : ∀ a : Nat, a < 7 → ((ps.zip s).foldl has1 (List.replicate 7 0)).getD a 0 = loadOf (ps.zip s) (a : Int) := by
    intro a ha
    rw [fold_getD hn _ _ _ (by simp) (zip_ok hps s), List.getD_eq_getElem?_getD, List.getElem?_replicate]
    split <;> simp
  have k3 : (List.range n).map (fun a => v.getD a 0 * ((ps.zip s).foldl has1 (List.replicate 7 0)).getD a 0) = (List.range n).map fun a => v.getD a 0 * 2 := by
    apply List.map_congr_left
    intro a ha
    rw [List.mem_range] at ha
    rw [hg a (by omega)]
    by_cases h : v.getD a 0 = 0
    · rw [h]; simp
    · rw [h2 a ha h]
  have hw : wsum v (ps.zip s) = sumL ((ps.zip s).map fun e => (v.getD e.1.1.toNat 0 + v.getD e.1.2.toNat 0) * e.2) := rfl
  have hd : dot n v ((ps.zip s).foldl has1 (List.replicate 7 0)) = sumL ((List.range n).map fun a => v.getD a 0 * ((ps.zip s).foldl has1 (List.replicate 7 0)).getD a 0) := rfl
  rw [hw, hd, k1, k3, sum_two, sum_two, ← e1, ← ev] at g1
  omega

section
variable {n : Nat} {W : List ((Int × Int) × Int)} {v : List Int} {F : Nat → Nat}
/-- Shares of 1 between articles with 2 and with 0 are changed as a choice F says. -/
def newOf (v : List Int) (F : Nat → Nat) (e : (Int × Int) × Int) : Int :=
  if e.2 = 1 ∧ v.getD e.1.1.toNat 0 ≠ 1 then (if (v.getD e.1.1.toNat 0 = 2 ∧ F e.1.1.toNat = e.1.2.toNat) ∨ (v.getD e.1.2.toNat 0 = 2 ∧ F e.1.2.toNat = e.1.1.toNat) then 2 else 0) else e.2
theorem newOf_bd (e : (Int × Int) × Int) (h : 0 ≤ e.2 ∧ e.2 ≤ 2) : 0 ≤ newOf v F e ∧ newOf v F e ≤ 2 := by
  unfold newOf; split
  · split <;> omega
  · exact h
theorem okW_new (hW : OkW n W) : OkW n (W.map fun e => (e.1, newOf v F e)) := by
  intro e he
  obtain ⟨c, hc, rfl⟩ := List.mem_map.1 he
  exact hW c hc
theorem nd_new (hnd : (W.map fun e => e.1).Nodup) : ((W.map fun e => (e.1, newOf v F e)).map fun e => e.1).Nodup := by
  rw [List.map_map]; exact hnd
theorem sh_new_of (hnd : (W.map fun e => e.1).Nodup) (hW : OkW n W) {a b : Nat} {e : (Int × Int) × Int} (he : e ∈ W) (h : (e.1.1 = (a : Int) ∧ e.1.2 = (b : Int)) ∨ (e.1.1 = (b : Int) ∧ e.1.2 = (a : Int))) :
    sh (W.map fun e => (e.1, newOf v F e)) a b = newOf v F e :=
  sh_val (nd_new hnd) (okW_new hW) (e := (e.1, newOf v F e)) (List.mem_map.2 ⟨e, he, rfl⟩) h
theorem sh_new_none {a b : Nat} (h : ∀ e ∈ W, ¬((e.1.1 = (a : Int) ∧ e.1.2 = (b : Int)) ∨ (e.1.1 = (b : Int) ∧ e.1.2 = (a : Int)))) : sh (W.map fun e => (e.1, newOf v F e)) a b = 0 := by
  by_cases h0 : sh (W.map fun e => (e.1, newOf v F e)) a b = 0
  · exact h0
  · obtain ⟨e, he, h2⟩ := sh_pos h0
    obtain ⟨c, hc, rfl⟩ := List.mem_map.1 he
    exact absurd h2 (h c hc)
theorem sh_new (hnd : (W.map fun e => e.1).Nodup) (hW : OkW n W) (hsl : ∀ e ∈ W, 0 < e.2 → v.getD e.1.1.toNat 0 + v.getD e.1.2.toNat 0 = 2) (a b : Nat) :
    sh (W.map fun e => (e.1, newOf v F e)) a b = if sh W a b = 1 ∧ v.getD a 0 ≠ 1 then (if (v.getD a 0 = 2 ∧ F a = b) ∨ (v.getD b 0 = 2 ∧ F b = a) then 2 else 0) else sh W a b := by
  by_cases hex : ∃ e ∈ W, ((e.1.1 = (a : Int) ∧ e.1.2 = (b : Int)) ∨ (e.1.1 = (b : Int) ∧ e.1.2 = (a : Int)))
  · obtain ⟨e, he, h⟩ := hex
    rw [sh_new_of hnd hW he h, sh_val hnd hW he h]
    have hs := hsl e he
    unfold newOf
    rcases h with ⟨h1, h2⟩ | ⟨h1, h2⟩
    · have e1 : e.1.1.toNat = a := by omega
      have e2 : e.1.2.toNat = b := by omega
      rw [e1, e2]
    · have e1 : e.1.1.toNat = b := by omega
      have e2 : e.1.2.toNat = a := by omega
      rw [e1, e2] at hs ⊢
      by_cases g : e.2 = 1
      · have hv := hs (by omega)
        by_cases g2 : v.getD b 0 = 1
        · rw [if_neg (by omega), if_neg (by omega)]
        · have g3 : v.getD a 0 ≠ 1 := by omega
          simp only [ne_eq, g, g2, g3, not_false_eq_true, and_self, if_true]
          simp only [or_comm]
      · rw [if_neg (fun h => g h.1), if_neg (fun h => g h.1)]
  · have h0 : ∀ e ∈ W, ¬((e.1.1 = (a : Int) ∧ e.1.2 = (b : Int)) ∨ (e.1.1 = (b : Int) ∧ e.1.2 = (a : Int))) := fun e he h => hex ⟨e, he, h⟩
    rw [sh_new_none h0]
    have : sh W a b = 0 := by
      by_cases h : sh W a b = 0
      · exact h
      · obtain ⟨e, he, h2⟩ := sh_pos h; exact absurd h2 (h0 e he)
    rw [this]; simp
theorem sh_v (hnd : (W.map fun e => e.1).Nodup) (hW : OkW n W) (hsl : ∀ e ∈ W, 0 < e.2 → v.getD e.1.1.toNat 0 + v.getD e.1.2.toNat 0 = 2) {a b : Nat} (h : 0 < sh W a b) : v.getD a 0 + v.getD b 0 = 2 := by
  obtain ⟨e, he, h2⟩ := sh_pos (by omega : sh W a b ≠ 0)
  rw [sh_val hnd hW he h2] at h
  have := hsl e he h
  rcases h2 with ⟨h1, h2⟩ | ⟨h1, h2⟩
  · rw [show e.1.1.toNat = a from by omega, show e.1.2.toNat = b from by omega] at this; exact this
  · rw [show e.1.1.toNat = b from by omega, show e.1.2.toNat = a from by omega] at this; omega
theorem load_new (hnd : (W.map fun e => e.1).Nodup) (hW : OkW n W) (hb : ∀ e ∈ W, 0 ≤ e.2 ∧ e.2 ≤ 2) (hM1 : ∀ a : Nat, loadOf W (a : Int) ≤ 2) (hsl : ∀ e ∈ W, 0 < e.2 → v.getD e.1.1.toNat 0 + v.getD e.1.2.toNat 0 = 2)
    (hvb : ∀ a : Nat, 0 ≤ v.getD a 0 ∧ v.getD a 0 ≤ 2) (hM2 : ∀ a : Nat, a < n → 0 < v.getD a 0 → loadOf W (a : Int) = 2)
    (hF1 : ∀ t, t < n → v.getD t 0 = 2 → (∃ b, b < n ∧ sh W t b = 1) → F t < n ∧ sh W t (F t) = 1)
    (hF2 : ∀ t u, t < n → u < n → v.getD t 0 = 2 → v.getD u 0 = 2 → (∃ b, b < n ∧ sh W t b = 1) → (∃ b, b < n ∧ sh W u b = 1) → F t = F u → t = u) (a : Nat) (ha : a < n) :
    loadOf (W.map fun e => (e.1, newOf v F e)) (a : Int) ≤ 2 ∧ (v.getD a 0 ≠ 0 → loadOf (W.map fun e => (e.1, newOf v F e)) (a : Int) = 2) := by
  have hva := hvb a
  have same : (v.getD a 0 = 1 ∨ ¬ ∃ b, b < n ∧ sh W a b = 1) → loadOf (W.map fun e => (e.1, newOf v F e)) (a : Int) = loadOf W (a : Int) := by
    intro hc
    rw [load_sh (okW_new hW), load_sh hW]
    congr 1
    apply List.map_congr_left
    intro b hbm
    rw [List.mem_range] at hbm
    rw [sh_new hnd hW hsl]
    rw [if_neg]
    rintro ⟨h1, h2⟩
    rcases hc with hc | hc
    · exact h2 hc
    · exact hc ⟨b, hbm, h1⟩
  by_cases hc : v.getD a 0 = 1 ∨ ¬ ∃ b, b < n ∧ sh W a b = 1
  · rw [same hc]
    exact ⟨hM1 a, fun h => hM2 a ha (by omega)⟩
  · have hv1 : v.getD a 0 ≠ 1 := fun h => hc (.inl h)
    have hex : ∃ b, b < n ∧ sh W a b = 1 := Classical.byContradiction fun h => hc (.inr h)
    obtain ⟨b0, hb0, hs0⟩ := hex
    have h01 := sh_le1 hnd hW hb (hM1 a) hb0 hs0
    rw [load_sh (okW_new hW)]
    by_cases hv2 : v.getD a 0 = 2
    · obtain ⟨f1, f2⟩ := hF1 a ha hv2 ⟨b0, hb0, hs0⟩
      have e : (List.range n).map (fun b => sh (W.map fun e => (e.1, newOf v F e)) a b) = (List.range n).map fun b => if b = F a then (2 : Int) else 0 := by
        apply List.map_congr_left
        intro b hbm
        rw [List.mem_range] at hbm
        rw [sh_new hnd hW hsl]
        by_cases g : sh W a b = 1
        · have hvb2 := sh_v hnd hW hsl (a := a) (b := b) (by omega)
          rw [if_pos ⟨g, hv1⟩]
          by_cases g2 : b = F a
          · rw [if_pos (.inl ⟨hv2, g2.symm⟩), if_pos g2]
          · rw [if_neg (by omega), if_neg g2]
        · rw [if_neg (fun h => g h.1)]
          have := h01 b hbm
          have hne : b ≠ F a := by rintro rfl; exact g f2
          rw [if_neg hne]; omega
      have z : sumL ((List.range n).map fun (_ : Nat) => (0 : Int)) = 0 := sum_zero _ (fun _ _ => rfl)
      have := sum_upd (f := fun b => if b = F a then (2 : Int) else 0) (g := fun _ => 0) (i := F a) (d := 2) (List.range n) List.nodup_range (List.mem_range.2 f1) (by intro b _ hne; rw [if_neg hne]) (by rw [if_pos rfl]; rfl)
      rw [e, this, z]
      exact ⟨by omega, fun _ => by omega⟩
    · refine ⟨?_, fun h => by omega⟩
      have hv0 : v.getD a 0 = 0 := by omega
      have e := sum_le2 (f := fun b => sh (W.map fun e => (e.1, newOf v F e)) a b) (g := fun b => (if (v.getD b 0 = 2 ∧ F b = a ∧ sh W a b = 1) then (1 : Int) else 0) * 2) (List.range n) (by
        intro b hbm
        rw [List.mem_range] at hbm
        rw [sh_new hnd hW hsl]
        by_cases g : sh W a b = 1
        · rw [if_pos ⟨g, hv1⟩]
          by_cases g2 : v.getD b 0 = 2 ∧ F b = a
          · rw [if_pos (.inr g2), if_pos ⟨g2.1, g2.2, g⟩]; omega
          · rw [if_neg (by omega), if_neg (fun h => g2 ⟨h.1, h.2.1⟩)]; omega
        · rw [if_neg (fun h => g h.1), if_neg (fun h => g h.2.2)]
          have := h01 b hbm
          omega)
      rw [sum_two] at e
      have e2 := ind_le_one (fun b => v.getD b 0 = 2 ∧ F b = a ∧ sh W a b = 1) (List.range n) List.nodup_range (by
        intro p hp q hq h1 h2
        rw [List.mem_range] at hp hq
        exact hF2 p q hp hq h1.1 h2.1 ⟨a, ha, by rw [sh_symm]; exact h1.2.2⟩ ⟨a, ha, by rw [sh_symm]; exact h2.2.2⟩ (by rw [h1.2.1, h2.2.1]))
      have e3 : sumL ((List.range n).map fun b => if (v.getD b 0 = 2 ∧ F b = a ∧ sh W a b = 1) then (1 : Int) else 0) ≤ 1 := e2
      omega
end

theorem over_none {n : Nat} {ps : List (Int × Int)} {l : List Int} (h : l ∈ shF n ps ps.length []) (hps : ∀ p ∈ ps, 0 ≤ p.1 ∧ p.1 < p.2 ∧ p.2 < (n : Int)) (a : Nat) : loadOf (ps.zip l) (a : Int) ≤ 2 := by
  rcases Nat.lt_or_ge a n with ha | ha
  · obtain ⟨t, e, _, _, e4⟩ := (mem_shF ps.length [] _ (by simp)).1 h
    rcases e4 with e4 | e4
    · have : ps = [] := List.eq_nil_of_length_eq_zero e4
      subst this
      simp [loadOf]
    · by_cases h2 : 2 < loadOf (ps.zip l) (a : Int)
      · rw [(over_iff _).2 ⟨a, ha, h2⟩] at e4; simp at e4
      · omega
  · rw [load_out _ a ha (zip_ok hps l)]; omega

/-- Pairs with the share 1 are between articles with the value one half. -/
theorem ones_mid {n : Nat} {ps : List (Int × Int)} (hn1 : 1 ≤ n) (hn : n ≤ 7) (hps : ∀ p ∈ ps, 0 ≤ p.1 ∧ p.1 < p.2 ∧ p.2 < (n : Int)) (h7 : ∀ p ∈ ps, okP p) (hnd : ps.Nodup) :
    ∀ e ∈ ps.zip (sharesR n ps), e.2 = 1 → (halvesV n ps).getD e.1.1.toNat 0 = 1 := by
  obtain ⟨s1, s2⟩ := sharesR_in (n := n) (ps := ps)
  obtain ⟨a1, a2⟩ := shF_ok s1
  obtain ⟨v1, v2, _⟩ := halvesV_ok hn1 hn hps h7
  have hv := (cheap_mem.1 (halves_spec hn1 hn hps h7).1).1.2
  have hM1 := over_none s1 hps
  have hw := shares_worth hn1 hn hps h7 hnd
  obtain ⟨hsl, hM2⟩ := slack hn hps v1 v2 a1 a2 hv hM1 (by omega)
  have hvb := getD_bd (B := 2) (by omega) v2
  have hWn : ((ps.zip (sharesR n ps)).map fun e => e.1).Nodup := by
    have : (ps.zip (sharesR n ps)).map (fun e => e.1) = ps := List.map_fst_zip (by omega)
    rw [this]; exact hnd
  have hW : OkW n (ps.zip (sharesR n ps)) := zip_ok hps _
  have hb : ∀ e ∈ ps.zip (sharesR n ps), 0 ≤ e.2 ∧ e.2 ≤ 2 := fun e he => a2 _ (List.of_mem_zip he).2
  have hes : (ps.zip (sharesR n ps)).map (fun e => e.2) = sharesR n ps := List.map_snd_zip (by omega)
  generalize halvesV n ps = v at *
  generalize sharesR n ps = s at *
  intro e he h1
  apply Classical.byContradiction
  intro hne
  obtain ⟨l1, e0, l2, hl, ⟨p1, p2⟩, p3⟩ := first_of (fun e => e.2 = 1 ∧ v.getD e.1.1.toNat 0 ≠ 1) (ps.zip s) ⟨e, he, h1, hne⟩
  have he0 : e0 ∈ ps.zip s := by rw [hl]; simp
  have hk := hW e0 he0
  have hs0 := hsl e0 he0 (by omega)
  have hva := hvb e0.1.1.toNat
  have hvbb := hvb e0.1.2.toNat
  obtain ⟨t0, z0, ht0, hz0, vt, vz, hsh, hends⟩ : ∃ t0 z0 : Nat, t0 < n ∧ z0 < n ∧ v.getD t0 0 = 2 ∧ v.getD z0 0 = 0 ∧ sh (ps.zip s) t0 z0 = 1 ∧ ((e0.1.1.toNat = t0 ∧ e0.1.2.toNat = z0) ∨ (e0.1.1.toNat = z0 ∧ e0.1.2.toNat = t0)) := by
    have hse := sh_pair_eq hWn hW he0
    by_cases g : v.getD e0.1.1.toNat 0 = 2
    · exact ⟨e0.1.1.toNat, e0.1.2.toNat, by omega, by omega, g, by omega, by rw [hse, p1], .inl ⟨rfl, rfl⟩⟩
    · exact ⟨e0.1.2.toNat, e0.1.1.toNat, by omega, by omega, by omega, by omega, by rw [sh_symm, hse, p1], .inr ⟨rfl, rfl⟩⟩
  have hz1 : ∃ z1, z1 < n ∧ z1 ≠ z0 ∧ sh (ps.zip s) t0 z1 = 1 := by
    apply Classical.byContradiction
    intro hno
    have h2 := two_ones hWn hW hb (hM2 t0 ht0 (by omega)) hz0 hsh
    have h3 := sum_le2 (f := fun b => if sh (ps.zip s) t0 b = 1 then (1 : Int) else 0) (g := fun b => if b = z0 then (1 : Int) else 0) (List.range n) (by
      intro b hbm
      by_cases g : sh (ps.zip s) t0 b = 1
      · have : b = z0 := Classical.byContradiction fun h => hno ⟨b, List.mem_range.1 hbm, h, g⟩
        rw [if_pos this]; split <;> omega
      · rw [if_neg g]; split <;> omega)
    have h4 := ind_le_one (fun z => z = z0) (List.range n) List.nodup_range (fun a _ b _ ha hb => by rw [ha, hb])
    omega
  obtain ⟨z1, hz1n, hz10, hs1⟩ := hz1
  obtain ⟨F, hF1, hF0, hF2⟩ := match_ones hWn hW hb hM1 ht0 hz1n hs1 (v := v) (fun a ha h => hM2 a ha (by omega))
  have hzn := zip_new (newOf v F) ps s
  have hload := load_new hWn hW hb hM1 hsl hvb hM2 hF1 hF2
  rw [← hzn] at hload
  have hlen' : ((ps.zip s).map (newOf v F)).length = ps.length := by simp; omega
  have hin : (ps.zip s).map (newOf v F) ∈ shF n ps ps.length [] := by
    refine (mem_shF ps.length [] _ (by simp)).2 ⟨_, by simp, hlen', ?_, .inr ?_⟩
    · intro x hx
      obtain ⟨c, hc, rfl⟩ := List.mem_map.1 hx
      exact newOf_bd c (hb c hc)
    · cases h : overFrom (ps.zip ((ps.zip s).map (newOf v F))) n 0
      · rfl
      · obtain ⟨a, ha, h2⟩ := (over_iff _).1 h
        have := (hload a ha).1; omega
  have hsum : sumL ((ps.zip s).map (newOf v F)) = sumL v := by
    refine tight hn hps v1 hlen' ?_ (fun a ha h => (hload a ha).2 h)
    intro c hc hc2
    rw [hzn] at hc
    obtain ⟨d, hd, rfl⟩ := List.mem_map.1 hc
    apply hsl d hd
    have hd2 := hb d hd
    by_cases g : d.2 = 0
    · exfalso; apply hc2
      show newOf v F d = 0
      unfold newOf
      rw [if_neg (by omega), g]
    · omega
  have hlt : lexLt ((ps.zip s).map (newOf v F)) s = true := by
    have e1 : s = l1.map (fun e => e.2) ++ [e0.2] ++ l2.map fun e => e.2 := by
      rw [← hes, hl]; simp
    have e2 : (ps.zip s).map (newOf v F) = l1.map (fun e => e.2) ++ [newOf v F e0] ++ l2.map (newOf v F) := by
      rw [hl]
      have e4 : l1.map (newOf v F) = l1.map fun e => e.2 := by
        apply List.map_congr_left
        intro c hc
        unfold newOf
        rw [if_neg (p3 c hc)]
      rw [← e4]
      simp
    have e3 : newOf v F e0 = 0 := by
      unfold newOf
      rw [if_pos ⟨p1, p2⟩, if_neg]
      rcases hends with ⟨g1, g2⟩ | ⟨g1, g2⟩
      · rw [g1, g2]
        rintro (⟨q1, q2⟩ | ⟨q1, q2⟩)
        · rw [hF0] at q2; exact hz10 q2
        · omega
      · rw [g1, g2]
        rintro (⟨q1, q2⟩ | ⟨q1, q2⟩)
        · omega
        · rw [hF0] at q2; exact hz10 q2
    rw [e2, e3]
    exact e1 ▸ (by
      have := lex_pre (l1.map fun e => e.2) (l2.map (newOf v F)) (l2.map fun e => e.2) (show (0 : Int) < e0.2 by omega)
      rw [← e1] at this
      rw [← e1]
      exact this)
  have := (s2 _ hin).2 (by omega)
  rw [hlt] at this
  simp at this


/-! ### the first of a set; sets without others -/
def tzN (m : Nat) : Nat := ((List.range 7).find? m.testBit).getD 64
theorem all90 : (List.range 128).map (fun m => callAV L 60 90 [U m] ⟨[], []⟩) = (List.range 128).map (fun m => some (I (tzN m : Nat), (⟨[], []⟩ : St))) := by kernel_rfl
theorem c90 (m : Nat) (hm : m < 128) (st : St) : run L 90 [U m] st = some (I (tzN m : Nat), st) :=
  run_any' (fn := ir90) rfl rfl (callAV_run L 60 _ _ _ _ (all_of all90 m hm)) st
def dfN (a b : Nat) : Nat := a &&& (127 - b)
theorem dfN_bit {a b : Nat} (hb : b < 128) (i : Nat) : (dfN a b).testBit i = (a.testBit i && (decide (i < 7) && !b.testBit i)) := by
  unfold dfN
  rw [Nat.testBit_and, show 127 - b = 2 ^ 7 - (b + 1) from by omega, Nat.testBit_two_pow_sub_succ hb]
theorem dfN_lt {a b : Nat} (ha : a < 128) : dfN a b < 128 := Nat.lt_of_le_of_lt Nat.and_le_left ha
theorem tz_spec {m : Nat} (hm : m < 128) (h : m ≠ 0) : tzN m < 7 ∧ m.testBit (tzN m) = true := by
  have hk : ∀ k : Fin 128, k.val ≠ 0 → tzN k.val < 7 ∧ k.val.testBit (tzN k.val) = true := by decide
  exact hk ⟨m, hm⟩ h
theorem dfU_eq (a b : Nat) (ha : a < 128) (hb : b < 128) : binAV .andNot none (.v (.int .u64 (a : Int))) (.v (.int .u64 (b : Int))) = some (.v (.int .u64 ((dfN a b : Nat) : Int))) := by
  have e : (BitVec.ofInt IntKind.u64.bits (a : Int) &&& ~~~BitVec.ofInt IntKind.u64.bits (b : Int)).toNat = dfN a b := by
    show (BitVec.ofInt 64 (a : Int) &&& ~~~BitVec.ofInt 64 (b : Int)).toNat = dfN a b
    rw [BitVec.toNat_and, BitVec.toNat_not, BitVec.toNat_ofInt, BitVec.toNat_ofInt]
    have ea : ((a : Int) % ((2 ^ 64 : Nat) : Int)).toNat = a := by omega
    have eb : ((b : Int) % ((2 ^ 64 : Nat) : Int)).toNat = b := by omega
    rw [ea, eb]
    apply Nat.eq_of_testBit_eq
    intro i
    rw [dfN_bit hb, Nat.testBit_and, show 2 ^ 64 - 1 - b = 2 ^ 64 - (b + 1) from by omega, Nat.testBit_two_pow_sub_succ (by omega : b < 2 ^ 64)]
    by_cases h : i < 7
    · simp [h, show i < 64 by omega]
    · have : a.testBit i = false := Nat.testBit_lt_two_pow (Nat.lt_of_lt_of_le ha (Nat.pow_le_pow_right (n := 2) (by decide) (Nat.le_of_not_lt h)))
      rw [this]; simp
  show some (AV.v (.int .u64 (IntKind.u64.wrap ((BitVec.ofInt IntKind.u64.bits (a : Int) &&& ~~~BitVec.ofInt IntKind.u64.bits (b : Int)).toNat : Int)))) = _
  rw [e, wrapU _ (by have := dfN_lt (a := a) (b := b) ha; omega)]

attribute [local go_sem high] and_one shr_u shl_one or_u

/-! ### a walk along pairs: always to the first that is free -/
def walkP (m : List Nat) : Nat → Nat → List Int → Nat → List Int × Nat
  | 0, tk, row, _ => (row, tk)
  | f + 1, tk, row, a => if dfN (m.getD a 0) tk = 0 then (row, tk) else walkP m f (tk ||| 2 ^ tzN (dfN (m.getD a 0) tk)) (row ++ [(tzN (dfN (m.getD a 0) tk) : Int)]) (tzN (dfN (m.getD a 0) tk))
def ringP (m : List Nat) (st : Nat × List (List Int)) (i : Nat) : Nat × List (List Int) :=
  if st.1.testBit i = true ∨ m.getD i 0 = 0 then st else ((walkP m 128 (st.1 ||| 2 ^ i) [(i : Int)] i).2, st.2 ++ [(walkP m 128 (st.1 ||| 2 ^ i) [(i : Int)] i).1])
def ringsP (n : Nat) (m : List Nat) : List (List Int) := ((List.range n).foldl (ringP m) (0, [])).2
theorem or_grow {tk b : Nat} (h : tk < 128) (hb : b < 7) (h2 : tk.testBit b = false) : tk < tk ||| 2 ^ b ∧ tk ||| 2 ^ b < 128 := by
  refine ⟨?_, Nat.or_lt_two_pow (n := 7) h (Nat.pow_lt_pow_right (by omega) hb)⟩
  have h1 : tk ≤ tk ||| 2 ^ b := Nat.left_le_or
  rcases Nat.lt_or_ge tk (tk ||| 2 ^ b) with h3 | h3
  · exact h3
  · have e : tk = tk ||| 2 ^ b := by omega
    have : (tk ||| 2 ^ b).testBit b = true := by rw [Nat.testBit_or, Nat.testBit_two_pow]; simp
    rw [← e, h2] at this; simp at this
theorem free_step {m : List Nat} (hm : ∀ x ∈ m, x < 128) {tk : Nat} (htk : tk < 128) {a : Nat} (h : dfN (m.getD a 0) tk ≠ 0) :
    tzN (dfN (m.getD a 0) tk) < 7 ∧ tk < tk ||| 2 ^ tzN (dfN (m.getD a 0) tk) ∧ tk ||| 2 ^ tzN (dfN (m.getD a 0) tk) < 128 := by
  obtain ⟨h1, h2⟩ := tz_spec (dfN_lt (small_getD hm a)) h
  rw [dfN_bit htk] at h2
  have h3 : tk.testBit (tzN (dfN (m.getD a 0) tk)) = false := by
    cases e : tk.testBit (tzN (dfN (m.getD a 0) tk))
    · rfl
    · rw [e] at h2; simp at h2
  exact ⟨h1, or_grow htk h1 h3⟩
theorem walk_fuel {m : List Nat} (hm : ∀ x ∈ m, x < 128) : ∀ (f g tk : Nat) (row : List Int) (a : Nat), tk < 128 → 128 - tk ≤ f → 128 - tk ≤ g → walkP m f tk row a = walkP m g tk row a
  | 0, _, tk, _, _, h, h1, _ => by omega
  | _ + 1, 0, tk, _, _, h, _, h2 => by omega
  | f + 1, g + 1, tk, row, a, h, h1, h2 => by
    simp only [walkP]
    by_cases p : dfN (m.getD a 0) tk = 0
    · rw [if_pos p, if_pos p]
    · rw [if_neg p, if_neg p]
      obtain ⟨_, g2, g3⟩ := free_step hm h p
      exact walk_fuel hm f g _ _ _ g3 (by omega) (by omega)
theorem walk_tk {m : List Nat} (hm : ∀ x ∈ m, x < 128) : ∀ (f tk : Nat) (row : List Int) (a : Nat), tk < 128 → (walkP m f tk row a).2 < 128
  | 0, tk, row, a, h => h
  | f + 1, tk, row, a, h => by
    simp only [walkP]
    by_cases p : dfN (m.getD a 0) tk = 0
    · rw [if_pos p]; exact h
    · rw [if_neg p]
      exact walk_tk hm f _ _ _ (free_step hm h p).2.2

/-! ### the lists of rings, and the ring that grows -/
def rwAV (l : List Int) : AV := sl 1 true (l.map I)
def rAV (k : Nat) (rows : List (List Int)) : AV := if rows = [] then .v (.slice none 0 0) else .lst (.own k rows.length) 1 (rows.map rwAV)
def rT (rows : List (List Int)) : List Nat := if rows = [] then [] else [rows.length]
def rAcc (k : Nat) (rows : List (List Int)) : List (Nat × Nat) := if rows = [] then [] else [(k, rows.length)]
/-- A ring of one is a fresh list. -/
def wAV (k : Nat) (row : List Int) : AV := if row.length = 1 then .lst .full 1 (row.map I) else .lst (.own k row.length) 1 (row.map I)
def wT (row : List Int) : List Nat := if row.length = 1 then [] else [row.length]
def wAcc (k : Nat) (row : List Int) : List (Nat × Nat) := if row.length = 1 then [] else [(k, row.length)]

def rXAV (T0 : List Nat) (rows : List (List Int)) (row : List Int) : AV := if rows = [] then .lst (.own (T0 ++ wT row).length 1) 1 [rwAV row] else .lst (.own T0.length (rows.length + 1)) 1 ((rows ++ [row]).map rwAV)
def rXT (T0 : List Nat) (rows : List (List Int)) (row : List Int) : List Nat := if rows = [] then T0 ++ wT row ++ [1] else T0 ++ (rows.length + 1) :: wT row
theorem append_r (T0 : List Nat) (rows : List (List Int)) (row : List Int) (S : List (List AV)) (h : rows.length < 1000) : appendAV 1 (rAV T0.length rows) [rwAV row] ⟨S, T0 ++ rT rows ++ wT row⟩ = some (rXAV T0 rows row, ⟨S, rXT T0 rows row⟩) := by
  unfold rAV rT rXAV rXT
  by_cases h0 : rows = []
  · subst h0; simp [appendAV, maxGrow]
  · have h1 : rows.length + 1 ≤ maxGrow := by unfold maxGrow; omega
    simp [h0, appendAV, h1]
theorem append_w (T : List Nat) (row : List Int) (x : Int) (S : List (List AV)) (h : row.length < 1000) (h0 : 1 ≤ row.length) : appendAV 1 (wAV T.length row) [I x] ⟨S, T ++ wT row⟩ = some (wAV T.length (row ++ [x]), ⟨S, T ++ wT (row ++ [x])⟩) := by
  unfold wAV wT
  have h1 : row.length + 1 ≤ maxGrow := by unfold maxGrow; omega
  have h2 : ¬ (row.length = 0) := by omega
  by_cases h3 : row.length = 1
  · simp [h3, appendAV, maxGrow]
  · simp [h3, h2, appendAV, h1]
theorem shaped_w (k : Nat) (row : List Int) : (wAV k row).shaped = true := by unfold wAV; split <;> rfl
theorem cells_w (k : Nat) (row : List Int) : (wAV k row).cells = [wAV k row] := by unfold wAV; split <;> rfl
theorem isAgg_w (k : Nat) (row : List Int) : Ev.isAgg (wAV k row) = false := by unfold wAV; split <;> rfl
theorem storable_w (k : Nat) (row : List Int) : storable (wAV k row) = true := by unfold wAV; split <;> rfl
theorem okRef_w (n k : Nat) (row : List Int) : okRef n (wAV k row) = true := by unfold wAV; split <;> rfl
theorem okRef_r (n k : Nat) (rows : List (List Int)) : okRef n (rAV k rows) = true := by unfold rAV; split <;> rfl
theorem okRef_rX (n : Nat) (T0 : List Nat) (rows : List (List Int)) (row : List Int) : okRef n (rXAV T0 rows row) = true := by unfold rXAV; split <;> rfl
theorem pub_w (k : Nat) (row : List Int) (h : row ≠ []) : pub (wAV k row) = rwAV row := by
  unfold wAV rwAV
  rw [sl_ne (by simpa using h)]
  split <;> rfl
theorem ren1_o {hi : Nat} {o : List (Int × Int)} (h : (outT o).length ≤ hi) (T : List Nat) (acc : List (Nat × Nat)) : ren1 hi T acc (outAV o) = (outAV o, acc) := by
  unfold outAV outT loc locT at *
  by_cases h0 : (o.map prAV).length = 0
  · simp only [h0, if_true] at h ⊢; rfl
  · simp only [h0, if_false] at h ⊢
    have : 0 < hi := by simp at h; omega
    simp [ren1, this]
theorem ren1_rH (T0 : List Nat) (rows : List (List Int)) (T : List Nat) (acc : List (Nat × Nat)) : ren1 (T0 ++ rT rows).length T acc (rAV T0.length rows) = (rAV T0.length rows, acc) := by
  unfold rAV rT
  by_cases h : rows = []
  · simp [h, ren1]
  · simp [h, ren1]
theorem ren1_wH (T : List Nat) (row : List Int) : ren1 T.length (T ++ wT row) [] (wAV T.length row) = (wAV T.length row, wAcc T.length row) := by
  unfold wAV wT wAcc
  by_cases h : row.length = 1
  · simp [h, ren1]
  · simp [h, ren1]
theorem wAcc_snd (k : Nat) (row : List Int) : (wAcc k row).map (fun x => x.2) = wT row := by
  unfold wAcc wT; split <;> rfl
theorem take_T (T0 T : List Nat) : (T0 ++ T).take T0.length = T0 := List.take_left
theorem take_T2 (A B T : List Nat) : (A ++ B ++ T).take (A ++ B).length = A ++ B := List.take_left
def rXAcc (T0 : List Nat) (rows : List (List Int)) (row : List Int) : List (Nat × Nat) := if rows = [] then [((T0 ++ wT row).length, 1)] else [(T0.length, rows.length + 1)]
theorem rXAcc_snd (T0 : List Nat) (rows : List (List Int)) (row : List Int) : (rXAcc T0 rows row).map (fun x => x.2) = rT (rows ++ [row]) := by
  unfold rXAcc rT; by_cases h : rows = [] <;> simp [h]
theorem ren1_rX (T0 : List Nat) (rows : List (List Int)) (row : List Int) : ren1 T0.length (rXT T0 rows row) [] (rXAV T0 rows row) = (rAV T0.length (rows ++ [row]), rXAcc T0 rows row) := by
  unfold rXAV rXT rAV rXAcc
  by_cases h : rows = []
  · have e : (T0 ++ wT row ++ [1])[(T0 ++ wT row).length]? = some 1 := by simp
    have e2 : ¬ ((T0 ++ wT row).length < T0.length) := by simp
    rw [if_pos h, if_pos h, ren1, if_neg e2, if_pos ⟨e, by simp⟩]
    simp [h]
  · simp [h, ren1]
theorem ren1_r0 (T0 : List Nat) (rows : List (List Int)) : ren1 T0.length (T0 ++ rT rows) [] (rAV T0.length rows) = (rAV T0.length rows, rAcc T0.length rows) := by
  unfold rT rAV rAcc
  by_cases h : rows = []
  · simp [h, ren1]
  · simp [h, ren1]
theorem rAcc_snd (k : Nat) (rows : List (List Int)) : (rAcc k rows).map (fun x => x.2) = rT rows := by
  unfold rAcc rT; split <;> rfl
theorem take_rX (T0 : List Nat) (rows : List (List Int)) (row : List Int) : (rXT T0 rows row).take T0.length = T0 := by
  unfold rXT; split
  · rw [List.append_assoc, List.take_left]
  · rw [List.take_left]
attribute [local go_sem] shaped_w cells_w isAgg_w storable_w okRef_w okRef_r okRef_rX okRef_out storable_out shaped_out cells_out fin_out pub_out

theorem loop37_1 (nl : Bool) (n : Nat) (ps : List (Int × Int)) (o1 : List (Int × Int)) (m : List Nat) (hm : ∀ x ∈ m, x < 128) (hml : m.length = 7) (rows : List (List Int)) (hrl : rows.length < 1000) (th : Nat) (hth : th = (outT o1 ++ rT rows).length) (i : Nat) (tk : Nat) (row : List Int) (a : Nat) (hok : tk < 128 ∧ 1 ≤ row.length ∧ row.length ≤ tk ∧ a < 7) (env : Env) (st : St)
    (hg : gcAV true 3 th (canon env [8, 9, 10, 12, 13, 47, 48]) st = ([(8, .ptr 2 0), (9, U tk), (10, rAV (outT o1).length rows), (12, wAV th row), (13, I a), (47, I n), (48, I i)], ⟨[bkCells nl n ps, [I n, outAV o1], m.map U], outT o1 ++ rT rows ++ wT row⟩)) :
    ∃ x_1 en s, lim (headed pure (run L) true [8, 9, 10, 12, 13, 47, 48] lp37_1 3 th) env st = some (x_1, en, s) ∧ (x_1 = .exit 3 ∧ en.get 8 = .ptr 2 0 ∧ en.get 9 = U (walkP m 128 tk row a).2 ∧ en.get 10 = rXAV (outT o1) rows (walkP m 128 tk row a).1 ∧ en.get 47 = I n ∧ en.get 48 = I i ∧ s = ⟨[bkCells nl n ps, [I n, outAV o1], m.map U], rXT (outT o1) rows (walkP m 128 tk row a).1⟩) := by
  refine loop_wp (α := Nat × List Int × Nat) (fun ⟨tk, row, a⟩ => 128 - tk) (fun ⟨tk, row, a⟩ => tk < 128 ∧ 1 ≤ row.length ∧ row.length ≤ tk ∧ a < 7) (fun ⟨tk, row, a⟩ => ([(8, .ptr 2 0), (9, U tk), (10, rAV (outT o1).length rows), (12, wAV th row), (13, I a), (47, I n), (48, I i)], ⟨[bkCells nl n ps, [I n, outAV o1], m.map U], outT o1 ++ rT rows ++ wT row⟩)) (fun ⟨tk, row, a⟩ x_1 en s => x_1 = .exit 3 ∧ en.get 8 = .ptr 2 0 ∧ en.get 9 = U (walkP m 128 tk row a).2 ∧ en.get 10 = rXAV (outT o1) rows (walkP m 128 tk row a).1 ∧ en.get 47 = I n ∧ en.get 48 = I i ∧ s = ⟨[bkCells nl n ps, [I n, outAV o1], m.map U], rXT (outT o1) rows (walkP m 128 tk row a).1⟩) (fun ⟨tk, row, a⟩ hok => ?_) ⟨tk, row, a⟩ hok env st hg
  simp only at hok
  subst hth
  obtain ⟨h1, h2, h3, h4⟩ := hok
  dsimp only at h1 h2 h3 h4 ⊢
  have g1 := getU m a (by omega)
  have hd := dfU_eq (m.getD a 0) tk (small_getD hm a) h1
  have b1 : ((0 : Int) ≤ (a : Int)) = True := eq_true (by omega)
  have b2 : ((a : Int) < 7) = True := eq_true (by omega)
  have hne : row ≠ [] := by intro e; rw [e] at h2; simp at h2
  have hpw := pub_w (outT o1 ++ rT rows).length row hne
  have e0 : walkP m 128 tk row a = if dfN (m.getD a 0) tk = 0 then (row, tk) else walkP m 127 (tk ||| 2 ^ tzN (dfN (m.getD a 0) tk)) (row ++ [(tzN (dfN (m.getD a 0) tk) : Int)]) (tzN (dfN (m.getD a 0) tk)) := rfl
  by_cases p : dfN (m.getD a 0) tk = 0
  · have happ := fun S => append_r (outT o1) rows row S hrl
    rw [e0, if_pos p]
    simp only [go_sem, reduceIte, Nat.reduceEqDiff, Nat.reduceAdd, Nat.reduceSub, Nat.reduceLeDiff, Nat.reduceLT, reduceCtorEq, Int.reduceLT, Int.reduceLE, Int.reduceEq, Int.reduceBEq, Int.reduceSub, Int.reduceAdd, Int.reduceMul, Int.reduceNeg, Int.reduceToNat, Nat.reduceMul, Nat.reduceBEq, index_rsl_if, setm, make_ints, condK_dec, wantK_dec, not_dec, and_dec, or_dec, seqK_ite, seqK_none, blockK_ite, blockK_none, opsK_ite, opsK_none, stepK_ite, stepK_none, bodyK_ite, bodyK_none, resK_ite, resK_none, leaveK_ite, leaveK_none, only_ite, only_none, bind_ite, gives_some, gives_none, gives_ite, then_normal, then_ret, then_exit, then_none, then_ite, Option.bind_none, Bool.not_eq_true', decide_eq_false_iff_not, Bool.and_eq_true, Bool.or_eq_true, Option.some.injEq, Int.not_lt, Int.not_le, lp37_1, g1, b1, b2, hd, p, hml, hpw, happ, List.length_map, Int.natCast_zero]
  · obtain ⟨q1, q2, q3⟩ := free_step hm h1 (a := a) p
    have h90 := fun st => c90 (dfN (m.getD a 0) tk) (dfN_lt (small_getD hm a)) st
    rw [e0, if_neg p]
    have pz : (((dfN (m.getD a 0) tk : Nat) : Int) = 0) = False := eq_false (by omega)
    generalize dfN (m.getD a 0) tk = z at *
    have e1 : orU tk (sh1 (tzN z)) = tk ||| 2 ^ tzN z := by rw [(sh1_lt _ q1).1, orU_eq _ _ h1 (sh1_lt _ q1).2]
    have happ := fun S => append_w (outT o1 ++ rT rows) row (tzN z : Int) S (by omega) h2
    have hfu := walk_fuel hm 127 128 (tk ||| 2 ^ tzN z) (row ++ [(tzN z : Int)]) (tzN z) q3 (by omega) (by omega)
    rw [hfu]
    have hlt : (outT o1).length ≤ (outT o1 ++ rT rows).length := by simp
    have hro := fun T acc => ren1_o hlt T acc
    generalize tzN z = b at *
    generalize tk ||| 2 ^ b = tk2 at *
    simp only [go_sem, reduceIte, Nat.reduceEqDiff, Nat.reduceAdd, Nat.reduceSub, Nat.reduceLeDiff, Nat.reduceLT, reduceCtorEq, Int.reduceLT, Int.reduceLE, Int.reduceEq, Int.reduceBEq, Int.reduceSub, Int.reduceAdd, Int.reduceMul, Int.reduceNeg, Int.reduceToNat, Nat.reduceMul, Nat.reduceBEq, index_rsl_if, setm, make_ints, condK_dec, wantK_dec, not_dec, and_dec, or_dec, seqK_ite, seqK_none, blockK_ite, blockK_none, opsK_ite, opsK_none, stepK_ite, stepK_none, bodyK_ite, bodyK_none, resK_ite, resK_none, leaveK_ite, leaveK_none, only_ite, only_none, bind_ite, gives_some, gives_none, gives_ite, then_normal, then_ret, then_exit, then_none, then_ite, Option.bind_none, Bool.not_eq_true', decide_eq_false_iff_not, Bool.and_eq_true, Bool.or_eq_true, Option.some.injEq, Int.not_lt, Int.not_le, lp37_1, g1, b1, b2, hd, pz, hml, h90, e1, happ, List.length_map]
    refine ⟨(tk2, row ++ [(b : Int)], b), by simp only [go_sem, reduceIte, Nat.reduceEqDiff, Nat.reduceAdd, Nat.reduceSub, Nat.reduceLeDiff, Nat.reduceLT, reduceCtorEq, Int.reduceLT, Int.reduceLE, Int.reduceEq, Int.reduceBEq, Int.reduceSub, Int.reduceAdd, Int.reduceMul, Int.reduceNeg, Int.reduceToNat, Nat.reduceMul, Nat.reduceBEq, ren1_locm, loc_tips, locT_eq, hro, ren1_rH, ren1_wH, wAcc_snd, take_T2, okRefsU, renCellsU] <;> rfl, ?_, ?_, fun x en s hq => ?_⟩
    · dsimp only; refine ⟨q3, by simp, by simp; omega, q1⟩
    · dsimp only; omega
    · exact hq

theorem loop37_2 (nl : Bool) (n : Nat) (hn : n ≤ 7) (ps : List (Int × Int)) (o1 : List (Int × Int)) (m : List Nat) (hm : ∀ x ∈ m, x < 128) (hml : m.length = 7) (th : Nat) (hth : th = (outT o1).length) (i : Nat) (tk : Nat) (rows : List (List Int)) (hok : i ≤ n ∧ tk < 128 ∧ rows.length ≤ i) (env : Env) (st : St)
    (hg : gcAV true 3 th (canon env [8, 9, 10, 47, 48]) st = ([(8, .ptr 2 0), (9, U tk), (10, rAV (outT o1).length rows), (47, I n), (48, I i)], ⟨[bkCells nl n ps, [I n, outAV o1], m.map U], outT o1 ++ rT rows⟩)) :
    ∃ x_1 en s, lim (headed pure (run L) true [8, 9, 10, 47, 48] lp37_2 3 th) env st = some (x_1, en, s) ∧ (x_1 = .exit 2 ∧ en.get 10 = rAV (outT o1).length ((List.range' i (n - i)).foldl (ringP m) (tk, rows)).2 ∧ s = ⟨[bkCells nl n ps, [I n, outAV o1], m.map U], outT o1 ++ rT ((List.range' i (n - i)).foldl (ringP m) (tk, rows)).2⟩) := by
  refine loop_wp (α := Nat × Nat × List (List Int)) (fun ⟨i, tk, rows⟩ => n - i) (fun ⟨i, tk, rows⟩ => i ≤ n ∧ tk < 128 ∧ rows.length ≤ i) (fun ⟨i, tk, rows⟩ => ([(8, .ptr 2 0), (9, U tk), (10, rAV (outT o1).length rows), (47, I n), (48, I i)], ⟨[bkCells nl n ps, [I n, outAV o1], m.map U], outT o1 ++ rT rows⟩)) (fun ⟨i, tk, rows⟩ x_1 en s => x_1 = .exit 2 ∧ en.get 10 = rAV (outT o1).length ((List.range' i (n - i)).foldl (ringP m) (tk, rows)).2 ∧ s = ⟨[bkCells nl n ps, [I n, outAV o1], m.map U], outT o1 ++ rT ((List.range' i (n - i)).foldl (ringP m) (tk, rows)).2⟩) (fun ⟨i, tk, rows⟩ hok => ?_) ⟨i, tk, rows⟩ hok env st hg
  simp only at hok
  subst hth
  obtain ⟨h1, h2, h3⟩ := hok
  dsimp only at h1 h2 h3 ⊢
  have hro := fun T acc => ren1_o (Nat.le_refl (outT o1).length) T acc
  by_cases h : i < n
  · have hs := succ64 i (by omega)
    have hlt : ((i : Int) < (n : Int)) = True := eq_true (by omega)
    have hd : List.range' i (n - i) = i :: List.range' (i + 1) (n - (i + 1)) := by
      rw [show n - i = (n - (i + 1)) + 1 from by omega, List.range'_succ]
    rw [hd, List.foldl_cons]
    have g1 := getU m i (by omega)
    have b1 : ((0 : Int) ≤ (i : Int)) = True := eq_true (by omega)
    have b2 : ((i : Int) < 7) = True := eq_true (by omega)
    have hmin := min64 i (by omega)
    have hb1 : ((((tk >>> i) % 2 : Nat) : Int) = 1) = (tk.testBit i = true) := bit_one tk i
    by_cases p1 : tk.testBit i = true
    · have e : ringP m (tk, rows) i = (tk, rows) := by unfold ringP; rw [if_pos (.inl p1)]
      rw [e]
      simp only [go_sem, reduceIte, Nat.reduceEqDiff, Nat.reduceAdd, Nat.reduceSub, Nat.reduceLeDiff, Nat.reduceLT, reduceCtorEq, Int.reduceLT, Int.reduceLE, Int.reduceEq, Int.reduceBEq, Int.reduceSub, Int.reduceAdd, Int.reduceMul, Int.reduceNeg, Int.reduceToNat, Nat.reduceMul, Nat.reduceBEq, index_rsl_if, setm, make_ints, condK_dec, wantK_dec, not_dec, and_dec, or_dec, seqK_ite, seqK_none, blockK_ite, blockK_none, opsK_ite, opsK_none, stepK_ite, stepK_none, bodyK_ite, bodyK_none, resK_ite, resK_none, leaveK_ite, leaveK_none, only_ite, only_none, bind_ite, gives_some, gives_none, gives_ite, then_normal, then_ret, then_exit, then_none, then_ite, Option.bind_none, Bool.not_eq_true', decide_eq_false_iff_not, Bool.and_eq_true, Bool.or_eq_true, Option.some.injEq, Int.not_lt, Int.not_le, lp37_2, hlt, hs, hmin, hb1, p1, hml, List.length_map]
      refine ⟨(i + 1, tk, rows), by simp only [go_sem, reduceIte, Nat.reduceEqDiff, Nat.reduceAdd, Nat.reduceSub, Nat.reduceLeDiff, Nat.reduceLT, reduceCtorEq, Int.reduceLT, Int.reduceLE, Int.reduceEq, Int.reduceBEq, Int.reduceSub, Int.reduceAdd, Int.reduceMul, Int.reduceNeg, Int.reduceToNat, Nat.reduceMul, Nat.reduceBEq, ren1_locm, loc_tips, locT_eq, hro, ren1_r0, rAcc_snd, take_T, okRefsU, renCellsU] <;> rfl, ?_, ?_, fun x en s hq => ?_⟩
      · dsimp only; omega
      · dsimp only; omega
      · exact hq
    · by_cases p2 : m.getD i 0 = 0
      · have e : ringP m (tk, rows) i = (tk, rows) := by unfold ringP; rw [if_pos (.inr p2)]
        rw [e]
        simp only [go_sem, reduceIte, Nat.reduceEqDiff, Nat.reduceAdd, Nat.reduceSub, Nat.reduceLeDiff, Nat.reduceLT, reduceCtorEq, Int.reduceLT, Int.reduceLE, Int.reduceEq, Int.reduceBEq, Int.reduceSub, Int.reduceAdd, Int.reduceMul, Int.reduceNeg, Int.reduceToNat, Nat.reduceMul, Nat.reduceBEq, index_rsl_if, setm, make_ints, condK_dec, wantK_dec, not_dec, and_dec, or_dec, seqK_ite, seqK_none, blockK_ite, blockK_none, opsK_ite, opsK_none, stepK_ite, stepK_none, bodyK_ite, bodyK_none, resK_ite, resK_none, leaveK_ite, leaveK_none, only_ite, only_none, bind_ite, gives_some, gives_none, gives_ite, then_normal, then_ret, then_exit, then_none, then_ite, Option.bind_none, Bool.not_eq_true', decide_eq_false_iff_not, Bool.and_eq_true, Bool.or_eq_true, Option.some.injEq, Int.not_lt, Int.not_le, lp37_2, hlt, hs, hmin, hb1, p1, p2, g1, b1, b2, hml, List.length_map, Int.natCast_zero]
        refine ⟨(i + 1, tk, rows), by simp only [go_sem, reduceIte, Nat.reduceEqDiff, Nat.reduceAdd, Nat.reduceSub, Nat.reduceLeDiff, Nat.reduceLT, reduceCtorEq, Int.reduceLT, Int.reduceLE, Int.reduceEq, Int.reduceBEq, Int.reduceSub, Int.reduceAdd, Int.reduceMul, Int.reduceNeg, Int.reduceToNat, Nat.reduceMul, Nat.reduceBEq, ren1_locm, loc_tips, locT_eq, hro, ren1_r0, rAcc_snd, take_T, okRefsU, renCellsU] <;> rfl, ?_, ?_, fun x en s hq => ?_⟩
        · dsimp only; omega
        · dsimp only; omega
        · exact hq
      · have pz : (((m.getD i 0 : Nat) : Int) = 0) = False := eq_false (by omega)
        have hg := or_grow h2 (show i < 7 by omega) (by simpa using p1)
        have hwt := walk_tk hm 128 (tk ||| 2 ^ i) [(i : Int)] i hg.2
        have e1 : orU tk (sh1 i) = tk ||| 2 ^ i := by rw [(sh1_lt _ (by omega)).1, orU_eq _ _ h2 (sh1_lt _ (by omega)).2]
        have e : ringP m (tk, rows) i = ((walkP m 128 (tk ||| 2 ^ i) [(i : Int)] i).2, rows ++ [(walkP m 128 (tk ||| 2 ^ i) [(i : Int)] i).1]) := by unfold ringP; rw [if_neg (by simp only [p1, p2]; simp)]
        have hL := loop37_1 nl n ps o1 m hm hml rows (by omega) _ rfl i (tk ||| 2 ^ i) [(i : Int)] i ⟨hg.2, by simp, by simp; omega, by omega⟩
        rw [e]
        have hro2 := fun T acc => ren1_o (show (outT o1).length ≤ (outT o1 ++ rT rows).length by simp) T acc
        have hw0 : wAV (outT o1 ++ rT rows).length [(i : Int)] = .lst .full 1 [I i] := rfl
        have hT0 : wT [(i : Int)] = [] := rfl
        simp only [go_sem, reduceIte, Nat.reduceEqDiff, Nat.reduceAdd, Nat.reduceSub, Nat.reduceLeDiff, Nat.reduceLT, reduceCtorEq, Int.reduceLT, Int.reduceLE, Int.reduceEq, Int.reduceBEq, Int.reduceSub, Int.reduceAdd, Int.reduceMul, Int.reduceNeg, Int.reduceToNat, Nat.reduceMul, Nat.reduceBEq, index_rsl_if, setm, make_ints, condK_dec, wantK_dec, not_dec, and_dec, or_dec, seqK_ite, seqK_none, blockK_ite, blockK_none, opsK_ite, opsK_none, stepK_ite, stepK_none, bodyK_ite, bodyK_none, resK_ite, resK_none, leaveK_ite, leaveK_none, only_ite, only_none, bind_ite, gives_some, gives_none, gives_ite, then_normal, then_ret, then_exit, then_none, then_ite, Option.bind_none, Bool.not_eq_true', decide_eq_false_iff_not, Bool.and_eq_true, Bool.or_eq_true, Option.some.injEq, Int.not_lt, Int.not_le, lp37_2, hlt, hs, hmin, hb1, p1, pz, g1, b1, b2, e1, hml, List.length_map, Int.natCast_zero]
        generalize hg : lim (headed pure (run L) true _ lp37_1 _ _) _ _ = o
        obtain ⟨x, en, s, rfl, h2⟩ : ∃ x en s, o = some (x, en, s) ∧ _ := by rw [← hg]; exact hL _ _ (by simp only [go_sem, reduceIte, Nat.reduceEqDiff, Nat.reduceAdd, Nat.reduceSub, Nat.reduceLeDiff, Nat.reduceLT, reduceCtorEq, Int.reduceLT, Int.reduceLE, Int.reduceEq, Int.reduceBEq, Int.reduceSub, Int.reduceAdd, Int.reduceMul, Int.reduceNeg, Int.reduceToNat, Nat.reduceMul, Nat.reduceBEq, hro2, ren1_rH, List.take_length, okRefsU, renCellsU, hw0, hT0, List.append_nil, Int.natCast_zero] <;> rfl)
        clear hg
        obtain ⟨rfl, e8, e9, e10, e47, e48, rfl⟩ := h2
        generalize (walkP m 128 (tk ||| 2 ^ i) [(i : Int)] i).1 = w at *
        generalize (walkP m 128 (tk ||| 2 ^ i) [(i : Int)] i).2 = tk2 at *
        have hfst := rXAcc_snd (outT o1) rows w
        simp only [go_sem, reduceIte, Nat.reduceEqDiff, Nat.reduceAdd, Nat.reduceSub, Nat.reduceLeDiff, Nat.reduceLT, reduceCtorEq, Int.reduceLT, Int.reduceLE, Int.reduceEq, Int.reduceBEq, Int.reduceSub, Int.reduceAdd, Int.reduceMul, Int.reduceNeg, Int.reduceToNat, Nat.reduceMul, Nat.reduceBEq, index_rsl_if, setm, make_ints, condK_dec, wantK_dec, not_dec, and_dec, or_dec, seqK_ite, seqK_none, blockK_ite, blockK_none, opsK_ite, opsK_none, stepK_ite, stepK_none, bodyK_ite, bodyK_none, resK_ite, resK_none, leaveK_ite, leaveK_none, only_ite, only_none, bind_ite, gives_some, gives_none, gives_ite, then_normal, then_ret, then_exit, then_none, then_ite, Option.bind_none, Bool.not_eq_true', decide_eq_false_iff_not, Bool.and_eq_true, Bool.or_eq_true, Option.some.injEq, Int.not_lt, Int.not_le, lp37_2, e8, e9, e10, e47, e48, hs]
        refine ⟨(i + 1, tk2, rows ++ [w]), by simp only [go_sem, reduceIte, Nat.reduceEqDiff, Nat.reduceAdd, Nat.reduceSub, Nat.reduceLeDiff, Nat.reduceLT, reduceCtorEq, Int.reduceLT, Int.reduceLE, Int.reduceEq, Int.reduceBEq, Int.reduceSub, Int.reduceAdd, Int.reduceMul, Int.reduceNeg, Int.reduceToNat, Nat.reduceMul, Nat.reduceBEq, ren1_locm, loc_tips, locT_eq, e8, e9, e10, e47, e48, hro, ren1_rX, hfst, take_rX, okRefsU, renCellsU] <;> rfl, ?_, ?_, fun x en s hq => ?_⟩
        · dsimp only; refine ⟨by omega, hwt, by simp; omega⟩
        · dsimp only; omega
        · exact hq
  · obtain rfl : i = n := by omega
    have hz : List.range' i (i - i) = [] := by simp
    rw [hz]
    simp only [go_sem, reduceIte, Nat.reduceEqDiff, Nat.reduceAdd, Nat.reduceSub, Nat.reduceLeDiff, Nat.reduceLT, reduceCtorEq, Int.reduceLT, Int.reduceLE, Int.reduceEq, Int.reduceBEq, Int.reduceSub, Int.reduceAdd, Int.reduceMul, Int.reduceNeg, Int.reduceToNat, Nat.reduceMul, Nat.reduceBEq, index_rsl_if, setm, make_ints, condK_dec, wantK_dec, not_dec, and_dec, or_dec, seqK_ite, seqK_none, blockK_ite, blockK_none, opsK_ite, opsK_none, stepK_ite, stepK_none, bodyK_ite, bodyK_none, resK_ite, resK_none, leaveK_ite, leaveK_none, only_ite, only_none, bind_ite, gives_some, gives_none, gives_ite, then_normal, then_ret, then_exit, then_none, then_ite, Option.bind_none, Bool.not_eq_true', decide_eq_false_iff_not, Bool.and_eq_true, Bool.or_eq_true, Option.some.injEq, Int.not_lt, Int.not_le, lp37_2, show ((i : Int) < (i : Int)) = False from eq_false (by omega)]
    exact ⟨rfl, rfl⟩

attribute [local go_sem] okRef_out storable_out shaped_out cells_out fin_out pub_out okRef_w okRef_r okRef_rX

/-! ### the rings, by the program -/
def onesL (W : List ((Int × Int) × Int)) : List (Int × Int) := (W.filter fun e => decide (e.2 = 1)).map fun e => e.1
def onesR (n : Nat) (ps : List (Int × Int)) : List (Int × Int) := onesL (ps.zip (sharesR n ps))
theorem onesL_nil : onesL [] = [] := rfl
theorem onesL_cons (e : (Int × Int) × Int) (W : List ((Int × Int) × Int)) : onesL (e :: W) = if e.2 = 1 then e.1 :: onesL W else onesL W := by
  unfold onesL
  by_cases h : e.2 = 1
  · rw [if_pos h, List.filter_cons_of_pos (by simp [h]), List.map_cons]
  · rw [if_neg h, List.filter_cons_of_neg (by simp [h])]
theorem onesL_len (W : List ((Int × Int) × Int)) : (onesL W).length ≤ W.length := by
  unfold onesL; rw [List.length_map]; exact List.length_filter_le _ _
theorem drop_zip (ps : List (Int × Int)) (s : List Int) (i : Nat) (h : i < ps.length) (h2 : i < s.length) : (ps.zip s).drop i = (ps[i], s[i]) :: (ps.zip s).drop (i + 1) := by
  have hl : i < (ps.zip s).length := by rw [List.length_zip]; omega
  rw [List.drop_eq_getElem_cons hl, List.getElem_zip]

theorem loop37_0 (nl n2 : Bool) (n : Nat) (ps : List (Int × Int)) (hlen : ps.length ≤ 10) (s0 : List Int) (hs0 : s0.length = ps.length) (i : Nat) (o1 : List (Int × Int)) (hok : i ≤ ps.length ∧ o1.length ≤ i) (env : Env) (st : St)
    (hg : gcAV true 2 0 (canon env [1, 5, 24, 25, 26]) st = ([(1, .ptr 0 0), (5, .ptr 1 0), (24, sl 1 n2 (s0.map I)), (25, I ps.length), (26, I i)], ⟨[bkCells nl n ps, [I n, outAV o1]], outT o1⟩)) :
    ∃ x_1 en s, lim (headed pure (run L) true [1, 5, 24, 25, 26] lp37_0 2 0) env st = some (x_1, en, s) ∧ (x_1 = .exit 0 ∧ en.get 1 = .ptr 0 0 ∧ en.get 5 = .ptr 1 0 ∧ s = ⟨[bkCells nl n ps, [I n, outAV (o1 ++ onesL ((ps.zip s0).drop i))]], outT (o1 ++ onesL ((ps.zip s0).drop i))⟩) := by
  refine loop_wp (α := Nat × List (Int × Int)) (fun ⟨i, o1⟩ => ps.length - i) (fun ⟨i, o1⟩ => i ≤ ps.length ∧ o1.length ≤ i) (fun ⟨i, o1⟩ => ([(1, .ptr 0 0), (5, .ptr 1 0), (24, sl 1 n2 (s0.map I)), (25, I ps.length), (26, I i)], ⟨[bkCells nl n ps, [I n, outAV o1]], outT o1⟩)) (fun ⟨i, o1⟩ x_1 en s => x_1 = .exit 0 ∧ en.get 1 = .ptr 0 0 ∧ en.get 5 = .ptr 1 0 ∧ s = ⟨[bkCells nl n ps, [I n, outAV (o1 ++ onesL ((ps.zip s0).drop i))]], outT (o1 ++ onesL ((ps.zip s0).drop i))⟩) (fun ⟨i, o1⟩ hok => ?_) ⟨i, o1⟩ hok env st hg
  simp only at hok
  obtain ⟨h1, h2⟩ := hok
  dsimp only at h1 h2 ⊢
  by_cases h : i < ps.length
  · have hx := index_prs2 nl ps i h
    have hy := index_ints n2 s0 i (by omega)
    have hs := succ64 i (by omega)
    have hd := drop_zip ps s0 i h (by omega)
    have hlt : ((i : Int) < (ps.length : Int)) = True := eq_true (by omega)
    rw [hd, onesL_cons]
    generalize s0[i] = a at *
    generalize ps[i] = c at *
    obtain ⟨u, v⟩ := c
    dsimp only at hx ⊢
    have happ := fun S => append_out o1 u v S (by omega)
    by_cases p : a = 1
    · rw [if_pos p]
      simp only [go_sem, reduceIte, Nat.reduceEqDiff, Nat.reduceAdd, Nat.reduceSub, Nat.reduceLeDiff, Nat.reduceLT, reduceCtorEq, Int.reduceLT, Int.reduceLE, Int.reduceEq, Int.reduceBEq, Int.reduceSub, Int.reduceAdd, Int.reduceMul, Int.reduceNeg, Int.reduceToNat, Nat.reduceMul, Nat.reduceBEq, index_rsl_if, setm, make_ints, condK_dec, wantK_dec, not_dec, and_dec, or_dec, seqK_ite, seqK_none, blockK_ite, blockK_none, opsK_ite, opsK_none, stepK_ite, stepK_none, bodyK_ite, bodyK_none, resK_ite, resK_none, leaveK_ite, leaveK_none, only_ite, only_none, bind_ite, gives_some, gives_none, gives_ite, then_normal, then_ret, then_exit, then_none, then_ite, Option.bind_none, Bool.not_eq_true', decide_eq_false_iff_not, Bool.and_eq_true, Bool.or_eq_true, Option.some.injEq, Int.not_lt, Int.not_le, lp37_0, hx, hy, hlt, hs, p, happ]
      refine ⟨(i + 1, o1 ++ [(u, v)]), by simp only [go_sem, reduceIte, Nat.reduceEqDiff, Nat.reduceAdd, Nat.reduceSub, Nat.reduceLeDiff, Nat.reduceLT, reduceCtorEq, Int.reduceLT, Int.reduceLE, Int.reduceEq, Int.reduceBEq, Int.reduceSub, Int.reduceAdd, Int.reduceMul, Int.reduceNeg, Int.reduceToNat, Nat.reduceMul, Nat.reduceBEq, ren1_locm, loc_tips, locT_eq, ren1_out, outAcc_snd] <;> rfl, ?_, ?_, fun x en s hq => ?_⟩
      · dsimp only; refine ⟨by omega, by simp; omega⟩
      · dsimp only; omega
      · simpa using hq
    · rw [if_neg p]
      simp only [go_sem, reduceIte, Nat.reduceEqDiff, Nat.reduceAdd, Nat.reduceSub, Nat.reduceLeDiff, Nat.reduceLT, reduceCtorEq, Int.reduceLT, Int.reduceLE, Int.reduceEq, Int.reduceBEq, Int.reduceSub, Int.reduceAdd, Int.reduceMul, Int.reduceNeg, Int.reduceToNat, Nat.reduceMul, Nat.reduceBEq, index_rsl_if, setm, make_ints, condK_dec, wantK_dec, not_dec, and_dec, or_dec, seqK_ite, seqK_none, blockK_ite, blockK_none, opsK_ite, opsK_none, stepK_ite, stepK_none, bodyK_ite, bodyK_none, resK_ite, resK_none, leaveK_ite, leaveK_none, only_ite, only_none, bind_ite, gives_some, gives_none, gives_ite, then_normal, then_ret, then_exit, then_none, then_ite, Option.bind_none, Bool.not_eq_true', decide_eq_false_iff_not, Bool.and_eq_true, Bool.or_eq_true, Option.some.injEq, Int.not_lt, Int.not_le, lp37_0, hx, hy, hlt, hs, p]
      refine ⟨(i + 1, o1), by simp only [go_sem, reduceIte, Nat.reduceEqDiff, Nat.reduceAdd, Nat.reduceSub, Nat.reduceLeDiff, Nat.reduceLT, reduceCtorEq, Int.reduceLT, Int.reduceLE, Int.reduceEq, Int.reduceBEq, Int.reduceSub, Int.reduceAdd, Int.reduceMul, Int.reduceNeg, Int.reduceToNat, Nat.reduceMul, Nat.reduceBEq, ren1_locm, loc_tips, locT_eq, ren1_out, outAcc_snd] <;> rfl, ?_, ?_, fun x en s hq => ?_⟩
      · dsimp only; omega
      · dsimp only; omega
      · exact hq
  · have hz : (ps.zip s0).drop i = [] := List.drop_eq_nil_of_le (by rw [List.length_zip]; omega)
    rw [hz, onesL_nil, List.append_nil]
    have hlt : ((i : Int) < (ps.length : Int)) = False := eq_false (by omega)
    simp only [go_sem, reduceIte, Nat.reduceEqDiff, Nat.reduceAdd, Nat.reduceSub, Nat.reduceLeDiff, Nat.reduceLT, reduceCtorEq, Int.reduceLT, Int.reduceLE, Int.reduceEq, Int.reduceBEq, Int.reduceSub, Int.reduceAdd, Int.reduceMul, Int.reduceNeg, Int.reduceToNat, Nat.reduceMul, Nat.reduceBEq, index_rsl_if, setm, make_ints, condK_dec, wantK_dec, not_dec, and_dec, or_dec, seqK_ite, seqK_none, blockK_ite, blockK_none, opsK_ite, opsK_none, stepK_ite, stepK_none, bodyK_ite, bodyK_none, resK_ite, resK_none, leaveK_ite, leaveK_none, only_ite, only_none, bind_ite, gives_some, gives_none, gives_ite, then_normal, then_ret, then_exit, then_none, then_ite, Option.bind_none, Bool.not_eq_true', decide_eq_false_iff_not, Bool.and_eq_true, Bool.or_eq_true, Option.some.injEq, Int.not_lt, Int.not_le, lp37_0, hlt]

theorem fin_r (st : St) (k : Nat) (rows : List (List Int)) : fin st (rAV k rows) = sl 1 true (rows.map rwAV) := by
  unfold rAV
  by_cases h : rows = []
  · subst h; rfl
  · rw [if_neg h, sl_ne (by simpa using h)]; rfl
attribute [local go_sem] fin_r
def rgv (n : Int) (ps : List (Int × Int)) : List (List Int) × Int := if chk n ps = 0 then (ringsP n.toNat (advL (onesR n.toNat ps)), 0) else ([], chk n ps)
theorem onesL_in {ps : List (Int × Int)} {s : List Int} : ∀ p ∈ onesL (ps.zip s), p ∈ ps := by
  intro p hp
  unfold onesL at hp
  obtain ⟨e, he, rfl⟩ := List.mem_map.1 hp
  exact (List.of_mem_zip (List.mem_filter.1 he).1).1

theorem c37 (nl : Bool) (n : Int) (ps : List (Int × Int)) (st : St) : run L 37 [bkAV nl n ps] st = some (.tup [sl 1 true ((rgv n ps).1.map rwAV), I (rgv n ps).2], st) := by
  rw [run_pure (fn := ir37) rfl rfl]
  have h22 := fun st => c22 nl n ps st
  unfold rgv
  by_cases h : chk n ps = 0
  · obtain ⟨h1, h2, h3, h4, h5⟩ := chk_zero h
    obtain ⟨k, rfl⟩ := Int.eq_ofNat_of_zero_le (show 0 ≤ n by omega)
    obtain ⟨n2, h87⟩ := c87 nl k (by omega) (by omega) ps h3 h4 h5 (chk_nodup h)
    have hl := (sharesR_len k ps).1
    rw [if_pos h]
    simp only [Int.toNat_natCast]
    have h7o : ∀ p ∈ onesR k ps, okP p := fun p hp => h5 p (onesL_in p hp)
    have hol : (onesR k ps).length ≤ 10 := by
      have h6 := onesL_len (ps.zip (sharesR k ps))
      rw [List.length_zip] at h6
      unfold onesR; omega
    have h89 : ∀ st, run L 89 [.agg [I k, outAV (onesR k ps)]] st = some (.agg ((advL (onesR k ps)).map U), st) := fun st => by
      rw [← c89 true k (onesR k ps) (by omega) h7o st]
      exact run_args (fn := ir89) rfl rfl st (by simp only [pubs, pub, pub_out, pub_sl])
    have hal := advL_len h7o
    have has := advL_small h7o
    have hput : putCells z7 0 ((advL (onesR k ps)).map U) = (advL (onesR k ps)).map U ∧ ((advL (onesR k ps)).map U).all storable = true := by
      obtain ⟨a, b, c, d, f, g, k, h6⟩ := len_seven hal
      rw [h6]
      exact ⟨rfl, rfl⟩
    have hz : z7 = [.v (.int .u64 0), .v (.int .u64 0), .v (.int .u64 0), .v (.int .u64 0), .v (.int .u64 0), .v (.int .u64 0), .v (.int .u64 0)] := rfl
    rw [hz] at hput
    have hro := fun T acc => ren1_o (Nat.le_refl (outT (onesR k ps)).length) T acc
    simp only [ir37, go_sem, reduceIte, Nat.reduceEqDiff, Nat.reduceAdd, Nat.reduceSub, Nat.reduceLeDiff, Nat.reduceLT, reduceCtorEq, Int.reduceLT, Int.reduceLE, Int.reduceEq, Int.reduceBEq, Int.reduceSub, Int.reduceAdd, Int.reduceMul, Int.reduceNeg, Int.reduceToNat, Nat.reduceMul, Nat.reduceBEq, h22, h, h87, List.length_map, hl]
    generalize hg : lim (headed pure (run L) true _ lp37_0 _ _) _ _ = o
    obtain ⟨x, en, s, rfl, h2⟩ : ∃ x en s, o = some (x, en, s) ∧ _ := by rw [← hg]; exact loop37_0 nl n2 k ps h3 (sharesR k ps) hl 0 [] ⟨by omega, by simp⟩ _ _ (by simp only [go_sem, reduceIte, Nat.reduceEqDiff, Nat.reduceAdd, Nat.reduceSub, Nat.reduceLeDiff, Nat.reduceLT, reduceCtorEq, Int.reduceLT, Int.reduceLE, Int.reduceEq, Int.reduceBEq, Int.reduceSub, Int.reduceAdd, Int.reduceMul, Int.reduceNeg, Int.reduceToNat, Nat.reduceMul, Nat.reduceBEq, show outAV [] = .v (.slice none 0 0) from rfl, show outT [] = [] from rfl, ren1_out, outAcc_snd, Int.natCast_zero] <;> rfl)
    clear hg
    rw [List.drop_zero, List.nil_append] at h2
    obtain ⟨rfl, e1, e5, rfl⟩ := h2
    have hones : onesL (ps.zip (sharesR k ps)) = onesR k ps := rfl
    rw [hones]
    generalize onesR k ps = o1 at *
    generalize advL o1 = m at *
    simp only [go_sem, reduceIte, Nat.reduceEqDiff, Nat.reduceAdd, Nat.reduceSub, Nat.reduceLeDiff, Nat.reduceLT, reduceCtorEq, Int.reduceLT, Int.reduceLE, Int.reduceEq, Int.reduceBEq, Int.reduceSub, Int.reduceAdd, Int.reduceMul, Int.reduceNeg, Int.reduceToNat, Nat.reduceMul, Nat.reduceBEq, e1, e5, h89, hput.1, hput.2, hal, List.length_map]
    generalize hg : lim (headed pure (run L) true _ lp37_2 _ _) _ _ = o
    obtain ⟨x, en, s, rfl, h2⟩ : ∃ x en s, o = some (x, en, s) ∧ _ := by rw [← hg]; exact loop37_2 nl k (by omega) ps o1 m has hal _ rfl 0 0 [] ⟨by omega, by omega, by simp⟩ _ _ (by simp only [go_sem, reduceIte, Nat.reduceEqDiff, Nat.reduceAdd, Nat.reduceSub, Nat.reduceLeDiff, Nat.reduceLT, reduceCtorEq, Int.reduceLT, Int.reduceLE, Int.reduceEq, Int.reduceBEq, Int.reduceSub, Int.reduceAdd, Int.reduceMul, Int.reduceNeg, Int.reduceToNat, Nat.reduceMul, Nat.reduceBEq, hro, show rAV (outT o1).length [] = .v (.slice none 0 0) from rfl, show rT [] = [] from rfl, List.append_nil, List.take_length, okRefsU, renCellsU, Int.natCast_zero] <;> rfl)
    clear hg
    rw [Nat.sub_zero, ← List.range_eq_range'] at h2
    obtain ⟨rfl, e10, rfl⟩ := h2
    have hring : ((List.range k).foldl (ringP m) (0, [])).2 = ringsP k m := rfl
    rw [hring] at e10
    simp only [go_sem, reduceIte, Nat.reduceEqDiff, Nat.reduceAdd, Nat.reduceSub, Nat.reduceLeDiff, Nat.reduceLT, reduceCtorEq, Int.reduceLT, Int.reduceLE, Int.reduceEq, Int.reduceBEq, Int.reduceSub, Int.reduceAdd, Int.reduceMul, Int.reduceNeg, Int.reduceToNat, Nat.reduceMul, Nat.reduceBEq, e10]
  · rw [if_neg h]
    simp only [ir37, go_sem, reduceIte, Nat.reduceEqDiff, Nat.reduceAdd, Nat.reduceSub, Nat.reduceLeDiff, Nat.reduceLT, reduceCtorEq, Int.reduceLT, Int.reduceLE, Int.reduceEq, Int.reduceBEq, Int.reduceSub, Int.reduceAdd, Int.reduceMul, Int.reduceNeg, Int.reduceToNat, Nat.reduceMul, Nat.reduceBEq, h22, h]
    rfl


attribute [local go_sem] okRef_l fin_l
/-! ### the rings, by the reference -/
def joinB (os : List (Int × Int)) (a b : Int) : Bool := decide ((min a b, max a b) ∈ os)
def lastL (b : List Int) : Int := b.getD (b.length - 1) 0
def rgHd (os : List (Int × Int)) (b : List Int) : List (List Int) := if 2 < b.length ∧ b.getD 1 0 < lastL b ∧ joinB os (lastL b) (b.getD 0 0) = true then [b] else []
def rgF (n : Nat) (os : List (Int × Int)) : Nat → List Int → List (List Int)
  | 0, b => rgHd os b
  | k + 1, b => rgHd os b ++ (List.range' ((b.getD 0 0).toNat + 1) (n - ((b.getD 0 0).toNat + 1))).flatMap fun (x : Nat) => if (x : Int) ∉ b ∧ joinB os (lastL b) x = true then rgF n os k (b ++ [(x : Int)]) else []
theorem flat_len {α β : Type} (f : α → List β) (B : Nat) : ∀ l : List α, (∀ a ∈ l, (f a).length ≤ B) → (l.flatMap f).length ≤ l.length * B
  | [], _ => by simp
  | a :: l, h => by
    have h1 := h a (by simp)
    have h2 := flat_len f B l (fun x hx => h x (by simp [hx]))
    rw [List.flatMap_cons, List.length_append, List.length_cons, Nat.add_mul]
    omega
def bd6 : Nat → Nat
  | 0 => 1
  | k + 1 => 1 + 6 * bd6 k
theorem rgF_len {n : Nat} (hn : n ≤ 7) (os : List (Int × Int)) : ∀ k b, (rgF n os k b).length ≤ bd6 k
  | 0, b => by
    simp only [rgF, rgHd, bd6]; split <;> simp
  | k + 1, b => by
    simp only [rgF, bd6]
    have h1 : (rgHd os b).length ≤ 1 := by unfold rgHd; split <;> simp
    have h2 := flat_len (fun (x : Nat) => if (x : Int) ∉ b ∧ joinB os (lastL b) x = true then rgF n os k (b ++ [(x : Int)]) else []) (bd6 k) (List.range' ((b.getD 0 0).toNat + 1) (n - ((b.getD 0 0).toNat + 1))) (by
      intro x _
      split
      · exact rgF_len hn os k _
      · simp)
    have h3 : (List.range' ((b.getD 0 0).toNat + 1) (n - ((b.getD 0 0).toNat + 1))).length ≤ 6 := by rw [List.length_range']; omega
    have h4 := Nat.mul_le_mul_right (bd6 k) h3
    rw [List.length_append]
    omega
theorem bd6_le : ∀ k, k ≤ 6 → bd6 k ≤ 55987 := by decide

/-- All rings, by the reference. -/
def rgsR (n : Nat) (os : List (Int × Int)) : List (List Int) := (List.range n).flatMap fun (a : Nat) => rgF n os 6 [(a : Int)]


/-! ### all graphs in which each article has no pair or two -/
def edges (n : Nat) : List (Nat × Nat) := (List.range n).flatMap fun a => ((List.range n).filter fun b => decide (a < b)).map fun b => (a, b)
def incD (d : List Nat) (e : Nat × Nat) : List Nat := (d.set e.1 (d.getD e.1 0 + 1)).set e.2 (d.getD e.2 0 + 1)
def addM (M : Nat) (e : Nat × Nat) : Nat := M ||| 2 ^ (7 * e.1 + e.2) ||| 2 ^ (7 * e.2 + e.1)
def mOf (M : Nat) : List Nat := (List.range 7).map fun a => (M >>> (7 * a)) % 128
/-- The number first, then what is asked of it. -/
def forceN (x : Nat) (f : Nat → Bool) : Bool := match x with
  | 0 => f 0
  | k + 1 => f (k + 1)
theorem forceN_eq (x : Nat) (f : Nat → Bool) : forceN x f = f x := by cases x <;> rfl
def leafM (P : List Nat → Bool) (M : Nat) : Bool := forceN (M % 128) fun a => forceN (M >>> 7 % 128) fun b => forceN (M >>> 14 % 128) fun c => forceN (M >>> 21 % 128) fun d => forceN (M >>> 28 % 128) fun e => forceN (M >>> 35 % 128) fun f => forceN (M >>> 42 % 128) fun g => P [a, b, c, d, e, f, g]
theorem leafM_eq (P : List Nat → Bool) (M : Nat) : leafM P M = P (mOf M) := by
  unfold leafM
  simp only [forceN_eq]
  rfl
def allSub (P : List Nat → Bool) : List (Nat × Nat) → List Nat → Nat → Bool
  | [], d, M => d.contains 1 || leafM P M
  | e :: E, d, M => allSub P E d M && (Nat.blt 1 (d.getD e.1 0) || (Nat.blt 1 (d.getD e.2 0) || forceN (addM M e) fun M => allSub P E (incD d e) M))
def touches (a : Nat) (e : Nat × Nat) : Bool := decide (a = e.1 ∨ a = e.2)
/-! ### the reference's rings, by masks -/
def Jm (m : List Nat) (a b : Nat) : Bool := (m.getD a 0).testBit b
def lastN (b : List Nat) : Nat := b.getD (b.length - 1) 0
/-- The number first, then what is made of it. -/
def forceA {α : Type} (x : Nat) (f : Nat → α) : α := match x with
  | 0 => f 0
  | k + 1 => f (k + 1)
theorem forceA_eq {α : Type} (x : Nat) (f : Nat → α) : forceA x f = f x := by cases x <;> rfl
/-- b begins at a, its last has the neighbours w. -/
def rgHJ (a l w : Nat) (b : List Nat) : List (List Nat) := bif w.testBit a && (Nat.blt 2 b.length && Nat.blt (b.getD 1 0) l) then [b] else []
def rgJ (n : Nat) (m : List Nat) : Nat → Nat → Nat → List Nat → List (List Nat)
  | 0, a, l, b => forceA (m.getD l 0) fun w => rgHJ a l w b
  | k + 1, a, l, b => forceA (m.getD l 0) fun w => rgHJ a l w b ++ (List.range' (a + 1) (n - (a + 1))).flatMap fun (x : Nat) => bif w.testBit x && !(b.contains x) then rgJ n m k a x (b ++ [x]) else []
def intL (b : List Nat) : List Int := b.map fun (a : Nat) => (a : Int)
def okG (n : Nat) (m : List Nat) : Bool := decide (ringsP n m = ((List.range n).flatMap fun a => rgJ n m 6 a a [a]).map intL)
theorem allG0 : allSub (okG 0) (edges 0) [0, 0, 0, 0, 0, 0, 0] 0 = true := by kernel_rfl
theorem allG1 : allSub (okG 1) (edges 1) [0, 0, 0, 0, 0, 0, 0] 0 = true := by kernel_rfl
theorem allG2 : allSub (okG 2) (edges 2) [0, 0, 0, 0, 0, 0, 0] 0 = true := by kernel_rfl
theorem allG3 : allSub (okG 3) (edges 3) [0, 0, 0, 0, 0, 0, 0] 0 = true := by kernel_rfl
theorem allG4 : allSub (okG 4) (edges 4) [0, 0, 0, 0, 0, 0, 0] 0 = true := by kernel_rfl
theorem allG5 : allSub (okG 5) (edges 5) [0, 0, 0, 0, 0, 0, 0] 0 = true := by kernel_rfl
theorem allG6 : allSub (okG 6) (edges 6) [0, 0, 0, 0, 0, 0, 0] 0 = true := by kernel_rfl
/-- What the first pairs lead to. -/
def states : List (Nat × Nat) → List Nat → Nat → List (List Nat × Nat)
  | [], d, M => [(d, M)]
  | e :: E, d, M => states E d M ++ (if Nat.blt 1 (d.getD e.1 0) = true ∨ Nat.blt 1 (d.getD e.2 0) = true then [] else states E (incD d e) (addM M e))
theorem allSub_split {P : List Nat → Bool} {E2 : List (Nat × Nat)} : ∀ (E1 : List (Nat × Nat)) (d : List Nat) (M : Nat), (∀ s ∈ states E1 d M, allSub P E2 s.1 s.2 = true) → allSub P (E1 ++ E2) d M = true
  | [], d, M, h => h (d, M) (by simp [states])
  | e :: E, d, M, h => by
    simp only [states, List.mem_append] at h
    simp only [List.cons_append, allSub, forceN_eq, Bool.and_eq_true, Bool.or_eq_true]
    refine ⟨allSub_split E d M (fun s hs => h s (.inl hs)), ?_⟩
    by_cases c : Nat.blt 1 (d.getD e.1 0) = true ∨ Nat.blt 1 (d.getD e.2 0) = true
    · rcases c with c | c
      · exact .inl c
      · exact .inr (.inl c)
    · exact .inr (.inr (allSub_split E (incD d e) (addM M e) (fun s hs => h s (.inr (by rw [if_neg c]; exact hs)))))
def E7a : List (Nat × Nat) := [(0, 1), (0, 2), (0, 3), (0, 4), (0, 5), (0, 6)]
def E7b : List (Nat × Nat) := [(1, 2), (1, 3), (1, 4), (1, 5), (1, 6), (2, 3), (2, 4), (2, 5), (2, 6), (3, 4), (3, 5), (3, 6), (4, 5), (4, 6), (5, 6)]
theorem edges7 : edges 7 = E7a ++ E7b := by kernel_rfl
theorem states7 : states E7a [0, 0, 0, 0, 0, 0, 0] 0 = [([0, 0, 0, 0, 0, 0, 0], 0), ([1, 0, 0, 0, 0, 0, 1], 4398046511168), ([1, 0, 0, 0, 0, 1, 0], 34359738400), ([2, 0, 0, 0, 0, 1, 1], 4432406249568), ([1, 0, 0, 0, 1, 0, 0], 268435472), ([2, 0, 0, 0, 1, 0, 1], 4398314946640), ([2, 0, 0, 0, 1, 1, 0], 34628173872), ([1, 0, 0, 1, 0, 0, 0], 2097160), ([2, 0, 0, 1, 0, 0, 1], 4398048608328), ([2, 0, 0, 1, 0, 1, 0], 34361835560), ([2, 0, 0, 1, 1, 0, 0], 270532632), ([1, 0, 1, 0, 0, 0, 0], 16388), ([2, 0, 1, 0, 0, 0, 1], 4398046527556), ([2, 0, 1, 0, 0, 1, 0], 34359754788), ([2, 0, 1, 0, 1, 0, 0], 268451860), ([2, 0, 1, 1, 0, 0, 0], 2113548), ([1, 1, 0, 0, 0, 0, 0], 130), ([2, 1, 0, 0, 0, 0, 1], 4398046511298), ([2, 1, 0, 0, 0, 1, 0], 34359738530), ([2, 1, 0, 0, 1, 0, 0], 268435602), ([2, 1, 0, 1, 0, 0, 0], 2097290), ([2, 1, 1, 0, 0, 0, 0], 16518)] := by kernel_rfl
theorem part7_0 : allSub (okG 7) E7b [0, 0, 0, 0, 0, 0, 0] 0 = true := by kernel_rfl
theorem part7_1 : allSub (okG 7) E7b [1, 0, 0, 0, 0, 0, 1] 4398046511168 = true := by kernel_rfl
theorem part7_2 : allSub (okG 7) E7b [1, 0, 0, 0, 0, 1, 0] 34359738400 = true := by kernel_rfl
theorem part7_3 : allSub (okG 7) E7b [2, 0, 0, 0, 0, 1, 1] 4432406249568 = true := by kernel_rfl
theorem part7_4 : allSub (okG 7) E7b [1, 0, 0, 0, 1, 0, 0] 268435472 = true := by kernel_rfl
theorem part7_5 : allSub (okG 7) E7b [2, 0, 0, 0, 1, 0, 1] 4398314946640 = true := by kernel_rfl
theorem part7_6 : allSub (okG 7) E7b [2, 0, 0, 0, 1, 1, 0] 34628173872 = true := by kernel_rfl
theorem part7_7 : allSub (okG 7) E7b [1, 0, 0, 1, 0, 0, 0] 2097160 = true := by kernel_rfl
theorem part7_8 : allSub (okG 7) E7b [2, 0, 0, 1, 0, 0, 1] 4398048608328 = true := by kernel_rfl
theorem part7_9 : allSub (okG 7) E7b [2, 0, 0, 1, 0, 1, 0] 34361835560 = true := by kernel_rfl
theorem part7_10 : allSub (okG 7) E7b [2, 0, 0, 1, 1, 0, 0] 270532632 = true := by kernel_rfl
theorem part7_11 : allSub (okG 7) E7b [1, 0, 1, 0, 0, 0, 0] 16388 = true := by kernel_rfl
theorem part7_12 : allSub (okG 7) E7b [2, 0, 1, 0, 0, 0, 1] 4398046527556 = true := by kernel_rfl
theorem part7_13 : allSub (okG 7) E7b [2, 0, 1, 0, 0, 1, 0] 34359754788 = true := by kernel_rfl
theorem part7_14 : allSub (okG 7) E7b [2, 0, 1, 0, 1, 0, 0] 268451860 = true := by kernel_rfl
theorem part7_15 : allSub (okG 7) E7b [2, 0, 1, 1, 0, 0, 0] 2113548 = true := by kernel_rfl
theorem part7_16 : allSub (okG 7) E7b [1, 1, 0, 0, 0, 0, 0] 130 = true := by kernel_rfl
theorem part7_17 : allSub (okG 7) E7b [2, 1, 0, 0, 0, 0, 1] 4398046511298 = true := by kernel_rfl
theorem part7_18 : allSub (okG 7) E7b [2, 1, 0, 0, 0, 1, 0] 34359738530 = true := by kernel_rfl
theorem part7_19 : allSub (okG 7) E7b [2, 1, 0, 0, 1, 0, 0] 268435602 = true := by kernel_rfl
theorem part7_20 : allSub (okG 7) E7b [2, 1, 0, 1, 0, 0, 0] 2097290 = true := by kernel_rfl
theorem part7_21 : allSub (okG 7) E7b [2, 1, 1, 0, 0, 0, 0] 16518 = true := by kernel_rfl
theorem allG7 : allSub (okG 7) (edges 7) [0, 0, 0, 0, 0, 0, 0] 0 = true := by
  rw [edges7]
  apply allSub_split
  intro s hs
  rw [states7] at hs
  simp only [List.mem_cons, List.not_mem_nil, or_false] at hs
  rcases hs with rfl | rfl | rfl | rfl | rfl | rfl | rfl | rfl | rfl | rfl | rfl | rfl | rfl | rfl | rfl | rfl | rfl | rfl | rfl | rfl | rfl | rfl
  · exact part7_0
  · exact part7_1
  · exact part7_2
  · exact part7_3
  · exact part7_4
  · exact part7_5
  · exact part7_6
  · exact part7_7
  · exact part7_8
  · exact part7_9
  · exact part7_10
  · exact part7_11
  · exact part7_12
  · exact part7_13
  · exact part7_14
  · exact part7_15
  · exact part7_16
  · exact part7_17
  · exact part7_18
  · exact part7_19
  · exact part7_20
  · exact part7_21
theorem allG : ∀ n, n ≤ 7 → allSub (okG n) (edges n) [0, 0, 0, 0, 0, 0, 0] 0 = true
  | 0, _ => allG0
  | 1, _ => allG1
  | 2, _ => allG2
  | 3, _ => allG3
  | 4, _ => allG4
  | 5, _ => allG5
  | 6, _ => allG6
  | 7, _ => allG7
  | n + 8, h => by omega


theorem incD_len (d : List Nat) (e : Nat × Nat) : (incD d e).length = d.length := by simp [incD]
theorem incD_getD {d : List Nat} {e : Nat × Nat} (hd : d.length = 7) (h1 : e.1 < e.2) (h2 : e.2 < 7) (a : Nat) : (incD d e).getD a 0 = d.getD a 0 + if touches a e = true then 1 else 0 := by
  unfold incD touches
  simp only [List.getD_eq_getElem?_getD, List.getElem?_set, List.length_set, decide_eq_true_iff]
  by_cases p2 : e.2 = a
  · subst p2
    rw [if_pos rfl, if_pos (by omega), if_pos (.inr rfl)]; rfl
  · rw [if_neg p2]
    by_cases p1 : e.1 = a
    · subst p1
      rw [if_pos rfl, if_pos (by omega), if_pos (.inl rfl)]; rfl
    · rw [if_neg p1, if_neg (by omega)]; rfl
theorem fold_deg : ∀ (S : List (Nat × Nat)) (d : List Nat), d.length = 7 → (∀ e ∈ S, e.1 < e.2 ∧ e.2 < 7) → ∀ a, (S.foldl incD d).getD a 0 = d.getD a 0 + (S.filter (touches a)).length
  | [], d, _, _, a => by simp
  | e :: S, d, hd, h, a => by
    have he := h e (by simp)
    rw [List.foldl_cons, fold_deg S (incD d e) (by rw [incD_len, hd]) (fun x hx => h x (by simp [hx])) a, incD_getD hd he.1 he.2]
    by_cases p : touches a e = true
    · rw [if_pos p, List.filter_cons_of_pos p, List.length_cons]; omega
    · rw [if_neg p, List.filter_cons_of_neg p]; omega
theorem allSub_ok {P : List Nat → Bool} (f : Nat × Nat → Bool) : ∀ (E : List (Nat × Nat)) (d : List Nat) (M : Nat), d.length = 7 → (∀ e ∈ E, e.1 < e.2 ∧ e.2 < 7) → allSub P E d M = true →
    (∀ a, ((E.filter f).foldl incD d).getD a 0 = 0 ∨ ((E.filter f).foldl incD d).getD a 0 = 2) → P (mOf ((E.filter f).foldl addM M)) = true
  | [], d, M, hd, _, h, hdeg => by
    simp only [List.filter_nil, List.foldl_nil] at hdeg ⊢
    simp only [allSub, leafM_eq, Bool.or_eq_true] at h
    rcases h with h | h
    · exfalso
      rw [List.contains_iff_mem] at h
      obtain ⟨a, ha, h2⟩ := List.getElem_of_mem h
      have := hdeg a
      rw [List.getD_eq_getElem?_getD, List.getElem?_eq_getElem ha, h2] at this
      simp at this
    · exact h
  | e :: E, d, M, hd, hE, h, hdeg => by
    have he := hE e (by simp)
    have hE2 : ∀ x ∈ E, x.1 < x.2 ∧ x.2 < 7 := fun x hx => hE x (by simp [hx])
    simp only [allSub, forceN_eq, Bool.and_eq_true, Bool.or_eq_true] at h
    obtain ⟨h1, h2⟩ := h
    by_cases p : f e = true
    · rw [List.filter_cons_of_pos p, List.foldl_cons] at hdeg ⊢
      have hl : (incD d e).length = 7 := by rw [incD_len, hd]
      have hS : ∀ x ∈ E.filter f, x.1 < x.2 ∧ x.2 < 7 := fun x hx => hE2 x (List.mem_filter.1 hx).1
      have g : ∀ a, touches a e = true → d.getD a 0 ≤ 1 := by
        intro a ha
        have h3 := hdeg a
        rw [fold_deg _ _ hl hS a, incD_getD hd he.1 he.2, if_pos ha] at h3
        omega
      have g1 := g e.1 (by simp [touches])
      have g2 := g e.2 (by simp [touches])
      have b1 : Nat.blt 1 (d.getD e.1 0) = true → False := by intro hb; have := Nat.le_of_ble_eq_true hb; omega
      have b2 : Nat.blt 1 (d.getD e.2 0) = true → False := by intro hb; have := Nat.le_of_ble_eq_true hb; omega
      rcases h2 with h2 | h2 | h2
      · exact absurd h2 b1
      · exact absurd h2 b2
      · exact allSub_ok f E (incD d e) (addM M e) hl hE2 h2 hdeg
    · rw [List.filter_cons_of_neg p] at hdeg ⊢
      exact allSub_ok f E d M hd hE2 h1 hdeg

theorem intL_getD (b : List Nat) (i : Nat) : (intL b).getD i 0 = ((b.getD i 0 : Nat) : Int) := by
  unfold intL
  rw [List.getD_eq_getElem?_getD, List.getD_eq_getElem?_getD, List.getElem?_map]
  cases b[i]? <;> simp
theorem intL_len (b : List Nat) : (intL b).length = b.length := by simp [intL]
theorem intL_last (b : List Nat) : lastL (intL b) = ((lastN b : Nat) : Int) := by
  unfold lastL lastN
  rw [intL_getD, intL_len]
theorem intL_mem (b : List Nat) (x : Nat) : (x : Int) ∈ intL b ↔ x ∈ b := by
  unfold intL
  simp only [List.mem_map]
  constructor
  · rintro ⟨a, h, e⟩
    have : a = x := by omega
    subst this; exact h
  · intro h; exact ⟨x, h, rfl⟩
theorem rgHd_J {os : List (Int × Int)} {m : List Nat} (hJ : ∀ a b : Nat, joinB os (a : Int) (b : Int) = Jm m a b) (a l : Nat) (b : List Nat) (ha : b.getD 0 0 = a) (hl : lastN b = l) : rgHd os (intL b) = (rgHJ a l (m.getD l 0) b).map intL := by
  unfold rgHd rgHJ
  rw [intL_last, intL_getD, intL_getD, intL_len, hJ, ha, hl]
  have h1 : Nat.blt 2 b.length = decide (2 < b.length) := by
    rw [Bool.eq_iff_iff, decide_eq_true_iff]; exact ⟨Nat.le_of_ble_eq_true, Nat.ble_eq_true_of_le⟩
  have h2 : Nat.blt (b.getD 1 0) l = decide (b.getD 1 0 < l) := by
    rw [Bool.eq_iff_iff, decide_eq_true_iff]; exact ⟨Nat.le_of_ble_eq_true, Nat.ble_eq_true_of_le⟩
  have h3 : (m.getD l 0).testBit a = Jm m l a := rfl
  rw [h1, h2, h3]
  cases p3 : Jm m l a
  · rw [if_neg (by simp), Bool.false_and]; rfl
  · rw [Bool.true_and]
    by_cases p1 : 2 < b.length
    · by_cases p2 : b.getD 1 0 < l
      · rw [if_pos ⟨p1, by omega, rfl⟩, decide_eq_true p1, decide_eq_true p2]; rfl
      · rw [if_neg (by omega), decide_eq_false p2, Bool.and_false]; rfl
    · rw [if_neg (by omega), decide_eq_false p1, Bool.false_and]; rfl
theorem flat_map {α β γ : Type} (g : β → γ) (f : α → List β) (l : List α) : (l.flatMap f).map g = l.flatMap fun a => (f a).map g := by
  induction l with
  | nil => rfl
  | cons a l ih => rw [List.flatMap_cons, List.map_append, ih, List.flatMap_cons]
theorem flat_congr {α β : Type} {f g : α → List β} : ∀ (l : List α), (∀ a ∈ l, f a = g a) → l.flatMap f = l.flatMap g
  | [], _ => rfl
  | a :: l, h => by rw [List.flatMap_cons, List.flatMap_cons, h a (by simp), flat_congr l (fun x hx => h x (by simp [hx]))]
theorem rgF_J {n : Nat} {os : List (Int × Int)} {m : List Nat} (hJ : ∀ a b : Nat, joinB os (a : Int) (b : Int) = Jm m a b) : ∀ (k a l : Nat) (b : List Nat), b ≠ [] → b.getD 0 0 = a → lastN b = l → rgF n os k (intL b) = (rgJ n m k a l b).map intL
  | 0, a, l, b, _, ha, hl => by simp only [rgF, rgJ, forceA_eq]; exact rgHd_J hJ a l b ha hl
  | k + 1, a, l, b, hb, ha, hl => by
    simp only [rgF, rgJ, forceA_eq]
    rw [List.map_append, rgHd_J hJ a l b ha hl, flat_map, intL_getD, Int.toNat_natCast, ha]
    congr 1
    apply flat_congr
    intro x _
    have e : intL b ++ [(x : Int)] = intL (b ++ [x]) := by simp [intL]
    have e1 : (b ++ [x]).getD 0 0 = a := by
      rw [← ha]
      cases b with
      | nil => exact absurd rfl hb
      | cons c r => rfl
    have e2 : lastN (b ++ [x]) = x := by unfold lastN; simp
    rw [e, rgF_J hJ k a x (b ++ [x]) (by simp) e1 e2, intL_last, hl, hJ]
    have hm := intL_mem b x
    have h3 : (m.getD l 0).testBit x = Jm m l x := rfl
    rw [h3]
    by_cases p : x ∈ b
    · rw [if_neg (fun h => h.1 (hm.2 p))]; simp [p]
    · cases q : Jm m l x
      · rw [if_neg (by simp)]; simp
      · rw [if_pos ⟨fun h => p (hm.1 h), rfl⟩]; simp [p]
/-! ### from pairs to masks -/
theorem fold_bit (i : Nat) : ∀ (S : List (Nat × Nat)) (M : Nat), (S.foldl addM M).testBit i = true ↔ M.testBit i = true ∨ ∃ e ∈ S, i = 7 * e.1 + e.2 ∨ i = 7 * e.2 + e.1
  | [], M => by simp
  | e :: S, M => by
    rw [List.foldl_cons, fold_bit i S (addM M e)]
    unfold addM
    rw [Nat.testBit_or, Nat.testBit_or, Nat.testBit_two_pow, Nat.testBit_two_pow]
    simp only [Bool.or_eq_true, decide_eq_true_iff, List.mem_cons, exists_eq_or_imp]
    constructor
    · rintro (((h | h) | h) | h)
      · exact .inl h
      · exact .inr (.inl (.inl h.symm))
      · exact .inr (.inl (.inr h.symm))
      · exact .inr (.inr h)
    · rintro (h | (h | h) | h)
      · exact .inl (.inl (.inl h))
      · exact .inl (.inl (.inr h.symm))
      · exact .inl (.inr h.symm)
      · exact .inr h
theorem mOf_bit (M u v : Nat) : ((mOf M).getD u 0).testBit v = true ↔ u < 7 ∧ v < 7 ∧ M.testBit (7 * u + v) = true := by
  unfold mOf
  rw [List.getD_eq_getElem?_getD, List.getElem?_map]
  by_cases h : u < 7
  · rw [List.getElem?_range h]
    simp only [Option.map_some, Option.getD_some]
    rw [show (128 : Nat) = 2 ^ 7 from rfl, Nat.testBit_mod_two_pow, Nat.testBit_shiftRight]
    simp [h]
  · rw [List.getElem?_eq_none (by simp; omega)]
    simp [h]
theorem mem_edges {n : Nat} {e : Nat × Nat} : e ∈ edges n ↔ e.1 < e.2 ∧ e.2 < n := by
  obtain ⟨a, b⟩ := e
  unfold edges
  simp only [List.mem_flatMap, List.mem_range, List.mem_map, List.mem_filter, decide_eq_true_iff, Prod.mk.injEq]
  constructor
  · rintro ⟨a', h1, b', ⟨h2, h3⟩, rfl, rfl⟩; exact ⟨h3, h2⟩
  · rintro ⟨h1, h2⟩; exact ⟨a, by omega, b, ⟨h2, h1⟩, rfl, rfl⟩
def inOs (os : List (Int × Int)) (e : Nat × Nat) : Bool := decide (((e.1 : Int), (e.2 : Int)) ∈ os)
theorem mask_eq {n : Nat} (hn : n ≤ 7) {os : List (Int × Int)} (hps : ∀ p ∈ os, 0 ≤ p.1 ∧ p.1 < p.2 ∧ p.2 < (n : Int)) (h7 : ∀ p ∈ os, okP p) : advL os = mOf (((edges n).filter (inOs os)).foldl addM 0) := by
  have hl := advL_len h7
  apply List.ext_getElem (by rw [hl]; simp [mOf])
  intro u h1 h2
  have g1 : (advL os)[u] = (advL os).getD u 0 := by rw [List.getD_eq_getElem?_getD, List.getElem?_eq_getElem h1]; rfl
  have g2 : (mOf (((edges n).filter (inOs os)).foldl addM 0))[u] = (mOf (((edges n).filter (inOs os)).foldl addM 0)).getD u 0 := by rw [List.getD_eq_getElem?_getD, List.getElem?_eq_getElem h2]; rfl
  rw [g1, g2]
  apply Nat.eq_of_testBit_eq
  intro v
  rw [Bool.eq_iff_iff, advL_bit h7, mOf_bit, fold_bit]
  rw [hl] at h1
  have hz : ((0 : Nat).testBit (7 * u + v) = true) = False := by simp
  rw [hz, false_or]
  constructor
  · intro h
    rcases h with h | h
    · have hh := hps _ h
      simp only at hh
      refine ⟨h1, by omega, (u, v), List.mem_filter.2 ⟨mem_edges.2 (by simp only; omega), ?_⟩, .inl rfl⟩
      unfold inOs; exact decide_eq_true h
    · have hh := hps _ h
      simp only at hh
      refine ⟨h1, by omega, (v, u), List.mem_filter.2 ⟨mem_edges.2 (by simp only; omega), ?_⟩, .inr rfl⟩
      unfold inOs; exact decide_eq_true h
  · rintro ⟨h3, h4, e, he, h5⟩
    obtain ⟨he, hf⟩ := List.mem_filter.1 he
    rw [mem_edges] at he
    unfold inOs at hf
    have hf := of_decide_eq_true hf
    rcases h5 with h5 | h5
    · have e1 : e.1 = u := by omega
      have e2 : e.2 = v := by omega
      rw [e1, e2] at hf; exact .inl hf
    · have e1 : e.2 = u := by omega
      have e2 : e.1 = v := by omega
      rw [e1, e2] at hf; exact .inr hf
theorem join_mask {n : Nat} {os : List (Int × Int)} (hps : ∀ p ∈ os, 0 ≤ p.1 ∧ p.1 < p.2 ∧ p.2 < (n : Int)) (h7 : ∀ p ∈ os, okP p) (a b : Nat) : joinB os (a : Int) (b : Int) = Jm (advL os) a b := by
  unfold joinB Jm
  rw [Bool.eq_iff_iff, decide_eq_true_iff, advL_bit h7]
  constructor
  · intro h
    by_cases q : (a : Int) ≤ (b : Int)
    · rw [Int.min_eq_left q, Int.max_eq_right q] at h; exact .inl h
    · rw [Int.min_eq_right (by omega), Int.max_eq_left (by omega)] at h; exact .inr h
  · rintro (h | h)
    · have hh := hps _ h
      simp only at hh
      rw [Int.min_eq_left (by omega), Int.max_eq_right (by omega)]; exact h
    · have hh := hps _ h
      simp only at hh
      rw [Int.min_eq_right (by omega), Int.max_eq_left (by omega)]; exact h

/-! ### how many pairs an article has -/
def mkE (a b : Nat) : Nat × Nat := if a < b then (a, b) else (b, a)
theorem touch_all : (List.range 8).all (fun n => (List.range 7).all fun a => decide ((edges n).filter (touches a) = if a < n then ((List.range n).filter fun b => !(b == a)).map (mkE a) else [])) = true := by kernel_rfl
theorem touch_eq {n a : Nat} (hn : n ≤ 7) (ha : a < 7) : (edges n).filter (touches a) = if a < n then ((List.range n).filter fun b => !(b == a)).map (mkE a) else [] := by
  have h := List.all_eq_true.1 (List.all_eq_true.1 touch_all n (List.mem_range.2 (by omega))) a (List.mem_range.2 ha)
  exact of_decide_eq_true h
theorem mem_onesL {W : List ((Int × Int) × Int)} {p : Int × Int} : p ∈ onesL W ↔ ∃ e ∈ W, e.2 = 1 ∧ e.1 = p := by
  unfold onesL
  simp only [List.mem_map, List.mem_filter, decide_eq_true_iff]
  constructor
  · rintro ⟨e, ⟨h1, h2⟩, h3⟩; exact ⟨e, h1, h2, h3⟩
  · rintro ⟨e, h1, h2, h3⟩; exact ⟨e, ⟨h1, h2⟩, h3⟩
theorem one_sh {n : Nat} {W : List ((Int × Int) × Int)} (hnd : (W.map fun e => e.1).Nodup) (hW : OkW n W) {a b : Nat} (hab : a ≠ b) : inOs (onesL W) (mkE a b) = decide (sh W a b = 1) := by
  rw [Bool.eq_iff_iff, decide_eq_true_iff]
  unfold inOs
  rw [decide_eq_true_iff, mem_onesL]
  constructor
  · rintro ⟨e, he, h1, h2⟩
    rw [sh_val hnd hW he (a := a) (b := b), h1]
    unfold mkE at h2
    by_cases q : a < b
    · rw [if_pos q] at h2; rw [h2]; exact .inl ⟨rfl, rfl⟩
    · rw [if_neg q] at h2; rw [h2]; exact .inr ⟨rfl, rfl⟩
  · intro h
    obtain ⟨e, he, h2⟩ := sh_pos (W := W) (a := a) (b := b) (by omega)
    have h3 := sh_val hnd hW he h2
    have h4 := hW e he
    refine ⟨e, he, by omega, ?_⟩
    unfold mkE
    rcases h2 with ⟨g1, g2⟩ | ⟨g1, g2⟩
    · rw [if_pos (by omega)]; exact Prod.ext g1 g2
    · rw [if_neg (by omega)]; exact Prod.ext g1 g2
theorem deg_sum {n : Nat} (hn : n ≤ 7) {W : List ((Int × Int) × Int)} (hnd : (W.map fun e => e.1).Nodup) (hW : OkW n W) {a : Nat} (ha : a < n) :
    ((((edges n).filter (inOs (onesL W))).filter (touches a)).length : Int) = sumL ((List.range n).map fun b => if sh W a b = 1 then (1 : Int) else 0) := by
  have e : ((edges n).filter (inOs (onesL W))).filter (touches a) = ((edges n).filter (touches a)).filter (inOs (onesL W)) := by
    rw [List.filter_filter, List.filter_filter]
    congr 1; funext x; exact Bool.and_comm _ _
  rw [e, touch_eq hn (by omega), if_pos ha, List.filter_map, List.length_map, List.filter_filter]
  rw [len_sum]
  congr 1
  apply List.map_congr_left
  intro b _
  by_cases q : b = a
  · subst q
    have h0 : ¬ sh W b b = 1 := by
      intro h
      obtain ⟨e, he, h2⟩ := sh_pos (W := W) (a := b) (b := b) (by omega)
      have := hW e he
      omega
    rw [if_neg h0]; simp
  · have e1 := one_sh hnd hW (a := a) (b := b) (fun h => q h.symm)
    have e2 : (inOs (onesL W) ∘ mkE a) b = decide (sh W a b = 1) := e1
    by_cases r : sh W a b = 1
    · rw [if_pos r, if_pos]
      rw [e2]; simp [q, r]
    · rw [if_neg r, if_neg]
      rw [e2]; simp [r]

theorem rings_eq {n : Nat} {ps : List (Int × Int)} (hn1 : 1 ≤ n) (hn : n ≤ 7) (hps : ∀ p ∈ ps, 0 ≤ p.1 ∧ p.1 < p.2 ∧ p.2 < (n : Int)) (h7 : ∀ p ∈ ps, okP p) (hnd : ps.Nodup) : ringsP n (advL (onesR n ps)) = rgsR n (onesR n ps) := by
  have hops : ∀ p ∈ onesR n ps, 0 ≤ p.1 ∧ p.1 < p.2 ∧ p.2 < (n : Int) := fun p hp => hps p (onesL_in p hp)
  have ho7 : ∀ p ∈ onesR n ps, okP p := fun p hp => h7 p (onesL_in p hp)
  have key : ∀ a, (((edges n).filter (inOs (onesR n ps))).foldl incD [0, 0, 0, 0, 0, 0, 0]).getD a 0 = 0 ∨ (((edges n).filter (inOs (onesR n ps))).foldl incD [0, 0, 0, 0, 0, 0, 0]).getD a 0 = 2 := by
    intro a
    have hz : ([0, 0, 0, 0, 0, 0, 0] : List Nat).getD a 0 = 0 := by
      rw [show ([0, 0, 0, 0, 0, 0, 0] : List Nat) = List.replicate 7 0 from rfl, List.getD_eq_getElem?_getD, List.getElem?_replicate]
      split <;> rfl
    rw [fold_deg _ _ rfl (fun e he => by have := mem_edges.1 (List.mem_filter.1 he).1; omega) a, hz, Nat.zero_add]
    rcases Nat.lt_or_ge a n with ha | ha
    · obtain ⟨s1, s2⟩ := sharesR_in (n := n) (ps := ps)
      obtain ⟨a1, a2⟩ := shF_ok s1
      obtain ⟨v1, v2, _⟩ := halvesV_ok hn1 hn hps h7
      have hv := (cheap_mem.1 (halves_spec hn1 hn hps h7).1).1.2
      have hM1 := over_none s1 hps
      have hw := shares_worth hn1 hn hps h7 hnd
      obtain ⟨hsl, hM2⟩ := slack hn hps v1 v2 a1 a2 hv hM1 (by omega)
      have hWn : ((ps.zip (sharesR n ps)).map fun e => e.1).Nodup := by
        have : (ps.zip (sharesR n ps)).map (fun e => e.1) = ps := List.map_fst_zip (by omega)
        rw [this]; exact hnd
      have hW : OkW n (ps.zip (sharesR n ps)) := zip_ok hps _
      have hb : ∀ e ∈ ps.zip (sharesR n ps), 0 ≤ e.2 ∧ e.2 ≤ 2 := fun e he => a2 _ (List.of_mem_zip he).2
      have hmid := ones_mid hn1 hn hps h7 hnd
      have hds := deg_sum hn hWn hW ha
      by_cases hex : ∃ b0, b0 < n ∧ sh (ps.zip (sharesR n ps)) a b0 = 1
      · obtain ⟨b0, hb0, h1⟩ := hex
        obtain ⟨e, he, h2⟩ := sh_pos (W := ps.zip (sharesR n ps)) (a := a) (b := b0) (by omega)
        have h3 := sh_val hWn hW he h2
        have h4 := hmid e he (by omega)
        have h5 := hsl e he (by omega)
        have hva : (halvesV n ps).getD a 0 = 1 := by
          rcases h2 with ⟨g1, g2⟩ | ⟨g1, g2⟩
          · rw [show a = e.1.1.toNat by omega]; exact h4
          · rw [show a = e.1.2.toNat by omega]; omega
        have h6 := two_ones hWn hW hb (hM2 a ha (by omega)) hb0 h1
        right
        rw [h6] at hds
        have hds' : ((((edges n).filter (inOs (onesR n ps))).filter (touches a)).length : Int) = 2 := hds
        omega
      · left
        have h6 : sumL ((List.range n).map fun b => if sh (ps.zip (sharesR n ps)) a b = 1 then (1 : Int) else 0) = 0 := by
          apply sum_zero
          intro b hb
          rw [if_neg (fun h => hex ⟨b, List.mem_range.1 hb, h⟩)]
        rw [h6] at hds
        have hds' : ((((edges n).filter (inOs (onesR n ps))).filter (touches a)).length : Int) = 0 := hds
        omega
    · left
      rw [List.length_eq_zero_iff, List.filter_eq_nil_iff]
      intro e he h
      have := mem_edges.1 (List.mem_filter.1 he).1
      unfold touches at h
      have := of_decide_eq_true h
      omega
  have h := allSub_ok (P := okG n) (inOs (onesR n ps)) (edges n) [0, 0, 0, 0, 0, 0, 0] 0 rfl (fun e he => by have := mem_edges.1 he; omega) (allG n hn) key
  rw [← mask_eq hn hops ho7] at h
  have h2 := of_decide_eq_true h
  rw [h2]
  unfold rgsR
  rw [flat_map]
  apply flat_congr
  intro a _
  exact (rgF_J (join_mask hops ho7) 6 a a [a] (by simp) rfl rfl).symm


/-! ### how many sets of articles there are that nothing can be added to (Moon and Moser) -/
theorem nodup_map_inj {α β : Type} {f : α → β} : ∀ {l : List α}, l.Nodup → (∀ a ∈ l, ∀ b ∈ l, f a = f b → a = b) → (l.map f).Nodup
  | [], _, _ => by simp
  | a :: l, h, hi => by
    rw [List.nodup_cons] at h
    rw [List.map_cons, List.nodup_cons]
    refine ⟨?_, nodup_map_inj h.2 (fun x hx y hy => hi x (by simp [hx]) y (by simp [hy]))⟩
    intro hm
    obtain ⟨b, hb, e⟩ := List.mem_map.1 hm
    have := hi b (by simp [hb]) a (by simp) e
    subst this; exact h.1 hb
/-! ### the shortest lists -/


/-! ### sorting by insertion -/
section
variable {α : Type} (lt : α → α → Bool)
/-- Into a list in the opposite order. -/
def insR : List α → α → List α
  | [], x => [x]
  | a :: C, x => if lt x a = true then a :: insR C x else x :: a :: C
def insL (A : List α) (x : α) : List α := (insR lt A.reverse x).reverse
def sortL (l : List α) : List α := l.foldl (insL lt) []
theorem insL_nil (x : α) : insL lt [] x = [x] := rfl
theorem insL_snoc (A : List α) (a x : α) : insL lt (A ++ [a]) x = if lt x a = true then insL lt A x ++ [a] else A ++ [a, x] := by
  unfold insL
  rw [List.reverse_append, List.reverse_singleton, List.singleton_append]
  simp only [insR]
  split
  · rw [List.reverse_cons]
  · simp
theorem insR_perm : ∀ (C : List α) (x : α), (insR lt C x).Perm (x :: C)
  | [], _ => List.Perm.refl _
  | a :: C, x => by
    simp only [insR]
    split
    · exact ((insR_perm C x).cons a).trans (List.Perm.swap x a C)
    · exact List.Perm.refl _
theorem insL_perm (A : List α) (x : α) : (insL lt A x).Perm (A ++ [x]) := by
  unfold insL
  refine (List.reverse_perm _).trans ((insR_perm lt _ x).trans ?_)
  refine ((List.reverse_perm A).cons x).trans ?_
  exact (List.perm_append_singleton x A).symm
theorem insL_len (A : List α) (x : α) : (insL lt A x).length = A.length + 1 := by
  rw [(insL_perm lt A x).length_eq]; simp
theorem fold_perm : ∀ (l A : List α), (l.foldl (insL lt) A).Perm (A ++ l)
  | [], A => by simp
  | x :: l, A => by
    rw [List.foldl_cons]
    refine (fold_perm l _).trans ?_
    have := (insL_perm lt A x).append_right l
    rwa [List.append_assoc] at this
theorem sortL_perm (l : List α) : (sortL lt l).Perm l := fold_perm lt l []
theorem sortL_cons (x : α) (l : List α) : sortL lt (x :: l) = l.foldl (insL lt) [x] := rfl
variable (h1 : ∀ a b, lt a b = true → lt b a = false) (h2 : ∀ a b c, lt b a = false → lt c b = false → lt c a = false)
include h1 h2
theorem insR_sorted : ∀ (C : List α) (x : α), C.Pairwise (fun a b => lt a b = false) → (insR lt C x).Pairwise fun a b => lt a b = false
  | [], x, _ => by simp [insR]
  | a :: C, x, h => by
    rw [List.pairwise_cons] at h
    simp only [insR]
    split
    · next hx =>
      rw [List.pairwise_cons]
      refine ⟨fun y hy => ?_, insR_sorted C x h.2⟩
      rcases List.mem_cons.1 ((insR_perm lt C x).mem_iff.1 hy) with rfl | hy
      · exact h1 _ _ hx
      · exact h.1 y hy
    · next hx =>
      have hx : lt x a = false := by simpa using hx
      rw [List.pairwise_cons]
      refine ⟨fun y hy => ?_, List.pairwise_cons.2 h⟩
      rcases List.mem_cons.1 hy with rfl | hy
      · exact hx
      · exact h2 y a x (h.1 y hy) hx
theorem insL_sorted (A : List α) (x : α) (h : A.Pairwise fun a b => lt b a = false) : (insL lt A x).Pairwise fun a b => lt b a = false := by
  unfold insL
  rw [List.pairwise_reverse]
  exact insR_sorted lt h1 h2 _ x (List.pairwise_reverse.2 h)
theorem sortL_sorted (l : List α) : (sortL lt l).Pairwise fun a b => lt b a = false := by
  have key : ∀ (l A : List α), A.Pairwise (fun a b => lt b a = false) → (l.foldl (insL lt) A).Pairwise fun a b => lt b a = false := by
    intro l
    induction l with
    | nil => intro A h; exact h
    | cons x l ih => intro A h; rw [List.foldl_cons]; exact ih _ (insL_sorted lt h1 h2 A x h)
  exact key l [] List.Pairwise.nil
omit h1 h2 in
theorem sorted_unique (h3 : ∀ a b, lt a b = false → lt b a = false → a = b) : ∀ (l k : List α), l.Perm k → l.Pairwise (fun a b => lt b a = false) → k.Pairwise (fun a b => lt b a = false) → l = k
  | [], k, hp, _, _ => by rw [List.nil_perm.1 hp]
  | a :: l, [], hp, _, _ => by have := hp.length_eq; simp at this
  | a :: l, b :: k, hp, hl, hk => by
    have hl' := List.pairwise_cons.1 hl
    have hk' := List.pairwise_cons.1 hk
    have hab : a = b := by
      have ha : a ∈ b :: k := hp.mem_iff.1 (by simp)
      have hb : b ∈ a :: l := hp.mem_iff.2 (by simp)
      rcases List.mem_cons.1 ha with h | ha
      · exact h
      · rcases List.mem_cons.1 hb with h | hb
        · exact h.symm
        · exact h3 a b (hk'.1 a ha) (hl'.1 b hb)
    subst hab
    rw [sorted_unique h3 l k hp.cons_inv hl'.2 hk'.2]
end


/-! ### lists of lists are equal -/
theorem rw_one {l : List Int} (h : l ≠ []) : rwAV l = listAV l := by
  unfold rwAV listAV
  rw [sl_ne (by simpa using h), sl_ne (by simpa using h)]
theorem rw_list {xs : List (List Int)} (h : ∀ l ∈ xs, l ≠ []) : xs.map rwAV = xs.map listAV := List.map_congr_left fun l hl => rw_one (h l hl)
/-! ### a list of lists that grows, above other tips -/
def nAV (k : Nat) (o : List (List Int)) : AV := if o = [] then .v (.slice none 0 0) else .lst (.own k o.length) 1 (o.map listAV)
theorem okRef_n (n k : Nat) (o : List (List Int)) : okRef n (nAV k o) = true := by unfold nAV; split <;> rfl
theorem fin_n (st : St) (k : Nat) (o : List (List Int)) : fin st (nAV k o) = sl 1 true (o.map listAV) := by
  unfold nAV
  by_cases h : o = []
  · subst h; rfl
  · rw [if_neg h, sl_ne (by simpa using h)]; rfl
attribute [local go_sem] okRef_out storable_out shaped_out cells_out fin_out pub_out okRef_n fin_n

/-- The rings from a start on. -/
def rgA (n : Nat) (os : List (Int × Int)) (a : Nat) : List (List Int) := (List.range' a (n - a)).flatMap fun (a : Nat) => rgF n os 6 [(a : Int)]
theorem rgA_len {n : Nat} (hn : n ≤ 7) (os : List (Int × Int)) (a : Nat) : (rgA n os a).length ≤ 391909 := by
  have h2 := flat_len (fun (a : Nat) => rgF n os 6 [(a : Int)]) 55987 (List.range' a (n - a)) (fun x _ => by
    have h1 := rgF_len hn os 6 [(x : Int)]
    have h3 := bd6_le 6 (by omega)
    omega)
  rw [List.length_range'] at h2
  have h4 := Nat.mul_le_mul_right 55987 (show n - a ≤ 7 by omega)
  have h5 : 7 * 55987 = 391909 := by decide
  rw [h5] at h4
  exact Nat.le_trans h2 h4

def rrv (n : Int) (ps : List (Int × Int)) : List (List Int) × Int := if chk n ps = 0 then (rgsR n.toNat (onesR n.toNat ps), 0) else ([], chk n ps)
theorem rgA_zero (n : Nat) (os : List (Int × Int)) : rgA n os 0 = rgsR n os := by
  unfold rgA rgsR; rw [Nat.sub_zero, ← List.range_eq_range']
theorem onesR_len {n : Nat} {ps : List (Int × Int)} (h : ps.length ≤ 10) : (onesR n ps).length ≤ 10 := by
  have h6 := onesL_len (ps.zip (sharesR n ps))
  rw [List.length_zip] at h6
  unfold onesR; omega
theorem rgHd_ne {os : List (Int × Int)} {b l : List Int} (h : l ∈ rgHd os b) : l ≠ [] ∧ l = b := by
  unfold rgHd at h
  split at h
  · next hc =>
    simp at h; subst h
    refine ⟨?_, rfl⟩
    intro e; rw [e] at hc; simp at hc
  · simp at h
theorem rgF_ne {n : Nat} {os : List (Int × Int)} : ∀ (k : Nat) (b l : List Int), b.length + k ≤ 20 → l ∈ rgF n os k b → l ≠ [] ∧ l.length ≤ 20
  | 0, b, l, hb, h => by
    simp only [rgF] at h
    obtain ⟨h1, rfl⟩ := rgHd_ne h
    exact ⟨h1, by omega⟩
  | k + 1, b, l, hb, h => by
    simp only [rgF, List.mem_append, List.mem_flatMap] at h
    rcases h with h | ⟨x, _, h⟩
    · obtain ⟨h1, rfl⟩ := rgHd_ne h
      exact ⟨h1, by omega⟩
    · split at h
      · exact rgF_ne k _ l (by simp; omega) h
      · simp at h
theorem rgsR_ne {n : Nat} {os : List (Int × Int)} : ∀ l ∈ rgsR n os, l ≠ [] ∧ l.length ≤ 20 := by
  intro l hl
  unfold rgsR at hl
  obtain ⟨a, _, h⟩ := List.mem_flatMap.1 hl
  exact rgF_ne 6 _ l (by simp) h


theorem rgv_eq (n : Int) (ps : List (Int × Int)) : rgv n ps = rrv n ps := by
  unfold rgv rrv
  by_cases h : chk n ps = 0
  · rw [if_pos h, if_pos h]
    obtain ⟨h1, h2, h3, h4, h5⟩ := chk_zero h
    obtain ⟨k, rfl⟩ := Int.eq_ofNat_of_zero_le (show 0 ≤ n by omega)
    simp only [Int.toNat_natCast]
    rw [rings_eq (by omega) (by omega) h4 h5 (chk_nodup h)]
  · rw [if_neg h, if_neg h]
theorem rrv_ok (n : Int) (ps : List (Int × Int)) : (∀ l ∈ (rrv n ps).1, l ≠ [] ∧ l.length ≤ 20) ∧ (rrv n ps).1.length ≤ 391909 := by
  unfold rrv
  by_cases h : chk n ps = 0
  · rw [if_pos h]
    obtain ⟨h1, h2, h3, h4, h5⟩ := chk_zero h
    refine ⟨rgsR_ne, ?_⟩
    rw [← rgA_zero]
    exact rgA_len (by omega) _ 0
  · rw [if_neg h]; simp
theorem c37r (nl : Bool) (n : Int) (ps : List (Int × Int)) (st : St) : run L 37 [bkAV nl n ps] st = some (.tup [sl 1 true ((rrv n ps).1.map listAV), I (rrv n ps).2], st) := by
  rw [c37, rgv_eq, rw_list (fun l hl => ((rrv_ok n ps).1 l hl).1)]


/-! ### sorting lists -/
def tAV (l : List Int) : AV := sl 1 true (l.map I)
theorem shaped_t (l : List Int) : (tAV l).shaped = true := by unfold tAV sl; split <;> rfl
theorem cells_t (l : List Int) : (tAV l).cells = [tAV l] := by unfold tAV sl; split <;> rfl
theorem isAgg_t (l : List Int) : Ev.isAgg (tAV l) = false := by unfold tAV sl; split <;> rfl
theorem storable_t (l : List Int) : storable (tAV l) = true := by unfold tAV sl; split <;> rfl
theorem okRef_t (n : Nat) (l : List Int) : okRef n (tAV l) = true := by unfold tAV sl; split <;> rfl
theorem pub_t (l : List Int) : pub (tAV l) = tAV l := pub_sl _ _ _
attribute [local go_sem] shaped_t cells_t isAgg_t storable_t okRef_t

attribute [local go_sem] shaped_t cells_t isAgg_t storable_t okRef_t

def blN (n : Nat) : Nat := if n = 0 then 0 else Nat.log2 n + 1
theorem all101 : (List.range 13).map (fun (n : Nat) => callAV L 60 101 [.v (.int .u64 (n : Int))] ⟨[], []⟩) = (List.range 13).map (fun n => some (I (blN n : Nat), (⟨[], []⟩ : St))) := by kernel_rfl
theorem c101 (n : Nat) (hn : n ≤ 12) (st : St) : run L 101 [.v (.int .u64 (n : Int))] st = some (I (blN n), st) :=
  run_any' (fn := ir101) rfl rfl (callAV_run L 60 _ _ _ _ (all_of all101 n (by omega))) st
/-! ### the shortest lists, by the law -/

attribute [local go_sem] shaped_t cells_t isAgg_t storable_t okRef_t pub_t

/-! ### good values and shares -/
theorem totalV_ok {l : List Int} {n : Nat} (h : l.length = n) (hb : ∀ x ∈ l, 0 ≤ x ∧ x ≤ 2) : totalV l n = sumL l := by
  unfold totalV
  have ha : l.all in02 = true := List.all_eq_true.2 fun x hx => decide_eq_true (hb x hx)
  rw [if_pos (by omega), if_pos ha]
theorem sum_nn : ∀ l : List Int, (∀ x ∈ l, 0 ≤ x) → 0 ≤ sumL l
  | [], _ => by simp [sumL]
  | a :: r, h => by
    have h1 := h a (by simp)
    have h2 := sum_nn r (fun x hx => h x (by simp [hx]))
    simp only [sumL]; omega
/-! ### a shortest list that does as halves say -/


/-! ### the rings of a graph in which each article has no pair or two -/
def rgsM (n : Nat) (m : List Nat) : List (List Nat) := (List.range n).flatMap fun a => rgJ n m 6 a a [a]
/-- The pair after place k. -/
def ringE (b : List Nat) (k : Nat) : Nat × Nat := mkE (b.getD k 0) (b.getD ((k + 1) % b.length) 0)
def ringEs (b : List Nat) : List (Nat × Nat) := (List.range b.length).map (ringE b)
def altE (r : Nat) (b : List Nat) : List (Nat × Nat) := ((List.range b.length).filter fun k => Nat.beq (k % 2) r).map (ringE b)
def hasE (l : List (Nat × Nat)) (e : Nat × Nat) : Bool := l.any fun x => Nat.beq x.1 e.1 && Nat.beq x.2 e.2
def nodupE : List (Nat × Nat) → Bool
  | [] => true
  | e :: r => !hasE r e && nodupE r
def touchB (a : Nat) (e : Nat × Nat) : Bool := Nat.beq a e.1 || Nat.beq a e.2
def inJ (n : Nat) (m : List Nat) (l : List (Nat × Nat)) : Bool := l.all fun e => Jm m e.1 e.2 && (Nat.blt e.1 e.2 && Nat.blt e.2 n)
def offE (l k : List (Nat × Nat)) : Bool := l.all fun e => !hasE k e
def altGood2 (n : Nat) (m : List Nat) (A B : List (Nat × Nat)) : Bool :=
  Nat.blt 0 A.length && (Nat.beq A.length B.length && (nodupE A && (nodupE B && (offE A B && (offE B A && (inJ n m A && (inJ n m B && (List.range 7).all fun a => Nat.beq (A.filter (touchB a)).length (B.filter (touchB a)).length)))))))
def ringGood (n : Nat) (m : List Nat) (b : List Nat) : Bool :=
  Nat.ble 3 b.length && (Nat.ble b.length 7 && (Nat.blt (b.getD 1 0) (lastN b) && (b.all (fun x => Nat.ble (b.getD 0 0) x && Nat.blt x n) && (Nat.beq (b.length % 2) 1 || altGood2 n m (altE 0 b) (altE 1 b)))))
def lexN : List Nat → List Nat → Bool
  | [], [] => false
  | [], _ :: _ => true
  | _ :: _, [] => false
  | a :: r, b :: s => Nat.blt a b || (Nat.beq a b && lexN r s)
def ascL : List (List Nat) → Bool
  | a :: b :: r => lexN a b && ascL (b :: r)
  | _ => true
def okLR (n : Nat) (m : List Nat) (L : List (List Nat)) : Bool :=
  L.all (ringGood n m) && (ascL L && (L.flatMap ringEs).isPerm ((edges n).filter fun e => Jm m e.1 e.2))
def okR (n : Nat) (m : List Nat) : Bool := okLR n m (rgsM n m)
theorem allR0 : allSub (okR 0) (edges 0) [0, 0, 0, 0, 0, 0, 0] 0 = true := by kernel_rfl
theorem allR1 : allSub (okR 1) (edges 1) [0, 0, 0, 0, 0, 0, 0] 0 = true := by kernel_rfl
theorem allR2 : allSub (okR 2) (edges 2) [0, 0, 0, 0, 0, 0, 0] 0 = true := by kernel_rfl
theorem allR3 : allSub (okR 3) (edges 3) [0, 0, 0, 0, 0, 0, 0] 0 = true := by kernel_rfl
theorem allR4 : allSub (okR 4) (edges 4) [0, 0, 0, 0, 0, 0, 0] 0 = true := by kernel_rfl
theorem allR5 : allSub (okR 5) (edges 5) [0, 0, 0, 0, 0, 0, 0] 0 = true := by kernel_rfl
theorem allR6 : allSub (okR 6) (edges 6) [0, 0, 0, 0, 0, 0, 0] 0 = true := by kernel_rfl
theorem pr7_0 : allSub (okR 7) E7b [0, 0, 0, 0, 0, 0, 0] 0 = true := by kernel_rfl
theorem pr7_1 : allSub (okR 7) E7b [1, 0, 0, 0, 0, 0, 1] 4398046511168 = true := by kernel_rfl
theorem pr7_2 : allSub (okR 7) E7b [1, 0, 0, 0, 0, 1, 0] 34359738400 = true := by kernel_rfl
theorem pr7_3 : allSub (okR 7) E7b [2, 0, 0, 0, 0, 1, 1] 4432406249568 = true := by kernel_rfl
theorem pr7_4 : allSub (okR 7) E7b [1, 0, 0, 0, 1, 0, 0] 268435472 = true := by kernel_rfl
theorem pr7_5 : allSub (okR 7) E7b [2, 0, 0, 0, 1, 0, 1] 4398314946640 = true := by kernel_rfl
theorem pr7_6 : allSub (okR 7) E7b [2, 0, 0, 0, 1, 1, 0] 34628173872 = true := by kernel_rfl
theorem pr7_7 : allSub (okR 7) E7b [1, 0, 0, 1, 0, 0, 0] 2097160 = true := by kernel_rfl
theorem pr7_8 : allSub (okR 7) E7b [2, 0, 0, 1, 0, 0, 1] 4398048608328 = true := by kernel_rfl
theorem pr7_9 : allSub (okR 7) E7b [2, 0, 0, 1, 0, 1, 0] 34361835560 = true := by kernel_rfl
theorem pr7_10 : allSub (okR 7) E7b [2, 0, 0, 1, 1, 0, 0] 270532632 = true := by kernel_rfl
theorem pr7_11 : allSub (okR 7) E7b [1, 0, 1, 0, 0, 0, 0] 16388 = true := by kernel_rfl
theorem pr7_12 : allSub (okR 7) E7b [2, 0, 1, 0, 0, 0, 1] 4398046527556 = true := by kernel_rfl
theorem pr7_13 : allSub (okR 7) E7b [2, 0, 1, 0, 0, 1, 0] 34359754788 = true := by kernel_rfl
theorem pr7_14 : allSub (okR 7) E7b [2, 0, 1, 0, 1, 0, 0] 268451860 = true := by kernel_rfl
theorem pr7_15 : allSub (okR 7) E7b [2, 0, 1, 1, 0, 0, 0] 2113548 = true := by kernel_rfl
theorem pr7_16 : allSub (okR 7) E7b [1, 1, 0, 0, 0, 0, 0] 130 = true := by kernel_rfl
theorem pr7_17 : allSub (okR 7) E7b [2, 1, 0, 0, 0, 0, 1] 4398046511298 = true := by kernel_rfl
theorem pr7_18 : allSub (okR 7) E7b [2, 1, 0, 0, 0, 1, 0] 34359738530 = true := by kernel_rfl
theorem pr7_19 : allSub (okR 7) E7b [2, 1, 0, 0, 1, 0, 0] 268435602 = true := by kernel_rfl
theorem pr7_20 : allSub (okR 7) E7b [2, 1, 0, 1, 0, 0, 0] 2097290 = true := by kernel_rfl
theorem pr7_21 : allSub (okR 7) E7b [2, 1, 1, 0, 0, 0, 0] 16518 = true := by kernel_rfl
theorem allR7 : allSub (okR 7) (edges 7) [0, 0, 0, 0, 0, 0, 0] 0 = true := by
  rw [edges7]
  apply allSub_split
  intro s hs
  rw [states7] at hs
  simp only [List.mem_cons, List.not_mem_nil, or_false] at hs
  rcases hs with rfl | rfl | rfl | rfl | rfl | rfl | rfl | rfl | rfl | rfl | rfl | rfl | rfl | rfl | rfl | rfl | rfl | rfl | rfl | rfl | rfl | rfl
  · exact pr7_0
  · exact pr7_1
  · exact pr7_2
  · exact pr7_3
  · exact pr7_4
  · exact pr7_5
  · exact pr7_6
  · exact pr7_7
  · exact pr7_8
  · exact pr7_9
  · exact pr7_10
  · exact pr7_11
  · exact pr7_12
  · exact pr7_13
  · exact pr7_14
  · exact pr7_15
  · exact pr7_16
  · exact pr7_17
  · exact pr7_18
  · exact pr7_19
  · exact pr7_20
  · exact pr7_21
theorem allR : ∀ n, n ≤ 7 → allSub (okR n) (edges n) [0, 0, 0, 0, 0, 0, 0] 0 = true
  | 0, _ => allR0
  | 1, _ => allR1
  | 2, _ => allR2
  | 3, _ => allR3
  | 4, _ => allR4
  | 5, _ => allR5
  | 6, _ => allR6
  | 7, _ => allR7
  | n + 8, h => by omega


/-- No pair or two of the share 1 for each article. -/
theorem ones_ring {n : Nat} {ps : List (Int × Int)} (hn1 : 1 ≤ n) (hn : n ≤ 7) (hps : ∀ p ∈ ps, 0 ≤ p.1 ∧ p.1 < p.2 ∧ p.2 < (n : Int)) (h7 : ∀ p ∈ ps, okP p) (hnd : ps.Nodup) : okR n (advL (onesR n ps)) = true ∧ okG n (advL (onesR n ps)) = true ∧
    ∀ a, ((((edges n).filter (inOs (onesR n ps))).filter (touches a)).length = 0 ∨ (((edges n).filter (inOs (onesR n ps))).filter (touches a)).length = 2) := by
  have hops : ∀ p ∈ onesR n ps, 0 ≤ p.1 ∧ p.1 < p.2 ∧ p.2 < (n : Int) := fun p hp => hps p (onesL_in p hp)
  have ho7 : ∀ p ∈ onesR n ps, okP p := fun p hp => h7 p (onesL_in p hp)
  have key : ∀ a, (((edges n).filter (inOs (onesR n ps))).foldl incD [0, 0, 0, 0, 0, 0, 0]).getD a 0 = 0 ∨ (((edges n).filter (inOs (onesR n ps))).foldl incD [0, 0, 0, 0, 0, 0, 0]).getD a 0 = 2 := by
    intro a
    have hz : ([0, 0, 0, 0, 0, 0, 0] : List Nat).getD a 0 = 0 := by
      rw [show ([0, 0, 0, 0, 0, 0, 0] : List Nat) = List.replicate 7 0 from rfl, List.getD_eq_getElem?_getD, List.getElem?_replicate]
      split <;> rfl
    rw [fold_deg _ _ rfl (fun e he => by have := mem_edges.1 (List.mem_filter.1 he).1; omega) a, hz, Nat.zero_add]
    rcases Nat.lt_or_ge a n with ha | ha
    · obtain ⟨s1, s2⟩ := sharesR_in (n := n) (ps := ps)
      obtain ⟨a1, a2⟩ := shF_ok s1
      obtain ⟨v1, v2, _⟩ := halvesV_ok hn1 hn hps h7
      have hv := (cheap_mem.1 (halves_spec hn1 hn hps h7).1).1.2
      have hM1 := over_none s1 hps
      have hw := shares_worth hn1 hn hps h7 hnd
      obtain ⟨hsl, hM2⟩ := slack hn hps v1 v2 a1 a2 hv hM1 (by omega)
      have hWn : ((ps.zip (sharesR n ps)).map fun e => e.1).Nodup := by
        have : (ps.zip (sharesR n ps)).map (fun e => e.1) = ps := List.map_fst_zip (by omega)
        rw [this]; exact hnd
      have hW : OkW n (ps.zip (sharesR n ps)) := zip_ok hps _
      have hb : ∀ e ∈ ps.zip (sharesR n ps), 0 ≤ e.2 ∧ e.2 ≤ 2 := fun e he => a2 _ (List.of_mem_zip he).2
      have hmid := ones_mid hn1 hn hps h7 hnd
      have hds := deg_sum hn hWn hW ha
      by_cases hex : ∃ b0, b0 < n ∧ sh (ps.zip (sharesR n ps)) a b0 = 1
      · obtain ⟨b0, hb0, h1⟩ := hex
        obtain ⟨e, he, h2⟩ := sh_pos (W := ps.zip (sharesR n ps)) (a := a) (b := b0) (by omega)
        have h3 := sh_val hWn hW he h2
        have h4 := hmid e he (by omega)
        have h5 := hsl e he (by omega)
        have hva : (halvesV n ps).getD a 0 = 1 := by
          rcases h2 with ⟨g1, g2⟩ | ⟨g1, g2⟩
          · rw [show a = e.1.1.toNat by omega]; exact h4
          · rw [show a = e.1.2.toNat by omega]; omega
        have h6 := two_ones hWn hW hb (hM2 a ha (by omega)) hb0 h1
        right
        rw [h6] at hds
        have hds' : ((((edges n).filter (inOs (onesR n ps))).filter (touches a)).length : Int) = 2 := hds
        omega
      · left
        have h6 : sumL ((List.range n).map fun b => if sh (ps.zip (sharesR n ps)) a b = 1 then (1 : Int) else 0) = 0 := by
          apply sum_zero
          intro b hb
          rw [if_neg (fun h => hex ⟨b, List.mem_range.1 hb, h⟩)]
        rw [h6] at hds
        have hds' : ((((edges n).filter (inOs (onesR n ps))).filter (touches a)).length : Int) = 0 := hds
        omega
    · left
      rw [List.length_eq_zero_iff, List.filter_eq_nil_iff]
      intro e he h
      have := mem_edges.1 (List.mem_filter.1 he).1
      unfold touches at h
      have := of_decide_eq_true h
      omega
  have hE : ∀ e ∈ edges n, e.1 < e.2 ∧ e.2 < 7 := fun e he => by have := mem_edges.1 he; omega
  have h := allSub_ok (P := okR n) (inOs (onesR n ps)) (edges n) [0, 0, 0, 0, 0, 0, 0] 0 rfl hE (allR n hn) key
  have h2 := allSub_ok (P := okG n) (inOs (onesR n ps)) (edges n) [0, 0, 0, 0, 0, 0, 0] 0 rfl hE (allG n hn) key
  rw [← mask_eq hn hops ho7] at h h2
  refine ⟨h, h2, fun a => ?_⟩
  have k := key a
  have hz : ([0, 0, 0, 0, 0, 0, 0] : List Nat).getD a 0 = 0 := by
    rw [show ([0, 0, 0, 0, 0, 0, 0] : List Nat) = List.replicate 7 0 from rfl, List.getD_eq_getElem?_getD, List.getElem?_replicate]
    split <;> rfl
  rw [fold_deg _ _ rfl (fun e he => by have := mem_edges.1 (List.mem_filter.1 he).1; omega) a, hz, Nat.zero_add] at k
  exact k

def castE (e : Nat × Nat) : Int × Int := ((e.1 : Int), (e.2 : Int))
def dE (C : List (Nat × Nat)) (p : Int × Int) : Int := if p ∈ C.map castE then 1 else 0
theorem castE_inj {a b : Nat × Nat} (h : castE a = castE b) : a = b := by
  obtain ⟨a1, a2⟩ := a
  obtain ⟨b1, b2⟩ := b
  simp only [castE, Prod.mk.injEq] at h ⊢
  omega
theorem sum_sub {α : Type} (f g : α → Int) : ∀ l : List α, sumL (l.map fun a => f a - g a) = sumL (l.map f) - sumL (l.map g)
  | [] => by simp [sumL]
  | a :: r => by simp only [List.map_cons, sumL, sum_sub f g r]; omega
theorem nodup_castE {C : List (Nat × Nat)} (hC : C.Nodup) : (C.map castE).Nodup := nodup_map_inj hC fun _ _ _ _ h => castE_inj h
theorem cntE {ps : List (Int × Int)} (hnd : ps.Nodup) {C : List (Nat × Nat)} (hC : C.Nodup) (hin : ∀ e ∈ C, castE e ∈ ps) (q : Int × Int → Bool) :
    sumL (ps.map fun p => if q p = true then dE C p else 0) = ((C.filter fun e => q (castE e)).length : Int) := by
  have h1 : sumL (ps.map fun p => if q p = true then dE C p else 0) = ((ps.filter fun p => q p && decide (p ∈ C.map castE)).length : Int) := by
    rw [len_sum]; congr 1; apply List.map_congr_left; intro p _
    unfold dE
    by_cases h : q p = true <;> by_cases g : p ∈ C.map castE <;> simp [h, g]
  have h2 : (ps.filter fun p => q p && decide (p ∈ C.map castE)).Perm ((C.map castE).filter q) := by
    rw [List.perm_ext_iff_of_nodup (hnd.filter _) ((nodup_castE hC).filter _)]
    intro p
    simp only [List.mem_filter, Bool.and_eq_true, decide_eq_true_eq]
    constructor
    · rintro ⟨_, h, h'⟩; exact ⟨h', h⟩
    · rintro ⟨h, h'⟩
      obtain ⟨e, he, rfl⟩ := List.mem_map.1 h
      exact ⟨hin e he, h', h⟩
  rw [h1, h2.length_eq, List.filter_map, List.length_map]; rfl
theorem load_add (g : Int × Int → Int) (a : Int) : ∀ W : List ((Int × Int) × Int), loadOf (W.map fun e => (e.1, e.2 + g e.1)) a = loadOf W a + sumL ((W.map fun e => e.1).map fun p => if p.1 = a ∨ p.2 = a then g p else 0)
  | [] => by simp [loadOf, sumL]
  | e :: r => by
    simp only [List.map_cons, loadOf, sumL, load_add g a r]
    split <;> omega
theorem sum_addg (g : Int × Int → Int) : ∀ W : List ((Int × Int) × Int), sumL (W.map fun e => e.2 + g e.1) = sumL (W.map fun e => e.2) + sumL ((W.map fun e => e.1).map g)
  | [] => by simp [sumL]
  | e :: r => by simp only [List.map_cons, sumL, sum_addg g r]; omega
theorem same_fst : ∀ {W : List ((Int × Int) × Int)}, (W.map fun e => e.1).Nodup → ∀ {e f : (Int × Int) × Int}, e ∈ W → f ∈ W → e.1 = f.1 → e = f
  | [], _, e, f, he, _, _ => by simp at he
  | x :: r, hn, e, f, he, hf, h => by
    simp only [List.map_cons, List.nodup_cons] at hn
    rcases List.mem_cons.1 he with e1 | he' <;> rcases List.mem_cons.1 hf with e2 | hf'
    · rw [e1, e2]
    · exact absurd (List.mem_map.2 ⟨f, hf', by rw [← h, e1]⟩) hn.1
    · exact absurd (List.mem_map.2 ⟨e, he', by rw [h, e2]⟩) hn.1
    · exact same_fst hn.2 he' hf' h
theorem no_alt {n : Nat} {ps : List (Int × Int)} (hps : ∀ p ∈ ps, 0 ≤ p.1 ∧ p.1 < p.2 ∧ p.2 < (n : Int)) (hn : n ≤ 7) (hnd : ps.Nodup)
    {A B : List (Nat × Nat)} (hAn : A.Nodup) (hBn : B.Nodup) (hl : A.length = B.length)
    (hA : ∀ e ∈ A, castE e ∈ onesR n ps) (hB : ∀ e ∈ B, castE e ∈ onesR n ps) (hAB : ∀ e ∈ A, e ∉ B)
    (hd : ∀ a : Nat, a < 7 → (A.filter (touchB a)).length = (B.filter (touchB a)).length)
    {l1 l2 : List ((Int × Int) × Int)} {e0 : (Int × Int) × Int} (hW : ps.zip (sharesR n ps) = l1 ++ e0 :: l2) (h0 : e0.1 ∈ A.map castE) (h1 : ∀ x ∈ l1, x.1 ∉ A.map castE ∧ x.1 ∉ B.map castE) : False := by
  obtain ⟨s1, s2⟩ := sharesR_in (n := n) (ps := ps)
  obtain ⟨a1, a2⟩ := shF_ok s1
  have hM1 := over_none s1 hps
  have hAin : ∀ e ∈ A, castE e ∈ ps := fun e he => onesL_in _ (hA e he)
  have hBin : ∀ e ∈ B, castE e ∈ ps := fun e he => onesL_in _ (hB e he)
  have hone : ∀ e ∈ ps.zip (sharesR n ps), (e.1 ∈ A.map castE ∨ e.1 ∈ B.map castE) → e.2 = 1 := by
    intro e he h
    have h2 : e.1 ∈ onesR n ps := by
      rcases h with h | h
      · obtain ⟨x, hx, h⟩ := List.mem_map.1 h; rw [← h]; exact hA x hx
      · obtain ⟨x, hx, h⟩ := List.mem_map.1 h; rw [← h]; exact hB x hx
    obtain ⟨f, hf, h3, h4⟩ := mem_onesL.1 h2
    have hWn : ((ps.zip (sharesR n ps)).map fun e => e.1).Nodup := by
      have : (ps.zip (sharesR n ps)).map (fun e => e.1) = ps := List.map_fst_zip (by omega)
      rw [this]; exact hnd
    rw [same_fst hWn he hf h4.symm]; exact h3
  have hfst : (ps.zip (sharesR n ps)).map (fun e => e.1) = ps := List.map_fst_zip (by omega)
  have hb : ∀ e ∈ ps.zip (sharesR n ps), 0 ≤ e.2 ∧ e.2 ≤ 2 := fun e he => a2 _ (List.of_mem_zip he).2
  have hes : (ps.zip (sharesR n ps)).map (fun e => e.2) = sharesR n ps := List.map_snd_zip (by omega)
  generalize sharesR n ps = s at *
  let g : Int × Int → Int := fun p => dE B p - dE A p
  have hg : ∀ p, g p = dE B p - dE A p := fun p => rfl
  have hdis : ∀ p, p ∈ A.map castE → p ∉ B.map castE := by
    intro p hp hq
    obtain ⟨x, hx, rfl⟩ := List.mem_map.1 hp
    obtain ⟨y, hy, h⟩ := List.mem_map.1 hq
    rw [castE_inj h] at hy
    exact hAB x hx hy
  have hgv : ∀ e ∈ ps.zip s, 0 ≤ e.2 + g e.1 ∧ e.2 + g e.1 ≤ 2 := by
    intro e he
    have := hb e he
    rw [hg]; unfold dE
    by_cases p1 : e.1 ∈ A.map castE
    · have := hone e he (.inl p1)
      rw [if_pos p1, if_neg (hdis _ p1)]; omega
    · rw [if_neg p1]
      by_cases p2 : e.1 ∈ B.map castE
      · have := hone e he (.inr p2)
        rw [if_pos p2]; omega
      · rw [if_neg p2]; omega
  have hsumg : ∀ q : Int × Int → Bool, sumL (ps.map fun p => if q p = true then g p else 0) = ((B.filter fun e => q (castE e)).length : Int) - ((A.filter fun e => q (castE e)).length : Int) := by
    intro q
    rw [← cntE hnd hBn hBin q, ← cntE hnd hAn hAin q, ← sum_sub]
    congr 1
    apply List.map_congr_left
    intro p _
    by_cases h : q p = true
    · simp only [if_pos h, hg]
    · simp only [if_neg h]; rfl
  have hzn := zip_new (fun e => e.2 + g e.1) ps s
  have hload : ∀ a : Nat, a < n → loadOf (ps.zip ((ps.zip s).map fun e => e.2 + g e.1)) (a : Int) ≤ 2 := by
    intro a ha
    rw [hzn, load_add, hfst]
    have h2 := hsumg fun p => decide (p.1 = (a : Int) ∨ p.2 = (a : Int))
    simp only [decide_eq_true_eq] at h2
    rw [h2]
    have t : ∀ e : Nat × Nat, decide ((castE e).1 = (a : Int) ∨ (castE e).2 = (a : Int)) = touchB a e := by
      intro e
      rw [Bool.eq_iff_iff]
      unfold touchB castE
      simp only [decide_eq_true_eq, Bool.or_eq_true, Nat.beq_eq]
      omega
    have t' : (fun e : Nat × Nat => decide ((castE e).1 = (a : Int) ∨ (castE e).2 = (a : Int))) = touchB a := funext t
    rw [t', hd a (by omega)]
    have := hM1 a
    omega
  have hlen' : ((ps.zip s).map fun e => e.2 + g e.1).length = ps.length := by simp; omega
  have hin : ((ps.zip s).map fun e => e.2 + g e.1) ∈ shF n ps ps.length [] := by
    refine (mem_shF ps.length [] _ (by simp)).2 ⟨_, by simp, hlen', ?_, .inr ?_⟩
    · intro x hx
      obtain ⟨c, hc, rfl⟩ := List.mem_map.1 hx
      exact hgv c hc
    · cases h : overFrom (ps.zip ((ps.zip s).map fun e => e.2 + g e.1)) n 0
      · rfl
      · obtain ⟨a, ha, h2⟩ := (over_iff _).1 h
        have := hload a ha; omega
  have hsum : sumL ((ps.zip s).map fun e => e.2 + g e.1) = sumL s := by
    rw [sum_addg, hes, hfst]
    have h2 := hsumg fun _ => true
    simp only [if_true] at h2
    rw [h2]
    have f1 : ∀ C : List (Nat × Nat), C.filter (fun _ => true) = C := fun C => List.filter_eq_self.2 (fun _ _ => rfl)
    rw [f1, f1]
    omega
  have hlt : lexLt ((ps.zip s).map fun e => e.2 + g e.1) s = true := by
    have he0 : e0 ∈ ps.zip s := by rw [hW]; simp
    have e1 : s = l1.map (fun e => e.2) ++ [e0.2] ++ l2.map fun e => e.2 := by
      rw [← hes, hW]; simp
    have e2 : ((ps.zip s).map fun e => e.2 + g e.1) = l1.map (fun e => e.2) ++ [e0.2 + g e0.1] ++ l2.map fun e => e.2 + g e.1 := by
      rw [hW]
      have e4 : (l1.map fun e => e.2 + g e.1) = l1.map fun e => e.2 := by
        apply List.map_congr_left
        intro c hc
        obtain ⟨q1, q2⟩ := h1 c hc
        rw [hg]; unfold dE
        rw [if_neg q1, if_neg q2]; simp
      rw [← e4]
      simp
    have e3 : e0.2 + g e0.1 < e0.2 := by
      rw [hg]; unfold dE
      rw [if_pos h0, if_neg (hdis _ h0)]; omega
    rw [e2]
    exact e1 ▸ (by
      have := lex_pre (l1.map fun e => e.2) (l2.map fun e => e.2 + g e.1) (l2.map fun e => e.2) e3
      rw [← e1] at this
      rw [← e1]
      exact this)
  have := (s2 _ hin).2 (by omega)
  rw [hlt] at this
  simp at this
theorem no_even {n : Nat} {ps : List (Int × Int)} (hps : ∀ p ∈ ps, 0 ≤ p.1 ∧ p.1 < p.2 ∧ p.2 < (n : Int)) (hn : n ≤ 7) (hnd : ps.Nodup)
    {A B : List (Nat × Nat)} (hA0 : A ≠ []) (hAn : A.Nodup) (hBn : B.Nodup) (hl : A.length = B.length)
    (hA : ∀ e ∈ A, castE e ∈ onesR n ps) (hB : ∀ e ∈ B, castE e ∈ onesR n ps) (hAB : ∀ e ∈ A, e ∉ B) (hBA : ∀ e ∈ B, e ∉ A)
    (hd : ∀ a : Nat, a < 7 → (A.filter (touchB a)).length = (B.filter (touchB a)).length) : False := by
  have hex : ∃ e ∈ ps.zip (sharesR n ps), e.1 ∈ A.map castE ∨ e.1 ∈ B.map castE := by
    obtain ⟨x, hx⟩ := List.exists_mem_of_ne_nil _ hA0
    obtain ⟨e, he, _, h4⟩ := mem_onesL.1 (hA x hx)
    exact ⟨e, he, .inl (by rw [h4]; exact List.mem_map.2 ⟨x, hx, rfl⟩)⟩
  obtain ⟨l1, e0, l2, hW, h0, h1⟩ := first_of (fun e : (Int × Int) × Int => e.1 ∈ A.map castE ∨ e.1 ∈ B.map castE) _ hex
  rcases h0 with h0 | h0
  · exact no_alt hps hn hnd hAn hBn hl hA hB hAB hd hW h0 (fun x hx => ⟨fun h => h1 x hx (.inl h), fun h => h1 x hx (.inr h)⟩)
  · exact no_alt hps hn hnd hBn hAn hl.symm hB hA hBA (fun a ha => (hd a ha).symm) hW h0 (fun x hx => ⟨fun h => h1 x hx (.inr h), fun h => h1 x hx (.inl h)⟩)

theorem hasE_iff (l : List (Nat × Nat)) (e : Nat × Nat) : hasE l e = true ↔ e ∈ l := by
  unfold hasE
  simp only [List.any_eq_true, Bool.and_eq_true, Nat.beq_eq]
  constructor
  · rintro ⟨x, hx, h1, h2⟩; rw [← Prod.ext h1 h2]; exact hx
  · intro h; exact ⟨e, h, rfl, rfl⟩
theorem nodupE_ok : ∀ l : List (Nat × Nat), nodupE l = true → l.Nodup
  | [], _ => List.nodup_nil
  | e :: r, h => by
    simp only [nodupE, Bool.and_eq_true, Bool.not_eq_true'] at h
    refine List.nodup_cons.2 ⟨fun hm => ?_, nodupE_ok r h.2⟩
    rw [(hasE_iff r e).2 hm] at h
    simp at h
theorem edges_nodup : (List.range 8).all (fun n => nodupE (edges n)) = true := by kernel_rfl
theorem in_ones {n : Nat} {os : List (Int × Int)} (hps : ∀ p ∈ os, 0 ≤ p.1 ∧ p.1 < p.2 ∧ p.2 < (n : Int)) (h7 : ∀ p ∈ os, okP p) {e : Nat × Nat} (h : e.1 < e.2) : Jm (advL os) e.1 e.2 = true ↔ castE e ∈ os := by
  unfold Jm castE
  rw [advL_bit h7]
  constructor
  · rintro (h1 | h1)
    · exact h1
    · have := hps _ h1
      simp only at this; omega
  · exact .inl
theorem alt_false {n : Nat} {ps : List (Int × Int)} (hps : ∀ p ∈ ps, 0 ≤ p.1 ∧ p.1 < p.2 ∧ p.2 < (n : Int)) (hn : n ≤ 7) (h7 : ∀ p ∈ ps, okP p) (hnd : ps.Nodup) {A B : List (Nat × Nat)} : altGood2 n (advL (onesR n ps)) A B = true → False := by
  have hops : ∀ p ∈ onesR n ps, 0 ≤ p.1 ∧ p.1 < p.2 ∧ p.2 < (n : Int) := fun p hp => hps p (onesL_in p hp)
  have ho7 : ∀ p ∈ onesR n ps, okP p := fun p hp => h7 p (onesL_in p hp)
  unfold altGood2
  simp only [Bool.and_eq_true, Nat.beq_eq]
  rintro ⟨g1, g2, g3, g4, g5, g6, g7, g8, g9⟩
  have hJ : ∀ l : List (Nat × Nat), inJ n (advL (onesR n ps)) l = true → ∀ e ∈ l, castE e ∈ onesR n ps := by
    intro l hl e he
    unfold inJ at hl
    have := List.all_eq_true.1 hl e he
    simp only [Bool.and_eq_true] at this
    have h2 : e.1 < e.2 := Nat.le_of_ble_eq_true this.2.1
    exact (in_ones hops ho7 h2).1 this.1
  have hoff : ∀ l k : List (Nat × Nat), offE l k = true → ∀ e ∈ l, e ∉ k := by
    intro l k h e he hk
    have := List.all_eq_true.1 h e he
    rw [(hasE_iff k e).2 hk] at this
    simp at this
  have hA0 : A ≠ [] := by
    rintro rfl
    exact absurd (Nat.le_of_ble_eq_true g1) (by simp)
  refine no_even hps hn hnd hA0 (nodupE_ok _ g3) (nodupE_ok _ g4) g2 (hJ A g7) (hJ B g8) (hoff A B g5) (hoff B A g6) fun a ha => ?_
  have := List.all_eq_true.1 g9 a (List.mem_range.2 ha)
  exact Nat.beq_eq.mp this

theorem rings_law {n : Nat} {ps : List (Int × Int)} (hn1 : 1 ≤ n) (hn : n ≤ 7) (hps : ∀ p ∈ ps, 0 ≤ p.1 ∧ p.1 < p.2 ∧ p.2 < (n : Int)) (h7 : ∀ p ∈ ps, okP p) (hnd : ps.Nodup) :
    ∃ L : List (List Nat), ringsP n (advL (onesR n ps)) = L.map intL ∧ (∀ b ∈ L, 3 ≤ b.length ∧ b.length ≤ 7 ∧ b.length % 2 = 1 ∧ b.getD 1 0 < lastN b ∧ ∀ x ∈ b, b.getD 0 0 ≤ x ∧ x < n) ∧ ascL L = true ∧ ((L.flatMap ringEs).map castE).Perm (onesR n ps) := by
  have hops : ∀ p ∈ onesR n ps, 0 ≤ p.1 ∧ p.1 < p.2 ∧ p.2 < (n : Int) := fun p hp => hps p (onesL_in p hp)
  have ho7 : ∀ p ∈ onesR n ps, okP p := fun p hp => h7 p (onesL_in p hp)
  obtain ⟨h, h2, _⟩ := ones_ring hn1 hn hps h7 hnd
  unfold okR okLR at h
  simp only [Bool.and_eq_true] at h
  obtain ⟨g1, g2, g3⟩ := h
  refine ⟨rgsM n (advL (onesR n ps)), of_decide_eq_true h2, ?_, g2, ?_⟩
  · intro b hb
    have h3 := List.all_eq_true.1 g1 b hb
    unfold ringGood at h3
    simp only [Bool.and_eq_true, Bool.or_eq_true, List.all_eq_true] at h3
    obtain ⟨k1, k2, k3, k4, k5⟩ := h3
    refine ⟨Nat.le_of_ble_eq_true k1, Nat.le_of_ble_eq_true k2, ?_, Nat.le_of_ble_eq_true k3, fun x hx => ?_⟩
    · rcases k5 with k5 | k5
      · exact Nat.beq_eq.mp k5
      · exact (alt_false hps hn h7 hnd k5).elim
    · have := k4 x hx
      exact ⟨Nat.le_of_ble_eq_true this.1, Nat.le_of_ble_eq_true this.2⟩
  · have h4 : ((edges n).filter fun e => Jm (advL (onesR n ps)) e.1 e.2).map castE |>.Perm (onesR n ps) := by
      have hen : (edges n).Nodup := nodupE_ok _ (List.all_eq_true.1 edges_nodup n (List.mem_range.2 (by omega)))
      have hon : (onesR n ps).Nodup := by
        unfold onesR onesL
        have hfst : (ps.zip (sharesR n ps)).map (fun e => e.1) = ps := List.map_fst_zip (by have := (sharesR_len n ps).1; omega)
        have hs : List.Sublist (((ps.zip (sharesR n ps)).filter fun e => decide (e.2 = 1)).map fun e => e.1) ps := by
          conv => rhs; rw [← hfst]
          exact List.Sublist.map _ List.filter_sublist
        exact List.Nodup.sublist hs hnd
      rw [List.perm_ext_iff_of_nodup (nodup_castE (hen.filter _)) hon]
      intro p
      simp only [List.mem_map, List.mem_filter]
      constructor
      · rintro ⟨e, ⟨h5, h6⟩, rfl⟩
        exact (in_ones hops ho7 (mem_edges.1 h5).1).1 h6
      · intro hp
        have hh := hops p hp
        refine ⟨(p.1.toNat, p.2.toNat), ⟨mem_edges.2 (by simp only; omega), ?_⟩, ?_⟩
        · rw [in_ones hops ho7 (by simp only; omega)]
          have : castE (p.1.toNat, p.2.toNat) = p := Prod.ext (by simp only [castE]; omega) (by simp only [castE]; omega)
          rw [this]; exact hp
        · exact Prod.ext (by simp only [castE]; omega) (by simp only [castE]; omega)
    exact ((List.isPerm_iff.1 g3).map castE).trans h4


/-! ### sorting numbers -/
theorem set_same {α : Type} (S : List α) (l : Nat) (c : α) (h : S[l]? = some c) : S.set l c = S := by
  apply List.ext_getElem?
  intro i
  rw [List.getElem?_set]
  split
  · next e => subst e; rw [h]; split <;> simp_all
  · rfl


/-! ### pairs in a block that may be written -/
def prC (ps : List (Int × Int)) : List AV := ps.flatMap fun p => [I p.1, I p.2]
theorem prC_cons (p : Int × Int) (ps : List (Int × Int)) : prC (p :: ps) = I p.1 :: I p.2 :: prC ps := rfl
theorem prC_append (a b : List (Int × Int)) : prC (a ++ b) = prC a ++ prC b := List.flatMap_append
theorem prC_len : ∀ ps : List (Int × Int), (prC ps).length = ps.length * 2
  | [] => rfl
  | p :: r => by rw [prC_cons, List.length_cons, List.length_cons, prC_len r, List.length_cons]; omega
theorem prC_at : ∀ (ps : List (Int × Int)) (i : Nat) (p : Int × Int), ps[i]? = some p → ((prC ps).drop (i * 2)).take 2 = [I p.1, I p.2]
  | [], i, p, h => by simp at h
  | q :: r, 0, p, h => by
    have : q = p := by simpa using h
    subst this; rfl
  | q :: r, i + 1, p, h => by
    rw [prC_cons, show (i + 1) * 2 = i * 2 + 1 + 1 by omega, List.drop_succ_cons, List.drop_succ_cons]
    exact prC_at r i p (by simpa using h)
theorem prC_put : ∀ (ps : List (Int × Int)) (i : Nat) (a b : Int), i < ps.length → ((prC ps).set (i * 2) (I a)).set (i * 2 + 1) (I b) = prC (ps.set i (a, b))
  | [], i, a, b, h => by simp at h
  | q :: r, 0, a, b, h => rfl
  | q :: r, i + 1, a, b, h => by
    rw [prC_cons, show (i + 1) * 2 = i * 2 + 1 + 1 by omega, List.set_cons_succ, List.set_cons_succ, List.set_cons_succ, List.set_cons_succ, prC_put r i a b (by simpa using h), List.set_cons_succ, prC_cons]


/-! ### blocks that name nothing -/
def Calm (a : AV) : Prop := (∀ n acc, refsV n acc a = acc) ∧ (∀ n M, mapL n M a = a) ∧ (∀ n, okRef n a = true) ∧ (∀ n T acc, ren1 n T acc a = (a, acc)) ∧ ∀ l cs, frzV l cs a = a
theorem calm_v (x : Value) : Calm (.v x) := ⟨fun _ _ => by simp only [refsV], fun _ _ => by simp only [mapL], fun _ => by simp only [okRef], fun _ _ _ => by simp only [ren1], fun _ _ => by simp only [frzV]⟩
theorem calm_sl (z : Nat) (nl : Bool) (xs : List AV) : Calm (sl z nl xs) := ⟨fun n acc => refsV_sl n acc z nl xs, fun n M => mapL_sl n M z nl xs, fun n => okRef_sl z nl xs n, fun n T acc => ren1_sl z nl xs n T acc, fun l cs => frzV_sl l cs z nl xs⟩
def Inert (Q : List AV) : Prop := (∀ n acc, refsL n acc Q = acc) ∧ (∀ n M, mapLs n M Q = Q) ∧ (∀ n, okRefs n Q = true) ∧ (∀ n T acc, renCells n T acc Q = (Q, acc)) ∧ ∀ l cs, frzVs l cs Q = Q
theorem inert_of : ∀ (Q : List AV), (∀ a ∈ Q, Calm a) → Inert Q
  | [], _ => ⟨fun _ _ => by simp only [refsL], fun _ _ => by simp only [mapLs], fun _ => by simp only [okRefs], fun _ _ _ => by simp only [renCells], fun _ _ => by simp only [frzVs]⟩
  | a :: Q, h => by
    obtain ⟨h1, h2, h3, h4, h5⟩ := h a (by simp)
    obtain ⟨g1, g2, g3, g4, g5⟩ := inert_of Q fun b hb => h b (by simp [hb])
    exact ⟨fun n acc => by simp only [refsL, h1, g1], fun n M => by simp only [mapLs, h2, g2], fun n => by simp only [okRefs, h3, g3, Bool.and_self], fun n T acc => by simp only [renCells, h4, g4], fun l cs => by simp only [frzVs, h5, g5]⟩
theorem inert_map {α : Type} (f : α → Value) (xs : List α) : Inert (xs.map fun x => .v (f x)) := inert_of _ fun a ha => by
  obtain ⟨x, _, rfl⟩ := List.mem_map.1 ha
  exact calm_v _
theorem inert_prC (ps : List (Int × Int)) : Inert (prC ps) := inert_of _ fun a ha => by
  unfold prC at ha
  obtain ⟨p, _, h⟩ := List.mem_flatMap.1 ha
  simp only [List.mem_cons, List.not_mem_nil, or_false] at h
  rcases h with rfl | rfl <;> exact calm_v _
theorem inert_bk (nl : Bool) (n : Int) (ps : List (Int × Int)) : Inert (bkCells nl n ps) := inert_of _ fun a ha => by
  simp only [bkCells, List.mem_cons, List.not_mem_nil, or_false] at ha
  rcases ha with rfl | rfl
  · exact calm_v _
  · exact calm_sl _ _ _

/-! ### the numbers of articles -/


/-- A list of pairs that may be written, in block l. -/
def wpA (l : Nat) (o : List (Int × Int)) : AV := if o = [] then .v (.slice none 0 0) else .rsl l 0 o.length o.length 2 true
def wpS (o : List (Int × Int)) : List (List AV) := if o = [] then [] else [prC o]
theorem wpA_ne {l : Nat} {o : List (Int × Int)} (h : o ≠ []) : wpA l o = .rsl l 0 o.length o.length 2 true := by unfold wpA; rw [if_neg h]
theorem wpS_ne {o : List (Int × Int)} (h : o ≠ []) : wpS o = [prC o] := by unfold wpS; rw [if_neg h]
theorem wp_nil (x y : Int) (S : List (List AV)) (T : List Nat) : appendmAV 2 true (.v (.slice none 0 0)) [.agg [I x, I y]] ⟨S, T⟩ = some (.rsl S.length 0 1 1 2 true, ⟨S ++ [prC [(x, y)]], T⟩) := by
  simp [appendmAV, newM, maxGrow, flatAV, AV.cells, prC]
theorem wp_at (S : List (List AV)) (T : List Nat) (l : Nat) (o : List (Int × Int)) (x y : Int) (h : S[l]? = some (prC o)) (h1 : 1 ≤ o.length) (h2 : o.length ≤ 1000) : appendmAV 2 true (.rsl l 0 o.length o.length 2 true) [.agg [I x, I y]] ⟨S, T⟩ = some (.rsl S.length 0 (o.length + 1) (o.length + 1) 2 true, ⟨S.set l [] ++ [prC (o ++ [(x, y)])], T⟩) := by
  have hl := prC_len o
  simp only [appendmAV, h]
  rw [if_pos ⟨trivial, trivial, Nat.le_refl _, by omega, by omega⟩, if_neg (by simp), if_pos ⟨trivial, by unfold maxGrow; simp; omega, by simp⟩]
  rw [List.take_of_length_le (by omega), prC_append]
  simp [flatAV, AV.cells, prC]


theorem group_pr : ∀ o : List (Int × Int), group true 2 o.length (prC o) = o.map prAV
  | [] => rfl
  | p :: r => by rw [prC_cons, List.length_cons, group, if_pos rfl, List.map_cons]; congr 1; exact group_pr r
theorem pubs_prC : ∀ o : List (Int × Int), pubs (prC o) = prC o
  | [] => rfl
  | p :: r => by rw [prC_cons, pubs, pubs, pubs_prC r]; rfl
theorem frz_wp (l : Nat) (o : List (Int × Int)) (h : o ≠ []) : frzV l (prC o) (.rsl l 0 o.length o.length 2 true) = sl 2 true (o.map prAV) := by
  simp only [frzV, List.drop_zero]
  rw [if_pos ⟨trivial, by rw [prC_len]; omega, .inl trivial, Nat.le_refl _⟩, pubs_prC, group_pr, sl_ne (by simpa using h)]
theorem prC_ne {o : List (Int × Int)} (h : o ≠ []) : prC o ≠ [] := by
  cases o with
  | nil => exact absurd rfl h
  | cons p r => simp [prC_cons]
theorem frzV_rsl_ne {l l' : Nat} (h : l' ≠ l) (cs : List AV) (o n c z : Nat) (a : Bool) : frzV l cs (.rsl l' o n c z a) = .rsl l' o n c z a := by
  simp only [frzV]; rw [if_neg (fun e => h e.1)]

end Go.Proofs.YtpmbfgogpcjdlaaDoor.Vm
