/- What is proved: what each function of this program computes, as equations on the evaluator. No condition. -/
import Derived.Test.YtiifibgadipalaaC2
set_option linter.all false
namespace Go.Proofs.Ytiifibgadipalaa.Vm
open Go Go.Ev
set_option maxRecDepth 100000
attribute [local go_sem] cells_any storable_any ren1_any shaped_ptr cells_ptr storable_ptr ren1_ptr shaped_eptr cells_eptr storable_eptr ren1_eptr shaped_rsl cells_rsl storable_rsl ren1_rsl shaped_int cells_int storable_int ren1_int shaped_bool cells_bool storable_bool ren1_bool shaped_nils cells_nils storable_nils ren1_nils shaped_lst cells_lst storable_lst shaped_fn cells_fn storable_fn ren1_fn shaped_ifc cells_ifc storable_ifc ren1_ifc shaped_agg cells_agg storable_agg ren1_agg shaped_tup cells_tup storable_tup ren1_tup shaped_nif cells_nif storable_nif ren1_nif ren1_lany ren1_lfull ren1_lown len_lst len_rsl len_nil load_ptr load_eptr isRsl_lst isRsl_nil isRsl_rsl elems_nil elems_lst elems_sl isRsl_sl body_eq bodyK_normal bodyK_ret resK_some leaveK_some only_some code_skip code_exit code_ret code_ops code_seq code_cond code_block seqK_normal seqK_ret seqK_exit condK_true condK_false blockK_normal blockK_ret blockK_exit opsK_some ops_nil ops_cons wantK_true wantK_false stepK_some pubs pub pub_sl params okRef_loc storable_loc shaped_loc cells_loc isRsl_loc elems_loc len_loc untips untip untip_sl wantedAV setElems withO isAgg_v isAgg_agg isAgg_lst isAgg_ptr isAgg_fn isAgg_ifc isAgg_rsl isAgg_sl isAgg_loc List.replicate_succ List.replicate_zero opAV valAV aval avals ofVal Env.get setD canon gcAV renAll renEnv renStore renCells ren1_sl cutSt okEnv okStore okRefs okRef okRef_sl bin_int bin_bool bin_lst bin_rsl bin_nil bin_agg cellsEq cellEq isShift intOp boolOp min_int max_int beq_int bne resAV tupAV leave_eq fin_sl fin_loc fins fin_v fin_lst fin_agg fin_tup fin_fn storeAV readCells putCells cells_sl shaped_sl storable_sl fieldAddrAV len_sl goI List.getElem?_cons_zero List.getElem?_cons_succ List.getElem?_nil Option.bind_some Option.map_some List.length_cons List.length_nil List.all_cons List.all_nil Bool.and_true Bool.true_and Bool.and_false Bool.false_and and_true true_and and_false false_and Bool.false_eq_true List.set_cons_zero List.set_cons_succ List.append_nil List.nil_append List.cons_append List.take_zero List.take_succ_cons List.take_nil List.drop_zero List.drop_succ_cons List.map_cons List.map_nil decide_true decide_false beq_self_eq_true Bool.not_true Bool.not_false or_true true_or or_false false_or Nat.zero_add Nat.add_zero Nat.le_refl Nat.lt_irrefl decide_eq_true_eq eq_self_iff_true not_true_eq_false not_false_eq_true List.getD_cons_zero code_loop Nat.zero_le Nat.not_lt_zero Bool.true_beq Bool.false_beq beq_true beq_false ge_iff_le gt_iff_lt Lpure pus Option.map_none assert_ifc assert_nil idxA_ptr idxA_eptr idxV_agg Int.cast_ofNat_Int Nat.mul_one Nat.zero_mul Int.toNat_natCast Int.toNat_zero setParts withO2 eqnil_sl nenil_sl eqnil_loc nenil_loc map_nil_iff okRefs_ints renCells_ints

/-- A cut each of whose volumes is as long as possible. -/
def Greedy (n : Nat) (p : Int → Int → Bool) : Nat → List Int → Prop
  | b, [] => n ≤ b
  | b, e :: r => ∃ E : Nat, e = E ∧ b < E ∧ E ≤ n ∧ p b E = true ∧ (∀ e' : Nat, E < e' → e' ≤ n → p b e' = false) ∧ Greedy n p E r

theorem fill_greedy (l : List Int) (room : Int) (n : Nat) (hp : Mono n (fun b e => decide (seg l b e ≤ room))) (hsing : ∀ e : Nat, 1 ≤ e → e ≤ n → seg l ((e : Int) - 1) e ≤ room) :
    ∀ (k b e : Nat) (out : List Int), e + k = n + 1 → b < e → (e = b + 1 ∨ seg l b ((e : Int) - 1) ≤ room) → b < n →
      ∃ r, fillFrom l room k b e out = some (out ++ r) ∧ Greedy n (fun b e => decide (seg l b e ≤ room)) b (r ++ [(n : Int)])
  | 0, b, e, out, hk, hbe, hpre, hbn => by
    refine ⟨[], by simp [fillFrom], ?_⟩
    have h1 : decide (seg l b n ≤ room) = true := by
      rcases hpre with h | h
      · have := hsing (b + 1) (by omega) (by omega)
        rw [show ((b + 1 : Nat) : Int) - 1 = b by omega] at this
        rw [show n = b + 1 by omega]; simpa using this
      · rw [show (e : Int) - 1 = n by omega] at h; simpa using h
    exact ⟨n, rfl, hbn, Nat.le_refl _, h1, fun e h1 h2 => by omega, Nat.le_refl _⟩
  | k + 1, b, e, out, hk, hbe, hpre, hbn => by
    simp only [fillFrom]
    rw [if_neg (by have := hsing e (by omega) (by omega); omega)]
    split
    · next hlt =>
      have hb1 : b < e - 1 := by
        rcases hpre with h | h
        · exfalso
          have := hsing e (by omega) (by omega)
          rw [h] at this hlt
          rw [show ((b + 1 : Nat) : Int) - 1 = b by omega] at this
          omega
        · rcases Nat.lt_or_ge b (e - 1) with h1 | h1
          · exact h1
          · exfalso
            have := hsing e (by omega) (by omega)
            rw [show (e : Int) - 1 = b by omega] at this
            omega
      have hE : seg l b ((e : Int) - 1) ≤ room := by
        rcases hpre with h | h
        · omega
        · exact h
      obtain ⟨r, h1, h2⟩ := fill_greedy l room n hp hsing k (e - 1) (e + 1) (out ++ [(e : Int) - 1]) (by omega) (by omega) (.inr (by
        have := hsing e (by omega) (by omega)
        rw [show ((e - 1 : Nat) : Int) = (e : Int) - 1 by omega, show ((e + 1 : Nat) : Int) - 1 = e by omega]; exact this)) (by omega)
      refine ⟨((e : Int) - 1) :: r, by rw [h1]; simp, e - 1, by omega, hb1, by omega, ?_, fun e' h3 h4 => ?_, h2⟩
      · rw [show ((e - 1 : Nat) : Int) = (e : Int) - 1 by omega]; simpa using hE
      · rw [decide_eq_false_iff_not]
        intro h5
        have := hp b b e e' (Nat.le_refl _) (by omega) (by omega) h4 (by simpa using h5)
        simp at this; omega
    · next hlt =>
      exact fill_greedy l room n hp hsing k b (e + 1) out (by omega) (by omega) (.inr (by rw [show ((e + 1 : Nat) : Int) - 1 = e by omega]; omega)) hbn

theorem filled_greedy {arts : List (Int × Int)} {room floor : Int} (hc : check arts room floor = 0) (hs : ∀ a ∈ arts, a.2 ≤ room) :
    Greedy arts.length (fun b e => decide (seg (mosts arts) b e ≤ room)) 0 (filled (mosts arts) room) := by
  obtain ⟨g1, g2, g3, g4⟩ := mosts_ok hc
  have hs' := (singles_iff room).2 hs
  obtain ⟨r, h1, h2⟩ := fill_greedy (mosts arts) room arts.length (mono_room hc) hs' arts.length 0 1 [] (by omega) (by omega) (.inl rfl) (by omega)
  have hf : filled (mosts arts) room = r ++ [(arts.length : Int)] := by
    unfold filled
    rw [g2, Nat.add_sub_cancel, h1]
    simp only [List.nil_append]
    congr 2; omega
  rw [hf]
  exact h2

/-! ### the longest rows -/

theorem rowOf_eq {n : Nat} {la : Nat → Nat} (hla : ∀ x, x < n → x < la x ∧ la x ≤ n) (x : Nat) (hx : x < n) : rowOf n la x = if la x < n then max (rowOf n la (x + 1)) (1 + rowOf n la (la x)) else rowOf n la (x + 1) := by
  have := hla x hx
  rw [rowOf, if_pos hx, show max (x + 1) (la x) = la x by omega]
theorem rowOf_end {n : Nat} {la : Nat → Nat} {x : Nat} (h : n ≤ x) : rowOf n la x = 0 := by rw [rowOf, if_neg (by omega)]
theorem rowOf_step {n : Nat} {la : Nat → Nat} (hla : ∀ x, x < n → x < la x ∧ la x ≤ n) (x : Nat) : rowOf n la (x + 1) ≤ rowOf n la x := by
  by_cases hx : x < n
  · rw [rowOf_eq hla x hx]; split <;> omega
  · rw [rowOf_end (show n ≤ x + 1 by omega)]; omega
theorem rowOf_anti {n : Nat} {la : Nat → Nat} (hla : ∀ x, x < n → x < la x ∧ la x ≤ n) (x : Nat) : ∀ k, rowOf n la (x + k) ≤ rowOf n la x
  | 0 => Nat.le_refl _
  | k + 1 => Nat.le_trans (rowOf_step hla (x + k)) (rowOf_anti hla x k)
/-- The longest row begins with the shortest stretch. -/
theorem rowOf_first {n : Nat} {la : Nat → Nat} (hla : ∀ x, x < n → x < la x ∧ la x ≤ n) (hm : ∀ x, x + 1 < n → la x ≤ la (x + 1)) : ∀ (m x : Nat), n - x = m → x < n → rowOf n la x = if la x < n then 1 + rowOf n la (la x) else 0 := by
  intro m
  induction m using Nat.strongRecOn with
  | ind m ih =>
    intro x hm' hx
    rw [rowOf_eq hla x hx]
    have h1 := hla x hx
    by_cases h2 : x + 1 < n
    · have h3 := ih (n - (x + 1)) (by omega) (x + 1) rfl h2
      have h4 := hm x h2
      by_cases h5 : la x < n
      · rw [if_pos h5, if_pos h5]
        have h6 := rowOf_anti hla (la x) (la (x + 1) - la x)
        rw [show la x + (la (x + 1) - la x) = la (x + 1) by omega] at h6
        split at h3 <;> omega
      · rw [if_neg h5, if_neg h5, h3, if_neg (by omega)]
    · rw [rowOf_end (show n ≤ x + 1 by omega)]
      rw [if_neg (by omega), if_neg (by omega)]

/-- THE STAGE'S THEOREM: as many volumes as stretches in the longest row, and one more. -/
theorem greedy_row {n : Nat} {p : Int → Int → Bool} {la : Nat → Nat} (hla : ∀ x, x < n → x < la x ∧ la x ≤ n) (hm : ∀ x, x + 1 < n → la x ≤ la (x + 1))
    (hpla : ∀ x E : Nat, x < E → E ≤ n → p x E = true → (∀ e' : Nat, E < e' → e' ≤ n → p x e' = false) → la x = E) : ∀ (f : List Int) (b : Nat), b < n → Greedy n p b f → f.length = 1 + rowOf n la b
  | [], b, hb, h => by simp only [Greedy] at h; omega
  | e :: r, b, hb, h => by
    obtain ⟨E, rfl, q1, q2, q3, q4, q5⟩ := h
    have h1 := hpla b E q1 q2 q3 q4
    have h2 := rowOf_first hla hm _ b rfl hb
    rw [h1] at h2
    by_cases h3 : E < n
    · rw [if_pos h3] at h2
      have := greedy_row hla hm hpla r E h3 q5
      rw [List.length_cons, this, h2]; omega
    · rw [if_neg h3] at h2
      cases r with
      | nil => rw [h2]; rfl
      | cons x t => obtain ⟨X, _, h4, h5, _⟩ := q5; omega

theorem last_greedy {arts : List (Int × Int)} {room0 floor : Int} (hck : check arts room0 floor = 0) (room : Int) (x E : Nat) (h1 : x < E) (h2 : E ≤ arts.length) (h3 : decide (seg (mosts arts) x E ≤ room) = true)
    (h4 : ∀ e' : Nat, E < e' → e' ≤ arts.length → decide (seg (mosts arts) x e' ≤ room) = false) : lastOfArt (mosts arts) room arts.length x = E := by
  obtain ⟨k1, k2⟩ := lastOfArt_ok (mosts arts) room arts.length x (by omega)
  obtain ⟨k3, k4⟩ := stretchEnd_spec (mosts arts) room arts.length x (arts.length - (x + 1)) (x + 1) (by omega)
  have hm := mono_any hck room
  have e0 : lastOfArt (mosts arts) room arts.length x = stretchEnd (mosts arts) room arts.length x (arts.length - (x + 1)) (x + 1) := rfl
  rw [← e0] at k3 k4
  generalize lastOfArt (mosts arts) room arts.length x = Y at *
  rw [decide_eq_true_eq] at h3
  rcases Nat.lt_trichotomy Y E with h | h | h
  · have h5 := k4 (by omega)
    have h6 := hm x x (Y + 1) E (Nat.le_refl _) (by omega) (by omega) h2 (by simpa using h3)
    rw [decide_eq_true_eq, show ((Y + 1 : Nat) : Int) = (Y : Int) + 1 by omega] at h6
    omega
  · exact h
  · have h5 := k3 E (by omega) h
    have h6 := h4 (E + 1) (by omega) (by omega)
    rw [decide_eq_false_iff_not, show ((E + 1 : Nat) : Int) = (E : Int) + 1 by omega] at h6
    omega
theorem last_mono {arts : List (Int × Int)} {room0 floor : Int} (hck : check arts room0 floor = 0) (room : Int) (x : Nat) (hx : x + 1 < arts.length) : lastOfArt (mosts arts) room arts.length x ≤ lastOfArt (mosts arts) room arts.length (x + 1) := by
  obtain ⟨k1, k2⟩ := lastOfArt_ok (mosts arts) room arts.length x (by omega)
  obtain ⟨j1, j2⟩ := lastOfArt_ok (mosts arts) room arts.length (x + 1) (by omega)
  obtain ⟨k3, _⟩ := stretchEnd_spec (mosts arts) room arts.length x (arts.length - (x + 1)) (x + 1) (by omega)
  obtain ⟨_, j4⟩ := stretchEnd_spec (mosts arts) room arts.length (x + 1) (arts.length - (x + 1 + 1)) (x + 1 + 1) (by omega)
  have hm := mono_any hck room
  have e0 : lastOfArt (mosts arts) room arts.length x = stretchEnd (mosts arts) room arts.length x (arts.length - (x + 1)) (x + 1) := rfl
  have e1 : lastOfArt (mosts arts) room arts.length (x + 1) = stretchEnd (mosts arts) room arts.length (x + 1) (arts.length - (x + 1 + 1)) (x + 1 + 1) := rfl
  rw [← e0] at k3
  rw [← e1] at j4
  generalize lastOfArt (mosts arts) room arts.length x = Y at *
  generalize lastOfArt (mosts arts) room arts.length (x + 1) = Z at *
  apply Classical.byContradiction
  intro h
  have h5 := k3 Z (by omega) (by omega)
  have h6 := j4 (by omega)
  have h7 := hm x (x + 1) (Z + 1) (Z + 1) (by omega) (by omega) (Nat.le_refl _) (by omega) (by rw [decide_eq_true_eq, show ((Z + 1 : Nat) : Int) = (Z : Int) + 1 by omega]; exact h5)
  rw [decide_eq_true_eq, show ((Z + 1 : Nat) : Int) = (Z : Int) + 1 by omega] at h7
  omega


/-! ### pairs of numbers that may be written -/

/-- The cells of a list of pairs. -/
def flatI (xs : List (Int × Int)) : List Int := xs.flatMap fun a => [a.1, a.2]
theorem flatI_cons (a : Int × Int) (r : List (Int × Int)) : flatI (a :: r) = a.1 :: a.2 :: flatI r := rfl
theorem flatI_len (xs : List (Int × Int)) : (flatI xs).length = xs.length * 2 := by
  induction xs with
  | nil => rfl
  | cons a r ih => rw [flatI_cons, List.length_cons, List.length_cons, ih, List.length_cons]; omega
theorem flatI_AV (xs : List (Int × Int)) : flatAV (xs.map artAV) = (flatI xs).map I := by
  induction xs with
  | nil => rfl
  | cons a r ih =>
    rw [flatI_cons]
    simp only [flatAV, List.map_cons, List.flatMap_cons] at ih ⊢
    rw [ih]; rfl
theorem flatI_at (xs : List (Int × Int)) (i : Nat) (h : i < xs.length) : (flatI xs).drop (i * 2) = xs[i].1 :: xs[i].2 :: flatI (xs.drop (i + 1)) := by
  induction xs generalizing i with
  | nil => simp at h
  | cons a r ih =>
    cases i with
    | zero => rw [flatI_cons]; rfl
    | succ i =>
      rw [flatI_cons, show (i + 1) * 2 = i * 2 + 1 + 1 by omega, List.drop_succ_cons, List.drop_succ_cons, ih i (by simpa using h)]
      rfl
theorem flatI_get0 (xs : List (Int × Int)) (i : Nat) (h : i < xs.length) : ((flatI xs).map I)[i * 2]? = some (I xs[i].1) := by
  have := flatI_at xs i h
  have h2 : ((flatI xs).drop (i * 2))[0]? = some xs[i].1 := by rw [this]; rfl
  rw [List.getElem?_drop, Nat.add_zero] at h2
  rw [List.getElem?_map, h2]; rfl
theorem flatI_get1 (xs : List (Int × Int)) (i : Nat) (h : i < xs.length) : ((flatI xs).map I)[i * 2 + 1]? = some (I xs[i].2) := by
  have := flatI_at xs i h
  have h2 : ((flatI xs).drop (i * 2))[1]? = some xs[i].2 := by rw [this]; rfl
  rw [List.getElem?_drop] at h2
  rw [List.getElem?_map, h2]; rfl
theorem flatI_pair (xs : List (Int × Int)) (i : Nat) (h : i < xs.length) : (((flatI xs).map I).drop (i * 2)).take 2 = [I xs[i].1, I xs[i].2] := by
  rw [← List.map_drop, flatI_at xs i h]; rfl
theorem flatI_set (xs : List (Int × Int)) (i : Nat) (a b : Int) (h : i < xs.length) : (((flatI xs).map I).set (i * 2) (I a)).set (i * 2 + 1) (I b) = (flatI (xs.set i (a, b))).map I := by
  rw [← List.map_set, ← List.map_set]
  congr 1
  induction xs generalizing i with
  | nil => simp at h
  | cons x r ih =>
    cases i with
    | zero => simp [flatI_cons]
    | succ i =>
      rw [List.set_cons_succ, flatI_cons, flatI_cons, ← ih i (by simpa using h), show (i + 1) * 2 = i * 2 + 1 + 1 by omega]
      rfl
theorem set_same {l : List AV} {i : Nat} {x : AV} (h : l[i]? = some x) : l.set i x = l := by
  obtain ⟨hi, rfl⟩ := List.getElem?_eq_some_iff.1 h
  exact List.set_getElem_self hi
theorem flatI_set0 (xs : List (Int × Int)) (i : Nat) (a : Int) (h : i < xs.length) : ((flatI xs).map I).set (i * 2) (I a) = (flatI (xs.set i (a, xs[i].2))).map I := by
  rw [← flatI_set xs i a _ h]
  have h1 := flatI_get1 xs i h
  rw [set_same (i := i * 2 + 1) (by rw [List.getElem?_set_ne (by omega)]; exact h1)]
theorem flatI_set1 (xs : List (Int × Int)) (i : Nat) (b : Int) (h : i < xs.length) : ((flatI xs).map I).set (i * 2 + 1) (I b) = (flatI (xs.set i (xs[i].1, b))).map I := by
  rw [← flatI_set xs i _ b h]
  have h1 := flatI_get0 xs i h
  rw [set_same h1]
theorem frzV_v (l : Nat) (cs : List AV) (x : Value) : frzV l cs (.v x) = .v x := by simp only [frzV]
theorem frzV_ptr (l : Nat) (cs : List AV) (i o : Nat) : frzV l cs (.ptr i o) = .ptr i o := by simp only [frzV]
theorem frzV_eptr (l : Nat) (cs : List AV) (e : AV) (o : Nat) : frzV l cs (.eptr e o) = .eptr e o := by simp only [frzV]
theorem frzV_lst (l : Nat) (cs : List AV) (g : Tag) (z : Nat) (xs : List AV) : frzV l cs (.lst g z xs) = .lst g z xs := by simp only [frzV]
theorem frzV_fn (l : Nat) (cs : List AV) (f : Fn) (a b : List AV) : frzV l cs (.fn f a b) = .fn f a b := by simp only [frzV]
theorem frzV_agg (l : Nat) (cs : List AV) (xs : List AV) : frzV l cs (.agg xs) = .agg (frzVs l cs xs) := by simp only [frzV]
theorem frzV_tup (l : Nat) (cs : List AV) (xs : List AV) : frzV l cs (.tup xs) = .tup (frzVs l cs xs) := by simp only [frzV]
theorem frzV_any (l : Nat) (cs : List AV) : frzV l cs .any = .any := by simp only [frzV]
theorem frzVs_U (l : Nat) (cs : List AV) (xs : List Int) : frzVs l cs (xs.map U) = xs.map U := by
  induction xs with
  | nil => rfl
  | cons x r ih => simp only [List.map_cons, frzVs, frzV, ih]
theorem frzVs_append (l : Nat) (cs : List AV) : ∀ a b : List AV, frzVs l cs (a ++ b) = frzVs l cs a ++ frzVs l cs b
  | [], _ => rfl
  | x :: r, b => by simp only [List.cons_append, frzVs, frzVs_append l cs r b]
theorem frzVs_shelf (l : Nat) (cs : List AV) (s : Shelf) : frzVs l cs s.cells = s.cells := by
  simp only [Shelf.cells, frzVs, frzV, frzVs_append, frzVs_U]
theorem shVs_ints (n : Nat) (xs : List Int) : shVs n (xs.map I) = xs.map I := by
  induction xs with
  | nil => rfl
  | cons x r ih => simp only [List.map_cons, shVs, shV, ih]
theorem pubs_I (l : List Int) : pubs (l.map I) = l.map I := pubs_map I (fun _ => rfl) l
theorem frzV_sl (l : Nat) (cs : List AV) (z : Nat) (nl : Bool) (xs : List AV) : frzV l cs (sl z nl xs) = sl z nl xs := by
  cases xs with
  | nil => cases nl <;> rfl
  | cons x r => rw [sl_ne (by simp)]; simp only [frzV]
theorem group_flat (xs : List (Int × Int)) : group true 2 xs.length ((flatI xs).map I) = xs.map artAV := by
  induction xs with
  | nil => rfl
  | cons a r ih =>
    rw [flatI_cons]
    simp only [List.length_cons, group, if_true, List.map_cons, List.take_succ_cons, List.take_zero, List.drop_succ_cons, List.drop_zero, ih]

theorem c60 (nl : Bool) (arts : List (Int × Int)) (h : arts ≠ []) (hm : arts.length ≤ maxGrow) :
    run L 60 [sl 2 nl (arts.map artAV)] ⟨[], []⟩ = some (.rsl 0 0 arts.length arts.length 2 true, ⟨[(flatI arts).map I], []⟩) := by
  rw [run_shared (fn := ir60) rfl rfl]
  have hne : arts.map artAV ≠ [] := by simpa using h
  have hsl : sl 2 nl (arts.map artAV) = .lst .any 2 (arts.map artAV) := sl_ne hne
  have happ : appendmAV 2 true (.lst .full 2 []) (arts.map artAV) ⟨[], []⟩ = some (.rsl 0 0 arts.length arts.length 2 true, ⟨[(flatI arts).map I], []⟩) := by
    cases arts with
    | nil => exact absurd rfl h
    | cons a r =>
      have := flatI_AV (a :: r)
      simp only [List.map_cons] at this ⊢
      simp only [appendmAV, if_true, newM, List.nil_append, List.length_cons, List.length_map, this]
      rw [if_pos (by simpa using hm)]
      rfl
  have he : elemsOf 2 ⟨[], []⟩ (.lst .any 2 (arts.map artAV)) = some (arts.map artAV) := by simp [elemsOf]
  rw [hsl]
  simp only [ir60, go_sem, reduceIte, Nat.reduceEqDiff, Nat.reduceAdd, Nat.reduceSub, Nat.reduceLeDiff, Nat.reduceLT, reduceCtorEq, Int.reduceLT, Int.reduceLE, Int.reduceEq, Int.reduceBEq, Int.reduceSub, Int.reduceAdd, Int.reduceMul, Int.reduceNeg, Int.reduceToNat, Nat.reduceMul, Nat.reduceBEq, he, happ]


/-! ### a line more for an article -/

theorem sums_shift (l : List Int) : ∀ (s d : Int) (i : Nat), i ≤ l.length → (sums (s + d) l).getD i 0 = (sums s l).getD i 0 + d := by
  induction l with
  | nil => intro s d i hi; have : i = 0 := by simpa using hi
           subst this; simp [sums]
  | cons x r ih =>
    intro s d i hi
    simp only [sums]
    cases i with
    | zero => simp
    | succ i =>
      simp only [List.getD_cons_succ]
      have := ih (s + x) d i (by simpa using hi)
      rw [show s + d + x = s + x + d by omega]; exact this
theorem sums_set (l : List Int) (k : Nat) (v : Int) (hk : k < l.length) : ∀ (s : Int) (i : Nat), i ≤ l.length → (sums s (l.set k v)).getD i 0 = (sums s l).getD i 0 + if k < i then v - l[k] else 0 := by
  induction l generalizing k with
  | nil => simp at hk
  | cons x r ih =>
    intro s i hi
    cases k with
    | zero =>
      simp only [List.set_cons_zero, sums, List.getElem_cons_zero]
      cases i with
      | zero => simp
      | succ i =>
        simp only [List.getD_cons_succ]
        have := sums_shift r (s + x) (v - x) i (by simpa using hi)
        rw [show s + x + (v - x) = s + v by omega] at this
        rw [this, if_pos (by omega)]
    | succ k =>
      simp only [List.set_cons_succ, sums, List.getElem_cons_succ]
      cases i with
      | zero => simp
      | succ i =>
        simp only [List.getD_cons_succ]
        rw [ih k (by simpa using hk) (s + x) i (by simpa using hi)]
        congr 1
        simp only [Nat.add_lt_add_iff_right]

def moreArts (arts : List (Int × Int)) (k : Nat) (a : Int × Int) : List (Int × Int) := arts.set k (a.1 + 1, a.2 + 1)
theorem more_seg (arts : List (Int × Int)) (k : Nat) (hk : k < arts.length) (b e : Nat) (h1 : b ≤ e) (h2 : e ≤ arts.length) :
    seg (mosts (moreArts arts k arts[k])) b e = seg (mosts arts) b e + if b ≤ k ∧ k < e then 1 else 0 := by
  have e1 : mosts (moreArts arts k arts[k]) = sums 0 ((arts.map (·.2)).set k (arts[k].2 + 1)) := by
    unfold mosts moreArts; rw [List.map_set]
  have hb := sums_set (arts.map (·.2)) k (arts[k].2 + 1) (by simpa using hk) 0 b (by simp; omega)
  have he := sums_set (arts.map (·.2)) k (arts[k].2 + 1) (by simpa using hk) 0 e (by simpa using h2)
  rw [e1]
  unfold seg
  simp only [Int.toNat_natCast]
  rw [hb, he]
  simp only [List.getElem_map, mosts]
  have : arts[k].2 + 1 - arts[k].2 = 1 := by omega
  rw [this]
  by_cases c1 : k < e <;> by_cases c2 : k < b
  · rw [if_pos c1, if_pos c2, if_neg (by omega)]; omega
  · rw [if_pos c1, if_neg c2, if_pos (by omega)]; omega
  · omega
  · rw [if_neg c1, if_neg c2, if_neg (by omega)]; omega

theorem isGood_mono {n : Nat} {p q : Int → Int → Bool} : ∀ (c : List Int) (b : Nat), (∀ b' e' : Nat, b ≤ b' → b' < e' → e' ≤ n → p b' e' = true → q b' e' = true) → IsGood n p b c → IsGood n q b c
  | [], _, _, h => h
  | e :: r, b, hpq, h => by
    obtain ⟨e', rfl, h1, h2, h3, h4⟩ := h
    exact ⟨e', rfl, h1, h2, hpq b e' (Nat.le_refl _) h1 h2 h3, isGood_mono r e' (fun b' f' q1 q2 q3 => hpq b' f' (by omega) q2 q3) h4⟩

theorem split_good {n k : Nat} {room : Int} {l l' : List Int} (hseg : ∀ b e : Nat, b ≤ e → e ≤ n → seg l' b e = seg l b e + if b ≤ k ∧ k < e then 1 else 0) (hone : seg l' k ((k + 1 : Nat) : Int) ≤ room) (hpos : ∀ b e : Nat, b < e → e ≤ n → 1 ≤ seg l b e) :
    ∀ (c : List Int) (b : Nat), IsGood n (fun b e => decide (seg l b e ≤ room)) b c → ∃ c', IsGood n (fun b e => decide (seg l' b e ≤ room)) b c' ∧ c'.length ≤ c.length + 1
  | [], b, h => ⟨[], h, by simp⟩
  | e :: r, b, h => by
    obtain ⟨e', rfl, h1, h2, h3, h4⟩ := h
    rw [decide_eq_true_eq] at h3
    have hs := hseg b e' (by omega) h2
    have later : ∀ (b0 : Nat), k < b0 → ∀ c, IsGood n (fun b e => decide (seg l b e ≤ room)) b0 c → IsGood n (fun b e => decide (seg l' b e ≤ room)) b0 c := by
      intro b0 hb0 c hc
      refine isGood_mono c b0 (fun b' f' q1 q2 q3 q4 => ?_) hc
      rw [decide_eq_true_eq] at q4 ⊢
      rw [hseg b' f' (by omega) q3, if_neg (by omega)]; omega
    have add : ∀ m : Nat, seg l b e' = seg l b m + seg l m e' := by intro m; unfold seg; omega
    by_cases c1 : k < b
    · rw [if_neg (by omega)] at hs
      exact ⟨(e' : Int) :: r, ⟨e', rfl, h1, h2, by rw [decide_eq_true_eq]; omega, later e' (by omega) r h4⟩, by simp⟩
    · by_cases c2 : e' ≤ k
      · rw [if_neg (by omega)] at hs
        obtain ⟨c', g1, g2⟩ := split_good hseg hone hpos r e' h4
        exact ⟨(e' : Int) :: c', ⟨e', rfl, h1, h2, by rw [decide_eq_true_eq]; omega, g1⟩, by simp only [List.length_cons]; omega⟩
      · rw [if_pos ⟨by omega, by omega⟩] at hs
        have hr := later e' (by omega) r h4
        by_cases c3 : seg l' b e' ≤ room
        · exact ⟨(e' : Int) :: r, ⟨e', rfl, h1, h2, by rw [decide_eq_true_eq]; exact c3, hr⟩, by simp⟩
        · by_cases c4 : k + 1 < e'
          · have h5 := hpos (k + 1) e' c4 h2
            have h6 := add (k + 1)
            have h7 := hseg b (k + 1) (by omega) (by omega)
            rw [if_pos ⟨by omega, by omega⟩] at h7
            have h8 := hseg (k + 1) e' (by omega) h2
            rw [if_neg (by omega)] at h8
            have h9 := hpos b (k + 1) (by omega) (by omega)
            exact ⟨((k + 1 : Nat) : Int) :: (e' : Int) :: r, ⟨k + 1, rfl, by omega, by omega, by rw [decide_eq_true_eq]; omega, e', rfl, c4, h2, by rw [decide_eq_true_eq]; omega, hr⟩, by simp⟩
          · obtain rfl : e' = k + 1 := by omega
            by_cases c5 : b < k
            · have h6 := add k
              have h7 := hseg b k (by omega) (by omega)
              rw [if_neg (by omega)] at h7
              have h9 := hpos k (k + 1) (by omega) h2
              exact ⟨(k : Int) :: ((k + 1 : Nat) : Int) :: r, ⟨k, rfl, c5, by omega, by rw [decide_eq_true_eq]; omega, k + 1, rfl, by omega, h2, by rw [decide_eq_true_eq]; exact hone, hr⟩, by simp⟩
            · obtain rfl : b = k := by omega
              exact absurd hone c3

theorem check_ok {arts : List (Int × Int)} {room floor : Int} (h1 : 1 ≤ arts.length) (h2 : arts.length ≤ 12) (h3 : ∀ a ∈ arts, 1 ≤ a.1 ∧ a.1 ≤ a.2 ∧ a.2 ≤ 30) (h4 : 1 ≤ room) (h5 : room ≤ 100) (h6 : 0 ≤ floor) (h7 : floor ≤ room) : check arts room floor = 0 := by
  have ha : ∀ l : List (Int × Int), (∀ a ∈ l, 1 ≤ a.1 ∧ a.1 ≤ a.2 ∧ a.2 ≤ 30) → artsErr l = 0 := by
    intro l
    induction l with
    | nil => intro _; rfl
    | cons a r ih =>
      intro h
      have := h a (by simp)
      simp only [artsErr]
      rw [if_pos (by unfold artErr; rw [if_neg (by omega), if_neg (by omega)])]
      exact ih fun x hx => h x (by simp [hx])
  unfold check
  rw [if_neg (by omega), if_neg (by omega), if_pos (ha _ h3), if_neg (by omega)]

theorem seg_pos1 {arts : List (Int × Int)} {room floor : Int} (hc : check arts room floor = 0) (b e : Nat) (h1 : b < e) (h2 : e ≤ arts.length) : 1 ≤ seg (mosts arts) b e := by
  have h1' := seg_sums (·.2) arts b e (by omega) (by omega) (by omega)
  unfold mosts
  rw [h1']
  obtain ⟨_, _, k3, _⟩ := check_zero hc
  unfold sumSeg
  simp only [Int.toNat_natCast]
  have hd : (arts.take e).drop b = arts[b]'(by omega) :: (arts.take e).drop (b + 1) := by
    rw [List.drop_eq_getElem_cons (by simp; omega)]; simp
  rw [hd, List.map_cons, List.sum_cons]
  have h2 := k3 _ (List.getElem_mem (show b < arts.length by omega))
  have h3 : ∀ l : List (Int × Int), (∀ a ∈ l, 0 ≤ a.2) → 0 ≤ (l.map (·.2)).sum := by
    intro l
    induction l with
    | nil => intro _; simp
    | cons x t ih => intro h; have := ih fun a ha => h a (by simp [ha]); have := h x (by simp); simp only [List.map_cons, List.sum_cons]; omega
  have h4 := h3 ((arts.take e).drop (b + 1)) fun a ha => by have := k3 a (List.mem_of_mem_take (List.mem_of_mem_drop ha)); omega
  omega

/-- A line more: as many volumes, or one more. -/
theorem more_len {arts : List (Int × Int)} {room floor : Int} (hc : check arts room floor = 0) (hs : ∀ a ∈ arts, a.2 ≤ room) (k : Nat) (hk : k < arts.length) (hc2 : check (moreArts arts k arts[k]) room floor = 0) (hk2 : arts[k].2 + 1 ≤ room) :
    filled (mosts (moreArts arts k arts[k])) room ≠ [] ∧ (filled (mosts arts) room).length ≤ (filled (mosts (moreArts arts k arts[k])) room).length ∧
    (filled (mosts (moreArts arts k arts[k])) room).length ≤ (filled (mosts arts) room).length + 1 := by
  have hlen : (moreArts arts k arts[k]).length = arts.length := by simp [moreArts]
  have hs2 : ∀ a ∈ moreArts arts k arts[k], a.2 ≤ room := by
    intro a ha
    rcases List.mem_or_eq_of_mem_set ha with ha | rfl
    · exact hs a ha
    · exact hk2
  obtain ⟨u1, _⟩ := filled_some hc hs
  obtain ⟨v1, v2⟩ := filled_some hc2 hs2
  rw [hlen] at v1
  have hseg := more_seg arts k hk
  have hu := lastMin_mem u1
  have hv := lastMin_mem v1
  refine ⟨v2, hu.2 _ ?_, ?_⟩
  · refine (goods_iff _ _ _ 0 rfl _).2 (isGood_mono _ 0 (fun b e _ h1 h2 h3 => ?_) ((goods_iff _ _ _ 0 rfl _).1 hv.1))
    rw [decide_eq_true_eq] at h3 ⊢
    rw [hseg b e (by omega) h2] at h3
    split at h3 <;> omega
  · have hone : seg (mosts (moreArts arts k arts[k])) k ((k + 1 : Nat) : Int) ≤ room := by
      have := seg_single (arts := moreArts arts k arts[k]) (i := k) (by omega)
      rw [this]
      simp only [moreArts, List.getElem_set_self]
      exact hk2
    obtain ⟨c', g1, g2⟩ := split_good hseg hone (seg_pos1 hc) _ 0 ((goods_iff _ _ _ 0 rfl _).1 hu.1)
    have := hv.2 c' ((goods_iff _ _ _ 0 rfl _).2 g1)
    omega


theorem frzL2 {a b cs : List AV} (hne : cs ≠ []) (r : List (List AV)) (T : List Nat) (env : Env) :
    frzL 2 env ⟨a :: b :: cs :: r, T⟩ = (frzEnv 2 cs env, ⟨frzVs 2 cs a :: frzVs 2 cs b :: [] :: frzStore 2 cs r, T⟩) := by
  cases cs with
  | nil => exact absurd rfl hne
  | cons c cs => rfl
theorem frzV_arts (arts : List (Int × Int)) : frzV 2 ((flatI arts).map I) (.rsl 2 0 arts.length arts.length 2 true) = .lst .any 2 (arts.map artAV) := by
  simp only [frzV, List.length_map, flatI_len, List.drop_zero, pubs_I, group_flat]
  simp

theorem c14 (s0 : Shelf) (hs : s0.ok) (one : Int) (h1 : Byte one) (st : St) : run L 14 [s0.av, U one] st = some (B true, st) := by
  rw [run_pure (fn := ir14) rfl rfl]
  have h45 := fun st => c45 s0 hs 12 29 (by omega) (by omega) (by omega) (by omega) st
  have hck := made_check (s := s0) (many := 12) (lines := 29) (by omega) (by omega) (by omega) (by omega)
  obtain ⟨_, _, hsing, k1, k2, k3, k4⟩ := made_ok (s := s0) (many := 12) (lines := 29) (by omega) (by omega) (by omega) (by omega)
  generalize madeArts s0 12 29 = arts at *
  generalize madeRoom s0 12 29 = room at *
  generalize madeFloor s0 12 29 = floor at *
  obtain ⟨g1, g2, g3, g4⟩ := mosts_ok hck
  unfold Byte at h1
  have hne : arts ≠ [] := by intro h; subst h; simp at g3
  have h60 := c60 true arts hne (by unfold maxGrow; omega)
  have w0 := wrap64 one (by omega) (by omega)
  have m0 := mod_range one arts.length (by omega)
  obtain ⟨k, hk0⟩ : ∃ k : Nat, one % (arts.length : Int) = k := ⟨(one % (arts.length : Int)).toNat, by omega⟩
  have t0 : one.tmod (arts.length : Int) = (k : Int) := by rw [Int.tmod_eq_emod_of_nonneg (by omega), hk0]
  have z0 : ((arts.length : Int) = 0) = False := eq_false (by omega)
  have hk : k < arts.length := by omega
  have hidx : indexSAV 2 (.rsl 2 0 arts.length arts.length 2 true) (.v (.int .i64 (k : Int))) = some (.ptr 2 (k * 2)) := by
    simp only [indexSAV]
    rw [if_pos ⟨trivial, by omega, by omega⟩]
    simp
  have hb0 := hsing _ (List.getElem_mem hk)
  have hx0 := flatI_get0 arts k hk
  have hse0 := flatI_set0 arts k (arts[k].1 + 1) hk
  have hk' : k < (arts.set k (arts[k].1 + 1, arts[k].2)).length := by simpa using hk
  have hx1 := flatI_get1 (arts.set k (arts[k].1 + 1, arts[k].2)) k hk'
  have hse1 := flatI_set1 (arts.set k (arts[k].1 + 1, arts[k].2)) k (arts[k].2 + 1) hk'
  simp only [List.getElem_set_self, List.set_set] at hx1 hse1
  have ww1 := wrap64 (arts[k].1 + 1) (by omega) (by omega)
  have ww2 := wrap64 (arts[k].2 + 1) (by omega) (by omega)
  have hle1 : (k * 2 + 1 ≤ arts.length * 2) = True := eq_true (by omega)
  have hle2 : (k * 2 + 1 + 1 ≤ arts.length * 2) = True := eq_true (by omega)
  have hm : arts.set k (arts[k].1 + 1, arts[k].2 + 1) = moreArts arts k arts[k] := rfl
  rw [hm] at hse1
  have hml : (moreArts arts k arts[k]).length = arts.length := by simp [moreArts]
  have hmk : (moreArts arts k arts[k])[k]'(by omega) = (arts[k].1 + 1, arts[k].2 + 1) := by simp [moreArts]
  have hfl1 : ((arts.set k (arts[k].1 + 1, arts[k].2)).length) = arts.length := by simp
  have hs1 : ∀ a ∈ arts, a.2 ≤ room := fun a ha => (hsing a ha).2.2.2
  have hmem : ∀ a ∈ moreArts arts k arts[k], 1 ≤ a.1 ∧ a.1 ≤ a.2 ∧ a.2 ≤ 30 := by
    intro a ha
    rcases List.mem_or_eq_of_mem_set ha with ha | rfl
    · have := hsing a ha; omega
    · simp only; omega
  have hck2 : check (moreArts arts k arts[k]) room floor = 0 := check_ok (by omega) (by omega) hmem k1 k2 k3 k4
  obtain ⟨u1, u2⟩ := filled_some hck hs1
  have hfv : fewestV arts room floor = (filled (mosts arts) room, 0) := by unfold fewestV; rw [if_pos hck, if_neg u2]
  have h31 := fun st => c31 true arts room floor st
  rw [hfv] at h31
  have hne3 : (moreArts arts k arts[k]).map artAV ≠ [] := by intro h; have := congrArg List.length h; simp at this; rw [this] at hml; simp at hml; omega
  have hneF : (flatI (moreArts arts k arts[k])).map I ≠ [] := by
    intro h
    have := congrArg List.length h
    rw [List.length_map, flatI_len, hml] at this
    simp at this; omega
  have hfz := fun r T env => frzL2 (a := s0.cells) (b := bookCells true arts room floor) hneF r T env
  have hfv3 := frzV_arts (moreArts arts k arts[k])
  rw [hml] at hfv3
  have hsl3 : sl 2 false ((moreArts arts k arts[k]).map artAV) = .lst .any 2 ((moreArts arts k arts[k]).map artAV) := sl_ne hne3
  have h31b : ∀ st, run L 31 [.agg [.lst .any 2 ((moreArts arts k arts[k]).map artAV), I room, I floor]] st = some (lerr (fewestV (moreArts arts k arts[k]) room floor), st) := fun st => by rw [← hsl3]; exact c31 false _ room floor st
  have hidx3 : indexSAV 2 (.lst .any 2 ((moreArts arts k arts[k]).map artAV)) (.v (.int .i64 (k : Int))) = some (.eptr (.agg [I (arts[k].1 + 1), I (arts[k].2 + 1)]) 0) := by
    have := index_arts false (moreArts arts k arts[k]) k (by omega)
    rw [hsl3, hmk] at this
    exact this
  have c1 : ∀ (P : Prop) (st : St), True := fun _ _ => trivial
  by_cases p : arts[k].2 + 1 ≤ room
  · obtain ⟨v1, v2, v3⟩ := more_len hck hs1 k hk hck2 p
    have hfvb : fewestV (moreArts arts k arts[k]) room floor = (filled (mosts (moreArts arts k arts[k])) room, 0) := by unfold fewestV; rw [if_pos hck2, if_neg v1]
    rw [hfvb] at h31b
    have hFl : (filled (mosts arts) room).length < 1000 := cut_len g4 (goods_cut (lastMin_mem u1).1).1
    generalize filled (mosts arts) room = F at *
    generalize filled (mosts (moreArts arts k arts[k])) room = G at *
    clear hmk hmem hm u1
    try clear hbig
    generalize moreArts arts k arts[k] = arts3 at *
    generalize arts[k] = ak at *
    generalize arts.set k (ak.1 + 1, ak.2) = arts2 at *
    have p' : (room < ak.2 + 1) = False := eq_false (by omega)
    have wF := succ64 F.length (by omega)
    have q1 : ((F.length : Int) ≤ (G.length : Int)) = True := eq_true (by omega)
    have q2 : ((G.length : Int) ≤ ((F.length + 1 : Nat) : Int)) = True := eq_true (by omega)
    simp only [ir14, go_sem, reduceIte, Nat.reduceEqDiff, Nat.reduceAdd, Nat.reduceSub, Nat.reduceLeDiff, Nat.reduceLT, reduceCtorEq, Int.reduceLT, Int.reduceLE, Int.reduceEq, Int.reduceBEq, Int.reduceSub, Int.reduceAdd, Int.reduceMul, Int.reduceNeg, Int.reduceToNat, Nat.reduceMul, Nat.reduceBEq, pubs_shelf, shelf_storable, shelf_len hs, shelf_take hs, h45, List.length_map, w0, t0, z0, h60, shV, shStore, shVs_ints, hidx, hx0, hx1, hse0, hse1, ww1, ww2, flatI_len, hle1, hle2, hfl1,
      code_frz, frzAV, frzT, frzLs, rslsOf, hfz, frzEnv, frzStore, frzVs, frzV_v, frzV_ptr, frzV_eptr, frzV_lst, frzV_fn, frzV_agg, frzV_tup, frzV_any, frzVs_shelf, frzV_sl, hfv3, h31, h31b, hidx3, p', wF, q1, q2, c17]
  · have hbig : ¬ ∀ a ∈ moreArts arts k arts[k], a.2 ≤ room := by
      intro h
      have := h _ (List.getElem_mem (show k < (moreArts arts k arts[k]).length by omega))
      rw [hmk] at this
      exact p this
    have hfn := filled_none hck2 hbig
    have hfvb : fewestV (moreArts arts k arts[k]) room floor = ([], 12) := by unfold fewestV; rw [if_pos hck2, if_pos hfn]
    rw [hfvb] at h31b
    generalize filled (mosts arts) room = F at *
    clear hmk hmem hm u1
    try clear hbig
    generalize moreArts arts k arts[k] = arts3 at *
    generalize arts[k] = ak at *
    generalize arts.set k (ak.1 + 1, ak.2) = arts2 at *
    have p' : (room < ak.2 + 1) = True := eq_true (by omega)
    simp only [ir14, go_sem, reduceIte, Nat.reduceEqDiff, Nat.reduceAdd, Nat.reduceSub, Nat.reduceLeDiff, Nat.reduceLT, reduceCtorEq, Int.reduceLT, Int.reduceLE, Int.reduceEq, Int.reduceBEq, Int.reduceSub, Int.reduceAdd, Int.reduceMul, Int.reduceNeg, Int.reduceToNat, Nat.reduceMul, Nat.reduceBEq, pubs_shelf, shelf_storable, shelf_len hs, shelf_take hs, h45, List.length_map, w0, t0, z0, h60, shV, shStore, shVs_ints, hidx, hx0, hx1, hse0, hse1, ww1, ww2, flatI_len, hle1, hle2, hfl1,
      code_frz, frzAV, frzT, frzLs, rslsOf, hfz, frzEnv, frzStore, frzVs, frzV_v, frzV_ptr, frzV_eptr, frzV_lst, frzV_fn, frzV_agg, frzV_tup, frzV_any, frzVs_shelf, frzV_sl, hfv3, h31, h31b, hidx3, p', c17]


/-! ### the opposite order -/

theorem idx_rsl2 (l n i : Nat) (h : i < n) : indexSAV 2 (.rsl l 0 n n 2 true) (.v (.int .i64 (i : Int))) = some (.ptr l (i * 2)) := by
  simp only [indexSAV]
  rw [if_pos ⟨trivial, by omega, by omega⟩]
  simp
def RevAt (arts xs : List (Int × Int)) (i : Nat) : Prop := xs.length = arts.length ∧ ∀ m, m < arts.length → xs[m]? = if m < i ∨ arts.length ≤ m + i then arts[arts.length - 1 - m]? else arts[m]?

theorem flatI_setI (xs : List (Int × Int)) (i : Nat) (a b : Int) (h : i < xs.length) : ((flatI xs).set (i * 2) a).set (i * 2 + 1) b = flatI (xs.set i (a, b)) := by
  have := flatI_set xs i a b h
  rw [← List.map_set, ← List.map_set] at this
  exact (List.map_inj_right (fun a b h => by simpa using h)).1 this

theorem loop61 (arts : List (Int × Int)) (hn : arts.length < 1000) (a b : List AV) (r : List (List AV)) (T : List Nat) (lo hi2 : Nat) (i : Nat) (xs : List (Int × Int)) (hok : 2 * i ≤ arts.length + 1 ∧ RevAt arts xs i) (env : Env) (st : St)
    (hg : gcAV false lo hi2 (canon env [0, 2, 3]) st = ([(0, .rsl 2 0 arts.length arts.length 2 true), (2, I i), (3, I ((arts.length : Int) - 1 - (i : Int)))], ⟨a :: b :: ((flatI xs).map I) :: r, T⟩)) :
    ∃ x_1 en s, lim (headed pure (run L) false [0, 2, 3] lp61_0 lo hi2) env st = some (x_1, en, s) ∧ (x_1 = .exit 0 ∧ s = ⟨a :: b :: ((flatI arts.reverse).map I) :: r, T⟩) := by
  refine loop_wp (α := Nat × List (Int × Int)) (fun ⟨i, xs⟩ => arts.length - i) (fun ⟨i, xs⟩ => 2 * i ≤ arts.length + 1 ∧ RevAt arts xs i) (fun ⟨i, xs⟩ => ([(0, .rsl 2 0 arts.length arts.length 2 true), (2, I i), (3, I ((arts.length : Int) - 1 - (i : Int)))], ⟨a :: b :: ((flatI xs).map I) :: r, T⟩)) (fun ⟨i, xs⟩ x_1 en s => x_1 = .exit 0 ∧ s = ⟨a :: b :: ((flatI arts.reverse).map I) :: r, T⟩) (fun ⟨i, xs⟩ hok => ?_) ⟨i, xs⟩ hok env st hg
  simp only at hok
  obtain ⟨h1, hl, hx⟩ := hok
  by_cases q : (i : Int) < (arts.length : Int) - 1 - (i : Int)
  · obtain ⟨j, hj⟩ : ∃ j : Nat, (arts.length : Int) - 1 - (i : Int) = j := ⟨arts.length - 1 - i, by omega⟩
    have hi := idx_rsl2 2 arts.length i (by omega)
    have hjx := idx_rsl2 2 arts.length j (by omega)
    have hil : i < xs.length := by omega
    have hjl : j < xs.length := by omega
    have p1 := flatI_pair xs i hil
    have p2 := flatI_pair xs j hjl
    have s1 := flatI_setI xs i (xs[j]).1 (xs[j]).2 hil
    have s2 := flatI_setI (xs.set i ((xs[j]).1, (xs[j]).2)) j (xs[i]).1 (xs[i]).2 (by simpa using hjl)
    have hfl1 : (flatI xs).length = arts.length * 2 := by rw [flatI_len, hl]
    have hfl2 : (flatI (xs.set i ((xs[j]).1, (xs[j]).2))).length = arts.length * 2 := by rw [flatI_len, List.length_set, hl]
    have b1 : (i * 2 + 2 ≤ arts.length * 2) = True := eq_true (by omega)
    have b2 : (j * 2 + 2 ≤ arts.length * 2) = True := eq_true (by omega)
    have hs := succ64 i (by omega)
    have hw : IntKind.i64.wrap ((j : Int) - 1) = (arts.length : Int) - 1 - ((i + 1 : Nat) : Int) := by rw [wrap64] <;> omega
    have q' : ((i : Int) < (j : Int)) = True := eq_true (by omega)
    have q1 : arts.length - (i + 1) < arts.length - i := by omega
    have hx' : 2 * (i + 1) ≤ arts.length + 1 ∧ RevAt arts ((xs.set i ((xs[j]).1, (xs[j]).2)).set j ((xs[i]).1, (xs[i]).2)) (i + 1) := by
      refine ⟨by omega, by simp [hl], fun m hm => ?_⟩
      have e1 : xs[j]? = some xs[j] := List.getElem?_eq_getElem hjl
      have e2 : xs[i]? = some xs[i] := List.getElem?_eq_getElem hil
      have x1 := hx j (by omega)
      have x2 := hx i (by omega)
      rw [if_neg (by omega)] at x1 x2
      by_cases m1 : m = j
      · subst m1
        rw [List.getElem?_set_self (by simpa using hjl), if_pos (by omega), show arts.length - 1 - m = i by omega, ← x2, e2]
      · rw [List.getElem?_set_ne (fun h => m1 h.symm)]
        by_cases m2 : m = i
        · subst m2
          rw [List.getElem?_set_self hil, if_pos (by omega), show arts.length - 1 - m = j by omega, ← x1, e1]
        · rw [List.getElem?_set_ne (fun h => m2 h.symm), hx m hm]
          by_cases m3 : m < i ∨ arts.length ≤ m + i
          · rw [if_pos m3, if_pos (by omega)]
          · rw [if_neg m3, if_neg (by omega)]
    dsimp only
    rw [hj]
    generalize xs[i] = vi at *
    generalize xs[j] = vj at *
    simp only [go_sem, reduceIte, Nat.reduceEqDiff, Nat.reduceAdd, Nat.reduceSub, Nat.reduceLeDiff, Nat.reduceLT, reduceCtorEq, Int.reduceLT, Int.reduceLE, Int.reduceEq, Int.reduceBEq, Int.reduceSub, Int.reduceAdd, Int.reduceMul, Int.reduceNeg, Int.reduceToNat, Nat.reduceMul, Nat.reduceBEq, index_rsl_if, setm, make_ints, condK_dec, wantK_dec, not_dec, and_dec, or_dec, seqK_ite, seqK_none, blockK_ite, blockK_none, opsK_ite, opsK_none, stepK_ite, stepK_none, bodyK_ite, bodyK_none, resK_ite, resK_none, leaveK_ite, leaveK_none, only_ite, only_none, bind_ite, gives_some, gives_none, gives_ite, then_normal, then_ret, then_exit, then_none, then_ite, Option.bind_none, Bool.not_eq_true', decide_eq_false_iff_not, Bool.and_eq_true, Bool.or_eq_true, Option.some.injEq, Int.not_lt, Int.not_le, lp61_0, q', hi, hjx, p1, p2, s1, s2, hfl1, hfl2, b1, b2, hs, hw, List.length_map]
    refine ⟨(i + 1, (xs.set i (vj.1, vj.2)).set j (vi.1, vi.2)), by simp only [go_sem, reduceIte, Nat.reduceEqDiff, Nat.reduceAdd, Nat.reduceSub, Nat.reduceLeDiff, Nat.reduceLT, reduceCtorEq, Int.reduceLT, Int.reduceLE, Int.reduceEq, Int.reduceBEq, Int.reduceSub, Int.reduceAdd, Int.reduceMul, Int.reduceNeg, Int.reduceToNat, Nat.reduceMul, Nat.reduceBEq] <;> rfl, hx', q1, fun x_1 en s hq => ?_⟩
    exact hq
  · have hrev : xs = arts.reverse := by
      apply List.ext_getElem?
      intro m
      by_cases hm : m < arts.length
      · rw [hx m hm, List.getElem?_reverse hm]
        by_cases m3 : m < i ∨ arts.length ≤ m + i
        · rw [if_pos m3]
        · rw [if_neg m3]; congr 1; omega
      · rw [List.getElem?_eq_none (by omega), List.getElem?_eq_none (by simp; omega)]
    have q' : ((i : Int) < (arts.length : Int) - 1 - (i : Int)) = False := eq_false q
    simp only [go_sem, reduceIte, Nat.reduceEqDiff, Nat.reduceAdd, Nat.reduceSub, Nat.reduceLeDiff, Nat.reduceLT, reduceCtorEq, Int.reduceLT, Int.reduceLE, Int.reduceEq, Int.reduceBEq, Int.reduceSub, Int.reduceAdd, Int.reduceMul, Int.reduceNeg, Int.reduceToNat, Nat.reduceMul, Nat.reduceBEq, index_rsl_if, setm, make_ints, condK_dec, wantK_dec, not_dec, and_dec, or_dec, seqK_ite, seqK_none, blockK_ite, blockK_none, opsK_ite, opsK_none, stepK_ite, stepK_none, bodyK_ite, bodyK_none, resK_ite, resK_none, leaveK_ite, leaveK_none, only_ite, only_none, bind_ite, gives_some, gives_none, gives_ite, then_normal, then_ret, then_exit, then_none, then_ite, Option.bind_none, Bool.not_eq_true', decide_eq_false_iff_not, Bool.and_eq_true, Bool.or_eq_true, Option.some.injEq, Int.not_lt, Int.not_le, lp61_0, q']
    rw [hrev]

theorem c61 (arts : List (Int × Int)) (hn : arts.length < 1000) (h1 : 1 ≤ arts.length) (a b : List AV) (r : List (List AV)) (T : List Nat) :
    run L 61 [.rsl 2 0 arts.length arts.length 2 true] ⟨a :: b :: ((flatI arts).map I) :: r, T⟩ = some (.tup [], ⟨a :: b :: ((flatI arts.reverse).map I) :: r, T⟩) := by
  rw [run_shared (fn := ir61) rfl rfl]
  have hw : IntKind.i64.wrap ((arts.length : Int) - 1) = (arts.length : Int) - 1 := by rw [wrap64] <;> omega
  have hr0 : RevAt arts arts 0 := ⟨rfl, fun m hm => by rw [if_neg (by omega)]⟩
  simp only [ir61, go_sem, reduceIte, Nat.reduceEqDiff, Nat.reduceAdd, Nat.reduceSub, Nat.reduceLeDiff, Nat.reduceLT, reduceCtorEq, Int.reduceLT, Int.reduceLE, Int.reduceEq, Int.reduceBEq, Int.reduceSub, Int.reduceAdd, Int.reduceMul, Int.reduceNeg, Int.reduceToNat, Nat.reduceMul, Nat.reduceBEq, hw]
  generalize hg : lim (headed pure (run L) false _ lp61_0 _ _) _ _ = o
  obtain ⟨x, en, s, rfl, h2⟩ : ∃ x en s, o = some (x, en, s) ∧ _ := by rw [← hg]; exact loop61 arts hn a b r T _ _ 0 arts ⟨by omega, hr0⟩ _ _ (by simp only [go_sem, reduceIte, Nat.reduceEqDiff, Nat.reduceAdd, Nat.reduceSub, Nat.reduceLeDiff, Nat.reduceLT, reduceCtorEq, Int.reduceLT, Int.reduceLE, Int.reduceEq, Int.reduceBEq, Int.reduceSub, Int.reduceAdd, Int.reduceMul, Int.reduceNeg, Int.reduceToNat, Nat.reduceMul, Nat.reduceBEq, Int.sub_zero] <;> rfl)
  clear hg
  obtain ⟨rfl, rfl⟩ := h2
  simp only [go_sem, reduceIte, Nat.reduceEqDiff, Nat.reduceAdd, Nat.reduceSub, Nat.reduceLeDiff, Nat.reduceLT, reduceCtorEq, Int.reduceLT, Int.reduceLE, Int.reduceEq, Int.reduceBEq, Int.reduceSub, Int.reduceAdd, Int.reduceMul, Int.reduceNeg, Int.reduceToNat, Nat.reduceMul, Nat.reduceBEq]


theorem sum_rev (l : List Int) : l.reverse.sum = l.sum := by
  induction l with
  | nil => rfl
  | cons a r ih => rw [List.reverse_cons, List.sum_append, ih]; simp only [List.sum_cons, List.sum_nil]; omega
theorem seg_rev (f : Int × Int → Int) (arts : List (Int × Int)) (b e : Nat) (h1 : b ≤ e) (h2 : e ≤ arts.length) :
    seg (sums 0 (arts.reverse.map f)) b e = seg (sums 0 (arts.map f)) ((arts.length - e : Nat) : Int) ((arts.length - b : Nat) : Int) := by
  rw [seg_sums f arts.reverse b e (by omega) (by omega) (by simp; omega), seg_sums f arts _ _ (by omega) (by omega) (by omega)]
  unfold sumSeg
  simp only [Int.toNat_natCast]
  rw [List.take_reverse, List.drop_reverse, List.map_reverse, sum_rev]
  congr 2
  rw [List.length_drop, List.take_drop, show arts.length - e + (arts.length - (arts.length - e) - b) = arts.length - b by omega]

/-- The cut of the opposite order. -/
def revA (n : Nat) : Int → List Int → List Int → List Int
  | _, acc, [] => acc
  | b, acc, e :: r => revA n e (((n : Int) - b) :: acc) r
theorem revA_len (n : Nat) : ∀ (c : List Int) (b : Int) (acc : List Int), (revA n b acc c).length = c.length + acc.length
  | [], b, acc => by simp [revA]
  | e :: r, b, acc => by simp only [revA, revA_len n r, List.length_cons]; omega
theorem revA_eq (n : Nat) : ∀ (c : List Int) (b : Int) (acc : List Int), revA n b acc c = ((b :: c).dropLast.map (fun x => (n : Int) - x)).reverse ++ acc
  | [], b, acc => by simp [revA]
  | e :: r, b, acc => by
    rw [revA, revA_eq n r e]
    simp only [List.dropLast_cons₂, List.map_cons, List.reverse_cons, List.append_assoc, List.singleton_append]
def RevP (n : Nat) (p p' : Int → Int → Bool) : Prop := ∀ b e : Nat, b ≤ e → e ≤ n → p' ((n - e : Nat) : Int) ((n - b : Nat) : Int) = p b e
theorem rev_good {n : Nat} {p p' : Int → Int → Bool} (hp : RevP n p p') : ∀ (c : List Int) (b : Nat) (acc : List Int), b ≤ n → IsGood n p b c → IsGood n p' (n - b) acc → IsGood n p' 0 (revA n b acc c)
  | [], b, acc, hb, h, ha => by
    simp only [IsGood] at h
    rw [show n - b = 0 by omega] at ha
    exact ha
  | e :: r, b, acc, hb, h, ha => by
    obtain ⟨e', rfl, h1, h2, h3, h4⟩ := h
    refine rev_good hp r e' _ h2 h4 ⟨n - b, by omega, by omega, by omega, ?_, ha⟩
    rw [show (n : Int) - (b : Int) = ((n - b : Nat) : Int) by omega, hp b e' (by omega) h2]; exact h3
theorem good_last {n : Nat} {p : Int → Int → Bool} : ∀ (c : List Int) (b : Nat), b < n → IsGood n p b c → ∃ d, c = d ++ [(n : Int)]
  | [], b, hb, h => by simp only [IsGood] at h; omega
  | e :: r, b, hb, h => by
    obtain ⟨e', rfl, h1, h2, h3, h4⟩ := h
    by_cases he : e' < n
    · obtain ⟨d, rfl⟩ := good_last r e' he h4
      exact ⟨(e' : Int) :: d, rfl⟩
    · cases r with
      | nil => exact ⟨[], by rw [show e' = n by omega]; rfl⟩
      | cons x t => obtain ⟨x', _, h5, h6, _⟩ := h4; omega
theorem rev_inj {n : Nat} {d d' : List Int} (h : revA n 0 [] (d ++ [(n : Int)]) = revA n 0 [] (d' ++ [(n : Int)])) : d = d' := by
  rw [revA_eq, revA_eq] at h
  simp only [List.append_nil] at h
  have h2 := List.reverse_inj.1 h
  have e : ∀ d : List Int, ((0 : Int) :: (d ++ [(n : Int)])).dropLast = 0 :: d := by
    intro d
    rw [← List.cons_append, List.dropLast_concat]
  rw [e, e] at h2
  have h3 := (List.map_inj_right (fun a b hab => by omega)).1 h2
  simpa using h3

theorem nodup_map {α β : Type} {f : α → β} (hf : ∀ a b, f a = f b → a = b) : ∀ {l : List α}, l.Nodup → (l.map f).Nodup
  | [], _ => List.nodup_nil
  | a :: r, h => by
    rw [List.nodup_cons] at h
    rw [List.map_cons, List.nodup_cons]
    refine ⟨fun hm => ?_, nodup_map hf h.2⟩
    obtain ⟨b, hb, e⟩ := List.mem_map.1 hm
    rw [hf _ _ e] at hb
    exact h.1 hb
theorem cuts_nodup (n : Nat) : ∀ (m b : Nat), n - b = m → (cutsOf n b).Nodup := by
  intro m
  induction m with
  | zero => intro b h; rw [cutsOf_end (by omega)]; simp
  | succ m ih =>
    intro b h
    rw [cutsOf_step (by omega)]
    rw [List.nodup_append]
    refine ⟨nodup_map (fun a b h => by simpa using h) (ih (b + 1) (by omega)), ?_, ?_⟩
    · split
      · exact ih (b + 1) (by omega)
      · simp
    · intro c hc c' hc' heq
      obtain ⟨r, _, rfl⟩ := List.mem_map.1 hc
      split at hc'
      · next hb =>
        obtain ⟨h1, h2⟩ := cuts_ok n (n - (b + 1)) (b + 1) rfl (by omega) c' hc'
        rw [← heq] at h1
        have := (loopErr_cons h1).2.2.1
        omega
      · simp at hc'
theorem length_le_of_map {α β : Type} (f : α → β) : ∀ (l1 : List α) (l2 : List β), l1.Nodup → (∀ a ∈ l1, f a ∈ l2) → (∀ a ∈ l1, ∀ b ∈ l1, f a = f b → a = b) → l1.length ≤ l2.length
  | [], l2, _, _, _ => Nat.zero_le _
  | a :: r, l2, h1, h2, h3 => by
    rw [List.nodup_cons] at h1
    obtain ⟨s, t, rfl⟩ := List.append_of_mem (h2 a (by simp))
    have := length_le_of_map f r (s ++ t) h1.2 (fun b hb => ?_) (fun b hb c hc => h3 b (by simp [hb]) c (by simp [hc]))
    · simp only [List.length_append, List.length_cons] at this ⊢; omega
    · have hb2 := h2 b (by simp [hb])
      have hne : f b ≠ f a := fun e => by
        have := h3 b (by simp [hb]) a (by simp) e
        subst this
        exact h1.1 hb
      simp only [List.mem_append, List.mem_cons] at hb2 ⊢
      rcases hb2 with h | h | h
      · exact .inl h
      · exact absurd h hne
      · exact .inr h
/-- As many good cuts. -/
theorem rev_count {n : Nat} (hn : 0 < n) {p p' : Int → Int → Bool} (hp : RevP n p p') : (goods n p 0).length ≤ (goods n p' 0).length := by
  refine length_le_of_map (revA n 0 []) _ _ ?_ (fun c hc => ?_) (fun c hc c' hc' h => ?_)
  · exact List.Nodup.sublist List.filter_sublist (cuts_nodup n n 0 rfl)
  · have := rev_good hp c 0 [] (Nat.zero_le _) ((goods_iff _ _ _ 0 rfl _).1 hc) (by simp [IsGood])
    exact (goods_iff _ _ _ 0 rfl _).2 this
  · obtain ⟨d, rfl⟩ := good_last c 0 hn ((goods_iff _ _ _ 0 rfl _).1 hc)
    obtain ⟨d', rfl⟩ := good_last c' 0 hn ((goods_iff _ _ _ 0 rfl _).1 hc')
    rw [rev_inj h]
theorem RevP.symm {n : Nat} {p p' : Int → Int → Bool} (hp : RevP n p p') : RevP n p' p := by
  intro b e h1 h2
  have := hp (n - e) (n - b) (by omega) (by omega)
  rw [show n - (n - b) = b by omega, show n - (n - e) = e by omega] at this
  exact this.symm
/-- The shortest good cuts are as long. -/
theorem rev_min {n : Nat} {p p' : Int → Int → Bool} (hp : RevP n p p') {y y' : List Int} (h : lastMin (goods n p 0) = some y) (h' : lastMin (goods n p' 0) = some y') : y'.length ≤ y.length := by
  have h1 := lastMin_mem h
  have h2 := lastMin_mem h'
  have := h2.2 (revA n 0 [] y) ((goods_iff _ _ _ 0 rfl _).2 (rev_good hp y 0 [] (Nat.zero_le _) ((goods_iff _ _ _ 0 rfl _).1 h1.1) (by simp [IsGood])))
  rw [revA_len] at this
  simpa using this

theorem rev_room (arts : List (Int × Int)) (r : Int) : RevP arts.length (fun b e => decide (seg (mosts arts) b e ≤ r)) (fun b e => decide (seg (mosts arts.reverse) b e ≤ r)) := by
  intro b e h1 h2
  have := seg_rev (·.2) arts (arts.length - e) (arts.length - b) (by omega) (by omega)
  rw [show arts.length - (arts.length - b) = b by omega, show arts.length - (arts.length - e) = e by omega] at this
  simp only [mosts]
  rw [this]
theorem rev_goodP (arts : List (Int × Int)) (room floor : Int) (safe : Bool) : RevP arts.length (goodP arts room floor safe) (goodP arts.reverse room floor safe) := by
  intro b e h1 h2
  have q1 := seg_rev (·.2) arts (arts.length - e) (arts.length - b) (by omega) (by omega)
  have q2 := seg_rev (·.1) arts (arts.length - e) (arts.length - b) (by omega) (by omega)
  rw [show arts.length - (arts.length - b) = b by omega, show arts.length - (arts.length - e) = e by omega] at q1 q2
  simp only [goodP, mosts, leasts]
  rw [q1, q2]
theorem filled_rev {arts : List (Int × Int)} {room0 floor : Int} (hc : check arts room0 floor = 0) (hc2 : check arts.reverse room0 floor = 0) (r : Int) : (filled (mosts arts.reverse) r).length = (filled (mosts arts) r).length := by
  by_cases hs : ∀ a ∈ arts, a.2 ≤ r
  · have hs2 : ∀ a ∈ arts.reverse, a.2 ≤ r := fun a ha => hs a (by simpa using ha)
    obtain ⟨u1, _⟩ := filled_some hc hs
    obtain ⟨v1, _⟩ := filled_some hc2 hs2
    rw [List.length_reverse] at v1
    have h1 := rev_min (rev_room arts r) u1 v1
    have h2 := rev_min (rev_room arts r).symm v1 u1
    omega
  · have hs2 : ¬ ∀ a ∈ arts.reverse, a.2 ≤ r := fun h => hs fun a ha => h a (by simpa using ha)
    rw [filled_none hc hs, filled_none hc2 hs2]
theorem halve_congr {p q : Int → Prop} [DecidablePred p] [DecidablePred q] (h : ∀ x, p x ↔ q x) : ∀ (k : Nat) (low high : Int), halve p k low high = halve q k low high
  | 0, _, _ => rfl
  | k + 1, low, high => by
    simp only [halve]
    rw [halve_congr h k, halve_congr h k]
    by_cases c : p ((low + high) / 2)
    · rw [if_pos c, if_pos ((h _).1 c)]
    · rw [if_neg c, if_neg (fun x => c ((h _).2 x))]
theorem level_rev {arts : List (Int × Int)} {room floor : Int} (hc : check arts room floor = 0) (hc2 : check arts.reverse room floor = 0) (v : Int) : levelV arts.reverse room floor v = levelV arts room floor v := by
  unfold levelV
  rw [if_pos hc, if_pos hc2, List.length_reverse]
  have ht : (mosts arts.reverse).getD arts.length 0 = (mosts arts).getD arts.length 0 := by
    have := seg_rev (·.2) arts 0 arts.length (by omega) (by omega)
    simp only [Nat.sub_self, Nat.sub_zero] at this
    unfold seg at this
    have z : ∀ l : List Int, (sums 0 l).getD 0 0 = 0 := by intro l; cases l <;> rfl
    simp only [Int.toNat_natCast, z, Int.natCast_zero, Int.toNat_zero] at this
    unfold mosts
    omega
  have hf : ∀ x, fits (mosts arts.reverse) v x ↔ fits (mosts arts) v x := by
    intro x
    have := filled_rev hc hc2 x
    unfold fits
    rw [this]
    have e1 : filled (mosts arts.reverse) x ≠ [] ↔ filled (mosts arts) x ≠ [] := by
      rw [← List.length_pos_iff, ← List.length_pos_iff, this]
    rw [e1]
  rw [ht, halve_congr hf]
theorem check_rev {arts : List (Int × Int)} {room floor : Int} (hc : check arts room floor = 0) : check arts.reverse room floor = 0 := by
  obtain ⟨k1, k2, k3, k4⟩ := check_zero hc
  refine check_ok (by simp; omega) (by simp; omega) (fun a ha => ?_) (by omega) (by omega) (by omega) (by omega)
  have := k3 a (by simpa using ha)
  omega
theorem count_rev {arts : List (Int × Int)} {room floor : Int} (hc : check arts room floor = 0) : countV arts.reverse room floor = countV arts room floor := by
  rw [count_eq, count_eq]
  unfold countR
  rw [if_pos hc, if_pos (check_rev hc)]
  obtain ⟨_, _, g3, _⟩ := mosts_ok hc
  have h1 := rev_count (n := arts.length) (by omega) (rev_goodP arts room floor true)
  have h2 := rev_count (n := arts.length) (by omega) (rev_goodP arts room floor true).symm
  have e1 : goodL arts room floor true = goods arts.length (goodP arts room floor true) 0 := rfl
  have e2 : goodL arts.reverse room floor true = goods arts.length (goodP arts.reverse room floor true) 0 := by
    rw [goodL_goods, List.length_reverse]
  rw [e1, e2]
  congr 1
  omega
/-- The longest rows, and what is said of them. -/
theorem why_len2 {arts : List (Int × Int)} {room floor : Int} (hc : check arts room floor = 0) (hs : ∀ a ∈ arts, a.2 ≤ room) :
    (whyV arts room floor).1.length = (filled (mosts arts) room).length - 1 ∧ (whyV arts room floor).2 = if (filled (mosts arts) room).length = 1 then 13 else 0 := by
  obtain ⟨_, u2⟩ := filled_some hc hs
  obtain ⟨g1, g2, g3, g4⟩ := mosts_ok hc
  have hgr := filled_greedy hc hs
  have hrow := greedy_row (lastOfArt_ok (mosts arts) room arts.length) (last_mono hc room) (last_greedy hc room) _ 0 (by omega) hgr
  have hrl := rowD_len arts.length (lastOfArt (mosts arts) room arts.length) _ 0 rfl
  have hwl : whyL arts room = rowD arts.length (lastOfArt (mosts arts) room arts.length) 0 := by
    unfold whyL
    exact rowWalk_eq _ _ (lastOfArt_ok _ _ _) _ _ (by omega)
  have hfv : fewestV arts room floor = (filled (mosts arts) room, 0) := by unfold fewestV; rw [if_pos hc, if_neg u2]
  unfold whyV
  rw [hfv, hwl]
  simp only [if_true]
  by_cases q : rowD arts.length (lastOfArt (mosts arts) room arts.length) 0 = []
  · rw [if_pos q]
    rw [q] at hrl
    simp only [List.length_nil] at hrl
    exact ⟨by simp only [List.length_nil]; omega, by rw [if_pos (by omega)]⟩
  · rw [if_neg q]
    have := List.length_pos_iff.2 q
    exact ⟨by simp only; omega, by rw [if_neg (by omega)]⟩


theorem c15 (s0 : Shelf) (hs : s0.ok) (vol : Int) (h1 : Byte vol) (st : St) : run L 15 [s0.av, U vol] st = some (B true, st) := by
  rw [run_pure (fn := ir15) rfl rfl]
  have h45 := fun st => c45 s0 hs 12 20 (by omega) (by omega) (by omega) (by omega) st
  have hck := made_check (s := s0) (many := 12) (lines := 20) (by omega) (by omega) (by omega) (by omega)
  obtain ⟨_, _, hsing, k1, k2, k3, k4⟩ := made_ok (s := s0) (many := 12) (lines := 20) (by omega) (by omega) (by omega) (by omega)
  generalize madeArts s0 12 20 = arts at *
  generalize madeRoom s0 12 20 = room at *
  generalize madeFloor s0 12 20 = floor at *
  obtain ⟨g1, g2, g3, g4⟩ := mosts_ok hck
  unfold Byte at h1
  have hne : arts ≠ [] := by intro h; subst h; simp at g3
  have h60 := c60 true arts hne (by unfold maxGrow; omega)
  have w0 := wrap64 vol (by omega) (by omega)
  have m0 := mod_range vol arts.length (by omega)
  have t0 : vol.tmod (arts.length : Int) = vol % (arts.length : Int) := Int.tmod_eq_emod_of_nonneg (by omega)
  have z0 : ((arts.length : Int) = 0) = False := eq_false (by omega)
  have w1 := wrap64 (1 + vol % (arts.length : Int)) (by omega) (by omega)
  have h61 := fun r T => c61 arts (by omega) g3 s0.cells (bookCells true arts room floor) r T
  have hs1 : ∀ a ∈ arts, a.2 ≤ room := fun a ha => (hsing a ha).2.2.2
  have hs2 : ∀ a ∈ arts.reverse, a.2 ≤ room := fun a ha => hs1 a (by simpa using ha)
  have hck2 := check_rev hck
  obtain ⟨u1, u2⟩ := filled_some hck hs1
  obtain ⟨v1, v2⟩ := filled_some hck2 hs2
  have hfv : fewestV arts room floor = (filled (mosts arts) room, 0) := by unfold fewestV; rw [if_pos hck, if_neg u2]
  have hfv2 : fewestV arts.reverse room floor = (filled (mosts arts.reverse) room, 0) := by unfold fewestV; rw [if_pos hck2, if_neg v2]
  have hne3 : arts.reverse.map artAV ≠ [] := by simpa using hne
  have hsl3 : sl 2 false (arts.reverse.map artAV) = .lst .any 2 (arts.reverse.map artAV) := sl_ne hne3
  have hneF : (flatI arts.reverse).map I ≠ [] := by
    intro h
    have := congrArg List.length h
    rw [List.length_map, flatI_len, List.length_reverse] at this
    simp at this; omega
  have hfz := fun r T env => frzL2 (a := s0.cells) (b := bookCells true arts room floor) hneF r T env
  have hfv3 := frzV_arts arts.reverse
  rw [List.length_reverse] at hfv3
  have h31 := fun st => c31 true arts room floor st
  rw [hfv] at h31
  have h31b : ∀ st, run L 31 [.agg [.lst .any 2 (arts.reverse.map artAV), I room, I floor]] st = some (lerr (fewestV arts.reverse room floor), st) := fun st => by rw [← hsl3]; exact c31 false _ room floor st
  rw [hfv2] at h31b
  obtain ⟨lv, e1, _⟩ := level_spec hck (1 + vol % (arts.length : Int)) (by omega) (by omega)
  have h33 := fun st => c33 true arts room floor (1 + vol % (arts.length : Int)) st
  have h33b : ∀ st, run L 33 [.agg [.lst .any 2 (arts.reverse.map artAV), I room, I floor], I (1 + vol % (arts.length : Int))] st = some (two (levelV arts.reverse room floor (1 + vol % (arts.length : Int))), st) := fun st => by rw [← hsl3]; exact c33 false _ room floor _ st
  rw [level_rev hck hck2, e1] at h33b
  rw [e1] at h33
  have e2 : countV arts room floor = (((goodL arts room floor true).length : Int), (0 : Int)) := by rw [count_eq]; unfold countR; rw [if_pos hck]
  have h43 := fun st => c43 true arts room floor st
  have h43b : ∀ st, run L 43 [.agg [.lst .any 2 (arts.reverse.map artAV), I room, I floor]] st = some (two (countV arts.reverse room floor), st) := fun st => by rw [← hsl3]; exact c43 false _ room floor st
  rw [count_rev hck, e2] at h43b
  rw [e2] at h43
  have h36 := fun st => c36 true arts room floor st
  have h36b : ∀ st, run L 36 [.agg [.lst .any 2 (arts.reverse.map artAV), I room, I floor]] st = some (perr (whyV arts.reverse room floor), st) := fun st => by rw [← hsl3]; exact c36 false _ room floor st
  obtain ⟨y1, y2⟩ := why_len2 hck hs1
  obtain ⟨y3, y4⟩ := why_len2 hck2 hs2
  have hfl := filled_rev hck hck2 room
  rw [hfl] at y3 y4
  rw [← y1] at y3
  rw [← y2] at y4
  unfold perr at h36 h36b
  rw [y4] at h36b
  generalize (whyV arts room floor).1 = R1 at *
  generalize (whyV arts.reverse room floor).1 = R2 at *
  generalize (whyV arts room floor).2 = er at *
  generalize filled (mosts arts) room = F1 at *
  generalize filled (mosts arts.reverse) room = F2 at *
  have y3' : R2.length = R1.length := y3
  simp only [ir15, go_sem, reduceIte, Nat.reduceEqDiff, Nat.reduceAdd, Nat.reduceSub, Nat.reduceLeDiff, Nat.reduceLT, reduceCtorEq, Int.reduceLT, Int.reduceLE, Int.reduceEq, Int.reduceBEq, Int.reduceSub, Int.reduceAdd, Int.reduceMul, Int.reduceNeg, Int.reduceToNat, Nat.reduceMul, Nat.reduceBEq, pubs_shelf, shelf_storable, shelf_len hs, shelf_take hs, h45, List.length_map, w0, t0, z0, w1, h60, shV, shStore, shVs_ints, h61,
      code_frz, frzAV, frzT, frzLs, rslsOf, hfz, frzEnv, frzStore, frzVs, frzV_v, frzV_ptr, frzV_eptr, frzV_lst, frzV_fn, frzV_agg, frzV_tup, frzV_any, frzVs_shelf, frzV_sl, hfv3, h31, h31b, h33, h33b, h43, h43b, h36, h36b, hfl, y3', c17]
end Go.Proofs.Ytiifibgadipalaa.Vm
