/- What is proved: that whole functions and calls of the evaluator do what the model says. It holds for every program of the model. -/
import Derived.Test.YtpmbfgogpcjdlaaDoorEv2
import Derived.Scope
import Derived.ProofKit
import Derived.OpenShut
import Derived.Carry
set_option linter.all false
namespace Go.Ev
open Go

section
variable {us : Us} {w : World} {K : Kx} {st : St}

/-! ## What is named no more -/

def Kx.cut (K : Kx) (n : Nat) : Kx := { K with lm := fun l => if l < n then K.lm l else none }

theorem okRefs_get {n : Nat} : ∀ {l : List AV}, okRefs n l = true → ∀ i (h : i < l.length), okRef n l[i] = true
  | [], _, i, h => absurd h (by simp)
  | a :: r, hok, i, h => by
    simp only [okRefs, Bool.and_eq_true] at hok
    cases i with
    | zero => exact hok.1
    | succ i => simpa using okRefs_get hok.2 i (by simpa using h)

theorem Rel.cut {a x} (h : Rel us w K a x) : ∀ {n : Nat}, okRef n a = true → Rel us w (K.cut n) a x := by
  induction h with
  | any K x => intro n _; exact .any _ x
  | v K x h => intro n _; exact .v _ x h
  | ptr K l o c h hs => intro n ho; exact .ptr _ l o c (by simp only [okRef, decide_eq_true_eq] at ho; simp [Kx.cut, ho, h]) hs
  | obj K m l c h => intro n ho; exact .obj _ m l c (by simp only [okRef, decide_eq_true_eq] at ho; simp [Kx.cut, ho, h])
  | eptr K e o c p n vs hu1 hn hc h1 hl hr _ => intro m _; exact .eptr _ e o c p n vs hu1 hn hc h1 hl hr
  | lst K g z xs c p n cap vs hu1 hn hc h1 hz hcap hl hr ht _ => intro m _; exact .lst _ g z xs c p n cap vs hu1 hn hc h1 hz hcap hl hr ht
  | rsl K l o n c z a b cap h hs hx => intro m ho; exact .rsl _ l o n c z a b cap (by simp only [okRef, decide_eq_true_eq] at ho; simp [Kx.cut, ho, h]) hs hx
  | fn K f a b va vb ha hb _ _ iha ihb =>
    intro n ho
    simp only [okRef, Bool.and_eq_true] at ho
    exact .fn _ f a b va vb ha hb (fun i h h' => iha i h h' (okRefs_get ho.1 i h)) (fun i h h' => ihb i h h' (okRefs_get ho.2 i h))
  | ifc K t a x _ ih => intro n ho; exact .ifc _ t a x (ih (by simpa [okRef] using ho))
  | agg K cs vs hl _ ih => intro n ho; simp only [okRef] at ho; exact .agg _ cs vs hl (fun i h h' => ih i h h' (okRefs_get ho i h))
  | tup K cs vs hl _ ih => intro n ho; simp only [okRef] at ho; exact .tup _ cs vs hl (fun i h h' => ih i h h' (okRefs_get ho i h))

theorem okEnv_get {n : Nat} : ∀ {e : Env}, okEnv n e = true → ∀ t, okRef n (e.get t) = true
  | [], _, t => rfl
  | (i, a) :: r, h, t => by
    simp only [okEnv, Bool.and_eq_true] at h
    simp only [Env.get]
    split
    · exact h.1
    · exact okEnv_get h.2 t

theorem okStore_get {n : Nat} : ∀ {s : List (List AV)}, okStore n s = true → ∀ (l : Nat) (cs : List AV), s[l]? = some cs → okRefs n cs = true
  | [], _, l, cs, h => by simp at h
  | a :: r, hok, l, cs, h => by
    simp only [okStore, Bool.and_eq_true] at hok
    cases l with
    | zero => simp at h; subst h; exact hok.1
    | succ l => exact okStore_get hok.2 l cs (by simpa using h)

theorem good_cut (hG : Good us w K st) (n : Nat) (h : okStore n (st.store.take n) = true) : Good us w (K.cut n) ⟨st.store.take n, st.tips⟩ := by
  have hlm : ∀ l c, (K.cut n).lm l = some c → l < n ∧ K.lm l = some c := by
    intro l c h
    simp only [Kx.cut] at h
    split at h
    · exact ⟨by assumption, h⟩
    · simp at h
  refine ⟨hG.T, fun l c h => ?_, fun l c cs hl hs => ?_, fun l l' c h h' => by
      have h1 := hlm l c h
      have h2 := hlm l' c h'
      simp only [List.getElem?_take, if_pos h1.1, if_pos h2.1]
      exact hG.inj l l' c h1.2 h2.2, hG.tkinj, hG.tklt, hG.tkus, hG.uslt, fun l c h => by
      have h1 := hlm l c h
      simp only [List.getElem?_take, if_pos h1.1]
      exact hG.disj l c h1.2, fun l t c h => hG.lmtk l t c (hlm l c h).2⟩
  · have h1 := hlm l c h
    have h2 := hG.lmlt l c h1.2
    simp only [List.length_take]; omega
  · obtain ⟨h1, h2⟩ := hlm l c hl
    have hs' : st.store[l]? = some cs := by
      have : (st.store.take n)[l]? = some cs := hs
      rw [List.getElem?_take] at this
      by_cases hln : l < n
      · rw [if_pos hln] at this; exact this
      · exact absurd h1 hln
    have hok := okStore_get h l cs hs
    exact (hG.blk l c cs h2 hs').conv rfl fun _ g2 => ⟨g2.len, fun i h h' => (g2.rel i h h').cut (okRefs_get hok i h)⟩

/-! ### tips -/

def Kx.ren (K : Kx) (n : Nat) (A : List (Nat × Nat)) : Kx :=
  ⟨K.lm, fun t => if t < n then K.tk t else (A[t - n]?).bind fun p => K.tk p.1, K.T.take n ++ A.map (·.2)⟩

theorem untips_len (l : List AV) : (untips l).length = l.length := by
  induction l with
  | nil => rfl
  | cons a r ih => simp [untips, ih]
theorem untips_get (l : List AV) (i : Nat) (h : i < (untips l).length) : (untips l)[i] = untip (l[i]'(by rw [untips_len] at h; exact h)) := by
  induction l generalizing i with
  | nil => simp [untips] at h
  | cons a r ih =>
    cases i with
    | zero => simp [untips]
    | succ i => simp [untips]; exact ih i (by simpa [untips] using h)

theorem Rel.untip {a x} (h : Rel us w K a x) : ∀ {K' : Kx}, K'.lm = K.lm → Rel us w K' (Ev.untip a) x := by
  induction h with
  | any K x => intro K' _; simp only [Ev.untip]; exact .any _ x
  | v K x h => intro K' _; simp only [Ev.untip]; exact .v _ x h
  | ptr K l o c h hs => intro K' e; simp only [Ev.untip]; exact .ptr _ l o c (by rw [e]; exact h) hs
  | obj K m l c h => intro K' e; simp only [Ev.untip]; exact .obj _ m l c (by rw [e]; exact h)
  | eptr K e o c p n vs hu1 hn hc h1 hl hr _ => intro K' _; simp only [Ev.untip]; exact .eptr _ e o c p n vs hu1 hn hc h1 hl hr
  | lst K g z xs c p n cap vs hu1 hn hc h1 hz hcap hl hr ht _ => intro K' _; simp only [Ev.untip]; exact .lst _ .any z xs c p n cap vs hu1 hn hc h1 hz hcap hl hr trivial
  | rsl K l o n c z a b cap h hs hx => intro K' e; simp only [Ev.untip]; exact .rsl _ l o n c z a b cap (by rw [e]; exact h) hs hx
  | fn K f a b va vb ha hb _ _ iha ihb =>
    intro K' e
    simp only [Ev.untip]
    exact .fn _ f _ _ va vb (by rw [untips_len]; exact ha) (by rw [untips_len]; exact hb) (fun i h h' => by rw [untips_get]; exact iha i _ h' e) (fun i h h' => by rw [untips_get]; exact ihb i _ h' e)
  | ifc K t a x _ ih => intro K' e; simp only [Ev.untip]; exact .ifc _ t _ x (ih e)
  | agg K cs vs hl _ ih => intro K' e; simp only [Ev.untip]; exact .agg _ _ vs (by rw [untips_len]; exact hl) (fun i h h' => by rw [untips_get]; exact ih i _ h' e)
  | tup K cs vs hl _ ih => intro K' e; simp only [Ev.untip]; exact .tup _ _ vs (by rw [untips_len]; exact hl) (fun i h h' => by rw [untips_get]; exact ih i _ h' e)

/-- The list of the tips that are still held only grows. -/
theorem ren1_acc (n : Nat) (tips : List Nat) (acc : List (Nat × Nat)) (a : AV) : ∃ r, (ren1 n tips acc a).2 = acc ++ r := by
  unfold ren1
  repeat' split
  all_goals first
    | exact ⟨[], (List.append_nil _).symm⟩
    | exact ⟨_, rfl⟩

theorem Rel.lst_map {g g' z xs x} {K' : Kx} (h : Rel us w K (.lst g z xs) x) (ht : ∀ c p cap, Tagged us w K g c p xs.length cap z → Tagged us w K' g' c p xs.length cap z) : Rel us w K' (.lst g' z xs) x := by
  obtain ⟨c, p, cap, vs, rfl, h1⟩ := h.lst_inv
  exact LstAt.rel ⟨h1.lies, h1.cells, h1.one, h1.each, h1.fits, h1.rels, ht c p cap h1.tag⟩

theorem ren1_rel {n : Nat} {tips : List Nat} {acc A : List (Nat × Nat)} {a : AV} {x : Value} (hT : K.T = tips) (hn : n ≤ tips.length) (h : Rel us w K a x) (hA : ∃ r, A = (ren1 n tips acc a).2 ++ r) : Rel us w (K.ren n A) (ren1 n tips acc a).1 x := by
  have hlen : (K.T.take n).length = n := by rw [hT]; simp; omega
  cases a with
  | lst g z xs =>
    cases g with
    | any => simp only [ren1]; exact h.lst_map (fun _ _ _ _ => trivial)
    | full => simp only [ren1]; exact h.lst_map (fun _ _ _ h => h)
    | own t e =>
      simp only [ren1] at hA ⊢
      split
      · next ht =>
        refine h.lst_map (fun c p cap hg => ?_)
        obtain ⟨m, h1, h2, h3⟩ := hg
        refine ⟨m, ?_, h2, fun he => ?_⟩
        · simp only [Kx.ren]
          rw [List.getElem?_append_left (by omega), List.getElem?_take, if_pos ht]; exact h1
        · obtain ⟨g1, g2, g3⟩ := h3 he
          exact ⟨g1, by simp only [Kx.ren, if_pos ht]; exact g2, g3⟩
      · next ht =>
        rw [if_neg ht] at hA
        split
        · next hc =>
          rw [if_pos hc] at hA
          obtain ⟨r, hA⟩ := hA
          refine h.lst_map (fun c p cap hg => ?_)
          obtain ⟨m, h1, h2, h3⟩ := hg
          have hm : e = m := by
            have := hc.1
            rw [← hT, h1] at this
            simpa using this.symm
          obtain ⟨g1, g2, g3⟩ := h3 hm
          have hAt : A[acc.length]? = some (t, xs.length) := by rw [hA]; simp
          refine ⟨xs.length, ?_, Nat.le_refl _, fun _ => ⟨g1, ?_, g3⟩⟩
          · simp only [Kx.ren]
            rw [List.getElem?_append_right (by omega), hlen, Nat.add_sub_cancel_left, List.getElem?_map, hAt]; rfl
          · simp only [Kx.ren]
            rw [if_neg (by omega), Nat.add_sub_cancel_left, hAt]; exact g2
        · exact h.lst_map (fun _ _ _ _ => trivial)
  | any => simp only [ren1]; exact .any _ _
  | v y => simp only [ren1]; rw [h.v_inv]; cases h with | v _ _ hp => exact .v _ _ hp
  | ptr l o => simp only [ren1]; obtain ⟨c, hc, rfl, hs⟩ := h.ptr_inv'; exact .ptr _ l o c hc hs
  | obj m l => simp only [ren1]; obtain ⟨c, hc, rfl⟩ := h.obj_inv; exact .obj _ m l c hc
  | rsl l o k c z b => simp only [ren1]; obtain ⟨c', cap, hc, rfl, hx⟩ := h.rsl_inv; exact .rsl _ l o k c z b c' cap hc (h.rsl_size hc) hx
  | eptr e o => simp only [ren1]; obtain ⟨c, p, vs, rfl, h1⟩ := h.eptr_inv; exact h1.rel o
  | fn f a b => have := h.untip (K' := K.ren n A) rfl; simpa only [ren1, untip] using this
  | ifc t a => have := h.untip (K' := K.ren n A) rfl; simpa only [ren1, untip] using this
  | agg cs => have := h.untip (K' := K.ren n A) rfl; simpa only [ren1, untip] using this
  | tup cs => have := h.untip (K' := K.ren n A) rfl; simpa only [ren1, untip] using this

theorem renEnv_acc (n : Nat) (tips : List Nat) : ∀ (e : Env) (acc : List (Nat × Nat)), ∃ r, (renEnv n tips acc e).2 = acc ++ r
  | [], acc => ⟨[], by simp [renEnv]⟩
  | (t, a) :: e, acc => by
    obtain ⟨r1, h1⟩ := ren1_acc n tips acc a
    obtain ⟨r2, h2⟩ := renEnv_acc n tips e (ren1 n tips acc a).2
    exact ⟨r1 ++ r2, by simp only [renEnv]; rw [h2, h1, List.append_assoc]⟩

theorem renCells_acc (n : Nat) (tips : List Nat) : ∀ (e : List AV) (acc : List (Nat × Nat)), ∃ r, (renCells n tips acc e).2 = acc ++ r
  | [], acc => ⟨[], by simp [renCells]⟩
  | a :: e, acc => by
    obtain ⟨r1, h1⟩ := ren1_acc n tips acc a
    obtain ⟨r2, h2⟩ := renCells_acc n tips e (ren1 n tips acc a).2
    exact ⟨r1 ++ r2, by simp only [renCells]; rw [h2, h1, List.append_assoc]⟩

theorem renStore_acc (n : Nat) (tips : List Nat) : ∀ (e : List (List AV)) (acc : List (Nat × Nat)), ∃ r, (renStore n tips acc e).2 = acc ++ r
  | [], acc => ⟨[], by simp [renStore]⟩
  | a :: e, acc => by
    obtain ⟨r1, h1⟩ := renCells_acc n tips a acc
    obtain ⟨r2, h2⟩ := renStore_acc n tips e (renCells n tips acc a).2
    exact ⟨r1 ++ r2, by simp only [renStore]; rw [h2, h1, List.append_assoc]⟩

theorem renEnv_rel {n : Nat} {tips : List Nat} {A : List (Nat × Nat)} {a : Act} (hT : K.T = tips) (hn : n ≤ tips.length) : ∀ (e : Env) (acc : List (Nat × Nat)), (∃ r, A = (renEnv n tips acc e).2 ++ r) → (∀ t, Rel us w K (e.get t) (a.tmps.getD t undef)) →
    ∀ t, Rel us w (K.ren n A) ((renEnv n tips acc e).1.get t) (a.tmps.getD t undef)
  | [], acc, _, _, t => .any _ _
  | (i, v) :: e, acc, hA, hE, t => by
    obtain ⟨r, hA⟩ := hA
    simp only [renEnv] at hA ⊢
    simp only [Env.get]
    obtain ⟨r2, h2⟩ := renEnv_acc n tips e (ren1 n tips acc v).2
    split
    · next e1 =>
      have := hE t
      simp only [Env.get, if_pos e1] at this
      exact ren1_rel hT hn this ⟨r2 ++ r, by rw [hA, h2, List.append_assoc]⟩
    · next e1 =>
      -- the entries behind
      have key : ∀ (e : Env) (acc : List (Nat × Nat)), (∃ r, A = (renEnv n tips acc e).2 ++ r) → Rel us w K (e.get t) (a.tmps.getD t undef) → Rel us w (K.ren n A) ((renEnv n tips acc e).1.get t) (a.tmps.getD t undef) := by
        intro e
        induction e with
        | nil => intro acc _ _; exact .any _ _
        | cons p e ih =>
          intro acc hA' hE'
          obtain ⟨j, u⟩ := p
          obtain ⟨r', hA'⟩ := hA'
          simp only [renEnv] at hA' ⊢
          simp only [Env.get] at hE' ⊢
          obtain ⟨r3, h3⟩ := renEnv_acc n tips e (ren1 n tips acc u).2
          split
          · next e2 => rw [if_pos e2] at hE'; exact ren1_rel hT hn hE' ⟨r3 ++ r', by rw [hA', h3, List.append_assoc]⟩
          · next e2 => rw [if_neg e2] at hE'; exact ih _ ⟨r', hA'⟩ hE'
      have := hE t
      simp only [Env.get, if_neg e1] at this
      exact key e _ ⟨r, hA⟩ this

theorem renCells_rel {n : Nat} {tips : List Nat} {A : List (Nat × Nat)} (hT : K.T = tips) (hn : n ≤ tips.length) : ∀ (cs : List AV) (acc : List (Nat × Nat)) (vs : List Value), (∃ r, A = (renCells n tips acc cs).2 ++ r) → Rels us w K cs vs → Rels us w (K.ren n A) (renCells n tips acc cs).1 vs
  | [], acc, vs, _, h => by rw [h.nil_inv]; exact .nil
  | c :: cs, acc, vs, hA, h => by
    obtain ⟨x, r, rfl, h1, h2⟩ := h.cons_inv
    obtain ⟨r', hA⟩ := hA
    simp only [renCells] at hA ⊢
    obtain ⟨r3, h3⟩ := renCells_acc n tips cs (ren1 n tips acc c).2
    exact .cons (ren1_rel hT hn h1 ⟨r3 ++ r', by rw [hA, h3, List.append_assoc]⟩) (renCells_rel hT hn cs _ r ⟨r', hA⟩ h2)

theorem renStore_get {n : Nat} {tips : List Nat} {A : List (Nat × Nat)} : ∀ (s : List (List AV)) (acc : List (Nat × Nat)), (∃ r, A = (renStore n tips acc s).2 ++ r) →
    (renStore n tips acc s).1.length = s.length ∧ ∀ (l : Nat) (cs' : List AV), (renStore n tips acc s).1[l]? = some cs' → ∃ (cs : List AV) (acc' : List (Nat × Nat)), s[l]? = some cs ∧ cs' = (renCells n tips acc' cs).1 ∧ ∃ r, A = (renCells n tips acc' cs).2 ++ r
  | [], acc, _ => ⟨rfl, fun l cs' h => by simp [renStore] at h⟩
  | c :: s, acc, hA => by
    obtain ⟨r, hA⟩ := hA
    simp only [renStore] at hA ⊢
    obtain ⟨h1, h2⟩ := renStore_get (A := A) s (renCells n tips acc c).2 ⟨r, hA⟩
    refine ⟨by simp [h1], fun l cs' h => ?_⟩
    cases l with
    | zero =>
      simp only [List.getElem?_cons_zero, Option.some.injEq] at h
      subst h
      obtain ⟨r3, h3⟩ := renStore_acc n tips s (renCells n tips acc c).2
      exact ⟨c, acc, rfl, rfl, ⟨r3 ++ r, by rw [hA, h3, List.append_assoc]⟩⟩
    | succ l => simpa using h2 l cs' (by simpa using h)

theorem renStore_dead {n : Nat} {tips : List Nat} : ∀ (s : List (List AV)) (acc : List (Nat × Nat)) (l : Nat), s[l]? = some [] → (renStore n tips acc s).1[l]? = some []
  | [], acc, l, h => by simp at h
  | c :: s, acc, l, h => by
    simp only [renStore]
    cases l with
    | zero => simp only [List.getElem?_cons_zero, Option.some.injEq] at h; subst h; rfl
    | succ l => simpa using renStore_dead s _ l (by simpa using h)

/-- The tips that are taken are different, and no old ones. -/
def AccOk (n : Nat) (acc : List (Nat × Nat)) : Prop := (∀ p ∈ acc, n ≤ p.1) ∧ ∀ (i j : Nat) (p q : Nat × Nat), acc[i]? = some p → acc[j]? = some q → p.1 = q.1 → i = j

theorem ren1_ok {n : Nat} {tips : List Nat} {acc : List (Nat × Nat)} (a : AV) (h : AccOk n acc) : AccOk n (ren1 n tips acc a).2 := by
  unfold ren1
  repeat' split
  all_goals first
    | exact h
    | skip
  rename_i t e z xs ht hc
  refine ⟨fun p hp => ?_, fun i j p q hi hj hpq => ?_⟩
  · rcases List.mem_append.1 hp with hp | hp
    · exact h.1 p hp
    · simp only [List.mem_singleton] at hp; subst hp; simp only; omega
  · have hne : ∀ (k : Nat) (r : Nat × Nat), acc[k]? = some r → r.1 ≠ t := by
      intro k r hk
      have := List.all_eq_true.1 hc.2 r (List.mem_of_getElem? hk)
      simpa using this
    rw [List.getElem?_append] at hi hj
    split at hi <;> split at hj
    · exact h.2 i j p q hi hj hpq
    · simp only [List.getElem?_singleton] at hj
      split at hj
      · simp only [Option.some.injEq] at hj; subst hj; exact absurd hpq (hne i p hi)
      · simp at hj
    · simp only [List.getElem?_singleton] at hi
      split at hi
      · simp only [Option.some.injEq] at hi; subst hi; exact absurd hpq.symm (hne j q hj)
      · simp at hi
    · simp only [List.getElem?_singleton] at hi hj
      split at hi <;> split at hj
      · omega
      · simp at hj
      · simp at hi
      · simp at hi

theorem renEnv_ok {n : Nat} {tips : List Nat} : ∀ (e : Env) (acc : List (Nat × Nat)), AccOk n acc → AccOk n (renEnv n tips acc e).2
  | [], _, h => h
  | (_, a) :: e, acc, h => renEnv_ok e _ (ren1_ok a h)
theorem renCells_ok {n : Nat} {tips : List Nat} : ∀ (e : List AV) (acc : List (Nat × Nat)), AccOk n acc → AccOk n (renCells n tips acc e).2
  | [], _, h => h
  | a :: e, acc, h => renCells_ok e _ (ren1_ok a h)
theorem renStore_ok {n : Nat} {tips : List Nat} : ∀ (e : List (List AV)) (acc : List (Nat × Nat)), AccOk n acc → AccOk n (renStore n tips acc e).2
  | [], _, h => h
  | a :: e, acc, h => renStore_ok e _ (renCells_ok a _ h)

theorem ren_tk {n t c : Nat} {A : List (Nat × Nat)} (h : (K.ren n A).tk t = some c) : (t < n ∧ K.tk t = some c) ∨ (n ≤ t ∧ ∃ p, A[t - n]? = some p ∧ K.tk p.1 = some c) := by
  simp only [Kx.ren] at h
  split at h
  · exact .inl ⟨by assumption, h⟩
  · refine .inr ⟨by omega, ?_⟩
    cases hp : A[t - n]? with
    | none => simp [hp] at h
    | some p => exact ⟨p, rfl, by simpa [hp] using h⟩

theorem renAll_good {n : Nat} {env : Env} {a : Act} (hG : Good us w K st) (hn : n ≤ st.tips.length) (hE : EnvRel us w K env a) :
    ∃ A, AccOk n A ∧ Good us w (K.ren n A) (renAll n env st).2 ∧ EnvRel us w (K.ren n A) (renAll n env st).1 a := by
  let A := (renStore n st.tips (renEnv n st.tips [] env).2 st.store).2
  have hA : AccOk n A := renStore_ok _ _ (renEnv_ok _ _ ⟨by simp, fun i j p q h => by simp at h⟩)
  have hlen : (K.T.take n).length = n := by rw [hG.T]; simp; omega
  obtain ⟨r, hr⟩ := renStore_acc n st.tips st.store (renEnv n st.tips [] env).2
  obtain ⟨hsl, hsg⟩ := renStore_get (A := A) (n := n) (tips := st.tips) st.store (renEnv n st.tips [] env).2 ⟨[], by simp [A]⟩
  refine ⟨A, hA, ⟨?_, fun l c h => ?_, fun l c cs' hl hs => ?_, fun l l' c h h' => (hG.inj l l' c h h').imp (fun h => h) (Or.imp (renStore_dead _ _ _) (renStore_dead _ _ _)), fun t t' c h h' => ?_, fun t c h => ?_, fun t c h => ?_, hG.uslt, fun l c h => (hG.disj l c h).imp (renStore_dead _ _ _) (fun h => h), fun l t c h h2 => ?_⟩, ?_⟩
  · simp only [renAll, Kx.ren, hG.T]; rfl
  · simp only [renAll]; rw [hsl]; exact hG.lmlt l c h
  · simp only [renAll] at hs
    obtain ⟨cs, acc', h1, rfl, h3⟩ := hsg l cs' hs
    exact (hG.blk l c cs hl h1).conv rfl fun _ g2 => renCells_rel hG.T hn cs acc' _ h3 g2
  · rcases ren_tk h with ⟨e1, h1⟩ | ⟨e1, p, hp, h1⟩ <;> rcases ren_tk h' with ⟨e2, h2⟩ | ⟨e2, q, hq, h2⟩
    · exact hG.tkinj t t' c h1 h2
    · have := hG.tkinj _ _ c h1 h2
      have := hA.1 q (List.mem_of_getElem? hq)
      omega
    · have := hG.tkinj _ _ c h1 h2
      have := hA.1 p (List.mem_of_getElem? hp)
      omega
    · have := hA.2 _ _ p q hp hq (hG.tkinj _ _ c h1 h2)
      omega
  · have e : (st.tips.take n).length = n := by simp; omega
    show t < (st.tips.take n ++ A.map (·.2)).length
    rw [List.length_append, List.length_map, e]
    rcases ren_tk h with ⟨e1, _⟩ | ⟨e1, p, hp, _⟩
    · omega
    · have := (List.getElem?_eq_some_iff.1 hp).1
      omega
  · rcases ren_tk h with ⟨_, h1⟩ | ⟨_, p, _, h1⟩
    · exact hG.tkus _ c h1
    · exact hG.tkus _ c h1
  · rcases ren_tk h2 with ⟨_, h1⟩ | ⟨_, p, _, h1⟩
    · exact hG.lmtk l _ c h h1
    · exact hG.lmtk l _ c h h1
  · exact renEnv_rel hG.T hn env [] ⟨r, by simp only [A]; rw [hr]⟩ hE

theorem renAll_lens {n : Nat} (env : Env) (st : St) (h : n ≤ st.tips.length) : (renAll n env st).2.store.length = st.store.length ∧ n ≤ (renAll n env st).2.tips.length := by
  simp only [renAll]
  obtain ⟨r1, _⟩ := renStore_get (A := (renStore n st.tips (renEnv n st.tips [] env).2 st.store).2) (n := n) (tips := st.tips) st.store (renEnv n st.tips [] env).2 ⟨[], by simp⟩
  rw [r1]
  exact ⟨rfl, by simp; omega⟩

/-! ### new names -/

theorem mapLs_len (n : Nat) (M : List Nat) : ∀ xs : List AV, (mapLs n M xs).length = xs.length
  | [] => rfl
  | a :: r => by simp [mapLs, mapLs_len n M r]
theorem mapLs_get (n : Nat) (M : List Nat) : ∀ (xs : List AV) (i : Nat) (h : i < (mapLs n M xs).length), (mapLs n M xs)[i] = mapL n M (xs[i]'(by rw [mapLs_len] at h; exact h))
  | [], i, h => by simp [mapLs] at h
  | a :: r, 0, h => by simp [mapLs]
  | a :: r, i + 1, h => by simp [mapLs]; exact mapLs_get n M r i (by simpa [mapLs] using h)
theorem mapStore_get (n : Nat) (M : List Nat) : ∀ (s : List (List AV)) (i : Nat), (mapStore n M s)[i]? = (s[i]?).map (mapLs n M)
  | [], i => by simp [mapStore]
  | a :: r, 0 => by simp [mapStore]
  | a :: r, i + 1 => by simp [mapStore]; exact mapStore_get n M r i
theorem mapStore_len (n : Nat) (M : List Nat) : ∀ s : List (List AV), (mapStore n M s).length = s.length
  | [] => rfl
  | a :: r => by simp [mapStore, mapStore_len n M r]
theorem pickStore_get (st : St) : ∀ (M : List Nat) (i : Nat), (pickStore st M)[i]? = (M[i]?).map fun l => (st.store[l]?).getD []
  | [], i => by simp [pickStore]
  | a :: r, 0 => by simp [pickStore]
  | a :: r, i + 1 => by simp [pickStore]; exact pickStore_get st r i
theorem pickStore_len (st : St) : ∀ M : List Nat, (pickStore st M).length = M.length
  | [] => rfl
  | a :: r => by simp [pickStore, pickStore_len st r]

def Kx.names (K : Kx) (n : Nat) (M : List Nat) : Kx := { K with lm := fun l => if l < n then K.lm l else (M[l - n]?).bind K.lm }

theorem posOf_get {l : Nat} : ∀ {M : List Nat} {i : Nat}, posOf l M = some i → M[i]? = some l
  | [], i, h => by simp [posOf] at h
  | x :: r, i, h => by
    simp only [posOf] at h
    split at h
    · next e => simp only [Option.some.injEq] at h; subst h; subst e; rfl
    · obtain ⟨j, hj, rfl⟩ := Option.map_eq_some_iff.1 h
      simpa using posOf_get hj
theorem newName_lm {n : Nat} {M : List Nat} {l l' c : Nat} (h : newName n M l = some l') (hl : K.lm l = some c) : (K.names n M).lm l' = some c := by
  simp only [newName] at h
  split at h
  · next e => simp only [Option.some.injEq] at h; subst h; simp [Kx.names, e, hl]
  · obtain ⟨j, hj, rfl⟩ := Option.map_eq_some_iff.1 h
    simp only [Kx.names]
    rw [if_neg (by omega), Nat.add_sub_cancel_left, posOf_get hj]; exact hl
theorem Rel.names {a x} {n : Nat} {M : List Nat} (h : Rel us w K a x) : Rel us w (K.names n M) (mapL n M a) x := by
  induction h with
  | any K x => simp only [mapL]; exact .any _ x
  | v K x h => simp only [mapL]; exact .v _ x h
  | ptr K l o c h hs =>
    simp only [mapL]
    split
    · next l' e => exact .ptr _ l' o c (newName_lm e h) hs
    · exact .any _ _
  | obj K m l c h =>
    simp only [mapL]
    split
    · next l' e => exact .obj _ m l' c (newName_lm e h)
    · exact .any _ _
  | eptr K e o c p m vs hu1 hn hc h1 hl hr _ => simp only [mapL]; exact .eptr _ e o c p m vs hu1 hn hc h1 hl hr
  | lst K g z xs c p m cap vs hu1 hn hc h1 hz hcap hl hr ht _ => simp only [mapL]; exact .lst _ g z xs c p m cap vs hu1 hn hc h1 hz hcap hl hr ht
  | rsl K l o m c z a b cap h hs hx =>
    simp only [mapL]
    split
    · next l' e => exact .rsl _ l' o m c z a b cap (newName_lm e h) hs hx
    · exact .any _ _
  | fn K f a b va vb ha hb _ _ iha ihb =>
    simp only [mapL]
    exact .fn _ f _ _ va vb (by rw [mapLs_len]; exact ha) (by rw [mapLs_len]; exact hb) (fun i h h' => by rw [mapLs_get]; exact iha i _ h') (fun i h h' => by rw [mapLs_get]; exact ihb i _ h')
  | ifc K t a x _ ih => simp only [mapL]; exact .ifc _ t _ x ih
  | agg K cs vs hl _ ih => simp only [mapL]; exact .agg _ _ vs (by rw [mapLs_len]; exact hl) (fun i h h' => by rw [mapLs_get]; exact ih i _ h')
  | tup K cs vs hl _ ih => simp only [mapL]; exact .tup _ _ vs (by rw [mapLs_len]; exact hl) (fun i h h' => by rw [mapLs_get]; exact ih i _ h')
theorem mapEnv_get (n : Nat) (M : List Nat) : ∀ (e : Env) (t : Tmp), (mapEnv n M e).get t = mapL n M (e.get t)
  | [], t => by simp [mapEnv, Env.get, mapL]
  | (i, a) :: r, t => by
    simp only [mapEnv, Env.get]
    split
    · rfl
    · exact mapEnv_get n M r t
theorem namesOk_spec {n : Nat} : ∀ {M : List Nat}, namesOk n M = true → (∀ l ∈ M, n ≤ l) ∧ ∀ (i j l : Nat), M[i]? = some l → M[j]? = some l → i = j
  | [], _ => ⟨by simp, fun i j l h => by simp at h⟩
  | x :: r, h => by
    simp only [namesOk, Bool.and_eq_true, decide_eq_true_eq, Bool.not_eq_true'] at h
    obtain ⟨⟨h1, h2⟩, h3⟩ := h
    obtain ⟨h4, h5⟩ := namesOk_spec h3
    have hx : ∀ (i : Nat), r[i]? = some x → False := fun i hi => by
      have := List.mem_of_getElem? hi
      have h6 : r.contains x = true := by simpa using this
      rw [h6] at h2; simp at h2
    refine ⟨fun l hl => ?_, fun i j l hi hj => ?_⟩
    · rcases List.mem_cons.1 hl with rfl | hl
      · exact h1
      · exact h4 l hl
    · cases i with
      | zero =>
        cases j with
        | zero => rfl
        | succ j => simp only [List.getElem?_cons_zero, Option.some.injEq] at hi; subst hi; exact (hx j (by simpa using hj)).elim
      | succ i =>
        cases j with
        | zero => simp only [List.getElem?_cons_zero, Option.some.injEq] at hj; subst hj; exact (hx i (by simpa using hi)).elim
        | succ j => have := h5 i j l (by simpa using hi) (by simpa using hj); omega

theorem good_names {n : Nat} {M : List Nat} (hG : Good us w K st) (hn : n ≤ st.store.length) (hM : namesOk n M = true) :
    Good us w (K.names n M) ⟨mapStore n M (st.store.take n) ++ mapStore n M (pickStore st M), st.tips⟩ := by
  obtain ⟨hM1, hM2⟩ := namesOk_spec hM
  have hlt : (mapStore n M (st.store.take n)).length = n := by rw [mapStore_len, List.length_take]; omega
  have inv : ∀ l' c, (K.names n M).lm l' = some c → ∃ l, K.lm l = some c ∧ ((l' < n ∧ l = l') ∨ (n ≤ l' ∧ M[l' - n]? = some l)) := by
    intro l' c h
    simp only [Kx.names] at h
    split at h
    · next e => exact ⟨l', h, .inl ⟨e, rfl⟩⟩
    · obtain ⟨l, h1, h2⟩ := Option.bind_eq_some_iff.1 h
      exact ⟨l, h2, .inr ⟨by omega, h1⟩⟩
  have ent : ∀ l' l c, K.lm l = some c → ((l' < n ∧ l = l') ∨ (n ≤ l' ∧ M[l' - n]? = some l)) → (mapStore n M (st.store.take n) ++ mapStore n M (pickStore st M))[l']? = (st.store[l]?).map (mapLs n M) := by
    intro l' l c hl h
    rcases h with ⟨h1, rfl⟩ | ⟨h1, h2⟩
    · rw [List.getElem?_append_left (by omega), mapStore_get, List.getElem?_take, if_pos h1]
    · rw [List.getElem?_append_right (by omega), hlt, mapStore_get, pickStore_get, h2]
      simp only [Option.map_some]
      rw [List.getElem?_eq_getElem (hG.lmlt l c hl)]
      rfl
  have dead : ∀ l' l c, K.lm l = some c → ((l' < n ∧ l = l') ∨ (n ≤ l' ∧ M[l' - n]? = some l)) → st.store[l]? = some [] → (mapStore n M (st.store.take n) ++ mapStore n M (pickStore st M))[l']? = some [] := by
    intro l' l c hl h hd
    rw [ent l' l c hl h, hd]; rfl
  refine ⟨hG.T, fun l' c h => ?_, fun l' c cs h hs => ?_, fun l1 l2 c h1 h2 => ?_, hG.tkinj, hG.tklt, hG.tkus, hG.uslt, fun l' c h => ?_, fun l' t c h ht => ?_⟩
  · obtain ⟨l, hl, h1⟩ := inv l' c h
    rw [List.length_append, hlt, mapStore_len, pickStore_len]
    rcases h1 with ⟨h1, _⟩ | ⟨h1, h2⟩
    · omega
    · have := (List.getElem?_eq_some_iff.1 h2).1; omega
  · obtain ⟨l, hl, h1⟩ := inv l' c h
    simp only [ent l' l c hl h1] at hs
    obtain ⟨cs2, h2, rfl⟩ := Option.map_eq_some_iff.1 hs
    exact (hG.blk l c cs2 hl h2).conv rfl fun _ g2 => ⟨by rw [mapLs_len]; exact g2.len, fun i h h' => by rw [mapLs_get]; exact (g2.rel i _ h').names⟩
  · obtain ⟨a, ha, h3⟩ := inv l1 c h1
    obtain ⟨b, hb, h4⟩ := inv l2 c h2
    rcases hG.inj a b c ha hb with e | e | e
    · subst e
      refine .inl ?_
      rcases h3 with ⟨h3, rfl⟩ | ⟨h3, h5⟩ <;> rcases h4 with ⟨h4, h6⟩ | ⟨h4, h6⟩
      · exact h6
      · have := hM1 _ (List.mem_of_getElem? h6); omega
      · have := hM1 _ (List.mem_of_getElem? h5); omega
      · have := hM2 _ _ _ h5 h6; omega
    · exact .inr (.inl (dead l1 a c ha h3 e))
    · exact .inr (.inr (dead l2 b c hb h4 e))
  · obtain ⟨l, hl, h1⟩ := inv l' c h
    rcases hG.disj l c hl with e | e
    · exact .inl (dead l' l c hl h1 e)
    · exact .inr e
  · obtain ⟨l, hl, _⟩ := inv l' c h
    exact hG.lmtk l t c hl ht

/-- The loop's head, as seen from where the loop began. -/
theorem gcAV_good {us0 : Us} {w0 : World} {K0 : Kx} {st0 : St} {gc : Bool} {env : Env} {a : Act} (hG0 : Good us0 w0 K0 st0) (hX : Ext us0 w0 K0 us w K) (hN : NewK st0.store.length st0.tips.length K0 K) (hlenS : st0.store.length ≤ st.store.length) (hlen : st0.tips.length ≤ st.tips.length) (hG : Good us w K st) (hE : EnvRel us w K env a) :
    ∃ K2, Good us w K2 (gcAV gc st0.store.length st0.tips.length env st).2 ∧ EnvRel us w K2 (gcAV gc st0.store.length st0.tips.length env st).1 a ∧ Ext us0 w0 K0 us w K2 ∧ NewK st0.store.length st0.tips.length K0 K2 := by
  cases gc with
  | false => exact ⟨K, hG, hE, hX, hN⟩
  | true =>
    have hren : ∀ (env1 : Env) (st1 : St) (K1 : Kx), Good us w K1 st1 → EnvRel us w K1 env1 a → Ext us0 w0 K0 us w K1 → NewK st0.store.length st0.tips.length K0 K1 → st1.tips = st.tips →
        ∃ K2, Good us w K2 (renAll st0.tips.length env1 st1).2 ∧ EnvRel us w K2 (renAll st0.tips.length env1 st1).1 a ∧ Ext us0 w0 K0 us w K2 ∧ NewK st0.store.length st0.tips.length K0 K2 := by
      intro env1 st1 K1 g1 g2 g3 g4 g5
      obtain ⟨A, hA, h1, h2⟩ := renAll_good (n := st0.tips.length) g1 (by rw [g5]; exact hlen) g2
      refine ⟨K1.ren st0.tips.length A, h1, h2, ⟨g3.os, g3.tape, g3.output, g3.size, g3.sz, g3.usle, ⟨g3.kle.lm, fun t m h => ?_⟩, g3.frame, g3.usNone, g3.lmNew, fun t c h => ?_⟩, ⟨g4.lm, fun t h => ?_⟩⟩
      · have hlt : t < st0.tips.length := by rw [hG0.T] at h; exact (List.getElem?_eq_some_iff.1 h).1
        obtain ⟨m', k1, k2, k3⟩ := g3.kle.T t m h
        refine ⟨m', ?_, k2, fun e => ?_⟩
        · simp only [Kx.ren]
          have : (K1.T.take st0.tips.length)[t]? = some m' := by rw [List.getElem?_take, if_pos hlt]; exact k1
          rw [List.getElem?_append_left (List.getElem?_eq_some_iff.1 this).1]
          exact this
        · simp only [Kx.ren, if_pos hlt]
          exact k3 e
      · rcases ren_tk h with ⟨_, h1⟩ | ⟨_, p, hp, h1⟩
        · exact g3.tkNew _ c h1
        · rcases g3.tkNew _ c h1 with h2 | h2
          · have := hG0.tklt _ c h2
            have := hA.1 p (List.mem_of_getElem? hp)
            omega
          · exact .inr h2
      · by_cases e : t < st0.tips.length
        · simp only [Kx.ren, if_pos e] at h
          exact g4.tk t h
        · exact .inr (by omega)
    simp only [gcAV, if_true]
    by_cases hk : hasKey env = true
    · rw [if_pos hk]
      unfold compact compactW
      split
      · next hM =>
        refine hren _ _ (K.names st0.store.length _) (good_names hG hlenS hM) (fun t => by rw [mapEnv_get]; exact (hE t).names) ⟨hX.os, hX.tape, hX.output, hX.size, hX.sz, hX.usle, ⟨fun l c h => ?_, hX.kle.T⟩, hX.frame, hX.usNone, fun l c h => ?_, hX.tkNew⟩ ⟨fun l c h => ?_, hN.tk⟩ rfl
        · have h2 := hG0.lmlt l c h
          have h3 := hX.kle.lm l c h
          exact ⟨by simp [Kx.names, h2, h3.1], h3.2⟩
        · simp only [Kx.names] at h
          split at h
          · exact hX.lmNew l c h
          · obtain ⟨l0, _, h2⟩ := Option.bind_eq_some_iff.1 h
            exact hX.lmNew l0 c h2
        · by_cases e : l < st0.store.length
          · simp only [Kx.names, if_pos e] at h
            exact hN.lm l c h
          · exact .inr (by omega)
      · exact hren _ _ K hG hE hX hN rfl
    rw [if_neg hk]
    -- the cut
    have hcut : ∃ K1, Good us w K1 (cutSt st0.store.length env st) ∧ EnvRel us w K1 env a ∧ Ext us0 w0 K0 us w K1 ∧ NewK st0.store.length st0.tips.length K0 K1 ∧ (cutSt st0.store.length env st).tips = st.tips := by
      unfold cutSt
      split
      · next hc =>
        have hlm : ∀ l c, (K.cut st0.store.length).lm l = some c → K.lm l = some c := by
          intro l c h
          simp only [Kx.cut] at h
          split at h
          · exact h
          · simp at h
        refine ⟨K.cut st0.store.length, good_cut hG _ hc.2, fun t => (hE t).cut (okEnv_get hc.1 t), ⟨hX.os, hX.tape, hX.output, hX.size, hX.sz, hX.usle, ⟨fun l c h => ?_, hX.kle.T⟩, hX.frame, hX.usNone, fun l c h => hX.lmNew l c (hlm l c h), hX.tkNew⟩, ⟨fun l c h => hN.lm l c (hlm l c h), hN.tk⟩, rfl⟩
        have h1 := hX.kle.lm l c h
        have h2 := hG0.lmlt l c h
        exact ⟨by simp [Kx.cut, h2, h1.1], h1.2⟩
      · exact ⟨K, hG, hE, hX, hN, rfl⟩
    obtain ⟨K1, g1, g2, g3, g4, g5⟩ := hcut
    exact hren _ _ K1 g1 g2 g3 g4 g5

theorem gcAV_len' (gc : Bool) (env : Env) {l n : Nat} {st : St} (h1 : l ≤ st.store.length) (h2 : n ≤ st.tips.length) :
    l ≤ (gcAV gc l n env st).2.store.length ∧ n ≤ (gcAV gc l n env st).2.tips.length := by
  cases gc with
  | false => exact ⟨h1, h2⟩
  | true =>
    simp only [gcAV, if_true]
    split
    · have e : l ≤ (compact l env st).2.store.length ∧ (compact l env st).2.tips = st.tips := by
        unfold compact compactW
        split
        · simp only [List.length_append, mapStore_len, List.length_take, and_true]; omega
        · exact ⟨h1, rfl⟩
      have := renAll_lens (n := n) (compact l env st).1 (compact l env st).2 (by rw [e.2]; exact h2)
      rw [this.1]
      exact ⟨e.1, this.2⟩
    · have e : l ≤ (cutSt l env st).store.length ∧ (cutSt l env st).tips = st.tips := by
        unfold cutSt
        split
        · exact ⟨by simp; omega, rfl⟩
        · exact ⟨h1, rfl⟩
      have := renAll_lens (n := n) env (cutSt l env st) (by rw [e.2]; exact h2)
      rw [this.1]
      exact ⟨e.1, this.2⟩

theorem canon_rel {env : Env} {a : Act} (h : EnvRel us w K env a) (ks : List Tmp) : EnvRel us w K (canon env ks) a := by
  intro t
  induction ks with
  | nil => exact .any _ _
  | cons k ks ih =>
    simp only [canon, Env.get]
    split
    · next e => subst e; exact h k
    · exact ih
end
end Go.Ev

namespace Go.Ev
open Go

section
variable {us us1 : Us} {w w1 : World} {K K1 : Kx} {st st1 : St}

/-! ## Regions that are forgotten -/

/-- The names that can be seen. -/
def Kx.hide (K : Kx) (st : St) : Kx := { K with lm := fun l => if visN st l = true then K.lm l else none }
theorem hide_lm {l c : Nat} (h : (K.hide st).lm l = some c) : visN st l = true ∧ K.lm l = some c := by
  simp only [Kx.hide] at h
  split at h
  · next e => exact ⟨e, h⟩
  · simp at h
theorem hide_lm' {l c : Nat} (h : K.lm l = some c) (hv : visN st l = true) : (K.hide st).lm l = some c := by
  simp only [Kx.hide]; rw [if_pos hv]; exact h
theorem visRs_get (st : St) : ∀ (xs : List AV), visRs st xs = true → ∀ (i : Nat) (h : i < xs.length), visR st xs[i] = true
  | [], _, i, h => by simp at h
  | a :: r, hv, 0, h => by simp only [visRs, Bool.and_eq_true] at hv; exact hv.1
  | a :: r, hv, i + 1, h => by simp only [visRs, Bool.and_eq_true] at hv; exact visRs_get st r hv.2 i (by simpa using h)
theorem noLs_get : ∀ (xs : List AV), noLs xs = true → ∀ (i : Nat) (h : i < xs.length), noL xs[i] = true
  | [], _, i, h => by simp at h
  | a :: r, hv, 0, h => by simp only [noLs, Bool.and_eq_true] at hv; exact hv.1
  | a :: r, hv, i + 1, h => by simp only [noLs, Bool.and_eq_true] at hv; exact noLs_get r hv.2 i (by simpa using h)

theorem Rel.hide {a x} (st : St) (h : Rel us w K a x) : visR st a = true → Rel us w (K.hide st) a x := by
  induction h with
  | any K x => intro _; exact .any _ x
  | v K x h => intro _; exact .v _ x h
  | ptr K l o c h hs => intro hv; exact .ptr _ l o c (hide_lm' h (by simpa [visR] using hv)) hs
  | obj K m l c h => intro hv; exact .obj _ m l c (hide_lm' h (by simpa [visR] using hv))
  | eptr K e o c p n vs hu1 hn hc h1 hl hr _ => intro _; exact .eptr _ e o c p n vs hu1 hn hc h1 hl hr
  | lst K g z xs c p n cap vs hu1 hn hc h1 hz hcap hl hr ht _ => intro _; exact .lst _ g z xs c p n cap vs hu1 hn hc h1 hz hcap hl hr (by cases g <;> exact ht)
  | rsl K l o n c z b d cap h hs hx => intro hv; exact .rsl _ l o n c z b d cap (hide_lm' h (by simpa [visR] using hv)) hs hx
  | fn K f a b va vb ha hb hra hrb iha ihb =>
    intro hv
    simp only [visR, Bool.and_eq_true] at hv
    exact .fn _ f a b va vb ha hb (fun i h h' => iha i h h' (visRs_get st a hv.1 i h)) (fun i h h' => ihb i h h' (visRs_get st b hv.2 i h))
  | ifc K t a x h ih => intro hv; exact .ifc _ t a x (ih (by simpa [visR] using hv))
  | agg K cs vs hl hr ih => intro hv; exact .agg _ cs vs hl (fun i h h' => ih i h h' (visRs_get st cs (by simpa [visR] using hv) i h))
  | tup K cs vs hl hr ih => intro hv; exact .tup _ cs vs hl (fun i h h' => ih i h h' (visRs_get st cs (by simpa [visR] using hv) i h))
theorem Rel.hideV {a x} (st : St) (h : Rel us w K a x) : Rel us w (K.hide st) (hideV st a) x := by
  unfold Go.Ev.hideV
  split
  · next e => exact h.hide st e
  · exact .any _ x
/-- What names no list hangs on the names alone. -/
theorem Rel.noList {us' : Us} {w' : World} {a x} (h : Rel us w K a x) : ∀ {K' : Kx}, noL a = true → (∀ l c, K.lm l = some c → K'.lm l = some c ∧ ∀ n, SizeAt w c n → SizeAt w' c n) → Rel us' w' K' a x := by
  induction h with
  | any K x => intro K' _ _; exact .any _ x
  | v K x h => intro K' _ _; exact .v _ x h
  | ptr K l o c h hs => intro K' _ hk; exact .ptr _ l o c (hk l c h).1 (hs.imp fun n hn => (hk l c h).2 n hn)
  | obj K m l c h => intro K' _ hk; exact .obj _ m l c (hk l c h).1
  | eptr K e o c p n vs hu1 hn hc h1 hl hr _ => intro K' hv; simp [noL] at hv
  | lst K g z xs c p n cap vs hu1 hn hc h1 hz hcap hl hr ht _ => intro K' hv; simp [noL] at hv
  | rsl K l o n c z b d cap h hs hx =>
    intro K' _ hk
    exact .rsl _ l o n c z b d cap (hk l d h).1 (hs.imp fun n hn => (hk l d h).2 n hn) (hx.imp (fun h => h) fun ⟨h1, m, h2, h3⟩ => ⟨h1, m, (hk l d h).2 m h2, h3⟩)
  | fn K f a b va vb ha hb hra hrb iha ihb =>
    intro K' hv hk
    simp only [noL, Bool.and_eq_true] at hv
    exact .fn _ f a b va vb ha hb (fun i h h' => iha i h h' (noLs_get a hv.1 i h) hk) (fun i h h' => ihb i h h' (noLs_get b hv.2 i h) hk)
  | ifc K t a x h ih => intro K' hv hk; exact .ifc _ t a x (ih (by simpa [noL] using hv) hk)
  | agg K cs vs hl hr ih => intro K' hv hk; exact .agg _ cs vs hl (fun i h h' => ih i h h' (noLs_get cs (by simpa [noL] using hv) i h) hk)
  | tup K cs vs hl hr ih => intro K' hv hk; exact .tup _ cs vs hl (fun i h h' => ih i h h' (noLs_get cs (by simpa [noL] using hv) i h) hk)

theorem visN_some {l : Nat} (h : visN st l = true) : ∃ cs, st.store[l]? = some cs ∧ visB cs = true ∧ cs ≠ [] := by
  unfold visN at h
  split at h
  · rename_i cs hcs
    refine ⟨cs, hcs, h, ?_⟩
    rintro rfl
    simp [visB] at h
  · simp at h
theorem hideSt_get {l : Nat} : (hideSt st).store[l]? = (st.store[l]?).map (hideC st) := by simp [hideSt]
theorem hideSt_len : (hideSt st).store.length = st.store.length := by simp [hideSt]
theorem hideEnv_get (st : St) : ∀ (env : Env) (t : Tmp), (hideEnv st env).get t = hideV st (env.get t)
  | [], t => by
    simp only [hideEnv, Env.get, hideV]
    exact (ite_self _).symm
  | (i, a) :: r, t => by
    simp only [hideEnv, Env.get]
    split
    · rfl
    · exact hideEnv_get st r t

theorem hide_good (hG : Good us w K st) : Good us w (K.hide st) (hideSt st) := by
  refine ⟨hG.T, fun l c h => ?_, fun l c cs h hs => ?_, fun l l' c h h' => ?_, hG.tkinj, hG.tklt, hG.tkus, hG.uslt, fun l c h => ?_, fun l t c h => hG.lmtk l t c (hide_lm h).2⟩
  · rw [hideSt_len]; exact hG.lmlt l c (hide_lm h).2
  · obtain ⟨hv, hk⟩ := hide_lm h
    obtain ⟨cs0, h0, hb, _⟩ := visN_some hv
    rw [hideSt_get, h0] at hs
    simp only [Option.map_some, Option.some.injEq] at hs
    unfold hideC at hs
    rw [if_pos hb] at hs
    subst hs
    exact (hG.blk l c cs0 hk h0).conv rfl fun _ g2 => ⟨by rw [List.length_map]; exact g2.len, fun i h1 h2 => by
      rw [List.getElem_map]
      exact (g2.rel i (by simpa using h1) h2).hideV st⟩
  · obtain ⟨hv, hk⟩ := hide_lm h
    obtain ⟨hv', hk'⟩ := hide_lm h'
    obtain ⟨cs, h1, _, h2⟩ := visN_some hv
    obtain ⟨cs', h1', _, h2'⟩ := visN_some hv'
    rcases hG.inj l l' c hk hk' with e | e | e
    · exact .inl e
    · rw [h1] at e; simp at e; exact absurd e h2
    · rw [h1'] at e; simp at e; exact absurd e h2'
  · obtain ⟨hv, hk⟩ := hide_lm h
    obtain ⟨cs, h1, _, h2⟩ := visN_some hv
    rcases hG.disj l c hk with e | e
    · rw [h1] at e; simp at e; exact absurd e h2
    · exact .inr e
theorem hide_env {env : Env} {a : Act} (hE : EnvRel us w K env a) : EnvRel us w (K.hide st) (hideEnv st env) a := fun t => by
  rw [hideEnv_get]; exact (hE t).hideV st

theorem mergeS_len : ∀ (xs ys : List (List AV)), xs.length ≤ ys.length → (mergeS xs ys).length = ys.length
  | [], ys, _ => rfl
  | x :: xs, [], h => by simp at h
  | x :: xs, y :: ys, h => by simp only [mergeS, List.length_cons]; rw [mergeS_len xs ys (by simpa using h)]
theorem mergeS_get : ∀ (xs ys : List (List AV)) (l : Nat), xs.length ≤ ys.length → (mergeS xs ys)[l]? = match xs[l]? with
    | some x => if visB x = true then ys[l]? else some x
    | none => ys[l]?
  | [], ys, l, _ => by simp [mergeS]
  | x :: xs, [], l, h => by simp at h
  | x :: xs, y :: ys, 0, h => by
    simp only [mergeS, List.getElem?_cons_zero]
    split <;> rfl
  | x :: xs, y :: ys, l + 1, h => by
    simp only [mergeS, List.getElem?_cons_succ]
    exact mergeS_get xs ys l (by simpa using h)
theorem noLB_get : ∀ (S : List (List AV)), noLB S = true → ∀ (l : Nat) (cs : List AV), S[l]? = some cs → noLs cs = true
  | [], _, l, cs, h => by simp at h
  | a :: r, hv, 0, cs, h => by
    simp only [noLB, Bool.and_eq_true] at hv
    simp only [List.getElem?_cons_zero, Option.some.injEq] at h
    subst h; exact hv.1
  | a :: r, hv, l + 1, cs, h => by
    simp only [noLB, Bool.and_eq_true] at hv
    exact noLB_get r hv.2 l cs (by simpa using h)
theorem forgot_get : ∀ (l : List IOp) (env : Env) (t : Tmp), ((∃ i, ∃ h : i < l.length, l[i].d = some t) ∧ (forgot l env).get t = .any) ∨ ((∀ i (h : i < l.length), l[i].d ≠ some t) ∧ (forgot l env).get t = env.get t)
  | [], env, t => .inr ⟨fun i h => absurd h (by simp), rfl⟩
  | o :: r, env, t => by
    simp only [forgot, get_setD]
    by_cases e : o.d = some t
    · rw [if_pos e]; exact .inl ⟨⟨0, by simp, e⟩, rfl⟩
    · rw [if_neg e]
      rcases forgot_get r env t with ⟨⟨i, h, h1⟩, h2⟩ | ⟨h1, h2⟩
      · exact .inl ⟨⟨i + 1, by simpa using h, by simpa using h1⟩, h2⟩
      · refine .inr ⟨fun i h => ?_, h2⟩
        cases i with
        | zero => exact e
        | succ i => exact h1 i (by simpa using h)

/-- After a region that is forgotten. -/
theorem lost_post {env : Env} {a a' : Act} {ks : List IOp} (hG : Good us w K st) (hE : EnvRel us w K env a) (hX : Ext us w (K.hide st) us1 w1 K1) (hG1 : Good us1 w1 K1 st1) (hN : NewK (hideSt st).store.length (hideSt st).tips.length (K.hide st) K1)
    (hlen : (hideSt st).store.length ≤ st1.store.length) (hno : noLB st1.store = true) (hfr : ∀ t, (∀ i (h : i < ks.length), ks[i].d ≠ some t) → a'.tmps.getD t undef = a.tmps.getD t undef) :
    ∃ us' K', Ext us w K us' w1 K' ∧ Good us' w1 K' ⟨mergeS st.store st1.store, st.tips⟩ ∧ EnvRel us' w1 K' (forgot ks env) a' ∧ NewK st.store.length st.tips.length K K' := by
  rw [hideSt_len] at hlen hN
  let us' : Us := fun c => if c < w.heap.size then us c else none
  let K' : Kx := ⟨fun l => if l < st.store.length ∧ visN st l = false then K.lm l else K1.lm l, K.tk, K.T⟩
  have husT : ∀ c n, us c = some n → us' c = some n := fun c n h => by show (if _ then _ else _) = _; rw [if_pos (hG.uslt c n h)]; exact h
  have husL : ∀ c, c < w.heap.size → us' c = us c := fun c h => by show (if _ then _ else _) = _; rw [if_pos h]
  have husS : ∀ c n, us' c = some n → us c = some n ∧ c < w.heap.size := fun c n h => by
    have h' : (if c < w.heap.size then us c else none) = some n := h
    split at h'
    · next e => exact ⟨h', e⟩
    · simp at h'
  have hvis : ∀ l c, K.lm l = some c → visN st l = true → K1.lm l = some c := fun l c h hv => (hX.kle.lm l c (hide_lm' h hv)).1
  have hKlm : ∀ l c, K.lm l = some c → K'.lm l = some c := by
    intro l c h
    show (if _ then _ else _) = _
    by_cases hv : visN st l = true
    · rw [if_neg (fun e => by rw [hv] at e; simp at e)]; exact hvis l c h hv
    · rw [if_pos ⟨hG.lmlt l c h, by simpa using hv⟩]; exact h
  have hK1lm : ∀ l c, K1.lm l = some c → K'.lm l = some c ∧ ¬(l < st.store.length ∧ visN st l = false) := by
    intro l c h
    have : ¬(l < st.store.length ∧ visN st l = false) := by
      rintro ⟨h1, h2⟩
      rcases hN.lm l c h with e | e
      · rw [(hide_lm e).1] at h2; simp at h2
      · omega
    exact ⟨by show (if _ then _ else _) = _; rw [if_neg this]; exact h, this⟩
  have hinv : ∀ l c, K'.lm l = some c → (l < st.store.length ∧ visN st l = false ∧ K.lm l = some c) ∨ (¬(l < st.store.length ∧ visN st l = false) ∧ K1.lm l = some c) := by
    intro l c h
    have h' : (if l < st.store.length ∧ visN st l = false then K.lm l else K1.lm l) = some c := h
    split at h'
    · next e => exact .inl ⟨e.1, e.2, h'⟩
    · next e => exact .inr ⟨e, h'⟩
  have hmH : ∀ l, l < st.store.length → visN st l = false → (mergeS st.store st1.store)[l]? = st.store[l]? := by
    intro l h1 h2
    rw [mergeS_get _ _ _ hlen, List.getElem?_eq_getElem h1]
    simp only
    rw [if_neg]
    unfold visN at h2
    rw [List.getElem?_eq_getElem h1] at h2
    simp only at h2
    rw [h2]; simp
  have hmV : ∀ l, ¬(l < st.store.length ∧ visN st l = false) → (mergeS st.store st1.store)[l]? = st1.store[l]? := by
    intro l h1
    rw [mergeS_get _ _ _ hlen]
    by_cases h2 : l < st.store.length
    · rw [List.getElem?_eq_getElem h2]
      simp only
      rw [if_pos]
      have h3 : visN st l = true := by
        cases h4 : visN st l
        · exact absurd ⟨h2, h4⟩ h1
        · rfl
      unfold visN at h3
      rw [List.getElem?_eq_getElem h2] at h3
      exact h3
    · rw [List.getElem?_eq_none (by omega)]
  have hule : UsLe us w us' w1 := fun c n h => by
    obtain ⟨_, _, _, h3⟩ := hX.usle c n h
    exact ⟨n, husT c n h, Nat.le_refl _, h3⟩
  have hkle : KLe us w K us' w1 K' := by
    refine ⟨fun l c h => ⟨hKlm l c h, fun n hn => hX.sz c n hn⟩, fun t m hm => ⟨m, hm, Nat.le_refl _, fun _ c hc => ⟨hc, ?_, fun n hn => hX.sz c n hn⟩⟩⟩
    obtain ⟨n, hn⟩ := hG.tkus t c hc
    exact husL c (hG.uslt c n hn)
  have hX' : Ext us w K us' w1 K' :=
    ⟨hX.os, hX.tape, hX.output, hX.size, hX.sz, hule, hkle, fun c hc hl ht => ⟨(hX.frame c hc (fun l e => hl l (hide_lm e).2) ht).1, husL c hc⟩, fun c hc h _ => by rw [husL c hc]; exact h, fun l c h => by
      rcases hinv l c h with ⟨_, _, h1⟩ | ⟨_, h1⟩
      · exact .inl ⟨l, h1⟩
      · rcases hX.lmNew l c h1 with ⟨l0, e⟩ | e
        · exact .inl ⟨l0, (hide_lm e).2⟩
        · exact .inr e, fun _ _ h => .inl h⟩
  -- a block that is named by what is hidden and by what can be seen is dead where it is hidden
  have hmix : ∀ l l0 c, K.lm l = some c → visN st l = false → K.lm l0 = some c → visN st l0 = true → st.store[l]? = some [] := by
    intro l l0 c h hv h0 hv0
    obtain ⟨cs, h1, _, h2⟩ := visN_some hv0
    rcases hG.inj l l0 c h h0 with e | e | e
    · rw [e, hv0] at hv; simp at hv
    · exact e
    · rw [h1] at e; simp at e; exact absurd e h2
  refine ⟨us', K', hX', ⟨hG.T, fun l c h => ?_, fun l c cs h hs => ?_, fun l1 l2 c h1 h2 => ?_, hG.tkinj, hG.tklt, fun t c h => ?_, fun c n h => ?_, fun l c h => ?_, fun l t c h => ?_⟩, fun t => ?_, ⟨fun l c h => ?_, fun t h => .inl h⟩⟩
  · simp only
    rw [mergeS_len _ _ hlen]
    rcases hinv l c h with ⟨h1, _, _⟩ | ⟨_, h1⟩
    · omega
    · exact hG1.lmlt l c h1
  · simp only at hs
    rcases hinv l c h with ⟨h1, hv, h2⟩ | ⟨hn, h1⟩
    · rw [hmH l h1 hv] at hs
      have hb := hG.blk l c cs h2 hs
      by_cases hal : ∃ l0, K.lm l0 = some c ∧ visN st l0 = true
      · obtain ⟨l0, h3, h4⟩ := hal
        have hd := hmix l l0 c h2 hv h3 h4
        rw [hs] at hd
        simp only [Option.some.injEq] at hd
        subst hd
        have h5 := hvis l0 c h3 h4
        exact (hG1.blk l0 c _ h5 (List.getElem?_eq_getElem (hG1.lmlt l0 c h5))).dead rfl
      · have hfrm := (hX.frame c (hG.lmltH h2) (fun l0 e => hal ⟨l0, (hide_lm e).2, (hide_lm e).1⟩) (fun t e => hG.lmtk l t c h2 e)).1
        exact hb.mono hule hkle hfrm
    · rw [hmV l hn] at hs
      have hnl := noLB_get _ hno l cs hs
      exact (hG1.blk l c cs h1 hs).conv rfl fun _ g2 => ⟨g2.len, fun i hi hi' => (g2.rel i hi hi').noList (noLs_get cs hnl i hi) (fun l c h => ⟨(hK1lm l c h).1, fun n hn => hn⟩)⟩
  · simp only
    rcases hinv l1 c h1 with ⟨a1, a2, a3⟩ | ⟨a1, a3⟩ <;> rcases hinv l2 c h2 with ⟨b1, b2, b3⟩ | ⟨b1, b3⟩
    · rw [hmH l1 a1 a2, hmH l2 b1 b2]; exact hG.inj l1 l2 c a3 b3
    · rcases hX.lmNew l2 c b3 with ⟨l0, e⟩ | e
      · exact .inr (.inl (by rw [hmH l1 a1 a2]; exact hmix l1 l0 c a3 a2 (hide_lm e).2 (hide_lm e).1))
      · have := hG.lmltH a3; omega
    · rcases hX.lmNew l1 c a3 with ⟨l0, e⟩ | e
      · exact .inr (.inr (by rw [hmH l2 b1 b2]; exact hmix l2 l0 c b3 b2 (hide_lm e).2 (hide_lm e).1))
      · have := hG.lmltH b3; omega
    · rw [hmV l1 a1, hmV l2 b1]; exact hG1.inj l1 l2 c a3 b3
  · obtain ⟨n, hn⟩ := hG.tkus t c h
    exact ⟨n, husT c n hn⟩
  · have := (husS c n h).2
    exact Nat.lt_of_lt_of_le this hX.size
  · simp only
    rcases hinv l c h with ⟨a1, a2, a3⟩ | ⟨a1, a3⟩
    · rw [hmH l a1 a2]
      rcases hG.disj l c a3 with e | e
      · exact .inl e
      · exact .inr (by rw [husL c (hG.lmltH a3)]; exact e)
    · rw [hmV l a1]
      rcases hG1.disj l c a3 with e | e
      · exact .inl e
      · refine .inr ?_
        cases hu : us' c with
        | none => rfl
        | some n =>
          obtain ⟨h2, _⟩ := husS c n hu
          obtain ⟨n', h3, _⟩ := hX.usle c n h2
          rw [h3] at e; simp at e
  · rcases hinv l c h with ⟨_, _, a3⟩ | ⟨_, a3⟩
    · exact hG.lmtk l t c a3
    · intro ht
      rcases hX.lmNew l c a3 with ⟨l0, e⟩ | e
      · exact hG.lmtk l0 t c (hide_lm e).2 ht
      · have := hG.tkltH ht; omega
  · rcases forgot_get ks env t with ⟨_, h2⟩ | ⟨h1, h2⟩
    · rw [h2]; exact .any _ _
    · rw [h2, hfr t h1]; exact (hE t).mono hule hkle
  · rcases hinv l c h with ⟨_, _, a3⟩ | ⟨_, a3⟩
    · exact .inl a3
    · rcases hN.lm l c a3 with e | e
      · exact .inl (hide_lm e).2
      · exact .inr e
end
end Go.Ev

namespace Go.Ev
open Go

section
variable {P : Program} {G : Nat → List Nat} {pure : FuncId → Bool} {call : CallF}

/-- What an exit of the evaluator's is: of a block, or to a label. -/
def exitOf (i : Nat) : Option Exit := if i < gKey then some (.exit i) else if i < doneK then some (.goto (i - gKey)) else none
theorem exitOf_lt {i : Nat} (h : i < gKey) : exitOf i = some (.exit i) := if_pos h
theorem exitOf_goto {l : Nat} (h : l < gKey) : exitOf (gKey + l) = some (.goto l) := by
  unfold exitOf
  rw [if_neg (by omega), if_pos (by simp only [gKey, doneK] at *; omega), Nat.add_sub_cancel_left]
theorem exitOf_ne {i : Nat} {e : Exit} (h : some e = exitOf i) : e ≠ .normal := by
  unfold exitOf at h
  split at h
  · simp only [Option.some.injEq] at h; rw [h]; simp
  · split at h
    · simp only [Option.some.injEq] at h; rw [h]; simp
    · simp at h
theorem exitOf_cases {i : Nat} {e : Exit} (h : some e = exitOf i) : (i < gKey ∧ e = .exit i) ∨ ∃ l, l < gKey ∧ i = gKey + l ∧ e = .goto l := by
  unfold exitOf at h
  split at h
  · next hi => simp only [Option.some.injEq] at h; exact .inl ⟨hi, h⟩
  · split at h
    · next h1 h2 => simp only [Option.some.injEq] at h; exact .inr ⟨i - gKey, by simp only [gKey, doneK] at *; omega, by omega, h⟩
    · simp at h

/-- How a piece of code ends. -/
def Ends (x : X) (us : Us) (w : World) (K : Kx) (st : St) (nt : Nat) (ds : List Deferred) (env' : Env) (st' : St) (e : Exit) (a' : Act) (w' : World) : Prop :=
  (match x with | .normal => e = .normal | .exit i => some e = exitOf i | .ret => e = .ret) ∧
  ∃ us' K', Ext us w K us' w' K' ∧ Good us' w' K' st' ∧ EnvRel us' w' K' env' a' ∧ nt ≤ a'.tmps.size ∧ a'.defers = ds ∧ NewK st.store.length st.tips.length K K' ∧ st.store.length ≤ st'.store.length ∧ st.tips.length ≤ st'.tips.length

theorem env_kept {ks : List IOp} {E : Nat → Env} {T : Nat → St} {V : Nat → AV} {ts : List Tmp} (ht : Trace pure call ks E T V) (hq : qOk ts ks = true) : ∀ i, i ≤ ks.length → ∀ t ∈ ts, (E i).get t = (E 0).get t
  | 0, _, _, _ => rfl
  | i + 1, hi, t, hm => by
    rw [(ht.step i hi).1, get_setD]
    have h1 := (List.all_eq_true.1 hq) ks[i] (List.getElem_mem hi)
    simp only [Bool.and_eq_true] at h1
    rw [if_neg]
    · exact env_kept ht hq i (by omega) t hm
    · intro e
      have h2 := h1.2
      rw [e] at h2
      simp at h2
      exact h2 hm

theorem plainEq_eq {a b : AV} (h : plainEq a b = true) : a = b := by
  unfold plainEq at h
  split at h
  · simp only [decide_eq_true_eq] at h
    rw [h.1, h.2]
  · simp only [beq_iff_eq] at h
    rw [h]
  · simp at h
theorem cellsAre_eq : ∀ {a b : List AV}, cellsAre a b = true → a = b
  | [], [], _ => rfl
  | [], _ :: _, h => by simp [cellsAre] at h
  | _ :: _, [], h => by simp [cellsAre] at h
  | a :: r, b :: s, h => by
    simp only [cellsAre, Bool.and_eq_true] at h
    rw [plainEq_eq h.1, cellsAre_eq h.2]
theorem putCells_same : ∀ (ys cs : List AV) (o : Nat), (cs.drop o).take ys.length = ys → putCells cs o ys = cs
  | [], _, _, _ => rfl
  | y :: r, cs, o, h => by
    have ho : o < cs.length := by
      rcases Nat.lt_or_ge o cs.length with h1 | h1
      · exact h1
      · rw [List.drop_eq_nil_of_le h1] at h; simp at h
    rw [List.drop_eq_getElem_cons ho, List.length_cons, List.take_succ_cons, List.cons.injEq] at h
    have hs : cs.set o y = cs := by rw [← h.1]; exact List.set_getElem_self ho
    show putCells (cs.set o y) (o + 1) r = cs
    rw [hs]
    exact putCells_same r cs (o + 1) h.2
theorem sameSt_store {s : Nat} {st st2 : St} {a x : AV} (h : sameSt st a x = true) (h2 : storeAV s st a x = some st2) : st2.store = st.store := by
  unfold sameSt at h
  split at h
  · rename_i l o
    split at h
    · rename_i cs hcs
      simp only [storeAV] at h2
      split at h2
      · rw [hcs] at h2
        simp only at h2
        split at h2
        · simp only [Option.some.injEq] at h2
          rw [← h2]
          simp only
          rw [putCells_same _ _ _ (cellsAre_eq h)]
          obtain ⟨hl, rfl⟩ := List.getElem?_eq_some_iff.1 hcs
          exact List.set_getElem_self hl
        · simp at h2
      · simp at h2
    · simp at h
  · simp at h

theorem store_kept {ks : List IOp} {E : Nat → Env} {T : Nat → St} {V : Nat → AV} {ts : List Tmp} (ht : Trace pure call ks E T V) (hq : qOk ts ks = true) {t : Tmp} {l o : Nat} (hm : t ∈ ts) (hp : (E 0).get t = .ptr l o) : ∀ i, i ≤ ks.length → (T i).store[l]? = (T 0).store[l]?
  | 0, _ => rfl
  | i + 1, hi => by
    have ih := store_kept ht hq hm hp i (by omega)
    rw [← ih]
    have h1 := (List.all_eq_true.1 hq) ks[i] (List.getElem_mem hi)
    simp only [Bool.and_eq_true] at h1
    have h1 := h1.1
    rcases (ht.step i hi).2 with ⟨_, hop⟩ | ⟨_, _, hop⟩
    · generalize ks[i].k = k at h1 hop
      cases k
      case storeq ts' s a x =>
        simp only [beq_iff_eq] at h1
        subst h1
        simp only [opAV] at hop
        split at hop
        · next hoff0 =>
          split at hop
          · rename_i st2 h2
            simp only [Option.some.injEq, Prod.mk.injEq] at hop
            obtain ⟨_, rfl⟩ := hop
            rcases hoff0 with hoff | hsame
            case inr => rw [sameSt_store hsame h2]
            cases hx : aval (E i) a <;> rw [hx] at h2 hoff <;> simp only [offB, Bool.false_eq_true] at hoff
            rename_i l' o'
            have h3 := (List.all_eq_true.1 hoff) t hm
            rw [env_kept ht hq i (by omega) t hm, hp] at h3
            simp only [bne_iff_ne, ne_eq] at h3
            simp only [storeAV] at h2
            split at h2
            · split at h2
              · split at h2
                · simp only [Option.some.injEq] at h2; rw [← h2]; exact List.getElem?_set_ne (fun e => h3 e.symm)
                · simp at h2
              · simp at h2
            · simp at h2
          · simp at hop
        · simp at hop
      case loadp ts' s ag a =>
        simp only [opAV, only] at hop
        split at hop
        · split at hop
          · simp only [Option.some.injEq, Prod.mk.injEq] at hop; rw [← hop.2]
          · simp at hop
        · simp at hop
      case load s ag a =>
        simp only [opAV, only] at hop
        split at hop
        · simp only [Option.some.injEq, Prod.mk.injEq] at hop; rw [← hop.2]
        · simp at hop
      all_goals first
        | (simp only [isVal, Bool.false_eq_true] at h1; done)
        | (rw [(opAV_val rfl hop).2])
    · rw [hop]

theorem prot_trace {ks : List IOp} {E : Nat → Env} {T : Nat → St} {V : Nat → AV} {ts : List Tmp} (ht : Trace pure call ks E T V) (hq : qOk ts ks = true) {i : Nat} (hi : i < ks.length) {ts' : List Tmp} {s : Nat} {ag : Bool} {x : Operand} (hk : ks[i].k = .loadp ts' s ag x) (hw : wantedAV (E i) ks[i].g = some true) :
    ∀ q, q ≤ ks.length → loadAV s ag (T q) (aval (E i) x) = loadAV s ag (T i) (aval (E i) x) := by
  intro q hqn
  have h1 := (List.all_eq_true.1 hq) ks[i] (List.getElem_mem hi)
  simp only [Bool.and_eq_true, hk, beq_iff_eq] at h1
  have h1 := h1.1
  subst h1
  rcases (ht.step i hi).2 with ⟨_, hop⟩ | ⟨h2, _⟩
  · rw [hk] at hop
    simp only [opAV] at hop
    split at hop
    · next hon =>
      cases hx : aval (E i) x <;> rw [hx] at hon <;> simp only [onB, Bool.false_eq_true] at hon
      case eptr e o => simp only [loadAV]
      rename_i l o
      obtain ⟨t, hm, h3⟩ := List.any_eq_true.1 hon
      rw [env_kept ht hq i (by omega) t hm] at h3
      split at h3
      · rename_i l' o' hp
        simp only [beq_iff_eq] at h3
        subst h3
        simp only [loadAV]
        rw [store_kept ht hq hm hp q hqn, store_kept ht hq hm hp i (by omega)]
      · simp at h3
    · simp at hop
  · rw [hw] at h2; simp at h2

theorem region_sound {mt : Mode} {nt : Nat} {ops : Array Oper} {draw : Bool} {id : Nat} {ks : List IOp} {ts : List Tmp} (hmix : P.follows .mixedOrders = true) (hc : compRegionQ P pure mt nt ts ops draw = some ks) (hm : CallMono pure call) (hcall : CallOk P G pure call) (hcs : CallStore pure call)
    {env env' : Env} {st st' : St} (hv : opsAV pure call ks env st = some (env', st')) {us : Us} {w : World} {K : Kx} {a : Act} (hgl : GlobOk G us w) (hgm : GlobOk mt.2.2.2 us w) (hG : Good us w K st) (hE : EnvRel us w K env a) (hs : nt ≤ a.tmps.size) {Q : Exit → Act → World → Prop}
    (hQ : ∀ a' w', (∀ t, (∀ i (h : i < ks.length), ks[i].d ≠ some t) → a'.tmps.getD t undef = a.tmps.getD t undef) → Ends .normal us w K st nt a.defers env' st' .normal a' w' → Q .normal a' w') : (Code.region id ops draw).wp P Q a w := by
  obtain ⟨E, T, V, ht, e0, t0, en, tn⟩ := trace_of hv
  have hcomp : ∃ pv rs ks0, ops.toList.mapM (compIOp P pure pv rs mt nt ops) = some ks0 ∧ (ks = ks0 ∨ ∃ ts, ks = ks0.map (protOp ts ks0) ∧ qOk ts ks = true) ∧ (draw = true → orderOk ops ks = true) := by
    unfold compRegionQ at hc
    split at hc
    · unfold compRegion at hc
      split at hc
      · exact ⟨_, _, _, hc, .inl rfl, fun h => by simp at h⟩
      · split at hc
        · rename_i l hl
          split at hc
          · next ho => simp only [Option.some.injEq] at hc; subst hc; exact ⟨_, _, _, hl, .inl rfl, fun _ => ho⟩
          · split at hc
            · rename_i l2 hl2
              split at hc
              · next ho => simp only [Option.some.injEq] at hc; subst hc; exact ⟨_, _, _, hl2, .inl rfl, fun _ => ho⟩
              · simp at hc
            · simp at hc
        · simp at hc
    · split at hc
      · rename_i l hl
        split at hc
        · next ho => simp only [Option.some.injEq] at hc; subst hc; exact ⟨_, _, _, hl, .inr ⟨_, rfl, ho.1⟩, fun _ => ho.2⟩
        · simp at hc
      · simp at hc
  obtain ⟨pv, rs, ks0, hmap, hks, hord⟩ := hcomp
  obtain ⟨hlen, hget⟩ := mapM_opt hmap
  have hl0 : ks.length = ks0.length := by
    rcases hks with rfl | ⟨ts, rfl, _⟩
    · rfl
    · simp
  have hlen' : ks.length = ops.size := by rw [hl0]; simpa using hlen
  have hcomp : ∀ i (h : i < ks.length), ∃ (pv rs : Bool) (mt : Mode) (o : Oper) (io : IOp), ops[i]? = some o ∧ compIOp P pure pv rs mt nt ops o = some io ∧ GlobOk mt.2.2.2 us w ∧ OpOf ks E T i io ks[i] := by
    intro i h
    have h2 : i < ops.size := by omega
    have h0 : i < ks0.length := by omega
    refine ⟨pv, rs, mt, ops[i], ks0[i], Array.getElem?_eq_getElem h2, by have := hget i (by simpa using h2) h0; rw [Array.getElem_toList] at this; exact this, hgm, ?_⟩
    rcases hks with rfl | ⟨ts, e, hq⟩
    · exact .inl rfl
    · have ek : ks[i] = protOp ts ks0 ks0[i] := by simp [e]
      have hpt := fun ts' s ag x (hk : ks[i].k = .loadp ts' s ag x) hw => prot_trace (i := i) ht hq h hk hw
      rw [ek] at hpt ⊢
      generalize ks0[i] = o at hpt
      obtain ⟨d, g, k⟩ := o
      cases k <;> try exact .inl rfl
      · rename_i s ag a
        cases a <;> try exact .inl rfl
        rename_i t
        simp only [protOp] at hpt ⊢
        split
        · next hc =>
          rw [if_pos hc] at hpt
          exact .inr (.inl ⟨ts, s, ag, .tmp t, rfl, rfl, hpt ts s ag (.tmp t) rfl⟩)
        · exact .inl rfl
      · rename_i s a x
        exact .inr (.inr ⟨ts, s, a, x, rfl, rfl⟩)
  have start : ∀ w1, Good us w1 K st → Ext us w K us w1 K → ∃ us' K' qS qT, Inv ks E T V nt (a.defers, fun t => a.tmps.getD t undef) us w K (fun _ => false) a w1 us' K' qS qT := by
    intro w1 hG1 hX1
    obtain ⟨qS, a1, a2, a3⟩ := exists_next (fun j => turnsS (ikAt ks j)) (fun _ => false) ks.length
    obtain ⟨qT, b1, b2, b3⟩ := exists_next (fun j => turnsT (ikAt ks j)) (fun _ => false) ks.length
    have pS := ht.pushS hm (i := 0) (Nat.zero_le qS) a1 (fun m hmn _ h2 => by
      cases h : turnsS ks[m].k with
      | false => rfl
      | true => exact absurd (a3 m h2 (by rw [ikAt_eq hmn]; exact h)) (by simp))
    have pT := ht.pushT hm (i := 0) (Nat.zero_le qT) b1 (fun m hmn _ h2 => by
      cases h : turnsT ks[m].k with
      | false => rfl
      | true => exact absurd (b3 m h2 (by rw [ikAt_eq hmn]; exact h)) (by simp))
    rw [t0] at pS pT
    obtain ⟨hG2, hX2⟩ := hG1.extend (S2 := ⟨(T qS).store, (T qT).tips⟩) pS pT
    refine ⟨us, _, qS, qT, hX1.trans hX2, hG2, fun t => ?_, a1, fun h => a2 h, a3, b1, fun h => b2 h, b3, fun i hi _ l h1 _ => ?_, fun i hi _ l h1 _ => ?_, hs, ⟨fun l c h => .inl h, fun t h => .inl h⟩, ⟨rfl, fun _ _ => rfl⟩⟩
    · rw [envOf_prefix ht 0 ks.length (Nat.zero_le _) (Nat.le_refl _) (fun j hj => absurd hj (by omega)) (fun _ _ _ => rfl), e0]
      exact (hE t).mono (hX1.trans hX2).usle (hX1.trans hX2).kle
    · cases hk : K.lm l with
      | none => rfl
      | some c =>
        have h2 := hG.lmlt l c hk
        have h3 := (ht.mono hm (Nat.zero_le i) (by omega)).1
        rw [t0] at h3
        omega
    · cases hk : K.tk l with
      | none => rfl
      | some c =>
        have h2 := hG.tklt l c hk
        have h3 := (ht.mono hm (Nat.zero_le i) (by omega)).2
        rw [t0] at h3
        omega
  have finish : ∀ a' w' us' K' qS qT D, (∀ i, i < ks.length → D i = true) → Inv ks E T V nt (a.defers, fun t => a.tmps.getD t undef) us w K D a' w' us' K' qS qT → Q .normal a' w' := by
    intro a' w' us' K' qS qT D hD h
    refine hQ a' w' h.defers.2 ⟨rfl, us', K', h.ext, ?_, ?_, h.size, h.defers.1, ?_, ?_, ?_⟩
    · have e1 : qS = ks.length := by
        rcases Nat.lt_or_ge qS ks.length with hlt | hge
        · have := (h.qS2 hlt).2
          rw [hD qS hlt] at this; exact absurd this (by simp)
        · have := h.qS1; omega
      have e2 : qT = ks.length := by
        rcases Nat.lt_or_ge qT ks.length with hlt | hge
        · have := (h.qT2 hlt).2
          rw [hD qT hlt] at this; exact absurd this (by simp)
        · have := h.qT1; omega
      have := h.good
      rw [e1, e2, tn] at this
      exact this
    · have := h.env
      rw [envOf_all ht ks.length (Nat.le_refl _) hD, en] at this
      exact this
    · have := h.new; rw [t0] at this; exact this
    · have := (ht.mono hm (Nat.zero_le ks.length) (Nat.le_refl _)).1; rw [t0, tn] at this; exact this
    · have := (ht.mono hm (Nat.zero_le ks.length) (Nat.le_refl _)).2; rw [t0, tn] at this; exact this
  cases draw with
  | false =>
    refine wp_region ?_
    have hok : Okay ks (List.range ops.size) (fun _ => false) := by
      have := okay_text (ks := ks) ks.length 0 (by omega)
      rw [hlen', ← List.range_eq_range'] at this
      exact Okay.congr (fun i _ => by simp) this
    exact region_any hcomp hgl ht hm hcall hcs finish _ _ a w hok (start w hG (.refl _ _ _))
  | true =>
    refine wp_region_draw (fun t => ?_)
    obtain ⟨hG1, hX1⟩ := hG.drew
    simp only [Region.schedule, hmix, Bool.true_or, if_true]
    exact region_any hcomp hgl ht hm hcall hcs finish _ _ a w.drew (okay_linearise hlen' (orderOk_spec hlen' (hord rfl)) t) (start w.drew hG1 hX1)

theorem Ends.ne {x : X} {us : Us} {w : World} {K : Kx} {st : St} {nt : Nat} {ds : List Deferred} {env2 : Env} {st2 : St} {e : Exit} {a2 : Act} {w2 : World} (h : Ends x us w K st nt ds env2 st2 e a2 w2) (hx : x ≠ .normal) : e ≠ .normal := by
  have := h.1
  cases x with
  | normal => exact absurd rfl hx
  | exit i => exact exitOf_ne this
  | ret => simp only at this; rw [this]; simp
theorem then_ne {next : Act → World → Prop} {Q : Exit → Act → World → Prop} {e : Exit} {a : Act} {w : World} (he : e ≠ .normal) (h : Q e a w) : Exit.then next Q e a w := by
  cases e <;> first | exact absurd rfl he | exact h

theorem Ends.trans {x : X} {us us1 : Us} {w w1 : World} {K K1 : Kx} {st st1 st2 : St} {nt : Nat} {ds : List Deferred} {env2 : Env} {e : Exit} {a2 : Act} {w2 : World} (hX : Ext us w K us1 w1 K1) (hN : NewK st.store.length st.tips.length K K1) (hl : st.store.length ≤ st1.store.length) (hl' : st.tips.length ≤ st1.tips.length)
    (h : Ends x us1 w1 K1 st1 nt ds env2 st2 e a2 w2) : Ends x us w K st nt ds env2 st2 e a2 w2 := by
  obtain ⟨h1, us', K', h2, h3, h4, h5, h6, h7, h8, h9⟩ := h
  exact ⟨h1, us', K', hX.trans h2, h3, h4, h5, h6, hN.trans h7 hl hl', by omega, by omega⟩

/-- What is shown of a piece of code. -/
def CodeOk (P : Program) (G : Nat → List Nat) (nt : Nat) (c : Code) (body : Env → St → Out) : Prop :=
  ∀ env st x env' st', body env st = some (x, env', st') → ∀ us w K a, GlobOk G us w → Good us w K st → EnvRel us w K env a → nt ≤ a.tmps.size →
    ∀ Q : Exit → Act → World → Prop, (∀ e a' w', Ends x us w K st nt a.defers env' st' e a' w' → Q e a' w') → c.wp P Q a w

theorem loop_sound {nt : Nat} {c : Code} (gc : Bool) (keep : List Tmp) (body : Env → St → Out) (hb : CodeOk P G nt c body) (n : Nat) :
    CodeOk P G nt (.loop c) (fun env st => loopAV (fun env' st' => body (gcAV gc st.store.length st.tips.length (canon env' keep) st').1 (gcAV gc st.store.length st.tips.length (canon env' keep) st').2) n env st) := by
  intro env0 st0 x env' st' hv us0 w0 K0 a0 hgl0 hG0 hE0 hs0 Q hQ b k cs
  have key : ∀ (n : Nat) (env : Env) (st : St), loopAV (fun env' st' => body (gcAV gc st0.store.length st0.tips.length (canon env' keep) st').1 (gcAV gc st0.store.length st0.tips.length (canon env' keep) st').2) n env st = some (x, env', st') →
      ∀ us w K a, Ext us0 w0 K0 us w K → NewK st0.store.length st0.tips.length K0 K → st0.store.length ≤ st.store.length → st0.tips.length ≤ st.tips.length → Good us w K st → EnvRel us w K env a → nt ≤ a.tmps.size → a.defers = a0.defers →
      ∃ e a' w', Q e a' w' ∧ Arrives P (lone (b.at a (.code c :: .inLoop c :: k)) cs w) b k cs e a' w' := by
    intro n
    induction n with
    | zero => intro env st h; simp [loopAV] at h
    | succ n ih =>
      intro env st h us w K a hX hN hl1 hl2 hG hE hs hd
      obtain ⟨K2, g1, g2, g3, g4⟩ := gcAV_good (gc := gc) hG0 hX hN hl1 hl2 hG (canon_rel hE keep)
      have hlens : st0.store.length ≤ (gcAV gc st0.store.length st0.tips.length (canon env keep) st).2.store.length ∧ st0.tips.length ≤ (gcAV gc st0.store.length st0.tips.length (canon env keep) st).2.tips.length := by
        exact gcAV_len' gc (canon env keep) hl1 hl2
      simp only [loopAV] at h
      generalize hgs : gcAV gc st0.store.length st0.tips.length (canon env keep) st = gs at h g1 g2 hlens
      split at h
      · rename_i env1 st1 hbody
        have hwp := hb _ _ _ _ _ hbody us w K2 a (hgl0.mono g3.usle) g1 g2 hs (fun e a' w' => Ends .normal us w K2 gs.2 nt a.defers env1 st1 e a' w') (fun _ _ _ h => h)
        obtain ⟨e, a1, w1, hends, harr⟩ := hwp b (.inLoop c :: k) cs
        obtain ⟨rfl, us1, K1, h2, h3, h4, h5, h6, h7, h8, h9⟩ := hends
        obtain ⟨e2, a2, w2, hq2, harr2⟩ := ih env1 st1 h us1 w1 K1 a1 (g3.trans h2) (g4.trans h7 hlens.1 hlens.2) (by omega) (by omega) h3 h4 h5 (h6.trans hd)
        exact ⟨e2, a2, w2, hq2, .of_steps (Steps.trans harr (.one step_inLoop)) harr2⟩
      · rename_i hne
        have hbody : body gs.1 gs.2 = some (x, env', st') := h
        have hx : x ≠ .normal := by
          intro hx
          subst hx
          exact hne env' st' hbody
        have hwp := hb _ _ _ _ _ hbody us w K2 a (hgl0.mono g3.usle) g1 g2 hs (fun e a' w' => Ends x us w K2 gs.2 nt a.defers env' st' e a' w') (fun _ _ _ h => h)
        obtain ⟨e, a1, w1, hends, harr⟩ := hwp b (.inLoop c :: k) cs
        have hends0 : Ends x us0 w0 K0 st0 nt a0.defers env' st' e a1 w1 := by
          rw [← hd]
          exact hends.trans g3 g4 hlens.1 hlens.2
        have hene : e ≠ .normal := hends.ne hx
        exact ⟨e, a1, w1, hQ e a1 w1 hends0, .pass (x := .inLoop c) rfl (fun _ _ => .inl hene) harr⟩
  obtain ⟨e, a', w', hq, harr⟩ := key n env0 st0 hv us0 w0 K0 a0 (.refl _ _ _) (.refl _ _ _) (Nat.le_refl _) (Nat.le_refl _) hG0 hE0 hs0 rfl
  exact ⟨e, a', w', hq, .of_steps (.one step_loop) harr⟩

/-! ## gotos -/

/-- What is shown of the code that some items stand for. -/
def ItemsOk (P : Program) (G : Nat → List Nat) (nt : Nat) (r : List Item → List Item) (body : Env → St → Out) : Prop :=
  ∀ env st x env' st', body env st = some (x, env', st') → ∀ us w K a, GlobOk G us w → Good us w K st → EnvRel us w K env a → nt ≤ a.tmps.size →
    ∀ (b : Frame) (k : List Item) (cs : List Frame), ∃ e a' w', Ends x us w K st nt a.defers env' st' e a' w' ∧ Arrives P (lone (b.at a (r k)) cs w) b k cs e a' w'
/-- What is shown of a code up to a place in it. -/
def PreOk (P : Program) (G : Nat → List Nat) (nt : Nat) (r : List Item → List Item) (c : Code) (body : Env → St → Out) : Prop :=
  ∀ env st x env' st', body env st = some (x, env', st') → ∀ us w K a, GlobOk G us w → Good us w K st → EnvRel us w K env a → nt ≤ a.tmps.size →
    ∀ (b : Frame) (k : List Item) (cs : List Frame), ∃ e a' w', Ends x us w K st nt a.defers env' st' e a' w' ∧
      (x = .normal → Steps P (lone (b.at a (.code c :: k)) cs w) (lone (b.at a' (r k)) cs w')) ∧ (x ≠ .normal → Arrives P (lone (b.at a (.code c :: k)) cs w) b k cs e a' w')
structure Parts (P : Program) (G : Nat → List Nat) (nt : Nat) (c : Code) (l : Nat) (fA fQ : Env → St → Out) : Prop where
  ex : ∃ (q : Code) (r : List Item → List Item), findLabel c l = some q ∧ (∀ (a : Act) (w : World) (b : Frame) (k : List Item) (cs : List Frame), Steps P (lone (b.at a (.code q :: k)) cs w) (lone (b.at a (r k)) cs w)) ∧ ItemsOk P G nt r fQ ∧ PreOk P G nt r c fA

theorem CodeOk.items {nt : Nat} {c : Code} {body : Env → St → Out} (h : CodeOk P G nt c body) : ItemsOk P G nt (fun k => .code c :: k) body := by
  intro env st x env' st' hv us w K a hgl hG hE hs b k cs
  exact h env st x env' st' hv us w K a hgl hG hE hs (fun e a' w' => Ends x us w K st nt a.defers env' st' e a' w') (fun _ _ _ h => h) b k cs

theorem Parts.label {nt : Nat} {n : Nat} (l : Nat) : Parts P G nt (.label l) l (fun env st => codeAV pure call (fun body => loopAV body n) .skip env st) (fun env st => codeAV pure call (fun body => loopAV body n) .skip env st) := by
  refine ⟨.skip, fun k => k, by simp [findLabel], fun a w b k cs => .one step_skip, ?_, ?_⟩
  · intro env st x env' st' hv us w K a hgl hG hE hs b k cs
    simp only [codeAV, Option.some.injEq, Prod.mk.injEq] at hv
    obtain ⟨rfl, rfl, rfl⟩ := hv
    exact ⟨.normal, a, w, ⟨rfl, us, K, .refl _ _ _, hG, hE, hs, rfl, .refl _ _ _, Nat.le_refl _, Nat.le_refl _⟩, Steps.refl _ _⟩
  · intro env st x env' st' hv us w K a hgl hG hE hs b k cs
    simp only [codeAV, Option.some.injEq, Prod.mk.injEq] at hv
    obtain ⟨rfl, rfl, rfl⟩ := hv
    exact ⟨.normal, a, w, ⟨rfl, us, K, .refl _ _ _, hG, hE, hs, rfl, .refl _ _ _, Nat.le_refl _, Nat.le_refl _⟩, fun _ => .one step_label, fun h => absurd rfl h⟩

/-- One piece of code behind another. -/
theorem ItemsOk.seq {nt : Nat} {r r2 : List Item → List Item} {f1 f2 : Env → St → Out} (h1 : ItemsOk P G nt r f1) (h2 : ItemsOk P G nt r2 f2) (it : Item) (hr2 : ∀ k, r2 k = it :: k) (hpass : ∀ {m : Machine} {b : Frame} {k : List Item} {cs : List Frame} {e : Exit} {a : Act} {w : World}, e ≠ .normal → Arrives P m b (it :: k) cs e a w → Arrives P m b k cs e a w) :
    ItemsOk P G nt (fun k => r (it :: k)) (fun env st => match f1 env st with | some (.normal, env, st) => f2 env st | r => r) := by
  intro env st x env' st' hv us w K a hgl hG hE hs b k cs
  simp only at hv
  split at hv
  · rename_i e1 s1 hv1
    obtain ⟨e, a1, w1, hends, harr⟩ := h1 env st _ _ _ hv1 us w K a hgl hG hE hs b (it :: k) cs
    obtain ⟨rfl, us1, K1, g1, g2, g3, g4, g5, g6, g7, g8⟩ := hends
    obtain ⟨e, a2, w2, hends2, harr2⟩ := h2 e1 s1 x env' st' hv us1 w1 K1 a1 (hgl.mono g1.usle) g2 g3 g4 b k cs
    rw [hr2] at harr2
    refine ⟨e, a2, w2, ?_, .of_steps harr harr2⟩
    rw [← g5]
    exact hends2.trans g1 g6 g7 g8
  · rename_i hne
    obtain ⟨e, a1, w1, hends, harr⟩ := h1 env st x env' st' hv us w K a hgl hG hE hs b (it :: k) cs
    have hx : x ≠ .normal := by intro hx; subst hx; exact hne _ _ hv
    exact ⟨e, a1, w1, hends, hpass (hends.ne hx) harr⟩

theorem pass_code {c : Code} {m : Machine} {b : Frame} {k : List Item} {cs : List Frame} {e : Exit} {a : Act} {w : World} (he : e ≠ .normal) (h : Arrives P m b (.code c :: k) cs e a w) : Arrives P m b k cs e a w :=
  .pass (x := .code c) rfl (fun _ _ => .inl he) h

theorem Parts.left {nt : Nat} {c1 c2 : Code} {l : Nat} {fA : Env → St → Out} {n : Nat} {iq i2 : IC} (h : Parts P G nt c1 l fA (fun env st => codeAV pure call (fun body => loopAV body n) iq env st)) (h2 : CodeOk P G nt c2 (fun env st => codeAV pure call (fun body => loopAV body n) i2 env st)) :
    Parts P G nt (.seq c1 c2) l fA (fun env st => codeAV pure call (fun body => loopAV body n) (.seq iq i2) env st) := by
  obtain ⟨q, r, f, s, i, p⟩ := h.ex
  refine ⟨.seq q c2, fun k => r (.code c2 :: k), by simp [findLabel, f], fun a w b k cs => .head step_seq (s a w b (.code c2 :: k) cs), ?_, ?_⟩
  · exact i.seq h2.items (.code c2) (fun _ => rfl) (fun he h => pass_code he h)
  · intro env st x env' st' hv us w K a hgl hG hE hs b k cs
    obtain ⟨e, a1, w1, hends, h3, h4⟩ := p env st x env' st' hv us w K a hgl hG hE hs b (.code c2 :: k) cs
    exact ⟨e, a1, w1, hends, fun hx => .head step_seq (h3 hx), fun hx => .of_steps (.one step_seq) (pass_code (hends.ne hx) (h4 hx))⟩

theorem Parts.right {nt : Nat} {c1 c2 : Code} {l : Nat} {fQ : Env → St → Out} {n : Nat} {ia i1 : IC} (h : Parts P G nt c2 l (fun env st => codeAV pure call (fun body => loopAV body n) ia env st) fQ) (h1 : CodeOk P G nt c1 (fun env st => codeAV pure call (fun body => loopAV body n) i1 env st)) (hn : findLabel c1 l = none) :
    Parts P G nt (.seq c1 c2) l (fun env st => codeAV pure call (fun body => loopAV body n) (.seq i1 ia) env st) fQ := by
  obtain ⟨q, r, f, s, i, p⟩ := h.ex
  refine ⟨q, r, by simp [findLabel, hn, f], s, i, ?_⟩
  intro env st x env' st' hv us w K a hgl hG hE hs b k cs
  simp only [codeAV] at hv
  split at hv
  · rename_i e1 s1 hv1
    obtain ⟨e, a1, w1, hends, harr⟩ := h1.items env st _ _ _ hv1 us w K a hgl hG hE hs b (.code c2 :: k) cs
    obtain ⟨rfl, us1, K1, g1, g2, g3, g4, g5, g6, g7, g8⟩ := hends
    obtain ⟨e, a2, w2, hends2, h3, h4⟩ := p e1 s1 x env' st' hv us1 w1 K1 a1 (hgl.mono g1.usle) g2 g3 g4 b k cs
    refine ⟨e, a2, w2, ?_, fun hx => .head step_seq (Steps.trans harr (h3 hx)), fun hx => .of_steps (.head step_seq harr) (h4 hx)⟩
    rw [← g5]
    exact hends2.trans g1 g6 g7 g8
  · rename_i hne
    obtain ⟨e, a1, w1, hends, harr⟩ := h1.items env st x env' st' hv us w K a hgl hG hE hs b (.code c2 :: k) cs
    have hx : x ≠ .normal := by intro hx; subst hx; exact hne _ _ hv
    exact ⟨e, a1, w1, hends, fun h => absurd h hx, fun _ => .of_steps (.one step_seq) (pass_code (hends.ne hx) harr)⟩

theorem findLabel_none {keep : Nat → List Tmp} {gc : Bool} {nt l : Nat} : ∀ {c : Code} {b : Nat} {ic : IC}, compC P pure keep gc nt b c = some ic → splitIC c ic l = none → findLabel c l = none
  | .seq c1 c2, b, ic, hc, h => by
    simp only [compC] at hc
    split at hc
    · rename_i i1 i2 h1 h2
      simp only [Option.some.injEq] at hc; subst hc
      simp only [splitIC] at h
      split at h
      · simp at h
      · rename_i hn
        split at h
        · simp at h
        · rename_i hn2
          simp only [findLabel, findLabel_none h1 hn]
          exact findLabel_none h2 hn2
    · simp at hc
  | .label l', b, ic, hc, h => by
    simp only [compC, Option.some.injEq] at hc; subst hc
    simp only [splitIC] at h
    split at h
    · simp at h
    · next hne => simp [findLabel, hne]
  | .skip, _, _, _, _ => rfl
  | .region _ _ _, _, _, _, _ => rfl
  | .cond _ _ _, _, _, _, _ => rfl
  | .block _ _, _, _, _, _ => rfl
  | .loop _, _, _, _, _ => rfl
  | .rangeFunc _ _ _ _, _, _, _, _ => rfl
  | .exit _, _, _, _, _ => rfl
  | .scope _, _, _, _, _ => rfl
  | .goto _, _, _, _, _ => rfl
  | .ret, _, _, _, _ => rfl
  | .refuse _, _, _, _, _ => rfl

theorem spine_find {l : Nat} : ∀ {c : Code} {q : Code}, findLabel c l = some q → l ∈ spine c
  | .seq c1 c2, q, h => by
    simp only [findLabel] at h
    simp only [spine, List.mem_append]
    split at h
    · rename_i r hr; exact .inl (spine_find hr)
    · exact .inr (spine_find h)
  | .label l', q, h => by
    simp only [findLabel] at h
    split at h
    · next e => simp at e; simp [spine, e]
    · simp at h
  | .skip, _, h => by simp [findLabel] at h
  | .region _ _ _, _, h => by simp [findLabel] at h
  | .cond _ _ _, _, h => by simp [findLabel] at h
  | .block _ _, _, h => by simp [findLabel] at h
  | .loop _, _, h => by simp [findLabel] at h
  | .rangeFunc _ _ _ _, _, h => by simp [findLabel] at h
  | .exit _, _, h => by simp [findLabel] at h
  | .scope _, _, h => by simp [findLabel] at h
  | .goto _, _, h => by simp [findLabel] at h
  | .ret, _, h => by simp [findLabel] at h
  | .refuse _, _, h => by simp [findLabel] at h

theorem loopAV_exit {body : Env → St → Out} {x : X} : ∀ (n : Nat) {env : Env} {st : St} {env' : Env} {st' : St}, loopAV body n env st = some (x, env', st') → x ≠ .normal ∧ ∃ e s, body e s = some (x, env', st')
  | 0, _, _, _, _, h => by simp [loopAV] at h
  | n + 1, env, st, env', st', h => by
    simp only [loopAV] at h
    split at h
    · exact loopAV_exit n h
    · rename_i hne
      refine ⟨?_, env, st, h⟩
      intro hx; subst hx
      exact hne _ _ h

theorem nogoto {keep : Nat → List Tmp} {gc : Bool} {nt : Nat} (n : Nat) : ∀ (c : Code) (b : Nat) (ic : IC), compC P pure keep gc nt b c = some ic → hasGoto c = false →
    ∀ env st i env' st', codeAV pure call (fun body => loopAV body n) ic env st = some (.exit i, env', st') → i < gKey := by
  intro c
  induction c with
  | skip => intro b ic hc _ env st i env' st' hv; simp only [compC, Option.some.injEq] at hc; subst hc; simp [codeAV] at hv
  | region id ops draw =>
    intro b ic hc _ env st i env' st' hv
    simp only [compC] at hc
    obtain ⟨ks, _, hc⟩ := Option.map_eq_some_iff.1 hc
    split at hc
    · split at hc
      · subst hc
        simp only [codeAV] at hv
        split at hv <;> simp at hv
      · subst hc
        simp only [codeAV] at hv
        split at hv
        · split at hv <;> simp at hv
        · simp at hv
    · split at hc
      · subst hc
        simp only [codeAV] at hv
        split at hv <;> simp at hv
      · split at hc
        · subst hc
          simp only [codeAV] at hv
          split at hv <;> simp at hv
        · subst hc
          simp only [codeAV] at hv
          split at hv <;> simp at hv
  | seq c1 c2 ih1 ih2 =>
    intro b ic hc hg env st i env' st' hv
    simp only [hasGoto, Bool.or_eq_false_iff] at hg
    simp only [compC] at hc
    split at hc
    · rename_i i1 i2 h1 h2
      simp only [Option.some.injEq] at hc; subst hc
      simp only [codeAV] at hv
      split at hv
      · exact ih2 b i2 h2 hg.2 _ _ i env' st' hv
      · exact ih1 b i1 h1 hg.1 _ _ i env' st' hv
    · simp at hc
  | cond x c1 c2 ih1 ih2 =>
    intro b ic hc hg env st i env' st' hv
    simp only [hasGoto, Bool.or_eq_false_iff] at hg
    simp only [compC] at hc
    split at hc
    · rename_i i1 i2 h1 h2
      simp only [Option.some.injEq] at hc; subst hc
      simp only [codeAV] at hv
      split at hv
      · split at hv
        · exact ih1 b i1 h1 hg.1 _ _ i env' st' hv
        · exact ih2 b i2 h2 hg.2 _ _ i env' st' hv
      · simp at hv
    · simp at hc
  | block j c ih =>
    intro b ic hc hg env st i env' st' hv
    simp only [hasGoto] at hg
    simp only [compC] at hc
    split at hc
    · obtain ⟨i1, h1, rfl⟩ := Option.map_eq_some_iff.1 hc
      simp only [codeAV] at hv
      split at hv
      · rename_i j' e1 s1 hv1
        split at hv
        · simp at hv
        · simp only [Option.some.injEq, Prod.mk.injEq, X.exit.injEq] at hv
          obtain ⟨rfl, _, _⟩ := hv
          exact ih j i1 h1 hg _ _ _ _ _ hv1
      · rename_i hne
        exact absurd hv (hne i _ _)
    · simp at hc
  | loop c ih =>
    intro b ic hc hg env st i env' st' hv
    simp only [hasGoto] at hg
    simp only [compC] at hc
    obtain ⟨i1, h1, rfl⟩ := Option.map_eq_some_iff.1 hc
    simp only [codeAV] at hv
    obtain ⟨_, e, s, h2⟩ := loopAV_exit n hv
    exact ih b i1 h1 hg _ _ _ _ _ h2
  | exit j =>
    intro b ic hc _ env st i env' st' hv
    simp only [compC] at hc
    split at hc
    · next hj =>
      simp only [Option.some.injEq] at hc; subst hc
      simp only [codeAV, Option.some.injEq, Prod.mk.injEq, X.exit.injEq] at hv
      omega
    · simp at hc
  | ret => intro b ic hc _ env st i env' st' hv; simp only [compC, Option.some.injEq] at hc; subst hc; simp [codeAV] at hv
  | rangeFunc _ _ _ _ _ _ => intro b ic hc; simp [compC] at hc
  | scope c ih =>
    intro b ic hc hg env st i env' st' hv
    simp only [hasGoto] at hg
    simp only [compC] at hc
    split at hc
    · rename_i ix h1
      rw [if_neg (by rw [hg]; simp)] at hc
      simp only [Option.some.injEq] at hc; subst hc
      exact ih b ix h1 hg _ _ _ _ _ hv
    · simp at hc
  | label _ => intro b ic hc _ env st i env' st' hv; simp only [compC, Option.some.injEq] at hc; subst hc; simp [codeAV] at hv
  | goto _ => intro b ic hc hg; simp [hasGoto] at hg
  | refuse _ => intro b ic hc; simp [compC] at hc

theorem pass_scope {c : Code} {m : Machine} {b : Frame} {k : List Item} {cs : List Frame} {e : Exit} {a : Act} {w : World} (he : e ≠ .normal) (hg : ∀ l, e = .goto l → findLabel c l = none) (h : Arrives P m b (.inScope c :: k) cs e a w) : Arrives P m b k cs e a w := by
  cases e with
  | normal => exact absurd rfl he
  | exit id => exact fun k' hk => h k' (by simp [exitTo, hk])
  | goto l => exact fun k' hk => h k' (by simp [gotoIn, hg l rfl, hk])
  | ret => exact h
  | panic ch => exact h
  | outgrown => exact h

/-- One round of a scope from its first label on. -/
theorem round_inv {lf : LoopF} {l1 l0 : Nat} {iq1 iq0 : IC} {env env' : Env} {st st' : St} {x : X} (h10 : l1 ≠ l0) (hl1 : l1 < gKey) (hl0 : l0 < gKey)
    (h : codeAV pure call lf (.block (gKey + l1) (.seq (.block (gKey + l0) (.seq iq1 (.exit doneK))) (.seq iq0 (.exit doneK)))) env st = some (x, env', st')) :
    ∃ y e1 s1, codeAV pure call lf iq1 env st = some (y, e1, s1) ∧
      ((y = .normal ∧ x = .exit doneK ∧ e1 = env' ∧ s1 = st') ∨ (y = .exit (gKey + l1) ∧ x = .normal ∧ e1 = env' ∧ s1 = st') ∨
       (y = .exit (gKey + l0) ∧ ∃ z, codeAV pure call lf iq0 e1 s1 = some (z, env', st') ∧ ((z = .normal ∧ x = .exit doneK) ∨ (z = .exit (gKey + l1) ∧ x = .normal) ∨ (z ≠ .normal ∧ z ≠ .exit (gKey + l1) ∧ x = z))) ∨
       (y ≠ .normal ∧ y ≠ .exit (gKey + l1) ∧ y ≠ .exit (gKey + l0) ∧ x = y ∧ e1 = env' ∧ s1 = st')) := by
  have d1 : doneK ≠ gKey + l1 := by simp only [gKey, doneK] at *; omega
  have d0 : doneK ≠ gKey + l0 := by simp only [gKey, doneK] at *; omega
  have d2 : gKey + l1 ≠ gKey + l0 := by omega
  have hseq0 : ∀ e s, codeAV pure call lf (.seq iq0 (.exit doneK)) e s = match codeAV pure call lf iq0 e s with | some (.normal, e, s) => some (.exit doneK, e, s) | r => r := by
    intro e s
    cases h : codeAV pure call lf iq0 e s with
    | none => simp [codeAV, h]
    | some p => obtain ⟨y, e, s⟩ := p; cases y <;> simp [codeAV, h]
  have hseq1 : ∀ e s, codeAV pure call lf (.seq iq1 (.exit doneK)) e s = match codeAV pure call lf iq1 e s with | some (.normal, e, s) => some (.exit doneK, e, s) | r => r := by
    intro e s
    cases h : codeAV pure call lf iq1 e s with
    | none => simp [codeAV, h]
    | some p => obtain ⟨y, e, s⟩ := p; cases y <;> simp [codeAV, h]
  rw [codeAV, codeAV, codeAV, hseq1] at h
  cases h1 : codeAV pure call lf iq1 env st with
  | none => simp [h1] at h
  | some p =>
    obtain ⟨y, e1, s1⟩ := p
    rw [h1] at h
    refine ⟨y, e1, s1, rfl, ?_⟩
    cases y with
    | normal =>
      simp only [if_neg d0, if_neg d1, Option.some.injEq, Prod.mk.injEq] at h
      exact .inl ⟨rfl, h.1.symm, h.2.1, h.2.2⟩
    | ret =>
      simp only [Option.some.injEq, Prod.mk.injEq] at h
      exact .inr (.inr (.inr ⟨by simp, by simp, by simp, h.1.symm, h.2.1, h.2.2⟩))
    | exit i =>
      simp only at h
      by_cases e0 : i = gKey + l0
      · subst e0
        simp only [if_true] at h
        rw [hseq0] at h
        refine .inr (.inr (.inl ⟨rfl, ?_⟩))
        cases h2 : codeAV pure call lf iq0 e1 s1 with
        | none => simp [h2] at h
        | some p =>
          obtain ⟨z, e2, s2⟩ := p
          rw [h2] at h
          cases z with
          | normal =>
            simp only [if_neg d1, Option.some.injEq, Prod.mk.injEq] at h
            obtain ⟨rfl, rfl, rfl⟩ := h
            exact ⟨_, rfl, .inl ⟨rfl, rfl⟩⟩
          | ret =>
            simp only [Option.some.injEq, Prod.mk.injEq] at h
            obtain ⟨rfl, rfl, rfl⟩ := h
            exact ⟨_, rfl, .inr (.inr ⟨by simp, by simp, rfl⟩)⟩
          | exit j =>
            simp only at h
            split at h
            · next e =>
              simp only [Option.some.injEq, Prod.mk.injEq] at h
              obtain ⟨rfl, rfl, rfl⟩ := h
              exact ⟨_, rfl, .inr (.inl ⟨by rw [e], rfl⟩)⟩
            · next e =>
              simp only [Option.some.injEq, Prod.mk.injEq] at h
              obtain ⟨rfl, rfl, rfl⟩ := h
              exact ⟨_, rfl, .inr (.inr ⟨by simp, by simpa using e, rfl⟩)⟩
      · simp only [if_neg e0] at h
        split at h
        · next e =>
          simp only [Option.some.injEq, Prod.mk.injEq] at h
          exact .inr (.inl ⟨by rw [e], h.1.symm, h.2.1, h.2.2⟩)
        · next e =>
          simp only [Option.some.injEq, Prod.mk.injEq] at h
          exact .inr (.inr (.inr ⟨by simp, by simpa using e, by simpa using e0, h.1.symm, h.2.1, h.2.2⟩))

theorem scope_sound {nt : Nat} {keep : Nat → List Tmp} {gc : Bool} (n : Nat) {c : Code} {ix ic : IC}
    (hp : ∀ l ia iq, splitIC c ix l = some (ia, iq) → Parts P G nt c l (fun env st => codeAV pure call (fun body => loopAV body n) ia env st) (fun env st => codeAV pure call (fun body => loopAV body n) iq env st))
    (hc : scopeIC gc keep c ix = some ic) : CodeOk P G nt (.scope c) (fun env st => codeAV pure call (fun body => loopAV body n) ic env st) := by
  unfold scopeIC at hc
  split at hc
  case h_2 => simp at hc
  rename_i l1 l0 hsp
  split at hc
  case h_2 => simp at hc
  rename_i ia iq1 ia0 iq0 hs1 hs0
  split at hc
  case isFalse => simp at hc
  rename_i hcond
  obtain ⟨h10, hl1, hl0⟩ := hcond
  simp only [Option.some.injEq] at hc
  subst hc
  obtain ⟨q1, r1, f1, s1, i1, p1⟩ := (hp l1 ia iq1 hs1).ex
  obtain ⟨q0, r0, f0, s0, i0, p0⟩ := (hp l0 ia0 iq0 hs0).ex
  generalize keep (2100000 + l1) = ks
  intro env0 st0 x env' st' hv us0 w0 K0 a0 hgl0 hG0 hE0 hs0' Q hQ b k cs
  have hlab : ∀ l, l ≠ l1 → l ≠ l0 → findLabel c l = none := by
    intro l e1 e0
    cases h : findLabel c l with
    | none => rfl
    | some q =>
      have := spine_find h
      rw [hsp] at this
      simp at this
      omega
  have hpass : ∀ {m : Machine} {e : Exit} {a : Act} {w : World} {y : X} {us : Us} {w1 : World} {K : Kx} {st : St} {ds : List Deferred} {env2 : Env} {st2 : St}, Ends y us w1 K st nt ds env2 st2 e a w → y ≠ .normal → y ≠ .exit (gKey + l1) → y ≠ .exit (gKey + l0) → Arrives P m b (.inScope c :: k) cs e a w → Arrives P m b k cs e a w := by
    intro m e a w y us w1 K st ds env2 st2 hends h1 h2 h3 harr
    refine pass_scope (hends.ne h1) (fun l hl => ?_) harr
    subst hl
    have he := hends.1
    cases y with
    | normal => exact absurd rfl h1
    | ret => simp at he
    | exit i =>
      rcases exitOf_cases he with ⟨_, e⟩ | ⟨l', _, rfl, e⟩
      · simp at e
      · simp only [Exit.goto.injEq] at e
        subst e
        exact hlab l (fun e => h2 (by rw [e])) (fun e => h3 (by rw [e]))
  have land : ∀ {m : Machine} {e : Exit} {a : Act} {w : World} {l : Nat} {q : Code} {r : List Item → List Item} {us : Us} {w1 : World} {K : Kx} {st : St} {ds : List Deferred} {env2 : Env} {st2 : St}, l < gKey → findLabel c l = some q → (∀ (a : Act) (w : World) (b : Frame) (k : List Item) (cs : List Frame), Steps P (lone (b.at a (.code q :: k)) cs w) (lone (b.at a (r k)) cs w)) →
      Ends (.exit (gKey + l)) us w1 K st nt ds env2 st2 e a w → Arrives P m b (.inScope c :: k) cs e a w → Steps P m (lone (b.at a (r (.inScope c :: k))) cs w) := by
    intro m e a w l q r us w1 K st ds env2 st2 hl hf hst hends harr
    have he := hends.1
    simp only [exitOf_goto hl, Option.some.injEq] at he
    subst he
    exact Steps.trans (harr _ (by simp [gotoIn, hf])) (hst a w b _ cs)
  have key : ∀ (m : Nat) (env : Env) (st : St) (y : X) (stL : St) (usL : Us) (wL : World) (KL : Kx), Good usL wL KL stL → Ext us0 w0 K0 usL wL KL → NewK st0.store.length st0.tips.length K0 KL → st0.store.length ≤ stL.store.length → st0.tips.length ≤ stL.tips.length →
      loopAV (fun e s => codeAV pure call (fun body => loopAV body n) (.block (gKey + l1) (.seq (.block (gKey + l0) (.seq iq1 (.exit doneK))) (.seq iq0 (.exit doneK)))) (gcAV gc stL.store.length stL.tips.length (canon e ks) s).1 (gcAV gc stL.store.length stL.tips.length (canon e ks) s).2) m env st = some (y, env', st') →
      ∀ us w K a, Ext usL wL KL us w K → NewK stL.store.length stL.tips.length KL K → stL.store.length ≤ st.store.length → stL.tips.length ≤ st.tips.length → Good us w K st → EnvRel us w K env a → nt ≤ a.tmps.size → a.defers = a0.defers →
      (y = .exit doneK → ∃ a' w', Ends .normal us0 w0 K0 st0 nt a0.defers env' st' .normal a' w' ∧ Steps P (lone (b.at a (r1 (.inScope c :: k))) cs w) (lone (b.at a' (.inScope c :: k)) cs w')) ∧
      (y ≠ .exit doneK → y ≠ .exit (gKey + l0) → ∃ e a' w', Ends y us0 w0 K0 st0 nt a0.defers env' st' e a' w' ∧ Arrives P (lone (b.at a (r1 (.inScope c :: k))) cs w) b k cs e a' w') := by
    intro m
    induction m with
    | zero => intro env st y stL usL wL KL _ _ _ _ _ h; simp [loopAV] at h
    | succ m ih =>
      intro env st y stL usL wL KL hGL hXL hNL hLl hLt h us w K a hX hN hm1 hm2 hG hE hs hd
      obtain ⟨K2, g1, g2, g3, g4⟩ := gcAV_good (gc := gc) hGL hX hN hm1 hm2 hG (canon_rel hE ks)
      have hlens : stL.store.length ≤ (gcAV gc stL.store.length stL.tips.length (canon env ks) st).2.store.length ∧ stL.tips.length ≤ (gcAV gc stL.store.length stL.tips.length (canon env ks) st).2.tips.length := gcAV_len' gc (canon env ks) hm1 hm2
      have hle : Ext us0 w0 K0 us w K2 := hXL.trans g3
      have hNe : NewK st0.store.length st0.tips.length K0 K2 := hNL.trans g4 hLl hLt
      simp only [loopAV] at h
      generalize hgs : gcAV gc stL.store.length stL.tips.length (canon env ks) st = gs at h g1 g2 hlens
      have hlens0 : st0.store.length ≤ gs.2.store.length ∧ st0.tips.length ≤ gs.2.tips.length := by omega
      -- what the round gives
      have hround : ∃ z e1 s1, codeAV pure call (fun body => loopAV body n) (.block (gKey + l1) (.seq (.block (gKey + l0) (.seq iq1 (.exit doneK))) (.seq iq0 (.exit doneK)))) gs.1 gs.2 = some (z, e1, s1) ∧ ((z = .normal ∧ loopAV (fun e s => codeAV pure call (fun body => loopAV body n) (.block (gKey + l1) (.seq (.block (gKey + l0) (.seq iq1 (.exit doneK))) (.seq iq0 (.exit doneK)))) (gcAV gc stL.store.length stL.tips.length (canon e ks) s).1 (gcAV gc stL.store.length stL.tips.length (canon e ks) s).2) m e1 s1 = some (y, env', st')) ∨ (z ≠ .normal ∧ z = y ∧ e1 = env' ∧ s1 = st')) := by
        split at h
        · rename_i e1 s1 hb; exact ⟨_, e1, s1, hb, .inl ⟨rfl, h⟩⟩
        · rename_i hne
          refine ⟨y, env', st', h, .inr ⟨?_, rfl, rfl, rfl⟩⟩
          intro hy; subst hy; exact hne _ _ h
      obtain ⟨z, ez, sz, hz, hcont⟩ := hround
      obtain ⟨y1, e1, s1', hv1, hcase⟩ := round_inv h10 hl1 hl0 hz
      obtain ⟨ex, a1, w1, hends, harr⟩ := i1 gs.1 gs.2 y1 e1 s1' hv1 us w K2 a (hgl0.mono hle.usle) g1 g2 hs b (.inScope c :: k) cs
      have hends0 : Ends y1 us0 w0 K0 st0 nt a0.defers e1 s1' ex a1 w1 := by
        rw [← hd]; exact hends.trans hle hNe hlens0.1 hlens0.2
      -- a goto to the first label: the next round
      have again : ∀ {a2 : Act} {w2 : World} {ex2 : Exit}, z = .normal → Ends (.exit (gKey + l1)) us0 w0 K0 st0 nt a0.defers ez sz ex2 a2 w2 → Ends (.exit (gKey + l1)) us w K2 gs.2 nt a.defers ez sz ex2 a2 w2 → Arrives P (lone (b.at a (r1 (.inScope c :: k))) cs w) b (.inScope c :: k) cs ex2 a2 w2 →
          (y = .exit doneK → ∃ a' w', Ends .normal us0 w0 K0 st0 nt a0.defers env' st' .normal a' w' ∧ Steps P (lone (b.at a (r1 (.inScope c :: k))) cs w) (lone (b.at a' (.inScope c :: k)) cs w')) ∧
          (y ≠ .exit doneK → y ≠ .exit (gKey + l0) → ∃ e a' w', Ends y us0 w0 K0 st0 nt a0.defers env' st' e a' w' ∧ Arrives P (lone (b.at a (r1 (.inScope c :: k))) cs w) b k cs e a' w') := by
        intro a2 w2 ex2 hzn he0 he harr2
        have hst := land hl1 f1 s1 he0 harr2
        rcases hcont with ⟨_, hloop⟩ | ⟨hzn', _⟩
        · obtain ⟨_, us2, K3, k1, k2, k3, k4, k5, k6, k7, k8⟩ := he
          have := ih ez sz y stL usL wL KL hGL hXL hNL hLl hLt hloop us2 w2 K3 a2 (g3.trans k1) (g4.trans k6 hlens.1 hlens.2) (by omega) (by omega) k2 k3 k4 (k5.trans hd)
          refine ⟨fun hy => ?_, fun hy hy0 => ?_⟩
          · obtain ⟨a', w', q1, q2⟩ := this.1 hy
            exact ⟨a', w', q1, hst.trans q2⟩
          · obtain ⟨e, a', w', q1, q2⟩ := this.2 hy hy0
            exact ⟨e, a', w', q1, .of_steps hst q2⟩
        · exact absurd hzn hzn'
      rcases hcase with ⟨rfl, rfl, rfl, rfl⟩ | ⟨rfl, rfl, rfl, rfl⟩ | ⟨rfl, z0, hv0, hz0⟩ | ⟨h1, h2, h3, rfl, rfl, rfl⟩
      · -- the end of the scope
        rcases hcont with ⟨h, _⟩ | ⟨_, rfl, rfl, rfl⟩
        · simp at h
        · have := hends0.1
          simp only at this
          subst this
          exact ⟨fun _ => ⟨a1, w1, hends0, harr⟩, fun h => absurd rfl h⟩
      · exact again rfl hends0 hends harr
      · -- a goto to the second label
        have hst := land hl0 f0 s0 hends harr
        obtain ⟨_, us2, K3, k1, k2, k3, k4, k5, k6, k7, k8⟩ := hends
        obtain ⟨ex2, a2, w2, hends2, harr2⟩ := i0 e1 s1' z0 ez sz hv0 us2 w1 K3 a1 ((hgl0.mono hle.usle).mono k1.usle) k2 k3 k4 b (.inScope c :: k) cs
        have hends3 : Ends z0 us w K2 gs.2 nt a.defers ez sz ex2 a2 w2 := by
          rw [← k5]; exact hends2.trans k1 k6 k7 k8
        have hends4 : Ends z0 us0 w0 K0 st0 nt a0.defers ez sz ex2 a2 w2 := by
          rw [← hd]; exact hends3.trans hle hNe hlens0.1 hlens0.2
        have harr3 : Arrives P (lone (b.at a (r1 (.inScope c :: k))) cs w) b (.inScope c :: k) cs ex2 a2 w2 := .of_steps hst harr2
        rcases hz0 with ⟨rfl, rfl⟩ | ⟨rfl, rfl⟩ | ⟨q1, q2, rfl⟩
        · rcases hcont with ⟨h, _⟩ | ⟨_, rfl, rfl, rfl⟩
          · simp at h
          · have := hends4.1
            simp only at this
            subst this
            exact ⟨fun _ => ⟨a2, w2, hends4, harr3⟩, fun h => absurd rfl h⟩
        · exact again rfl hends4 hends3 harr3
        · rcases hcont with ⟨h, _⟩ | ⟨_, rfl, rfl, rfl⟩
          · exact absurd h q1
          · refine ⟨fun hy => ?_, fun hy hy0 => ⟨ex2, a2, w2, hends4, hpass hends4 q1 q2 hy0 harr3⟩⟩
            have := hends4.1
            rw [hy] at this
            simp only [exitOf] at this
            rw [if_neg (by decide), if_neg (by omega)] at this
            simp at this
      · rcases hcont with ⟨h, _⟩ | ⟨_, rfl, rfl, rfl⟩
        · exact absurd h h1
        · refine ⟨fun hy => ?_, fun hy hy0 => ⟨ex, a1, w1, hends0, hpass hends0 h1 h2 h3 harr⟩⟩
          have := hends0.1
          rw [hy] at this
          simp only [exitOf] at this
          rw [if_neg (by decide), if_neg (by omega)] at this
          simp at this
  -- the whole
  have d1 : doneK ≠ gKey + l1 := by simp only [gKey, doneK] at *; omega
  have d0 : doneK ≠ gKey + l0 := by simp only [gKey, doneK] at *; omega
  have hwhole : ∃ y e1 s1, codeAV pure call (fun body => loopAV body n) ia env0 st0 = some (y, e1, s1) ∧
      ((y ≠ .normal ∧ y ≠ .exit (gKey + l1) ∧ y ≠ .exit (gKey + l0) ∧ ((y = .exit doneK ∧ x = .normal) ∨ (y ≠ .exit doneK ∧ x = y)) ∧ e1 = env' ∧ s1 = st') ∨
       (y = .normal ∧ ∃ z, loopAV (fun e s => codeAV pure call (fun body => loopAV body n) (.block (gKey + l1) (.seq (.block (gKey + l0) (.seq iq1 (.exit doneK))) (.seq iq0 (.exit doneK)))) (gcAV gc s1.store.length s1.tips.length (canon e ks) s).1 (gcAV gc s1.store.length s1.tips.length (canon e ks) s).2) n e1 s1 = some (z, env', st') ∧
          z ≠ .normal ∧ z ≠ .exit (gKey + l1) ∧ z ≠ .exit (gKey + l0) ∧ ((z = .exit doneK ∧ x = .normal) ∨ (z ≠ .exit doneK ∧ x = z)))) := by
    have hdie : ∀ e s, codeAV pure call (fun body => loopAV body n) die1 e s = none := by
      intro e s; simp [die1, codeAV, opsAV, wantedAV, opAV, only, valAV]
    have hv : codeAV pure call (fun body => loopAV body n) (scIC gc ks l1 l0 ia iq1 iq0) env0 st0 = some (x, env', st') := hv
    unfold scIC at hv
    rw [codeAV, codeAV, codeAV, codeAV, codeAV] at hv
    cases h1 : codeAV pure call (fun body => loopAV body n) (.seq ia (.loop gc ks (.block (gKey + l1) (.seq (.block (gKey + l0) (.seq iq1 (.exit doneK))) (.seq iq0 (.exit doneK)))))) env0 st0 with
    | none => simp [h1] at hv
    | some p =>
      obtain ⟨y, e1, s1⟩ := p
      rw [h1] at hv
      have hy : y ≠ .exit (gKey + l1) ∧ y ≠ .exit (gKey + l0) ∧ y ≠ .normal ∧ ((y = .exit doneK ∧ x = .normal) ∨ (y ≠ .exit doneK ∧ x = y)) ∧ e1 = env' ∧ s1 = st' := by
        cases y with
        | normal => simp [hdie] at hv
        | ret => simp at hv; obtain ⟨rfl, rfl, rfl⟩ := hv; simp
        | exit i =>
          simp only at hv
          by_cases e1' : i = gKey + l1
          · subst e1'; simp [hdie] at hv
          · simp only [if_neg e1'] at hv
            by_cases e0' : i = gKey + l0
            · subst e0'; simp [hdie] at hv
            · simp only [if_neg e0'] at hv
              split at hv
              · next e => simp only [Option.some.injEq, Prod.mk.injEq] at hv; obtain ⟨rfl, rfl, rfl⟩ := hv; exact ⟨by simpa using e1', by simpa using e0', by simp, .inl ⟨by rw [e], rfl⟩, rfl, rfl⟩
              · next e => simp only [Option.some.injEq, Prod.mk.injEq] at hv; obtain ⟨rfl, rfl, rfl⟩ := hv; exact ⟨by simpa using e1', by simpa using e0', by simp, .inr ⟨by simpa using e, rfl⟩, rfl, rfl⟩
      obtain ⟨y1, y0, yn, yx, rfl, rfl⟩ := hy
      rw [codeAV] at h1
      split at h1
      · rename_i e2 s2 hia
        simp only [codeAV] at h1
        exact ⟨_, e2, s2, hia, .inr ⟨rfl, y, h1, yn, y1, y0, yx⟩⟩
      · rename_i hne
        exact ⟨y, e1, s1, h1, .inl ⟨yn, y1, y0, yx, rfl, rfl⟩⟩
  obtain ⟨y, e1, sA, hia, hrest⟩ := hwhole
  obtain ⟨ex, a1, w1, hends, hpre1, hpre2⟩ := p1 env0 st0 y e1 sA hia us0 w0 K0 a0 hgl0 hG0 hE0 hs0' b (.inScope c :: k) cs
  have fin : ∀ {z : X} {e : Exit} {a : Act} {w : World}, z ≠ .exit doneK → x = z → Ends z us0 w0 K0 st0 nt a0.defers env' st' e a w → Arrives P (lone (b.at a0 (.code c :: .inScope c :: k)) cs w0) b k cs e a w → ∃ e a w, Q e a w ∧ Arrives P (lone (b.at a0 (.code (.scope c) :: k)) cs w0) b k cs e a w := by
    intro z e a w _ hx he harr
    subst hx
    exact ⟨e, a, w, hQ e a w he, .of_steps (.one step_scope) harr⟩
  rcases hrest with ⟨h1, h2, h3, hx, rfl, rfl⟩ | ⟨rfl, z, hloop, h1, h2, h3, hx⟩
  · rcases hx with ⟨rfl, _⟩ | ⟨h4, rfl⟩
    · have := hends.1
      simp only [exitOf] at this
      rw [if_neg (by decide), if_neg (by omega)] at this
      simp at this
    · exact fin h4 rfl hends (hpass hends h1 h2 h3 (hpre2 h1))
  · have hst := hpre1 rfl
    obtain ⟨_, us1, K1, k1, k2, k3, k4, k5, k6, k7, k8⟩ := hends
    have := key n e1 sA z sA us1 w1 K1 k2 k1 k6 k7 k8 hloop us1 w1 K1 a1 (.refl _ _ _) (.refl _ _ _) (Nat.le_refl _) (Nat.le_refl _) k2 k3 k4 k5
    rcases hx with ⟨rfl, rfl⟩ | ⟨h4, rfl⟩
    · obtain ⟨a', w', q1, q2⟩ := this.1 rfl
      exact ⟨.normal, a', w', hQ _ _ _ q1, .head step_scope (hst.trans (q2.trans (.one step_inScope)))⟩
    · obtain ⟨e, a', w', q1, q2⟩ := this.2 h4 h3
      exact fin h4 rfl q1 (.of_steps hst q2)

theorem code_sound {nt : Nat} {keep : Nat → List Tmp} {gc : Bool} (n : Nat) (hmix : P.follows .mixedOrders = true) (hm : CallMono pure call) (hcall : CallOk P G pure call) (hcs : CallStore pure call) (hkg : ∀ g, keep (glKey + g) ≠ [] → keep (glKey + g) = G g) :
    ∀ (c : Code) (b : Nat) (ic : IC), compC P pure keep gc nt b c = some ic → CodeOk P G nt c (fun env st => codeAV pure call (fun body => loopAV body n) ic env st) ∧
      ∀ l ia iq, splitIC c ic l = some (ia, iq) → Parts P G nt c l (fun env st => codeAV pure call (fun body => loopAV body n) ia env st) (fun env st => codeAV pure call (fun body => loopAV body n) iq env st) := by
  intro c
  induction c with
  | skip =>
    intro b ic hc
    refine ⟨?_, fun l ia iq h => by simp [splitIC] at h⟩
    intro env st x env' st' hv us w K a hgl hG hE hs Q hQ
    simp only [compC, Option.some.injEq] at hc; subst hc
    simp only [codeAV, Option.some.injEq, Prod.mk.injEq] at hv
    obtain ⟨rfl, rfl, rfl⟩ := hv
    exact wp_skip (hQ _ _ _ ⟨rfl, us, K, .refl _ _ _, hG, hE, hs, rfl, .refl _ _ _, Nat.le_refl _, Nat.le_refl _⟩)
  | region id ops draw =>
    intro b ic hc
    refine ⟨?_, fun l ia iq h => by simp [splitIC] at h⟩
    intro env st x env' st' hv us w K a hgl hG hE hs Q hQ
    simp only [compC] at hc
    cases hr : compRegionQ P pure (!(keep mutKey).isEmpty || !(keep (mutRKey + id)).isEmpty, keep keptKey, !(keep pvKey).isEmpty, fun g => keep (glKey + g)) nt (keep (qKey + id)) ops draw with
    | none => simp [hr] at hc
    | some ks =>
      simp only [hr, Option.map_some, Option.some.injEq] at hc
      split at hc
      · split at hc
        case isFalse =>
          subst hc
          simp only [codeAV] at hv
          split at hv
          · rename_i e1 st1 hops
            split at hv
            · next hno =>
              simp only [Option.some.injEq, Prod.mk.injEq] at hv
              obtain ⟨rfl, rfl, rfl⟩ := hv
              refine region_sound hmix hr hm hcall hcs hops hgl (fun g hg => by have h1 := hkg g hg; simp only at hg ⊢; rw [h1] at hg ⊢; exact hgl g hg) (hide_good hG) (hide_env hE) hs (fun a' w' hfr h => hQ _ _ _ ?_)
              obtain ⟨_, us1, K1, h2, h3, _, h5, h6, h7, h8, h9⟩ := h
              obtain ⟨us', K', k1, k2, k3, k4⟩ := lost_post hG hE h2 h3 h7 h8 hno hfr
              exact ⟨rfl, us', K', k1, k2, k3, h5, h6, k4, by simp only; rw [mergeS_len _ _ (by rw [hideSt_len] at h8; exact h8)]; rw [hideSt_len] at h8; exact h8, Nat.le_refl _⟩
            · simp at hv
          · simp at hv
        subst hc
        simp only [codeAV] at hv
        split at hv
        · rename_i e1 s1 hops
          simp only [Option.some.injEq, Prod.mk.injEq] at hv
          obtain ⟨rfl, rfl, rfl⟩ := hv
          exact region_sound hmix hr hm hcall hcs hops hgl (fun g hg => by have h1 := hkg g hg; simp only at hg ⊢; rw [h1] at hg ⊢; exact hgl g hg) hG hE hs (fun a' w' _ h => hQ _ _ _ h)
        · simp at hv
      · rename_i ts _
        split at hc
        · subst hc
          simp only [codeAV] at hv
          obtain ⟨us1, g1, g2, g3, g4, g5⟩ := frzAV_good (keep (frzKey + id)) hG hE
          split at hv
          · rename_i e1 s1 hops
            simp only [Option.some.injEq, Prod.mk.injEq] at hv
            obtain ⟨rfl, rfl, rfl⟩ := hv
            exact region_sound hmix hr hm hcall hcs hops (hgl.mono g3.usle) (fun g hg => by have h1 := hkg g hg; simp only at hg ⊢; rw [h1] at hg ⊢; exact hgl.mono g3.usle g hg) g1 g2 hs (fun a' w' _ h => hQ _ _ _ (h.trans g3 (.refl _ _ _) (by rw [g4]; exact Nat.le_refl _) (by rw [g5]; exact Nat.le_refl _)))
          · simp at hv
        · split at hc
          · subst hc
            simp only [codeAV] at hv
            obtain ⟨us1, g1, g2, g3⟩ := frzPs_good ((keep (frzKey + id)).map (· - 500000)) hG hE
            have g45 := frzPs_lens ((keep (frzKey + id)).map (· - 500000)) env st
            split at hv
            · rename_i e1 s1 hops
              simp only [Option.some.injEq, Prod.mk.injEq] at hv
              obtain ⟨rfl, rfl, rfl⟩ := hv
              exact region_sound hmix hr hm hcall hcs hops (hgl.mono g3.usle) (fun g hg => by have h1 := hkg g hg; simp only at hg ⊢; rw [h1] at hg ⊢; exact hgl.mono g3.usle g hg) g1 g2 hs (fun a' w' _ h => hQ _ _ _ (h.trans g3 (.refl _ _ _) (by rw [g45.1]; exact Nat.le_refl _) (by rw [g45.2]; exact Nat.le_refl _)))
            · simp at hv
          · subst hc
            simp only [codeAV] at hv
            obtain ⟨us0, f1, f2, f3, f4, f5⟩ := frzAV_good ((keep (frzKey + id)).map (· - 1000000)) hG hE
            obtain ⟨us1, g1, g2, g3⟩ := frzPs_good ((keep (frzKey + id)).map (· - 1000000)) f1 f2
            have g45 := frzPs_lens ((keep (frzKey + id)).map (· - 1000000)) (frzAV ((keep (frzKey + id)).map (· - 1000000)) env st).1 (frzAV ((keep (frzKey + id)).map (· - 1000000)) env st).2
            split at hv
            · rename_i e1 s1 hops
              simp only [Option.some.injEq, Prod.mk.injEq] at hv
              obtain ⟨rfl, rfl, rfl⟩ := hv
              exact region_sound hmix hr hm hcall hcs hops ((hgl.mono f3.usle).mono g3.usle) (fun g hg => by have h1 := hkg g hg; simp only at hg ⊢; rw [h1] at hg ⊢; exact (hgl.mono f3.usle).mono g3.usle g hg) g1 g2 hs (fun a' w' _ h => hQ _ _ _ (h.trans (f3.trans g3) (.refl _ _ _) (by rw [g45.1, f4]; exact Nat.le_refl _) (by rw [g45.2, f5]; exact Nat.le_refl _)))
            · simp at hv
  | seq c1 c2 ih1 ih2 =>
    intro b ic hc
    simp only [compC] at hc
    split at hc
    · rename_i i1 i2 h1 h2
      simp only [Option.some.injEq] at hc; subst hc
      refine ⟨?_, fun l ia iq h => ?_⟩
      case refine_2 =>
        simp only [splitIC] at h
        split at h
        · rename_i p q hp
          simp only [Option.some.injEq, Prod.mk.injEq] at h
          obtain ⟨rfl, rfl⟩ := h
          exact ((ih1 b i1 h1).2 l _ _ hp).left (ih2 b i2 h2).1
        · rename_i hn
          split at h
          · rename_i p q hp
            simp only [Option.some.injEq, Prod.mk.injEq] at h
            obtain ⟨rfl, rfl⟩ := h
            exact ((ih2 b i2 h2).2 l _ _ hp).right (ih1 b i1 h1).1 (findLabel_none h1 hn)
          · simp at h
      intro env st x env' st' hv us w K a hgl hG hE hs Q hQ
      simp only [codeAV] at hv
      refine wp_seq ?_
      split at hv
      · rename_i e1 s1 hv1
        refine (ih1 b i1 h1).1 env st _ _ _ hv1 us w K a hgl hG hE hs _ (fun e a' w' h => ?_)
        obtain ⟨rfl, us1, K1, g1, g2, g3, g4, g5, g6, g7, g8⟩ := h
        refine (ih2 b i2 h2).1 e1 s1 x env' st' hv us1 w' K1 a' (hgl.mono g1.usle) g2 g3 g4 Q (fun e a2 w2 h2 => hQ e a2 w2 ?_)
        rw [← g5]
        exact h2.trans g1 g6 g7 g8
      · rename_i hne
        refine (ih1 b i1 h1).1 env st x env' st' hv us w K a hgl hG hE hs _ (fun e a' w' h => ?_)
        have hx : x ≠ .normal := by intro hx; subst hx; exact hne _ _ hv
        exact then_ne (h.ne hx) (hQ _ _ _ h)
    · simp at hc
  | cond c c1 c2 ih1 ih2 =>
    intro b ic hc
    refine ⟨?_, fun l ia iq h => by simp [splitIC] at h⟩
    intro env st x env' st' hv us w K a hgl hG hE hs Q hQ
    simp only [compC] at hc
    split at hc
    · rename_i i1 i2 h1 h2
      simp only [Option.some.injEq] at hc; subst hc
      simp only [codeAV] at hv
      split at hv
      · rename_i t ht
        have hr := aval_rel hE c
        rw [ht] at hr
        refine wp_cond hr.v_inv ?_
        cases t
        · exact (ih2 b i2 h2).1 env st x env' st' (by simpa using hv) us w K a hgl hG hE hs Q hQ
        · exact (ih1 b i1 h1).1 env st x env' st' (by simpa using hv) us w K a hgl hG hE hs Q hQ
      · simp at hv
    · simp at hc
  | block i c ih =>
    intro b ic hc
    refine ⟨?_, fun l ia iq h => by simp [splitIC] at h⟩
    intro env st x env' st' hv us w K a hgl hG hE hs Q hQ
    simp only [compC] at hc
    by_cases hik : i < gKey
    case neg => rw [if_neg hik] at hc; simp at hc
    rw [if_pos hik] at hc
    cases h1 : compC P pure keep gc nt i c with
    | none => simp [h1] at hc
    | some i1 =>
      simp only [h1, Option.map_some, Option.some.injEq] at hc; subst hc
      simp only [codeAV] at hv
      refine wp_block ?_
      split at hv
      · rename_i j e1 s1 hv1
        refine (ih i i1 h1).1 env st _ _ _ hv1 us w K a hgl hG hE hs _ (fun e a' w' h => ?_)
        have h1' := h.1
        simp only at h1'
        rcases exitOf_cases h1' with ⟨hjk, rfl⟩ | ⟨l, hl, rfl, rfl⟩
        · simp only [Exit.inBlock]
          split at hv
          · next hji =>
            simp only [Option.some.injEq, Prod.mk.injEq] at hv
            obtain ⟨rfl, rfl, rfl⟩ := hv
            rw [if_pos hji]
            exact hQ _ _ _ ⟨rfl, h.2⟩
          · next hji =>
            simp only [Option.some.injEq, Prod.mk.injEq] at hv
            obtain ⟨rfl, rfl, rfl⟩ := hv
            rw [if_neg hji]
            exact hQ _ _ _ ⟨h1', h.2⟩
        · rw [if_neg (by omega)] at hv
          simp only [Option.some.injEq, Prod.mk.injEq] at hv
          obtain ⟨rfl, rfl, rfl⟩ := hv
          exact hQ _ _ _ ⟨h1', h.2⟩
      · rename_i hne
        refine (ih i i1 h1).1 env st x env' st' hv us w K a hgl hG hE hs _ (fun e a' w' h => ?_)
        have h1' := h.1
        cases x with
        | normal => simp only at h1'; subst h1'; exact hQ _ _ _ h
        | exit j => exact absurd hv (hne j _ _)
        | ret => simp only at h1'; subst h1'; exact hQ _ _ _ h
  | loop c ih =>
    intro b ic hc
    simp only [compC] at hc
    cases h1 : compC P pure keep gc nt b c with
    | none => simp [h1] at hc
    | some i1 =>
      simp only [h1, Option.map_some, Option.some.injEq] at hc; subst hc
      exact ⟨loop_sound gc (keep b) _ (ih b i1 h1).1 n, fun l ia iq h => by simp [splitIC] at h⟩
  | exit i =>
    intro b ic hc
    refine ⟨?_, fun l ia iq h => by simp [splitIC] at h⟩
    intro env st x env' st' hv us w K a hgl hG hE hs Q hQ
    simp only [compC] at hc
    split at hc
    case isFalse => simp at hc
    rename_i hik
    simp only [Option.some.injEq] at hc; subst hc
    simp only [codeAV, Option.some.injEq, Prod.mk.injEq] at hv
    obtain ⟨rfl, rfl, rfl⟩ := hv
    exact wp_exit (hQ _ _ _ ⟨(exitOf_lt hik).symm, us, K, .refl _ _ _, hG, hE, hs, rfl, .refl _ _ _, Nat.le_refl _, Nat.le_refl _⟩)
  | ret =>
    intro b ic hc
    refine ⟨?_, fun l ia iq h => by simp [splitIC] at h⟩
    intro env st x env' st' hv us w K a hgl hG hE hs Q hQ
    simp only [compC, Option.some.injEq] at hc; subst hc
    simp only [codeAV, Option.some.injEq, Prod.mk.injEq] at hv
    obtain ⟨rfl, rfl, rfl⟩ := hv
    exact wp_ret (hQ _ _ _ ⟨rfl, us, K, .refl _ _ _, hG, hE, hs, rfl, .refl _ _ _, Nat.le_refl _, Nat.le_refl _⟩)
  | rangeFunc _ _ _ _ _ _ => intro b ic hc; simp [compC] at hc
  | scope c ih =>
    intro b ic hc
    refine ⟨?_, fun l ia iq h => by simp [splitIC] at h⟩
    simp only [compC] at hc
    split at hc
    · rename_i ix h1
      split at hc
      · exact scope_sound n (ih b ix h1).2 hc
      · next hng =>
        simp only [Option.some.injEq] at hc; subst hc
        intro env st x env' st' hv us w K a hgl hG hE hs Q hQ
        refine wp_scope_straight ((ih b ix h1).1 env st x env' st' hv us w K a hgl hG hE hs _ (fun e a' w' h => ?_))
        have h1' := h.1
        cases x with
        | normal => simp only at h1'; subst h1'; exact hQ _ _ _ h
        | exit j =>
          have hj := nogoto n c b ix h1 (by simpa using hng) env st j env' st' hv
          have h2 : e = .exit j := by simp only [exitOf_lt hj, Option.some.injEq] at h1'; exact h1'
          subst h2; exact hQ _ _ _ h
        | ret => simp only at h1'; subst h1'; exact hQ _ _ _ h
    · simp at hc
  | label _ =>
    intro b ic hc
    simp only [compC, Option.some.injEq] at hc; subst hc
    refine ⟨?_, fun l ia iq h => ?_⟩
    case refine_2 =>
      simp only [splitIC] at h
      split at h
      · next e =>
        subst e
        simp only [Option.some.injEq, Prod.mk.injEq] at h
        obtain ⟨rfl, rfl⟩ := h
        exact Parts.label _
      · simp at h
    intro env st x env' st' hv us w K a hgl hG hE hs Q hQ
    simp only [codeAV, Option.some.injEq, Prod.mk.injEq] at hv
    obtain ⟨rfl, rfl, rfl⟩ := hv
    exact wp_label (hQ _ _ _ ⟨rfl, us, K, .refl _ _ _, hG, hE, hs, rfl, .refl _ _ _, Nat.le_refl _, Nat.le_refl _⟩)
  | goto l =>
    intro b ic hc
    simp only [compC] at hc
    split at hc
    case isFalse => simp at hc
    rename_i hlk
    simp only [Option.some.injEq] at hc; subst hc
    refine ⟨?_, fun l ia iq h => by simp [splitIC] at h⟩
    intro env st x env' st' hv us w K a hgl hG hE hs Q hQ
    simp only [codeAV, Option.some.injEq, Prod.mk.injEq] at hv
    obtain ⟨rfl, rfl, rfl⟩ := hv
    exact wp_goto (hQ _ _ _ ⟨(exitOf_goto hlk).symm, us, K, .refl _ _ _, hG, hE, hs, rfl, .refl _ _ _, Nat.le_refl _, Nat.le_refl _⟩)
  | refuse _ => intro b ic hc; simp [compC] at hc
end
end Go.Ev

namespace Go.Ev
open Go

section
variable {P : Program} {pure : FuncId → Bool} {call : CallF}

/-! ### lengths -/

theorem gcAV_len (gc : Bool) (env : Env) {l n : Nat} {st : St} (h1 : l ≤ st.store.length) (h2 : n ≤ st.tips.length) :
    l ≤ (gcAV gc l n env st).2.store.length ∧ n ≤ (gcAV gc l n env st).2.tips.length := gcAV_len' gc env h1 h2

theorem opsAV_len (hm : CallMono pure call) {ks : List IOp} {env env' : Env} {st st' : St} (h : opsAV pure call ks env st = some (env', st')) : st.store.length ≤ st'.store.length ∧ st.tips.length ≤ st'.tips.length := by
  obtain ⟨E, T, V, ht, e0, t0, en, tn⟩ := trace_of h
  have := ht.mono hm (Nat.zero_le ks.length) (Nat.le_refl _)
  rw [t0, tn] at this
  exact this

theorem loopAV_len {L N : Nat} {body : Env → St → Out} (hb : ∀ env st x env' st', L ≤ st.store.length → N ≤ st.tips.length → body env st = some (x, env', st') → L ≤ st'.store.length ∧ N ≤ st'.tips.length) :
    ∀ (n : Nat) (env : Env) (st : St) (x : X) (env' : Env) (st' : St), L ≤ st.store.length → N ≤ st.tips.length → loopAV body n env st = some (x, env', st') → L ≤ st'.store.length ∧ N ≤ st'.tips.length
  | 0, env, st, x, env', st', _, _, h => by simp [loopAV] at h
  | n + 1, env, st, x, env', st', h1, h2, h => by
    simp only [loopAV] at h
    split at h
    · rename_i e1 s1 hbody
      have := hb _ _ _ _ _ h1 h2 hbody
      exact loopAV_len hb n _ _ _ _ _ this.1 this.2 h
    · exact hb _ _ _ _ _ h1 h2 h

theorem codeAV_len (hm : CallMono pure call) (n : Nat) : ∀ (ic : IC) (env : Env) (st : St) (x : X) (env' : Env) (st' : St), codeAV pure call (fun b => loopAV b n) ic env st = some (x, env', st') → st.store.length ≤ st'.store.length ∧ st.tips.length ≤ st'.tips.length := by
  intro ic
  induction ic with
  | skip => intro env st x env' st' h; simp only [codeAV, Option.some.injEq, Prod.mk.injEq] at h; obtain ⟨_, _, rfl⟩ := h; exact ⟨Nat.le_refl _, Nat.le_refl _⟩
  | exit i => intro env st x env' st' h; simp only [codeAV, Option.some.injEq, Prod.mk.injEq] at h; obtain ⟨_, _, rfl⟩ := h; exact ⟨Nat.le_refl _, Nat.le_refl _⟩
  | ret => intro env st x env' st' h; simp only [codeAV, Option.some.injEq, Prod.mk.injEq] at h; obtain ⟨_, _, rfl⟩ := h; exact ⟨Nat.le_refl _, Nat.le_refl _⟩
  | ops l =>
    intro env st x env' st' h
    simp only [codeAV] at h
    split at h
    · rename_i e1 s1 h1
      simp only [Option.some.injEq, Prod.mk.injEq] at h; obtain ⟨_, _, rfl⟩ := h
      exact opsAV_len hm h1
    · simp at h
  | frz ts =>
    intro env st x env' st' h
    simp only [codeAV, Option.some.injEq, Prod.mk.injEq] at h; obtain ⟨_, _, rfl⟩ := h
    have := frzAV_lens ts env st
    rw [this.1, this.2]; exact ⟨Nat.le_refl _, Nat.le_refl _⟩
  | frzp ts =>
    intro env st x env' st' h
    simp only [codeAV, Option.some.injEq, Prod.mk.injEq] at h; obtain ⟨_, _, rfl⟩ := h
    have := frzPs_lens ts env st
    rw [this.1, this.2]; exact ⟨Nat.le_refl _, Nat.le_refl _⟩
  | lost l =>
    intro env st x env' st' h
    simp only [codeAV] at h
    split at h
    · rename_i e1 s1 h1
      split at h
      · simp only [Option.some.injEq, Prod.mk.injEq] at h; obtain ⟨_, _, rfl⟩ := h
        have h2 := (opsAV_len hm h1).1
        rw [hideSt_len] at h2
        simp only
        rw [mergeS_len _ _ h2]
        exact ⟨h2, Nat.le_refl _⟩
      · simp at h
    · simp at h
  | seq a b iha ihb =>
    intro env st x env' st' h
    simp only [codeAV] at h
    split at h
    · rename_i e1 s1 h1
      have h2 := iha _ _ _ _ _ h1
      have h3 := ihb _ _ _ _ _ h
      exact ⟨by omega, by omega⟩
    · exact iha _ _ _ _ _ h
  | cond c a b iha ihb =>
    intro env st x env' st' h
    simp only [codeAV] at h
    split at h
    · split at h
      · exact iha _ _ _ _ _ h
      · exact ihb _ _ _ _ _ h
    · simp at h
  | block i a iha =>
    intro env st x env' st' h
    simp only [codeAV] at h
    split at h
    · rename_i j e1 s1 h1
      have h2 := iha _ _ _ _ _ h1
      split at h <;> (simp only [Option.some.injEq, Prod.mk.injEq] at h; obtain ⟨_, _, rfl⟩ := h; exact h2)
    · exact iha _ _ _ _ _ h
  | loop gc ks a iha =>
    intro env st x env' st' h
    simp only [codeAV] at h
    refine loopAV_len (fun e s x e' s' h1 h2 hb => ?_) n _ _ _ _ _ (Nat.le_refl _) (Nat.le_refl _) h
    have h3 := gcAV_len gc (canon e ks) h1 h2
    have h4 := iha _ _ _ _ _ hb
    exact ⟨by omega, by omega⟩

theorem bodyAV_len (hm : CallMono pure call) (n : Nat) {fn : IF} {args : List AV} {st st' : St} {r : AV} (h : bodyAV pure call (fun b => loopAV b n) fn args st = some (r, st')) : st.store.length ≤ st'.store.length ∧ st.tips.length ≤ st'.tips.length := by
  simp only [bodyAV] at h
  split at h
  · rename_i e s h1
    split at h
    · simp only [Option.some.injEq, Prod.mk.injEq] at h; obtain ⟨_, rfl⟩ := h; exact codeAV_len hm n _ _ _ _ _ _ h1
    · simp at h
  · rename_i e s h1
    split at h
    · simp only [Option.some.injEq, Prod.mk.injEq] at h; obtain ⟨_, rfl⟩ := h; exact codeAV_len hm n _ _ _ _ _ _ h1
    · simp at h
  · simp at h

theorem leave_st (st1 st : St) (r : AV) : (leave st1 st r).2.store = st.store ∧ ∃ rest, (leave st1 st r).2.tips = st.tips ++ rest := ⟨rfl, [], by simp [leave]⟩

theorem primAV_some {L : Lib} {f : FuncId} {args : List AV} {st st' : St} {r : AV} (h : primAV L f args st = some (r, st')) : L.pure f = false ∧ (st.store.length ≤ st'.store.length ∧ st.tips.length ≤ st'.tips.length) ∧ L.prim f args st = some (r, st') := by
  unfold primAV at h
  split at h
  · rename_i r1 s1 h1
    split at h
    · next hc =>
      simp only [Option.some.injEq, Prod.mk.injEq] at h
      obtain ⟨rfl, rfl⟩ := h
      exact ⟨hc.1, hc.2, h1⟩
    · simp at h
  · simp at h

theorem enterAV_mono {L : Lib} (hm : CallMono L.pure call) (n : Nat) : CallMono L.pure (enterAV L call (fun b => loopAV b n)) := by
  have hp : ∀ f args st r st', enterAV L call (fun b => loopAV b n) f args st = some (r, st') → L.pure f = true → st'.store = st.store ∧ ∃ rest, st'.tips = st.tips ++ rest := by
    intro f args st r st' h hf
    simp only [enterAV] at h
    split at h
    · rw [if_pos hf] at h
      split at h
      · rename_i r1 st1 _
        simp only [Option.some.injEq] at h
        have := leave_st st1 st r1
        rw [h] at this
        exact this
      · simp at h
    · rw [(primAV_some h).1] at hf; simp at hf
  refine ⟨fun f args st r st' h => ?_, hp⟩
  by_cases hf : L.pure f = true
  · obtain ⟨h1, r, h2⟩ := hp f args st _ st' h hf
    rw [h1, h2]; simp
  · simp only [enterAV] at h
    split at h
    · rw [if_neg hf] at h
      exact bodyAV_len hm n h
    · exact (primAV_some h).2.1

theorem callAV_mono (L : Lib) : ∀ n, CallMono L.pure (callAV L n)
  | 0 => ⟨fun f args st r st' h => by simp [callAV] at h, fun f args st r st' h => by simp [callAV] at h⟩
  | n + 1 => enterAV_mono (callAV_mono L n) n

theorem callAV_store (L : Lib) (n : Nat) : CallStore L.pure (callAV L n) := fun f args st r st' h hf => ((callAV_mono L n).pure f args st r st' h hf).1

/-! ### results -/

theorem run_loadVar {us : Us} {w : World} {K : Kx} {S : St} {r : AV} {t : TypeId} {s : Nat} {ag : Bool} {A : AV} {x : Value} (hs : sizeT P t = some s) (hag : isAggT P t = some ag) (hG : Good us w K S) (h : loadAV s ag S A = some r) (hr : Rel us w K A x) :
    ∃ ad y, x = .pointer (some ad) ∧ (loadVar t ad).run P w = .ok y w ∧ Rel us w K r y := by
  unfold loadAV at h
  split at h
  · rename_i l q
    obtain ⟨c, hc, rfl, hsz⟩ := hr.ptr_inv'
    cases hl : S.store[l]? with
    | none => simp [hl] at h
    | some cs =>
      simp only [hl, Option.bind_some] at h
      obtain ⟨cur, ty, h1, _, h2, _⟩ := (hG.blk l c cs hc hl).cells hsz
      obtain ⟨y, h3, h4⟩ := run_load_at (P := P) (p := 0) hs hag h h2 (cellsAt_take h1 _)
      rw [Nat.zero_add] at h3
      exact ⟨_, y, rfl, h3, h4⟩
  · rename_i e q
    obtain ⟨c, p, vs, rfl, h1⟩ := hr.eptr_inv
    obtain ⟨y, h3, h4⟩ := run_load_at (P := P) hs hag h h1.rels.ofNil h1.cells
    exact ⟨_, y, rfl, h3, h4⟩
  · simp at h

def resultOf (tmps : Array Value) : ResultVar → Sem Value
  | .tmp t => Pure.pure (tmps.getD t undef)
  | .cell a t => do loadVar t (← asAddr (tmps.getD a undef))

theorem res_sound {us : Us} {w : World} {K : Kx} {st : St} {env : Env} {a : Act} (hG : Good us w K st) (hE : EnvRel us w K env a) : ∀ (rs : List ResultVar) (l : List (Tmp × Option (Nat × Bool))), rs.mapM (compRes P) = some l → ∀ xs, resAV env st l = some xs →
    ∃ vs : List Value, (rs.mapM (resultOf a.tmps)).run P w = .ok vs w ∧ Rels us w K xs vs
  | [], l, hl, xs, hx => by
    simp at hl; subst hl; simp only [resAV, Option.some.injEq] at hx; subst hx
    exact ⟨[], rfl, .nil⟩
  | x :: rs, l, hl, xs, hx => by
    rw [List.mapM_cons] at hl
    cases h1 : compRes P x with
    | none => simp [h1] at hl
    | some y =>
      cases h2 : rs.mapM (compRes P) with
      | none => simp [h1, h2] at hl
      | some ys =>
        simp [h1, h2] at hl
        subst hl
        obtain ⟨t, o⟩ := y
        cases o with
        | none =>
          simp only [resAV] at hx
          split at hx
          · rename_i xs' hxs
            simp only [Option.some.injEq] at hx; subst hx
            obtain ⟨vs, h3, h4⟩ := res_sound hG hE rs ys h2 xs' hxs
            cases x with
            | tmp t' =>
              simp only [compRes, Option.some.injEq, Prod.mk.injEq, and_true] at h1; subst h1
              refine ⟨a.tmps.getD t' undef :: vs, ?_, .cons (hE t') h4⟩
              simp only [List.mapM_cons, Sem.run_bind, resultOf, Sem.run_pure, Result.andThen_ok, h3]
            | cell t' ty =>
              simp only [compRes] at h1
              split at h1 <;> simp at h1
          · simp at hx
        | some q =>
          obtain ⟨s, ag⟩ := q
          simp only [resAV] at hx
          split at hx
          · rename_i x1 xs' hx1 hxs
            simp only [Option.some.injEq] at hx; subst hx
            obtain ⟨vs, h3, h4⟩ := res_sound hG hE rs ys h2 xs' hxs
            cases x with
            | tmp t' => simp [compRes] at h1
            | cell t' ty =>
              simp only [compRes] at h1
              split at h1
              · rename_i s' ag' hs' hag'
                simp only [Option.some.injEq, Prod.mk.injEq] at h1
                obtain ⟨rfl, rfl, rfl⟩ := h1
                obtain ⟨ad, y, e1, e2, e3⟩ := run_loadVar (P := P) hs' hag' hG hx1 (hE t')
                refine ⟨y :: vs, ?_, .cons e3 h4⟩
                simp only [List.mapM_cons, Sem.run_bind, resultOf, e1, asAddr, Sem.run_pure, Result.andThen_ok, e2, h3]
              · simp at h1
          · simp at hx

theorem results_sound {us : Us} {w : World} {K : Kx} {st : St} {env : Env} {a : Act} {fn : Func} {l : List (Tmp × Option (Nat × Bool))} {xs : List AV} (hG : Good us w K st) (hE : EnvRel us w K env a) (hl : fn.results.toList.mapM (compRes P) = some l) (hx : resAV env st l = some xs) :
    ∃ v, (results fn a.tmps).run P w = .ok v w ∧ Rel us w K (tupAV xs) v := by
  obtain ⟨vs, h1, h2⟩ := res_sound hG hE _ l hl xs hx
  have hrun : (results fn a.tmps).run P w = .ok (if h : vs.toArray.size = 1 then vs.toArray[0] else .tuple vs.toArray) w := by
    have e : results fn a.tmps = (do let vs ← fn.results.mapM (resultOf a.tmps); Pure.pure (if h : vs.size = 1 then vs[0] else .tuple vs)) := by
      unfold results
      congr 1
    rw [e, Array.mapM_eq_mapM_toList]
    simp only [Sem.run_bind, Sem.run_map, h1, Result.andThen_ok, Sem.run_pure]
  refine ⟨_, hrun, ?_⟩
  match xs, vs, h2 with
  | [], vs, h2 => rw [h2.nil_inv]; exact Rel.mkTup (vs := #[]) .nil
  | [x], vs, h2 =>
    obtain ⟨y, r, rfl, e1, e2⟩ := h2.cons_inv
    rw [e2.nil_inv]
    exact e1
  | x :: y :: xs, vs, h2 =>
    have hlen := h2.len
    have : ¬ vs.toArray.size = 1 := by simp at hlen ⊢; omega
    rw [dif_neg this]
    exact Rel.mkTup (by simpa [tupAV] using h2)
end
end Go.Ev

namespace Go.Ev
open Go

section
variable {P : Program}

/-! ### leaving a callee that was called with no state -/

open Classical in
noncomputable def frozen (us : Us) (w : World) (K : Kx) : Us := fun c =>
  match us c with
  | some n => some n
  | none => if ∃ l, K.lm l = some c then (match w.heap[c]? with | some (.cells cur _ _) => some cur.size | _ => none) else none

theorem frozen_not {us : Us} {w : World} {K : Kx} {c : Nat} (h : ∀ l, K.lm l ≠ some c) : frozen us w K c = us c := by
  have : ¬ ∃ l, K.lm l = some c := fun ⟨l, e⟩ => h l e
  simp only [frozen, if_neg this]
  cases us c <;> rfl

theorem frozen_lm {us : Us} {w : World} {K : Kx} {l c : Nat} {cur : Array Value} {ty : TypeId} (h : K.lm l = some c) (hb : w.heap[c]? = some (.cells cur ty (0, 0))) : ∃ n, frozen us w K c = some n ∧ (us c = none → n = cur.size) := by
  have : ∃ l, K.lm l = some c := ⟨l, h⟩
  simp only [frozen, if_pos this, hb]
  cases us c with
  | none => exact ⟨_, rfl, fun _ => rfl⟩
  | some n => exact ⟨n, rfl, fun h => by simp at h⟩

theorem usLe_frozen {us : Us} {w : World} {K : Kx} : UsLe us w (frozen us w K) w := by
  intro c n hc
  exact ⟨n, by simp only [frozen, hc], Nat.le_refl _, fun _ _ => rfl⟩

theorem fins_len (st : St) (l : List AV) : (fins st l).length = l.length := by
  induction l with
  | nil => rfl
  | cons a r ih => simp [fins, ih]
theorem fins_get (st : St) (l : List AV) (i : Nat) (h : i < (fins st l).length) : (fins st l)[i] = fin st (l[i]'(by rw [fins_len] at h; exact h)) := by
  induction l generalizing i with
  | nil => simp [fins] at h
  | cons a r ih =>
    cases i with
    | zero => simp [fins]
    | succ i => simp [fins]; exact ih i (by simpa [fins] using h)

theorem fin_rel {us : Us} {w : World} {K : Kx} {a : AV} {x : Value} (h : Rel us w K a x) : ∀ st : St, Good us w K st → Rel (frozen us w K) w .nil (fin st a) x := by
  induction h with
  | any K x => intro st _; simp only [fin]; exact .any _ x
  | v K x h => intro st _; simp only [fin]; exact .v _ x h
  | ptr K l o c h _ => intro st _; simp only [fin]; exact .any _ _
  | obj K m l c h => intro st _; simp only [fin]; exact .any _ _
  | eptr K e o c p n vs hu1 hn hc h1 hl hr _ => intro st hG; have := (Rel.pub (Rel.eptr K e o c p n vs hu1 hn hc h1 hl hr)).mono (usLe_frozen (us := us) (w := w) (K := K)) (KLe.nil _ _ _ _ .nil); simpa only [fin, Ev.pub] using this
  | lst K g z xs c p n cap vs hu1 hn hc h1 hz hcap hl hr ht _ => intro st hG; have := (Rel.pub (Rel.lst K g z xs c p n cap vs hu1 hn hc h1 hz hcap hl hr ht)).mono (usLe_frozen (us := us) (w := w) (K := K)) (KLe.nil _ _ _ _ .nil); simpa only [fin, Ev.pub] using this
  | rsl K l o n c z a b cap h hs hx =>
    intro st hG
    simp only [fin]
    split
    · rename_i cs hcs
      split
      · next hc =>
        obtain ⟨h1, h2, h3⟩ := hc
        obtain ⟨cur, ty, g1, g0, g2, g3⟩ := (hG.blk l b cs h hcs).cells hs
        have hcle : c ≤ cap := Caps.le hx
        have hr := ((g2.drop o).pubs).mono (usLe_frozen (us := us) (w := w) (K := K)) (KLe.nil _ _ _ _ .nil)
        obtain ⟨q1, q2⟩ := group_rel a z n (pubs (cs.drop o)) ((cur.toList.take cs.length).drop o) h2 (by rw [pubs_len]; simp; omega) hr
        have hn : (group a z n (pubs (cs.drop o))).length = n := group_len _ _ _ _
        have hvl : (((cur.toList.take cs.length).drop o).take (n * z)).length = n * z := by simp; omega
        obtain ⟨m, hm1, hm2⟩ := frozen_lm (us := us) h g1
        have hm : o + n * z ≤ m := by
          by_cases hne : cs = []
          · subst hne; simp only [List.length_nil] at h1; omega
          · have := hm2 (hG.live h hcs hne); omega
        have := Rel.lst (us := frozen us w K) (w := w) .nil .any z (group a z n (pubs (cs.drop o))) b o m cap (((cur.toList.take cs.length).drop o).take (n * z))
          hm1 (by rw [hvl]; exact hm) (fun i hi => by
            have hi' : o + i < (cur.toList.take cs.length).length := by rw [hvl] at hi; simp; omega
            have := cellsAt_take g1 cs.length (o + i) hi'
            rw [Nat.zero_add] at this
            rw [this]
            simp) (fun x hx => g3 x (List.mem_of_mem_take (List.mem_of_mem_drop (List.mem_of_mem_take hx)))) q2 (by rw [hn]; omega) q1.len q1.rel trivial
        rw [hn] at this
        exact this
      · exact .any _ _
    · exact .any _ _
  | fn K f a b va vb ha hb hra hrb _ _ => intro st hG; have := (Rel.pub (Rel.fn K f a b va vb ha hb hra hrb)).mono (usLe_frozen (us := us) (w := w) (K := K)) (KLe.nil _ _ _ _ .nil); simpa only [fin, Ev.pub] using this
  | ifc K t a x h _ => intro st hG; have := (Rel.pub (Rel.ifc K t a x h)).mono (usLe_frozen (us := us) (w := w) (K := K)) (KLe.nil _ _ _ _ .nil); simpa only [fin, Ev.pub] using this
  | agg K cs vs hl _ ih => intro st hG; simp only [fin]; exact .agg _ _ vs (by rw [fins_len]; exact hl) (fun i h h' => by rw [fins_get]; exact ih i _ h' st hG)
  | tup K cs vs hl _ ih => intro st hG; simp only [fin]; exact .tup _ _ vs (by rw [fins_len]; exact hl) (fun i h h' => by rw [fins_get]; exact ih i _ h' st hG)

theorem leave_ok {us us1 : Us} {w w1 : World} {K K1 : Kx} {st st1 st' S : St} {r r' : AV} {x : Value} (hG1 : Good us1 w1 K1 st1) (hX : Ext us w .nil us1 w1 K1) (hr : Rel us1 w1 K1 r x) (hG : Good us w K S)
    (htips : ∃ rest, S.tips = st'.tips ++ rest) (hfree : ∀ t, st.tips.length ≤ t → t < st'.tips.length → K.tk t = none) (hl : leave st1 st r = (r', st')) :
    ∃ us' K', Rel us' w1 K' r' x ∧ Ext us w K us' w1 K' ∧ Good us' w1 K' S ∧ Fresh st st' K K' := by
  have hold : ∀ c, c < w.heap.size → frozen us1 w1 K1 c = us c ∧ w1.heap[c]? = w.heap[c]? := by
    intro c hc
    have h1 := hX.frame c hc (fun l h => by simp [Kx.nil] at h) (fun l h => by simp [Kx.nil] at h)
    rw [frozen_not (fun l h => by rcases hX.lmNew l c h with ⟨_, h⟩ | h; · simp [Kx.nil] at h
                                  · omega)]
    exact ⟨h1.2, h1.1⟩
  have hule : UsLe us w (frozen us1 w1 K1) w1 := hX.usle.trans usLe_frozen
  have hlt : ∀ t c, K.tk t = some c → c < w.heap.size := fun t c h => by
    obtain ⟨n, hn⟩ := hG.tkus t c h
    exact hG.uslt c n hn
  have hk : KLe us w K (frozen us1 w1 K1) w1 K := ⟨fun _ _ h => ⟨h, fun n hn => by obtain ⟨cur, ty, h1, h2⟩ := hn; exact ⟨cur, ty, (hold _ (Array.getElem?_eq_some_iff.1 h1).1).2.trans h1, h2⟩⟩, fun t m h => ⟨m, h, Nat.le_refl _, fun _ c hc => ⟨hc, (hold c (hlt t c hc)).1, fun n hn => hX.sz c n hn⟩⟩⟩
  have huslt : ∀ c n, frozen us1 w1 K1 c = some n → c < w1.heap.size := by
    intro c n h
    by_cases e : ∃ l, K1.lm l = some c
    · obtain ⟨l, e⟩ := e
      exact hG1.lmltH e
    · rw [frozen_not (fun l h => e ⟨l, h⟩)] at h
      exact hG1.uslt c n h
  have hbase : Ext us w K (frozen us1 w1 K1) w1 K ∧ Good (frozen us1 w1 K1) w1 K S :=
    ⟨⟨hX.os, hX.tape, hX.output, hX.size, hX.sz, hule, hk, fun c hc _ _ => ⟨(hold c hc).2, (hold c hc).1⟩, fun c hc h _ => (hold c hc).1.trans h, fun l _ h => .inl ⟨l, h⟩, fun _ _ h => .inl h⟩,
     ⟨hG.T, hG.lmlt, fun l c cs h hs => (hG.blk l c cs h hs).mono hule hk (hold c (hG.lmltH h)).2, hG.inj, hG.tkinj, hG.tklt, fun t c h => by rw [(hold c (hlt t c h)).1]; exact hG.tkus t c h, huslt, fun l c h => by rw [(hold c (hG.lmltH h)).1]; exact hG.disj l c h, hG.lmtk⟩⟩
  have plain : ∀ {b : AV}, Rel (frozen us1 w1 K1) w1 .nil b x → (r', st') = (b, st) → ∃ us' K', Rel us' w1 K' r' x ∧ Ext us w K us' w1 K' ∧ Good us' w1 K' S ∧ Fresh st st' K K' := by
    intro b hb e
    simp only [Prod.mk.injEq] at e
    obtain ⟨rfl, rfl⟩ := e
    exact ⟨_, K, hb.ofNil, hbase.1, hbase.2, .same _ _⟩
  exact plain (fin_rel hr st1 hG1) hl.symm

/-! ### a function's body -/

theorem params_get : ∀ (i : Nat) (args : List AV) (t : Nat), (params i args).get t = if i ≤ t then (args[t - i]?).getD .any else .any
  | i, [], t => by simp [params, Env.get]
  | i, a :: r, t => by
    simp only [params, Env.get, params_get (i + 1) r t]
    by_cases e : t = i
    · subst e; simp
    · by_cases e2 : i ≤ t
      · have h1 : i + 1 ≤ t := by omega
        have h2 : t - i = (t - (i + 1)) + 1 := by omega
        simp [e2, h1, h2, Ne.symm e, e]
      · have h1 : ¬ i + 1 ≤ t := by omega
        simp [e2, h1, Ne.symm e, e]

theorem params_rel {us : Us} {w : World} {K : Kx} {args : List AV} {vs : Array Value} (h : Rels us w K args vs.toList) (n : Nat) (ds : List Deferred) : EnvRel us w K (params 0 args) { tmps := vs ++ Array.replicate n undef, defers := ds } := by
  intro t
  rw [params_get]
  simp only [Nat.zero_le, if_true, Nat.sub_zero]
  cases hx : args[t]? with
  | none => exact .any _ _
  | some a =>
    obtain ⟨x, h1, h2⟩ := h.get hx
    have hlt : t < vs.size := by simpa using (List.getElem?_eq_some_iff.1 h1).1
    have : (vs ++ Array.replicate n undef).getD t undef = x := by
      rw [Array.getElem?_toList] at h1
      rw [Array.getD_eq_getD_getElem?, Array.getElem?_append_left hlt, h1]; rfl
    simp only [Option.getD_some, this]
    exact h2

/-- The functions of the library are those of the program. -/
def FnsOk (P : Program) (G : Nat → List Nat) (L : Lib) : Prop := ∀ f fn, L.fns f = some fn → ∃ keep : Nat → List Tmp, (∀ g, keep (glKey + g) ≠ [] → keep (glKey + g) = G g) ∧ compF P L.pure keep f = some fn
/-- What is said of functions that are not run as code holds. -/
def PrimOk (P : Program) (L : Lib) : Prop := ∀ f args st r st', L.prim f args st = some (r, st') → ∀ (us : Us) (w : World) (K : Kx) (vs : Array Value), Good us w K st → Rels us w K args vs.toList →
  (∃ fn, P.funcs[f]? = some fn ∧ fn.body.isSome = true ∧ fn.name ≠ "runtime.NumGoroutine") ∧
  Calls P f vs w fun e w' => ∃ x us' K', e = .returned x ∧ Rel us' w' K' r x ∧ Ext us w K us' w' K' ∧ Good us' w' K' st' ∧ Fresh st st' K K'
def LibOk (P : Program) (G : Nat → List Nat) (L : Lib) : Prop := FnsOk P G L ∧ PrimOk P L
theorem primOk_none {P : Program} {L : Lib} (h : ∀ f args st, L.prim f args st = none) : PrimOk P L := fun f args st r st' e => by rw [h] at e; simp at e

theorem compF_some {pure : FuncId → Bool} {keep : Nat → List Tmp} {f : FuncId} {fn : IF} (h : compF P pure keep f = some fn) :
    ∃ g c, P.funcs[f]? = some g ∧ g.body = some c ∧ g.name ≠ "runtime.NumGoroutine" ∧ compC P pure keep (pure f || !(keep gcKey).isEmpty) g.ntmps 0 c = some fn.code ∧ g.results.toList.mapM (compRes P) = some fn.res := by
  unfold compF at h
  split at h
  · rename_i g hg
    split at h
    · rename_i c hc
      split at h
      · rename_i ic r h1 h2
        split at h
        · simp at h
        · next hne =>
          simp only [Option.some.injEq] at h; subst h
          exact ⟨g, c, hg, hc, by simpa using hne, h1, h2⟩
      · simp at h
    · simp at h
  · simp at h

theorem body_sound {G : Nat → List Nat} {L : Lib} {call : CallF} {keep : Nat → List Tmp} {f : FuncId} {fn : IF} (n : Nat) (hmix : P.follows .mixedOrders = true) (hm : CallMono L.pure call) (hcall : CallOk P G L.pure call) (hcs : CallStore L.pure call) (hkg : ∀ g, keep (glKey + g) ≠ [] → keep (glKey + g) = G g) (hc : compF P L.pure keep f = some fn)
    {us : Us} {w : World} {K : Kx} {st st' : St} {args : List AV} {r : AV} {vs : Array Value} (hgl : GlobOk G us w) (hG : Good us w K st) (hr : Rels us w K args vs.toList) (hv : bodyAV L.pure call (fun b => loopAV b n) fn args st = some (r, st')) :
    Calls P f vs w fun e w' => ∃ x us' K', e = .returned x ∧ Rel us' w' K' r x ∧ Ext us w K us' w' K' ∧ Good us' w' K' st' ∧ NewK st.store.length st.tips.length K K' := by
  obtain ⟨g, c, h1, h2, h3, h4, h5⟩ := compF_some hc
  refine calls_of_wp h1 h2 ?_
  have hcode := (code_sound n hmix hm hcall hcs hkg c 0 fn.code h4).1
  have hsize : g.ntmps ≤ (vs ++ Array.replicate (g.ntmps - vs.size) undef).size := by simp; omega
  simp only [bodyAV] at hv
  split at hv
  · rename_i e s h6
    split at hv
    · rename_i xs h7
      simp only [Option.some.injEq, Prod.mk.injEq] at hv
      obtain ⟨rfl, rfl⟩ := hv
      refine hcode _ _ _ _ _ h6 us w K _ hgl hG (params_rel hr _ _) hsize _ (fun ex a' w' he => ?_)
      obtain ⟨rfl, us', K', g1, g2, g3, g4, g5, g6, g7, g8⟩ := he
      obtain ⟨v, q1, q2⟩ := results_sound (P := P) g2 g3 h5 h7
      exact ⟨g5, v, q1, v, us', K', rfl, q2, g1, g2, g6⟩
    · simp at hv
  · rename_i e s h6
    split at hv
    · rename_i xs h7
      simp only [Option.some.injEq, Prod.mk.injEq] at hv
      obtain ⟨rfl, rfl⟩ := hv
      refine hcode _ _ _ _ _ h6 us w K _ hgl hG (params_rel hr _ _) hsize _ (fun ex a' w' he => ?_)
      obtain ⟨rfl, us', K', g1, g2, g3, g4, g5, g6, g7, g8⟩ := he
      obtain ⟨v, q1, q2⟩ := results_sound (P := P) g2 g3 h5 h7
      exact ⟨g5, v, q1, v, us', K', rfl, q2, g1, g2, g6⟩
    · simp at hv
  · simp at hv

theorem good_nil {us : Us} {w : World} {K : Kx} {st : St} (hG : Good us w K st) : Good us w .nil ⟨[], []⟩ :=
  ⟨rfl, fun l c h => by simp [Kx.nil] at h, fun l c _ h => by simp [Kx.nil] at h, fun l l' c h => by simp [Kx.nil] at h, fun l l' c h => by simp [Kx.nil] at h, fun l c h => by simp [Kx.nil] at h, fun l c h => by simp [Kx.nil] at h, hG.uslt, fun l c h => by simp [Kx.nil] at h, fun l t c h => by simp [Kx.nil] at h⟩

theorem callAV_ok {G : Nat → List Nat} {L : Lib} (hmix : P.follows .mixedOrders = true) (hL : LibOk P G L) : ∀ n, CallOk P G L.pure (callAV L n)
  | 0 => fun f args st r st' h => by simp [callAV] at h
  | n + 1 => by
    intro f args st r st' h us w K S S' vs hG hgl hcp hr
    have ih := callAV_ok hmix hL n
    simp only [callAV, enterAV] at h
    split at h
    · rename_i fn hfn
      obtain ⟨keep, hkg, hc⟩ := hL.1 f fn hfn
      obtain ⟨g, c, h1, h2, h3, _, _⟩ := compF_some hc
      refine ⟨⟨g, h1, by simp [h2], h3⟩, ?_⟩
      by_cases hp : L.pure f = true
      · rw [if_pos hp] at h hcp
        obtain ⟨_, rfl, htips, hfree⟩ := hcp
        split at h
        · rename_i r1 st1 hb
          simp only [Option.some.injEq] at h
          refine (body_sound n hmix (callAV_mono L n) ih (callAV_store L n) hkg hc hgl (good_nil hG) hr.pubs hb).mono fun e w1 he => ?_
          obtain ⟨x, us1, K1, rfl, g1, g2, g3, _⟩ := he
          obtain ⟨us', K', q1, q2, q3, q4⟩ := leave_ok g3 g2 g1 hG htips hfree h
          exact ⟨x, us', K', rfl, q1, q2, q3, q4, fun _ c hc => (g2.frame c hc (fun l e => by simp [Kx.nil] at e) (fun t e => by simp [Kx.nil] at e)).1⟩
        · simp at h
      · rw [if_neg hp] at h hcp
        obtain ⟨rfl, rfl⟩ := hcp
        refine (body_sound n hmix (callAV_mono L n) ih (callAV_store L n) hkg hc hgl hG hr h).mono fun e w1 he => ?_
        obtain ⟨x, us1, K1, rfl, g1, g2, g3, g4⟩ := he
        refine ⟨x, us1, K1, rfl, g1, g2, g3, ⟨fun l c e => (g4.lm l c e).elim .inl (fun e2 => .inr ⟨e2, g3.lmlt l c e⟩), fun t e => (g4.tk t e).elim .inl (fun e2 => .inr ⟨e2, ?_⟩)⟩, fun h => absurd h hp⟩
        obtain ⟨c, hc⟩ := Option.isSome_iff_exists.1 e
        exact g3.tklt t c hc
    · obtain ⟨hp, _, h1⟩ := primAV_some h
      rw [if_neg (by rw [hp]; simp)] at hcp
      obtain ⟨rfl, rfl⟩ := hcp
      obtain ⟨q1, q2⟩ := hL.2 f args S r S' h1 us w K vs hG hr
      refine ⟨q1, q2.mono fun e w1 he => ?_⟩
      obtain ⟨x, us1, K1, rfl, g1, g2, g3, g4⟩ := he
      exact ⟨x, us1, K1, rfl, g1, g2, g3, g4, fun h => by rw [hp] at h; simp at h⟩
end
end Go.Ev

namespace Go.Ev
open Go Go.RowKit

section
variable {P : Program}

theorem good_start {us : Us} {w : World} (hus : ∀ c n, us c = some n → c < w.heap.size) (T : List Nat) : Good us w ⟨fun _ => none, fun _ => none, T⟩ ⟨[], T⟩ :=
  ⟨rfl, fun l c h => by simp at h, fun l c _ h => by simp at h, fun l l' c h => by simp at h, fun l l' c h => by simp at h, fun l c h => by simp at h, fun l c h => by simp at h, hus, fun l c h => by simp at h, fun l t c h => by simp at h⟩

/-- The evaluator's answer is the program's. -/
theorem top {G : Nat → List Nat} {L : Lib} (hmix : P.follows .mixedOrders = true) (hL : LibOk P G L) {n : Nat} {f : FuncId} {args : List AV} {x : Value} {st : St} (hp : L.pure f = true) (h : callAV L n f args ⟨[], []⟩ = some (.v x, st))
    {us : Us} {w : World} {vs : Array Value} (hus : ∀ c n, us c = some n → c < w.heap.size) (hgl : GlobOk G us w) (hr : Rels us w .nil args vs.toList) :
    Calls P f vs w fun e w' => e = .returned x ∧ Below w.heap.size w w' := by
  have hcall := callAV_ok hmix hL n f args ⟨[], []⟩ _ st h us w ⟨fun _ => none, fun _ => none, st.tips⟩ ⟨[], st.tips⟩ ⟨[], st.tips⟩ vs (good_start hus _) hgl
    (by
      rw [if_pos hp]
      exact ⟨callAV_store L n _ _ _ _ _ h hp, rfl, ⟨[], by simp⟩, fun _ _ _ => rfl⟩) hr.ofNil
  refine hcall.2.mono fun e w' he => ?_
  obtain ⟨y, us', K', rfl, h1, h2, _, _, _⟩ := he
  rw [h1.v_inv]
  exact ⟨rfl, h2.os, h2.tape, h2.output, h2.size, fun k hk => (h2.frame k hk (fun _ e => by simp at e) (fun _ e => by simp at e)).1⟩

theorem top' {G : Nat → List Nat} {L : Lib} (hmix : P.follows .mixedOrders = true) (hL : LibOk P G L) {n : Nat} {f : FuncId} {args : List AV} {x : Value} {st : St} (h : callAV L n f args ⟨[], []⟩ = some (.v x, st))
    {us : Us} {w : World} {vs : Array Value} (hus : ∀ c n, us c = some n → c < w.heap.size) (hgl : GlobOk G us w) (hr : Rels us w .nil args vs.toList) :
    Calls P f vs w fun e w' => e = .returned x ∧ Below w.heap.size w w' := by
  by_cases hp : L.pure f = true
  · exact top hmix hL hp h hus hgl hr
  · have hcall := callAV_ok hmix hL n f args ⟨[], []⟩ _ st h us w .nil ⟨[], []⟩ st vs (good_start hus _) hgl
      (by rw [if_neg hp]; exact ⟨rfl, rfl⟩) hr
    refine hcall.2.mono fun e w' he => ?_
    obtain ⟨y, us', K', rfl, h1, h2, _, _, _⟩ := he
    rw [h1.v_inv]
    exact ⟨rfl, h2.os, h2.tape, h2.output, h2.size, fun k hk => (h2.frame k hk (fun _ e => by simp [Kx.nil] at e) (fun _ e => by simp [Kx.nil] at e)).1⟩

/-- What the row asks of a call that leaves all old memory as it was. -/
theorem post_of_below {H : Type} {enc : TypeId × Value → H} {f : Func} {s : ChangeSpec} {apart fresh handsOn : Bool} {W W' : World} {args : Array Value} {v : Value} {ds gs : List (DataW H)} {before pa pv : List MemPlace}
    (hW : DataW.Whole enc P f.params.toList s.vars apart W args.toList ds gs before) (hb : Below W.heap.size W W')
    (hres : ∀ (b : Nat) (sp : Nat → Bool) (hd : Bool), DataW.TrodAll enc P W' b sp hd f.resultTypes.toList (v.resultList f.resultTypes.size) (s.fn H (ds ++ gs)).results [])
    (hargs : DataW.TrodAll enc P W' 0 (fun b => decide (b < W.heap.size)) true f.params.toList args.toList (s.fn H (ds ++ gs)).args pa)
    (hvars : DataW.TrodVars enc P W' (fun b => decide (b < W.heap.size)) s.vars (s.fn H (ds ++ gs)).vars pv)
    (hps : before = pa ++ pv) : s.post enc P f apart fresh handsOn false W args v W' :=
  ⟨ds, gs, before, [], pa, pv, hW, hres _ _ _, hargs, hvars, World.keptBut_mono (fun p hp => ⟨hp, by
    rw [hps, List.mem_append] at hp
    exact Or.inr hp⟩) (hb.frame (· ∈ before)), fun h => by simp at h⟩
end
end Go.Ev

namespace Go.Ev
open Go Go.RowKit

/-! ## The evaluator without a count of steps -/

def Up {α : Type} (g : Nat → Option α) : Prop := ∀ n m r, n ≤ m → g n = some r → g m = some r

open Classical in
noncomputable def limit {α : Type} (g : Nat → Option α) : Option α := if h : ∃ r n, g n = some r then some h.choose else none

theorem limit_some {α : Type} {g : Nat → Option α} (h : Up g) (r : α) : limit g = some r ↔ ∃ n, g n = some r := by
  unfold limit
  split
  · rename_i hex
    obtain ⟨n, hn⟩ := hex.choose_spec
    constructor
    · intro e; simp only [Option.some.injEq] at e; exact ⟨n, by rw [hn, e]⟩
    · rintro ⟨m, hm⟩
      have h1 := h n (max n m) _ (Nat.le_max_left _ _) hn
      have h2 := h m (max n m) _ (Nat.le_max_right _ _) hm
      rw [h1] at h2
      exact h2
  · rename_i hex
    constructor
    · intro e; simp at e
    · rintro ⟨m, hm⟩; exact absurd ⟨r, m, hm⟩ hex

def CLe (c c' : CallF) : Prop := ∀ f a s r, c f a s = some r → c' f a s = some r
def BLe (b b' : Env → St → Out) : Prop := ∀ e s r, b e s = some r → b' e s = some r
def LLe (l l' : LoopF) : Prop := ∀ b b', BLe b b' → BLe (l b) (l' b')

section
variable {pure : FuncId → Bool} {c c' : CallF} {l l' : LoopF}

theorem opAV_le (h : CLe c c') {env : Env} {st : St} {k : IK} {r : AV × St} (hv : opAV pure c env st k = some r) : opAV pure c' env st k = some r := by
  cases k <;> simp only [opAV] at hv ⊢ <;> first
    | exact hv
    | (split at hv
       · next hp => rw [if_pos hp]; exact h _ _ _ _ hv
       · simp at hv)
    | (split at hv
       · split at hv
         · next hp => rw [if_pos hp]; exact h _ _ _ _ hv
         · simp at hv
       · simp at hv)
    | (split at hv
       · split at hv
         · split at hv
           · next hp => rw [if_pos hp]; exact h _ _ _ _ hv
           · simp at hv
         · simp at hv
       · simp at hv)
    | (split at hv
       · next hp =>
         rw [if_pos hp]
         split at hv
         · rename_i r1 st1 hc; rw [h _ _ _ _ hc]; exact hv
         · simp at hv
       · simp at hv)

theorem opsAV_le (h : CLe c c') : ∀ (ks : List IOp) (env : Env) (st : St) (r : Env × St), opsAV pure c ks env st = some r → opsAV pure c' ks env st = some r
  | [], _, _, _, hv => hv
  | o :: ks, env, st, r, hv => by
    simp only [opsAV] at hv ⊢
    split at hv
    · rename_i hw
      split at hv
      · rename_i a s ho
        rw [opAV_le h ho]
        exact opsAV_le h ks _ _ _ hv
      · simp at hv
    · exact opsAV_le h ks _ _ _ hv
    · simp at hv

theorem codeAV_le (h : CLe c c') (hl : LLe l l') : ∀ (ic : IC) (env : Env) (st : St) (r : X × Env × St), codeAV pure c l ic env st = some r → codeAV pure c' l' ic env st = some r := by
  intro ic
  induction ic with
  | skip => intro env st r hv; exact hv
  | exit i => intro env st r hv; exact hv
  | ret => intro env st r hv; exact hv
  | frz ts => intro env st r hv; exact hv
  | frzp ts => intro env st r hv; exact hv
  | lost l =>
    intro env st r hv
    simp only [codeAV] at hv ⊢
    split at hv
    · rename_i e1 s1 ho
      rw [opsAV_le h _ _ _ _ ho]
      exact hv
    · simp at hv
  | ops ks =>
    intro env st r hv
    simp only [codeAV] at hv ⊢
    split at hv
    · rename_i e s ho; rw [opsAV_le h _ _ _ _ ho]; exact hv
    · simp at hv
  | seq a b iha ihb =>
    intro env st r hv
    simp only [codeAV] at hv ⊢
    split at hv
    · rename_i e s ho; rw [iha _ _ _ ho]; exact ihb _ _ _ hv
    · rename_i hne
      rw [iha _ _ _ hv]
      split
      · rename_i e s he; simp only [Option.some.injEq] at he; subst he; exact absurd hv (hne _ _)
      · rfl
  | cond x a b iha ihb =>
    intro env st r hv
    simp only [codeAV] at hv ⊢
    split at hv
    · rename_i t ht
      cases t
      · exact ihb _ _ _ hv
      · exact iha _ _ _ hv
    · simp at hv
  | block i a iha =>
    intro env st r hv
    simp only [codeAV] at hv ⊢
    split at hv
    · rename_i j e s ho; rw [iha _ _ _ ho]; exact hv
    · rename_i hne
      rw [iha _ _ _ hv]
      split
      · rename_i j e s he; simp only [Option.some.injEq] at he; subst he; exact absurd hv (hne _ _ _)
      · rfl
  | loop gc ks a iha =>
    intro env st r hv
    simp only [codeAV] at hv ⊢
    exact hl _ _ (fun e s r hb => iha _ _ _ hb) _ _ _ hv

theorem bodyAV_le (h : CLe c c') (hl : LLe l l') {fn : IF} {args : List AV} {st : St} {r : AV × St} (hv : bodyAV pure c l fn args st = some r) : bodyAV pure c' l' fn args st = some r := by
  simp only [bodyAV] at hv ⊢
  split at hv
  · rename_i e s ho; rw [codeAV_le h hl _ _ _ _ ho]; exact hv
  · rename_i e s ho; rw [codeAV_le h hl _ _ _ _ ho]; exact hv
  · simp at hv

theorem enterAV_le {L : Lib} (h : CLe c c') (hl : LLe l l') : CLe (enterAV L c l) (enterAV L c' l') := by
  intro f args st r hv
  simp only [enterAV] at hv ⊢
  split at hv
  · rename_i fn hfn
    by_cases hp : L.pure f = true
    · rw [if_pos hp] at hv ⊢
      split at hv
      · rename_i r1 s1 hb; rw [bodyAV_le h hl hb]; exact hv
      · simp at hv
    · rw [if_neg hp] at hv ⊢
      exact bodyAV_le h hl hv
  · exact hv

theorem loopAV_le {b b' : Env → St → Out} (h : BLe b b') : ∀ (n m : Nat), n ≤ m → BLe (loopAV b n) (loopAV b' m)
  | 0, _, _ => fun e s r hv => by simp [loopAV] at hv
  | n + 1, 0, hnm => absurd hnm (by omega)
  | n + 1, m + 1, hnm => fun e s r hv => by
    simp only [loopAV] at hv ⊢
    split at hv
    · rename_i e1 s1 ho; rw [h _ _ _ ho]; exact loopAV_le h n m (by omega) _ _ _ hv
    · rename_i hne
      rw [h _ _ _ hv]
      split
      · rename_i e1 s1 he; simp only [Option.some.injEq] at he; subst he; exact absurd hv (hne _ _)
      · rfl

theorem loops_le {n m : Nat} (h : n ≤ m) : LLe (fun b => loopAV b n) (fun b => loopAV b m) := fun _ _ hb => loopAV_le hb n m h

theorem callAV_le (L : Lib) : ∀ (n m : Nat), n ≤ m → CLe (callAV L n) (callAV L m)
  | 0, _, _ => fun f a s r hv => by simp [callAV] at hv
  | n + 1, 0, hnm => absurd hnm (by omega)
  | n + 1, m + 1, hnm => enterAV_le (callAV_le L n m (by omega)) (loops_le (by omega))

noncomputable def run (L : Lib) : CallF := fun f args st => limit fun n => callAV L n f args st
noncomputable def lim : LoopF := fun b env st => limit fun n => loopAV b n env st

theorem run_some (L : Lib) {f : FuncId} {args : List AV} {st : St} {r : AV × St} : run L f args st = some r ↔ ∃ n, callAV L n f args st = some r :=
  limit_some (fun n m _ h hv => callAV_le L n m h _ _ _ _ hv) r
theorem lim_some {b : Env → St → Out} {env : Env} {st : St} {r : X × Env × St} : lim b env st = some r ↔ ∃ n, loopAV b n env st = some r :=
  limit_some (fun n m _ h hv => loopAV_le (fun _ _ _ h => h) n m h _ _ _ hv) r

theorem callAV_run (L : Lib) (n : Nat) : CLe (callAV L n) (run L) := fun _ _ _ _ h => (run_some L).2 ⟨n, h⟩
theorem loopAV_lim (n : Nat) : LLe (fun b => loopAV b n) lim := fun _ _ hb _ _ _ h => lim_some.2 ⟨n, loopAV_le hb n n (Nat.le_refl _) _ _ _ h⟩

/-- A loop's round. -/
theorem lim_eq (b : Env → St → Out) (env : Env) (st : St) : lim b env st = match b env st with | some (.normal, env, st) => lim b env st | r => r := by
  apply Option.ext
  intro r
  rw [lim_some]
  constructor
  · rintro ⟨n, h⟩
    cases n with
    | zero => simp [loopAV] at h
    | succ n =>
      simp only [loopAV] at h
      split at h
      · rename_i e1 s1 ho
        rw [ho]
        exact lim_some.2 ⟨n, h⟩
      · rename_i hne
        split
        · rename_i e1 s1 he; exact absurd he (hne _ _)
        · exact h
  · intro h
    split at h
    · rename_i e1 s1 ho
      obtain ⟨n, hn⟩ := lim_some.1 h
      exact ⟨n + 1, by simp only [loopAV, ho, hn]⟩
    · rename_i hne
      refine ⟨1, ?_⟩
      simp only [loopAV]
      exact h

/-! ### each result is reached in finitely many steps -/

theorem opAV_cont {L : Lib} {env : Env} {st : St} {k : IK} {r : AV × St} (hv : opAV pure (run L) env st k = some r) : ∃ n, opAV pure (callAV L n) env st k = some r := by
  cases k <;> simp only [opAV] at hv ⊢ <;> first
    | exact ⟨0, hv⟩
    | (split at hv
       · next hp => obtain ⟨n, hn⟩ := (run_some L).1 hv; exact ⟨n, by rw [if_pos hp]; exact hn⟩
       · simp at hv)
    | (split at hv
       · split at hv
         · next hp => obtain ⟨n, hn⟩ := (run_some L).1 hv; exact ⟨n, by rw [if_pos hp]; exact hn⟩
         · simp at hv
       · simp at hv)
    | (split at hv
       · split at hv
         · split at hv
           · next hp => obtain ⟨n, hn⟩ := (run_some L).1 hv; exact ⟨n, by rw [if_pos hp]; exact hn⟩
           · simp at hv
         · simp at hv
       · simp at hv)
    | (split at hv
       · next hp =>
         split at hv
         · rename_i r1 st1 hc
           obtain ⟨n, hn⟩ := (run_some L).1 hc
           exact ⟨n, by rw [if_pos hp, hn]; exact hv⟩
         · simp at hv
       · simp at hv)

theorem opsAV_cont {L : Lib} : ∀ (ks : List IOp) (env : Env) (st : St) (r : Env × St), opsAV pure (run L) ks env st = some r → ∃ n, opsAV pure (callAV L n) ks env st = some r
  | [], _, _, _, hv => ⟨0, hv⟩
  | o :: ks, env, st, r, hv => by
    simp only [opsAV] at hv ⊢
    split at hv
    · rename_i hw
      split at hv
      · rename_i a s ho
        obtain ⟨n1, h1⟩ := opAV_cont ho
        obtain ⟨n2, h2⟩ := opsAV_cont ks _ _ _ hv
        refine ⟨max n1 n2, ?_⟩
        rw [opAV_le (callAV_le L n1 _ (Nat.le_max_left _ _)) h1]
        exact opsAV_le (callAV_le L n2 _ (Nat.le_max_right _ _)) _ _ _ _ h2
      · simp at hv
    · exact opsAV_cont ks _ _ _ hv
    · simp at hv

theorem codeAV_cont {L : Lib} : ∀ (ic : IC) (env : Env) (st : St) (r : X × Env × St), codeAV pure (run L) lim ic env st = some r → ∃ n, codeAV pure (callAV L n) (fun b => loopAV b n) ic env st = some r := by
  intro ic
  induction ic with
  | skip => intro env st r hv; exact ⟨0, hv⟩
  | exit i => intro env st r hv; exact ⟨0, hv⟩
  | ret => intro env st r hv; exact ⟨0, hv⟩
  | frz ts => intro env st r hv; exact ⟨0, hv⟩
  | frzp ts => intro env st r hv; exact ⟨0, hv⟩
  | lost l =>
    intro env st r hv
    simp only [codeAV] at hv ⊢
    split at hv
    · rename_i e1 s1 ho
      obtain ⟨n, hn⟩ := opsAV_cont _ _ _ _ ho
      exact ⟨n, by rw [hn]; exact hv⟩
    · simp at hv
  | ops ks =>
    intro env st r hv
    simp only [codeAV] at hv ⊢
    split at hv
    · rename_i e s ho
      obtain ⟨n, hn⟩ := opsAV_cont _ _ _ _ ho
      exact ⟨n, by rw [hn]; exact hv⟩
    · simp at hv
  | seq a b iha ihb =>
    intro env st r hv
    simp only [codeAV] at hv ⊢
    split at hv
    · rename_i e s ho
      obtain ⟨n1, h1⟩ := iha _ _ _ ho
      obtain ⟨n2, h2⟩ := ihb _ _ _ hv
      refine ⟨max n1 n2, ?_⟩
      rw [codeAV_le (callAV_le L n1 _ (Nat.le_max_left _ _)) (loops_le (Nat.le_max_left _ _)) _ _ _ _ h1]
      exact codeAV_le (callAV_le L n2 _ (Nat.le_max_right _ _)) (loops_le (Nat.le_max_right _ _)) _ _ _ _ h2
    · rename_i hne
      obtain ⟨n, hn⟩ := iha _ _ _ hv
      refine ⟨n, ?_⟩
      rw [hn]
      split
      · rename_i e s he; simp only [Option.some.injEq] at he; subst he; exact absurd hv (hne _ _)
      · rfl
  | cond x a b iha ihb =>
    intro env st r hv
    simp only [codeAV] at hv ⊢
    split at hv
    · rename_i t ht
      cases t
      · exact ihb _ _ _ hv
      · exact iha _ _ _ hv
    · simp at hv
  | block i a iha =>
    intro env st r hv
    simp only [codeAV] at hv ⊢
    split at hv
    · rename_i j e s ho
      obtain ⟨n, hn⟩ := iha _ _ _ ho
      exact ⟨n, by rw [hn]; exact hv⟩
    · rename_i hne
      obtain ⟨n, hn⟩ := iha _ _ _ hv
      refine ⟨n, ?_⟩
      rw [hn]
      split
      · rename_i j e s he; simp only [Option.some.injEq] at he; subst he; exact absurd hv (hne _ _ _)
      · rfl
  | loop gc ks a iha =>
    intro env st r hv
    simp only [codeAV] at hv ⊢
    obtain ⟨k, hk⟩ := lim_some.1 hv
    clear hv
    generalize st.store.length = lo at hk ⊢
    generalize st.tips.length = hi at hk ⊢
    have bodies : ∀ n m, n ≤ m → BLe (fun env' st' => codeAV pure (callAV L n) (fun b => loopAV b n) a (gcAV gc lo hi (canon env' ks) st').1 (gcAV gc lo hi (canon env' ks) st').2)
        (fun env' st' => codeAV pure (callAV L m) (fun b => loopAV b m) a (gcAV gc lo hi (canon env' ks) st').1 (gcAV gc lo hi (canon env' ks) st').2) :=
      fun n m h e s r hb => codeAV_le (callAV_le L n m h) (loops_le h) _ _ _ _ hb
    induction k generalizing env st with
    | zero => simp [loopAV] at hk
    | succ k ih =>
      simp only [loopAV] at hk
      split at hk
      · rename_i e1 s1 ho
        obtain ⟨n1, h1⟩ := iha _ _ _ ho
        obtain ⟨n2, h2⟩ := ih e1 s1 hk
        refine ⟨max n1 n2 + 1, ?_⟩
        have h3 := bodies n1 (max n1 n2 + 1) (by omega) env st _ h1
        have h4 := loopAV_le (bodies n2 (max n1 n2 + 1) (by omega)) n2 (max n1 n2) (by omega) _ _ _ h2
        rw [loopAV]
        split
        · rename_i e2 s2 he
          have he := h3.symm.trans he
          simp only [Option.some.injEq, Prod.mk.injEq, true_and] at he
          obtain ⟨rfl, rfl⟩ := he
          exact h4
        · rename_i hne
          exact absurd h3 (hne _ _)
      · rename_i hne
        obtain ⟨n, hn⟩ := iha _ _ _ hk
        refine ⟨n + 1, ?_⟩
        have h3 := bodies n (n + 1) (by omega) env st _ hn
        rw [loopAV]
        split
        · rename_i e2 s2 he
          have he := h3.symm.trans he
          simp only [Option.some.injEq] at he
          subst he
          exact absurd hk (hne _ _)
        · exact h3

theorem bodyAV_cont {L : Lib} {fn : IF} {args : List AV} {st : St} {r : AV × St} (hv : bodyAV pure (run L) lim fn args st = some r) : ∃ n, bodyAV pure (callAV L n) (fun b => loopAV b n) fn args st = some r := by
  simp only [bodyAV] at hv ⊢
  split at hv
  · rename_i e s ho
    obtain ⟨n, hn⟩ := codeAV_cont _ _ _ _ ho
    exact ⟨n, by rw [hn]; exact hv⟩
  · rename_i e s ho
    obtain ⟨n, hn⟩ := codeAV_cont _ _ _ _ ho
    exact ⟨n, by rw [hn]; exact hv⟩
  · simp at hv

/-- A call, without a count. -/
theorem run_eq (L : Lib) (f : FuncId) (args : List AV) (st : St) : run L f args st = enterAV L (run L) lim f args st := by
  apply Option.ext
  intro r
  rw [run_some]
  constructor
  · rintro ⟨n, h⟩
    cases n with
    | zero => simp [callAV] at h
    | succ n => exact enterAV_le (callAV_run L n) (loopAV_lim n) _ _ _ _ h
  · intro h
    simp only [enterAV] at h
    split at h
    · rename_i fn hfn
      by_cases hp : L.pure f = true
      · rw [if_pos hp] at h
        split at h
        · rename_i r1 s1 hb
          obtain ⟨n, hn⟩ := bodyAV_cont hb
          exact ⟨n + 1, by simp only [callAV, enterAV, hfn, if_pos hp, hn]; exact h⟩
        · simp at h
      · rw [if_neg hp] at h
        obtain ⟨n, hn⟩ := bodyAV_cont h
        exact ⟨n + 1, by simp only [callAV, enterAV, hfn, if_neg hp, hn]⟩
    · rename_i hfn
      exact ⟨1, by simp only [callAV, enterAV, hfn]; exact h⟩
end

theorem top_run {P : Program} {G : Nat → List Nat} {L : Lib} (hmix : P.follows .mixedOrders = true) (hL : LibOk P G L) {f : FuncId} {args : List AV} {x : Value} {st : St} (h : run L f args ⟨[], []⟩ = some (.v x, st))
    {us : Us} {w : World} {vs : Array Value} (hus : ∀ c n, us c = some n → c < w.heap.size) (hgl : GlobOk G us w) (hr : Rels us w .nil args vs.toList) :
    Calls P f vs w fun e w' => e = .returned x ∧ Below w.heap.size w w' := by
  obtain ⟨n, hn⟩ := (run_some L).1 h
  exact top' hmix hL hn hus hgl hr
end Go.Ev

namespace Go.Ev
open Go Go.RowKit

/-! ## Arguments: from 'it reads as data' to values of the evaluator. -/

/-- Numbers, bools, structs and arrays of them. -/
def flatTy (P : Program) : Nat → TypeId → Bool
  | 0, _ => false
  | d + 1, t =>
    match P.underlying t with
    | some (.int _) => true
    | some .bool => true
    | some (.struct fs) => fs.toList.all fun (f : Field) => flatTy P d f.type
    | some (.array _ e) => flatTy P d e
    | _ => false

/-- Slices of these, as elements of a slice. -/
def nestTy (P : Program) : Nat → TypeId → Bool
  | 0, _ => false
  | d + 1, t =>
    match P.underlying t with
    | some (.slice e) => flatTy P d e && decide (0 < P.cellsOf e) && decide (P.cellsOf t = 1)
    | _ => false

/-- Slices of these too, in structs. -/
def okTy (P : Program) : Nat → TypeId → Bool
  | 0, _ => false
  | d + 1, t =>
    flatTy P (d + 1) t ||
    match P.underlying t with
    | some (.slice e) => (flatTy P d e && decide (0 < P.cellsOf e)) || nestTy P d e
    | some (.struct fs) => (fs.toList.all fun (f : Field) => okTy P d f.type) && decide (t < P.types.size)
    | _ => false

def aggB (P : Program) (t : TypeId) : Bool :=
  match P.underlying t with
  | some (.struct _) => true
  | some (.array _ _) => true
  | _ => false

/-- A slice without elements that is not nil, as an element of a slice. -/
def weird (P : Program) (e : TypeId) (x : AV) : Prop := (∃ e2, P.underlying e = some (.slice e2)) ∧ ∃ a cap, x = .v (.slice (some a) 0 cap)

/-- What the cells of a value of a type are. -/
def Sh (P : Program) : Nat → TypeId → List AV → Prop
  | 0, _, _ => False
  | d + 1, t, as =>
    match P.underlying t with
    | some (.int k) => ∃ n, as = [.v (.int k n)] ∧ (Lit.int k n).wf = true
    | some .bool => ∃ b, as = [.v (.bool b)]
    | some (.struct fs) => as.length = P.cellsOf t ∧ ∀ (i : Nat) (f : Field), fs[i]? = some f → Sh P d f.type ((as.drop f.offset).take (P.cellsOf f.type))
    | some (.array n e) => as.length = P.cellsOf t ∧ ∀ i : Nat, i < n → Sh P d e ((as.drop (i * P.cellsOf e)).take (P.cellsOf e))
    | some (.slice e) => as = [.v (.slice none 0 0)] ∨ ∃ xs : List AV, as = [.lst .any (P.cellsOf e) xs] ∧ xs.length ≤ maxLen ∧
        ∀ x ∈ xs, (if aggB P e = true then ∃ cs, x = .agg cs ∧ Sh P d e cs else Sh P d e [x]) ∨ weird P e x
    | _ => False

def usOf (N : Nat) (w : World) : Us := fun c => match w.heap[c]? with | some (.cells cs _ _) => some (max N cs.size) | _ => none
theorem usOf_lt {N : Nat} {w : World} {c n : Nat} (h : usOf N w c = some n) : c < w.heap.size := by
  unfold usOf at h
  split at h
  · next h1 => exact (Array.getElem?_eq_some_iff.1 h1).1
  · simp at h
theorem usOf_cell (N : Nat) {w : World} {a : Addr} {x : Value} (h : w.cell? a = some x) : a.spot = none ∧ ∃ n, usOf N w a.block = some n ∧ a.off < n := by
  unfold World.cell? at h
  unfold usOf
  split at h
  · next cs _ _ h1 =>
    rw [h1]
    split at h
    · simp at h
    · next hs => exact ⟨by simpa using hs, _, rfl, Nat.lt_of_lt_of_le (Array.getElem?_eq_some_iff.1 h).1 (Nat.le_max_right _ _)⟩
  · simp at h

theorem add_none {a : Addr} (h : a.spot = none) (i : Nat) : a.add i = ⟨a.block, a.off + i, none⟩ := by
  obtain ⟨b, o, s⟩ := a
  simp only at h
  subst h
  unfold Addr.add
  split
  · next h => subst h; rfl
  · rfl

/-- An empty slice that is not nil lies somewhere. -/
def Sound (N : Nat) (w : World) (cs : List Value) : Prop := ∀ x ∈ cs, ∀ a cap, x = .slice (some a) 0 cap → a.spot = none ∧ ∃ n, usOf N w a.block = some n ∧ a.off ≤ n

def RelCells (N : Nat) (w : World) (as : List AV) (cs : List Value) : Prop :=
  as.length = cs.length ∧ ∀ i (h : i < as.length) (h' : i < cs.length), Rel (usOf N w) w .nil as[i] cs[i]

theorem flatten_part {α : Type} : ∀ (L : List (List α)) (j : Nat) (l : List α), L[j]? = some l → (L.flatten.drop ((L.take j).map List.length).sum).take l.length = l
  | [], j, l, h => by simp at h
  | a :: r, 0, l, h => by simp at h; subst h; simp
  | a :: r, j + 1, l, h => by
    simp only [List.getElem?_cons_succ] at h
    have ih := flatten_part r j l h
    simp only [List.flatten_cons, List.take_succ_cons, List.map_cons, List.sum_cons]
    rw [List.drop_append, List.drop_eq_nil_of_le (by omega), List.nil_append, show a.length + ((r.take j).map List.length).sum - a.length = ((r.take j).map List.length).sum by omega]
    exact ih

/-- Values without references. -/
def FlatCells (cs : List Value) : Prop := ∀ c ∈ cs, plainV c = true ∧ c.oneCell' = true ∧ ∀ a l k, c ≠ .slice a l k

theorem FlatCells.rel (N : Nat) {w : World} {cs : List Value} (h : FlatCells cs) : RelCells N w (cs.map .v) cs :=
  ⟨by simp, fun i h1 h2 => by simp only [List.getElem_map]; exact .v _ _ (h _ (List.getElem_mem h2)).1⟩

section
variable {H : Type} {enc : TypeId × Value → H} {P : Program} {w : World} {base : Nat} {spare : Nat → Bool} {held : Bool}

/-- Every cell lies in one of the parts. -/
theorem parts_mem {α : Type} {cs : List α} {ns os : List Nat} (hlen : cs.length = ns.sum) (hos : ∀ j o, os[j]? = some o → o = (ns.take j).sum) (hl : os.length = ns.length) {c : α} (hc : c ∈ cs) :
    ∃ (j o n : Nat), os[j]? = some o ∧ ns[j]? = some n ∧ c ∈ (cs.drop o).take n := by
  obtain ⟨i, hi, rfl⟩ := List.getElem_of_mem hc
  have : ∀ (ns : List Nat) (i : Nat), i < ns.sum → ∃ j n, ns[j]? = some n ∧ (ns.take j).sum ≤ i ∧ i < (ns.take j).sum + n := by
    intro ns
    induction ns with
    | nil => intro i h; simp at h
    | cons a r ih =>
      intro i h
      by_cases h0 : i < a
      · exact ⟨0, a, rfl, by simp, by simpa using h0⟩
      · simp only [List.sum_cons] at h
        obtain ⟨j, n, h1, h2, h3⟩ := ih (i - a) (by omega)
        refine ⟨j + 1, n, by simpa using h1, ?_, ?_⟩ <;> simp only [List.take_succ_cons, List.sum_cons] <;> omega
  obtain ⟨j, n, h1, h2, h3⟩ := this ns i (by omega)
  have hj : j < ns.length := (List.getElem?_eq_some_iff.1 h1).1
  have ho : os[j]? = some os[j] := List.getElem?_eq_getElem (by omega)
  refine ⟨j, os[j], n, ho, h1, ?_⟩
  have := hos j _ ho
  rw [List.mem_iff_getElem]
  refine ⟨i - os[j], by simp; omega, ?_⟩
  simp only [List.getElem_take, List.getElem_drop]
  congr 1; omega

theorem flat_sh (hl : laidOutB P = true) : ∀ (d : Nat) (t : TypeId), t < P.types.size → flatTy P d t = true → ∀ (fuel : Nat) (cs : List Value) (x : DataW H × List MemPlace), DataW.trod enc P w base spare held fuel t cs = some x →
    Sh P d t (cs.map .v) ∧ FlatCells cs ∧ (aggB P t = false → ∃ c, cs = [c])
  | 0, t, _, h => by simp [flatTy] at h
  | d + 1, t, htl, h => by
    intro fuel cs x hx
    simp only [flatTy] at h
    simp only [Sh]
    split at h
    · next k hu =>
      obtain ⟨n, rfl, _, hw⟩ := DataW.trod_int hu hx
      refine ⟨by rw [hu]; exact ⟨n, rfl, hw⟩, fun c hc => ?_, fun _ => ⟨_, rfl⟩⟩
      simp at hc; subst hc; exact ⟨rfl, rfl, by simp⟩
    · next hu =>
      obtain ⟨b, rfl, _⟩ := DataW.trod_bool hu hx
      refine ⟨by rw [hu]; exact ⟨b, rfl⟩, fun c hc => ?_, fun _ => ⟨_, rfl⟩⟩
      simp at hc; subst hc; exact ⟨rfl, rfl, by simp⟩
    · next fs hu =>
      obtain ⟨xs, n, rfl, _, hcl, hxl, hf⟩ := DataW.trod_struct hu hx
      obtain ⟨k1, k2, k3⟩ := kid_struct hl htl hu
      have each : ∀ (i : Nat) (f : Field), fs[i]? = some f → Sh P d f.type (((cs.drop f.offset).take (P.cellsOf f.type)).map .v) ∧ FlatCells ((cs.drop f.offset).take (P.cellsOf f.type)) := by
        intro i f hfi
        have h1 := hf i f hfi
        have hi : i < xs.length := by rw [hxl]; exact (Array.getElem?_eq_some_iff.1 hfi).1
        rw [List.getElem?_eq_getElem hi] at h1
        have hm : f ∈ fs.toList := by obtain ⟨hi, rfl⟩ := Array.getElem?_eq_some_iff.1 hfi; exact Array.mem_toList_iff.2 (Array.getElem_mem hi)
        have := flat_sh hl d f.type (k1 f hm) (List.all_eq_true.1 h f hm) n _ _ h1
        exact ⟨this.1, this.2.1⟩
      refine ⟨by rw [hu]; exact ⟨by simpa using hcl, fun i f hfi => by rw [← List.map_drop, ← List.map_take]; exact (each i f hfi).1⟩, fun c hc => ?_, fun ha => by simp [aggB, hu] at ha⟩
      obtain ⟨j, o, m, h1, h2, h3⟩ := parts_mem (ns := fs.toList.map fun f => P.cellsOf f.type) (os := fs.toList.map (·.offset)) (by rw [hcl, k2]) (fun j o hj => by
        simp only [List.getElem?_map, Option.map_eq_some_iff] at hj
        obtain ⟨f, hj, rfl⟩ := hj
        rw [k3 j f hj, List.map_take]) (by simp) hc
      simp only [List.getElem?_map, Option.map_eq_some_iff] at h1 h2
      obtain ⟨f, h1, rfl⟩ := h1
      obtain ⟨f', h2, rfl⟩ := h2
      rw [h1] at h2
      simp only [Option.some.injEq] at h2
      subst h2
      exact (each j f (by simpa using h1)).2 c h3
    · next n e hu =>
      obtain ⟨xs, m, rfl, _, hcl, hxl, hf⟩ := DataW.trod_array hu hx
      obtain ⟨k1, k2⟩ := kid_array hl htl hu
      have each : ∀ i, i < n → Sh P d e (((cs.drop (i * P.cellsOf e)).take (P.cellsOf e)).map .v) ∧ FlatCells ((cs.drop (i * P.cellsOf e)).take (P.cellsOf e)) := by
        intro i hi
        have h1 := hf i hi
        rw [List.getElem?_eq_getElem (by omega)] at h1
        have := flat_sh hl d e k1 h m _ _ h1
        exact ⟨this.1, this.2.1⟩
      refine ⟨by rw [hu]; exact ⟨by simpa using hcl, fun i hi => by rw [← List.map_drop, ← List.map_take]; exact (each i hi).1⟩, fun c hc => ?_, fun ha => by simp [aggB, hu] at ha⟩
      obtain ⟨i, hi, rfl⟩ := List.getElem_of_mem hc
      rw [hcl, k2] at hi
      have hz : 0 < P.cellsOf e := by
        rcases Nat.eq_zero_or_pos (P.cellsOf e) with h0 | h0
        · rw [h0] at hi; simp at hi
        · exact h0
      have hq : i / P.cellsOf e < n := Nat.div_lt_of_lt_mul (by rw [Nat.mul_comm]; exact hi)
      refine (each (i / P.cellsOf e) hq).2 _ ?_
      rw [List.mem_iff_getElem]
      have hmod := Nat.mod_lt i hz
      have hdm := Nat.div_add_mod i (P.cellsOf e)
      rw [Nat.mul_comm] at hdm
      refine ⟨i % P.cellsOf e, by simp only [List.length_take, List.length_drop]; rw [hcl, k2]; omega, ?_⟩
      simp only [List.getElem_take, List.getElem_drop]
      congr 1
    · simp at h

theorem elem_ok {d : Nat} {e : TypeId} {cs : List Value} (h1 : Sh P d e (cs.map .v)) (h2 : FlatCells cs) (h3 : aggB P e = false → ∃ c, cs = [c]) :
    ∃ x : AV, x.cells = cs.map .v ∧ (if aggB P e = true then ∃ cs, x = .agg cs ∧ Sh P d e cs else Sh P d e [x]) := by
  cases ha : aggB P e with
  | true => exact ⟨.agg (cs.map .v), rfl, by rw [if_pos rfl]; exact ⟨_, rfl, h1⟩⟩
  | false =>
    obtain ⟨c, rfl⟩ := h3 ha
    exact ⟨.v c, rfl, by rw [if_neg (by simp)]; exact h1⟩

theorem elems_sh (hl : laidOutB P = true) {d : Nat} {e : TypeId} (he : e < P.types.size) (hfl : flatTy P d e = true) {a : Addr} (hs : a.spot = none) {len n : Nat} {elems : List (DataW H × List MemPlace)} (hlen : elems.length = len)
    (hel : ∀ i, i < len → (w.cells? base (a.add (i * P.cellsOf e)) (P.cellsOf e)).bind (DataW.trod enc P w base spare held n e) = elems[i]?) :
    ∀ m, m ≤ len → ∃ (xs : List AV) (vs : List Value), xs.length = m ∧ vs.length = m * P.cellsOf e ∧ flat xs = vs.map .v ∧ FlatCells vs ∧ CellsAt w a.block a.off vs ∧
      (∀ x ∈ xs, x.cells.length = P.cellsOf e) ∧ ∀ x ∈ xs, if aggB P e = true then ∃ cs, x = .agg cs ∧ Sh P d e cs else Sh P d e [x]
  | 0, _ => ⟨[], [], rfl, by simp, rfl, fun c hc => by simp at hc, fun i h => by simp at h, by simp, by simp⟩
  | m + 1, hm => by
    obtain ⟨xs, vs, h1, h2, h3, h4, h5, h6, h7⟩ := elems_sh hl he hfl hs hlen hel m (by omega)
    have hm' := hel m (by omega)
    rw [List.getElem?_eq_getElem (by omega), Option.bind_eq_some_iff] at hm'
    obtain ⟨cs, hcs, ht⟩ := hm'
    obtain ⟨_, c1, c2⟩ := World.cells?_some hcs
    obtain ⟨f1, f2, f3⟩ := flat_sh hl d e he hfl _ _ _ ht
    obtain ⟨x, hx1, hx2⟩ := elem_ok f1 f2 f3
    refine ⟨xs ++ [x], vs ++ cs, by simp [h1], by rw [List.length_append, h2, c1, Nat.succ_mul], ?_, ?_, ?_, ?_, ?_⟩
    · unfold flat at h3 ⊢; simp [h3, hx1]
    · intro c hc
      rcases List.mem_append.1 hc with hc | hc
      · exact h4 c hc
      · exact f2 c hc
    · intro i hi
      by_cases h : i < vs.length
      · rw [List.getElem_append_left h]; exact h5 i h
      · have hi' : i - vs.length < cs.length := by simp at hi; omega
        have := c2 (i - vs.length) (by omega)
        rw [List.getElem?_eq_getElem hi'] at this
        rw [List.getElem_append_right (by omega), ← this]
        congr 1
        rw [add_none hs, add_none rfl, ← h2, Addr.mk.injEq]
        exact ⟨rfl, by simp only; omega, rfl⟩
    · intro y hy
      rcases List.mem_append.1 hy with hy | hy
      · exact h6 y hy
      · simp at hy; subst hy; rw [hx1]; simp [c1]
    · intro y hy
      rcases List.mem_append.1 hy with hy | hy
      · exact h7 y hy
      · simp at hy; subst hy; exact hx2

theorem slice_sh {N : Nat} (hl : laidOutB P = true) {d : Nat} {t e : TypeId} (ht : t < P.types.size) (hu : P.underlying t = some (.slice e)) (hfl : flatTy P d e = true) (hz : 0 < P.cellsOf e) {fuel : Nat} {cs : List Value} {x : DataW H × List MemPlace}
    (h : DataW.trod enc P w base spare held fuel t cs = some x) (hsound : Sound N w cs) : ∃ as, Sh P (d + 1) t as ∧ RelCells N w as cs := by
  simp only [Sh, hu]
  rcases DataW.trod_slice hu h with ⟨rfl, _⟩ | ⟨a, len, cap, elems, rest, n, _, rfl, _, _, hlc, hcap, hlen, hel, _, _⟩
  · refine ⟨_, .inl rfl, by simp, fun i h1 h2 => ?_⟩
    simp at h1; subst h1; exact .v _ _ rfl
  · have hplace : a.spot = none ∧ ∃ k, usOf N w a.block = some k ∧ a.off + len * P.cellsOf e ≤ k := by
      rcases Nat.eq_zero_or_pos len with h0 | h0
      · subst h0
        obtain ⟨h1, k, h2, h3⟩ := hsound _ (List.mem_singleton.2 rfl) a cap rfl
        exact ⟨h1, k, h2, by simpa using h3⟩
      · have hs : a.spot = none := by
          have hm' := hel 0 h0
          rw [List.getElem?_eq_getElem (by omega), Option.bind_eq_some_iff] at hm'
          obtain ⟨cs, hcs, _⟩ := hm'
          obtain ⟨_, c1, c2⟩ := World.cells?_some hcs
          have h1 := c2 0 hz
          rw [List.getElem?_eq_getElem (by omega)] at h1
          have := (usOf_cell N h1).1
          rw [Nat.zero_mul] at this
          simpa [Addr.add] using this
        have hm' := hel (len - 1) (by omega)
        rw [List.getElem?_eq_getElem (by omega), Option.bind_eq_some_iff] at hm'
        obtain ⟨cs, hcs, _⟩ := hm'
        obtain ⟨_, c1, c2⟩ := World.cells?_some hcs
        have h1 := c2 (P.cellsOf e - 1) (by omega)
        rw [List.getElem?_eq_getElem (by omega)] at h1
        obtain ⟨q1, k, q2, q3⟩ := usOf_cell N h1
        rw [add_none hs, add_none rfl] at q2 q3
        simp only at q2 q3
        refine ⟨hs, k, q2, ?_⟩
        have : (len - 1) * P.cellsOf e + P.cellsOf e = len * P.cellsOf e := by rw [← Nat.succ_mul]; congr 1; omega
        omega
    obtain ⟨hs, k, hk, hoff⟩ := hplace
    obtain ⟨xs, vs, h1, h2, h3, h4, h5, h6, h7⟩ := elems_sh hl (kid_slice hl ht hu) hfl hs hlen hel len (Nat.le_refl _)
    refine ⟨_, .inr ⟨xs, rfl, by omega, fun x hx => .inl (h7 x hx)⟩, by simp, fun i g1 g2 => ?_⟩
    simp at g1; subst g1
    obtain ⟨b, off, spot⟩ := a
    simp only at hs hk hoff h5
    subst hs
    subst h1
    simp only [List.getElem_cons_zero]
    refine Rel.lst .nil .any (P.cellsOf e) xs b off k cap vs hk (by omega) h5 (fun x hx => (h4 x hx).2.1) h6 hlc (by rw [h3]; simp) (fun i q1 q2 => ?_) trivial
    have : (flat xs)[i] = .v vs[i] := by simp [h3]
    rw [this]
    exact .v _ _ (h4 _ (List.getElem_mem q2)).1

/-- An element that is a slice: it lies somewhere, or it has no elements. -/
theorem inner_sh {N : Nat} (hl : laidOutB P = true) {d : Nat} {t e : TypeId} (ht : t < P.types.size) (hu : P.underlying t = some (.slice e)) (hfl : flatTy P d e = true) (hz : 0 < P.cellsOf e) {fuel : Nat} {cs : List Value} {x : DataW H × List MemPlace}
    (h : DataW.trod enc P w base spare held fuel t cs = some x) : ∃ (a : AV) (c : Value), cs = [c] ∧ c.oneCell' = true ∧ a.cells = [a] ∧ (Sh P (d + 1) t [a] ∨ weird P t a) ∧ Rel (usOf N w) w .nil a c := by
  rcases DataW.trod_slice hu h with ⟨rfl, _⟩ | ⟨a, len, cap, elems, rest, n, _, rfl, hd, _, hlc, hcap, hlen, hel, _, _⟩
  · refine ⟨.v (.slice none 0 0), _, rfl, rfl, rfl, .inl ?_, .v _ _ rfl⟩
    simp only [Sh, hu]
    exact .inl trivial
  · rcases Nat.eq_zero_or_pos len with h0 | h0
    · subst h0
      exact ⟨.v (.slice (some a) 0 cap), _, rfl, rfl, rfl, .inr ⟨⟨e, hu⟩, a, cap, rfl⟩, .v _ _ rfl⟩
    · obtain ⟨as, h1, h2, h3⟩ := slice_sh (N := N) hl ht hu hfl hz h (fun x hx a' cap' he => by
        simp only [List.mem_singleton] at hx
        subst hx
        simp only [Value.slice.injEq] at he
        omega)
      match as, h2 with
      | [b], _ =>
        refine ⟨b, _, rfl, rfl, ?_, .inl h1, h3 0 (by simp) (by simp)⟩
        simp only [Sh, hu] at h1
        rcases h1 with h1 | ⟨xs, h1, _⟩
        · simp only [List.cons.injEq, and_true] at h1; subst h1; rfl
        · simp only [List.cons.injEq, and_true] at h1; subst h1; rfl

theorem inners_sh {N : Nat} (hl : laidOutB P = true) {d : Nat} {e e2 : TypeId} (he : e < P.types.size) (hu : P.underlying e = some (.slice e2)) (hfl : flatTy P d e2 = true) (hz : 0 < P.cellsOf e2) (hc1 : P.cellsOf e = 1) {a : Addr} (hs : a.spot = none) {len n : Nat} {elems : List (DataW H × List MemPlace)} (hlen : elems.length = len)
    (hel : ∀ i, i < len → (w.cells? base (a.add (i * P.cellsOf e)) (P.cellsOf e)).bind (DataW.trod enc P w base spare held n e) = elems[i]?) :
    ∀ m, m ≤ len → ∃ (xs : List AV) (vs : List Value), xs.length = m ∧ vs.length = m ∧ flat xs = xs ∧ (∀ c ∈ vs, c.oneCell' = true) ∧ CellsAt w a.block a.off vs ∧
      (∀ x ∈ xs, x.cells.length = 1) ∧ (∀ x ∈ xs, Sh P (d + 1) e [x] ∨ weird P e x) ∧ ∀ i (h : i < xs.length) (h' : i < vs.length), Rel (usOf N w) w .nil xs[i] vs[i]
  | 0, _ => ⟨[], [], rfl, rfl, rfl, fun c hc => by simp at hc, fun i h => by simp at h, by simp, by simp, fun i h => by simp at h⟩
  | m + 1, hm => by
    obtain ⟨xs, vs, h1, h2, h3, h4, h5, h6, h7, h8⟩ := inners_sh hl he hu hfl hz hc1 hs hlen hel m (by omega)
    have hm' := hel m (by omega)
    rw [List.getElem?_eq_getElem (by omega), Option.bind_eq_some_iff] at hm'
    obtain ⟨cs, hcs, ht⟩ := hm'
    obtain ⟨_, c1, c2⟩ := World.cells?_some hcs
    obtain ⟨b, c, rfl, f2, f3, f4, f5⟩ := inner_sh (N := N) hl he hu hfl hz ht
    refine ⟨xs ++ [b], vs ++ [c], by simp [h1], by simp [h2], ?_, ?_, ?_, ?_, ?_, ?_⟩
    · unfold flat at h3 ⊢; rw [List.flatMap_append, h3]; simp [f3]
    · intro y hy
      rcases List.mem_append.1 hy with hy | hy
      · exact h4 y hy
      · simp at hy; subst hy; exact f2
    · intro i hi
      by_cases h : i < vs.length
      · rw [List.getElem_append_left h]; exact h5 i h
      · have hi' : i = vs.length := by simp at hi; omega
        subst hi'
        have := c2 0 (by simp [hc1])
        rw [List.getElem?_eq_getElem (by simp)] at this
        rw [List.getElem_append_right (by omega)]
        simp only [Nat.sub_self, List.getElem_cons_zero] at this ⊢
        rw [← this]
        congr 1
        rw [add_none hs, add_none rfl, Addr.mk.injEq]
        exact ⟨rfl, by simp only [hc1]; omega, rfl⟩
    · intro y hy
      rcases List.mem_append.1 hy with hy | hy
      · exact h6 y hy
      · simp at hy; subst hy; rw [f3]; rfl
    · intro y hy
      rcases List.mem_append.1 hy with hy | hy
      · exact h7 y hy
      · simp at hy; subst hy; exact f4
    · intro i hi hi'
      by_cases h : i < xs.length
      · rw [List.getElem_append_left h, List.getElem_append_left (by omega)]; exact h8 i h (by omega)
      · have e1 : i = xs.length := by simp at hi; omega
        subst e1
        rw [List.getElem_append_right (by omega), List.getElem_append_right (by omega)]
        simp only [h1, h2, Nat.sub_self, List.getElem_cons_zero]
        exact f5

theorem nest_sh {N : Nat} (hl : laidOutB P = true) {d : Nat} {t e : TypeId} (ht : t < P.types.size) (hu : P.underlying t = some (.slice e)) (hn : nestTy P d e = true) {fuel : Nat} {cs : List Value} {x : DataW H × List MemPlace}
    (h : DataW.trod enc P w base spare held fuel t cs = some x) (hsound : Sound N w cs) : ∃ as, Sh P (d + 1) t as ∧ RelCells N w as cs := by
  cases d with
  | zero => simp [nestTy] at hn
  | succ d =>
  simp only [nestTy] at hn
  split at hn
  · next e2 hu2 =>
    simp only [Bool.and_eq_true, decide_eq_true_eq] at hn
    obtain ⟨⟨hfl, hz2⟩, hc1⟩ := hn
    have hagg : aggB P e = false := by unfold aggB; rw [hu2]
    conv => enter [1, as, 1]; unfold Sh; simp only [hu]
    rcases DataW.trod_slice hu h with ⟨rfl, _⟩ | ⟨a, len, cap, elems, rest, n, _, rfl, _, _, hlc, hcap, hlen, hel, _, _⟩
    · refine ⟨_, .inl rfl, by simp, fun i h1 h2 => ?_⟩
      simp at h1; subst h1; exact .v _ _ rfl
    · have hplace : a.spot = none ∧ ∃ k, usOf N w a.block = some k ∧ a.off + len * P.cellsOf e ≤ k := by
        rcases Nat.eq_zero_or_pos len with h0 | h0
        · subst h0
          obtain ⟨h1, k, h2, h3⟩ := hsound _ (List.mem_singleton.2 rfl) a cap rfl
          exact ⟨h1, k, h2, by simpa using h3⟩
        · have hs : a.spot = none := by
            have hm' := hel 0 h0
            rw [List.getElem?_eq_getElem (by omega), Option.bind_eq_some_iff] at hm'
            obtain ⟨cs, hcs, _⟩ := hm'
            obtain ⟨_, c1, c2⟩ := World.cells?_some hcs
            have h1 := c2 0 (by omega)
            rw [List.getElem?_eq_getElem (by omega)] at h1
            have := (usOf_cell N h1).1
            rw [Nat.zero_mul] at this
            simpa [Addr.add] using this
          have hm' := hel (len - 1) (by omega)
          rw [List.getElem?_eq_getElem (by omega), Option.bind_eq_some_iff] at hm'
          obtain ⟨cs, hcs, _⟩ := hm'
          obtain ⟨_, c1, c2⟩ := World.cells?_some hcs
          have h1 := c2 (P.cellsOf e - 1) (by omega)
          rw [List.getElem?_eq_getElem (by omega)] at h1
          obtain ⟨q1, k, q2, q3⟩ := usOf_cell N h1
          rw [add_none hs, add_none rfl] at q2 q3
          simp only at q2 q3
          refine ⟨hs, k, q2, ?_⟩
          have : (len - 1) * P.cellsOf e + P.cellsOf e = len * P.cellsOf e := by rw [← Nat.succ_mul]; congr 1; omega
          omega
      obtain ⟨hs, k, hk, hoff⟩ := hplace
      obtain ⟨xs, vs, h1, h2, h3, h4, h5, h6, h7, h8⟩ := inners_sh (N := N) hl (kid_slice hl ht hu) hu2 hfl hz2 hc1 hs hlen hel len (Nat.le_refl _)
      refine ⟨_, .inr ⟨xs, rfl, by omega, fun x hx => ?_⟩, by simp, fun i g1 g2 => ?_⟩
      · rw [hagg, if_neg (by simp)]; exact h7 x hx
      simp at g1; subst g1
      obtain ⟨b, off, spot⟩ := a
      simp only at hs hk hoff h5
      subst hs
      subst h1
      simp only [List.getElem_cons_zero]
      rw [hc1] at hoff ⊢
      refine Rel.lst .nil .any 1 xs b off k cap vs hk (by omega) h5 h4 h6 hlc (by rw [h3, h2]) (fun i q1 q2 => ?_) trivial
      have : (flat xs)[i] = xs[i]'(by rw [h3] at q1; exact q1) := by simp only [h3]
      rw [this]
      exact h8 i _ q2
  · simp at hn

theorem ok_sh {N : Nat} (hl : laidOutB P = true) : ∀ (d : Nat) (t : TypeId), t < P.types.size → okTy P d t = true → ∀ (fuel : Nat) (cs : List Value) (x : DataW H × List MemPlace), DataW.trod enc P w base spare held fuel t cs = some x → Sound N w cs →
    ∃ as, Sh P d t as ∧ RelCells N w as cs
  | 0, t, _, h => by simp [okTy] at h
  | d + 1, t, htl, h => by
    intro fuel cs x hx hsound
    simp only [okTy, Bool.or_eq_true] at h
    rcases h with h | h
    · obtain ⟨h1, h2, _⟩ := flat_sh hl (d + 1) t htl h fuel cs x hx
      exact ⟨_, h1, h2.rel N⟩
    · split at h
      · next e hu =>
        simp only [Bool.or_eq_true, Bool.and_eq_true, decide_eq_true_eq] at h
        rcases h with h | h
        · exact slice_sh hl htl hu h.1 h.2 hx hsound
        · exact nest_sh hl htl hu h hx hsound
      · next fs hu =>
        simp only [Bool.and_eq_true, decide_eq_true_eq, List.all_eq_true] at h
        obtain ⟨xs, n, rfl, _, hcl, hxl, hf⟩ := DataW.trod_struct hu hx
        obtain ⟨k1, k2, k3⟩ := kid_struct hl htl hu
        have each : ∀ f, f ∈ fs.toList → ∃ as, Sh P d f.type as ∧ RelCells N w as ((cs.drop f.offset).take (P.cellsOf f.type)) := by
          intro f hm
          obtain ⟨i, hi, rfl⟩ := List.getElem_of_mem hm
          have hfi : fs[i]? = some fs.toList[i] := by simp at hi; simp [hi]
          have h1 := hf i _ hfi
          rw [List.getElem?_eq_getElem (by rw [hxl]; simpa using hi)] at h1
          exact ok_sh hl d _ (k1 _ hm) (h.1 _ hm) n _ _ h1 (fun y hy => hsound y (List.mem_of_mem_drop (List.mem_of_mem_take hy)))
        have hch : ∃ A : Field → List AV, ∀ f, f ∈ fs.toList → Sh P d f.type (A f) ∧ RelCells N w (A f) ((cs.drop f.offset).take (P.cellsOf f.type)) := by
          classical
          refine ⟨fun f => if hm : f ∈ fs.toList then (each f hm).choose else [], fun f hm => ?_⟩
          simp only [dif_pos hm]
          exact (each f hm).choose_spec
        obtain ⟨A, hA⟩ := hch
        have hbound : ∀ (j : Nat) (f : Field), fs.toList[j]? = some f → f.offset + P.cellsOf f.type ≤ cs.length := by
          intro j f hj
          rw [hcl, k2, k3 j f hj]
          have hjl := (List.getElem?_eq_some_iff.1 hj).1
          have : fs.toList = fs.toList.take j ++ f :: fs.toList.drop (j + 1) := by
            rw [← (List.getElem?_eq_some_iff.1 hj).2, ← List.drop_eq_getElem_cons hjl, List.take_append_drop]
          calc ((fs.toList.take j).map fun f => P.cellsOf f.type).sum + P.cellsOf f.type ≤ ((fs.toList.take j ++ f :: fs.toList.drop (j + 1)).map fun f => P.cellsOf f.type).sum := by
                simp only [List.map_append, List.sum_append, List.map_cons, List.sum_cons]; omega
            _ = _ := by rw [← this]
        have hAl : ∀ (j : Nat) (f : Field), fs.toList[j]? = some f → (A f).length = P.cellsOf f.type := by
          intro j f hj
          have := (hA f (List.mem_of_getElem? hj)).2.1
          rw [this]
          have := hbound j f hj
          simp; omega
        have hlens : (fs.toList.map A).map List.length = fs.toList.map fun f => P.cellsOf f.type := by
          rw [List.map_map]
          apply List.map_congr_left
          intro f hf
          obtain ⟨j, hj, rfl⟩ := List.getElem_of_mem hf
          exact hAl j _ (List.getElem?_eq_getElem hj)
        have hpart : ∀ (j : Nat) (f : Field), fs.toList[j]? = some f → (((fs.toList.map A).flatten).drop f.offset).take (P.cellsOf f.type) = A f := by
          intro j f hj
          have := flatten_part (fs.toList.map A) j (A f) (by simp [hj])
          rw [← List.map_take, List.map_map] at this
          rw [hAl j f hj] at this
          rw [k3 j f hj]
          have e : (fs.toList.take j).map (fun f => P.cellsOf f.type) = (fs.toList.take j).map (List.length ∘ A) := by
            apply List.map_congr_left
            intro g hg
            obtain ⟨i, hi, rfl⟩ := List.getElem_of_mem (List.mem_of_mem_take hg)
            exact (hAl i _ (List.getElem?_eq_getElem hi)).symm
          rw [e]
          exact this
        have htot : ((fs.toList.map A).flatten).length = cs.length := by rw [List.length_flatten, hlens, hcl, k2]
        refine ⟨(fs.toList.map A).flatten, ?_, htot, fun i h1 h2 => ?_⟩
        · simp only [Sh, hu]
          refine ⟨by rw [htot, hcl], fun i f hfi => ?_⟩
          have hj : fs.toList[i]? = some f := by simpa using hfi
          rw [hpart i f hj]
          exact (hA f (List.mem_of_getElem? hj)).1
        · obtain ⟨j, o, m, g1, g2, g3⟩ := parts_mem (cs := List.range cs.length) (ns := fs.toList.map fun f => P.cellsOf f.type) (os := fs.toList.map (·.offset)) (c := i) (by rw [List.length_range, hcl, k2]) (fun j o hj => by
            simp only [List.getElem?_map, Option.map_eq_some_iff] at hj
            obtain ⟨f, hj, rfl⟩ := hj
            rw [k3 j f hj, List.map_take]) (by simp) (by simpa using h2)
          simp only [List.getElem?_map, Option.map_eq_some_iff] at g1 g2
          obtain ⟨f, g1, rfl⟩ := g1
          obtain ⟨f', g2, rfl⟩ := g2
          rw [g1] at g2
          simp only [Option.some.injEq] at g2
          subst g2
          obtain ⟨q, hq, hqe⟩ := List.getElem_of_mem g3
          simp only [List.length_take, List.length_drop, List.length_range, List.getElem_take, List.getElem_drop, List.getElem_range] at hq hqe
          have hR := (hA f (List.mem_of_getElem? g1)).2
          have hp := hpart j f g1
          have hal := hAl j f g1
          have := hR.2 q (by omega) (by simp; omega)
          have e1 : (fs.toList.map A).flatten[i] = (A f)[q]'(by omega) := by
            have : (A f)[q]? = some ((fs.toList.map A).flatten[i]) := by
              rw [← hp, List.getElem?_take, if_pos (by omega), List.getElem?_drop, hqe, List.getElem?_eq_getElem h1]
            rw [List.getElem?_eq_getElem (by omega)] at this
            simpa using this.symm
          rw [e1]
          simp only [List.getElem_take, List.getElem_drop, hqe] at this
          exact this
      · simp at h

/-- What a value of a type is. -/
def ShV (P : Program) (d : Nat) (t : TypeId) (a : AV) : Prop := if aggB P t = true then ∃ cs, a = .agg cs ∧ Sh P d t cs else Sh P d t [a]

theorem cell_ok_slice {r : Reach} {b : Nat} {u : TypeId} {a : Addr} {l k : Nat} (h : Cell.okWide P w r b u (.slice (some a) l k)) : a.spot = none ∧ ∃ e n, w.shape? a.block = some (e, n) := by
  unfold Cell.okWide at h
  split at h
  all_goals first
    | (unfold Cell.ok at h
       split at h
       all_goals first
         | (rename_i heq; simp at heq; done)
         | (rename_i _ _ heq
            simp only [Value.slice.injEq, Option.some.injEq] at heq
            obtain ⟨rfl, rfl, rfl⟩ := heq
            obtain ⟨_, _, _, h1, row, cells, h2, _⟩ := h
            exact ⟨h1, row, cells, h2⟩)
         | exact h.elim)
    | (simp_all; done)

theorem sound_of {N : Nat} {cs : List Value} (h : ∀ x ∈ cs, ∀ a l k, x = .slice (some a) l k → a.spot = none ∧ (∃ e n, w.shape? a.block = some (e, n)) ∧ a.off ≤ N) : Sound N w cs := by
  intro x hx a k he
  obtain ⟨h1, ⟨e, n, h2⟩, h3⟩ := h x hx a 0 k he
  refine ⟨h1, ?_⟩
  unfold World.shape? at h2
  unfold usOf
  split at h2
  · next c _ _ hc => rw [hc]; exact ⟨_, rfl, by omega⟩
  · simp at h2

def offOf : Value → Nat
  | .slice (some a) _ _ => a.off
  | _ => 0

theorem arg_rel (hl : laidOutB P = true) {N : Nat} {r : Reach} {b : Nat} {t : TypeId} {v : Value} {d : DataW H} {ps : List MemPlace} (ht : t < P.types.size) {k : Nat} (hok : okTy P k t = true) (hval : Value.okWide P w r b t v)
    (h : DataW.Trod enc P w base spare held t v d ps) (hN : ∀ x ∈ v.cells.toList, offOf x ≤ N) : ∃ a, Rel (usOf N w) w .nil a v ∧ ShV P k t a := by
  obtain ⟨fuel, h⟩ := h
  have key : ∀ cs : List Value, cs = v.cells.toList → (∀ x ∈ cs, ∀ a l k, x = .slice (some a) l k → a.spot = none ∧ ∃ e n, w.shape? a.block = some (e, n)) → ∃ as, Sh P k t as ∧ RelCells N w as cs := by
    intro cs hcs hs
    subst hcs
    exact ok_sh hl k t ht hok fuel _ _ h (sound_of fun x hx a l k he => ⟨(hs x hx a l k he).1, (hs x hx a l k he).2, by have := hN x hx; subst he; exact this⟩)
  unfold Value.okWide at hval
  by_cases hag : aggB P t = true
  · have : ∃ cs, v = .agg cs ∧ cs.size = P.cellsOf t ∧ Row.okWide P w r b t cs := by
      unfold aggB at hag
      split at hag <;> simp_all
    obtain ⟨cs, rfl, _, ts, _, _, hrow⟩ := this
    obtain ⟨as, h1, h2, h3⟩ := key cs.toList rfl (fun x hx a l k he => by
      subst he
      obtain ⟨i, hi⟩ := List.getElem?_of_mem hx
      obtain ⟨u, _, hu⟩ := hrow i _ (by simpa using hi)
      exact cell_ok_slice hu)
    refine ⟨.agg as, ?_, by unfold ShV; rw [if_pos hag]; exact ⟨as, rfl, h1⟩⟩
    have := Rel.agg (us := usOf N w) (w := w) .nil as cs.toList h2 h3
    simpa using this
  · have hcell : Cell.okWide P w r b t v := by
      unfold aggB at hag
      split at hval
      · next hu => simp [hu] at hag
      · next hu => simp [hu] at hag
      · exact hval
    have hv1 : v.cells.toList = [v] := by
      unfold Cell.okWide at hcell
      cases v with
      | agg cs => split at hcell <;> simp_all [Cell.ok]
      | _ => rfl
    obtain ⟨as, h1, h2, h3⟩ := key [v] hv1.symm (fun x hx a l k he => by
      simp at hx; subst hx; subst he
      exact cell_ok_slice hcell)
    match as, h2 with
    | [a], _ => exact ⟨a, h3 0 (by simp) (by simp), by unfold ShV; rw [if_neg hag]; exact h1⟩

theorem args_rel (hl : laidOutB P = true) {N : Nat} {r : Reach} {b k : Nat} : ∀ {ts : List TypeId} {vs : List Value} {ds : List (DataW H)} {ps : List MemPlace}, DataW.TrodAll enc P w base spare held ts vs ds ps →
    (∀ t ∈ ts, t < P.types.size ∧ okTy P k t = true) → (∀ (j : Nat) t v, ts[j]? = some t → vs[j]? = some v → Value.okWide P w r b t v) → (∀ v ∈ vs, ∀ x ∈ v.cells.toList, offOf x ≤ N) →
    ∃ as, Rels (usOf N w) w .nil as vs ∧ as.length = ts.length ∧ ∀ (j : Nat) t a, ts[j]? = some t → as[j]? = some a → ShV P k t a
  | [], [], [], _, _, _, _, _ => ⟨[], .nil, rfl, fun j t a h => by simp at h⟩
  | t :: ts, v :: vs, d :: ds, _, ⟨p, q, h1, h2, _⟩, hty, hval, hN => by
    obtain ⟨a, r1, r2⟩ := arg_rel hl (hty t (by simp)).1 (hty t (by simp)).2 (hval 0 t v rfl rfl) h1 (hN v (by simp))
    obtain ⟨as, r3, r4, r5⟩ := args_rel hl h2 (fun t ht => hty t (by simp [ht])) (fun j t v ht hv => hval (j + 1) t v (by simpa using ht) (by simpa using hv)) (fun v hv => hN v (by simp [hv]))
    refine ⟨a :: as, r3.cons r1 |> fun h => ?_, by simp [r4], fun j t' a' ht ha => ?_⟩
    · exact Rels.cons r1 r3
    · cases j with
      | zero => simp at ht ha; subst ht; subst ha; exact r2
      | succ j => exact r5 j t' a' (by simpa using ht) (by simpa using ha)

theorem offs_bound (vs : List Value) : ∃ N, ∀ v ∈ vs, ∀ x ∈ v.cells.toList, offOf x ≤ N := by
  have h1 : ∀ cs : List Value, ∃ N, ∀ x ∈ cs, offOf x ≤ N := by
    intro cs
    induction cs with
    | nil => exact ⟨0, by simp⟩
    | cons c r ih =>
      obtain ⟨N, hN⟩ := ih
      refine ⟨max N (offOf c), fun x hx => ?_⟩
      rcases List.mem_cons.1 hx with rfl | hx
      · exact Nat.le_max_right _ _
      · exact Nat.le_trans (hN x hx) (Nat.le_max_left _ _)
  induction vs with
  | nil => exact ⟨0, by simp⟩
  | cons v r ih =>
    obtain ⟨N, hN⟩ := ih
    obtain ⟨M, hM⟩ := h1 v.cells.toList
    refine ⟨max N M, fun u hu x hx => ?_⟩
    rcases List.mem_cons.1 hu with rfl | hu
    · exact Nat.le_trans (hM x hx) (Nat.le_max_right _ _)
    · exact Nat.le_trans (hN u hu x hx) (Nat.le_max_left _ _)
end

/-- The tables lie in the package variables' blocks. -/
theorem globOk_of {G : Nat → List Nat} {W : World} (h : ∀ g, G g ≠ [] → ∃ cur ty fz, W.heap[g]? = some (.cells cur ty fz) ∧ cur.toList = (G g).map fun (b : Nat) => Value.int .u8 (b : Int)) (N : Nat) : GlobOk G (usOf N W) W := by
  intro g hg
  obtain ⟨cur, ty, fz, h1, h2⟩ := h g hg
  have hr : Rels (usOf N W) W .nil (bytesAV (G g)).cells cur.toList := by
    have := rels_v (us := usOf N W) (w := W) (K := .nil) cur.toList (by rw [h2]; simp [plainV])
    have e : (bytesAV (G g)).cells = cur.toList.map AV.v := by rw [h2, List.map_map]; rfl
    rw [e]; exact this
  have key : EptrAt (usOf N W) W (bytesAV (G g)) g 0 cur.toList := by
    refine ⟨⟨max N cur.size, by simp [usOf, h1], by simp; omega⟩, cellsAt_blk h1, fun x hx => ?_, hr⟩
    rw [h2] at hx
    obtain ⟨b, _, rfl⟩ := List.mem_map.1 hx
    rfl
  have := key.rel (K := .nil) 0
  simpa using this
theorem globOk_none {us : Us} {w : World} : GlobOk (fun _ => []) us w := fun g h => absurd rfl h

/-- A law: what the evaluator answers for all values of the arguments' types. -/
theorem law_calls {H : Type} {enc : TypeId × Value → H} {P : Program} {G : Nat → List Nat} {L : Lib} (hmix : P.follows .mixedOrders = true) (hL : LibOk P G L) (hl : laidOutB P = true) {f : FuncId} {ts : List TypeId} {k : Nat} (hty : ∀ t ∈ ts, t < P.types.size ∧ okTy P k t = true)
    (hrun : ∀ as : List AV, as.length = ts.length → (∀ (j : Nat) t a, ts[j]? = some t → as[j]? = some a → ShV P k t a) → ∃ st, run L f as ⟨[], []⟩ = some (.v (.bool true), st))
    {W : World} (hgl : ∀ N, GlobOk G (usOf N W) W) {r : Reach} {b : Nat} {args : Array Value} {ds : List (DataW H)} {ps : List MemPlace} {spare : Nat → Bool} {held : Bool}
    (hval : ∀ (j : Nat) t v, ts[j]? = some t → args.toList[j]? = some v → Value.okWide P W r b t v)
    (hA : DataW.TrodAll enc P W 0 spare held ts args.toList ds ps) : Calls P f args W fun e W' => e = .returned (.bool true) ∧ Below W.heap.size W W' := by
  obtain ⟨N, hN⟩ := offs_bound args.toList
  obtain ⟨as, h1, h2, h3⟩ := args_rel hl hA hty hval hN
  obtain ⟨st, hr⟩ := hrun as h2 h3
  exact top_run hmix hL hr (us := usOf N W) (fun c n h => usOf_lt h) (hgl N) h1

/-- A number; a list of numbers; .. -/
theorem sh_int {P : Program} {d : Nat} {t : TypeId} {k : IntKind} {a : AV} (ht : P.underlying t = some (.int k)) (h : ShV P (d + 1) t a) : ∃ n, a = .v (.int k n) ∧ (Lit.int k n).wf = true := by
  unfold ShV aggB at h
  simp only [ht, Bool.false_eq_true, if_false, Sh] at h
  obtain ⟨n, h1, h2⟩ := h
  simp only [List.cons.injEq, and_true] at h1
  exact ⟨n, h1, h2⟩
theorem sh_slice {P : Program} {d : Nat} {t e : TypeId} {a : AV} (ht : P.underlying t = some (.slice e)) (h : Sh P (d + 1) t [a]) :
    a = .v (.slice none 0 0) ∨ ∃ xs : List AV, a = .lst .any (P.cellsOf e) xs ∧ xs.length ≤ maxLen ∧ ∀ x ∈ xs, ShV P d e x ∨ weird P e x := by
  simp only [Sh, ht, List.cons.injEq, and_true] at h
  exact h
theorem map_of_forall {α β : Type} {f : α → β} {R : α → Prop} : ∀ (xs : List β), (∀ x ∈ xs, ∃ a, x = f a ∧ R a) → ∃ as : List α, xs = as.map f ∧ as.length = xs.length ∧ ∀ a ∈ as, R a
  | [], _ => ⟨[], rfl, rfl, by simp⟩
  | x :: r, h => by
    obtain ⟨a, h1, h2⟩ := h x (by simp)
    obtain ⟨as, h3, h4, h5⟩ := map_of_forall r (fun y hy => h y (by simp [hy]))
    exact ⟨a :: as, by simp [h1, h3], by simp [h4], by simp; exact ⟨h2, h5⟩⟩

/-- The arguments read afterwards as they read before. -/
theorem args_below {H : Type} {enc : TypeId × Value → H} {P : Program} (hl : laidOutB P = true) {W W' : World} (hb : Below W.heap.size W W') : ∀ {ts : List TypeId} {vs : List Value} {ds : List (DataW H)} {ps : List MemPlace},
    (∀ t ∈ ts, P.readableRec t = true ∧ t < P.types.size) → DataW.TrodAll enc P W 0 (fun _ => true) true ts vs ds ps → DataW.TrodAll enc P W' 0 (fun b => decide (b < W.heap.size)) true ts vs ds ps
  | [], [], [], _, _, h => h
  | t :: ts, v :: vs, d :: ds, _, hty, ⟨p, q, h1, h2, e⟩ => by
    refine ⟨p, q, Below.trod hl (hty t (by simp)).1 (hty t (by simp)).2 h1 hb ?_, args_below hl hb (fun t ht => hty t (by simp [ht])) h2, e⟩
    obtain ⟨n, hn⟩ := h1
    exact DataW.trod_lt n _ _ _ hn
end Go.Ev

