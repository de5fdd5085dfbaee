/- What is proved: how the equations of the evaluator are read, a step at a time. It holds for every program of the model. -/
import Derived.Test.YtpmbfgogpcjdlaaDoorEv3
set_option linter.all false
namespace Go.Ev
open Go

/-! ## For reading the evaluator's equations -/

abbrev I (n : Int) : AV := .v (.int .i64 n)
abbrev B (b : Bool) : AV := .v (.bool b)

/-- A slice that came from without: a list; 'nl': it is nil if it is empty. -/
def sl (z : Nat) (nl : Bool) (xs : List AV) : AV := if nl = true ∧ xs = [] then .v (.slice none 0 0) else .lst .any z xs

theorem sl_cons (z : Nat) (nl : Bool) (x : AV) (xs : List AV) : sl z nl (x :: xs) = .lst .any z (x :: xs) := by simp [sl]
theorem sl_false (z : Nat) (xs : List AV) : .lst .any z xs = sl z false xs := by simp [sl]
theorem sl_nil (z : Nat) : .v (.slice none 0 0) = sl z true [] := by simp [sl]
theorem sl_cases (z : Nat) (nl : Bool) (xs : List AV) : (xs = [] ∧ sl z nl xs = .v (.slice none 0 0)) ∨ sl z nl xs = .lst .any z xs := by
  unfold sl; split
  · next h => exact .inl ⟨h.2, rfl⟩
  · exact .inr rfl

theorem len_sl (z : Nat) (nl : Bool) (xs : List AV) : lenAV (sl z nl xs) = some (I xs.length) := by
  rcases sl_cases z nl xs with ⟨rfl, h⟩ | h <;> rw [h] <;> rfl
theorem pub_sl (z : Nat) (nl : Bool) (xs : List AV) : pub (sl z nl xs) = sl z nl xs := by
  rcases sl_cases z nl xs with ⟨_, h⟩ | h <;> rw [h] <;> rfl
theorem untip_sl (z : Nat) (nl : Bool) (xs : List AV) : untip (sl z nl xs) = sl z nl xs := by
  rcases sl_cases z nl xs with ⟨_, h⟩ | h <;> rw [h] <;> rfl
theorem ren1_sl (z : Nat) (nl : Bool) (xs : List AV) (n : Nat) (tips : List Nat) (acc : List (Nat × Nat)) : ren1 n tips acc (sl z nl xs) = (sl z nl xs, acc) := by
  rcases sl_cases z nl xs with ⟨_, h⟩ | h <;> rw [h] <;> rfl
theorem okRef_sl (z : Nat) (nl : Bool) (xs : List AV) (n : Nat) : okRef n (sl z nl xs) = true := by
  rcases sl_cases z nl xs with ⟨_, h⟩ | h <;> rw [h] <;> rfl
theorem storable_sl (z : Nat) (nl : Bool) (xs : List AV) : storable (sl z nl xs) = true := by
  rcases sl_cases z nl xs with ⟨_, h⟩ | h <;> rw [h] <;> rfl
theorem shaped_sl (z : Nat) (nl : Bool) (xs : List AV) : (sl z nl xs).shaped = true := by
  rcases sl_cases z nl xs with ⟨_, h⟩ | h <;> rw [h] <;> rfl
theorem cells_sl (z : Nat) (nl : Bool) (xs : List AV) : (sl z nl xs).cells = [sl z nl xs] := by
  rcases sl_cases z nl xs with ⟨_, h⟩ | h <;> rw [h] <;> rfl
theorem isRsl_sl (z : Nat) (nl : Bool) (xs : List AV) : isRsl (sl z nl xs) = false := by
  rcases sl_cases z nl xs with ⟨_, h⟩ | h <;> rw [h] <;> rfl
theorem elems_sl (z : Nat) (nl : Bool) (xs : List AV) (st : St) : elemsOf z st (sl z nl xs) = some xs := by
  rcases sl_cases z nl xs with ⟨e, h⟩ | h <;> rw [h]
  · rw [e]; rfl
  · simp [elemsOf]
theorem index_sl (z : Nat) (nl : Bool) (xs : List AV) (k : IntKind) (i : Int) (h : 0 ≤ i) (h' : i.toNat < xs.length) : indexSAV z (sl z nl xs) (.v (.int k i)) = some (.eptr xs[i.toNat] 0) := by
  rcases sl_cases z nl xs with ⟨e, _⟩ | e
  · rw [e] at h'; simp at h'
  · rw [e]; simp [indexSAV, h, h']

/-! ### constructor by constructor: what is not yet known stays as it is -/

theorem cells_any  : AV.cells (.any) = [.any] := rfl
theorem storable_any  : storable (.any) = false := rfl
theorem ren1_any (n : Nat) (tips : List Nat) (acc : List (Nat × Nat))  : ren1 n tips acc (.any) = (.any, acc) := rfl
theorem shaped_ptr (l o : Nat) : (AV.shaped (.ptr l o)) = true := rfl
theorem cells_ptr (l o : Nat) : AV.cells (.ptr l o) = [.ptr l o] := rfl
theorem storable_ptr (l o : Nat) : storable (.ptr l o) = true := rfl
theorem ren1_ptr (n : Nat) (tips : List Nat) (acc : List (Nat × Nat)) (l o : Nat) : ren1 n tips acc (.ptr l o) = (.ptr l o, acc) := rfl
theorem shaped_eptr (e : AV) (o : Nat) : (AV.shaped (.eptr e o)) = true := rfl
theorem cells_eptr (e : AV) (o : Nat) : AV.cells (.eptr e o) = [.eptr e o] := rfl
theorem storable_eptr (e : AV) (o : Nat) : storable (.eptr e o) = true := rfl
theorem ren1_eptr (n : Nat) (tips : List Nat) (acc : List (Nat × Nat)) (e : AV) (o : Nat) : ren1 n tips acc (.eptr e o) = (.eptr e o, acc) := rfl
theorem shaped_rsl (l o k c z : Nat) (a : Bool) : (AV.shaped (.rsl l o k c z a)) = true := rfl
theorem cells_rsl (l o k c z : Nat) (a : Bool) : AV.cells (.rsl l o k c z a) = [.rsl l o k c z a] := rfl
theorem storable_rsl (l o k c z : Nat) (a : Bool) : storable (.rsl l o k c z a) = true := rfl
theorem ren1_rsl (n : Nat) (tips : List Nat) (acc : List (Nat × Nat)) (l o k c z : Nat) (a : Bool) : ren1 n tips acc (.rsl l o k c z a) = (.rsl l o k c z a, acc) := rfl
theorem shaped_int (k : IntKind) (i : Int) : (AV.shaped (.v (.int k i))) = true := rfl
theorem cells_int (k : IntKind) (i : Int) : AV.cells (.v (.int k i)) = [.v (.int k i)] := rfl
theorem storable_int (k : IntKind) (i : Int) : storable (.v (.int k i)) = true := rfl
theorem ren1_int (n : Nat) (tips : List Nat) (acc : List (Nat × Nat)) (k : IntKind) (i : Int) : ren1 n tips acc (.v (.int k i)) = (.v (.int k i), acc) := rfl
theorem shaped_bool (b : Bool) : (AV.shaped (.v (.bool b))) = true := rfl
theorem cells_bool (b : Bool) : AV.cells (.v (.bool b)) = [.v (.bool b)] := rfl
theorem storable_bool (b : Bool) : storable (.v (.bool b)) = true := rfl
theorem ren1_bool (n : Nat) (tips : List Nat) (acc : List (Nat × Nat)) (b : Bool) : ren1 n tips acc (.v (.bool b)) = (.v (.bool b), acc) := rfl
theorem shaped_nils (i j : Nat) : (AV.shaped (.v (.slice none i j))) = true := rfl
theorem cells_nils (i j : Nat) : AV.cells (.v (.slice none i j)) = [.v (.slice none i j)] := rfl
theorem storable_nils (i j : Nat) : storable (.v (.slice none i j)) = true := rfl
theorem ren1_nils (n : Nat) (tips : List Nat) (acc : List (Nat × Nat)) (i j : Nat) : ren1 n tips acc (.v (.slice none i j)) = (.v (.slice none i j), acc) := rfl
theorem shaped_lst (g : Tag) (z : Nat) (xs : List AV) : (AV.shaped (.lst g z xs)) = true := rfl
theorem cells_lst (g : Tag) (z : Nat) (xs : List AV) : AV.cells (.lst g z xs) = [.lst g z xs] := rfl
theorem storable_lst (g : Tag) (z : Nat) (xs : List AV) : storable (.lst g z xs) = true := rfl
theorem shaped_fn (f : Fn) (a b : List AV) : (AV.shaped (.fn f a b)) = true := rfl
theorem cells_fn (f : Fn) (a b : List AV) : AV.cells (.fn f a b) = [.fn f a b] := rfl
theorem storable_fn (f : Fn) (a b : List AV) : storable (.fn f a b) = true := rfl
theorem ren1_fn (n : Nat) (tips : List Nat) (acc : List (Nat × Nat)) (f : Fn) (a b : List AV) : ren1 n tips acc (.fn f a b) = (.fn f (untips a) (untips b), acc) := rfl
theorem shaped_ifc (t : TypeId) (x : AV) : (AV.shaped (.ifc t x)) = true := rfl
theorem cells_ifc (t : TypeId) (x : AV) : AV.cells (.ifc t x) = [.ifc t x] := rfl
theorem storable_ifc (t : TypeId) (x : AV) : storable (.ifc t x) = true := rfl
theorem ren1_ifc (n : Nat) (tips : List Nat) (acc : List (Nat × Nat)) (t : TypeId) (x : AV) : ren1 n tips acc (.ifc t x) = (.ifc t (untip x), acc) := rfl
theorem shaped_agg (cs : List AV) : (AV.shaped (.agg cs)) = true := rfl
theorem cells_agg (cs : List AV) : AV.cells (.agg cs) = cs := rfl
theorem storable_agg (cs : List AV) : storable (.agg cs) = false := rfl
theorem ren1_agg (n : Nat) (tips : List Nat) (acc : List (Nat × Nat)) (cs : List AV) : ren1 n tips acc (.agg cs) = (.agg (untips cs), acc) := rfl
theorem shaped_tup (cs : List AV) : (AV.shaped (.tup cs)) = true := rfl
theorem cells_tup (cs : List AV) : AV.cells (.tup cs) = [.tup cs] := rfl
theorem storable_tup (cs : List AV) : storable (.tup cs) = false := rfl
theorem ren1_tup (n : Nat) (tips : List Nat) (acc : List (Nat × Nat)) (cs : List AV) : ren1 n tips acc (.tup cs) = (.tup (untips cs), acc) := rfl
theorem shaped_nif  : (AV.shaped (.v .nilIface)) = true := rfl
theorem cells_nif  : AV.cells (.v .nilIface) = [.v .nilIface] := rfl
theorem storable_nif  : storable (.v .nilIface) = true := rfl
theorem ren1_nif (n : Nat) (tips : List Nat) (acc : List (Nat × Nat))  : ren1 n tips acc (.v .nilIface) = (.v .nilIface, acc) := rfl
theorem ren1_lany (n : Nat) (tips : List Nat) (acc : List (Nat × Nat)) (z : Nat) (xs : List AV) : ren1 n tips acc (.lst .any z xs) = (.lst .any z xs, acc) := rfl
theorem ren1_lfull (n : Nat) (tips : List Nat) (acc : List (Nat × Nat)) (z : Nat) (xs : List AV) : ren1 n tips acc (.lst .full z xs) = (.lst .full z xs, acc) := rfl
theorem ren1_lown (n : Nat) (tips : List Nat) (acc : List (Nat × Nat)) (t e z : Nat) (xs : List AV) : ren1 n tips acc (.lst (.own t e) z xs) =
    if t < n then (.lst (.own t e) z xs, acc)
    else if tips[t]? = some e ∧ acc.all (fun p => p.1 != t) = true then (.lst (.own (n + acc.length) xs.length) z xs, acc ++ [(t, xs.length)])
    else (.lst .any z xs, acc) := rfl
theorem len_lst (g : Tag) (z : Nat) (xs : List AV) : lenAV (.lst g z xs) = some (I xs.length) := rfl
theorem len_rsl (l o n c z : Nat) (a : Bool) : lenAV (.rsl l o n c z a) = some (I n) := rfl
theorem len_nil (n c : Nat) : lenAV (.v (.slice none n c)) = some (I n) := rfl
theorem load_ptr (s : Nat) (ag : Bool) (st : St) (l o : Nat) : loadAV s ag st (.ptr l o) = (st.store[l]?).bind (readCells ag s o) := rfl
theorem load_eptr (s : Nat) (ag : Bool) (st : St) (e : AV) (o : Nat) : loadAV s ag st (.eptr e o) = readCells ag s o e.cells := rfl
theorem isRsl_lst (g : Tag) (z : Nat) (xs : List AV) : isRsl (.lst g z xs) = false := rfl
theorem isRsl_nil (n c : Nat) : isRsl (.v (.slice none n c)) = false := rfl
theorem isRsl_rsl (l o n c z : Nat) (a : Bool) : isRsl (.rsl l o n c z a) = true := rfl
theorem elems_nil (z : Nat) (st : St) : elemsOf z st (.v (.slice none 0 0)) = some [] := rfl
theorem elems_lst (g : Tag) (z : Nat) (xs : List AV) (st : St) : elemsOf z st (.lst g z xs) = some xs := by simp [elemsOf]

theorem min_int (k k' : IntKind) (a b : Int) : minAV (.v (.int k a)) (.v (.int k' b)) = some (.v (.int k (min a b))) := by
  simp only [minAV, Option.some.injEq, AV.v.injEq, Value.int.injEq, true_and]; split <;> omega
theorem max_int (k k' : IntKind) (a b : Int) : maxAV (.v (.int k a)) (.v (.int k' b)) = some (.v (.int k (max a b))) := by
  simp only [maxAV, Option.some.injEq, AV.v.injEq, Value.int.injEq, true_and]; split <;> omega
theorem beq_int (a b : Int) : (a == b) = decide (a = b) := rfl

/-! ### loops -/

theorem canon_get (env : Env) : ∀ (ks : List Tmp) (t : Tmp), t ∈ ks → (canon env ks).get t = env.get t
  | [], t, h => by simp at h
  | k :: ks, t, h => by
    simp only [canon, Env.get]
    split
    · next e => rw [e]
    · next e => exact canon_get env ks t (by simpa [Ne.symm e] using h)

theorem canon_congr {e e' : Env} : ∀ (ks : List Tmp), (∀ t ∈ ks, e.get t = e'.get t) → canon e ks = canon e' ks
  | [], _ => rfl
  | k :: ks, h => by simp only [canon]; rw [h k (by simp), canon_congr ks (fun t ht => h t (by simp [ht]))]

theorem canon_canon (env : Env) (ks : List Tmp) : canon (canon env ks) ks = canon env ks :=
  canon_congr ks fun t ht => canon_get env ks t ht

/-- A loop looks at the slots that it keeps. -/
theorem lim_canon {ks : List Tmp} {F : Env → St → Out} {env : Env} {st : St} : lim (fun e s => F (canon e ks) s) env st = lim (fun e s => F (canon e ks) s) (canon env ks) st := by
  rw [lim_eq, lim_eq (env := canon env ks)]
  simp only [canon_canon]

/-- A loop whose head goes through the states 'head a' and ends as 'res' says. -/
theorem lim_ind {α : Type} {body : Env → St → Out} (m : α → Nat) (ok : α → Prop) (head : α → Env × St) (res : α → Out)
    (h : ∀ a, ok a → (∃ a', ok a' ∧ m a' < m a ∧ body (head a).1 (head a).2 = some (.normal, (head a').1, (head a').2) ∧ res a' = res a) ∨
      (∃ x e s, body (head a).1 (head a).2 = some (x, e, s) ∧ x ≠ .normal ∧ res a = some (x, e, s))) :
    ∀ a, ok a → lim body (head a).1 (head a).2 = res a := by
  intro a
  induction hn : m a using Nat.strongRecOn generalizing a with
  | ind n ih =>
    intro hok
    rw [lim_eq]
    rcases h a hok with ⟨a', h1, h2, h3, h4⟩ | ⟨x, e, s, h1, h2, h3⟩
    · rw [h3]
      simp only
      rw [ih (m a') (by omega) a' rfl h1, h4]
    · rw [h1, h3]
      cases x with
      | normal => exact absurd rfl h2
      | _ => rfl

/-! ### a local list that grows: 'k': how long it is while it is what it began with (0: nil) -/

def loc (z k : Nat) (xs : List AV) : AV := if xs.length = k then (if k = 0 then .v (.slice none 0 0) else .lst .full z xs) else .lst (.own 0 xs.length) z xs
def locT (k : Nat) (xs : List AV) : List Nat := if xs.length = k then [] else [xs.length]

theorem loc_start (z : Nat) : .v (.slice none 0 0) = loc z 0 [] := by simp [loc]
theorem loc_lit (z : Nat) (x : AV) : .lst .full z [x] = loc z 1 [x] := by simp [loc]
theorem loc_snoc {z k : Nat} {xs : List AV} (y : AV) (h : k ≤ xs.length) : loc z k (xs ++ [y]) = .lst (.own 0 (xs.length + 1)) z (xs ++ [y]) := by
  have : ¬ xs.length + 1 = k := by omega
  simp [loc, this]
theorem locT_snoc {k : Nat} {xs : List AV} (y : AV) (h : k ≤ xs.length) : locT k (xs ++ [y]) = [xs.length + 1] := by
  have : ¬ xs.length + 1 = k := by omega
  simp [locT, this]
theorem len_loc (z k : Nat) (xs : List AV) : lenAV (loc z k xs) = some (I xs.length) := by
  unfold loc; split
  · next h => split
              · next e => subst e; rw [h]; rfl
              · rfl
  · rfl
theorem index_loc (z k : Nat) (xs : List AV) (kd : IntKind) (i : Int) (h : 0 ≤ i) (h' : i.toNat < xs.length) : indexSAV z (loc z k xs) (.v (.int kd i)) = some (.eptr xs[i.toNat] 0) := by
  unfold loc; split
  · split
    · omega
    · simp [indexSAV, h, h']
  · simp [indexSAV, h, h']
theorem loc_cases (z k : Nat) (xs : List AV) : loc z k xs = .v (.slice none 0 0) ∨ loc z k xs = .lst .full z xs ∨ loc z k xs = .lst (.own 0 xs.length) z xs := by
  unfold loc; split
  · split
    · exact .inl rfl
    · exact .inr (.inl rfl)
  · exact .inr (.inr rfl)
theorem okRef_loc (z k : Nat) (xs : List AV) (n : Nat) : okRef n (loc z k xs) = true := by
  rcases loc_cases z k xs with h | h | h <;> rw [h] <;> rfl
theorem storable_loc (z k : Nat) (xs : List AV) : storable (loc z k xs) = true := by
  rcases loc_cases z k xs with h | h | h <;> rw [h] <;> rfl
theorem shaped_loc (z k : Nat) (xs : List AV) : (loc z k xs).shaped = true := by
  rcases loc_cases z k xs with h | h | h <;> rw [h] <;> rfl
theorem cells_loc (z k : Nat) (xs : List AV) : (loc z k xs).cells = [loc z k xs] := by
  rcases loc_cases z k xs with h | h | h <;> rw [h] <;> rfl
theorem isRsl_loc (z k : Nat) (xs : List AV) : isRsl (loc z k xs) = false := by
  rcases loc_cases z k xs with h | h | h <;> rw [h] <;> rfl
theorem elems_loc (z k : Nat) (xs : List AV) (st : St) : elemsOf z st (loc z k xs) = some xs := by
  unfold loc; split
  · next h => split
              · next e => subst e; rw [List.eq_nil_of_length_eq_zero h]; rfl
              · simp [elemsOf]
  · simp [elemsOf]
theorem fin_v (st : St) (x : Value) : fin st (.v x) = .v x := by simp [fin]
theorem fin_lst (st : St) (g : Tag) (z : Nat) (xs : List AV) : fin st (.lst g z xs) = .lst .any z xs := by simp [fin]
theorem fin_agg (st : St) (cs : List AV) : fin st (.agg cs) = .agg (fins st cs) := by simp [fin]
theorem fin_tup (st : St) (cs : List AV) : fin st (.tup cs) = .tup (fins st cs) := by simp [fin]
theorem fin_fn (st : St) (f : Fn) (a b : List AV) : fin st (.fn f a b) = .fn f (pubs a) (pubs b) := by simp [fin]
theorem leave_eq (st1 st : St) (r : AV) : leave st1 st r = (fin st1 r, st) := rfl
theorem fin_sl (st : St) (z : Nat) (nl : Bool) (xs : List AV) : fin st (sl z nl xs) = sl z nl xs := by
  rcases sl_cases z nl xs with ⟨_, h⟩ | h <;> rw [h] <;> simp [fin]
theorem fin_loc (st : St) (z k : Nat) (xs : List AV) : fin st (loc z k xs) = sl z (k == 0) xs := by
  unfold loc sl; split
  · next h => split
              · next e => subst e; rw [if_pos (by simpa using h)]; simp [fin]
              · next e => rw [if_neg (by simp [e])]; simp [fin]
  · next h =>
    rw [if_neg]; simp [fin]
    rintro ⟨h1, rfl⟩
    simp at h1 h
    exact h h1.symm
theorem pub_loc (z k : Nat) (xs : List AV) : pub (loc z k xs) = sl z (k == 0) xs := by
  unfold loc sl; split
  · next h => split
              · next e => subst e; rw [if_pos (by simpa using h)]; rfl
              · next e => rw [if_neg (by simp [e])]; rfl
  · next h =>
    rw [if_neg]; rfl
    rintro ⟨h1, rfl⟩
    simp at h1 h
    exact h h1.symm
theorem ren1_loc {k : Nat} (z : Nat) (xs : List AV) : ren1 0 (locT k xs) [] (loc z k xs) = (loc z k xs, if xs.length = k then [] else [(0, xs.length)]) := by
  unfold loc locT
  split
  · split <;> rfl
  · simp [ren1]
theorem append_loc {z k : Nat} {xs : List AV} (y : AV) (s : List (List AV)) (h : k ≤ xs.length) (hm : xs.length + 1 ≤ maxGrow) :
    appendAV z (loc z k xs) [y] ⟨s, locT k xs⟩ = some (loc z k (xs ++ [y]), ⟨s, locT k (xs ++ [y])⟩) := by
  rw [loc_snoc y h, locT_snoc y h]
  unfold loc locT
  split
  · next e =>
    split
    · next e0 =>
      have : xs = [] := List.eq_nil_of_length_eq_zero (by omega)
      subst this
      simp [appendAV, maxGrow]
    · simp [appendAV, hm]
  · simp [appendAV, hm]

theorem append_locm {β : Type} {z k : Nat} (f : β → AV) (xs : List β) (y : β) (s : List (List AV)) (h : k ≤ xs.length) (hm : xs.length + 1 ≤ maxGrow) :
    appendAV z (loc z k (xs.map f)) [f y] ⟨s, locT k (xs.map f)⟩ = some (loc z k ((xs ++ [y]).map f), ⟨s, locT k ((xs ++ [y]).map f)⟩) := by
  rw [append_loc (f y) s (by simpa using h) (by simpa using hm)]
  simp
/-- What a local list becomes when others have tips, too ('T'). -/
def locN (z k : Nat) (xs ys : List AV) (T : List Nat) : AV := if xs.length = k then .lst (.own T.length (xs.length + ys.length)) z (xs ++ ys) else .lst (.own 0 (xs.length + ys.length)) z (xs ++ ys)
def locNT (k : Nat) (xs ys : List AV) (T : List Nat) : List Nat := if xs.length = k then T ++ [xs.length + ys.length] else (xs.length + ys.length) :: T
theorem append_more {z k : Nat} {xs ys : List AV} (hy : ys ≠ []) (s : List (List AV)) (T : List Nat) (hm : xs.length + ys.length ≤ maxGrow) (hk : xs.length = k → k = 0 ∨ 0 < k) :
    appendAV z (loc z k xs) ys ⟨s, locT k xs ++ T⟩ = some (locN z k xs ys T, ⟨s, locNT k xs ys T⟩) := by
  obtain ⟨y, r, rfl⟩ : ∃ y r, ys = y :: r := by cases ys with | nil => exact absurd rfl hy | cons y r => exact ⟨y, r, rfl⟩
  unfold loc locT locN locNT
  split
  · next e =>
    split
    · next e0 =>
      have : xs = [] := List.eq_nil_of_length_eq_zero (by omega)
      subst this
      simp [appendAV] at hm ⊢
      simpa using hm
    · simp [appendAV] at hm ⊢
      simpa using hm
  · simp [appendAV] at hm ⊢
    simp [hm]
theorem ren1_more {z k : Nat} {xs ys : List AV} (T : List Nat) : ren1 0 (locNT k xs ys T) [] (locN z k xs ys T) = (.lst (.own 0 (xs ++ ys).length) z (xs ++ ys), [(if xs.length = k then T.length else 0, (xs ++ ys).length)]) := by
  unfold locN locNT
  split <;> simp [ren1]
theorem okRef_more (n z k : Nat) (xs ys : List AV) (T : List Nat) : okRef n (locN z k xs ys T) = true := by
  unfold locN; split <;> rfl
theorem loc_own {z k : Nat} {xs : List AV} (h : xs.length ≠ k) : AV.lst (.own 0 xs.length) z xs = loc z k xs := by simp [loc, h]
theorem locT_own {k : Nat} {xs : List AV} (h : xs.length ≠ k) : [xs.length] = locT k xs := by simp [locT, h]
/-- A copy that grows by one. -/
theorem copy_nil (z : Nat) (st : St) : appendAV z (.lst .full z []) [] st = some (.lst .full z [], st) := by simp [appendAV]
theorem copy_some {z : Nat} {xs : List AV} (h : xs ≠ []) (hm : xs.length ≤ maxGrow) (st : St) : appendAV z (.lst .full z []) xs st = some (.lst (.own st.tips.length xs.length) z xs, ⟨st.store, st.tips ++ [xs.length]⟩) := by
  obtain ⟨y, r, rfl⟩ : ∃ y r, xs = y :: r := by cases xs with | nil => exact absurd rfl h | cons y r => exact ⟨y, r, rfl⟩
  simp only [List.length_cons] at hm
  simp [appendAV, hm]
theorem copy_one {z : Nat} {xs : List AV} (y : AV) (s : List (List AV)) (T : List Nat) (hm : xs.length + 1 ≤ maxGrow) :
    appendAV z (.lst (.own T.length xs.length) z xs) [y] ⟨s, T ++ [xs.length]⟩ = some (.lst (.own T.length (xs.length + 1)) z (xs ++ [y]), ⟨s, T ++ [xs.length + 1]⟩) := by
  simp [appendAV, hm]
theorem sl_ne {z : Nat} {nl : Bool} {xs : List AV} (h : xs ≠ []) : sl z nl xs = .lst .any z xs := by simp [sl, h]
theorem locT_eq {β : Type} (k : Nat) (f : β → AV) (xs : List β) : locT k (xs.map f) = if xs.length = k then [] else [xs.length] := by simp [locT]
theorem ren1_locm {β : Type} {k : Nat} (z : Nat) (f : β → AV) (xs : List β) : ren1 0 (if xs.length = k then [] else [xs.length]) [] (loc z k (xs.map f)) = (loc z k (xs.map f), if xs.length = k then [] else [(0, xs.length)]) := by
  have h := ren1_loc (k := k) z (xs.map f)
  rw [locT_eq] at h
  rw [h]; simp
theorem loc_tips {β : Type} (k : Nat) (xs : List β) : (if xs.length = k then ([] : List (Nat × Nat)) else [(0, xs.length)]).map (fun x => x.2) = if xs.length = k then [] else [xs.length] := by
  split <;> rfl

/-! ### code, a step at a time: what follows stays as it is until what comes first is known -/

section
variable (pure : FuncId → Bool) (call : CallF)

noncomputable def seqK (b : IC) : Out → Out
  | some (.normal, e, s) => codeAV pure call lim b e s
  | r => r
noncomputable def condK (a b : IC) (env : Env) (st : St) : AV → Out
  | .v (.bool t) => if t then codeAV pure call lim a env st else codeAV pure call lim b env st
  | _ => none
def blockK (i : Nat) : Out → Out
  | some (.exit j, env, st) => if j = i then some (.normal, env, st) else some (.exit j, env, st)
  | r => r
def opsK : Option (Env × St) → Out
  | some (env, st) => some (.normal, env, st)
  | none => none
def stepK (d : Option Tmp) (r : List IOp) (env : Env) : Option (AV × St) → Option (Env × St)
  | some (a, st) => opsAV pure call r (setD env d a) st
  | none => none
def wantK (d : Option Tmp) (k : IK) (r : List IOp) (env : Env) (st : St) : Option Bool → Option (Env × St)
  | some true => stepK pure call d r env (opAV pure call env st k)
  | some false => opsAV pure call r (setD env d (.v (.tuple #[]))) st
  | none => none
def resK (st : St) : Option (List AV) → Option (AV × St)
  | some r => some (tupAV r, st)
  | none => none
def bodyK (res : List (Tmp × Option (Nat × Bool))) : Out → Option (AV × St)
  | some (.normal, env, st) => resK st (resAV env st res)
  | some (.ret, env, st) => resK st (resAV env st res)
  | _ => none
def leaveK (st : St) : Option (AV × St) → Option (AV × St)
  | some (r, st1) => some (leave st1 st r)
  | none => none

theorem code_frz (ts : List Tmp) (env : Env) (st : St) : codeAV pure call lim (.frz ts) env st = some (.normal, (frzAV ts env st).1, (frzAV ts env st).2) := rfl
theorem code_frzp (ts : List Tmp) (env : Env) (st : St) : codeAV pure call lim (.frzp ts) env st = some (.normal, (frzPs ts env st).1, (frzPs ts env st).2) := rfl
def scopeK (l : List IOp) (env : Env) (st : St) : Option (Env × St) → Out
  | some (_, st1) => if noLB st1.store = true then some (.normal, forgot l env, ⟨mergeS st.store st1.store, st.tips⟩) else none
  | none => none
theorem code_lost (l : List IOp) (env : Env) (st : St) : codeAV pure call lim (.lost l) env st = scopeK l env st (opsAV pure call l (hideEnv st env) (hideSt st)) := by
  simp only [codeAV]; unfold scopeK; split <;> simp_all
theorem scopeK_some (l : List IOp) (env env1 : Env) (st st1 : St) (h : noLB st1.store = true) : scopeK l env st (some (env1, st1)) = some (.normal, forgot l env, ⟨mergeS st.store st1.store, st.tips⟩) := by
  unfold scopeK; simp only; rw [if_pos h]
theorem code_skip (env : Env) (st : St) : codeAV pure call lim .skip env st = some (.normal, env, st) := rfl
theorem code_exit (i : Nat) (env : Env) (st : St) : codeAV pure call lim (.exit i) env st = some (.exit i, env, st) := rfl
theorem code_ret (env : Env) (st : St) : codeAV pure call lim .ret env st = some (.ret, env, st) := rfl
theorem code_ops (l : List IOp) (env : Env) (st : St) : codeAV pure call lim (.ops l) env st = opsK (opsAV pure call l env st) := by
  simp only [codeAV]; unfold opsK; split <;> simp_all
theorem code_seq (a b : IC) (env : Env) (st : St) : codeAV pure call lim (.seq a b) env st = seqK pure call b (codeAV pure call lim a env st) := by
  simp only [codeAV]; unfold seqK; rfl
theorem code_cond (c : Operand) (a b : IC) (env : Env) (st : St) : codeAV pure call lim (.cond c a b) env st = condK pure call a b env st (aval env c) := by
  simp only [codeAV]; unfold condK; rfl
theorem code_block (i : Nat) (a : IC) (env : Env) (st : St) : codeAV pure call lim (.block i a) env st = blockK i (codeAV pure call lim a env st) := by
  simp only [codeAV]; unfold blockK; rfl
theorem seqK_normal (b : IC) (e : Env) (s : St) : seqK pure call b (some (.normal, e, s)) = codeAV pure call lim b e s := rfl
theorem seqK_ret (b : IC) (e : Env) (s : St) : seqK pure call b (some (.ret, e, s)) = some (.ret, e, s) := rfl
theorem seqK_exit (b : IC) (i : Nat) (e : Env) (s : St) : seqK pure call b (some (.exit i, e, s)) = some (.exit i, e, s) := rfl
theorem condK_true (a b : IC) (e : Env) (s : St) : condK pure call a b e s (.v (.bool true)) = codeAV pure call lim a e s := rfl
theorem condK_false (a b : IC) (e : Env) (s : St) : condK pure call a b e s (.v (.bool false)) = codeAV pure call lim b e s := rfl
theorem blockK_normal (i : Nat) (e : Env) (s : St) : blockK i (some (.normal, e, s)) = some (.normal, e, s) := rfl
theorem blockK_ret (i : Nat) (e : Env) (s : St) : blockK i (some (.ret, e, s)) = some (.ret, e, s) := rfl
theorem blockK_exit (i j : Nat) (e : Env) (s : St) : blockK i (some (.exit j, e, s)) = if j = i then some (.normal, e, s) else some (.exit j, e, s) := rfl
theorem opsK_some (e : Env) (s : St) : opsK (some (e, s)) = some (.normal, e, s) := rfl
theorem ops_nil (env : Env) (st : St) : opsAV pure call [] env st = some (env, st) := rfl
theorem ops_cons (d : Option Tmp) (g : Option (Tmp × Bool)) (k : IK) (r : List IOp) (env : Env) (st : St) : opsAV pure call (⟨d, g, k⟩ :: r) env st = wantK pure call d k r env st (wantedAV env g) := by
  simp only [opsAV]; unfold wantK stepK; rfl
theorem wantK_true (d : Option Tmp) (k : IK) (r : List IOp) (env : Env) (st : St) : wantK pure call d k r env st (some true) = stepK pure call d r env (opAV pure call env st k) := rfl
theorem wantK_false (d : Option Tmp) (k : IK) (r : List IOp) (env : Env) (st : St) : wantK pure call d k r env st (some false) = opsAV pure call r (setD env d (.v (.tuple #[]))) st := rfl
theorem stepK_some (d : Option Tmp) (r : List IOp) (env : Env) (a : AV) (s : St) : stepK pure call d r env (some (a, s)) = opsAV pure call r (setD env d a) s := rfl
theorem bodyK_normal (res : List (Tmp × Option (Nat × Bool))) (e : Env) (s : St) : bodyK res (some (.normal, e, s)) = resK s (resAV e s res) := rfl
theorem bodyK_ret (res : List (Tmp × Option (Nat × Bool))) (e : Env) (s : St) : bodyK res (some (.ret, e, s)) = resK s (resAV e s res) := rfl
theorem resK_some (s : St) (r : List AV) : resK s (some r) = some (tupAV r, s) := rfl
theorem leaveK_some (st s : St) (r : AV) : leaveK st (some (r, s)) = some (leave s st r) := rfl
theorem body_eq (fn : IF) (args : List AV) (st : St) : bodyAV pure call lim fn args st = bodyK fn.res (codeAV pure call lim fn.code (params 0 args) st) := by
  simp only [bodyAV]; unfold bodyK resK; rfl
theorem only_some (a : AV) (st : St) : only (some a) st = some (a, st) := rfl

/-- A loop's round. -/
noncomputable def headed (gc : Bool) (ks : List Tmp) (a : IC) (lo hi : Nat) : Env → St → Out := fun env st =>
  codeAV pure call lim a (gcAV gc lo hi (canon env ks) st).1 (gcAV gc lo hi (canon env ks) st).2

theorem code_loop (gc : Bool) (ks : List Tmp) (a : IC) (env : Env) (st : St) :
    codeAV pure call lim (.loop gc ks a) env st = lim (headed pure call gc ks a st.store.length st.tips.length) env st := rfl
end

/-- A loop, its outcome told by a relation: 'head a' are the states at its head, cleared. -/
theorem loop_post {pure : FuncId → Bool} {call : CallF} {gc : Bool} {ks : List Tmp} {body : IC} {lo hi : Nat} {α : Type} (m : α → Nat) (ok : α → Prop) (head : α → Env × St) (Q : α → X → Env → St → Prop)
    (h : ∀ a, ok a → (∃ a' e' s', ok a' ∧ m a' < m a ∧ codeAV pure call lim body (head a).1 (head a).2 = some (.normal, e', s') ∧ gcAV gc lo hi (canon e' ks) s' = head a' ∧ ∀ x e s, Q a' x e s → Q a x e s) ∨
      (∃ x e s, codeAV pure call lim body (head a).1 (head a).2 = some (x, e, s) ∧ x ≠ .normal ∧ Q a x e s)) :
    ∀ a, ok a → ∀ env st, gcAV gc lo hi (canon env ks) st = head a → ∃ x e s, lim (headed pure call gc ks body lo hi) env st = some (x, e, s) ∧ Q a x e s := by
  intro a
  induction hn : m a using Nat.strongRecOn generalizing a with
  | ind n ih =>
    intro hok env st hg
    rw [lim_eq]
    have he : headed pure call gc ks body lo hi env st = codeAV pure call lim body (head a).1 (head a).2 := by rw [← hg]; rfl
    rcases h a hok with ⟨a', e', s', h1, h2, h3, h4, h5⟩ | ⟨x, e, s, h1, h2, h3⟩
    · rw [he, h3]
      obtain ⟨x, e, s, g1, g2⟩ := ih (m a') (by omega) a' rfl h1 e' s' h4
      exact ⟨x, e, s, g1, h5 x e s g2⟩
    · rw [he, h1]
      refine ⟨x, e, s, ?_, h3⟩
      cases x with
      | normal => exact absurd rfl h2
      | _ => rfl

theorem run_pure {L : Lib} {f : FuncId} {fn : IF} {args : List AV} {st : St} (hf : L.fns f = some fn) (hp : L.pure f = true) :
    run L f args st = leaveK st (bodyAV L.pure (run L) lim fn (pubs args) ⟨[], []⟩) := by
  rw [run_eq]
  simp only [enterAV, hf, if_pos hp]
  unfold leaveK
  rfl

theorem run_shared {L : Lib} {f : FuncId} {fn : IF} {args : List AV} {st : St} (hf : L.fns f = some fn) (hp : L.pure f = false) :
    run L f args st = bodyAV L.pure (run L) lim fn args st := by
  rw [run_eq]
  simp only [enterAV, hf, hp, Bool.false_eq_true, if_false]

theorem run_prim {L : Lib} {f : FuncId} {args : List AV} {st st' : St} {r : AV} (hf : L.fns f = none) (hp : L.pure f = false) (h : L.prim f args st = some (r, st')) (h1 : st.store.length ≤ st'.store.length) (h2 : st.tips.length ≤ st'.tips.length) : run L f args st = some (r, st') := by
  rw [run_eq]
  simp only [enterAV, hf, primAV, h, if_pos (show L.pure f = false ∧ st.store.length ≤ st'.store.length ∧ st.tips.length ≤ st'.tips.length from ⟨hp, h1, h2⟩)]

/-! ### literals and appends that may be written -/
theorem elemsM_nil (z : Nat) (st : St) : elemsM z st (.v (.slice none 0 0)) = some [] := rfl
theorem elemsM_lst (g : Tag) (z : Nat) (xs : List AV) (st : St) : elemsM z st (.lst g z xs) = some xs := by simp [elemsM, elemsOf]
theorem elemsM_sl (z : Nat) (nl : Bool) (xs : List AV) (st : St) : elemsM z st (sl z nl xs) = some xs := by
  have h := elems_sl z nl xs st
  unfold sl at h ⊢
  split <;> simp_all [elemsM]
theorem elemsM_loc (z k : Nat) (xs : List AV) (st : St) : elemsM z st (loc z k xs) = some xs := by
  have h := elems_loc z k xs st
  unfold loc at h ⊢
  split
  · split <;> simp_all [elemsM]
  · simp_all [elemsM]
theorem elemsM_rsl (st : St) (l o n c : Nat) : elemsM 1 st (.rsl l o n c 1 false) = (st.store[l]?).bind fun cs => if o + n ≤ cs.length then some (((cs.drop o).take n).map pubE) else none := by simp [elemsM]
theorem elemsM_agg (z : Nat) (st : St) (l o n c z' : Nat) : elemsM z st (.rsl l o n c z' true) = elemsOf z st (.rsl l o n c z' true) := by simp [elemsM]
theorem pubR_v (x : Value) : pubR (.v x) = .v x := rfl
theorem pubR_rsl (l o n c z : Nat) (a : Bool) : pubR (.rsl l o n c z a) = .rsl l o n c z a := rfl
theorem pubE_v (x : Value) : pubE (.v x) = .v x := rfl
theorem pubE_rsl (l o n c z : Nat) (a : Bool) : pubE (.rsl l o n c z a) = .rsl l o n c z a := rfl

/-! ### all ways through a piece of code at once: tests become 'if', what fails is 'none' -/

section
variable (pure : FuncId → Bool) (call : CallF)
theorem condK_if (a b : IC) (e : Env) (s : St) (t : Bool) : condK pure call a b e s (.v (.bool t)) = if t = true then codeAV pure call lim a e s else codeAV pure call lim b e s := by cases t <;> rfl
theorem wantK_if (d : Option Tmp) (k : IK) (r : List IOp) (env : Env) (st : St) (t : Bool) : wantK pure call d k r env st (some t) = if t = true then stepK pure call d r env (opAV pure call env st k) else opsAV pure call r (setD env d (.v (.tuple #[]))) st := by cases t <;> rfl
theorem condK_dec (a b : IC) (e : Env) (s : St) (p : Prop) [Decidable p] : condK pure call a b e s (.v (.bool (decide p))) = if p then codeAV pure call lim a e s else codeAV pure call lim b e s := by rw [condK_if]; simp only [decide_eq_true_eq]
theorem wantK_dec (d : Option Tmp) (k : IK) (r : List IOp) (env : Env) (st : St) (p : Prop) [Decidable p] : wantK pure call d k r env st (some (decide p)) = if p then stepK pure call d r env (opAV pure call env st k) else opsAV pure call r (setD env d (.v (.tuple #[]))) st := by rw [wantK_if]; simp only [decide_eq_true_eq]
theorem seqK_ite (b : IC) (c : Prop) [Decidable c] (x y : Out) : seqK pure call b (if c then x else y) = if c then seqK pure call b x else seqK pure call b y := by split <;> rfl
theorem seqK_none (b : IC) : seqK pure call b none = none := rfl
theorem blockK_ite (i : Nat) (c : Prop) [Decidable c] (x y : Out) : blockK i (if c then x else y) = if c then blockK i x else blockK i y := by split <;> rfl
theorem blockK_none (i : Nat) : blockK i none = none := rfl
theorem opsK_ite (c : Prop) [Decidable c] (x y : Option (Env × St)) : opsK (if c then x else y) = if c then opsK x else opsK y := by split <;> rfl
theorem opsK_none : opsK none = none := rfl
theorem stepK_ite (d : Option Tmp) (r : List IOp) (env : Env) (c : Prop) [Decidable c] (x y : Option (AV × St)) : stepK pure call d r env (if c then x else y) = if c then stepK pure call d r env x else stepK pure call d r env y := by split <;> rfl
theorem stepK_none (d : Option Tmp) (r : List IOp) (env : Env) : stepK pure call d r env none = none := rfl
theorem bodyK_ite (res : List (Tmp × Option (Nat × Bool))) (c : Prop) [Decidable c] (x y : Out) : bodyK res (if c then x else y) = if c then bodyK res x else bodyK res y := by split <;> rfl
theorem bodyK_none (res : List (Tmp × Option (Nat × Bool))) : bodyK res none = none := rfl
theorem resK_ite (s : St) (c : Prop) [Decidable c] (x y : Option (List AV)) : resK s (if c then x else y) = if c then resK s x else resK s y := by split <;> rfl
theorem resK_none (s : St) : resK s none = none := rfl
theorem leaveK_ite (st : St) (c : Prop) [Decidable c] (x y : Option (AV × St)) : leaveK st (if c then x else y) = if c then leaveK st x else leaveK st y := by split <;> rfl
theorem leaveK_none (st : St) : leaveK st none = none := rfl
theorem only_ite (st : St) (c : Prop) [Decidable c] (x y : Option AV) : only (if c then x else y) st = if c then only x st else only y st := by split <;> rfl
theorem only_none (st : St) : only none st = none := rfl
theorem bind_ite {α β : Type} (f : α → Option β) (c : Prop) [Decidable c] (x y : Option α) : (if c then x else y).bind f = if c then x.bind f else y.bind f := by split <;> rfl
end

theorem not_dec (p : Prop) [Decidable p] : (!decide p) = decide (¬p) := by by_cases h : p <;> simp [h]
theorem and_dec (p q : Prop) [Decidable p] [Decidable q] : (decide p && decide q) = decide (p ∧ q) := by by_cases h : p <;> simp [h]
theorem or_dec (p q : Prop) [Decidable p] [Decidable q] : (decide p || decide q) = decide (p ∨ q) := by by_cases h : p <;> simp [h]

/-- What holds of an answer. -/
def Gives (o : Option (AV × St)) (P : AV → St → Prop) : Prop := ∃ r s, o = some (r, s) ∧ P r s
theorem gives_some (r : AV) (s : St) (P : AV → St → Prop) : Gives (some (r, s)) P ↔ P r s := ⟨fun ⟨r', s', h, hp⟩ => by simp only [Option.some.injEq, Prod.mk.injEq] at h; obtain ⟨rfl, rfl⟩ := h; exact hp, fun h => ⟨r, s, rfl, h⟩⟩
theorem gives_none (P : AV → St → Prop) : Gives none P ↔ False := ⟨fun ⟨_, _, h, _⟩ => by simp at h, fun h => h.elim⟩
theorem gives_ite (c : Prop) [Decidable c] (x y : Option (AV × St)) (P : AV → St → Prop) : Gives (if c then x else y) P ↔ (c → Gives x P) ∧ (¬c → Gives y P) := by
  split
  · next h => exact ⟨fun hx => ⟨fun _ => hx, fun h' => absurd h h'⟩, fun hx => hx.1 h⟩
  · next h => exact ⟨fun hx => ⟨fun h' => absurd h' h, fun _ => hx⟩, fun hx => hx.2 h⟩
theorem Gives.eq {o : Option (AV × St)} {r : AV} {s : St} (h : Gives o (fun r' s' => r' = r ∧ s' = s)) : o = some (r, s) := by obtain ⟨r', s', h, rfl, rfl⟩ := h; exact h

/-- What holds of an outcome: 'N' if it goes on, 'Q' if it leaves. -/
def Then (o : Out) (N : Env → St → Prop) (Q : X → Env → St → Prop) : Prop :=
  match o with
  | some (.normal, e, s) => N e s
  | some (x, e, s) => Q x e s
  | none => False
section
variable (N : Env → St → Prop) (Q : X → Env → St → Prop)
theorem then_normal (e : Env) (s : St) : Then (some (.normal, e, s)) N Q ↔ N e s := Iff.rfl
theorem then_ret (e : Env) (s : St) : Then (some (.ret, e, s)) N Q ↔ Q .ret e s := Iff.rfl
theorem then_exit (i : Nat) (e : Env) (s : St) : Then (some (.exit i, e, s)) N Q ↔ Q (.exit i) e s := Iff.rfl
theorem then_none : Then none N Q ↔ False := Iff.rfl
theorem then_ite (c : Prop) [Decidable c] (x y : Out) : Then (if c then x else y) N Q ↔ (c → Then x N Q) ∧ (¬c → Then y N Q) := by
  split
  · next h => exact ⟨fun hx => ⟨fun _ => hx, fun h' => absurd h h'⟩, fun hx => hx.1 h⟩
  · next h => exact ⟨fun hx => ⟨fun h' => absurd h' h, fun _ => hx⟩, fun hx => hx.2 h⟩
end

/-- The state at a loop's head is the one of some 'a' with a property. -/
def Next {α : Type} (gc : Bool) (ks : List Tmp) (lo hi : Nat) (head : α → Env × St) (P : α → Prop) (e : Env) (s : St) : Prop := ∃ a, gcAV gc lo hi (canon e ks) s = head a ∧ P a

/-- A loop, all ways through its body at once. -/
theorem loop_wp {pure : FuncId → Bool} {call : CallF} {gc : Bool} {ks : List Tmp} {body : IC} {lo hi : Nat} {α : Type} (m : α → Nat) (ok : α → Prop) (head : α → Env × St) (Q : α → X → Env → St → Prop)
    (h : ∀ a, ok a → Then (codeAV pure call lim body (head a).1 (head a).2) (Next gc ks lo hi head fun a' => ok a' ∧ m a' < m a ∧ ∀ x e s, Q a' x e s → Q a x e s) (Q a)) :
    ∀ a, ok a → ∀ env st, gcAV gc lo hi (canon env ks) st = head a → ∃ x e s, lim (headed pure call gc ks body lo hi) env st = some (x, e, s) ∧ Q a x e s := by
  refine loop_post m ok head Q fun a hok => ?_
  have := h a hok
  generalize codeAV pure call lim body (head a).1 (head a).2 = o at this ⊢
  match o, this with
  | some (.normal, e, s), ⟨a', h1, h2, h3, h4⟩ => exact .inl ⟨a', e, s, h2, h3, rfl, h1, h4⟩
  | some (.ret, e, s), h1 => exact .inr ⟨.ret, e, s, rfl, by simp, h1⟩
  | some (.exit i, e, s), h1 => exact .inr ⟨.exit i, e, s, rfl, by simp, h1⟩

theorem index_sl_if {β : Type} (z : Nat) (nl : Bool) (f : β → AV) (xs : List β) (d : β) (k : IntKind) (i : Int) : indexSAV z (sl z nl (xs.map f)) (.v (.int k i)) = if 0 ≤ i ∧ i < xs.length then some (.eptr (f (xs.getD i.toNat d)) 0) else none := by
  split
  · next h =>
    have hl : i.toNat < xs.length := by omega
    rw [index_sl z nl (xs.map f) k i h.1 (by simpa using hl)]
    simp [List.getD_eq_getElem?_getD, List.getElem?_eq_getElem hl]
  · next h =>
    rcases sl_cases z nl (xs.map f) with ⟨e, h1⟩ | h1 <;> rw [h1]
    · rfl
    · simp only [indexSAV]
      by_cases h0 : 0 ≤ i
      · have hl : xs.length ≤ i.toNat := by omega
        simp [h0, List.getElem?_eq_none hl]
      · simp [h0]
theorem index_loc_if {β : Type} (z n : Nat) (f : β → AV) (xs : List β) (d : β) (k : IntKind) (i : Int) (hn : n = 0 ∨ n ≤ xs.length) : indexSAV z (loc z n (xs.map f)) (.v (.int k i)) = if 0 ≤ i ∧ i < xs.length then some (.eptr (f (xs.getD i.toNat d)) 0) else none := by
  split
  · next h =>
    have hl : i.toNat < xs.length := by omega
    rw [index_loc z n (xs.map f) k i h.1 (by simpa using hl)]
    simp [List.getD_eq_getElem?_getD, List.getElem?_eq_getElem hl]
  · next h =>
    rcases loc_cases z n (xs.map f) with h1 | h1 | h1 <;> rw [h1]
    · rfl
    all_goals
      simp only [indexSAV]
      by_cases h0 : 0 ≤ i
      · have hl : xs.length ≤ i.toNat := by omega
        simp [h0, List.getElem?_eq_none hl]
      · simp [h0]

theorem bin_int (op : BinOp) (q : Option Nat) (k k' : IntKind) (a b : Int) : binAV op q (.v (.int k a)) (.v (.int k' b)) = if isShift op = true ∨ k = k' then intOp op k a b else none := rfl
theorem bin_bool (op : BinOp) (q : Option Nat) (a b : Bool) : binAV op q (.v (.bool a)) (.v (.bool b)) = if q = some 1 then boolOp op (a == b) else none := rfl
theorem bin_lst (op : BinOp) (q : Option Nat) (g : Tag) (z : Nat) (xs : List AV) (i j : Nat) : binAV op q (.lst g z xs) (.v (.slice none i j)) = if q = some 0 then boolOp op false else none := rfl
theorem bin_rsl (op : BinOp) (q : Option Nat) (l o n c z : Nat) (a : Bool) (i j : Nat) : binAV op q (.rsl l o n c z a) (.v (.slice none i j)) = if q = some 0 then boolOp op false else none := rfl
theorem bin_nil (op : BinOp) (q : Option Nat) (i j i' j' : Nat) : binAV op q (.v (.slice none i j)) (.v (.slice none i' j')) = if q = some 0 then boolOp op true else none := rfl
theorem bin_agg (op : BinOp) (n : Nat) (xs ys : List AV) : binAV op (some (n + 2)) (.agg xs) (.agg ys) = match cellsEq xs ys with | some b => if xs.length = n then boolOp op b else none | none => none := by
  cases h : cellsEq xs ys <;> simp [binAV, h]
theorem eqnil_sl (z : Nat) (xs : List AV) (i j : Nat) : binAV .eql (some 0) (sl z true xs) (.v (.slice none i j)) = some (B (decide (xs = []))) := by
  cases xs <;> rfl
theorem nenil_sl (z : Nat) (xs : List AV) (i j : Nat) : binAV .neq (some 0) (sl z true xs) (.v (.slice none i j)) = some (B (!decide (xs = []))) := by
  cases xs <;> rfl
theorem eqnil_loc (z : Nat) (xs : List AV) (i j : Nat) : binAV .eql (some 0) (loc z 0 xs) (.v (.slice none i j)) = some (B (decide (xs = []))) := by
  cases xs <;> simp [loc, binAV, boolOp]
theorem nenil_loc (z : Nat) (xs : List AV) (i j : Nat) : binAV .neq (some 0) (loc z 0 xs) (.v (.slice none i j)) = some (B (!decide (xs = []))) := by
  cases xs <;> simp [loc, binAV, boolOp]
theorem map_nil_iff {β : Type} (f : β → AV) (xs : List β) : (xs.map f = []) ↔ xs = [] := by simp

theorem idxA_ptr (n z l o : Nat) (k : IntKind) (i : Int) : indexAAV n z (.ptr l o) (.v (.int k i)) = if 0 ≤ i ∧ i < n then some (.ptr l (o + i.toNat * z)) else none := rfl
theorem idxA_eptr (n z o : Nat) (e : AV) (k : IntKind) (i : Int) : indexAAV n z (.eptr e o) (.v (.int k i)) = if 0 ≤ i ∧ i < n then some (.eptr e (o + i.toNat * z)) else none := rfl
theorem idxV_agg (n z : Nat) (ag : Bool) (cs : List AV) (k : IntKind) (i : Int) : indexVAV n z ag (.agg cs) (.v (.int k i)) = if 0 ≤ i ∧ i < n then readCells ag z (i.toNat * z) cs else none := rfl

theorem isAgg_v (x : Value) : Go.Ev.isAgg (.v x) = false := rfl
theorem isAgg_agg (cs : List AV) : Go.Ev.isAgg (.agg cs) = true := rfl
theorem isAgg_lst (g : Tag) (z : Nat) (xs : List AV) : Go.Ev.isAgg (.lst g z xs) = false := rfl
theorem isAgg_ptr (l o : Nat) : Go.Ev.isAgg (.ptr l o) = false := rfl
theorem isAgg_fn (f : Fn) (a b : List AV) : Go.Ev.isAgg (.fn f a b) = false := rfl
theorem isAgg_ifc (t : TypeId) (x : AV) : Go.Ev.isAgg (.ifc t x) = false := rfl
theorem isAgg_rsl (l o n c z : Nat) (a : Bool) : Go.Ev.isAgg (.rsl l o n c z a) = false := rfl
theorem isAgg_sl (z : Nat) (nl : Bool) (xs : List AV) : Go.Ev.isAgg (sl z nl xs) = false := by
  rcases sl_cases z nl xs with ⟨_, h⟩ | h <;> rw [h] <;> rfl
theorem isAgg_loc (z k : Nat) (xs : List AV) : Go.Ev.isAgg (loc z k xs) = false := by
  rcases loc_cases z k xs with h | h | h <;> rw [h] <;> rfl

/-! ### made slices -/

theorem index_rsl_if (l o n c z : Nat) (a : Bool) (k : IntKind) (i : Int) : indexSAV z (.rsl l o n c z a) (.v (.int k i)) = if 0 ≤ i ∧ i < n then some (.ptr l (o + i.toNat * z)) else none := by
  simp [indexSAV]
theorem getm {β : Type} (f : β → AV) (xs : List β) (d : β) (o : Nat) : (xs.map f)[o]? = if o < xs.length then some (f (xs.getD o d)) else none := by
  split
  · next h => simp [List.getElem?_eq_getElem h, List.getD_eq_getElem?_getD]
  · next h => simp [List.getElem?_eq_none (Nat.le_of_not_lt h)]
theorem setm {β : Type} (f : β → AV) (xs : List β) (o : Nat) (v : β) : (xs.map f).set o (f v) = (xs.set o v).map f := by simp
theorem okRefs_map {β : Type} (f : β → AV) (n : Nat) (h : ∀ x, okRef n (f x) = true) (xs : List β) : okRefs n (xs.map f) = true := by
  induction xs with
  | nil => rfl
  | cons x r ih => simp [okRefs, h, ih]
theorem okRefs_ints (n : Nat) (xs : List Int) : okRefs n (xs.map I) = true := okRefs_map I n (fun _ => rfl) xs
theorem renCells_map {β : Type} (f : β → AV) (n : Nat) (tips : List Nat) (h : ∀ x acc, ren1 n tips acc (f x) = (f x, acc)) (xs : List β) : ∀ acc, renCells n tips acc (xs.map f) = (xs.map f, acc) := by
  induction xs with
  | nil => intro acc; rfl
  | cons x r ih => intro acc; simp [renCells, h, ih]
theorem renCells_ints (n : Nat) (tips : List Nat) (acc : List (Nat × Nat)) (xs : List Int) : renCells n tips acc (xs.map I) = (xs.map I, acc) := renCells_map I n tips (fun _ _ => rfl) xs acc
theorem make_ints (st : St) (ag : Bool) (n : Int) : makeAV 1 ag [.v (.int .i64 0)] st (.v (.int .i64 n)) (.v (.int .i64 n)) =
    if 0 ≤ n ∧ n ≤ maxGrow then some (.rsl st.store.length 0 n.toNat n.toNat 1 ag, ⟨st.store ++ [(List.replicate n.toNat 0).map I], st.tips⟩) else none := by
  simp only [makeAV, natOf]
  by_cases h : 0 ≤ n
  · by_cases h2 : n ≤ maxGrow
    · have : n.toNat ≤ maxGrow := by unfold maxGrow at *; omega
      simp [h, h2, this]
    · have : ¬ n.toNat ≤ maxGrow := by unfold maxGrow at *; omega
      simp [h, h2, this]
  · simp [h]

theorem pubs_map {β : Type} (f : β → AV) (hp : ∀ x, pub (f x) = f x) (xs : List β) : pubs (xs.map f) = xs.map f := by
  induction xs with
  | nil => rfl
  | cons x r ih => simp [pubs, hp, ih]
theorem groupm_one {β : Type} (f : β → AV) (hc : ∀ x, cell1 (f x) = f x) (xs : List β) : group false 1 xs.length (xs.map f) = xs.map f := by
  induction xs with
  | nil => rfl
  | cons x r ih =>
    simp only [List.map_cons, List.length_cons, group, List.headD_cons, hc, List.drop_succ_cons, List.drop_zero, Bool.false_eq_true, if_false, ih]
theorem groupm_agg {β : Type} (f : β → List AV) (z : Nat) (hz : ∀ x, (f x).length = z) (xs : List β) : group true z xs.length (xs.flatMap f) = xs.map (fun x => .agg (f x)) := by
  induction xs with
  | nil => rfl
  | cons x r ih =>
    simp only [List.flatMap_cons, List.map_cons, List.length_cons, group, if_true]
    rw [← hz x, List.take_left, List.drop_left, hz x, ih]
/-- What becomes of a made slice that leaves. -/
theorem fin_made {β : Type} (f : β → AV) (hp : ∀ x, pub (f x) = f x) (hc : ∀ x, cell1 (f x) = f x) (xs : List β) (st : St) (l n c : Nat) (h : st.store[l]? = some (xs.map f)) (hn : n = xs.length) (hcap : n ≤ c) :
    fin st (.rsl l 0 n c 1 false) = sl 1 false (xs.map f) := by
  subst hn
  simp only [fin, h]
  rw [if_pos ⟨by simp, by simp, hcap⟩, List.drop_zero, pubs_map f hp, groupm_one f hc, sl_false]
theorem assert_ifc (t u : TypeId) (z y : AV) (ok : Bool) : assertAV t z ok (.ifc u y) = if u = t then some (if ok then .tup [y, .v (.bool true)] else y) else if ok then some (.tup [z, .v (.bool false)]) else none := rfl
theorem assert_nil (t : TypeId) (z : AV) (ok : Bool) : assertAV t z ok (.v .nilIface) = if ok then some (.tup [z, .v (.bool false)]) else none := rfl
theorem fin_nif (st : St) : fin st (.v .nilIface) = .v .nilIface := by simp [fin]

theorem wrap64 (n : Int) (h : -9223372036854775808 ≤ n) (h2 : n ≤ 9223372036854775807) : IntKind.i64.wrap n = n := by
  simp [IntKind.wrap, IntKind.bits, IntKind.signed]; omega
end Go.Ev
