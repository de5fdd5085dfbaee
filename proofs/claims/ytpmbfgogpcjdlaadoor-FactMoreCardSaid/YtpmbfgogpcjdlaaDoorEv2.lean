/- What is proved: that whole functions and calls of the evaluator do what the model says. It holds for every program of the model. -/
import Derived.Test.YtpmbfgogpcjdlaaDoorEv1
import Derived.Laws.BytesString
import Derived.Lib.ConvBytes
import Derived.Below
set_option linter.all false
namespace Go.Ev
open Go

section
variable {P : Program} {us : Us} {w : World} {K : Kx} {st st' S S' : St}
variable {o : Oper} {env : Env} {a : Act} {r : AV}

theorem Good.drew (hG : Good us w K st) : Good us w.drew K st ∧ Ext us w K us w.drew K := by
  have hk : KLe us w K us w.drew K := ⟨fun _ _ h => ⟨h, fun _ h => h⟩, fun _ m h => ⟨m, h, Nat.le_refl _, fun _ _ h => ⟨h, rfl, fun _ h => h⟩⟩⟩
  have hu : UsLe us w us w.drew := fun _ n h => ⟨n, h, Nat.le_refl _, fun _ _ => rfl⟩
  exact ⟨⟨hG.T, hG.lmlt, fun l c cs h hs => (hG.blk l c cs h hs).mono hu hk rfl, hG.inj, hG.tkinj, hG.tklt, hG.tkus, hG.uslt, hG.disj, hG.lmtk⟩,
    ⟨rfl, rfl, rfl, Nat.le_refl _, fun _ _ h => h, hu, hk, fun _ _ _ _ => ⟨rfl, rfl⟩, fun _ _ h _ => h, fun l _ h => .inl ⟨l, h⟩, fun _ _ h => .inl h⟩⟩

/-- An entry more. -/
theorem Good.push (hG : Good us w K S) (cs : List AV) : Good us w K ⟨S.store ++ [cs], S.tips⟩ := by
  have hg : ∀ l c, K.lm l = some c → (S.store ++ [cs])[l]? = S.store[l]? := fun l c h => by rw [List.getElem?_append_left (hG.lmlt l c h)]
  refine ⟨hG.T, fun l c h => ?_, fun l c cs' hl hs => ?_, fun l l' c h h' => ?_, hG.tkinj, hG.tklt, hG.tkus, hG.uslt, fun l c h => ?_, hG.lmtk⟩
  · have := hG.lmlt l c h; simp; omega
  · simp only [hg l c hl] at hs; exact hG.blk l c cs' hl hs
  · simp only [hg l c h, hg l' c h']; exact hG.inj l l' c h h'
  · simp only [hg l c h]; exact hG.disj l c h
/-- An entry is let go. -/
theorem Good.dead (hG : Good us w K S) (l0 : Nat) : Good us w K ⟨S.store.set l0 [], S.tips⟩ := by
  have hg : ∀ l c, K.lm l = some c → (S.store.set l0 [])[l]? = if l = l0 then some [] else S.store[l]? := fun l c h => by
    by_cases e : l = l0
    · subst e; simp [hG.lmlt l c h]
    · rw [if_neg e, List.getElem?_set_ne (fun h => e h.symm)]
  refine ⟨hG.T, fun l c h => by simpa using hG.lmlt l c h, fun l c cs' hl hs => ?_, fun l l' c h h' => ?_, hG.tkinj, hG.tklt, hG.tkus, hG.uslt, fun l c h => ?_, hG.lmtk⟩
  · simp only [hg l c hl] at hs
    split at hs
    · simp only [Option.some.injEq] at hs
      subst hs
      have hlt := hG.lmlt l c hl
      exact (hG.blk l c _ hl (List.getElem?_eq_getElem hlt)).dead rfl
    · exact hG.blk l c cs' hl hs
  · simp only [hg l c h, hg l' c h']
    rcases hG.inj l l' c h h' with e | e | e
    · exact .inl e
    · refine .inr (.inl ?_); split <;> first | rfl | exact e
    · refine .inr (.inr ?_); split <;> first | rfl | exact e
  · simp only [hg l c h]
    rcases hG.disj l c h with e | e
    · refine .inl ?_; split <;> first | rfl | exact e
    · exact .inr e
/-- A block gets another name. -/
theorem Good.rename (hG : Good us w K S) {l c : Nat} {cs : List AV} (hl : K.lm l = some c) (hs : S.store[l]? = some cs) (hfree : K.lm S.store.length = none) :
    Good us w (K.newL S.store.length c) ⟨S.store.set l [] ++ [cs], S.tips⟩ ∧ KLe us w K us w (K.newL S.store.length c) := by
  have hlm : ∀ l' c', K.lm l' = some c' → (K.newL S.store.length c).lm l' = some c' := by
    intro l' c' h
    simp only [Kx.newL]
    rw [if_neg (by have := hG.lmlt l' c' h; omega)]; exact h
  have hk : KLe us w K us w (K.newL S.store.length c) := ⟨fun l' c' h => ⟨hlm l' c' h, fun _ h => h⟩, fun _ m h => ⟨m, h, Nat.le_refl _, fun _ _ h => ⟨h, rfl, fun _ h => h⟩⟩⟩
  have hG2 := (hG.dead l).push cs
  have hlen : (S.store.set l []).length = S.store.length := by simp
  have inv : ∀ l' c', (K.newL S.store.length c).lm l' = some c' → (l' = S.store.length ∧ c' = c) ∨ (l' < S.store.length ∧ K.lm l' = some c') := by
    intro l' c' h
    simp only [Kx.newL] at h
    split at h
    · next e => exact .inl ⟨e, by simpa using h.symm⟩
    · exact .inr ⟨hG.lmlt l' c' h, h⟩
  have hnew : (S.store.set l [] ++ [cs])[S.store.length]? = some cs := by rw [List.getElem?_append_right (by simp)]; simp
  have hold : (S.store.set l [] ++ [cs])[l]? = some [] := by
    have := hG.lmlt l c hl
    rw [List.getElem?_append_left (by simpa using this)]; simp [this]
  have hother : ∀ l', l' < S.store.length → K.lm l' = some c → S.store[l']? = some [] ∨ l' = l ∨ cs = [] := by
    intro l' _ h
    rcases hG.inj l' l c h hl with e | e | e
    · exact .inr (.inl e)
    · exact .inl e
    · rw [hs] at e; exact .inr (.inr (by simpa using e))
  have hst : ∀ l', l' < S.store.length → l' ≠ l → (S.store.set l [] ++ [cs])[l']? = S.store[l']? := by
    intro l' h1 h2
    rw [List.getElem?_append_left (by simpa using h1), List.getElem?_set_ne (fun h => h2 h.symm)]
  have hdead : ∀ l', l' < S.store.length → K.lm l' = some c → (S.store.set l [] ++ [cs])[l']? = some [] ∨ cs = [] := by
    intro l' h1 h
    by_cases e : l' = l
    · subst e; exact .inl hold
    · rcases hother l' h1 h with h2 | h2 | h2
      · exact .inl ((hst l' h1 e).trans h2)
      · exact absurd h2 e
      · exact .inr h2
  refine ⟨⟨hG.T, fun l' c' h => ?_, fun l' c' cs' h hs' => ?_, fun l1 l2 b h1 h2 => ?_, hG.tkinj, hG.tklt, hG.tkus, hG.uslt, fun l' c' h => ?_, fun l' t c' h ht => ?_⟩, hk⟩
  · rcases inv l' c' h with ⟨rfl, _⟩ | ⟨h1, _⟩
    · simp
    · simp; omega
  · rcases inv l' c' h with ⟨rfl, rfl⟩ | ⟨h1, h2⟩
    · simp only [hnew, Option.some.injEq] at hs'
      subst hs'
      exact (hG.blk l c' cs hl hs).mono (.refl _ _) hk rfl
    · exact (hG2.blk l' c' cs' h2 hs').mono (.refl _ _) hk rfl
  · rcases inv l1 b h1 with ⟨rfl, rfl⟩ | ⟨g1, g2⟩ <;> rcases inv l2 b h2 with ⟨rfl, e⟩ | ⟨g3, g4⟩
    · exact .inl rfl
    · rcases hdead l2 g3 g4 with h | h
      · exact .inr (.inr h)
      · subst h; exact .inr (.inl hnew)
    · subst e
      rcases hdead l1 g1 g2 with h | h
      · exact .inr (.inl h)
      · subst h; exact .inr (.inr hnew)
    · exact hG2.inj l1 l2 b g2 g4
  · rcases inv l' c' h with ⟨rfl, rfl⟩ | ⟨h1, h2⟩
    · rcases hG.disj l c' hl with h3 | h3
      · rw [hs] at h3
        simp only [Option.some.injEq] at h3
        subst h3
        exact .inl hnew
      · exact .inr h3
    · exact hG2.disj l' c' h2
  · rcases inv l' c' h with ⟨rfl, rfl⟩ | ⟨h1, h2⟩
    · exact hG.lmtk l t c' hl ht
    · exact hG.lmtk l' t c' h2 ht

theorem Ext.ofRename {c L : Nat} (hk : KLe us w K us w (K.newL L c)) {l : Nat} (hl : K.lm l = some c) : Ext us w K us w (K.newL L c) :=
  ⟨rfl, rfl, rfl, Nat.le_refl _, fun _ _ h => h, .refl _ _, hk, fun _ _ _ _ => ⟨rfl, rfl⟩, fun _ _ h _ => h, fun l' c' h => by
    simp only [Kx.newL] at h
    split at h
    · simp at h; subst h; exact .inl ⟨l, hl⟩
    · exact .inl ⟨l', h⟩, fun _ _ h => .inl h⟩
theorem zeroCells_one (z : Array Value) (hz : 0 < z.size) (h : ∀ x ∈ z.toList, x.oneCell' = true) (n : Nat) : ∀ v ∈ (Builtin.zeroCells z n).toList, v.oneCell' = true := by
  intro v hv
  simp only [Builtin.zeroCells, Array.toList_map, List.mem_map] at hv
  obtain ⟨j, _, rfl⟩ := hv
  have hlt := Nat.mod_lt j hz
  rw [getElem!_pos z (j % z.size) hlt]
  exact h _ (by simp)

theorem flatAV_eq (xs : List AV) : flatAV xs = flat xs := rfl

/-- The elements go to a new block, which may be written. -/
theorem goes_newM {s y : Operand} {i : TypeInfo} {e : TypeId} {zv : Value} (h : AppOk P o s y i e zv) {b : Option Addr} {n cap L : Nat} {x : Value} {old ys : List AV} {olds news : List Value} {ag : Bool} {S2 : St} (hG : Good us w K S2)
    (hs : a.eval s = .slice b n cap) (hx : a.eval y = x) (he : Elems P us w K i.size ys x news) (hold : (Builtin.firstCells i.size n (.slice b n cap)).run P w.drew = .ok olds.toArray w.drew)
    (hrx : Rels us w K old olds) (hol : olds.length = n * i.size) (hone : ∀ y ∈ olds, y.oneCell' = true) (hg : cap < n + ys.length) (hmax : n + ys.length ≤ maxGrow)
    (hfree : K.lm L = none) (hL : S2.store[L]? = some (old ++ flat ys)) (hst : st.store.length ≤ L ∧ L < st'.store.length) :
    Goes P o a us w K (.rsl L 0 (n + ys.length) (n + ys.length) i.size ag) st st' S2 := by
  intro next Q hn
  unfold Oper.wp
  have hrun := app_run (o := o) (a := a) (w := w) h (fun ts ty t u d h4 h5 h6 h7 => by
    rw [hx]; exact app_grows (us := us) h.info h.zero h.bytes hs he (by rw [hs]; exact hold) hg hmax ts ty t u d h4 h5 h6 h7)
  rw [hrun]
  have hge := grownCap_ge w (n + ys.length) cap e
  have hnl : news.length = ys.length * i.size := by rw [← he.rels.len, flat_len ys he.each]
  have hlen : (olds ++ news).length = (n + ys.length) * i.size := by rw [List.length_append, hol, hnl, Nat.add_mul]
  generalize hgc : grownCap w (n + ys.length) cap e = nc at hge
  have hcs : (olds ++ news ++ (Builtin.zeroCells zv.cells (nc - (n + ys.length))).toList).toArray.size = nc * i.size := by
    simp only [List.size_toArray, List.length_append, Array.length_toList, size_zeroCells, h.zsize, hol, hnl, ← Nat.add_mul]
    congr 1; omega
  have hzone : ∀ v ∈ (Builtin.zeroCells zv.cells (nc - (n + ys.length))).toList, v.oneCell' = true := zeroCells_one _ (by rw [h.zsize]; exact h.pos) h.zone _
  generalize hce : (olds ++ news ++ (Builtin.zeroCells zv.cells (nc - (n + ys.length))).toList).toArray = cells at hcs
  have hpre : cells.toList.take (old ++ flat ys).length = olds ++ news := by
    have e1 : (old ++ flat ys).length = (olds ++ news).length := by rw [List.length_append, List.length_append, hrx.len, he.rels.len]
    rw [e1, ← hce, List.toList_toArray, List.take_left]
  have h0 : (old ++ flat ys).length ≤ cells.size := by
    have e1 : (old ++ flat ys).length = (olds ++ news).length := by rw [List.length_append, List.length_append, hrx.len, he.rels.len]
    rw [e1, hlen, hcs]; exact Nat.mul_le_mul_right _ hge
  have hone' : ∀ v ∈ cells.toList, v.oneCell' = true := by
    intro v hv
    rw [← hce, List.toList_toArray] at hv
    simp only [List.mem_append] at hv
    rcases hv with (hv | hv) | hv
    · exact hone v hv
    · exact he.one v hv
    · exact hzone v hv
  obtain ⟨hG2, hX2⟩ := hG.drew
  have hLS : L < S2.store.length := (List.getElem?_eq_some_iff.1 hL).1
  have hx1 := ext_alloc hG2 (.cells cells e) us (fun _ _ => rfl) (K.newL L w.drew.heap.size) rfl rfl
    (fun l' c h => by simp only [Kx.newL]; split; · next e => subst e; rw [hfree] at h; exact absurd h (by simp)
                      · exact h)
    (fun l' c h => by simp only [Kx.newL] at h; split at h; · exact .inr (by simp at h ⊢; omega)
                      · exact .inl ⟨l', h⟩)
  have hg1 := good_alloc_lm hG2 cells e L (old ++ flat ys) hLS hfree hL (by rw [hpre]; exact (hrx.append he.rels).mono hX2.usle hX2.kle) h0 hone'
  refine hn _ us _ (K.newL L w.drew.heap.size) (.rsl _ L 0 _ _ i.size ag w.heap.size nc (by simp [Kx.newL]) ⟨_, cells, e, heap_alloc_new w.drew _, rfl⟩ (.inr ⟨hge, nc * i.size, ⟨cells, e, heap_alloc_new w.drew _, hcs⟩, by omega⟩)) (hX2.trans hx1) hg1 ⟨fun l' c h => ?_, fun t h => .inl h⟩
  simp only [Kx.newL] at h
  split at h
  · next e => subst e; exact .inr hst
  · exact .inl h

theorem rt_appendm {s y : Operand} {i : TypeInfo} {e : TypeId} {zv : Value} {ag : Bool} (h : AppOk P o s y i e zv) {ys : List AV} (hE : EnvRel us w K env a) (hG : Good us w K S) (hst : st.store = S.store) (hst' : st'.store = S'.store) (hys : elemsM i.size S (aval env y) = some ys)
    (hfree : ∀ l, st.store.length ≤ l → l < st'.store.length → K.lm l = none) (hv : appendmAV i.size ag (aval env s) ys S = some (r, S')) : Goes P o a us w K r st st' S' := by
  have h1 := aval_rel hE s
  have h2 := aval_rel hE y
  obtain ⟨news, he⟩ := elemsM_of (P := P) hG hys h2
  have hnl : news.length = ys.length * i.size := by rw [← he.rels.len, flat_len ys he.each]
  have hfl : (flat ys).length = news.length := he.rels.len
  generalize aval env s = as at hv h1
  unfold appendmAV at hv
  split at hv
  · have h3 := h1.v_inv
    cases ys with
    | nil =>
      simp only [Option.some.injEq, Prod.mk.injEq] at hv
      obtain ⟨rfl, rfl⟩ := hv
      exact goes_same h hG h3 rfl he (Nat.le_refl _) (.v K _ rfl)
    | cons y0 l =>
      simp only [newM] at hv
      split at hv
      · next hc =>
        simp only [Option.some.injEq, Prod.mk.injEq] at hv
        obtain ⟨rfl, rfl⟩ := hv
        have := goes_newM (st := st) (st' := st') (L := S.store.length) (old := []) (olds := []) (ag := ag) (S2 := ⟨S.store ++ [flatAV (y0 :: l)], S.tips⟩) h (hG.push _) h3 rfl he (by simp [Builtin.firstCells]) .nil (by simp) (by simp) (by simp) (by simpa using hc)
          (hfree _ (by rw [hst]; omega) (by rw [hst']; simp)) (by simp [flatAV_eq]) ⟨by rw [hst]; omega, by rw [hst']; simp⟩
        simpa using this
      · simp at hv
  · rename_i z' xs
    split at hv
    · next hz =>
      subst hz
      obtain ⟨c, p, cap, vs, h3, h4⟩ := h1.lst_inv
      have hvl : vs.length = xs.length * i.size := by rw [← h4.rels.len, flat_len xs h4.each]
      have hold : (Builtin.firstCells i.size xs.length (.slice (some ⟨c, p, none⟩) xs.length cap)).run P w.drew = .ok vs.toArray w.drew :=
        run_firstCells_some w.drew i.size xs.length ⟨c, p, none⟩ xs.length cap vs hvl (fun j v hj => by
          obtain ⟨hj1, rfl⟩ := List.getElem?_eq_some_iff.1 hj
          rw [Addr.add_lit]
          exact h4.cells j hj1)
      cases ys with
      | nil =>
        simp only [Option.some.injEq, Prod.mk.injEq] at hv
        obtain ⟨rfl, rfl⟩ := hv
        exact goes_same h hG h3 rfl he h4.fits h4.rel
      | cons y0 l =>
        simp only [newM] at hv
        split at hv
        · next hc =>
          simp only [Option.some.injEq, Prod.mk.injEq] at hv
          obtain ⟨rfl, rfl⟩ := hv
          have hcap : cap = xs.length := h4.tag
          have := goes_newM (st := st) (st' := st') (L := S.store.length) (old := flat xs) (olds := vs) (ag := ag) (S2 := ⟨S.store ++ [flatAV (xs ++ y0 :: l)], S.tips⟩) h (hG.push _) h3 rfl he hold h4.rels.ofNil hvl h4.one (by simp; omega) (by simpa using hc)
            (hfree _ (by rw [hst]; omega) (by rw [hst']; simp)) (by simp [flatAV_eq, flat_append]) ⟨by rw [hst]; omega, by rw [hst']; simp⟩
          rw [List.length_append]
          exact this
        · simp at hv
    · simp at hv
  · rename_i l q n c z' b0
    obtain ⟨b, cap, hb, h3, hcaps⟩ := h1.rsl_inv
    split at hv
    · rename_i cs hcs
      split at hv
      · next hcond =>
        obtain ⟨rfl, rfl, hnc, hq, hne0⟩ := hcond
        have hne : cs ≠ [] := by intro h; subst h; simp at hne0
        have hcle := hcaps.le
        obtain ⟨cur, ty, hheap, hsz, hrel, hone⟩ := (hG.blk l b cs hb hcs).cells (h1.rsl_size hb)
        have hu := hG.live hb hcs hne
        -- the elements that lie there
        have hold : ∀ w2 : World, w2.heap = w.heap → (Builtin.firstCells i.size n (.slice (some ⟨b, q, none⟩) n cap)).run P w2 = .ok ((cur.toList.drop q).take (n * i.size)).toArray w2 := by
          intro w2 hw2
          refine run_firstCells_some w2 i.size n ⟨b, q, none⟩ n cap _ (by simp; omega) (fun j v hj => ?_)
          obtain ⟨hj1, rfl⟩ := List.getElem?_eq_some_iff.1 hj
          rw [Addr.add_lit, cell_of_row w2 b (q + j) cur ty _ (by rw [hw2]; exact hheap)]
          simp at hj1
          rw [Array.getElem?_eq_getElem (by omega)]
          simp
        -- writing behind them
        have write : n + ys.length ≤ cap → q + (n + ys.length) * i.size ≤ cur.size → ∀ cs' : List AV, ∀ cells : List Value, cells = cur.toList.take (q + n * i.size) ++ news ++ cur.toList.drop (q + n * i.size + news.length) →
            cs'.length ≤ cells.length → Rels us w K cs' (cells.take cs'.length) →
            (execOp a.eval o).run P w = .ok (.value (.slice (some ⟨b, q, none⟩) (n + ys.length) cap)) (w.setRow b cells.toArray) ∧ Ext us w K us (w.setRow b cells.toArray) K ∧ Good us (w.setRow b cells.toArray) K ⟨S.store.set l cs', S.tips⟩ ∧ cells.length = cur.size := by
          intro hfit hin cs' cells hcells hle hr'
          rw [Nat.add_mul, ← hnl] at hin
          have hlen : cells.length = cur.size := by rw [hcells]; simp; omega
          have hst2 := run_storeCells_at P b (q + n * i.size) ty news 0 cur w hheap (by omega) he.one
          simp only [Nat.add_zero] at hst2
          rw [← hcells] at hst2
          have hone2 : ∀ v ∈ cells, v.oneCell' = true := by
            intro v hv
            rw [hcells] at hv
            simp only [List.mem_append] at hv
            rcases hv with (hv | hv) | hv
            · exact hone v (List.mem_of_mem_take hv)
            · exact he.one v hv
            · exact hone v (List.mem_of_mem_drop hv)
          refine ⟨app_run (o := o) (a := a) h (fun ts ty' t' u d h4 h5 h6 h7 => ?_), ext_setRow hG hb hu ⟨cur, ty, hheap, by simpa using hlen.symm⟩, good_setRow hG hb hcs hne hheap hlen hle hr' hone2, hlen⟩
          rw [app_fits (us := us) h.info h3 he hfit ts ty' t' u d h4 h5 h6 h7]
          simp only [Addr.add_lit, hst2, Result.andThen_ok]
        have hcurl : cur.toList.length = cur.size := by simp
        have htk : (cur.toList.take (q + n * i.size)).length = q + n * i.size := by simp; omega
        split at hv
        · next hfit =>
          split at hv
          · next hin =>
            simp only [Option.some.injEq, Prod.mk.injEq] at hv
            obtain ⟨rfl, rfl⟩ := hv
            have hin' := hin
            rw [Nat.add_mul, ← hnl] at hin'
            have hl2 : (cs.take (q + n * i.size) ++ flatAV ys ++ cs.drop (q + n * i.size + (flatAV ys).length)).length = cs.length := by simp [flatAV_eq, hfl]; omega
            obtain ⟨g1, g2, g3, g4⟩ := write (by omega) (by omega) (cs.take (q + n * i.size) ++ flatAV ys ++ cs.drop (q + n * i.size + (flatAV ys).length)) _ rfl (by rw [hl2]; simp; omega) (by
              rw [hl2]
              have := ((hrel.take (q + n * i.size)).append he.rels).append (hrel.drop (q + n * i.size + (flatAV ys).length))
              have e5 : (cur.toList.take (q + n * i.size) ++ news ++ cur.toList.drop (q + n * i.size + news.length)).take cs.length = (cur.toList.take cs.length).take (q + n * i.size) ++ news ++ (cur.toList.take cs.length).drop (q + n * i.size + (flatAV ys).length) := by
                rw [flatAV_eq, hfl, List.take_take, Nat.min_eq_left (by omega), List.take_append, List.length_append, htk, List.take_of_length_le (by rw [List.length_append, htk]; omega), List.drop_take]
              rw [e5]
              exact this)
            intro next Q hn
            unfold Oper.wp
            rw [g1]
            refine hn _ us _ K (.rsl K l q _ c i.size _ b cap hb ((h1.rsl_size hb).imp (fun m hm => (g2.kle.lm l b hb).2 m hm)) ?_) g2 g3 (.sameK _ _ _)
            rcases hcaps with e | ⟨e, M, hM, hM2⟩
            · exact .inl e
            · exact .inr ⟨e, M, (g2.kle.lm l b hb).2 M hM, hM2⟩
          · simp at hv
        · next hfit =>
          split at hv
          · next hgr =>
            obtain ⟨rfl, hmax, hgt⟩ := hgr
            simp only [Option.some.injEq, Prod.mk.injEq] at hv
            obtain ⟨rfl, rfl⟩ := hv
            simp only [Nat.zero_add] at hq htk write
            have hfr := hfree S.store.length (by rw [hst]; omega) (by rw [hst']; simp)
            have hl2 : (cs.take (n * i.size) ++ flatAV ys).length = (n + ys.length) * i.size := by simp [flatAV_eq, hfl]; rw [Nat.add_mul, ← hnl]; omega
            have hr2 : Rels us w K (cs.take (n * i.size) ++ flatAV ys) (cur.toList.take (n * i.size) ++ news) := by
              have := (hrel.take (n * i.size)).append he.rels
              rw [List.take_take, Nat.min_eq_left (by omega)] at this
              exact this
            by_cases hcap : n + ys.length ≤ cap
            · rcases hcaps with e0 | ⟨_, M, hM, hM2⟩
              · omega
              · obtain ⟨cur', ty', hh', hM3⟩ := hM
                rw [hheap] at hh'
                simp only [Option.some.injEq, Obj.cells.injEq, and_true] at hh'
                obtain ⟨rfl, rfl⟩ := hh'
                have hin : (n + ys.length) * i.size ≤ cur.size := Nat.le_trans (Nat.mul_le_mul_right _ hcap) (by omega)
                have hin' := hin
                rw [Nat.add_mul, ← hnl] at hin'
                obtain ⟨g1, g2, g3, g4⟩ := write hcap hin (cs.take (n * i.size) ++ flatAV ys) _ rfl (by rw [hl2]; simp; omega) (by
                  rw [hl2, Nat.add_mul, ← hnl]
                  have e5 : (cur.toList.take (n * i.size) ++ news ++ cur.toList.drop (n * i.size + news.length)).take (n * i.size + news.length) = cur.toList.take (n * i.size) ++ news := by
                    have e6 : n * i.size + news.length = (cur.toList.take (n * i.size) ++ news).length := by rw [List.length_append, htk]
                    rw [e6, List.take_left]
                  rw [e5]
                  exact hr2)
                have hsl : S.store.length = (S.store.set l (cs.take (n * i.size) ++ flatAV ys)).length := by simp
                obtain ⟨k1, k2⟩ := g3.rename (l := l) (c := b) (cs := cs.take (n * i.size) ++ flatAV ys) hb (by simp [hG.lmlt l b hb]) (by simpa using hfr)
                simp only [List.length_set, List.set_set] at k1 k2
                intro next Q hn
                unfold Oper.wp
                rw [g1]
                refine hn _ us _ _ (.rsl _ S.store.length 0 _ _ i.size _ b cap (by simp [Kx.newL]) ⟨M, (g2.kle.lm l b hb).2 M ⟨cur, ty, hheap, hM3⟩⟩ (.inr ⟨hcap, M, (g2.kle.lm l b hb).2 M ⟨cur, ty, hheap, hM3⟩, hM2⟩)) (g2.trans (Ext.ofRename k2 hb)) k1 ⟨fun l' c' h => ?_, fun t h => .inl h⟩
                simp only [Kx.newL] at h
                split at h
                · next e => subst e; exact .inr ⟨by rw [hst]; omega, by rw [hst']; simp⟩
                · exact .inl h
            · exact goes_newM (old := cs.take (n * i.size)) (olds := cur.toList.take (n * i.size)) h ((hG.dead l).push _) h3 rfl he (by have := hold w.drew rfl; rw [List.drop_zero] at this; exact this) (by
                  have := hrel.take (n * i.size)
                  rw [List.take_take, Nat.min_eq_left (by omega)] at this
                  exact this) htk (fun v hv => hone v (List.mem_of_mem_take hv)) (by omega) hmax hfr (by
                  show (S.store.set l [] ++ [cs.take (n * i.size) ++ flatAV ys])[S.store.length]? = _
                  rw [List.getElem?_append_right (by simp)]; simp [flatAV_eq]) ⟨by rw [hst]; omega, by rw [hst']; simp⟩
          · simp at hv
      · simp at hv
    · simp at hv
  · simp at hv
/-- Zeros appended to nil: a new block, which may be written. -/
theorem rt_grow {c0 : Call} {t u e : TypeId} {s y : Operand} {i : TypeInfo} {ag : Bool} {zero : Value} {ku : IntKind} {r : AV} (ho : o.op = .call c0) (hb : c0.callee = .builtin .append) (ha : c0.args = #[s, y]) (ht : c0.argTypes[0]? = some t) (hu : P.underlying t = some (.slice e)) (ht1 : c0.argTypes[1]? = some u) (hu1 : P.underlying u = some (.int ku))
    (hi : P.info? e = some i) (hzero : zeroT P e = some zero) (hok : zeroOk i.size ag zero = true) (hby : i.bytes ≤ 2 ^ 12) (hpos : 0 < i.size) (hE : EnvRel us w K env a) (hG : Good us w K S) (hv : growAV i.size ag (zcells zero) st (aval env s) (aval env y) = some (r, st')) {rest : List (List AV)} (hS : S.store = st'.store ++ rest)
    (hfree : K.lm st.store.length = none) : Goes P o a us w K r st st' S := by
  have h1 := aval_rel hE s
  have h2 := aval_rel hE y
  generalize aval env s = as at hv h1
  unfold growAV at hv
  split at hv
  · split at hv
    · simp at hv
    · next hne =>
      unfold makeAV at hv
      split at hv
      · rename_i l c hl hc
        have hlc : l = c := by rw [hl] at hc; simpa using hc
        subst hlc
        split at hv
        · next hbd =>
          simp only [Option.some.injEq, Prod.mk.injEq] at hv
          obtain ⟨rfl, rfl⟩ := hv
          obtain ⟨kl, il, hxl, hl0, hl1⟩ := natOf_some hl h2
          have hs0 := h1.v_inv
          have hc0 : 0 < l := by
            rcases Nat.eq_zero_or_pos l with h | h
            · subst h; exact absurd hl hne
            · exact h
          simp only [zeroOk, Bool.and_eq_true, beq_iff_eq] at hok
          obtain ⟨⟨hzs, hst⟩, hag⟩ := hok
          have hz : i.zero = some zero := by simpa [zeroT, hi] using hzero
          have hzr : ∀ K' : Kx, Rels us w K' (zcells zero) zero.cells.toList := fun K' => zcells_rel zero (plain_of_zero hst)
          have h0 := zeros_rel (z := i.size) (zcells zero) zero.cells (hzr K) hzs l
          have hzone1 : ∀ x ∈ zero.cells.toList, x.oneCell' = true := (hzr K).one hst
          have hmax := hbd.2
          have hge := grownCap_ge w l 0 e
          have hrun : (execOp a.eval o).run P w = .ok (.value (.slice (some ⟨w.heap.size, 0, none⟩) l (grownCap w l 0 e)))
              (w.drew.alloc (.cells ((Builtin.zeroCells zero.cells l).toList ++ (Builtin.zeroCells zero.cells (grownCap w l 0 e - l)).toList).toArray e)) := by
            rw [maxGrow_eq] at hmax
            have hil : il = (l : Int) := by omega
            subst hil
            have hw1 : IntKind.i64.wrap (l : Int) = (l : Int) := wrap_small _ (by omega) (by omega)
            have hb2 : l * i.bytes ≤ 140737488355328 := by
              have h1 : l * i.bytes ≤ 4294967296 * 4096 := Nat.mul_le_mul hmax hby
              omega
            have hb3 : ¬ (281474976710656 < (l : Int) * (i.bytes : Int)) := by
              have : ((l * i.bytes : Nat) : Int) = (l : Int) * (i.bytes : Int) := by simp
              omega
            have hfit := growslice_fits (show 0 < l by omega) hb2
            have h48' : ¬ (281474976710656 < Builtin.nextslicecap l 0 * i.bytes) := by omega
            have h63' : ¬ (9223372036854775807 < (l : Int)) := by omega
            have hne1 : ¬ (l ≤ 0) := by omega
            have hne2 : l ≠ 0 := by omega
            have hng : ¬ ((l : Int) < 0) := by omega
            have hne3 : i.size ≠ 0 := by omega
            have hne4 : l * i.size ≠ 0 := Nat.mul_ne_zero hne2 hne3
            have happ : (Builtin.append_ c0.argTypes o.type #[.slice none 0 0, .int kl l]).run P w = .ok (.slice (some ⟨w.heap.size, 0, none⟩) l (grownCap w l 0 e))
                (w.drew.alloc (.cells ((Builtin.zeroCells zero.cells l).toList ++ (Builtin.zeroCells zero.cells (grownCap w l 0 e - l)).toList).toArray e)) := by
              simp [Builtin.append_, ht, ht1, run_underlying hu, run_underlying hu1, sizeOf, typeInfo, zeroValue, hi, hz, asInt, asIntOf, hw1, hng, hb3, hne1, hne2, hne3, h63', h48', Question.forced, newRow, grownCap, Builtin.firstCells]
              rw [if_neg hne4]
              congr 3
              apply Array.ext'
              simp
            simp [execOp, ho, resolve, hb, ha, invoke, builtin, hs0, hxl, happ]
          intro next Q hn
          unfold Oper.wp
          rw [hrun]
          generalize hgc : grownCap w l 0 e = nc at hge
          generalize hce : ((Builtin.zeroCells zero.cells l).toList ++ (Builtin.zeroCells zero.cells (nc - l)).toList).toArray = cells
          have hcs : cells.size = nc * i.size := by
            rw [← hce]
            simp only [List.size_toArray, List.length_append, Array.length_toList, size_zeroCells, hzs, ← Nat.add_mul]
            congr 1; omega
          have hz1 : (Builtin.zeroCells zero.cells l).toList = (List.range (l * i.size)).map fun j => zero.cells[j % zero.cells.size]! := by
            simp [Builtin.zeroCells, hzs]
          have hlen : ((List.replicate l (zcells zero)).flatten).length = l * i.size := by
            have := h0.len; simpa using this
          have hpre : cells.toList.take ((List.replicate l (zcells zero)).flatten).length = (Builtin.zeroCells zero.cells l).toList := by
            rw [hlen, ← hce, List.toList_toArray]
            have e6 : l * i.size = ((Builtin.zeroCells zero.cells l).toList).length := by rw [hz1]; simp
            rw [e6, List.take_left]
          have hone' : ∀ v ∈ cells.toList, v.oneCell' = true := by
            intro v hv
            rw [← hce, List.toList_toArray] at hv
            simp only [List.mem_append] at hv
            rcases hv with hv | hv
            · exact zeroCells_one _ (by rw [hzs]; exact hpos) hzone1 _ v hv
            · exact zeroCells_one _ (by rw [hzs]; exact hpos) hzone1 _ v hv
          obtain ⟨hG2, hX2⟩ := hG.drew
          have hL : S.store[st.store.length]? = some ((List.replicate l (zcells zero)).flatten) := by rw [hS]; simp
          have hLS : st.store.length < S.store.length := (List.getElem?_eq_some_iff.1 hL).1
          have hx1 := ext_alloc hG2 (.cells cells e) us (fun _ _ => rfl) (K.newL st.store.length w.drew.heap.size) rfl rfl
            (fun l' c h => by simp only [Kx.newL]; split; · next e => subst e; rw [hfree] at h; exact absurd h (by simp)
                              · exact h)
            (fun l' c h => by simp only [Kx.newL] at h; split at h; · exact .inr (by simp at h ⊢; omega)
                              · exact .inl ⟨l', h⟩)
          have hg1 := good_alloc_lm hG2 cells e st.store.length ((List.replicate l (zcells zero)).flatten) hLS hfree hL (by rw [hpre, hz1]; exact h0.mono hX2.usle hX2.kle) (by rw [hlen, hcs]; exact Nat.mul_le_mul_right _ hge) hone'
          refine hn _ us _ (K.newL st.store.length w.drew.heap.size) (.rsl _ st.store.length 0 _ _ i.size ag w.heap.size nc (by simp [Kx.newL]) ⟨_, cells, e, heap_alloc_new w.drew _, rfl⟩ (.inr ⟨hge, nc * i.size, ⟨cells, e, heap_alloc_new w.drew _, hcs⟩, by omega⟩)) (hX2.trans hx1) hg1 ⟨fun l' c h => ?_, fun t h => .inl h⟩
          simp only [Kx.newL] at h
          split at h
          · next e => subst e; exact .inr ⟨Nat.le_refl _, by simp⟩
          · exact .inl h
        · simp at hv
      · simp at hv
  · simp at hv
end
end Go.Ev

namespace Go.Ev
open Go

section
variable {us us1 : Us} {w w1 : World} {K K1 : Kx} {st st1 S : St}

/-! ## What a callee has laid is kept -/

theorem shVs_len (n : Nat) : ∀ xs : List AV, (shVs n xs).length = xs.length
  | [] => rfl
  | a :: r => by simp [shVs, shVs_len n r]
theorem shVs_get (n : Nat) : ∀ (xs : List AV) (i : Nat) (h : i < (shVs n xs).length), (shVs n xs)[i] = shV n (xs[i]'(by rw [shVs_len] at h; exact h))
  | [], i, h => by simp [shVs] at h
  | a :: r, 0, h => by simp [shVs]
  | a :: r, i + 1, h => by simp [shVs]; exact shVs_get n r i (by simpa [shVs] using h)
theorem shStore_len (n : Nat) : ∀ s : List (List AV), (shStore n s).length = s.length
  | [] => rfl
  | a :: r => by simp [shStore, shStore_len n r]
theorem shStore_get (n : Nat) : ∀ (s : List (List AV)) (i : Nat), (shStore n s)[i]? = (s[i]?).map (shVs n)
  | [], i => by simp [shStore]
  | a :: r, 0 => by simp [shStore]
  | a :: r, i + 1 => by simp [shStore]; exact shStore_get n r i

theorem Rel.shift {a x} {n : Nat} (h : Rel us w K a x) : ∀ {K' : Kx}, (∀ l c, K.lm l = some c → K'.lm (n + l) = some c) → Rel us w K' (shV n a) x := by
  induction h with
  | any K x => intro K' _; simp only [shV]; exact .any _ x
  | v K x h => intro K' _; simp only [shV]; exact .v _ x h
  | ptr K l o c h hs => intro K' e; simp only [shV]; exact .ptr _ (n + l) o c (e l c h) hs
  | obj K m l c h => intro K' e; simp only [shV]; exact .obj _ m (n + l) c (e l c h)
  | eptr K e o c p m vs hu1 hn hc h1 hl hr _ => intro K' _; simp only [shV]; exact .eptr _ e o c p m vs hu1 hn hc h1 hl hr
  | lst K g z xs c p m cap vs hu1 hn hc h1 hz hcap hl hr ht _ => intro K' _; simp only [shV]; exact .lst _ .any z xs c p m cap vs hu1 hn hc h1 hz hcap hl hr trivial
  | rsl K l o m c z a b cap h hs hx => intro K' e; simp only [shV]; exact .rsl _ (n + l) o m c z a b cap (e l b h) hs hx
  | fn K f a b va vb ha hb _ _ iha ihb =>
    intro K' e
    simp only [shV]
    exact .fn _ f _ _ va vb (by rw [shVs_len]; exact ha) (by rw [shVs_len]; exact hb) (fun i h h' => by rw [shVs_get]; exact iha i _ h' e) (fun i h h' => by rw [shVs_get]; exact ihb i _ h' e)
  | ifc K t a x _ ih => intro K' e; simp only [shV]; exact .ifc _ t _ x (ih e)
  | agg K cs vs hl _ ih => intro K' e; simp only [shV]; exact .agg _ _ vs (by rw [shVs_len]; exact hl) (fun i h h' => by rw [shVs_get]; exact ih i _ h' e)
  | tup K cs vs hl _ ih => intro K' e; simp only [shV]; exact .tup _ _ vs (by rw [shVs_len]; exact hl) (fun i h h' => by rw [shVs_get]; exact ih i _ h' e)
theorem Rels.shift {as vs} {n : Nat} (h : Rels us w K as vs) {K' : Kx} (e : ∀ l c, K.lm l = some c → K'.lm (n + l) = some c) : Rels us w K' (shVs n as) vs :=
  ⟨by rw [shVs_len]; exact h.len, fun i h1 h2 => by rw [shVs_get]; exact (h.rel i _ h2).shift e⟩

def Kx.join (K K1 : Kx) (N m : Nat) : Kx := { K with lm := fun l => if N ≤ l ∧ l < N + m then K1.lm (l - N) else K.lm l }

theorem join_ok {N : Nat} (hN : N = st.store.length) (hG : Good us w K S) (hX : Ext us w .nil us1 w1 K1) (hG1 : Good us1 w1 K1 st1) {rest : List (List AV)} (hS : S.store = (st.store ++ shStore N st1.store) ++ rest)
    (hfree : ∀ l, N ≤ l → l < (st.store ++ shStore N st1.store).length → K.lm l = none) :
    (∀ l c, K1.lm l = some c → (K.join K1 N st1.store.length).lm (N + l) = some c) ∧ Ext us w K us1 w1 (K.join K1 N st1.store.length) ∧ Good us1 w1 (K.join K1 N st1.store.length) S ∧
    Fresh st ⟨st.store ++ shStore N st1.store, st.tips⟩ K (K.join K1 N st1.store.length) := by
  have hold : ∀ c, c < w.heap.size → w1.heap[c]? = w.heap[c]? ∧ us1 c = us c := fun c hc => hX.frame c hc (fun l h => by simp [Kx.nil] at h) (fun l h => by simp [Kx.nil] at h)
  have hnew : ∀ l c, K1.lm l = some c → w.heap.size ≤ c := fun l c h => by
    rcases hX.lmNew l c h with ⟨_, h⟩ | h
    · simp [Kx.nil] at h
    · exact h
  have hlen : (st.store ++ shStore N st1.store).length = N + st1.store.length := by rw [List.length_append, shStore_len, hN]
  have hsub : ∀ l c, K1.lm l = some c → (K.join K1 N st1.store.length).lm (N + l) = some c := by
    intro l c h
    have := hG1.lmlt l c h
    simp only [Kx.join]
    rw [if_pos ⟨by omega, by omega⟩, Nat.add_sub_cancel_left]; exact h
  have hup : ∀ l c, K.lm l = some c → (K.join K1 N st1.store.length).lm l = some c := by
    intro l c h
    simp only [Kx.join]
    split
    · next e => rw [hfree l e.1 (by rw [hlen]; exact e.2)] at h; simp at h
    · exact h
  have inv : ∀ l c, (K.join K1 N st1.store.length).lm l = some c → (∃ j, l = N + j ∧ j < st1.store.length ∧ K1.lm j = some c) ∨ (¬ (N ≤ l ∧ l < N + st1.store.length) ∧ K.lm l = some c) := by
    intro l c h
    simp only [Kx.join] at h
    split at h
    · next e => exact .inl ⟨l - N, by omega, by omega, h⟩
    · next e => exact .inr ⟨e, h⟩
  have hent : ∀ j, j < st1.store.length → S.store[N + j]? = (st1.store[j]?).map (shVs N) := by
    intro j hj
    rw [hS, List.getElem?_append_left (by rw [hlen]; omega), List.getElem?_append_right (by omega), ← hN, Nat.add_sub_cancel_left, shStore_get]
  have hdead : ∀ j, j < st1.store.length → st1.store[j]? = some [] → S.store[N + j]? = some [] := by
    intro j hj h
    rw [hent j hj, h]; rfl
  have hkle : KLe us w K us1 w1 (K.join K1 N st1.store.length) := by
    refine ⟨fun l c h => ⟨hup l c h, fun n hn => ?_⟩, fun t m h => ⟨m, h, Nat.le_refl _, fun _ c hc => ⟨hc, (hold c (hG.tkltH hc)).2, fun n hn => hX.sz c n hn⟩⟩⟩
    obtain ⟨cur, ty, h1, h2⟩ := hn
    exact ⟨cur, ty, (hold c (hG.lmltH h)).1.trans h1, h2⟩
  have hX2 : Ext us w K us1 w1 (K.join K1 N st1.store.length) :=
    ⟨hX.os, hX.tape, hX.output, hX.size, hX.sz, hX.usle, hkle, fun c hc _ _ => hold c hc, fun c hc h _ => (hold c hc).2.trans h, fun l c h => by
      rcases inv l c h with ⟨j, _, _, h1⟩ | ⟨_, h1⟩
      · exact .inr (hnew j c h1)
      · exact .inl ⟨l, h1⟩, fun _ _ h => .inl h⟩
  refine ⟨hsub, hX2, ⟨hG.T, fun l c h => ?_, fun l c cs h hs => ?_, fun l1 l2 c h1 h2 => ?_, hG.tkinj, hG.tklt, fun t c h => ?_, hG1.uslt, fun l c h => ?_, fun l t c h ht => ?_⟩, ⟨fun l c h => ?_, fun t h => .inl h⟩⟩
  · rcases inv l c h with ⟨j, rfl, hj, h1⟩ | ⟨_, h1⟩
    · rw [hS, List.length_append, hlen]; omega
    · exact hG.lmlt l c h1
  · rcases inv l c h with ⟨j, rfl, hj, h1⟩ | ⟨_, h1⟩
    · rw [hent j hj] at hs
      obtain ⟨cs1, h2, rfl⟩ := Option.map_eq_some_iff.1 hs
      exact (hG1.blk j c cs1 h1 h2).conv rfl fun _ g2 => g2.shift hsub
    · exact (hG.blk l c cs h1 hs).mono hX.usle hkle (hold c (hG.lmltH h1)).1
  · rcases inv l1 c h1 with ⟨j, rfl, hj, g1⟩ | ⟨_, g1⟩ <;> rcases inv l2 c h2 with ⟨i, rfl, hi, g2⟩ | ⟨_, g2⟩
    · rcases hG1.inj j i c g1 g2 with e | e | e
      · exact .inl (by rw [e])
      · exact .inr (.inl (hdead j hj e))
      · exact .inr (.inr (hdead i hi e))
    · have := hnew j c g1; have := hG.lmltH g2; omega
    · have := hnew i c g2; have := hG.lmltH g1; omega
    · exact hG.inj l1 l2 c g1 g2
  · obtain ⟨n, hn⟩ := hG.tkus t c h
    exact ⟨n, (hold c (hG.tkltH h)).2.trans hn⟩
  · rcases inv l c h with ⟨j, rfl, hj, h1⟩ | ⟨_, h1⟩
    · rcases hG1.disj j c h1 with e | e
      · exact .inl (hdead j hj e)
      · exact .inr e
    · rcases hG.disj l c h1 with e | e
      · exact .inl e
      · exact .inr ((hold c (hG.lmltH h1)).2.trans e)
  · rcases inv l c h with ⟨j, rfl, hj, h1⟩ | ⟨_, h1⟩
    · have h5 : K.tk t = some c := ht
      have := hnew j c h1; have := hG.tkltH h5; omega
    · exact hG.lmtk l t c h1 ht
  · rcases inv l c h with ⟨j, rfl, hj, h1⟩ | ⟨_, h1⟩
    · exact .inr ⟨by omega, by simp only [hlen]; omega⟩
    · exact .inl h1

/-- The callee's list is held on by a tip of its own. -/
theorem join_tip {N m c e : Nat} {t : Nat} {K2 : Kx} (hK2 : K2 = K.join K1 N m) (hG : Good us w K S) (hX : Ext us w .nil us1 w1 K1) (hG1 : Good us1 w1 K1 st1) (hX2 : Ext us w K us1 w1 K2) (hG2 : Good us1 w1 K2 S) {st' : List (List AV)} (hF2 : Fresh st ⟨st', st.tips⟩ K K2)
    (htk : K1.tk t = some c) {n : Nat} (hus : us1 c = some n) {rest : List Nat} (hS : S.tips = (st.tips ++ [e]) ++ rest) (hfree : K.tk st.tips.length = none) :
    Ext us w K us1 w1 { K2 with tk := fun u => if u = st.tips.length then some c else K2.tk u } ∧ Good us1 w1 { K2 with tk := fun u => if u = st.tips.length then some c else K2.tk u } S ∧
    Fresh st ⟨st', st.tips ++ [e]⟩ K { K2 with tk := fun u => if u = st.tips.length then some c else K2.tk u } ∧ KLe us1 w1 K2 us1 w1 { K2 with tk := fun u => if u = st.tips.length then some c else K2.tk u } := by
  have hc : w.heap.size ≤ c := by
    rcases hX.tkNew t c htk with h | h
    · simp [Kx.nil] at h
    · exact h
  have hk2 : K2.tk st.tips.length = none := by rw [hK2]; exact hfree
  have hk2' : ∀ u d, K2.tk u = some d → K.tk u = some d := fun u d h => by rw [hK2] at h; exact h
  have hle : KLe us1 w1 K2 us1 w1 { K2 with tk := fun u => if u = st.tips.length then some c else K2.tk u } :=
    ⟨fun _ _ h => ⟨h, fun _ h => h⟩, fun u m h => ⟨m, h, Nat.le_refl _, fun _ d hd => ⟨by
      show (if u = st.tips.length then some c else K2.tk u) = some d
      by_cases e : u = st.tips.length
      · rw [e, hk2] at hd; simp at hd
      · rw [if_neg e]; exact hd, rfl, fun _ h => h⟩⟩⟩
  have hlm : ∀ l d, K2.lm l = some d → (∃ j, K1.lm j = some d) ∨ K.lm l = some d := by
    intro l d h
    rw [hK2] at h
    simp only [Kx.join] at h
    split at h
    · exact .inl ⟨_, h⟩
    · exact .inr h
  refine ⟨⟨hX2.os, hX2.tape, hX2.output, hX2.size, hX2.sz, hX2.usle, hX2.kle.trans hle, hX2.frame, hX2.usNone, hX2.lmNew, fun u d h => ?_⟩,
    ⟨hG2.T, hG2.lmlt, fun l d cs h hs => (hG2.blk l d cs h hs).mono (.refl _ _) hle rfl, hG2.inj, fun u v d h1 h2 => ?_, fun u d h => ?_, fun u d h => ?_, hG2.uslt, hG2.disj, fun l u d h1 h2 => ?_⟩,
    ⟨hF2.lm, fun u h => ?_⟩, hle⟩
  · have h' : (if u = st.tips.length then some c else K2.tk u) = some d := h
    split at h'
    · simp only [Option.some.injEq] at h'
      subst h'; exact .inr hc
    · exact hX2.tkNew u d h'
  · have h1' : (if u = st.tips.length then some c else K2.tk u) = some d := h1
    have h2' : (if v = st.tips.length then some c else K2.tk v) = some d := h2
    split at h1' <;> split at h2'
    · next e1 e2 => rw [e1, e2]
    · simp only [Option.some.injEq] at h1'
      have := hG.tkltH (hk2' v d h2'); omega
    · simp only [Option.some.injEq] at h2'
      have := hG.tkltH (hk2' u d h1'); omega
    · exact hG2.tkinj u v d h1' h2'
  · have h' : (if u = st.tips.length then some c else K2.tk u) = some d := h
    split at h'
    · next e1 => rw [e1, hS]; simp
    · exact hG2.tklt u d h'
  · have h' : (if u = st.tips.length then some c else K2.tk u) = some d := h
    split at h'
    · simp only [Option.some.injEq] at h'
      subst h'; exact ⟨n, hus⟩
    · exact hG2.tkus u d h'
  · have h2' : (if u = st.tips.length then some c else K2.tk u) = some d := h2
    split at h2'
    · simp only [Option.some.injEq] at h2'
      subst h2'
      rcases hlm l c h1 with ⟨j, hj⟩ | hj
      · exact hG1.lmtk j t c hj htk
      · have := hG.lmltH hj; omega
    · exact hG2.lmtk l u d h1 h2'
  · have h' : (if u = st.tips.length then some c else K2.tk u).isSome = true := h
    split at h'
    · next e1 => exact .inr ⟨by omega, by rw [e1]; simp⟩
    · rcases hF2.tk u h' with h | h
      · exact .inl h
      · simp only at h; omega
end
end Go.Ev

namespace Go.Ev
open Go

section
variable {us us' : Us} {w : World} {K : Kx} {st : St}

/-! ## Slices that are written no more -/

theorem frzVs_len (l : Nat) (cs : List AV) : ∀ xs : List AV, (frzVs l cs xs).length = xs.length
  | [] => rfl
  | a :: r => by simp [frzVs, frzVs_len l cs r]
theorem frzVs_get (l : Nat) (cs : List AV) : ∀ (xs : List AV) (i : Nat) (h : i < (frzVs l cs xs).length), (frzVs l cs xs)[i] = frzV l cs (xs[i]'(by rw [frzVs_len] at h; exact h))
  | [], i, h => by simp [frzVs] at h
  | a :: r, 0, h => by simp [frzVs]
  | a :: r, i + 1, h => by simp [frzVs]; exact frzVs_get l cs r i (by simpa [frzVs] using h)

/-- What lies in block l, and that it is written no more. -/
def FrzOk (us : Us) (w : World) (K : Kx) (l : Nat) (cs : List AV) (us' : Us) : Prop :=
  ∀ c, K.lm l = some c → (∃ n, SizeAt w c n) → ∃ cur ty, w.heap[c]? = some (.cells cur ty (0, 0)) ∧ cs.length ≤ cur.size ∧ Rels us w K cs (cur.toList.take cs.length) ∧ (∀ x ∈ cur.toList, x.oneCell' = true) ∧ us' c = some cur.size

theorem Rel.frz {a x} {l : Nat} {cs : List AV} (hu : UsLe us w us' w) (h : Rel us w K a x) : KLe us w K us' w K → FrzOk us w K l cs us' → Rel us' w K (frzV l cs a) x := by
  induction h with
  | any K x => intro _ _; simp only [frzV]; exact .any _ x
  | v K x h => intro _ _; simp only [frzV]; exact .v _ x h
  | ptr K l o c h hs => intro hk _; simp only [frzV]; exact (Rel.ptr K l o c h hs).mono hu hk
  | obj K m l' c h => intro hk _; simp only [frzV]; exact (Rel.obj K m l' c h).mono hu hk
  | eptr K e o c p n vs hu1 hn hc h1 hl hr _ => intro hk _; simp only [frzV]; exact (Rel.eptr K e o c p n vs hu1 hn hc h1 hl hr).mono hu hk
  | lst K g z xs c p n cap vs hu1 hn hc h1 hz hcap hl hr ht _ => intro hk _; simp only [frzV]; exact (Rel.lst K g z xs c p n cap vs hu1 hn hc h1 hz hcap hl hr ht).mono hu hk
  | fn K f a b va vb ha hb hra hrb _ _ => intro hk _; simp only [frzV]; exact (Rel.fn K f a b va vb ha hb hra hrb).mono hu hk
  | ifc K t a x h _ => intro hk _; simp only [frzV]; exact (Rel.ifc K t a x h).mono hu hk
  | agg K xs vs hl _ ih => intro hk hf; simp only [frzV]; exact .agg _ _ vs (by rw [frzVs_len]; exact hl) (fun i h h' => by rw [frzVs_get]; exact ih i _ h' hk hf)
  | tup K xs vs hl _ ih => intro hk hf; simp only [frzV]; exact .tup _ _ vs (by rw [frzVs_len]; exact hl) (fun i h h' => by rw [frzVs_get]; exact ih i _ h' hk hf)
  | rsl K l' o n c z b d cap h hs hx =>
    intro hk hf
    simp only [frzV]
    split
    · next hc =>
      obtain ⟨rfl, h1, h2, h3⟩ := hc
      obtain ⟨cur, ty, g1, g0, g2, g3, g4⟩ := hf d h hs
      have hcle : c ≤ cap := Caps.le hx
      have hr := ((g2.drop o).pubs).mono hu (KLe.nil _ _ _ _ .nil)
      obtain ⟨q1, q2⟩ := group_rel b z n (pubs (cs.drop o)) ((cur.toList.take cs.length).drop o) h2 (by rw [pubs_len]; simp; omega) hr
      have hn : (group b z n (pubs (cs.drop o))).length = n := group_len _ _ _ _
      have hvl : (((cur.toList.take cs.length).drop o).take (n * z)).length = n * z := by simp; omega
      have := Rel.lst (us := us') (w := w) K .any z (group b z n (pubs (cs.drop o))) d o cur.size cap (((cur.toList.take cs.length).drop o).take (n * z))
        g4 (by rw [hvl]; omega) (fun i hi => by
          have hi' : o + i < (cur.toList.take cs.length).length := by rw [hvl] at hi; simp; omega
          have := cellsAt_take g1 cs.length (o + i) hi'
          rw [Nat.zero_add] at this
          rw [this]
          simp) (fun x hx => g3 x (List.mem_of_mem_take (List.mem_of_mem_drop (List.mem_of_mem_take hx)))) q2 (by rw [hn]; omega) q1.len q1.rel trivial
      rw [hn] at this
      exact this
    · exact (Rel.rsl K l' o n c z b d cap h hs hx).mono hu hk

theorem Rels.frz {xs : List AV} {vs : List Value} {l : Nat} {cs : List AV} (hu : UsLe us w us' w) (h : Rels us w K xs vs) (hk : KLe us w K us' w K) (hf : FrzOk us w K l cs us') : Rels us' w K (frzVs l cs xs) vs :=
  ⟨by rw [frzVs_len]; exact h.len, fun i h1 h2 => by rw [frzVs_get]; exact (h.rel i _ h2).frz hu hk hf⟩

theorem frzEnv_get (l : Nat) (cs : List AV) : ∀ (e : Env) (t : Tmp), (frzEnv l cs e).get t = frzV l cs (e.get t)
  | [], t => by simp [frzEnv, Env.get, frzV]
  | (i, a) :: r, t => by
    simp only [frzEnv, Env.get]
    split
    · rfl
    · exact frzEnv_get l cs r t

theorem frzStore_get (l : Nat) (cs : List AV) : ∀ (s : List (List AV)) (i : Nat), (frzStore l cs s)[i]? = (s[i]?).map (frzVs l cs)
  | [], i => by simp [frzStore]
  | a :: r, 0 => by simp [frzStore]
  | a :: r, i + 1 => by simp [frzStore]; exact frzStore_get l cs r i
theorem frzStore_len (l : Nat) (cs : List AV) : ∀ s : List (List AV), (frzStore l cs s).length = s.length
  | [] => rfl
  | a :: r => by simp [frzStore, frzStore_len l cs r]

theorem frzL_good {env : Env} {a : Act} {l : Nat} (hG : Good us w K st) (hE : EnvRel us w K env a) :
    ∃ us', Good us' w K (frzL l env st).2 ∧ EnvRel us' w K (frzL l env st).1 a ∧ Ext us w K us' w K ∧ (frzL l env st).2.store.length = st.store.length ∧ (frzL l env st).2.tips = st.tips := by
  unfold frzL
  split
  · rename_i c0 cs0 hs
    generalize hcs : c0 :: cs0 = cs at *
    have hne : cs ≠ [] := by rw [← hcs]; simp
    -- what is frozen
    obtain ⟨us', hu1, hu2, hf, hu3⟩ : ∃ us' : Us, (∀ b, us' b = us b ∨ K.lm l = some b) ∧ (∀ b n, us b = some n → us' b = some n) ∧ FrzOk us w K l cs us' ∧ (∀ b n, us' b = some n → b < w.heap.size) := by
      cases hl : K.lm l with
      | none => exact ⟨us, fun _ => .inl rfl, fun _ _ h => h, fun c h => by rw [hl] at h; simp at h, hG.uslt⟩
      | some c =>
        by_cases hsz : ∃ n, SizeAt w c n
        case neg => exact ⟨us, fun _ => .inl rfl, fun _ _ h => h, fun c' h h' => by rw [hl] at h; simp only [Option.some.injEq] at h; subst h; exact absurd h' hsz, hG.uslt⟩
        obtain ⟨cur, ty, g1, g0, g2, g3⟩ := (hG.blk l c cs hl hs).cells hsz
        have hlive := hG.live hl hs hne
        refine ⟨us.new c cur.size, fun b => ?_, fun b n h => ?_, fun c' h _ => ?_, fun b n h => ?_⟩
        · by_cases e : b = c
          · subst e; exact .inr rfl
          · exact .inl (by simp [Us.new, e])
        · have : b ≠ c := by intro e; subst e; rw [hlive] at h; simp at h
          simp [Us.new, this, h]
        · rw [hl] at h
          simp only [Option.some.injEq] at h
          subst h
          exact ⟨cur, ty, g1, g0, g2, g3, by simp [Us.new]⟩
        · simp only [Us.new] at h
          split at h
          · next e => subst e; exact (Array.getElem?_eq_some_iff.1 g1).1
          · exact hG.uslt b n h
    have hule : UsLe us w us' w := fun b n h => ⟨n, hu2 b n h, Nat.le_refl _, fun _ _ => rfl⟩
    have hk : KLe us w K us' w K := ⟨fun _ _ h => ⟨h, fun _ h => h⟩, fun t m h => ⟨m, h, Nat.le_refl _, fun _ b hb => ⟨hb, (hu1 b).resolve_right (fun e => hG.lmtk l t b e hb), fun _ h => h⟩⟩⟩
    have hX : Ext us w K us' w K := ⟨rfl, rfl, rfl, Nat.le_refl _, fun _ _ h => h, hule, hk, fun b _ h _ => ⟨rfl, (hu1 b).resolve_right (h l)⟩, fun b _ h hb => ((hu1 b).resolve_right (hb l)).trans h, fun l _ h => .inl ⟨l, h⟩, fun _ _ h => .inl h⟩
    have hget : ∀ l' b, K.lm l' = some b → ((frzStore l cs st.store).set l [])[l']? = if l' = l then some [] else (st.store[l']?).map (frzVs l cs) := by
      intro l' b h
      have hlt := hG.lmlt l' b h
      by_cases e : l' = l
      · subst e; rw [if_pos rfl, List.getElem?_set_self (by rw [frzStore_len]; exact hlt)]
      · rw [if_neg e, List.getElem?_set_ne (fun h => e h.symm), frzStore_get]
    have hdead : ∀ l' b, K.lm l' = some b → st.store[l']? = some [] → ((frzStore l cs st.store).set l [])[l']? = some [] := by
      intro l' b h hd
      rw [hget l' b h]
      split
      · rfl
      · rw [hd]; rfl
    refine ⟨us', ⟨hG.T, fun l' b h => ?_, fun l' b cs' h hs' => ?_, fun l1 l2 b h1 h2 => ?_, hG.tkinj, hG.tklt, fun t b h => ?_, hu3, fun l' b h => ?_, hG.lmtk⟩, fun t => ?_, hX, by simp [frzStore_len], rfl⟩
    · simp only [List.length_set, frzStore_len]; exact hG.lmlt l' b h
    · simp only [hget l' b h] at hs'
      split at hs'
      · simp only [Option.some.injEq] at hs'
        subst hs'
        exact (hG.blk l' b _ h (List.getElem?_eq_getElem (hG.lmlt l' b h))).dead rfl
      · obtain ⟨cs2, h2, rfl⟩ := Option.map_eq_some_iff.1 hs'
        exact (hG.blk l' b cs2 h h2).conv rfl fun _ g2 => g2.frz hule hk hf
    · rcases hG.inj l1 l2 b h1 h2 with e | e | e
      · exact .inl e
      · exact .inr (.inl (hdead l1 b h1 e))
      · exact .inr (.inr (hdead l2 b h2 e))
    · obtain ⟨n, hn⟩ := hG.tkus t b h
      exact ⟨n, hu2 b n hn⟩
    · by_cases e : l' = l
      · subst e; exact .inl (by rw [hget l' b h, if_pos rfl])
      · rcases hG.disj l' b h with h2 | h2
        · exact .inl (hdead l' b h h2)
        · rcases hu1 b with h3 | h3
          · exact .inr (h3.trans h2)
          · rcases hG.inj l' l b h h3 with h4 | h4 | h4
            · exact absurd h4 e
            · exact .inl (hdead l' b h h4)
            · rw [hs] at h4; simp at h4; exact absurd h4 hne
    · rw [frzEnv_get]; exact (hE t).frz hule hk hf
  · exact ⟨us, hG, hE, .refl _ _ _, rfl, rfl⟩

theorem frzLs_good {a : Act} : ∀ (ls : List Nat) {us : Us} {env : Env} {st : St}, Good us w K st → EnvRel us w K env a →
    ∃ us', Good us' w K (frzLs ls env st).2 ∧ EnvRel us' w K (frzLs ls env st).1 a ∧ Ext us w K us' w K ∧ (frzLs ls env st).2.store.length = st.store.length ∧ (frzLs ls env st).2.tips = st.tips
  | [], us, env, st, hG, hE => ⟨us, hG, hE, .refl _ _ _, rfl, rfl⟩
  | l :: r, us, env, st, hG, hE => by
    obtain ⟨us1, h1, h2, h3, h4, h5⟩ := frzL_good (l := l) hG hE
    obtain ⟨us2, g1, g2, g3, g4, g5⟩ := frzLs_good r h1 h2
    exact ⟨us2, g1, g2, h3.trans g3, g4.trans h4, g5.trans h5⟩

theorem frzAV_good {a : Act} : ∀ (ts : List Tmp) {us : Us} {env : Env} {st : St}, Good us w K st → EnvRel us w K env a →
    ∃ us', Good us' w K (frzAV ts env st).2 ∧ EnvRel us' w K (frzAV ts env st).1 a ∧ Ext us w K us' w K ∧ (frzAV ts env st).2.store.length = st.store.length ∧ (frzAV ts env st).2.tips = st.tips
  | [], us, env, st, hG, hE => ⟨us, hG, hE, .refl _ _ _, rfl, rfl⟩
  | t :: r, us, env, st, hG, hE => by
    obtain ⟨us1, h1, h2, h3, h4, h5⟩ := frzLs_good (frzW t env st) hG hE
    obtain ⟨us2, g1, g2, g3, g4, g5⟩ := frzAV_good r h1 h2
    exact ⟨us2, g1, g2, h3.trans g3, g4.trans h4, g5.trans h5⟩

theorem frzP1_lens (t : Tmp) (env : Env) (st : St) : (frzP1 t env st).2.store.length = st.store.length ∧ (frzP1 t env st).2.tips = st.tips := by
  unfold frzP1
  split
  · split
    · simp
    · exact ⟨rfl, rfl⟩
  · exact ⟨rfl, rfl⟩
theorem frzPs_lens : ∀ (ts : List Tmp) (env : Env) (st : St), (frzPs ts env st).2.store.length = st.store.length ∧ (frzPs ts env st).2.tips = st.tips
  | [], _, _ => ⟨rfl, rfl⟩
  | t :: r, env, st => by
    have h1 := frzP1_lens t env st
    have h2 := frzPs_lens r (frzP1 t env st).1 (frzP1 t env st).2
    exact ⟨h2.1.trans h1.1, h2.2.trans h1.2⟩
theorem frzP1_good {env : Env} {a : Act} {t : Tmp} (hG : Good us w K st) (hE : EnvRel us w K env a) :
    ∃ us', Good us' w K (frzP1 t env st).2 ∧ EnvRel us' w K (frzP1 t env st).1 a ∧ Ext us w K us' w K := by
  unfold frzP1
  split
  · rename_i l o hget
    split
    · rename_i c0 cs0 hs
      generalize hcs : c0 :: cs0 = cs at *
      have hne : cs ≠ [] := by rw [← hcs]; simp
      have hp := hE t
      rw [hget] at hp
      obtain ⟨c, hc, hx, hsz⟩ := hp.ptr_inv'
      obtain ⟨cur, ty, g1, g0, g2, g3⟩ := (hG.blk l c cs hc hs).cells hsz
      have hlive := hG.live hc hs hne
      have hclt : c < w.heap.size := (Array.getElem?_eq_some_iff.1 g1).1
      obtain ⟨us', hu1, hu2, hu3, hu4⟩ : ∃ us' : Us, (∀ b, us' b = us b ∨ K.lm l = some b) ∧ (∀ b n, us b = some n → us' b = some n) ∧ us' c = some cur.size ∧ (∀ b n, us' b = some n → b < w.heap.size) := by
        refine ⟨us.new c cur.size, fun b => ?_, fun b n h => ?_, by simp [Us.new], fun b n h => ?_⟩
        · by_cases e : b = c
          · subst e; exact .inr hc
          · exact .inl (by simp [Us.new, e])
        · have : b ≠ c := by intro e; subst e; rw [hlive] at h; simp at h
          simp [Us.new, this, h]
        · simp only [Us.new] at h
          split at h
          · next e => subst e; exact hclt
          · exact hG.uslt b n h
      have hule : UsLe us w us' w := fun b n h => ⟨n, hu2 b n h, Nat.le_refl _, fun _ _ => rfl⟩
      have hk : KLe us w K us' w K := ⟨fun _ _ h => ⟨h, fun _ h => h⟩, fun t m h => ⟨m, h, Nat.le_refl _, fun _ b hb => ⟨hb, (hu1 b).resolve_right (fun e => hG.lmtk l t b e hb), fun _ h => h⟩⟩⟩
      have hX : Ext us w K us' w K := ⟨rfl, rfl, rfl, Nat.le_refl _, fun _ _ h => h, hule, hk, fun b _ h _ => ⟨rfl, (hu1 b).resolve_right (h l)⟩, fun b _ h hb => ((hu1 b).resolve_right (hb l)).trans h, fun l _ h => .inl ⟨l, h⟩, fun _ _ h => .inl h⟩
      have hget2 : ∀ l' b, K.lm l' = some b → (st.store.set l [])[l']? = if l' = l then some [] else st.store[l']? := by
        intro l' b h
        by_cases e : l' = l
        · subst e; rw [if_pos rfl, List.getElem?_set_self (hG.lmlt _ _ h)]
        · rw [if_neg e, List.getElem?_set_ne (fun h => e h.symm)]
      have hdead : ∀ l' b, K.lm l' = some b → st.store[l']? = some [] → (st.store.set l [])[l']? = some [] := by
        intro l' b h hd
        rw [hget2 l' b h]
        split
        · rfl
        · exact hd
      refine ⟨us', ⟨hG.T, fun l' b h => ?_, fun l' b cs' h hs' => ?_, fun l1 l2 b h1 h2 => ?_, hG.tkinj, hG.tklt, fun t b h => ?_, hu4, fun l' b h => ?_, hG.lmtk⟩, fun t' => ?_, hX⟩
      · simp only [List.length_set]; exact hG.lmlt l' b h
      · simp only [hget2 l' b h] at hs'
        split at hs'
        · simp only [Option.some.injEq] at hs'
          subst hs'
          exact (hG.blk l' b _ h (List.getElem?_eq_getElem (hG.lmlt l' b h))).dead rfl
        · exact (hG.blk l' b cs' h hs').mono hule hk rfl
      · rcases hG.inj l1 l2 b h1 h2 with e | e | e
        · exact .inl e
        · exact .inr (.inl (hdead l1 b h1 e))
        · exact .inr (.inr (hdead l2 b h2 e))
      · obtain ⟨n, hn⟩ := hG.tkus t b h
        exact ⟨n, hu2 b n hn⟩
      · by_cases e : l' = l
        · subst e; exact .inl (by rw [hget2 l' b h, if_pos rfl])
        · rcases hG.disj l' b h with h2 | h2
          · exact .inl (hdead l' b h h2)
          · rcases hu1 b with h3 | h3
            · exact .inr (h3.trans h2)
            · rcases hG.inj l' l b h h3 with h4 | h4 | h4
              · exact absurd h4 e
              · exact .inl (hdead l' b h h4)
              · rw [hs] at h4; simp at h4; exact absurd h4 hne
      · show Rel us' w K (if t = t' then _ else _) _
        split
        · next e =>
          subst e
          rw [hx]
          have hr2 := (g2.pubs).mono hule (KLe.nil _ _ _ _ .nil)
          have hl : (AV.agg (pubs cs)).cells.length = (cur.toList.take cs.length).length := by
            show (pubs cs).length = _
            rw [pubs_len]; simp; omega
          have := Rel.eptr (us := us') (w := w) K (.agg (pubs cs)) o c 0 cur.size (cur.toList.take cs.length) hu3 (by simp; omega) (cellsAt_take g1 cs.length) (fun x hx => g3 x (List.mem_of_mem_take hx)) hl (fun i h h' => hr2.rel i h h')
          rw [Nat.zero_add] at this
          exact this
        · exact (hE t').mono hule hk
    · exact ⟨us, hG, hE, .refl _ _ _⟩
  · exact ⟨us, hG, hE, .refl _ _ _⟩
theorem frzPs_good {a : Act} : ∀ (ts : List Tmp) {us : Us} {env : Env} {st : St}, Good us w K st → EnvRel us w K env a →
    ∃ us', Good us' w K (frzPs ts env st).2 ∧ EnvRel us' w K (frzPs ts env st).1 a ∧ Ext us w K us' w K
  | [], us, env, st, hG, hE => ⟨us, hG, hE, .refl _ _ _⟩
  | t :: r, us, env, st, hG, hE => by
    obtain ⟨us1, h1, h2, h3⟩ := frzP1_good (t := t) hG hE
    obtain ⟨us2, g1, g2, g3⟩ := frzPs_good r h1 h2
    exact ⟨us2, g1, g2, h3.trans g3⟩

theorem frzL_lens (l : Nat) (env : Env) (st : St) : (frzL l env st).2.store.length = st.store.length ∧ (frzL l env st).2.tips = st.tips := by
  unfold frzL
  split
  · simp [frzStore_len]
  · exact ⟨rfl, rfl⟩
theorem frzLs_lens : ∀ (ls : List Nat) (env : Env) (st : St), (frzLs ls env st).2.store.length = st.store.length ∧ (frzLs ls env st).2.tips = st.tips
  | [], _, _ => ⟨rfl, rfl⟩
  | l :: r, env, st => by
    have h1 := frzL_lens l env st
    have h2 := frzLs_lens r (frzL l env st).1 (frzL l env st).2
    exact ⟨h2.1.trans h1.1, h2.2.trans h1.2⟩
theorem frzAV_lens : ∀ (ts : List Tmp) (env : Env) (st : St), (frzAV ts env st).2.store.length = st.store.length ∧ (frzAV ts env st).2.tips = st.tips
  | [], _, _ => ⟨rfl, rfl⟩
  | t :: r, env, st => by
    have h1 := frzLs_lens (frzW t env st) env st
    have h2 := frzAV_lens r (frzLs (frzW t env st) env st).1 (frzLs (frzW t env st) env st).2
    exact ⟨h2.1.trans h1.1, h2.2.trans h1.2⟩

theorem frzA_map (l : Nat) (st : St) (as : List AV) : ∀ i (h : i < (as.map (frzA l st)).length), (as.map (frzA l st))[i] = frzA l st (as[i]'(by simpa using h)) := fun i h => by simp
theorem frzL_env (l : Nat) (e e' : Env) (st : St) : (frzL l e st).2 = (frzL l e' st).2 := by
  unfold frzL; split <;> rfl
theorem frzL_get (l : Nat) (e : Env) (st : St) (t : Tmp) : (frzL l e st).1.get t = frzA l st (e.get t) := by
  unfold frzL frzA
  split
  · simp only [frzEnv_get]
  · rfl
theorem params_at : ∀ (as : List AV) (n i : Nat) (h : i < as.length), (params n as).get (n + i) = as[i]
  | [], n, i, h => by simp at h
  | a :: r, n, 0, h => by simp [params, Env.get]
  | a :: r, n, i + 1, h => by
    simp only [params, Env.get, List.getElem_cons_succ]
    rw [if_neg (by omega), show n + (i + 1) = n + 1 + i by omega]
    exact params_at r (n + 1) i (by simpa using h)
theorem params_out : ∀ (as : List AV) (n t : Nat), (t < n ∨ n + as.length ≤ t) → (params n as).get t = .any
  | [], n, t, h => rfl
  | a :: r, n, t, h => by
    simp only [params, Env.get]
    simp only [List.length_cons] at h
    rw [if_neg (by omega)]
    exact params_out r (n + 1) t (by omega)
theorem frzArgs_good : ∀ (ls : List Nat) {us : Us} {st : St} {as : List AV} {vs : List Value}, Good us w K st → Rels us w K as vs →
    ∃ us', Good us' w K (frzArgs ls as st).2 ∧ Rels us' w K (frzArgs ls as st).1 vs ∧ Ext us w K us' w K ∧ (frzArgs ls as st).2.store.length = st.store.length ∧ (frzArgs ls as st).2.tips = st.tips
  | [], us, st, as, vs, hG, hr => ⟨us, hG, hr, .refl _ _ _, rfl, rfl⟩
  | l :: r, us, st, as, vs, hG, hr => by
    have hE : EnvRel us w K (params 0 as) ⟨vs.toArray, []⟩ := by
      intro t
      by_cases h : t < as.length
      · have h1 := params_at as 0 t h
        rw [Nat.zero_add] at h1
        rw [h1]
        have h2 : t < vs.length := by rw [← hr.len]; exact h
        have : (vs.toArray.getD t undef) = vs[t] := by simp [Array.getD, h2]
        rw [this]
        exact hr.rel t h h2
      · rw [params_out as 0 t (.inr (by omega))]; exact .any _ _
    obtain ⟨us1, h1, h2, h3, h4, h5⟩ := frzL_good (l := l) hG hE
    have hr' : Rels us1 w K (as.map (frzA l st)) vs := by
      refine ⟨by rw [List.length_map]; exact hr.len, fun i hi hi' => ?_⟩
      have h6 := h2 i
      have hi2 : i < as.length := by simpa using hi
      have h7 := params_at as 0 i hi2
      rw [Nat.zero_add] at h7
      rw [frzL_get, h7] at h6
      have : (vs.toArray.getD i undef) = vs[i] := by simp [Array.getD, hi']
      simp only at h6
      rw [this] at h6
      rw [frzA_map]
      exact h6
    rw [frzL_env l (params 0 as) []] at h1 h4 h5
    obtain ⟨us2, g1, g2, g3, g4, g5⟩ := frzArgs_good r h1 hr'
    exact ⟨us2, g1, g2, h3.trans g3, g4.trans h4, g5.trans h5⟩
theorem frzArgs_lens : ∀ (ls : List Nat) (as : List AV) (st : St), (frzArgs ls as st).2.store.length = st.store.length ∧ (frzArgs ls as st).2.tips = st.tips
  | [], _, _ => ⟨rfl, rfl⟩
  | l :: r, as, st => by
    have h1 := frzL_lens l [] st
    have h2 := frzArgs_lens r (as.map (frzA l st)) (frzL l [] st).2
    exact ⟨h2.1.trans h1.1, h2.2.trans h1.2⟩
end
end Go.Ev

namespace Go.Ev
open Go

section
variable {P : Program} {us : Us} {w : World} {K : Kx} {st st' S S' : St}
variable {o : Oper} {env : Env} {a : Act} {r : AV}

/-! ## cells that are written in a row -/
theorem put_cells (P : Program) {l q c : Nat} {cs xs : List AV} {vs : List Value} (hG : Good us w K S) (hc : K.lm l = some c) (hz0 : ∃ n, SizeAt w c n) (hcs : S.store[l]? = some cs) (hne : cs ≠ []) (hb : q + xs.length ≤ cs.length) (hcells : Rels us w K xs vs) (hone2 : ∀ v ∈ vs, v.oneCell' = true) :
    ∃ w', (storeCells ⟨c, q, none⟩ vs).run P w = .ok () w' ∧ Ext us w K us w' K ∧ Good us w' K ⟨S.store.set l (putCells cs q xs), S.tips⟩ := by
  obtain ⟨cur, ty, hheap, hle, hrel, hone⟩ := (hG.blk l c cs hc hcs).cells hz0
  have e1 : vs.length = xs.length := hcells.len.symm
  have hrun := run_storeCells_at P c q ty vs 0 cur w hheap (by omega) hone2
  simp only [Nat.add_zero] at hrun
  have hput : putCells cs q xs = cs.take q ++ xs ++ cs.drop (q + xs.length) := putCells_eq cs q xs (by omega)
  have hpl : (putCells cs q xs).length = cs.length := putCells_len cs q xs
  have hr' : Rels us w K (putCells cs q xs) ((cur.toList.take q ++ vs ++ cur.toList.drop (q + vs.length)).take (putCells cs q xs).length) := by
    rw [hpl, hput]
    have := ((hrel.take q).append hcells).append (hrel.drop (q + xs.length))
    have e5 : (cur.toList.take q ++ vs ++ cur.toList.drop (q + vs.length)).take cs.length = (cur.toList.take cs.length).take q ++ vs ++ (cur.toList.take cs.length).drop (q + xs.length) := by
      have hq : (cur.toList.take q).length = q := by simp; omega
      rw [e1, List.take_take, Nat.min_eq_left (by omega), List.take_append, List.length_append, hq, e1, List.take_of_length_le (by rw [List.length_append, hq, e1]; omega), List.drop_take]
    rw [e5]
    exact this
  have h1' : ∀ z ∈ cur.toList.take q ++ vs ++ cur.toList.drop (q + vs.length), z.oneCell' = true := by
    intro z hz
    simp only [List.mem_append] at hz
    rcases hz with (hz | hz) | hz
    · exact hone z (List.mem_of_mem_take hz)
    · exact hone2 z hz
    · exact hone z (List.mem_of_mem_drop hz)
  have hsz : (cur.toList.take q ++ vs ++ cur.toList.drop (q + vs.length)).length = cur.size := by
    simp [e1]; omega
  exact ⟨_, hrun, ext_setRow hG hc (hG.live hc hcs hne) ⟨cur, ty, hheap, by simpa using hsz.symm⟩, good_setRow hG hc hcs hne hheap hsz (by rw [hpl, hsz]; exact hle) hr' h1'⟩

/-! ## clear -/
theorem rt_clear {c : Call} {x : Operand} {t e : TypeId} {i : TypeInfo} {ag : Bool} {zero : Value} (ho : o.op = .call c) (hb : c.callee = .builtin .clear) (ha : c.args = #[x]) (ht : c.argTypes[0]? = some t) (hu : P.underlying t = some (.slice e)) (hi : P.info? e = some i) (hz : zeroT P e = some zero)
    (hok : zeroOk i.size ag zero = true) (hpos : 0 < i.size) (hE : EnvRel us w K env a) (hG : Good us w K S) (hv : clearAV i.size (zcells zero) S (aval env x) = some S') : Goes P o a us w K (.v (.tuple #[])) st st' S' := by
  have h1 := aval_rel hE x
  generalize aval env x = ax at hv h1
  have hzi : i.zero = some zero := by simpa [zeroT, hi] using hz
  simp only [zeroOk, Bool.and_eq_true, beq_iff_eq] at hok
  obtain ⟨⟨hzs, hst⟩, _⟩ := hok
  have hstep : ∀ w', (Builtin.clear_ c.argTypes o.type #[a.eval x]).run P w = .ok (.tuple #[]) w' → (execOp a.eval o).run P w = .ok (.value (.tuple #[])) w' := by
    intro w' h
    simp [execOp, ho, resolve, hb, ha, invoke, builtin, h]
  unfold clearAV at hv
  split at hv
  · rename_i l q n cp z' b
    obtain ⟨d, cap, hc, hx, _⟩ := h1.rsl_inv
    split at hv
    · split at hv
      · next hn0 =>
        simp only [Option.some.injEq] at hv; subst hv
        intro next Q hn
        unfold Oper.wp
        rw [hstep w (by rw [hx, hn0]; simp [Builtin.clear_, ht, run_underlying hu])]
        exact hn _ us w K (.v K _ rfl) (.refl _ _ _) hG (.sameK _ _ _)
      · next hn0 =>
        simp only [storeAV] at hv
        split at hv
        · next hcond =>
          split at hv
          · rename_i cs hcs
            split at hv
            · next hbd =>
              simp only [Option.some.injEq] at hv; subst hv
              have hzr : Rels us w K (zcells zero) zero.cells.toList := zcells_rel zero (plain_of_zero hst)
              have h0 := zeros_rel (z := i.size) (zcells zero) zero.cells hzr hzs n
              have hl : ((List.replicate n (zcells zero)).flatten).length = n * i.size := hcond.2.1
              have hne : cs ≠ [] := by
                intro h; subst h
                have : 0 < n * i.size := Nat.mul_pos (by omega) hpos
                simp at hbd; omega
              have hone : ∀ v ∈ (List.range (n * i.size)).map fun j => zero.cells[j % zero.cells.size]!, v.oneCell' = true := by
                intro v hv
                obtain ⟨j, hj, rfl⟩ := List.mem_map.1 hv
                have hlt := Nat.mod_lt j (show 0 < zero.cells.size by omega)
                rw [getElem!_pos zero.cells (j % zero.cells.size) hlt]
                exact hzr.one hst _ (by simp)
              obtain ⟨w', g1, g2, g3⟩ := put_cells P (q := q) hG hc (h1.rsl_size hc) hcs hne (by rw [hl]; exact hbd) h0 hone
              intro next Q hn
              unfold Oper.wp
              have hzc : (Builtin.zeroCells zero.cells n).toList = (List.range (n * i.size)).map fun j => zero.cells[j % zero.cells.size]! := by
                simp [Builtin.zeroCells, hzs]
              rw [hstep w' (by
                rw [hx]
                simp [Builtin.clear_, ht, run_underlying hu, hn0, zeroValue, typeInfo, hi, hzi, hzc, g1])]
              exact hn _ us w' K (.v K _ rfl) g2 g3 (.sameK _ _ _)
            · simp at hv
          · simp at hv
        · simp at hv
    · simp at hv
  · simp only [Option.some.injEq] at hv; subst hv
    have hx := h1.v_inv
    intro next Q hn
    unfold Oper.wp
    rw [hstep w (by rw [hx]; simp [Builtin.clear_, ht, run_underlying hu])]
    exact hn _ us w K (.v K _ rfl) (.refl _ _ _) hG (.sameK _ _ _)
  · simp at hv

/-! ## copy -/
theorem elems_take (P : Program) {z k : Nat} {A : AV} {x : Value} {ys : List AV} (hG : Good us w K S) (h : elemsOf z S A = some ys) (hr : Rel us w K A x) (hk : k ≤ ys.length) :
    ∃ news, (Builtin.lenOf x).run P w = .ok ys.length w ∧ (Builtin.firstCells z k x).run P w = .ok news.toArray w ∧ Rels us w .nil (flat (ys.take k)) news ∧ (∀ v ∈ news, v.oneCell' = true) ∧ (flat (ys.take k)).length = k * z := by
  have each : ∀ ys' : List AV, (∀ y ∈ ys', y.cells.length = z) → k ≤ ys'.length → (flat (ys'.take k)).length = k * z := by
    intro ys' h1 h2
    rw [flat_len _ fun y hy => h1 y (List.mem_of_mem_take hy), List.length_take, Nat.min_eq_left h2]
  unfold elemsOf at h
  split at h
  · simp only [Option.some.injEq] at h
    subst h
    rw [hr.v_inv]
    have : k = 0 := by simpa using hk
    subst this
    exact ⟨[], by simp [Builtin.lenOf], by simp [Builtin.firstCells], .nil, by simp, by simp [flat]⟩
  · rename_i g z' xs
    split at h
    · next hz =>
      subst hz
      simp only [Option.some.injEq] at h
      subst h
      obtain ⟨c, p, cap, vs, rfl, h1⟩ := hr.lst_inv
      have hl : vs.length = xs.length * z' := by rw [← h1.rels.len, flat_len xs h1.each]
      have hkz : k * z' ≤ vs.length := by rw [hl]; exact Nat.mul_le_mul_right _ hk
      have hft : flat (xs.take k) = (flat xs).take (k * z') := by
        have e : flat xs = flat (xs.take k) ++ flat (xs.drop k) := by
          unfold flat; rw [← List.flatMap_append, List.take_append_drop]
        rw [e, List.take_left' (each xs h1.each hk)]
      refine ⟨vs.take (k * z'), by simp [Builtin.lenOf], ?_, by rw [hft]; exact h1.rels.take _, fun v hv => h1.one v (List.mem_of_mem_take hv), each xs h1.each hk⟩
      refine run_firstCells_some _ z' k ⟨c, p, none⟩ xs.length cap (vs.take (k * z')) (by simp; omega) (fun j v hj => ?_)
      obtain ⟨hj1, rfl⟩ := List.getElem?_eq_some_iff.1 hj
      rw [Addr.add_lit]
      have hj2 : j < vs.length := by simp at hj1; omega
      rw [List.getElem_take]
      exact h1.cells j hj2
    · simp at h
  · rename_i l q n cp z' b
    split at h
    · next hz =>
      obtain ⟨rfl, hb⟩ := hz
      obtain ⟨c, cap, hc, rfl, _⟩ := hr.rsl_inv
      cases hl : S.store[l]? with
      | none => simp [hl] at h
      | some cs =>
        simp only [hl, Option.bind_some] at h
        split at h
        · next hbd =>
          simp only [Option.some.injEq] at h
          subst h
          obtain ⟨cur, ty, h1, h0, h2, h3⟩ := (hG.blk l c cs hc hl).cells (hr.rsl_size hc)
          have h4 := group_rel (us := us) (w := w) b z' n (pubs (cs.drop q)) ((cur.toList.take cs.length).drop q) hb (by rw [pubs_len]; simp; omega) (h2.drop q).pubs
          have hgl := group_len b z' n (pubs (cs.drop q))
          rw [hgl] at hk
          have hkn : k * z' ≤ n * z' := Nat.mul_le_mul_right _ hk
          have hft : flat ((group b z' n (pubs (cs.drop q))).take k) = (flat (group b z' n (pubs (cs.drop q)))).take (k * z') := by
            have e : flat (group b z' n (pubs (cs.drop q))) = flat ((group b z' n (pubs (cs.drop q))).take k) ++ flat ((group b z' n (pubs (cs.drop q))).drop k) := by
              unfold flat; rw [← List.flatMap_append, List.take_append_drop]
            rw [e, List.take_left' (each _ h4.2 (by rw [hgl]; exact hk))]
          refine ⟨((((cur.toList.take cs.length).drop q).take (n * z')).take (k * z')), by simp [Builtin.lenOf, group_len], ?_, by rw [hft]; exact h4.1.take _, fun y hy => h3 y (List.mem_of_mem_take (List.mem_of_mem_drop (List.mem_of_mem_take (List.mem_of_mem_take hy)))), each _ h4.2 (by rw [hgl]; exact hk)⟩
          refine run_firstCells_some _ z' k ⟨c, q, none⟩ n cap _ (by simp; omega) (fun j v hj => ?_)
          obtain ⟨hj1, rfl⟩ := List.getElem?_eq_some_iff.1 hj
          rw [Addr.add_lit]
          try rw [World.cell?_drew]
          rw [cell_of_row _ c (q + j) cur ty _ h1]
          simp at hj1
          rw [Array.getElem?_eq_getElem (by omega)]
          simp
        · simp at h
    · simp at h
  · simp at h

theorem rt_copy {c : Call} {x y : Operand} {t e : TypeId} {z : Nat} {ys : List AV} (ho : o.op = .call c) (hb : c.callee = .builtin .copy) (ha : c.args = #[x, y]) (ht : c.argTypes[0]? = some t) (hu : P.underlying t = some (.slice e)) (hz : sizeT P e = some z) (hz0 : 0 < z)
    (hE : EnvRel us w K env a) (hG : Good us w K S) (hys : elemsOf z S (aval env y) = some ys) (hv : copyAV z S ys (aval env x) = some (r, S')) : Goes P o a us w K r st st' S' := by
  have h1 := aval_rel hE x
  have h2 := aval_rel hE y
  generalize aval env x = ax at hv h1
  generalize aval env y = ay at hys h2
  have hstep : ∀ v w', (Builtin.copy_ c.argTypes o.type #[a.eval x, a.eval y]).run P w = .ok v w' → (execOp a.eval o).run P w = .ok (.value v) w' := by
    intro v w' h
    simp [execOp, ho, resolve, hb, ha, invoke, builtin, h]
  unfold copyAV at hv
  split at hv
  · rename_i l q n cp z' b
    obtain ⟨d, cap, hc, hx, _⟩ := h1.rsl_inv
    split at hv
    · split at hv
      · rename_i cs hcs
        split at hv
        · next hbd =>
          simp only [Option.some.injEq, Prod.mk.injEq] at hv
          obtain ⟨rfl, rfl⟩ := hv
          have hk : Nat.min ys.length n ≤ ys.length := Nat.min_le_left _ _
          obtain ⟨news, g1, g2, g3, g4, g5⟩ := elems_take P hG hys h2 hk
          have hne : cs ≠ [] := by intro h; subst h; simp at hbd
          obtain ⟨w', p1, p2, p3⟩ := put_cells P (q := q) (xs := flat (ys.take (Nat.min ys.length n))) hG hc (h1.rsl_size hc) hcs hne (by rw [g5]; exact hbd.2) (g3.mono (.refl _ _) (KLe.nil _ _ _ _ _)) g4
          intro next Q hn
          unfold Oper.wp
          rw [hstep (goInt (Nat.min ys.length n)) w' (by
            rw [hx]
            simp [Builtin.copy_, ht, run_underlying hu, size_run hz, g1, g2, p1])]
          exact hn _ us w' K (.v K _ rfl) p2 p3 (.sameK _ _ _)
        · split at hv
          · next hn0 =>
            subst hn0
            simp only [Option.some.injEq, Prod.mk.injEq] at hv
            obtain ⟨rfl, rfl⟩ := hv
            obtain ⟨news, g1, g2, g3, g4, g5⟩ := elems_take P (k := 0) hG hys h2 (Nat.zero_le _)
            have hnews : news = [] := by
              have := g3.len
              rw [g5] at this
              exact List.eq_nil_of_length_eq_zero (by simpa using this.symm)
            subst hnews
            intro next Q hn
            unfold Oper.wp
            rw [hstep (goInt 0) w (by
              rw [hx]
              simp [Builtin.copy_, ht, run_underlying hu, size_run hz, g1, g2, storeCells])]
            exact hn _ us w K (.v K _ rfl) (.refl _ _ _) hG (.sameK _ _ _)
          · simp at hv
      · simp at hv
    · simp at hv
  · simp only [Option.some.injEq, Prod.mk.injEq] at hv
    obtain ⟨rfl, rfl⟩ := hv
    have hx := h1.v_inv
    obtain ⟨news, g1, g2, g3, g4, g5⟩ := elems_take P (k := 0) hG hys h2 (Nat.zero_le _)
    intro next Q hn
    unfold Oper.wp
    rw [hstep (goInt 0) w (by
      rw [hx]
      simp [Builtin.copy_, ht, run_underlying hu, size_run hz, g1, g2])]
    exact hn _ us w K (.v K _ rfl) (.refl _ _ _) hG (.sameK _ _ _)
  · simp at hv

/-! ## cap -/
theorem rt_cap {x : Operand} {e : TypeId} {c : Call} (ho : o.op = .call c) (hb : c.callee = .builtin .cap) (ha : c.args.toList = [x]) (hty : (c.argTypes[0]?).bind P.underlying = some (.slice e)) (hE : EnvRel us w K env a) (hG : Good us w K st)
    (hv : valAV env (.cap x) = some r) : RunsTo P (execOp a.eval o) us w K st r := by
  simp only [valAV] at hv
  have h1 := aval_rel hE x
  have ha' : c.args = #[x] := by rw [← Array.toArray_toList (xs := c.args), ha]
  have run : ∀ b n cap, a.eval x = .slice b n cap → (execOp a.eval o).run P w = .ok (.value (.int .i64 cap)) w := by
    intro b n cap h
    cases h0 : c.argTypes[0]? with
    | none => simp [h0] at hty
    | some t0 =>
      simp only [h0, Option.bind_some] at hty
      simp [execOp, ho, resolve, hb, ha', invoke, builtin, Builtin.cap_, h0, run_underlying hty, h, goInt]
  generalize aval env x = ax at hv h1
  unfold capAV at hv
  split at hv
  · simp only [Option.some.injEq] at hv; subst hv
    exact ⟨_, us, w, run _ _ _ h1.v_inv, .v K _ rfl, .refl _ _ _, hG⟩
  · rename_i z xs
    simp only [Option.some.injEq] at hv; subst hv
    obtain ⟨d, p, cap, vs, hx, h2⟩ := h1.lst_inv
    have hc : cap = xs.length := h2.tag
    subst hc
    exact ⟨_, us, w, run _ _ _ hx, .v K _ rfl, .refl _ _ _, hG⟩
  · simp at hv
end
end Go.Ev

namespace Go.Ev
open Go

/-! # Strings -/
section
variable {P : Program} {us : Us} {w : World} {K : Kx} {st : St}
variable {o : Oper} {env : Env} {a : Act} {r : AV}

theorem plainB_spec {e : TypeId} (h : plainB P e = true) : P.underlying e = some (.int .u8) := by
  unfold plainB at h
  split at h
  · assumption
  · simp at h
theorem intT_spec {e : TypeId} (h : intT P e = true) : ∃ k, P.underlying e = some (.int k) := by
  unfold intT at h
  split at h
  · exact ⟨_, by assumption⟩
  · simp at h

/-- A block that is laid aside and never written. -/
theorem new_us (hG : Good us w K st) {w' : World} (hb : RowKit.Below w.heap.size w w') {c n : Nat} (hc : w.heap.size ≤ c) (hc' : c < w'.heap.size) :
    Good (us.new c n) w' K st ∧ Ext us w K (us.new c n) w' K := by
  have hu : ∀ b, b < w.heap.size → (us.new c n) b = us b := fun b h => by
    have : b ≠ c := by omega
    simp [Us.new, this]
  have hblk : ∀ b, b < w.heap.size → w'.heap[b]? = w.heap[b]? := hb.block
  have hul : UsLe us w (us.new c n) w' := fun b m h => ⟨m, (hu b (hG.uslt b m h)).trans h, Nat.le_refl _, fun i _ => hb.cell (p := ⟨b, i, none⟩) (hG.uslt b m h)⟩
  have hsz : ∀ b m, SizeAt w b m → SizeAt w' b m := fun b m h => by
    obtain ⟨cur, ty, h1, h2⟩ := h
    exact ⟨cur, ty, (hblk b (Array.getElem?_eq_some_iff.1 h1).1).trans h1, h2⟩
  have hk : KLe us w K (us.new c n) w' K := ⟨fun _ _ h => ⟨h, fun m hm => hsz _ m hm⟩, fun t m h => ⟨m, h, Nat.le_refl _, fun _ b hb' => ⟨hb', hu b (hG.tkltH hb'), fun m hm => hsz _ m hm⟩⟩⟩
  refine ⟨⟨hG.T, hG.lmlt, fun l b cs hl hs => (hG.blk l b cs hl hs).mono hul hk (hblk b (hG.lmltH hl)), hG.inj, hG.tkinj, hG.tklt, fun t b h => ?_, fun b m h => ?_, fun l b h => ?_, hG.lmtk⟩,
    ⟨hb.os, hb.tape, hb.output, hb.size, hsz, hul, hk, fun b h _ _ => ⟨hblk b h, hu b h⟩, fun b h h2 _ => (hu b h).trans h2, fun l _ h => .inl ⟨l, h⟩, fun _ _ h => .inl h⟩⟩
  · obtain ⟨m, hm⟩ := hG.tkus t b h
    exact ⟨m, (hu b (hG.uslt b m hm)).trans hm⟩
  · simp only [Us.new] at h
    split at h
    · next e => subst e; exact hc'
    · exact Nat.lt_of_lt_of_le (hG.uslt b m h) hb.size
  · rw [hu b (hG.lmltH h)]; exact hG.disj l b h

theorem flat_bytes (l : List UInt8) : flat (l.map byteAV) = l.map byteAV := by
  induction l with
  | nil => rfl
  | cons b r ih => rw [List.map_cons, flat_cons, ih]; rfl

theorem rt_toBytes {x : Operand} {s d e : TypeId} (ho : o.op = .convert s d x) (hs : P.underlying s = some .string) (hd : P.underlying d = some (.slice e)) (he : plainB P e = true) (hE : EnvRel us w K env a) (hG : Good us w K st)
    (hv : valAV env (.toBytes x) = some r) : RunsTo P (execOp a.eval o) us w K st r := by
  simp only [valAV] at hv
  have h1 := aval_rel hE x
  unfold toBytesAV at hv
  split at hv
  · rename_i b hb
    rw [hb] at h1
    have hx := h1.v_inv
    simp only [Option.some.injEq] at hv
    subst hv
    have hrun := Lib.run_convert_string_bytes (P := P) w s d e b hs hd (plainB_spec he)
    have hbel : RowKit.Below w.heap.size w (Lib.bytesWorld w e b) := ⟨rfl, rfl, rfl, by rw [Lib.bytesWorld_size]; omega, fun c hc => Lib.bytesWorld_at_old w e b c hc⟩
    obtain ⟨g1, g2⟩ := new_us hG hbel (c := w.heap.size) (n := b.size) (Nat.le_refl _) (by rw [Lib.bytesWorld_size]; omega)
    refine ⟨.slice (some ⟨w.heap.size, 0, none⟩) b.size (grownCap w b.size 0 e), _, _, ?_, ?_, g2, g1⟩
    · simp only [execOp, ho, hx, Sem.run_bind, hrun, Result.andThen_ok, Sem.run_pure]
    · have hsz : b.data.toList.length = b.size := by rw [Array.length_toList]; rfl
      have hlen : (b.data.toList.map byteAV).length = b.size := by rw [List.length_map]; exact hsz
      have hl2 : (b.data.toList.map fun c => Value.int .u8 (c.toNat : Nat)).length = b.size := by rw [List.length_map]; exact hsz
      have key : LstAt (us.new w.heap.size b.size) (Lib.bytesWorld w e b) K .any 1 (b.data.toList.map byteAV) w.heap.size 0 (grownCap w b.size 0 e) (b.data.toList.map fun c => Value.int .u8 (c.toNat : Nat)) := by
        refine ⟨⟨b.size, by simp [Us.new], by rw [hl2]; omega⟩, fun i hi => ?_, fun y hy => ?_, fun y hy => ?_, by rw [hlen]; exact grownCap_ge w b.size 0 e, ?_, trivial⟩
        · rw [hl2] at hi
          rw [Nat.zero_add, Lib.bytesWorld_cell w e b i hi]
          have : i < b.data.toList.length := by omega
          rw [List.getD_eq_getElem?_getD, List.getElem?_eq_getElem this, List.getElem_map]
          rfl
        · obtain ⟨c, _, rfl⟩ := List.mem_map.1 hy; rfl
        · obtain ⟨c, _, rfl⟩ := List.mem_map.1 hy; rfl
        · rw [flat_bytes]
          exact ⟨by simp, fun i h1 h2 => by simp only [List.getElem_map]; exact .v _ _ rfl⟩
      have := key.rel
      rw [hlen] at this
      exact this
  · simp at hv

theorem bytesL_spec : ∀ {xs : List AV} {bs : List UInt8}, bytesL xs = some bs → ∃ ns : List Int, xs = ns.map (fun n => .v (.int .u8 n)) ∧ bs = ns.map fun n => UInt8.ofNat n.toNat
  | [], bs, h => by simp only [bytesL, Option.some.injEq] at h; exact ⟨[], rfl, h.symm⟩
  | x :: r, bs, h => by
    unfold bytesL at h
    split at h
    · simp at *
    · rename_i n r' e
      simp only [List.cons.injEq] at e
      obtain ⟨rfl, rfl⟩ := e
      split at h
      · rename_i bs' hbs
        obtain ⟨ns, h1, h2⟩ := bytesL_spec hbs
        simp only [Option.some.injEq] at h
        exact ⟨n :: ns, by rw [h1]; rfl, by rw [← h, h2]; rfl⟩
      · simp at h
    · simp at h

theorem foldl_bytes : ∀ (ns : List Int) (s : ByteArray), ns.foldl (fun (r : ByteArray) n => r.push (UInt8.ofNat n.toNat)) s = ⟨s.data ++ (ns.map fun n => UInt8.ofNat n.toNat).toArray⟩
  | [], s => by simp
  | n :: r, s => by
    rw [List.foldl_cons, foldl_bytes r]
    simp [ByteArray.push]

theorem rt_toStr {x : Operand} {s d e : TypeId} (ho : o.op = .convert s d x) (hs : P.underlying s = some (.slice e)) (hd : P.underlying d = some .string) (he : plainB P e = true) (hE : EnvRel us w K env a) (hG : Good us w K st)
    (hv : valAV env (.toStr x) = some r) : RunsTo P (execOp a.eval o) us w K st r := by
  simp only [valAV] at hv
  have h1 := aval_rel hE x
  generalize aval env x = ax at hv h1
  unfold toStrAV at hv
  split at hv
  · rename_i g xs
    split at hv
    · rename_i bs hbs
      simp only [Option.some.injEq] at hv
      subst hv
      obtain ⟨ns, rfl, rfl⟩ := bytesL_spec hbs
      obtain ⟨c, p, cap, vs, h3, h4⟩ := h1.lst_inv
      have hfl : ∀ ns : List Int, flat (ns.map fun n => AV.v (.int .u8 n)) = ns.map fun n => AV.v (.int .u8 n) := by
        intro ns
        induction ns with
        | nil => rfl
        | cons n r ih => rw [List.map_cons, flat_cons, ih]; rfl
      have hrel := h4.rels
      rw [hfl] at hrel
      have hvs : vs = ns.map (Value.int .u8) := by
        apply List.ext_getElem
        · have := hrel.len; simpa using this.symm
        · intro i hi hi'
          have := hrel.rel i (by simpa using hi') hi
          simp only [List.getElem_map] at this ⊢
          exact this.v_inv
      have hcells := h4.cells
      rw [hvs] at hcells
      have hload := run_loadCells_list (P := P) w ⟨c, p, none⟩ (ns.map (Value.int .u8)) (fun j v hj => by
        obtain ⟨hj1, rfl⟩ := List.getElem?_eq_some_iff.1 hj
        rw [Addr.add_lit]
        exact hcells j hj1)
      rw [List.length_map] at hload
      have hrun := run_bytesToString (P := P) w ⟨c, p, none⟩ ns.length cap ns hload
      refine .same hG (x := .string ⟨(ns.map fun n => UInt8.ofNat n.toNat).toArray⟩) ?_ (.v K _ rfl)
      simp only [execOp, ho, h3, List.length_map, Sem.run_bind, run_convert_bytes_string w s d e _ _ _ hs (plainB_spec he) hd, hrun, Result.andThen_ok, Sem.run_pure, foldl_bytes]
      simp
    · simp at hv
  · simp only [Option.some.injEq] at hv
    subst hv
    have h3 := h1.v_inv
    refine .same hG (x := .string .empty) ?_ (.v K _ rfl)
    simp only [execOp, ho, h3, Sem.run_bind, run_convert_bytes_string w s d e _ _ _ hs (plainB_spec he) hd]
    rfl
  · simp at hv

theorem rt_lenStr {x : Operand} {c : Call} (ho : o.op = .call c) (hb : c.callee = .builtin .len) (ha : c.args.toList = [x]) (hty : (c.argTypes[0]?).bind P.underlying = some .string) (hE : EnvRel us w K env a) (hG : Good us w K st)
    (hv : valAV env (.lenStr x) = some r) : RunsTo P (execOp a.eval o) us w K st r := by
  simp only [valAV] at hv
  have h1 := aval_rel hE x
  have ha' : c.args = #[x] := by rw [← Array.toArray_toList (xs := c.args), ha]
  unfold lenStrAV at hv
  split at hv
  · rename_i s hs
    rw [hs] at h1
    have hx := h1.v_inv
    simp only [Option.some.injEq] at hv
    subst hv
    refine .same hG (x := .int .i64 s.size) ?_ (.v K _ rfl)
    cases h0 : c.argTypes[0]? with
    | none => simp [h0] at hty
    | some t0 =>
      simp only [h0, Option.bind_some] at hty
      simp [execOp, ho, resolve, hb, ha', invoke, builtin, Builtin.len_, h0, run_underlying hty, hx, goInt]
  · simp at hv

theorem rt_sliceStr {x : Operand} {t : TypeId} {lo hi : Option Operand} (ho : o.op = .slice t x lo hi none) (ht : P.underlying t = some .string) (hE : EnvRel us w K env a) (hG : Good us w K st)
    (hv : valAV env (.sliceStr x lo hi) = some r) : RunsTo P (execOp a.eval o) us w K st r := by
  simp only [valAV] at hv
  have h1 := aval_rel hE x
  have rlo := optRel_map hE lo
  have rhi := optRel_map hE hi
  unfold sliceStrAV at hv
  split at hv
  · rename_i s hs
    rw [hs] at h1
    have hx := h1.v_inv
    split at hv
    · rename_i l h hl hh
      split at hv
      · next hb =>
        simp only [Option.some.injEq] at hv
        subst hv
        refine .same hG (x := .string (s.extract l h)) ?_ (.v K _ rfl)
        have hb5 := run_sliceBounds (P := P) (w := w) (isSlice := false) (cap := s.size) (mx := none) rlo rhi .none hl hh rfl hb.1 hb.2 (Nat.le_refl _) (by simp)
        simp only [execOp, ho, Option.map_none, Instr.sliceAt, hx, Sem.run_bind, Instr.slice, run_underlying ht, Result.andThen_ok, Option.isSome_none, Bool.false_eq_true, if_false, hb5, Sem.run_pure]
      · simp at hv
    · simp at hv
  · simp at hv
end
end Go.Ev

namespace Go.Ev
open Go

/-! # Objects of the store: maps with integers for keys, and what a range over a string keeps -/

def putO (w : World) (r : Nat) (o : Obj) : World := { w with heap := w.heap.setIfInBounds r o }

section
variable {P : Program} {us : Us} {w : World} {K : Kx} {st st' S S' : St}
variable {o : Oper} {env : Env} {a : Act} {r : AV}

theorem putO_other {c b : Nat} {ob : Obj} (h : b ≠ c) : (putO w c ob).heap[b]? = w.heap[b]? := by
  simp only [putO, Array.getElem?_setIfInBounds]
  rw [if_neg (fun e => h e.symm)]
theorem putO_at {c : Nat} {ob : Obj} (h : c < w.heap.size) : (putO w c ob).heap[c]? = some ob := by
  simp [putO, h]
theorem putO_size {c : Nat} {ob : Obj} : (putO w c ob).heap.size = w.heap.size := by simp [putO]

theorem good_putO (hG : Good us w K S) {l c : Nat} {cs cs' : List AV} {ob : Obj} (hl : K.lm l = some c) (hs : S.store[l]? = some cs) (hne : cs ≠ []) (hnc : ∀ n, ¬ SizeAt w c n)
    (hb : ∀ K', UsLe us w us (putO w c ob) → KLe us w K us (putO w c ob) K' → BlkOk us (putO w c ob) K' c cs') : Good us (putO w c ob) K ⟨S.store.set l cs', S.tips⟩ ∧ Ext us w K us (putO w c ob) K := by
  have hlive := hG.live hl hs hne
  have hsz : ∀ b n, SizeAt w b n → SizeAt (putO w c ob) b n := fun b n h => by
    have hbc : b ≠ c := by rintro rfl; exact hnc n h
    obtain ⟨cur, ty, h1, h2⟩ := h
    exact ⟨cur, ty, (putO_other hbc).trans h1, h2⟩
  have hul : UsLe us w us (putO w c ob) := fun b n h => by
    have hbc : b ≠ c := by rintro rfl; rw [hlive] at h; simp at h
    refine ⟨n, h, Nat.le_refl _, fun i _ => ?_⟩
    simp only [World.cell?, putO_other (w := w) (ob := ob) hbc]
  have hk : KLe us w K us (putO w c ob) K := ⟨fun _ _ h => ⟨h, fun n hn => hsz _ n hn⟩, fun t m h => ⟨m, h, Nat.le_refl _, fun _ b hb' => ⟨hb', rfl, fun n hn => hsz _ n hn⟩⟩⟩
  have hblk := hb K hul hk
  have hdead : ∀ l', K.lm l' = some c → l' ≠ l → S.store[l']? = some [] := by
    intro l' h e
    rcases hG.inj l' l c h hl with h2 | h2 | h2
    · exact absurd h2 e
    · exact h2
    · rw [hs] at h2; simp at h2; exact absurd h2 hne
  refine ⟨⟨hG.T, fun l' c' h => by simpa using hG.lmlt l' c' h, fun l' c' cs2 h hs2 => ?_, fun l1 l2 b h1 h2 => ?_, hG.tkinj, hG.tklt, hG.tkus, fun c' n h => by rw [putO_size]; exact hG.uslt c' n h, fun l' b h => ?_, hG.lmtk⟩,
    ⟨rfl, rfl, rfl, by rw [putO_size]; exact Nat.le_refl _, hsz, hul, hk, fun b _ hb' _ => ⟨putO_other (fun e => hb' l (by rw [e]; exact hl)), rfl⟩, fun _ _ h _ => h, fun l _ h => .inl ⟨l, h⟩, fun _ _ h => .inl h⟩⟩
  · simp only at hs2
    by_cases e : l' = l
    · subst e
      have e2 : c' = c := by rw [hl] at h; simpa using h.symm
      subst e2
      have : (S.store.set l' cs')[l']? = some cs' := by simp [hG.lmlt l' c' h]
      rw [this] at hs2
      simp only [Option.some.injEq] at hs2
      subst hs2
      exact hblk
    · rw [List.getElem?_set_ne (fun h => e h.symm)] at hs2
      by_cases e2 : c' = c
      · subst e2
        have := hdead l' h e
        rw [this] at hs2
        simp only [Option.some.injEq] at hs2
        subst hs2
        exact hblk.dead rfl
      · exact (hG.blk l' c' cs2 h hs2).mono hul hk (putO_other e2)
  · by_cases e1 : l1 = l
    · by_cases e2 : l2 = l
      · exact .inl (e1.trans e2.symm)
      · subst e1
        have hb2 : b = c := by rw [hl] at h1; simpa using h1.symm
        subst hb2
        exact .inr (.inr (by simp only; rw [List.getElem?_set_ne (fun h => e2 h.symm)]; exact hdead l2 h2 e2))
    · by_cases e2 : l2 = l
      · subst e2
        have hb2 : b = c := by rw [hl] at h2; simpa using h2.symm
        subst hb2
        exact .inr (.inl (by simp only; rw [List.getElem?_set_ne (fun h => e1 h.symm)]; exact hdead l1 h1 e1))
      · simp only
        rw [List.getElem?_set_ne (fun h => e1 h.symm), List.getElem?_set_ne (fun h => e2 h.symm)]
        exact hG.inj l1 l2 b h1 h2
  · by_cases e : l' = l
    · subst e
      have hb2 : b = c := by rw [hl] at h; simpa using h.symm
      subst hb2
      exact .inr hlive
    · simp only
      rw [List.getElem?_set_ne (fun h => e h.symm)]
      exact hG.disj l' b h

/-! ## new objects -/
theorem goes_newO {ob : Obj} {l : Nat} {cs : List AV} {val : Value} (hG : Good us w K S) (hl : st.store.length ≤ l ∧ l < st'.store.length) (hS : S.store[l]? = some cs) (hfree : K.lm l = none)
    (hblk : BlkOk us (w.alloc ob) (K.newL l w.heap.size) w.heap.size cs) (hrun : (execOp a.eval o).run P w = .ok (.value val) (w.alloc ob))
    (hval : ∀ K', K'.lm l = some w.heap.size → ∀ us w', Rel us w' K' r val) : Goes P o a us w K r st st' S := by
  intro next Q hn
  unfold Oper.wp
  rw [hrun]
  have hlS : l < S.store.length := (List.getElem?_eq_some_iff.1 hS).1
  have hx := ext_alloc hG ob us (fun _ _ => rfl) (K.newL l w.heap.size) rfl rfl
    (fun l' c h => by simp only [Kx.newL]; split; · next e => subst e; rw [hfree] at h; exact absurd h (by simp)
                      · exact h)
    (fun l' c h => by simp only [Kx.newL] at h; split at h; · exact .inr (by simp at h; omega)
                      · exact .inl ⟨l', h⟩)
  refine hn val us _ (K.newL l w.heap.size) (hval _ (by simp [Kx.newL]) _ _) hx (good_alloc_o hG ob l cs hlS hfree hS hblk) ⟨fun l' c h => ?_, fun t h => .inl h⟩
  simp only [Kx.newL] at h
  split at h
  · next e => subst e; exact .inr hl
  · exact .inl h

theorem rel_iter (s : ByteArray) (pos : Nat) : Rel us w K (iterAV s pos) (.tuple #[.string s, .int .i64 (pos : Nat)]) :=
  Rel.mkTup (vs := #[.string s, .int .i64 (pos : Nat)]) (.cons (.v _ _ rfl) (.cons (.v _ _ rfl) .nil))
theorem rel_mapHd : Rel us w K mapHd (.tuple #[]) := Rel.mkTup (vs := #[]) .nil

theorem rt_range {x : Operand} {t : TypeId} (ho : o.op = .range t x) (ht : P.underlying t = some .string) (hE : EnvRel us w K env a) (hG : Good us w K S) (hv : rangeAV st (aval env x) = some (r, st')) {rest : List (List AV)} (hS : S.store = st'.store ++ rest) (hfree : K.lm st.store.length = none) :
    Goes P o a us w K r st st' S := by
  unfold rangeAV at hv
  split at hv
  · rename_i s hs
    have h1 := aval_rel hE x
    rw [hs] at h1
    have hx := h1.v_inv
    simp only [Option.some.injEq, Prod.mk.injEq] at hv
    obtain ⟨rfl, rfl⟩ := hv
    refine goes_newO (ob := .stringIter s 0) (l := st.store.length) (cs := [iterAV s 0]) (val := objV false w.heap.size) hG (by simp) (by rw [hS]; simp) hfree
      (.ofObj (.inl ⟨s, 0, heap_alloc_new w _, rfl⟩) (.cons (rel_iter s 0) .nil)) ?_ (fun K' h us w' => .obj K' _ _ _ h)
    simp [execOp, ho, Instr.range, run_underlying ht, hx, objV]
  · simp at hv

theorem rt_makeMap {t : TypeId} (ho : o.op = .makeMap t none) (hG : Good us w K S) (hst' : st'.store = st.store ++ [[mapHd]]) {rest : List (List AV)} (hS : S.store = st'.store ++ rest) (hfree : K.lm st.store.length = none) :
    Goes P o a us w K (.obj true st.store.length) st st' S := by
  refine goes_newO (ob := .map #[] 0) (l := st.store.length) (cs := [mapHd]) (val := objV true w.heap.size) hG (by simp [hst']) (by rw [hS, hst']; simp) hfree
    (.ofObj (.inr ⟨#[], 0, heap_alloc_new w _, rfl⟩) (.cons rel_mapHd .nil)) ?_ (fun K' h us w' => .obj K' _ _ _ h)
  simp [execOp, ho, Instr.makeMap, objV]

/-! ## what lies there -/
theorem not_size_iter {c s pos} (h : w.heap[c]? = some (.stringIter s pos)) : ∀ n, ¬ SizeAt w c n := fun n ⟨cur, ty, h1, _⟩ => by rw [h] at h1; simp at h1
theorem not_size_map {c es clock} (h : w.heap[c]? = some (.map es clock)) : ∀ n, ¬ SizeAt w c n := fun n ⟨cur, ty, h1, _⟩ => by rw [h] at h1; simp at h1

theorem iter_at {c : Nat} {s : ByteArray} {pos : Int} (h : BlkOk us w K c [.tup [.v (.string s), .v (.int .i64 pos)]]) : ∃ p : Nat, pos = p ∧ w.heap[c]? = some (.stringIter s p) := by
  obtain ⟨vs, h1, h2⟩ := h.obj
  obtain ⟨x, r', e, h3, h4⟩ := h2.cons_inv
  obtain ⟨ys, rfl, h5⟩ := h3.tup_inv
  obtain ⟨y1, r1, e1, h6, h7⟩ := h5.cons_inv
  obtain ⟨y2, r2, e2, h8, h9⟩ := h7.cons_inv
  have e3 := h9.nil_inv
  have k1 := h6.v_inv
  have k2 := h8.v_inv
  rcases h1 with ⟨s', p, g1, g2⟩ | ⟨es, clock, g1, g2⟩
  · rw [e] at g2
    simp only [List.cons.injEq, Value.tuple.injEq] at g2
    have g3 := g2.1
    rw [g3] at e1
    simp only [List.cons.injEq] at e1
    obtain ⟨rfl, e1⟩ := e1
    rw [e2, e3] at e1
    simp only [List.cons.injEq, and_true] at e1
    subst e1
    simp only [Value.string.injEq] at k1
    simp only [Value.int.injEq, true_and] at k2
    subst k1
    exact ⟨p, k2.symm, g1⟩
  · rw [e] at g2
    simp only [List.cons.injEq, Value.tuple.injEq] at g2
    rw [g2.1] at e1
    simp at e1

theorem map_at {c : Nat} {kvs : List AV} (h : BlkOk us w K c (.tup [] :: kvs)) : ∃ es clock, w.heap[c]? = some (.map es clock) ∧ Rels us w K kvs (entryVals es) := by
  obtain ⟨vs, h1, h2⟩ := h.obj
  obtain ⟨x, r', e, h3, h4⟩ := h2.cons_inv
  obtain ⟨ys, rfl, h5⟩ := h3.tup_inv
  have h6 := h5.nil_inv
  rcases h1 with ⟨s', p, g1, g2⟩ | ⟨es, clock, g1, g2⟩
  · rw [e] at g2
    simp only [List.cons.injEq, Value.tuple.injEq] at g2
    rw [g2.1] at h6
    simp at h6
  · rw [e] at g2
    simp only [List.cons.injEq] at g2
    exact ⟨es, clock, g1, by rw [← g2.2]; exact h4⟩

theorem rt_next {x : Operand} (ho : o.op = .next x true) (hE : EnvRel us w K env a) (hG : Good us w K S) (hv : nextAV S (aval env x) = some (r, S')) : Goes P o a us w K r st st' S' := by
  have h1 := aval_rel hE x
  generalize aval env x = ax at hv h1
  unfold nextAV at hv
  split at hv
  · rename_i l
    obtain ⟨c, hc, hx⟩ := h1.obj_inv
    split at hv
    · rename_i s pos hs
      obtain ⟨p, rfl, hp⟩ := iter_at (hG.blk l c _ hc hs)
      have hlt : c < w.heap.size := (Array.getElem?_eq_some_iff.1 hp).1
      have hget : (getObj c).run P w = .ok (.stringIter s p) w := by simp [getObj, Sem.run, hp]
      have hset : ∀ ob, (setObj c ob).run P w = .ok () (putO w c ob) := fun ob => by simp [setObj, Sem.run, hp, putO]
      have hx' : a.eval x = .pointer (some ⟨c, 0, none⟩) := hx
      split at hv
      · next hb =>
        simp only [Option.some.injEq, Prod.mk.injEq, Int.toNat_natCast] at hv hb
        obtain ⟨rfl, rfl⟩ := hv
        obtain ⟨g1, g2⟩ := good_putO (ob := .stringIter s (p + (Utf8.decode s p).2)) hG hc hs (by simp) (not_size_iter hp) (cs' := [iterAV s (p + (Utf8.decode s p).2)]) (fun K' _ _ => .ofObj (.inl ⟨s, _, putO_at hlt, rfl⟩) (.cons (rel_iter _ _) .nil))
        intro next Q hn
        unfold Oper.wp
        have hrun : (execOp a.eval o).run P w = .ok (.value (.tuple #[.bool true, .int .i64 (p : Nat), .int .i32 ((Utf8.decode s p).1 : Nat)])) (putO w c (.stringIter s (p + (Utf8.decode s p).2))) := by
          simp only [execOp, ho, hx', Instr.next, Sem.run_bind, hget, Result.andThen_ok, hb.2, if_true, hset, Sem.run_pure, goInt]
        rw [hrun]
        exact hn _ us _ K (Rel.mkTup (vs := #[.bool true, .int .i64 (p : Nat), .int .i32 ((Utf8.decode s p).1 : Nat)]) (.cons (.v _ _ rfl) (.cons (.v _ _ rfl) (.cons (.v _ _ rfl) .nil)))) g2 g1 (.sameK _ _ _)
      · next hb =>
        split at hv
        · simp only [Option.some.injEq, Prod.mk.injEq] at hv
          obtain ⟨rfl, rfl⟩ := hv
          have hb2 : ¬ p < s.size := fun h => hb ⟨by omega, by simpa using h⟩
          refine RunsTo.goes (.same hG (x := .tuple #[.bool false]) ?_ (Rel.mkTup (vs := #[.bool false]) (.cons (.v _ _ rfl) .nil)))
          simp only [execOp, ho, hx', Instr.next, Sem.run_bind, hget, Result.andThen_ok, hb2, if_false, Sem.run_pure]
        · simp at hv
    · simp at hv
  · simp at hv

/-! ## maps -/
theorem mapCells_inv {m : AV} {x : Value} {l : Nat} {kvs : List AV} (h : mapCells S m = some (l, kvs)) (hG : Good us w K S) (hr : Rel us w K m x) :
    ∃ c es clock, m = .obj true l ∧ K.lm l = some c ∧ x = .map (some c) ∧ S.store[l]? = some (.tup [] :: kvs) ∧ w.heap[c]? = some (.map es clock) ∧ Rels us w K kvs (entryVals es) := by
  unfold mapCells at h
  split at h
  · rename_i l'
    split at h
    · rename_i kvs' hs
      simp only [Option.some.injEq, Prod.mk.injEq] at h
      obtain ⟨rfl, rfl⟩ := h
      obtain ⟨c, hc, hx⟩ := hr.obj_inv
      obtain ⟨es, clock, h1, h2⟩ := map_at (hG.blk l' c _ hc hs)
      exact ⟨c, es, clock, rfl, hc, hx, hs, h1, h2⟩
    · simp at h
  · simp at h

def evals (es : List MapEntry) : List Value := es.flatMap fun e => [e.key, e.val]
theorem evals_cons (e : MapEntry) (r : List MapEntry) : evals (e :: r) = e.key :: e.val :: evals r := rfl
theorem evals_len (es : List MapEntry) : (evals es).length = 2 * es.length := by
  induction es with
  | nil => rfl
  | cons e r ih => rw [evals_cons]; simp [ih]; omega
theorem evals_append (a b : List MapEntry) : evals (a ++ b) = evals a ++ evals b := by simp [evals]
theorem evals_take (es : List MapEntry) (d : Nat) : (evals es).take (2 * d) = evals (es.take d) := by
  induction es generalizing d with
  | nil => simp [evals]
  | cons e r ih =>
    cases d with
    | zero => rfl
    | succ d =>
      rw [evals_cons, show 2 * (d + 1) = 2 * d + 1 + 1 by omega, List.take_succ_cons, List.take_succ_cons, ih, List.take_succ_cons, evals_cons]
theorem evals_drop (es : List MapEntry) (d : Nat) : (evals es).drop (2 * d) = evals (es.drop d) := by
  induction es generalizing d with
  | nil => simp [evals]
  | cons e r ih =>
    cases d with
    | zero => rfl
    | succ d =>
      rw [evals_cons, show 2 * (d + 1) = 2 * d + 1 + 1 by omega, List.drop_succ_cons, List.drop_succ_cons, ih, List.drop_succ_cons]
theorem evals_set (es : List MapEntry) (d : Nat) (h : d < es.length) (y : Value) (f : MapEntry → MapEntry) (hf : f es[d] = { es[d] with val := y }) : evals (es.modify d f) = (evals es).set (2 * d + 1) y := by
  induction es generalizing d with
  | nil => simp at h
  | cons e r ih =>
    cases d with
    | zero =>
      simp only [List.getElem_cons_zero] at hf
      rw [List.modify_zero_cons, hf]
      rfl
    | succ d =>
      rw [List.modify_succ_cons, evals_cons, evals_cons, ih d (by simpa using h) (by simpa using hf), show 2 * (d + 1) + 1 = (2 * d + 1) + 1 + 1 by omega, List.set_cons_succ, List.set_cons_succ]

theorem findKV_spec {k : IntKind} {i : Int} {kd : IntKind} : ∀ (es : List MapEntry) (kvs : List AV) (n j : Nat) (res : Option (Nat × AV)), Rels us w K kvs (evals es) → findKV k i kvs n = some res →
    (res = none ∧ Instr.findNow (.int kd) (.int k i) es j = some none) ∨
    ∃ d v, ∃ h : d < es.length, res = some (n + 2 * d, v) ∧ Instr.findNow (.int kd) (.int k i) es j = some (some (j + d, es[d].val)) ∧ es[d].key = .int k i ∧ Rel us w K v es[d].val := by
  intro es
  induction es with
  | nil =>
    intro kvs n j res hr hf
    have : kvs = [] := List.eq_nil_of_length_eq_zero (by rw [hr.len]; rfl)
    subst this
    simp only [findKV, Option.some.injEq] at hf
    exact .inl ⟨hf.symm, rfl⟩
  | cons e r ih =>
    intro kvs n j res hr hf
    rw [evals_cons] at hr
    match kvs, hr, hf with
    | [], hr, _ => have := hr.len; simp at this
    | [_], hr, _ => have := hr.len; simp at this
    | ka :: va :: kvs', hr, hf =>
      obtain ⟨_, _, e1, h1, hr1⟩ := hr.cons_inv
      simp only [List.cons.injEq] at e1
      obtain ⟨rfl, rfl⟩ := e1
      obtain ⟨_, _, e2, h2, hr2⟩ := hr1.cons_inv
      simp only [List.cons.injEq] at e2
      obtain ⟨rfl, rfl⟩ := e2
      have hka : ∃ k' j', ka = .v (.int k' j') := by
        cases ka with
        | v y => cases y <;> first | exact ⟨_, _, rfl⟩ | simp [findKV] at hf
        | _ => simp [findKV] at hf
      obtain ⟨k', j', rfl⟩ := hka
      · have hk := h1.v_inv
        simp only [findKV] at hf
        split at hf
        · next hkk =>
          subst hkk
          split at hf
          · next hij =>
            subst hij
            simp only [Option.some.injEq] at hf
            exact .inr ⟨0, va, by simp, by simp [← hf], by simp [Instr.findNow, hk, Instr.sameNow], by simpa using hk, by simpa using h2⟩
          · next hij =>
            have hne : (i == j') = false := by simpa using hij
            rcases ih kvs' (n + 2) (j + 1) res hr2 hf with ⟨g1, g2⟩ | ⟨d, v, hd, g1, g2, g3, g4⟩
            · exact .inl ⟨g1, by simp [Instr.findNow, hk, Instr.sameNow, hne, g2]⟩
            · refine .inr ⟨d + 1, v, by simpa using hd, by rw [g1]; congr 2; omega, ?_, by simpa using g3, by simpa using g4⟩
              simp only [Instr.findNow, hk, Instr.sameNow, if_true, hne, g2, List.getElem_cons_succ]
              congr 3; omega
        · simp at hf

theorem checkKey_run {kt : TypeId} {kd k : IntKind} {i : Int} (hk : P.underlying kt = some (.int kd)) (e : Bool) (n : Nat) : (Instr.checkKey e (n + 1) kt (.int k i)).run P w = .ok () w := by
  unfold Instr.checkKey
  simp only [Sem.run_bind, run_underlying hk, Result.andThen_ok]
  rfl

theorem findIn_inv {k : AV} {kvs : List AV} {res : Option (Nat × AV)} {x : Value} (h : findIn k kvs = some res) (hr : Rel us w K k x) : ∃ kk i, x = .int kk i ∧ k = .v (.int kk i) ∧ findKV kk i kvs 0 = some res := by
  unfold findIn at h
  split at h
  · rename_i kk i
    exact ⟨kk, i, hr.v_inv, rfl, h⟩
  · simp at h

theorem findKey_run {kt : TypeId} {kd k : IntKind} {i : Int} {es : List MapEntry} {res : Option (Nat × Value)} (hk : P.underlying kt = some (.int kd)) (h : Instr.findNow (.int kd) (.int k i) es 0 = some res) : (Instr.findKey kt (.int k i) es).run P w = .ok res w := by
  unfold Instr.findKey
  simp only [Sem.run_bind, run_underlying hk, Result.andThen_ok, h, Sem.run_pure]

theorem rt_mapPut {m k x : Operand} {t kt et : TypeId} (ho : o.op = .mapUpdate t m k x) (ht : P.underlying t = some (.map kt et)) (hi : intT P kt = true) (hE : EnvRel us w K env a) (hG : Good us w K S) (hv : mapPutAV S (aval env m) (aval env k) (aval env x) = some S') :
    Goes P o a us w K (.v (.tuple #[])) st st' S' := by
  obtain ⟨kd, hkd⟩ := intT_spec hi
  unfold mapPutAV at hv
  split at hv
  · rename_i l kvs hm
    obtain ⟨c, es, clock, _, hc, hx, hs, hh, hr⟩ := mapCells_inv hm hG (aval_rel hE m)
    have hlt : c < w.heap.size := (Array.getElem?_eq_some_iff.1 hh).1
    have hget : (getObj c).run P w = .ok (.map es clock) w := by simp [getObj, Sem.run, hh]
    have hset : ∀ ob, (setObj c ob).run P w = .ok () (putO w c ob) := fun ob => by simp [setObj, Sem.run, hh, putO]
    have hrx := (aval_rel hE x).pub
    split at hv
    · have key : ∀ cs' es', S' = ⟨S.store.set l (mapHd :: cs'), S.tips⟩ → Rels us w K cs' (entryVals es') → ∀ cl, (Instr.mapUpdate t (a.eval m) (a.eval k) (a.eval x)).run P w = .ok () (putO w c (.map es' cl)) → Goes P o a us w K (.v (.tuple #[])) st st' S' := by
        intro cs' es' e hr' cl hrun
        subst e
        obtain ⟨g1, g2⟩ := good_putO (ob := .map es' cl) hG hc hs (by simp) (not_size_map hh) (cs' := mapHd :: cs') (fun K' hu hk => .ofObj (.inr ⟨es', cl, putO_at hlt, rfl⟩) (.cons rel_mapHd (hr'.mono hu hk)))
        intro next Q hn
        unfold Oper.wp
        have hrun2 : (execOp a.eval o).run P w = .ok .skip (putO w c (.map es' cl)) := by
          simp only [execOp, ho, Sem.run_bind, hrun, Result.andThen_ok, Sem.run_pure]
        rw [hrun2]
        exact hn undef us _ K (.v K _ rfl) g2 g1 (.sameK _ _ _)
      have start : ∀ kk i, a.eval k = .int kk i → ∀ res, Instr.findNow (.int kd) (.int kk i) es.toList 0 = some res → ∀ w2, ((match res with
          | some (i', _) => do
            let key ← Instr.keyThatStays (((es[i']?).map (·.key)).getD (.int kk i)) (.int kk i)
            setObj c (.map (es.modify i' fun e => { e with key, val := a.eval x }) clock)
          | none => setObj c (.map (es.push { key := .int kk i, val := a.eval x, born := clock }) (clock + 1))) : Sem Unit).run P w = .ok () w2 →
          (Instr.mapUpdate t (a.eval m) (a.eval k) (a.eval x)).run P w = .ok () w2 := by
        intro kk i hk res hf w2 h
        unfold Instr.mapUpdate
        simp only [Sem.run_bind, run_underlying ht, Result.andThen_ok, hx, hget, hk, checkKey_run (P := P) (w := w) hkd, findKey_run (P := P) (w := w) hkd hf]
        cases res with
        | none => exact h
        | some p => obtain ⟨i', v'⟩ := p; exact h
      split at hv
      · rename_i n v hf
        simp only [Option.some.injEq] at hv
        obtain ⟨kk, i, hk, _, hf⟩ := findIn_inv hf (aval_rel hE k)
        rcases findKV_spec (kd := kd) es.toList kvs 0 0 _ hr hf with ⟨h, _⟩ | ⟨d, v', hd, g1, g2, g3, g4⟩
        · simp at h
        · simp only [Option.some.injEq, Prod.mk.injEq, Nat.zero_add] at g1 g2
          obtain ⟨rfl, rfl⟩ := g1
          have hd' : d < es.size := by simpa using hd
          refine key (kvs.set (2 * d + 1) (pub (aval env x))) (es.modify d fun e => { e with key := .int kk i, val := a.eval x }) hv.symm ?_ clock (start kk i hk _ g2 _ ?_)
          · have e : entryVals (es.modify d fun e => { e with key := .int kk i, val := a.eval x }) = (evals es.toList).set (2 * d + 1) (a.eval x) := by
              show evals (es.modify d _).toList = _
              rw [Array.toList_modify, evals_set es.toList d hd (a.eval x) _ (by rw [← g3])]
            rw [e]
            exact Rels.set hr _ hrx.ofNil
          · have e1 : ((es[d]?).map (·.key)).getD (.int kk i) = .int kk i := by
              rw [Array.getElem?_eq_getElem hd']
              simpa using g3
            simp [e1, Instr.keyThatStays, Instr.sameBits, hset]
      · rename_i hf
        simp only [Option.some.injEq] at hv
        obtain ⟨kk, i, hk, hk2, hf⟩ := findIn_inv hf (aval_rel hE k)
        rcases findKV_spec (kd := kd) es.toList kvs 0 0 _ hr hf with ⟨_, g2⟩ | ⟨d, v', hd, g1, _⟩
        · refine key (kvs ++ [aval env k, pub (aval env x)]) (es.push { key := .int kk i, val := a.eval x, born := clock }) hv.symm ?_ (clock + 1) (start kk i hk _ g2 _ ?_)
          · have e : entryVals (es.push { key := .int kk i, val := a.eval x, born := clock }) = evals es.toList ++ [.int kk i, a.eval x] := by
              show evals (es.push _).toList = _
              rw [Array.toList_push, evals_append]; rfl
            rw [e]
            refine hr.append (.cons ?_ (.cons hrx.ofNil .nil))
            rw [hk2]; exact .v _ _ rfl
          · exact hset _
        · simp at g1
      · simp at hv
    · simp at hv
  · simp at hv

theorem rt_mapGet {m k : Operand} {t kt et : TypeId} {zero : Value} {ok : Bool} (ho : o.op = .lookup t m k ok) (ht : P.underlying t = some (.map kt et)) (hi : intT P kt = true) (hz : zeroT P et = some zero) (hE : EnvRel us w K env a) (hG : Good us w K S)
    (hv : mapGetAV (ofVal zero) ok S (aval env m) (aval env k) = some r) : RunsTo P (execOp a.eval o) us w K S r := by
  obtain ⟨kd, hkd⟩ := intT_spec hi
  unfold mapGetAV at hv
  split at hv
  · rename_i l kvs hm
    obtain ⟨c, es, clock, _, hc, hx, hs, hh, hr⟩ := mapCells_inv hm hG (aval_rel hE m)
    have hget : (getObj c).run P w = .ok (.map es clock) w := by simp [getObj, Sem.run, hh]
    have start : ∀ kk i, a.eval k = .int kk i → ∀ res, Instr.findNow (.int kd) (.int kk i) es.toList 0 = some res →
        (execOp a.eval o).run P w = .ok (.value (let p : Value × Bool := match res with | some (_, v) => (v, true) | none => (zero, false); if ok then .tuple #[p.1, .bool p.2] else p.1)) w := by
      intro kk i hk res hf
      simp only [execOp, ho, Instr.lookup, Sem.run_bind, run_underlying ht, Result.andThen_ok, hx, hget, hk, Sem.run_pure, checkKey_run (P := P) (w := w) hkd, findKey_run (P := P) (w := w) hkd hf]
      cases res with
      | none => simp [zero_run hz]
      | some p => obtain ⟨i', v'⟩ := p; simp
    split at hv
    · rename_i n v hf
      simp only [Option.some.injEq] at hv
      obtain ⟨kk, i, hk, _, hf⟩ := findIn_inv hf (aval_rel hE k)
      rcases findKV_spec (kd := kd) es.toList kvs 0 0 _ hr hf with ⟨h, _⟩ | ⟨d, v', hd, g1, g2, g3, g4⟩
      · simp at h
      · simp only [Option.some.injEq, Prod.mk.injEq, Nat.zero_add] at g1
        obtain ⟨rfl, rfl⟩ := g1
        refine .same hG (start kk i hk _ g2) ?_
        subst hv
        cases ok
        · exact g4
        · exact Rel.mkTup (vs := #[_, .bool true]) (.cons g4 (.cons (.v _ _ rfl) .nil))
    · rename_i hf
      simp only [Option.some.injEq] at hv
      obtain ⟨kk, i, hk, _, hf⟩ := findIn_inv hf (aval_rel hE k)
      rcases findKV_spec (kd := kd) es.toList kvs 0 0 _ hr hf with ⟨_, g2⟩ | ⟨d, v', hd, g1, _⟩
      · refine .same hG (start kk i hk _ g2) ?_
        subst hv
        cases ok
        · exact rel_ofVal zero
        · exact Rel.mkTup (vs := #[_, .bool false]) (.cons (rel_ofVal zero) (.cons (.v _ _ rfl) .nil))
      · simp at g1
    · simp at hv
  · simp at hv

theorem rt_mapDel {m k : Operand} {c0 : Call} {kt et : TypeId} (ho : o.op = .call c0) (hb : c0.callee = .builtin .delete) (ha : c0.args.toList = [m, k]) (hty : (c0.argTypes[0]?).bind P.underlying = some (.map kt et)) (hi : intT P kt = true) (hE : EnvRel us w K env a) (hG : Good us w K S)
    (hv : mapDelAV S (aval env m) (aval env k) = some S') : Goes P o a us w K (.v (.tuple #[])) st st' S' := by
  obtain ⟨kd, hkd⟩ := intT_spec hi
  have ha' : c0.args = #[m, k] := by rw [← Array.toArray_toList (xs := c0.args), ha]
  obtain ⟨t0, h0, ht⟩ : ∃ t0, c0.argTypes[0]? = some t0 ∧ P.underlying t0 = some (.map kt et) := by
    cases h0 : c0.argTypes[0]? with
    | none => simp [h0] at hty
    | some t0 => exact ⟨t0, rfl, by simpa [h0] using hty⟩
  unfold mapDelAV at hv
  split at hv
  · rename_i l kvs hm
    obtain ⟨c, es, clock, _, hc, hx, hs, hh, hr⟩ := mapCells_inv hm hG (aval_rel hE m)
    have hlt : c < w.heap.size := (Array.getElem?_eq_some_iff.1 hh).1
    have hget : (getObj c).run P w = .ok (.map es clock) w := by simp [getObj, Sem.run, hh]
    have hset : ∀ ob, (setObj c ob).run P w = .ok () (putO w c ob) := fun ob => by simp [setObj, Sem.run, hh, putO]
    have key : ∀ cs' es', S' = ⟨S.store.set l (mapHd :: cs'), S.tips⟩ → Rels us w K cs' (entryVals es') → ∀ kk i, a.eval k = .int kk i → ∀ res, Instr.findNow (.int kd) (.int kk i) es.toList 0 = some res →
        es' = (match res with | some (i', _) => es.eraseIdxIfInBounds i' | none => es) → Goes P o a us w K (.v (.tuple #[])) st st' S' := by
      intro cs' es' e hr' kk i hk res hf hes
      subst e
      obtain ⟨g1, g2⟩ := good_putO (ob := .map es' clock) hG hc hs (by simp) (not_size_map hh) (cs' := mapHd :: cs') (fun K' hu hk => .ofObj (.inr ⟨es', clock, putO_at hlt, rfl⟩) (.cons rel_mapHd (hr'.mono hu hk)))
      intro next Q hn
      unfold Oper.wp
      have hrun2 : (execOp a.eval o).run P w = .ok (.value (.tuple #[])) (putO w c (.map es' clock)) := by
        have : (Builtin.delete_ c0.argTypes o.type #[a.eval m, a.eval k]).run P w = .ok (.tuple #[]) (putO w c (.map es' clock)) := by
          unfold Builtin.delete_
          cases res with
          | none =>
            simp only at hes
            simp [h0, run_underlying ht, hx, hget, hk, checkKey_run (P := P) (w := w) hkd, findKey_run (P := P) (w := w) hkd hf, hset, hes]
          | some p =>
            obtain ⟨i', v'⟩ := p
            simp only at hes
            simp [h0, run_underlying ht, hx, hget, hk, checkKey_run (P := P) (w := w) hkd, findKey_run (P := P) (w := w) hkd hf, hset, hes]
        simp [execOp, ho, resolve, hb, ha', invoke, builtin, this]
      rw [hrun2]
      exact hn _ us _ K (.v K _ rfl) g2 g1 (.sameK _ _ _)
    split at hv
    · rename_i n v hf
      simp only [Option.some.injEq] at hv
      obtain ⟨kk, i, hk, _, hf⟩ := findIn_inv hf (aval_rel hE k)
      rcases findKV_spec (kd := kd) es.toList kvs 0 0 _ hr hf with ⟨h, _⟩ | ⟨d, v', hd, g1, g2, g3, g4⟩
      · simp at h
      · simp only [Option.some.injEq, Prod.mk.injEq, Nat.zero_add] at g1 g2
        obtain ⟨rfl, rfl⟩ := g1
        have hd' : d < es.size := by simpa using hd
        refine key (kvs.take (2 * d) ++ kvs.drop (2 * d + 2)) (es.eraseIdxIfInBounds d) hv.symm ?_ kk i hk _ g2 rfl
        have e : entryVals (es.eraseIdxIfInBounds d) = (evals es.toList).take (2 * d) ++ (evals es.toList).drop (2 * d + 2) := by
          show evals (es.eraseIdxIfInBounds d).toList = _
          rw [evals_take, show 2 * d + 2 = 2 * (d + 1) by omega, evals_drop, ← evals_append]
          congr 1
          rw [Array.eraseIdxIfInBounds, dif_pos hd', Array.toList_eraseIdx, List.eraseIdx_eq_take_drop_succ]
        rw [e]
        exact (Rels.take hr _).append (Rels.drop hr _)
    · rename_i hf
      simp only [Option.some.injEq] at hv
      obtain ⟨kk, i, hk, _, hf⟩ := findIn_inv hf (aval_rel hE k)
      rcases findKV_spec (kd := kd) es.toList kvs 0 0 _ hr hf with ⟨_, g2⟩ | ⟨d, v', hd, g1, _⟩
      · refine key kvs es ?_ hr kk i hk _ g2 rfl
        rw [← hv]
        have : S.store.set l (mapHd :: kvs) = S.store := by
          obtain ⟨hl, e⟩ := List.getElem?_eq_some_iff.1 hs
          show S.store.set l (.tup [] :: kvs) = S.store
          rw [← e]; exact List.set_getElem_self hl
        rw [this]
      · simp at g1
    · simp at hv
  · simp at hv

theorem rt_mapLen {m : Operand} {c0 : Call} {kt et : TypeId} (ho : o.op = .call c0) (hb : c0.callee = .builtin .len) (ha : c0.args.toList = [m]) (hty : (c0.argTypes[0]?).bind P.underlying = some (.map kt et)) (hE : EnvRel us w K env a) (hG : Good us w K S)
    (hv : mapLenAV S (aval env m) = some r) : RunsTo P (execOp a.eval o) us w K S r := by
  have ha' : c0.args = #[m] := by rw [← Array.toArray_toList (xs := c0.args), ha]
  obtain ⟨t0, h0, ht⟩ : ∃ t0, c0.argTypes[0]? = some t0 ∧ P.underlying t0 = some (.map kt et) := by
    cases h0 : c0.argTypes[0]? with
    | none => simp [h0] at hty
    | some t0 => exact ⟨t0, rfl, by simpa [h0] using hty⟩
  unfold mapLenAV at hv
  split at hv
  · rename_i l kvs hm
    obtain ⟨c, es, clock, _, hc, hx, hs, hh, hr⟩ := mapCells_inv hm hG (aval_rel hE m)
    have hget : (getObj c).run P w = .ok (.map es clock) w := by simp [getObj, Sem.run, hh]
    simp only [Option.some.injEq] at hv
    subst hv
    have hl : kvs.length / 2 = es.size := by
      have h1 := hr.len
      have h2 := evals_len es.toList
      have h3 : (entryVals es).length = 2 * es.size := by rw [← Array.length_toList]; exact h2
      omega
    rw [hl]
    refine .same hG (x := .int .i64 es.size) ?_ (.v K _ rfl)
    simp [execOp, ho, resolve, hb, ha', invoke, builtin, Builtin.len_, h0, run_underlying ht, hx, hget, goInt]
  · simp at hv

theorem rt_mapClear {m : Operand} {c0 : Call} {t0 kt et : TypeId} (ho : o.op = .call c0) (hb : c0.callee = .builtin .clear) (ha' : c0.args = #[m]) (h0 : c0.argTypes[0]? = some t0) (ht : P.underlying t0 = some (.map kt et)) (hE : EnvRel us w K env a) (hG : Good us w K S)
    (hv : mapClearAV S (aval env m) = some S') : Goes P o a us w K (.v (.tuple #[])) st st' S' := by
  unfold mapClearAV at hv
  split at hv
  · rename_i l kvs hm
    obtain ⟨c, es, clock, _, hc, hx, hs, hh, hr⟩ := mapCells_inv hm hG (aval_rel hE m)
    have hlt : c < w.heap.size := (Array.getElem?_eq_some_iff.1 hh).1
    have hget : (getObj c).run P w = .ok (.map es clock) w := by simp [getObj, Sem.run, hh]
    have hset : ∀ ob, (setObj c ob).run P w = .ok () (putO w c ob) := fun ob => by simp [setObj, Sem.run, hh, putO]
    simp only [Option.some.injEq] at hv
    subst hv
    obtain ⟨g1, g2⟩ := good_putO (ob := .map #[] clock) hG hc hs (by simp) (not_size_map hh) (cs' := [mapHd]) (fun K' hu hk => .ofObj (.inr ⟨#[], clock, putO_at hlt, rfl⟩) (.cons rel_mapHd .nil))
    intro next Q hn
    unfold Oper.wp
    have hrun2 : (execOp a.eval o).run P w = .ok (.value (.tuple #[])) (putO w c (.map #[] clock)) := by
      have : (Builtin.clear_ c0.argTypes o.type #[a.eval m]).run P w = .ok (.tuple #[]) (putO w c (.map #[] clock)) := by
        unfold Builtin.clear_
        simp [h0, run_underlying ht, hx, hget, hset]
      simp [execOp, ho, resolve, hb, ha', invoke, builtin, this]
    rw [hrun2]
    exact hn _ us _ K (.v K _ rfl) g2 g1 (.sameK _ _ _)
  · simp at hv
end
end Go.Ev

namespace Go.Ev
open Go

def usesS (k : IK) : Bool := (uses k).testBit 0
def usesT (k : IK) : Bool := (uses k).testBit 1
def turnsS (k : IK) : Bool := (turns k).testBit 0
def turnsT (k : IK) : Bool := (turns k).testBit 1

/-- The state in which an operation is carried out (S, then S'), beside the one in which it stands in the text (st, then st'). -/
structure Compat (k : IK) (st st' S S' : St) (K : Kx) : Prop where
  s1 : turnsS k = true → S.store = st.store ∧ S'.store = st'.store
  s2 : turnsS k = false → S'.store = S.store
  s3 : turnsS k = false → usesS k = true → ∃ rest, S.store = st'.store ++ rest
  t1 : turnsT k = true → S.tips = st.tips ∧ S'.tips = st'.tips
  t2 : turnsT k = false → S'.tips = S.tips
  t3 : turnsT k = false → usesT k = true → ∃ rest, S.tips = st'.tips ++ rest
  freeL : ∀ l, st.store.length ≤ l → l < st'.store.length → K.lm l = none
  freeT : ∀ t, st.tips.length ≤ t → t < st'.tips.length → K.tk t = none

theorem St.eta (S : St) : S = ⟨S.store, S.tips⟩ := rfl
theorem St.ext' {S S' : St} (h : S'.store = S.store) (h' : S'.tips = S.tips) : S' = S := by cases S; cases S'; simp_all

/-- The tables that package variables hold. -/
def GlobOk (G : Nat → List Nat) (us : Us) (w : World) : Prop := ∀ g, G g ≠ [] → Rel us w .nil (.eptr (bytesAV (G g)) 0) (.pointer (some ⟨g, 0, none⟩))
theorem GlobOk.mono {G us w us' w'} (h : GlobOk G us w) (hu : UsLe us w us' w') : GlobOk G us' w' := fun g hg => (h g hg).mono hu (.nil _ _ _ _ _)

/-- What the callees of a function have been shown to do. -/
def CallOk (P : Program) (G : Nat → List Nat) (pure : FuncId → Bool) (call : CallF) : Prop :=
  ∀ f args st r st', call f args st = some (r, st') → ∀ us w K S S' (vs : Array Value), Good us w K S → GlobOk G us w →
    (if pure f = true then st'.store = st.store ∧ S' = S ∧ (∃ rest, S.tips = st'.tips ++ rest) ∧ (∀ t, st.tips.length ≤ t → t < st'.tips.length → K.tk t = none) else S = st ∧ S' = st') →
    Rels us w K args vs.toList →
    (∃ fn, P.funcs[f]? = some fn ∧ fn.body.isSome = true ∧ fn.name ≠ "runtime.NumGoroutine") ∧
    Calls P f vs w fun e w' => ∃ x us' K', e = .returned x ∧ Rel us' w' K' r x ∧ Ext us w K us' w' K' ∧ Good us' w' K' S' ∧ Fresh st st' K K' ∧ (pure f = true → ∀ c, c < w.heap.size → w'.heap[c]? = w.heap[c]?)

/-! ## What a call leaves that lays new blocks alone -/
section
variable {us : Us} {w w' : World} {K : Kx} {st : St}
theorem usLe_below (hG : Good us w K st) (hb : RowKit.Below w.heap.size w w') : UsLe us w us w' := fun c n hc =>
  ⟨n, hc, Nat.le_refl _, fun i _ => hb.cell (p := ⟨c, i, none⟩) (hG.uslt c n hc)⟩
theorem size_below (hb : RowKit.Below w.heap.size w w') {c n : Nat} (h : SizeAt w c n) : SizeAt w' c n := by
  obtain ⟨cur, ty, h1, h2⟩ := h
  exact ⟨cur, ty, (hb.block c (Array.getElem?_eq_some_iff.1 h1).1).trans h1, h2⟩
theorem kLe_below (hG : Good us w K st) (hb : RowKit.Below w.heap.size w w') (K' : Kx) (hT : K'.T = K.T) (htk : K'.tk = K.tk) (hlm : ∀ l c, K.lm l = some c → K'.lm l = some c) : KLe us w K us w' K' :=
  ⟨fun l c h => ⟨hlm l c h, fun _ h => size_below hb h⟩, fun t m hm => ⟨m, by rw [hT]; exact hm, Nat.le_refl _, fun _ c hc => ⟨by rw [htk]; exact hc, rfl, fun _ h => size_below hb h⟩⟩⟩
theorem ext_below (hG : Good us w K st) (hb : RowKit.Below w.heap.size w w') (K' : Kx) (hT : K'.T = K.T) (htk : K'.tk = K.tk) (hlm : ∀ l c, K.lm l = some c → K'.lm l = some c) (hnew : ∀ l c, K'.lm l = some c → (∃ l0, K.lm l0 = some c) ∨ w.heap.size ≤ c) : Ext us w K us w' K' where
  os := hb.os
  tape := hb.tape
  output := hb.output
  size := hb.size
  sz := fun _ _ h => size_below hb h
  usle := usLe_below hG hb
  kle := kLe_below hG hb K' hT htk hlm
  frame := fun c hc _ _ => ⟨hb.block c hc, rfl⟩
  usNone := fun _ _ h _ => h
  lmNew := hnew
  tkNew := fun t c h => .inl (by rw [← htk]; exact h)
theorem good_below (hG : Good us w K st) (hb : RowKit.Below w.heap.size w w') : Good us w' K st :=
  ⟨hG.T, hG.lmlt, fun l c cs h hs => (hG.blk l c cs h hs).mono (usLe_below hG hb) (kLe_below hG hb K rfl rfl (fun _ _ h => h)) (hb.block c (hG.lmltH h)), hG.inj, hG.tkinj, hG.tklt, hG.tkus, fun c n h => Nat.lt_of_lt_of_le (hG.uslt c n h) hb.size, hG.disj, hG.lmtk⟩
theorem plainR_rel {us1 : Us} {w1 w2 : World} {K1 : Kx} {r : AV} {x : Value} (hp : plainR r = true) (h : Rel us1 w1 K1 r x) : Rel us w2 K r x := by
  cases h with
  | v K x h => exact .v _ _ h
  | tup K cs vs hl hr =>
    refine .tup _ _ _ hl (fun i h h' => ?_)
    have h1 := hr i h h'
    have h2 := (List.all_eq_true.1 hp) cs[i] (List.getElem_mem h)
    generalize cs[i] = c at *
    cases c <;> simp only [Bool.false_eq_true] at h2
    cases h1 with
    | v K x h => exact .v _ _ h
  | _ => simp [plainR] at hp
end

section
variable {P : Program} {G : Nat → List Nat} {pure : FuncId → Bool} {call : CallF} {us : Us} {w : World} {K : Kx} {st st' S S' : St}
variable {o : Oper} {env : Env} {a : Act} {r : AV}

theorem opAV_val {k : IK} (hk : isVal k = true) (h : opAV pure call env st k = some (r, st')) : valAV env k = some r ∧ st' = st := by
  cases k <;> simp only [isVal, Bool.false_eq_true] at hk <;> simp only [opAV, only] at h <;>
    (split at h
     · rename_i x hx; simp only [Option.some.injEq, Prod.mk.injEq] at h; obtain ⟨rfl, rfl⟩ := h; exact ⟨hx, rfl⟩
     · simp at h)

theorem val_class {k : IK} (hk : isVal k = true) : turns k = 0 ∧ uses k = 0 := by cases k <;> simp_all [isVal, turns, uses]

theorem goes_val {k : IK} (hk : isVal k = true) (hcp : Compat k st st' S S' K) (h : RunsTo P (execOp a.eval o) us w K S r) : Goes P o a us w K r st st' S' := by
  have hc := val_class hk
  have e1 := hcp.s2 (by simp [turnsS, hc.1])
  have e2 := hcp.t2 (by simp [turnsT, hc.1])
  rw [St.ext' e1 e2]
  exact h.goes

theorem valsound {pv rs : Bool} {mt : Mode} {k : IK} (hgl : GlobOk mt.2.2.2 us w) (hc : compOp P pure pv rs mt o.op = some k) (hk : isVal k = true) (hE : EnvRel us w K env a) (hG : Good us w K S) (hv : valAV env k = some r) : RunsTo P (execOp a.eval o) us w K S r := by
  cases hop : o.op <;> simp only [hop, compOp, reduceCtorEq] at hc
  case panic x => simp only [Option.some.injEq] at hc; subst hc; simp [valAV] at hv
  case move x => simp only [Option.some.injEq] at hc; subst hc; simp only [valAV, Option.some.injEq] at hv; subst hv; exact rt_move (.inl hop) hE hG
  case assign x => simp only [Option.some.injEq] at hc; subst hc; simp only [valAV, Option.some.injEq] at hv; subst hv; exact rt_move (.inr hop) hE hG
  case pick x y z => simp only [Option.some.injEq] at hc; subst hc; exact rt_pick hop hE hG hv
  case alloc t =>
    cases hz : zeroT P t with
    | none => simp [hz] at hc
    | some z => simp only [hz, Option.bind_some] at hc; split at hc <;> simp at hc; subst hc; simp [isVal] at hk
  case box t x => simp only [Option.some.injEq] at hc; subst hc; simp [isVal] at hk
  case build t ps =>
    split at hc
    · rename_i zero fs hz ht
      split at hc
      · next hzp =>
        split at hc
        · next hall =>
          cases hps : (ps.toList.mapM fun (p : Nat × Operand) => (fs[p.1]?).bind fun (f : Field) => (sizeT P f.type).map fun s => (f.offset, s, p.2)) with
          | none => simp [hps] at hc
          | some ps' =>
            simp only [hps, Option.map_some, Option.some.injEq] at hc
            subst hc
            exact rt_build_struct hop hz hzp ht hall hps hE hG hv
        · simp at hc
      · simp at hc
    · rename_i zero n e hz ht
      split at hc
      · next hzp =>
        cases hs : sizeT P e with
        | none => simp [hs] at hc
        | some s =>
          simp only [hs, Option.map_some, Option.some.injEq] at hc
          subst hc
          exact rt_build_array hop hz hzp ht hs hE hG hv
      · simp at hc
    · simp at hc
  case buildSlice t n ps =>
    split at hc
    · rename_i e ht
      split at hc
      · rename_i z ag zero hz hag hzero
        split at hc
        · next hcond =>
          simp only [Bool.and_eq_true, decide_eq_true_eq] at hcond
          split at hc
          · simp only [Option.some.injEq] at hc
            subst hc
            simp [isVal] at hk
          · simp only [Option.some.injEq] at hc
            subst hc
            exact rt_lit hop ht hz hzero hcond.1.1 hcond.1.2 hE hG hv
        · simp at hc
      · simp at hc
    · simp at hc
  case load t x =>
    split at hc <;> simp at hc
    subst hc; simp [isVal] at hk
  case store t x y =>
    cases hs : sizeT P t with
    | none => simp [hs] at hc
    | some s => simp only [hs, Option.bind_some] at hc; split at hc <;> simp at hc; subst hc; simp [isVal] at hk
  case nilCheck x => simp only [Option.some.injEq] at hc; subst hc; exact rt_nil hop hE hG hv
  case binOp op t x y ty => simp only [Option.some.injEq] at hc; subst hc; exact rt_bin hop hE hG hv
  case unOp op t x =>
    cases op <;> simp only [compOp, Option.some.injEq, reduceCtorEq] at hc <;> subst hc
    · exact rt_neg hop hE hG hv
    · exact rt_compl hop hE hG hv
    · exact rt_not hop hE hG hv
  case convert s d x =>
    split at hc
    · rename_i sd k' hs hd
      simp only [Option.some.injEq] at hc; subst hc
      exact rt_conv hop hs hd hE hG hv
    · rename_i e hs hd
      split at hc
      · next hB => simp only [Option.some.injEq] at hc; subst hc; exact rt_toBytes hop hs hd hB hE hG hv
      · simp at hc
    · rename_i e hs hd
      split at hc
      · next hB => simp only [Option.some.injEq] at hc; subst hc; exact rt_toStr hop hs hd hB hE hG hv
      · simp at hc
    · simp at hc
  case makeInterface t x =>
    split at hc
    · simp at hc
    · rename_i d hni hd
      simp only [Option.some.injEq] at hc; subst hc
      simp only [valAV, Option.some.injEq] at hv; subst hv
      exact rt_iface hop hd (fun ms h => hni ms h) hE hG
    · simp at hc
  case makeFunc f x y => simp only [Option.some.injEq] at hc; subst hc; simp only [valAV, Option.some.injEq] at hv; subst hv; exact rt_func hop hE hG
  case makeSlice t l c =>
    split at hc
    · split at hc
      · split at hc <;> simp at hc
        subst hc; simp [isVal] at hk
      · simp at hc
    · simp at hc
  case slice t x lo hi mx =>
    split at hc
    · rename_i e ht
      cases hz : sizeT P e with
      | none => simp [hz] at hc
      | some z => simp only [hz, Option.map_some, Option.some.injEq] at hc; subst hc; exact rt_slice hop ht hz hE hG hv
    · rename_i n e ht
      split at hc
      · rename_i z ag hz hag
        simp only [Option.some.injEq] at hc; subst hc
        exact rt_slicea hop ht hz hE hG hv
      · simp at hc
    · rename_i ht
      split at hc
      · simp only [Option.some.injEq] at hc; subst hc; exact rt_sliceStr hop ht hE hG hv
      · simp at hc
    · simp at hc
  case fieldAddr t x f =>
    split at hc
    · rename_i fs ht
      split at hc
      · rename_i fd hf
        split at hc
        · next hs => simp only [Option.some.injEq] at hc; subst hc; exact rt_fieldAddr hop ht hf hs hE hG hv
        · simp at hc
      · simp at hc
    · simp at hc
  case field t x f =>
    split at hc
    · rename_i fs ht
      split at hc
      · rename_i fd hf
        split at hc
        · rename_i s ag hs hag
          simp only [Option.some.injEq] at hc; subst hc; exact rt_field hop ht hf hs hag hE hG hv
        · simp at hc
      · simp at hc
    · simp at hc
  case indexAddr t x i =>
    split at hc
    · rename_i e ht
      cases hz : sizeT P e with
      | none => simp [hz] at hc
      | some z => simp only [hz, Option.map_some, Option.some.injEq] at hc; subst hc; exact rt_indexS hop ht hz hE hG hv
    · rename_i n e ht
      cases hz : sizeT P e with
      | none => split at hc <;> simp [hz] at hc
      | some z =>
        split at hc
        · rename_i g
          simp only [hz, Option.bind_some] at hc
          split at hc
          · next hg =>
            simp only [Option.some.injEq] at hc; subst hc
            exact rt_indexG hop ht hz hE hG (hgl g hg) hv
          · simp at hc
        · simp only [hz, Option.map_some, Option.some.injEq] at hc; subst hc; exact rt_indexA hop ht hz hE hG hv
    · simp at hc
  case index t x i =>
    split at hc
    · rename_i n e ht
      split at hc
      · rename_i z ag hz hag
        simp only [Option.some.injEq] at hc; subst hc; exact rt_indexV hop ht hz hag hE hG hv
      · simp at hc
    · rename_i ht
      simp only [Option.some.injEq] at hc; subst hc; exact rt_indexStr hop ht hE hG hv
    · simp at hc
  case typeAssert x xt t ok =>
    split at hc
    · simp at hc
    · rename_i d hni hd
      cases hz : zeroT P t with
      | none => simp [hz] at hc
      | some z => simp only [hz, Option.map_some, Option.some.injEq] at hc; subst hc; exact rt_assert hop hd (fun ms h => hni ms h) hz hE hG hv
    · simp at hc
  case extract x i => simp only [Option.some.injEq] at hc; subst hc; exact rt_extract hop hE hG hv
  case range t x =>
    split at hc
    · simp only [Option.some.injEq] at hc; subst hc; simp [isVal] at hk
    · simp at hc
  case next x s =>
    split at hc
    · simp only [Option.some.injEq] at hc; subst hc; simp [isVal] at hk
    · simp at hc
  case makeMap t rv =>
    cases rv <;> simp only [compOp, reduceCtorEq] at hc
    split at hc
    · split at hc
      · simp only [Option.some.injEq] at hc; subst hc; simp [isVal] at hk
      · simp at hc
    · simp at hc
  case mapUpdate t m k x =>
    split at hc
    · split at hc
      · simp only [Option.some.injEq] at hc; subst hc; simp [isVal] at hk
      · simp at hc
    · simp at hc
  case lookup t m k ok =>
    split at hc
    · split at hc
      · simp only [Option.map_eq_some_iff] at hc
        obtain ⟨_, _, rfl⟩ := hc
        simp [isVal] at hk
      · simp at hc
    · simp at hc
  case call c =>
    split at hc
    · rename_i x hb ha
      split at hc
      · rename_i e ht
        simp only [Option.some.injEq] at hc; subst hc; exact rt_len (t := 0) hop hb ha ht hE hG hv rfl
      · rename_i ht
        simp only [Option.some.injEq] at hc; subst hc; exact rt_lenStr hop hb ha ht hE hG hv
      · simp only [Option.some.injEq] at hc; subst hc; simp [isVal] at hk
      · simp at hc
    · split at hc
      · split at hc <;> simp at hc
        subst hc; simp [isVal] at hk
      · simp at hc
    · rename_i x hb ha
      split at hc
      · rename_i e ht
        simp only [Option.some.injEq] at hc; subst hc; exact rt_cap hop hb ha ht hE hG hv
      · simp at hc
    · split at hc
      · split at hc
        · split at hc <;> simp at hc
          subst hc; simp [isVal] at hk
        · simp at hc
      · simp only [Option.some.injEq] at hc; subst hc; simp [isVal] at hk
      · simp at hc
    · split at hc
      · rename_i e ht
        cases hz : sizeT P e with
        | none => simp [hz] at hc
        | some z =>
          simp only [hz, Option.bind_some] at hc
          split at hc <;> simp at hc
          subst hc; simp [isVal] at hk
      · simp at hc
    · simp only [Option.some.injEq] at hc; subst hc; simp [isVal] at hk
    · rename_i x y hb ha
      simp only [Option.some.injEq] at hc; subst hc; exact rt_min hop hb ha hE hG hv
    · rename_i x y hb ha
      simp only [Option.some.injEq] at hc; subst hc; exact rt_max hop hb ha hE hG hv
    · rename_i x y z hb ha
      simp only [Option.some.injEq] at hc; subst hc; exact rt_min3 hop hb ha hE hG hv
    · split at hc
      · split at hc
        · split at hc <;> simp at hc
          subst hc; cases h : mt.1 <;> simp [isVal, h] at hk
        · split at hc
          · simp only [Option.some.injEq] at hc; subst hc; simp [isVal] at hk
          · simp at hc
        · simp at hc
      · simp at hc
    · rename_i f hf
      simp only [Option.some.injEq] at hc; subst hc; cases h : mt.2.1.contains f <;> cases h3 : mt.2.1.contains (f + 1000000) <;> cases h4 : mt.2.1.contains (f + 2000000) <;> cases h2 : pure f <;> simp only [h, h2, h3, h4, if_true, Bool.false_eq_true, if_false, Bool.and_true, Bool.and_false, Bool.true_and, Bool.false_and, Bool.not_true, Bool.not_false, isVal] at hk
    · simp only [Option.some.injEq] at hc; subst hc; simp [isVal] at hk
    · simp at hc

/-! ### calls -/

theorem goes_call {f : FuncId} {args : List AV} {vs : Array Value} (hcall : CallOk P G pure call) (hv : call f args st = some (r, st')) (hG : Good us w K S) (hgl : GlobOk G us w)
    (hcp : if pure f = true then st'.store = st.store ∧ S' = S ∧ (∃ rest, S.tips = st'.tips ++ rest) ∧ (∀ t, st.tips.length ≤ t → t < st'.tips.length → K.tk t = none) else S = st ∧ S' = st')
    (hr : Rels us w K args vs.toList) (hrun : (∃ fn, P.funcs[f]? = some fn ∧ fn.body.isSome = true ∧ fn.name ≠ "runtime.NumGoroutine") → (execOp a.eval o).run P w = .ok (.enter f vs) w) : Goes P o a us w K r st st' S' := by
  obtain ⟨hfn, hc⟩ := hcall f args st r st' hv us w K S S' vs hG hgl hcp hr
  intro next Q hn
  unfold Oper.wp
  rw [hrun hfn]
  refine hc.mono fun e w' h => ?_
  obtain ⟨x, us', K', rfl, h1, h2, h3, h4, _⟩ := h
  exact hn x us' w' K' h1 h2 h3 h4

theorem run_callFunc {f : FuncId} {vs : Array Value} (h : ∃ fn, P.funcs[f]? = some fn ∧ fn.body.isSome = true ∧ fn.name ≠ "runtime.NumGoroutine") : (callFunc f vs).run P w = .ok (.enter f vs) w := by
  obtain ⟨fn, h1, h2, h3⟩ := h
  obtain ⟨b, hb⟩ := Option.isSome_iff_exists.1 h2
  simp [callFunc, h1, h3, hb]

/-- A call to which slices go that are lists from then on. -/
theorem goes_callz {f : FuncId} {ls : List Nat} {as : List AV} {vs : Array Value} {st2 : St} (hcall : CallOk P G pure call) (hcs : ∀ f args st r st', call f args st = some (r, st') → pure f = true → st'.store = st.store) (hv : call f (frzArgs ls as st).1 (frzArgs ls as st).2 = some (r, st2)) (hp : pure f = true) (htip : st2.tips = (frzArgs ls as st).2.tips) (hG : Good us w K st) (hgl : GlobOk G us w)
    (hr : Rels us w K as vs.toList) (hrun : (∃ fn, P.funcs[f]? = some fn ∧ fn.body.isSome = true ∧ fn.name ≠ "runtime.NumGoroutine") → (execOp a.eval o).run P w = .ok (.enter f vs) w) : Goes P o a us w K r st (frzArgs ls as st).2 (frzArgs ls as st).2 := by
  obtain ⟨us1, h1, h2, h3, h4, h5⟩ := frzArgs_good ls hG hr
  have hst := hcs f _ _ _ _ hv hp
  obtain ⟨hfn, hc⟩ := hcall f _ _ r st2 hv us1 w K _ _ vs h1 (hgl.mono h3.usle) (by rw [if_pos hp]; exact ⟨hst, rfl, ⟨[], by rw [htip]; simp⟩, fun t h h' => by rw [htip] at h'; omega⟩) h2
  intro next Q hn
  unfold Oper.wp
  rw [hrun hfn]
  refine hc.mono fun e w' h => ?_
  obtain ⟨x, us', K', rfl, k1, k2, k3, k4, _⟩ := h
  refine hn x us' w' K' k1 (h3.trans k2) k3 ⟨fun l c h => ?_, fun t h => ?_⟩
  · rcases k4.lm l c h with e | e
    · exact .inl e
    · rw [hst] at e; omega
  · rcases k4.tk t h with e | e
    · exact .inl e
    · rw [htip] at e; omega

/-- A call to which slices go as lists, and that answers what hangs on no memory: they may be written again. -/
theorem goes_callr {f : FuncId} {ls : List Nat} {as : List AV} {vs : Array Value} {st2 : St} (hcall : CallOk P G pure call) (hcs : ∀ f args st r st', call f args st = some (r, st') → pure f = true → st'.store = st.store) (hv : call f (frzArgs ls as st).1 (frzArgs ls as st).2 = some (r, st2)) (hp : pure f = true) (htip : st2.tips = (frzArgs ls as st).2.tips) (hpl : plainR r = true) (hG : Good us w K st) (hgl : GlobOk G us w)
    (hr : Rels us w K as vs.toList) (hrun : (∃ fn, P.funcs[f]? = some fn ∧ fn.body.isSome = true ∧ fn.name ≠ "runtime.NumGoroutine") → (execOp a.eval o).run P w = .ok (.enter f vs) w) : Goes P o a us w K r st st st := by
  obtain ⟨us1, h1, h2, h3, h4, h5⟩ := frzArgs_good ls hG hr
  have hst := hcs f _ _ _ _ hv hp
  obtain ⟨hfn, hc⟩ := hcall f _ _ r st2 hv us1 w K _ _ vs h1 (hgl.mono h3.usle) (by rw [if_pos hp]; exact ⟨hst, rfl, ⟨[], by rw [htip]; simp⟩, fun t h h' => by rw [htip] at h'; omega⟩) h2
  intro next Q hn
  unfold Oper.wp
  rw [hrun hfn]
  refine hc.mono fun e w' h => ?_
  obtain ⟨x, us', K', rfl, k1, k2, k3, k4, k5⟩ := h
  have hb : RowKit.Below w.heap.size w w' := ⟨k2.os, k2.tape, k2.output, k2.size, fun c hc => k5 hp c hc⟩
  exact hn x us w' K (plainR_rel hpl k1) (ext_below hG hb K rfl rfl (fun _ _ h => h) (fun l c h => .inl ⟨l, h⟩)) (good_below hG hb) ⟨fun _ _ h => .inl h, fun _ h => .inl h⟩

theorem findT_mem {t : TypeId} {f : FuncId} : ∀ {tab : List (TypeId × FuncId)}, findT t tab = some f → (t, f) ∈ tab
  | [], h => by simp [findT] at h
  | (u, g) :: r, h => by
    simp only [findT] at h
    split at h
    · next e => subst e; simp only [Option.some.injEq] at h; subst h; simp
    · exact List.mem_cons_of_mem _ (findT_mem h)
theorem invoke_run {c : Call} {x : Operand} {name : String} {t : TypeId} {v : Value} {f : FuncId} (ho : o.op = .call c) (hc : c.callee = .invoke x name) (hx : a.eval x = .iface t v) (hm : findT t (invokeTab P name) = some f)
    (hfn : ∃ fn, P.funcs[f]? = some fn ∧ fn.body.isSome = true ∧ fn.name ≠ "runtime.NumGoroutine") : (execOp a.eval o).run P w = .ok (.enter f (#[v] ++ c.args.map a.eval)) w := by
  have h1 := findT_mem hm
  unfold invokeTab at h1
  obtain ⟨u, _, h2⟩ := List.mem_filterMap.1 h1
  obtain ⟨g, h3, h4⟩ := Option.map_eq_some_iff.1 h2
  simp only [Prod.mk.injEq] at h4
  obtain ⟨rfl, rfl⟩ := h4
  unfold methodOf? at h3
  split at h3
  · rename_i d i hu hi
    split at h3
    · rename_i m hfind
      split at h3
      · next hpath =>
        split at h3
        · rename_i g' hf
          simp only [Option.some.injEq] at h3; subst h3
          have hp : m.path = #[] := by simpa using hpath
          have hmeth : ∀ n, (method (n + 1) u v name).run P w = .ok (g', v) w := by
            intro n
            simp only [method, typeInfo]
            simp [hi, hfind, hp, follow, hf, receiverAt, run_underlying hu, Place.get]
          have hfuel : ∃ n, P.types.size + Made.depth = n + 1 := ⟨P.types.size + 99, rfl⟩
          obtain ⟨n, hfuel⟩ := hfuel
          have he : (#[Value.iface u v] ++ c.args.map a.eval).extract 1 (#[Value.iface u v] ++ c.args.map a.eval).size = c.args.map a.eval := by
            apply Array.ext'
            simp [List.take_of_length_le]
          have h0 : (#[Value.iface u v] ++ c.args.map a.eval)[0]? = some (Value.iface u v) := by
            rw [Array.getElem?_append_left (by simp)]; rfl
          have hcm : (callMethod (.iface u v) name (c.args.map a.eval)).run P w = .ok (.enter g' (#[v] ++ c.args.map a.eval)) w := by
            simp [callMethod, hfuel, hmeth, run_callFunc hfn]
          have hin : (invoke (.fn (.method name) #[]) (#[Value.iface u v] ++ c.args.map a.eval)).run P w = .ok (.enter g' (#[v] ++ c.args.map a.eval)) w := by
            simp only [invoke, h0, he]
            exact hcm
          simp only [execOp, ho, resolve, hc, hx]
          simp [hin]
        · simp at h3
      · simp at h3
    · simp at h3
  · simp at h3

/-- The slice that a callee has laid is a list from then on. -/
theorem lock_ok {w1 : World} {us1 : Us} {K1 : Kx} {st1 : St} {r1 : AV} {x : Value} (hX : Ext us w .nil us1 w1 K1) (hG : Good us1 w1 K1 st1) (hr : Rel us1 w1 K1 r1 x) :
    ∃ us2 K2, Ext us w .nil us2 w1 K2 ∧ Good us2 w1 K2 (lockR st1 r1).2 ∧ Rel us2 w1 K2 (lockR st1 r1).1 x := by
  unfold lockR
  split
  · rename_i l n c z a
    split
    · rename_i y cs hs
      split
      · next hc =>
        obtain ⟨h1, h2, rfl⟩ := hc
        obtain ⟨b, cap, hl, rfl, hcap⟩ := hr.rsl_inv
        obtain ⟨cur, ty, g1, g0, g2, g3⟩ := (hG.blk l b _ hl hs).cells (hr.rsl_size hl)
        have hlive := hG.live hl hs (by simp)
        generalize y :: cs = ds at *
        have hnew : w.heap.size ≤ b := by
          rcases hX.lmNew l b hl with ⟨_, h⟩ | h
          · simp [Kx.nil] at h
          · exact h
        have hle := Caps.le hcap
        have hsz : cap * z ≤ cur.size := by
          rcases hcap with e | ⟨_, m, ⟨cur', ty', e1, e2⟩, h⟩
          · subst e; omega
          · rw [g1] at e1
            simp only [Option.some.injEq, Obj.cells.injEq] at e1
            obtain ⟨rfl, _⟩ := e1
            omega
        have hb2 : (us1.new b (n * z)) b = some (n * z) := by simp [Us.new]
        have hne : ∀ c, c ≠ b → (us1.new b (n * z)) c = us1 c := fun c h => by simp [Us.new, h]
        have hu2 : ∀ c m, us1 c = some m → (us1.new b (n * z)) c = some m := fun c m h => by
          have : c ≠ b := by rintro rfl; rw [hlive] at h; simp at h
          rw [hne c this]; exact h
        generalize us1.new b (n * z) = us2 at *
        have hule : UsLe us1 w1 us2 w1 := fun c m h => ⟨m, hu2 c m h, Nat.le_refl _, fun _ _ => rfl⟩
        have hblt : b < w1.heap.size := (Array.getElem?_eq_some_iff.1 g1).1
        have htk : ∀ t c, (if t = 0 then some b else none : Option Nat) = some c → t = 0 ∧ c = b := fun t c h => by
          split at h
          · next e => simp only [Option.some.injEq] at h; exact ⟨e, h.symm⟩
          · simp at h
        refine ⟨us2, ⟨fun _ => none, fun t => if t = 0 then some b else none, [n]⟩, ⟨hX.os, hX.tape, hX.output, hX.size, hX.sz, hX.usle.trans hule, .nil _ _ _ _ _, fun c hc h4 h5 => ?_, fun c hc h4 h5 => ?_, fun l c h => by simp at h, fun t c h => ?_⟩,
          ⟨rfl, fun l c h => by simp at h, fun l c _ h => by simp at h, fun l l' c h => by simp at h, fun t t' c h h' => ?_, fun t c h => ?_, fun t c h => ?_, fun c m h => ?_, fun l c h => by simp at h, fun l t c h => by simp at h⟩, ?_⟩
        · exact ⟨(hX.frame c hc h4 h5).1, (hne c (by omega)).trans (hX.frame c hc h4 h5).2⟩
        · exact (hne c (by omega)).trans (hX.usNone c hc h4 h5)
        · rw [(htk t c h).2]; exact .inr hnew
        · rw [(htk t c h).1, (htk t' c h').1]
        · rw [(htk t c h).1]; simp
        · rw [(htk t c h).2]; exact ⟨_, hb2⟩
        · by_cases e : c = b
          · rw [e]; exact hblt
          · rw [hne c e] at h; exact hG.uslt c m h
        · have hr2 := (g2.pubs).mono hule (KLe.nil _ _ _ _ .nil)
          obtain ⟨q1, q2⟩ := group_rel a z n (pubs ds) (cur.toList.take ds.length) h2 (by rw [pubs_len]; exact h1) hr2
          have hn : (group a z n (pubs ds)).length = n := group_len _ _ _ _
          have hvl : ((cur.toList.take ds.length).take (n * z)).length = n * z := by simp; omega
          have := Rel.lst (us := us2) (w := w1) ⟨fun _ => none, fun t => if t = 0 then some b else none, [n]⟩ (.own 0 n) z (group a z n (pubs ds)) b 0 (n * z) cap ((cur.toList.take ds.length).take (n * z))
            hb2 (by rw [hvl]; omega) (fun i hi => by
              have hi' : i < (cur.toList.take ds.length).length := by rw [hvl] at hi; simp; omega
              have := cellsAt_take g1 ds.length i hi'
              rw [this]
              simp) (fun x hx => g3 x (List.mem_of_mem_take (List.mem_of_mem_take hx))) q2 (by rw [hn]; exact hle) q1.len q1.rel ⟨n, rfl, Nat.le_refl _, fun _ => ⟨rfl, rfl, by rw [hn]; exact hb2, by rw [hn]; exact hle, cur, ty, g1, hsz⟩⟩
          rw [hn] at this
          exact this
      · exact ⟨us1, K1, hX, hG, hr⟩
    · exact ⟨us1, K1, hX, hG, hr⟩
  · exact ⟨us1, K1, hX, hG, hr⟩

theorem goes_callk {f : FuncId} {args : List AV} {vs : Array Value} {r0 r1 : AV} {st0 st1 : St} (hlk : (r1, st1) = (r0, st0) ∨ (r1, st1) = lockR st0 r0) (hcall : CallOk P G pure call) (hv : call f args ⟨[], []⟩ = some (r0, st0)) (hp : pure f = false) (hG : Good us w K S) (hgl : GlobOk G us w) {rest : List (List AV)}
    (hS : S.store = (st.store ++ shStore st.store.length st1.store) ++ rest) (hfree : ∀ l, st.store.length ≤ l → l < (st.store ++ shStore st.store.length st1.store).length → K.lm l = none) {rest2 : List Nat} (hS2 : S.tips = (st.tips ++ keepT st1 r1) ++ rest2) (hfree2 : ∀ t, st.tips.length ≤ t → t < (st.tips ++ keepT st1 r1).length → K.tk t = none)
    (hr : Rels us w .nil args vs.toList) (hrun : (∃ fn, P.funcs[f]? = some fn ∧ fn.body.isSome = true ∧ fn.name ≠ "runtime.NumGoroutine") → (execOp a.eval o).run P w = .ok (.enter f vs) w) :
    Goes P o a us w K (keepR st.store.length st.tips.length st1 r1) st ⟨st.store ++ shStore st.store.length st1.store, st.tips ++ keepT st1 r1⟩ S := by
  have hG0 : Good us w .nil ⟨[], []⟩ := ⟨rfl, fun l c h => by simp [Kx.nil] at h, fun l c _ h => by simp [Kx.nil] at h, fun l l' c h => by simp [Kx.nil] at h, fun l l' c h => by simp [Kx.nil] at h, fun l c h => by simp [Kx.nil] at h, fun l c h => by simp [Kx.nil] at h, hG.uslt, fun l c h => by simp [Kx.nil] at h, fun l t c h => by simp [Kx.nil] at h⟩
  obtain ⟨hfn, hc⟩ := hcall f args ⟨[], []⟩ r0 st0 hv us w .nil ⟨[], []⟩ st0 vs hG0 hgl (by rw [hp]; exact ⟨rfl, rfl⟩) hr
  intro next Q hn
  unfold Oper.wp
  rw [hrun hfn]
  refine hc.mono fun e w' h => ?_
  obtain ⟨x, us', K1, rfl, h1, h2, h3, _⟩ := h
  obtain ⟨us', K1, h2, h3, h1⟩ : ∃ us1 K1, Ext us w .nil us1 w' K1 ∧ Good us1 w' K1 st1 ∧ Rel us1 w' K1 r1 x := by
    rcases hlk with e | e
    · obtain ⟨rfl, rfl⟩ := Prod.mk.inj e
      exact ⟨us', K1, h2, h3, h1⟩
    · have := lock_ok h2 h3 h1
      rw [← e] at this
      exact this
  obtain ⟨k1, k2, k3, k4⟩ := join_ok (N := st.store.length) rfl hG h2 h3 hS hfree
  by_cases hot : ownTop st1 r1 = true
  · cases r1 with
    | lst g z xs =>
      cases g with
      | own t e =>
        have hkT : keepT st1 (.lst (.own t e) z xs) = [e] := by simp only [keepT, hot, if_true]
        have hkR : keepR st.store.length st.tips.length st1 (.lst (.own t e) z xs) = .lst (.own st.tips.length e) z xs := by simp only [keepR, hot, if_true]
        rw [hkT] at hS2 hfree2
        rw [hkT, hkR] at hn
        simp only [ownTop, Bool.and_eq_true, beq_iff_eq] at hot
        cases h1 with
        | lst _ _ _ _ c p m cap vs' hu1 hn1 hc1 h11 hz hcap hl hrr ht =>
          obtain ⟨m', hm', hle, htip⟩ := ht
          rw [h3.T, hot.1] at hm'
          simp only [Option.some.injEq] at hm'
          obtain ⟨t1, t2, t3, t4, t5⟩ := htip (by omega)
          obtain ⟨j1, j2, j3, j4⟩ := join_tip rfl hG h2 h3 k2 k3 k4 t2 t3 hS2 (hfree2 _ (Nat.le_refl _) (by simp))
          refine hn _ us' w' _ (.lst _ _ z xs c p m cap vs' hu1 hn1 hc1 h11 hz hcap hl hrr ?_) j1 j2 j3
          refine ⟨e, ?_, Nat.le_refl _, fun _ => ⟨t1, ?_, t3, t4, t5⟩⟩
          · show K.T[st.tips.length]? = some e
            rw [hG.T, hS2]; simp
          · show (if st.tips.length = st.tips.length then some c else _) = some c
            rw [if_pos rfl]
      | _ => simp [ownTop] at hot
    | _ => simp [ownTop] at hot
  · have hkT : keepT st1 r1 = [] := by
      unfold keepT
      split
      · rw [if_neg hot]
      · rfl
    rw [hkT, List.append_nil] at hn
    by_cases hfu : ∃ z xs, r1 = .lst .full z xs
    · obtain ⟨z, xs, rfl⟩ := hfu
      have hkR : keepR st.store.length st.tips.length st1 (.lst .full z xs) = .lst .full z xs := rfl
      rw [hkR] at hn
      cases h1 with
      | lst _ _ _ _ c p m cap vs' hu1 hn1 hc1 h11 hz hcap hl hrr ht =>
        exact hn _ us' w' (K.join K1 st.store.length st1.store.length) (.lst _ _ z xs c p m cap vs' hu1 hn1 hc1 h11 hz hcap hl hrr ht) k2 k3 k4
    · have hkR : keepR st.store.length st.tips.length st1 r1 = shV st.store.length r1 := by
        unfold keepR
        split
        · rw [if_neg hot]; simp only [shV]
        · next z xs => exact absurd ⟨z, xs, rfl⟩ hfu
        · rfl
      rw [hkR] at hn
      exact hn x us' w' _ (h1.shift k1) k2 k3 k4

theorem pure_compat {f : FuncId} {k : IK} (hst : st'.store = st.store ∨ pure f = false) (hu : uses k = if pure f then 2 else 3) (ht : turns k = if pure f then 0 else 3) (hcp : Compat k st st' S S' K) :
    if pure f = true then st'.store = st.store ∧ S' = S ∧ (∃ rest, S.tips = st'.tips ++ rest) ∧ (∀ t, st.tips.length ≤ t → t < st'.tips.length → K.tk t = none) else S = st ∧ S' = st' := by
  cases hp : pure f with
  | true =>
    simp only [hp, if_true] at hu ht ⊢
    have e1 := hcp.s2 (by simp [turnsS, ht])
    have e2 := hcp.t2 (by simp [turnsT, ht])
    exact ⟨hst.resolve_right (by simp [hp]), St.ext' e1 e2, hcp.t3 (by simp [turnsT, ht]) (by simp [usesT, hu]; decide), hcp.freeT⟩
  | false =>
    simp only [hp, Bool.false_eq_true, if_false] at hu ht ⊢
    have e1 := hcp.s1 (by simp [turnsS, ht])
    have e2 := hcp.t1 (by simp [turnsT, ht]; decide)
    exact ⟨St.ext' e1.1 e2.1, St.ext' e1.2 e2.2⟩

theorem appendmAV_state {z : Nat} {ag : Bool} {s : AV} {ys : List AV} (h : appendmAV z ag s ys st = some (r, st')) (S : St) (hS : S.store = st.store) : appendmAV z ag s ys S = some (r, ⟨st'.store, S.tips⟩) := by
  unfold appendmAV newM at h ⊢
  rw [hS]
  repeat' split at h
  all_goals first
    | (simp only [reduceCtorEq] at h; done)
    | skip
  all_goals
    simp only [Option.some.injEq, Prod.mk.injEq] at h
    obtain ⟨rfl, rfl⟩ := h
    try simp only [*, if_true, if_false, true_and, and_self]
    try (cases S; simp_all)

theorem clearAV_state {z : Nat} {zs : List AV} {x : AV} {st2 : St} (h : clearAV z zs st x = some st2) (S : St) (hS : S.store = st.store) : clearAV z zs S x = some ⟨st2.store, S.tips⟩ := by
  unfold clearAV storeAV at h ⊢
  rw [hS]
  repeat' split at h
  all_goals first
    | (simp only [reduceCtorEq] at h; done)
    | skip
  all_goals
    simp only [Option.some.injEq] at h
    subst h
    try simp only [*, if_true, if_false, true_and, and_self]
    try (cases S; simp_all)
theorem copyAV_state {z : Nat} {ys : List AV} {x : AV} (h : copyAV z st ys x = some (r, st')) (S : St) (hS : S.store = st.store) : copyAV z S ys x = some (r, ⟨st'.store, S.tips⟩) := by
  unfold copyAV at h ⊢
  rw [hS]
  repeat' split at h
  all_goals first
    | (simp only [reduceCtorEq] at h; done)
    | skip
  all_goals
    simp only [Option.some.injEq, Prod.mk.injEq] at h
    obtain ⟨rfl, rfl⟩ := h
    try simp only [*, if_true, if_false, true_and, and_self]
    try (cases S; simp_all)
    try (intro h1 h2; exfalso; omega)

theorem mapCells_state {m : AV} (S : St) (hS : S.store = st.store) : mapCells S m = mapCells st m := by
  unfold mapCells; rw [hS]
theorem mapPutAV_state {m k x : AV} {st2 : St} (h : mapPutAV st m k x = some st2) (S : St) (hS : S.store = st.store) : mapPutAV S m k x = some ⟨st2.store, S.tips⟩ := by
  unfold mapPutAV at h ⊢
  rw [mapCells_state S hS, hS]
  repeat' split at h
  all_goals first
    | (simp only [reduceCtorEq] at h; done)
    | skip
  all_goals
    simp only [Option.some.injEq] at h
    subst h
    try simp only [*, if_true, if_false, true_and, and_self]
theorem mapDelAV_state {m k : AV} {st2 : St} (h : mapDelAV st m k = some st2) (S : St) (hS : S.store = st.store) : mapDelAV S m k = some ⟨st2.store, S.tips⟩ := by
  unfold mapDelAV at h ⊢
  rw [mapCells_state S hS, hS]
  repeat' split at h
  all_goals first
    | (simp only [reduceCtorEq] at h; done)
    | skip
  all_goals
    simp only [Option.some.injEq] at h
    subst h
    try simp only [*, if_true, if_false, true_and, and_self]
    try (cases S; simp_all)
theorem mapClearAV_state {m : AV} {st2 : St} (h : mapClearAV st m = some st2) (S : St) (hS : S.store = st.store) : mapClearAV S m = some ⟨st2.store, S.tips⟩ := by
  unfold mapClearAV at h ⊢
  rw [mapCells_state S hS, hS]
  repeat' split at h
  all_goals first
    | (simp only [reduceCtorEq] at h; done)
    | skip
  all_goals
    simp only [Option.some.injEq] at h
    subst h
    try simp only [*, if_true, if_false, true_and, and_self]
theorem nextAV_state {x : AV} (h : nextAV st x = some (r, st')) (S : St) (hS : S.store = st.store) : nextAV S x = some (r, ⟨st'.store, S.tips⟩) := by
  unfold nextAV at h ⊢
  rw [hS]
  split at h
  · split at h
    · split at h
      · next hc =>
        simp only [Option.some.injEq, Prod.mk.injEq] at h
        obtain ⟨rfl, rfl⟩ := h
        simp only [if_pos hc]
      · next hc =>
        split at h
        · next hc2 =>
          simp only [Option.some.injEq, Prod.mk.injEq] at h
          obtain ⟨rfl, rfl⟩ := h
          simp only [if_neg hc, if_pos hc2]
          cases S; simp_all
        · simp at h
    · simp at h
  · simp at h
theorem mapCells_prefix {m : AV} {l : Nat} {kvs : List AV} {rest : List (List AV)} (h : mapCells st m = some (l, kvs)) (hp : S.store = st.store ++ rest) : mapCells S m = some (l, kvs) := by
  unfold mapCells at h ⊢
  split at h
  · rename_i l'
    split at h
    · rename_i kvs' hs
      have : S.store[l']? = some (.tup [] :: kvs') := by rw [hp, List.getElem?_append_left (List.getElem?_eq_some_iff.1 hs).1]; exact hs
      simp only [this]; exact h
    · simp at h
  · simp at h
theorem mapGetAV_prefix {zero m k : AV} {ok : Bool} {rest : List (List AV)} (h : mapGetAV zero ok st m k = some r) (hp : S.store = st.store ++ rest) : mapGetAV zero ok S m k = some r := by
  unfold mapGetAV at h ⊢
  split at h
  · rename_i l kvs hm
    rw [mapCells_prefix hm hp]; exact h
  · simp at h
theorem mapLenAV_prefix {m : AV} {rest : List (List AV)} (h : mapLenAV st m = some r) (hp : S.store = st.store ++ rest) : mapLenAV S m = some r := by
  unfold mapLenAV at h ⊢
  split at h
  · rename_i l kvs hm
    rw [mapCells_prefix hm hp]; exact h
  · simp at h

/-- Pure callees leave the store. -/
def CallStore (pure : FuncId → Bool) (call : CallF) : Prop := ∀ f args st r st', call f args st = some (r, st') → pure f = true → st'.store = st.store

theorem op_goes {pv rs : Bool} {mt : Mode} {k : IK} (hc : compOp P pure pv rs mt o.op = some k) (hv : opAV pure call env st k = some (r, st')) (hcall : CallOk P G pure call) (hcs : CallStore pure call) (hgl : GlobOk G us w) (hgm : GlobOk mt.2.2.2 us w) (hE : EnvRel us w K env a) (hG : Good us w K S) (hcp : Compat k st st' S S' K) :
    Goes P o a us w K r st st' S' := by
  by_cases hk : isVal k = true
  · obtain ⟨h1, h2⟩ := opAV_val hk hv
    exact goes_val hk hcp (valsound hgm hc hk hE hG h1)
  · cases hop : o.op <;> simp only [hop, compOp, reduceCtorEq] at hc
    case alloc t =>
      cases hz : zeroT P t with
      | none => simp [hz] at hc
      | some z =>
        simp only [hz, Option.bind_some] at hc
        split at hc
        · next hst =>
          simp only [Option.some.injEq] at hc; subst hc
          simp only [opAV, Option.some.injEq, Prod.mk.injEq] at hv
          obtain ⟨rfl, rfl⟩ := hv
          rw [St.ext' (hcp.s2 (by simp [turnsS, turns])) (hcp.t2 (by simp [turnsT, turns]))]
          obtain ⟨rest, hS⟩ := hcp.s3 (by simp [turnsS, turns]) (by simp [usesS, uses])
          exact rt_alloc hop hz hst hG hS (hcp.freeL _ (Nat.le_refl _) (by simp)) rfl
        · simp at hc
    case box t x =>
      simp only [Option.some.injEq] at hc; subst hc
      simp only [opAV] at hv
      split at hv
      · next hcond =>
        simp only [Option.some.injEq, Prod.mk.injEq] at hv
        obtain ⟨rfl, rfl⟩ := hv
        rw [St.ext' (hcp.s2 (by simp [turnsS, turns])) (hcp.t2 (by simp [turnsT, turns]))]
        obtain ⟨rest, hS⟩ := hcp.s3 (by simp [turnsS, turns]) (by simp [usesS, uses])
        exact rt_box hop hE hcond.1 hcond.2 hG hS (hcp.freeL _ (Nat.le_refl _) (by simp)) rfl
      · simp at hv
    case load t x =>
      split at hc
      · rename_i s ag hs hag
        simp only [Option.some.injEq] at hc; subst hc
        simp only [opAV, only] at hv
        split at hv
        · rename_i y hy
          simp only [Option.some.injEq, Prod.mk.injEq] at hv
          obtain ⟨rfl, rfl⟩ := hv
          rw [St.ext' (hcp.s2 (by simp [turnsS, turns])) (hcp.t2 (by simp [turnsT, turns]))]
          obtain ⟨rest, hS⟩ := hcp.s3 (by simp [turnsS, turns]) (by simp [usesS, uses])
          exact (rt_load hop hs hag hE hG (loadAV_prefix hy hS)).goes
        · simp at hv
      · simp at hc
    case store t x y =>
      cases hs : sizeT P t with
      | none => simp [hs] at hc
      | some s =>
        simp only [hs, Option.bind_some] at hc
        by_cases hs0 : 0 < s
        case neg => rw [if_neg hs0] at hc; simp at hc
        rw [if_pos hs0] at hc
        simp only [Option.some.injEq] at hc; subst hc
        simp only [opAV] at hv
        split at hv
        · rename_i st2 hst2
          simp only [Option.some.injEq, Prod.mk.injEq] at hv
          obtain ⟨rfl, rfl⟩ := hv
          have e1 := hcp.s1 (by simp [turnsS, turns])
          have e2 := hcp.t2 (by simp [turnsT, turns]; decide)
          have e3 : storeAV s S (aval env x) (aval env y) = some S' := by
            unfold storeAV at hst2 ⊢
            split at hst2
            · split at hst2
              · next hcond =>
                rw [if_pos hcond]
                rw [e1.1]
                split at hst2
                · rename_i cs hcs
                  split at hst2
                  · next hb =>
                    rw [if_pos hb]
                    simp only [Option.some.injEq] at hst2 ⊢
                    subst hst2
                    exact (St.ext' (S := ⟨_, S.tips⟩) e1.2 e2).symm
                  · simp at hst2
                · simp at hst2
              · simp at hst2
            · simp at hst2
          exact rt_store hop hs hs0 hE hG e3
        · simp at hv
    case buildSlice t n ps =>
      split at hc
      · rename_i e ht
        split at hc
        · rename_i z ag zero hz hag hzero
          split at hc
          · next hcond =>
            simp only [Bool.and_eq_true, decide_eq_true_eq] at hcond
            split at hc
            · simp only [Option.some.injEq] at hc; subst hc
              simp only [opAV] at hv
              split at hv
              · rename_i xs hset
                rw [St.ext' (hcp.s2 (by simp [turnsS, turns])) (hcp.t2 (by simp [turnsT, turns]))]
                obtain ⟨rest, hS⟩ := hcp.s3 (by simp [turnsS, turns]) (by simp [usesS, uses])
                have hlen : st.store.length < st'.store.length := by
                  unfold newM at hv
                  split at hv
                  · simp only [Option.some.injEq, Prod.mk.injEq] at hv; obtain ⟨_, rfl⟩ := hv; simp
                  · simp at hv
                exact rt_litm hop ht hz hzero hcond.1.1 hcond.1.2 hE hG hset hv hS (hcp.freeL _ (Nat.le_refl _) hlen)
              · simp at hv
            · simp only [Option.some.injEq] at hc; subst hc
              simp [isVal] at hk
          · simp at hc
        · simp at hc
      · simp at hc
    case makeSlice t x y =>
      split at hc
      · rename_i e ht
        split at hc
        · rename_i i ag zero hi hag hzero
          split at hc
          · next hcond =>
            simp only [Bool.and_eq_true, decide_eq_true_eq] at hcond
            simp only [Option.some.injEq] at hc; subst hc
            simp only [opAV] at hv
            rw [St.ext' (hcp.s2 (by simp [turnsS, turns])) (hcp.t2 (by simp [turnsT, turns]))]
            obtain ⟨rest, hS⟩ := hcp.s3 (by simp [turnsS, turns]) (by simp [usesS, uses])
            have hlen : st.store.length < st'.store.length := by
              unfold makeAV at hv
              split at hv
              · split at hv
                · simp only [Option.some.injEq, Prod.mk.injEq] at hv; obtain ⟨_, rfl⟩ := hv; simp
                · simp at hv
              · simp at hv
            exact rt_make hop ht hi hzero hcond.1.1 hcond.1.2 hcond.2 hE hG hv hS (hcp.freeL _ (Nat.le_refl _) hlen)
          · simp at hc
        · simp at hc
      · simp at hc
    case range t x =>
      split at hc
      · rename_i ht
        simp only [Option.some.injEq] at hc; subst hc
        simp only [opAV] at hv
        rw [St.ext' (hcp.s2 (by simp [turnsS, turns])) (hcp.t2 (by simp [turnsT, turns]))]
        obtain ⟨rest, hS⟩ := hcp.s3 (by simp [turnsS, turns]) (by simp [usesS, uses])
        have hlen : st.store.length < st'.store.length := by
          unfold rangeAV at hv
          split at hv
          · simp only [Option.some.injEq, Prod.mk.injEq] at hv; obtain ⟨_, rfl⟩ := hv; simp
          · simp at hv
        exact rt_range hop ht hE hG hv hS (hcp.freeL _ (Nat.le_refl _) hlen)
      · simp at hc
    case next x s =>
      split at hc
      · next hs =>
        subst hs
        simp only [Option.some.injEq] at hc; subst hc
        simp only [opAV] at hv
        have e1 := hcp.s1 (by simp [turnsS, turns]; try decide)
        have e2 := hcp.t2 (by simp [turnsT, turns]; try decide)
        have e3 := nextAV_state hv S e1.1
        rw [(St.ext' (S := ⟨st'.store, S.tips⟩) e1.2 e2).symm] at e3
        exact rt_next hop hE hG e3
      · simp at hc
    case makeMap t rv =>
      cases rv <;> simp only [compOp, reduceCtorEq] at hc
      split at hc
      · split at hc
        · simp only [Option.some.injEq] at hc; subst hc
          simp only [opAV, Option.some.injEq, Prod.mk.injEq] at hv
          obtain ⟨rfl, rfl⟩ := hv
          rw [St.ext' (hcp.s2 (by simp [turnsS, turns])) (hcp.t2 (by simp [turnsT, turns]))]
          obtain ⟨rest, hS⟩ := hcp.s3 (by simp [turnsS, turns]) (by simp [usesS, uses])
          exact rt_makeMap hop hG rfl hS (hcp.freeL _ (Nat.le_refl _) (by simp))
        · simp at hc
      · simp at hc
    case mapUpdate t m k x =>
      split at hc
      · rename_i kt et ht
        split at hc
        · next hi =>
          simp only [Option.some.injEq] at hc; subst hc
          simp only [opAV] at hv
          split at hv
          · rename_i st2 hst2
            simp only [Option.some.injEq, Prod.mk.injEq] at hv
            obtain ⟨rfl, rfl⟩ := hv
            have e1 := hcp.s1 (by simp [turnsS, turns]; try decide)
            have e2 := hcp.t2 (by simp [turnsT, turns]; try decide)
            have e3 := mapPutAV_state hst2 S e1.1
            rw [(St.ext' (S := ⟨st2.store, S.tips⟩) e1.2 e2).symm] at e3
            exact rt_mapPut hop ht hi hE hG e3
          · simp at hv
        · simp at hc
      · simp at hc
    case lookup t m k ok =>
      split at hc
      · rename_i kt et ht
        split at hc
        · next hi =>
          simp only [Option.map_eq_some_iff] at hc
          obtain ⟨zero, hz, rfl⟩ := hc
          simp only [opAV, only] at hv
          split at hv
          · rename_i y hy
            simp only [Option.some.injEq, Prod.mk.injEq] at hv
            obtain ⟨rfl, rfl⟩ := hv
            rw [St.ext' (hcp.s2 (by simp [turnsS, turns])) (hcp.t2 (by simp [turnsT, turns]))]
            obtain ⟨rest, hS⟩ := hcp.s3 (by simp [turnsS, turns]) (by simp [usesS, uses])
            exact (rt_mapGet hop ht hi hz hE hG (mapGetAV_prefix hy hS)).goes
          · simp at hv
        · simp at hc
      · simp at hc
    case call c =>
      split at hc
      · rename_i x hb ha
        split at hc
        · simp only [Option.some.injEq] at hc; subst hc; simp [isVal] at hk
        · simp only [Option.some.injEq] at hc; subst hc; simp [isVal] at hk
        · rename_i kt et ht
          simp only [Option.some.injEq] at hc; subst hc
          simp only [opAV, only] at hv
          split at hv
          · rename_i y hy
            simp only [Option.some.injEq, Prod.mk.injEq] at hv
            obtain ⟨rfl, rfl⟩ := hv
            rw [St.ext' (hcp.s2 (by simp [turnsS, turns])) (hcp.t2 (by simp [turnsT, turns]))]
            obtain ⟨rest, hS⟩ := hcp.s3 (by simp [turnsS, turns]) (by simp [usesS, uses])
            exact (rt_mapLen hop hb ha ht hE hG (mapLenAV_prefix hy hS)).goes
          · simp at hv
        · simp at hc
      · rename_i m k hb ha
        split at hc
        · rename_i kt et ht
          split at hc
          · next hi =>
            simp only [Option.some.injEq] at hc; subst hc
            simp only [opAV] at hv
            split at hv
            · rename_i st2 hst2
              simp only [Option.some.injEq, Prod.mk.injEq] at hv
              obtain ⟨rfl, rfl⟩ := hv
              have e1 := hcp.s1 (by simp [turnsS, turns]; try decide)
              have e2 := hcp.t2 (by simp [turnsT, turns]; try decide)
              have e3 := mapDelAV_state hst2 S e1.1
              rw [(St.ext' (S := ⟨st2.store, S.tips⟩) e1.2 e2).symm] at e3
              exact rt_mapDel hop hb ha ht hi hE hG e3
            · simp at hv
          · simp at hc
        · simp at hc
      · split at hc <;> simp at hc
        subst hc; simp [isVal] at hk
      · rename_i x hb ha
        have ha' : c.args = #[x] := by rw [← Array.toArray_toList (xs := c.args), ha]
        split at hc
        · rename_i e ht
          split at hc
          · rename_i i ag zero hi hag hzero
            split at hc
            · next hcond =>
              simp only [Bool.and_eq_true, decide_eq_true_eq] at hcond
              simp only [Option.some.injEq] at hc; subst hc
              obtain ⟨t, ht0, ht1⟩ : ∃ t, c.argTypes[0]? = some t ∧ P.underlying t = some (.slice e) := by
                cases h0 : c.argTypes[0]? with
                | none => simp [h0] at ht
                | some t => exact ⟨t, rfl, by simpa [h0] using ht⟩
              simp only [opAV] at hv
              split at hv
              · rename_i st2 hst2
                simp only [Option.some.injEq, Prod.mk.injEq] at hv
                obtain ⟨rfl, rfl⟩ := hv
                have e1 := hcp.s1 (by simp [turnsS, turns]; try decide)
                have e2 := hcp.t2 (by simp [turnsT, turns]; try decide)
                have e3 := clearAV_state hst2 S e1.1
                rw [(St.ext' (S := ⟨st2.store, S.tips⟩) e1.2 e2).symm] at e3
                exact rt_clear hop hb ha' ht0 ht1 hi hzero hcond.1 hcond.2 hE hG e3
              · simp at hv
            · simp at hc
          · simp at hc
        · rename_i kt et ht
          simp only [Option.some.injEq] at hc; subst hc
          obtain ⟨t, ht0, ht1⟩ : ∃ t, c.argTypes[0]? = some t ∧ P.underlying t = some (.map kt et) := by
            cases h0 : c.argTypes[0]? with
            | none => simp [h0] at ht
            | some t => exact ⟨t, rfl, by simpa [h0] using ht⟩
          simp only [opAV] at hv
          split at hv
          · rename_i st2 hst2
            simp only [Option.some.injEq, Prod.mk.injEq] at hv
            obtain ⟨rfl, rfl⟩ := hv
            have e1 := hcp.s1 (by simp [turnsS, turns]; try decide)
            have e2 := hcp.t2 (by simp [turnsT, turns]; try decide)
            have e3 := mapClearAV_state hst2 S e1.1
            rw [(St.ext' (S := ⟨st2.store, S.tips⟩) e1.2 e2).symm] at e3
            exact rt_mapClear hop hb ha' ht0 ht1 hE hG e3
          · simp at hv
        · simp at hc
      · rename_i x y hb ha
        have ha' : c.args = #[x, y] := by rw [← Array.toArray_toList (xs := c.args), ha]
        split at hc
        · rename_i e ht
          cases hz : sizeT P e with
          | none => simp [hz] at hc
          | some z =>
            simp only [hz, Option.bind_some] at hc
            split at hc
            · next hz0 =>
              simp only [Option.some.injEq] at hc; subst hc
              obtain ⟨t, ht0, ht1⟩ : ∃ t, c.argTypes[0]? = some t ∧ P.underlying t = some (.slice e) := by
                cases h0 : c.argTypes[0]? with
                | none => simp [h0] at ht
                | some t => exact ⟨t, rfl, by simpa [h0] using ht⟩
              simp only [opAV] at hv
              split at hv
              · rename_i ys hys
                have e1 := hcp.s1 (by simp [turnsS, turns]; try decide)
                have e2 := hcp.t2 (by simp [turnsT, turns]; try decide)
                have e3 := copyAV_state hv S e1.1
                rw [(St.ext' (S := ⟨st'.store, S.tips⟩) e1.2 e2).symm] at e3
                exact rt_copy hop hb ha' ht0 ht1 hz hz0 hE hG (elemsOf_prefix (rest := []) hys (by rw [e1.1]; simp)) e3
              · simp at hv
            · simp at hc
        · simp at hc
      · rename_i x name hb
        simp only [Option.some.injEq] at hc; subst hc
        simp only [opAV] at hv
        have hx := aval_rel hE x
        split at hv
        · rename_i t y hxy
          rw [hxy] at hx
          obtain ⟨v, hv1, hv2⟩ := hx.ifc_inv
          split at hv
          · rename_i f hf
            split at hv
            · next hpf =>
              have hr := avals_rel hE c.args.toList
              refine goes_call (vs := #[v] ++ c.args.map a.eval) hcall hv hG hgl ?_ (by simpa using Rels.cons hv2 hr) (fun hfn => invoke_run hop hb hv1 hf hfn)
              have e1 := hcp.s1 (by simp [turnsS, turns])
              have e2 := hcp.t1 (by simp [turnsT, turns]; try decide)
              rw [hpf]
              exact ⟨St.ext' e1.1 e2.1, St.ext' e1.2 e2.2⟩
            · simp at hv
          · simp at hv
        · simp at hv
      · simp only [Option.some.injEq] at hc; subst hc; simp [isVal] at hk
      · simp only [Option.some.injEq] at hc; subst hc; simp [isVal] at hk
      · simp only [Option.some.injEq] at hc; subst hc; simp [isVal] at hk
      · rename_i x y hb ha
        have ha' : c.args = #[x, y] := by rw [← Array.toArray_toList (xs := c.args), ha]
        split at hc
        · rename_i e u ht hu
          split at hc
          · rename_i i ag zero d hi hag hzero hd
            split at hc
            · next hcond =>
              simp only [Bool.and_eq_true, decide_eq_true_eq, zeroOk, beq_iff_eq] at hcond
              obtain ⟨t, ht0, ht1⟩ : ∃ t, c.argTypes[0]? = some t ∧ P.underlying t = some (.slice e) := by
                cases h0 : c.argTypes[0]? with
                | none => simp [h0] at ht
                | some t => exact ⟨t, rfl, by simpa [h0] using ht⟩
              have hz : i.zero = some zero := by simpa [zeroT, hi] using hzero
              have hzone : ∀ v ∈ zero.cells.toList, v.oneCell' = true := (zcells_rel (us := us) (w := w) (K := K) zero (plain_of_zero (by simpa [zcells] using hcond.1.1.1.2))).one (by simpa [zcells] using hcond.1.1.1.2)
              have happOk : AppOk P o x y i e zero := ⟨⟨c, t, u, d, hop, hb, ha', ht0, ht1, hu, hd⟩, hi, hz, hcond.1.1.1.1, hcond.1.2, hcond.2, hzone⟩
              cases hmt : mt.1 with
              | true =>
                simp only [hmt, if_true, Option.some.injEq] at hc; subst hc
                simp only [opAV] at hv
                split at hv
                · rename_i ys hys
                  have e1 := hcp.s1 (by simp [turnsS, turns]; try decide)
                  have e2 := hcp.t2 (by simp [turnsT, turns]; try decide)
                  have hS' : (⟨st'.store, S.tips⟩ : St) = S' := (St.ext' (S := ⟨st'.store, S.tips⟩) e1.2 e2).symm
                  have happ := appendmAV_state hv S e1.1
                  rw [hS'] at happ
                  exact rt_appendm happOk hE hG e1.1.symm e1.2.symm (elemsM_prefix hys e1.1) hcp.freeL happ
                · simp at hv
              | false =>
              simp only [hmt, Bool.false_eq_true, if_false, Option.some.injEq] at hc; subst hc
              simp only [opAV] at hv
              split at hv
              · next hrs =>
                split at hv
                · rename_i ys hys
                  have e1 := hcp.t1 (by simp [turnsT, turns]; try decide)
                  have e2 := hcp.s2 (by simp [turnsS, turns]; try decide)
                  have happ := appendAV_state hv S e1.1
                  have hS' : (⟨S.store, st'.tips⟩ : St) = S' := (St.ext' (S := ⟨S.store, st'.tips⟩) e2 e1.2).symm
                  rw [hS'] at happ
                  have hys' : elemsOf i.size S (aval env y) = some ys := by
                    rcases hrs with rfl | hrs
                    · obtain ⟨rest, hS⟩ := hcp.s3 (by simp [turnsS, turns]; try decide) (by simp [usesS, uses]; try decide)
                      have hst : st'.store = st.store := by
                        have := appendAV_state hv st rfl
                        rw [hv] at this
                        simp only [Option.some.injEq, Prod.mk.injEq, true_and] at this
                        rw [this]
                      exact elemsOf_prefix hys (by rw [hS, hst])
                    · unfold elemsOf at hys ⊢
                      split at hys
                      · exact hys
                      · exact hys
                      · rename_i hr; rw [hr] at hrs; simp [isRsl] at hrs
                      · simp at hys
                  exact rt_append (zv := zero) happOk hE hG e1.1.symm e1.2.symm hys' happ
                · simp at hv
              · simp at hv
            · simp at hc
          · rename_i i ag zero ku hi hag hzero hd
            split at hc
            · next hcond =>
              simp only [Bool.and_eq_true, decide_eq_true_eq] at hcond
              simp only [Option.some.injEq] at hc; subst hc
              obtain ⟨t, ht0, ht1⟩ : ∃ t, c.argTypes[0]? = some t ∧ P.underlying t = some (.slice e) := by
                cases h0 : c.argTypes[0]? with
                | none => simp [h0] at ht
                | some t => exact ⟨t, rfl, by simpa [h0] using ht⟩
              simp only [opAV] at hv
              rw [St.ext' (hcp.s2 (by simp [turnsS, turns])) (hcp.t2 (by simp [turnsT, turns]))]
              obtain ⟨rest, hS⟩ := hcp.s3 (by simp [turnsS, turns]) (by simp [usesS, uses])
              have hlen : st.store.length < st'.store.length := by
                unfold growAV makeAV at hv
                repeat' split at hv
                all_goals first
                  | (simp only [reduceCtorEq] at hv; done)
                  | (simp only [Option.some.injEq, Prod.mk.injEq] at hv; obtain ⟨_, rfl⟩ := hv; simp)
              exact rt_grow hop hb ha' ht0 ht1 hu hd hi hzero hcond.1.1.2 hcond.1.2 hcond.2 hE hG hv hS (hcp.freeL _ (Nat.le_refl _) hlen)
            · simp at hc
          · simp at hc
        · simp at hc
      · rename_i f hf
        cases hck : mt.2.1.contains f with
        | true =>
          simp only [hck, if_true, Option.some.injEq] at hc
          cases hpu : pure f with
          | true =>
            rw [if_pos hpu] at hc
            subst hc
            simp only [opAV] at hv
            rw [if_pos hpu] at hv
            split at hv
            · rename_i r2 st2 hcl
              split at hv
              · next htip =>
                simp only [Option.some.injEq, Prod.mk.injEq] at hv
                obtain ⟨rfl, rfl⟩ := hv
                have e1 := hcp.s1 (by simp [turnsS, turns])
                have e2 := hcp.t1 (by simp [turnsT, turns]; try decide)
                rw [St.ext' e1.2 e2.2]
                rw [St.ext' e1.1 e2.1] at hG
                have hr := avals_rel hE c.args.toList
                refine goes_callz (vs := c.args.map a.eval) hcall hcs hcl hpu htip hG hgl (by simpa using hr) (fun hfn => ?_)
                simp [execOp, hop, resolve, hf, Deferred.ofValue, Act.eval, invoke, run_callFunc hfn]
              · simp at hv
            · simp at hv
          | false =>
          rw [if_neg (by rw [hpu]; simp)] at hc
          subst hc
          simp only [opAV] at hv
          rw [if_pos hpu] at hv
          split at hv
          · rename_i r1 st1 hcl
            simp only [Option.some.injEq, Prod.mk.injEq] at hv
            obtain ⟨rfl, rfl⟩ := hv
            have hr := avals_rel hE c.args.toList
            rw [St.ext' (hcp.s2 (by simp [turnsS, turns])) (hcp.t2 (by simp [turnsT, turns]))]
            obtain ⟨rest, hS⟩ := hcp.s3 (by simp [turnsS, turns]) (by simp [usesS, uses])
            obtain ⟨rest2, hS2⟩ := hcp.t3 (by simp [turnsT, turns]) (by simp [usesT, uses]; decide)
            refine goes_callk (vs := c.args.map a.eval) (.inl rfl) hcall hcl hpu hG hgl hS hcp.freeL hS2 hcp.freeT (by simpa using hr.pubs) (fun hfn => ?_)
            simp [execOp, hop, resolve, hf, Deferred.ofValue, Act.eval, invoke, run_callFunc hfn]
          · simp at hv
        | false =>
        simp only [hck, Bool.false_eq_true, if_false, Option.some.injEq] at hc
        cases hlk : (mt.2.1.contains (f + 1000000) && !pure f) with
        | true =>
          rw [hlk, if_pos rfl] at hc
          subst hc
          have hpu : pure f = false := by simp only [Bool.and_eq_true, Bool.not_eq_true'] at hlk; exact hlk.2
          simp only [opAV] at hv
          rw [if_pos hpu] at hv
          split at hv
          · rename_i r1 st1 hcl
            simp only [Option.some.injEq, Prod.mk.injEq] at hv
            obtain ⟨rfl, rfl⟩ := hv
            have hr := avals_rel hE c.args.toList
            rw [St.ext' (hcp.s2 (by simp [turnsS, turns])) (hcp.t2 (by simp [turnsT, turns]))]
            obtain ⟨rest, hS⟩ := hcp.s3 (by simp [turnsS, turns]) (by simp [usesS, uses])
            obtain ⟨rest2, hS2⟩ := hcp.t3 (by simp [turnsT, turns]) (by simp [usesT, uses]; decide)
            refine goes_callk (vs := c.args.map a.eval) (.inr rfl) hcall hcl hpu hG hgl hS hcp.freeL hS2 hcp.freeT (by simpa using hr.pubs) (fun hfn => ?_)
            simp [execOp, hop, resolve, hf, Deferred.ofValue, Act.eval, invoke, run_callFunc hfn]
          · simp at hv
        | false =>
        rw [hlk, if_neg (by simp)] at hc
        cases hlr : (mt.2.1.contains (f + 2000000) && pure f) with
        | true =>
          rw [hlr, if_pos rfl] at hc
          subst hc
          have hpu : pure f = true := by simp only [Bool.and_eq_true] at hlr; exact hlr.2
          simp only [opAV] at hv
          rw [if_pos hpu] at hv
          split at hv
          · rename_i r2 st2 hcl
            split at hv
            · next htip =>
              simp only [Option.some.injEq, Prod.mk.injEq] at hv
              obtain ⟨rfl, rfl⟩ := hv
              have e1 := hcp.s1 (by simp [turnsS, turns])
              have e2 := hcp.t1 (by simp [turnsT, turns]; try decide)
              rw [St.ext' e1.2 e2.2]
              rw [St.ext' e1.1 e2.1] at hG
              have hr := avals_rel hE c.args.toList
              refine goes_callr (vs := c.args.map a.eval) hcall hcs hcl hpu htip.1 htip.2 hG hgl (by simpa using hr) (fun hfn => ?_)
              simp [execOp, hop, resolve, hf, Deferred.ofValue, Act.eval, invoke, run_callFunc hfn]
            · simp at hv
          · simp at hv
        | false =>
        rw [hlr, if_neg (by simp)] at hc
        subst hc
        simp only [opAV] at hv
        rw [if_pos trivial] at hv
        have hr := avals_rel hE c.args.toList
        refine goes_call (vs := c.args.map a.eval) hcall hv hG hgl (pure_compat (f := f) ?_ rfl rfl hcp) (by simpa using hr) (fun hfn => ?_)
        · cases hp : pure f with
          | true => exact .inl (hcs f _ _ _ _ hv hp)
          | false => exact .inr rfl
        · simp [execOp, hop, resolve, hf, Deferred.ofValue, Act.eval, invoke, run_callFunc hfn]
      · rename_i f _ hf
        simp only [Option.some.injEq] at hc; subst hc
        simp only [opAV] at hv
        split at hv
        · rename_i g first caps hg
          split at hv
          · next hpv =>
            have hr := avals_rel hE c.args.toList
            have hfr := aval_rel hE f
            rw [hg] at hfr
            obtain ⟨vf, vc, he, h1, h2⟩ := hfr.fn_inv
            subst hpv
            refine goes_call (vs := vf ++ c.args.map a.eval ++ vc) hcall hv hG hgl (pure_compat (f := g) ?_ rfl rfl hcp) ?_ (fun hfn => ?_)
            · cases hp : pure g with
              | true => exact .inl (hcs g _ _ _ _ hv hp)
              | false => exact .inr rfl
            · have := (h1.append (by simpa using hr)).append h2
              simpa using this
            · simp [execOp, hop, resolve, hf, Deferred.ofValue, he, invoke, run_callFunc hfn]
          · simp at hv
        · simp at hv
      · simp at hc
    case unOp op t x =>
      cases op <;> simp only [compOp, Option.some.injEq, reduceCtorEq] at hc <;> subst hc <;> exact absurd rfl hk
    all_goals
      refine absurd ?_ hk
      repeat' split at hc
      all_goals first
        | (simp only [reduceCtorEq] at hc; done)
        | (simp only [Option.some.injEq] at hc; subst hc; rfl)
        | (simp only [Option.map_eq_some_iff] at hc; obtain ⟨_, _, rfl⟩ := hc; rfl)
        | (simp only [Option.bind_eq_some_iff] at hc
           obtain ⟨_, _, hc⟩ := hc
           first
             | (simp only [reduceCtorEq] at hc; done)
             | (simp only [Option.some.injEq] at hc; subst hc; rfl))
end
end Go.Ev

namespace Go.Ev
open Go

/-- What a callee does to the lengths of the state. -/
structure CallMono (pure : FuncId → Bool) (call : CallF) : Prop where
  len : ∀ f args st r st', call f args st = some (r, st') → st.store.length ≤ st'.store.length ∧ st.tips.length ≤ st'.tips.length
  pure : ∀ f args st r st', call f args st = some (r, st') → pure f = true → st'.store = st.store ∧ ∃ rest, st'.tips = st.tips ++ rest

section
variable {P : Program} {pure : FuncId → Bool} {call : CallF}

theorem appendAV_len {z : Nat} {s : AV} {ys : List AV} {st st' : St} {r : AV} (h : appendAV z s ys st = some (r, st')) : st'.store = st.store ∧ st.tips.length ≤ st'.tips.length := by
  unfold appendAV at h
  repeat' split at h
  all_goals first
    | (simp only [reduceCtorEq] at h; done)
    | (simp only [Option.some.injEq, Prod.mk.injEq] at h; obtain ⟨_, rfl⟩ := h; simp)

theorem appendmAV_len {z : Nat} {ag : Bool} {s : AV} {ys : List AV} {st st' : St} {r : AV} (h : appendmAV z ag s ys st = some (r, st')) : st.store.length ≤ st'.store.length ∧ st'.tips = st.tips := by
  unfold appendmAV newM at h
  repeat' split at h
  all_goals first
    | (simp only [reduceCtorEq] at h; done)
    | (simp only [Option.some.injEq, Prod.mk.injEq] at h; obtain ⟨_, rfl⟩ := h; simp)

theorem opAV_len (hm : CallMono pure call) {env : Env} {k : IK} {st st' : St} {r : AV} (h : opAV pure call env st k = some (r, st')) :
    (st.store.length ≤ st'.store.length ∧ st.tips.length ≤ st'.tips.length) ∧ (turnsS k = false → ∃ rest, st'.store = st.store ++ rest) ∧ (turnsT k = false → ∃ rest, st'.tips = st.tips ++ rest) := by
  by_cases hk : isVal k = true
  · obtain ⟨_, rfl⟩ := opAV_val hk h
    exact ⟨⟨Nat.le_refl _, Nat.le_refl _⟩, fun _ => ⟨[], by simp⟩, fun _ => ⟨[], by simp⟩⟩
  · cases k <;> simp only [isVal, not_true_eq_false] at hk
    case alloc zs => simp only [opAV, Option.some.injEq, Prod.mk.injEq] at h; obtain ⟨_, rfl⟩ := h; exact ⟨⟨by simp, Nat.le_refl _⟩, fun _ => ⟨[zs], rfl⟩, fun _ => ⟨[], by simp⟩⟩
    case box x =>
      simp only [opAV] at h
      split at h
      · simp only [Option.some.injEq, Prod.mk.injEq] at h; obtain ⟨_, rfl⟩ := h; exact ⟨⟨by simp, Nat.le_refl _⟩, fun _ => ⟨_, rfl⟩, fun _ => ⟨[], by simp⟩⟩
      · simp at h
    case load s ag a =>
      simp only [opAV, only] at h
      split at h
      · simp only [Option.some.injEq, Prod.mk.injEq] at h; obtain ⟨_, rfl⟩ := h; exact ⟨⟨Nat.le_refl _, Nat.le_refl _⟩, fun _ => ⟨[], by simp⟩, fun _ => ⟨[], by simp⟩⟩
      · simp at h
    case loadp ts s ag a =>
      simp only [opAV, only] at h
      split at h
      · split at h
        · simp only [Option.some.injEq, Prod.mk.injEq] at h; obtain ⟨_, rfl⟩ := h; exact ⟨⟨Nat.le_refl _, Nat.le_refl _⟩, fun _ => ⟨[], by simp⟩, fun _ => ⟨[], by simp⟩⟩
        · simp at h
      · simp at h
    case storeq ts s a x =>
      simp only [opAV] at h
      split at h
      · split at h
        · rename_i st2 h2
          simp only [Option.some.injEq, Prod.mk.injEq] at h; obtain ⟨_, rfl⟩ := h
          have : st2.store.length = st.store.length ∧ st2.tips = st.tips := by
            unfold storeAV at h2
            repeat' split at h2
            all_goals first
              | (simp only [reduceCtorEq] at h2; done)
              | (simp only [Option.some.injEq] at h2; subst h2; simp)
          exact ⟨⟨by omega, by rw [this.2]; exact Nat.le_refl _⟩, fun ht => by simp [turnsS, turns] at ht, fun _ => ⟨[], by simp [this.2]⟩⟩
        · simp at h
      · simp at h
    case store s a x =>
      simp only [opAV] at h
      split at h
      · rename_i st2 h2
        simp only [Option.some.injEq, Prod.mk.injEq] at h; obtain ⟨_, rfl⟩ := h
        have : st2.store.length = st.store.length ∧ st2.tips = st.tips := by
          unfold storeAV at h2
          repeat' split at h2
          all_goals first
            | (simp only [reduceCtorEq] at h2; done)
            | (simp only [Option.some.injEq] at h2; subst h2; simp)
        exact ⟨⟨by omega, by rw [this.2]; exact Nat.le_refl _⟩, fun ht => by simp [turnsS, turns] at ht, fun _ => ⟨[], by simp [this.2]⟩⟩
      · simp at h
    case make z ag zs l c =>
      simp only [opAV] at h
      unfold makeAV at h
      repeat' split at h
      all_goals first
        | (simp only [reduceCtorEq] at h; done)
        | (simp only [Option.some.injEq, Prod.mk.injEq] at h; obtain ⟨_, rfl⟩ := h; exact ⟨⟨by simp, Nat.le_refl _⟩, fun _ => ⟨_, rfl⟩, fun _ => ⟨[], by simp⟩⟩)
    case litm z ag zero n ps =>
      simp only [opAV] at h
      unfold newM at h
      repeat' split at h
      all_goals first
        | (simp only [reduceCtorEq] at h; done)
        | (simp only [Option.some.injEq, Prod.mk.injEq] at h; obtain ⟨_, rfl⟩ := h; exact ⟨⟨by simp, Nat.le_refl _⟩, fun _ => ⟨_, rfl⟩, fun _ => ⟨[], by simp⟩⟩)
    case grow z ag zs l c =>
      simp only [opAV] at h
      unfold growAV makeAV at h
      repeat' split at h
      all_goals first
        | (simp only [reduceCtorEq] at h; done)
        | (simp only [Option.some.injEq, Prod.mk.injEq] at h; obtain ⟨_, rfl⟩ := h; exact ⟨⟨by simp, Nat.le_refl _⟩, fun _ => ⟨_, rfl⟩, fun _ => ⟨[], by simp⟩⟩)
    case append z r s y =>
      simp only [opAV] at h
      split at h
      · split at h
        · have := appendAV_len h
          exact ⟨⟨by rw [this.1]; exact Nat.le_refl _, this.2⟩, fun _ => ⟨[], by simp [this.1]⟩, fun ht => by simp [turnsT, turns] at ht; exact absurd ht (by decide)⟩
        · simp at h
      · simp at h
    case appendm z ag s y =>
      simp only [opAV] at h
      split at h
      · have := appendmAV_len h
        exact ⟨⟨this.1, by rw [this.2]; exact Nat.le_refl _⟩, fun ht => by simp [turnsS, turns] at ht, fun _ => ⟨[], by simp [this.2]⟩⟩
      · simp at h
    case clear z zs x =>
      simp only [opAV] at h
      split at h
      · rename_i st2 h2
        simp only [Option.some.injEq, Prod.mk.injEq] at h; obtain ⟨_, rfl⟩ := h
        have : st2.store.length = st.store.length ∧ st2.tips = st.tips := by
          unfold clearAV storeAV at h2
          repeat' split at h2
          all_goals first
            | (simp only [reduceCtorEq] at h2; done)
            | (simp only [Option.some.injEq] at h2; subst h2; simp)
        exact ⟨⟨by omega, by rw [this.2]; exact Nat.le_refl _⟩, fun ht => by simp [turnsS, turns] at ht, fun _ => ⟨[], by simp [this.2]⟩⟩
      · simp at h
    case copy z x y =>
      simp only [opAV] at h
      split at h
      · rename_i ys h3
        have : st'.store.length = st.store.length ∧ st'.tips = st.tips := by
          unfold copyAV at h
          repeat' split at h
          all_goals first
            | (simp only [reduceCtorEq] at h; done)
            | (simp only [Option.some.injEq, Prod.mk.injEq] at h; obtain ⟨_, rfl⟩ := h; simp)
        exact ⟨⟨by omega, by rw [this.2]; exact Nat.le_refl _⟩, fun ht => by simp [turnsS, turns] at ht, fun _ => ⟨[], by simp [this.2]⟩⟩
      · simp at h
    case range x =>
      simp only [opAV] at h
      unfold rangeAV at h
      split at h
      · simp only [Option.some.injEq, Prod.mk.injEq] at h; obtain ⟨_, rfl⟩ := h; exact ⟨⟨by simp, Nat.le_refl _⟩, fun _ => ⟨_, rfl⟩, fun _ => ⟨[], by simp⟩⟩
      · simp at h
    case makeMap => simp only [opAV, Option.some.injEq, Prod.mk.injEq] at h; obtain ⟨_, rfl⟩ := h; exact ⟨⟨by simp, Nat.le_refl _⟩, fun _ => ⟨_, rfl⟩, fun _ => ⟨[], by simp⟩⟩
    case next x =>
      simp only [opAV] at h
      have : st'.store.length = st.store.length ∧ st'.tips = st.tips := by
        unfold nextAV at h
        repeat' split at h
        all_goals first
          | (simp only [reduceCtorEq] at h; done)
          | (simp only [Option.some.injEq, Prod.mk.injEq] at h; obtain ⟨_, rfl⟩ := h; simp)
      exact ⟨⟨by omega, by rw [this.2]; exact Nat.le_refl _⟩, fun ht => by simp [turnsS, turns] at ht, fun _ => ⟨[], by simp [this.2]⟩⟩
    case mapGet zero ok m k =>
      simp only [opAV, only] at h
      split at h
      · simp only [Option.some.injEq, Prod.mk.injEq] at h; obtain ⟨_, rfl⟩ := h; exact ⟨⟨Nat.le_refl _, Nat.le_refl _⟩, fun _ => ⟨[], by simp⟩, fun _ => ⟨[], by simp⟩⟩
      · simp at h
    case mapLen m =>
      simp only [opAV, only] at h
      split at h
      · simp only [Option.some.injEq, Prod.mk.injEq] at h; obtain ⟨_, rfl⟩ := h; exact ⟨⟨Nat.le_refl _, Nat.le_refl _⟩, fun _ => ⟨[], by simp⟩, fun _ => ⟨[], by simp⟩⟩
      · simp at h
    case mapPut m k x =>
      simp only [opAV] at h
      split at h
      · rename_i st2 h2
        simp only [Option.some.injEq, Prod.mk.injEq] at h; obtain ⟨_, rfl⟩ := h
        have : st2.store.length = st.store.length ∧ st2.tips = st.tips := by
          unfold mapPutAV at h2
          repeat' split at h2
          all_goals first
            | (simp only [reduceCtorEq] at h2; done)
            | (simp only [Option.some.injEq] at h2; subst h2; simp)
        exact ⟨⟨by omega, by rw [this.2]; exact Nat.le_refl _⟩, fun ht => by simp [turnsS, turns] at ht, fun _ => ⟨[], by simp [this.2]⟩⟩
      · simp at h
    case mapDel m k =>
      simp only [opAV] at h
      split at h
      · rename_i st2 h2
        simp only [Option.some.injEq, Prod.mk.injEq] at h; obtain ⟨_, rfl⟩ := h
        have : st2.store.length = st.store.length ∧ st2.tips = st.tips := by
          unfold mapDelAV at h2
          repeat' split at h2
          all_goals first
            | (simp only [reduceCtorEq] at h2; done)
            | (simp only [Option.some.injEq] at h2; subst h2; simp)
        exact ⟨⟨by omega, by rw [this.2]; exact Nat.le_refl _⟩, fun ht => by simp [turnsS, turns] at ht, fun _ => ⟨[], by simp [this.2]⟩⟩
      · simp at h
    case mapClear m =>
      simp only [opAV] at h
      split at h
      · rename_i st2 h2
        simp only [Option.some.injEq, Prod.mk.injEq] at h; obtain ⟨_, rfl⟩ := h
        have : st2.store.length = st.store.length ∧ st2.tips = st.tips := by
          unfold mapClearAV at h2
          repeat' split at h2
          all_goals first
            | (simp only [reduceCtorEq] at h2; done)
            | (simp only [Option.some.injEq] at h2; subst h2; simp)
        exact ⟨⟨by omega, by rw [this.2]; exact Nat.le_refl _⟩, fun ht => by simp [turnsS, turns] at ht, fun _ => ⟨[], by simp [this.2]⟩⟩
      · simp at h
    case invoke tab x args =>
      simp only [opAV] at h
      split at h
      · split at h
        · split at h
          · exact ⟨hm.len _ _ _ _ _ h, fun ht => by simp [turnsS, turns] at ht, fun ht => by simp [turnsT, turns] at ht; exact absurd ht (by decide)⟩
          · simp at h
        · simp at h
      · simp at h
    case callr f args =>
      simp only [opAV] at h
      split at h
      · split at h
        · split at h
          · simp only [Option.some.injEq, Prod.mk.injEq] at h; obtain ⟨_, rfl⟩ := h
            exact ⟨⟨Nat.le_refl _, Nat.le_refl _⟩, fun ht => by simp [turnsS, turns] at ht, fun ht => by simp [turnsT, turns] at ht; exact absurd ht (by decide)⟩
          · simp at h
        · simp at h
      · simp at h
    case callz f args =>
      simp only [opAV] at h
      split at h
      · split at h
        · split at h
          · simp only [Option.some.injEq, Prod.mk.injEq] at h; obtain ⟨_, rfl⟩ := h
            have := frzArgs_lens (rslsOf (avals env args)) (avals env args) st
            exact ⟨⟨by omega, by rw [this.2]; exact Nat.le_refl _⟩, fun ht => by simp [turnsS, turns] at ht, fun ht => by simp [turnsT, turns] at ht; exact absurd ht (by decide)⟩
          · simp at h
        · simp at h
      · simp at h
    case callk f args =>
      simp only [opAV] at h
      split at h
      · split at h
        · simp only [Option.some.injEq, Prod.mk.injEq] at h; obtain ⟨_, rfl⟩ := h
          exact ⟨⟨by simp, by simp⟩, fun _ => ⟨_, rfl⟩, fun _ => ⟨_, rfl⟩⟩
        · simp at h
      · simp at h
    case calll f args =>
      simp only [opAV] at h
      split at h
      · split at h
        · simp only [Option.some.injEq, Prod.mk.injEq] at h; obtain ⟨_, rfl⟩ := h
          exact ⟨⟨by simp, by simp⟩, fun _ => ⟨_, rfl⟩, fun _ => ⟨_, rfl⟩⟩
        · simp at h
      · simp at h
    case call p f args =>
      simp only [opAV] at h
      split at h
      · next hp =>
        refine ⟨hm.len f _ _ _ _ h, fun ht => ?_, fun ht => ?_⟩
        · cases hpf : p with
          | true => have := hm.pure f _ _ _ _ h (by rw [← hp, hpf]); exact ⟨[], by simp [this.1]⟩
          | false => rw [hpf] at ht; simp [turnsS, turns] at ht
        · cases hpf : p with
          | true => exact (hm.pure f _ _ _ _ h (by rw [← hp, hpf])).2
          | false => rw [hpf] at ht; simp [turnsT, turns] at ht; exact absurd ht (by decide)
      · simp at h
    case callv p f args =>
      simp only [opAV] at h
      split at h
      · rename_i g first caps _
        split at h
        · next hp =>
          refine ⟨hm.len g _ _ _ _ h, fun ht => ?_, fun ht => ?_⟩
          · cases hpf : p with
            | true => have := hm.pure g _ _ _ _ h (by rw [← hp, hpf]); exact ⟨[], by simp [this.1]⟩
            | false => rw [hpf] at ht; simp [turnsS, turns] at ht
          · cases hpf : p with
            | true => exact (hm.pure g _ _ _ _ h (by rw [← hp, hpf])).2
            | false => rw [hpf] at ht; simp [turnsT, turns] at ht; exact absurd ht (by decide)
        · simp at h
      · simp at h

/-! ### the text's own order -/

/-- The run of a region in the text's order: what each operation finds, gives and leaves. -/
structure Trace (pure : FuncId → Bool) (call : CallF) (ks : List IOp) (E : Nat → Env) (T : Nat → St) (V : Nat → AV) : Prop where
  step : ∀ i (h : i < ks.length), E (i + 1) = setD (E i) ks[i].d (V i) ∧
    ((wantedAV (E i) ks[i].g = some true ∧ opAV pure call (E i) (T i) ks[i].k = some (V i, T (i + 1))) ∨ (wantedAV (E i) ks[i].g = some false ∧ V i = .v (.tuple #[]) ∧ T (i + 1) = T i))

theorem trace_of : ∀ {ks : List IOp} {env env' : Env} {st st' : St}, opsAV pure call ks env st = some (env', st') → ∃ E T V, Trace pure call ks E T V ∧ E 0 = env ∧ T 0 = st ∧ E ks.length = env' ∧ T ks.length = st'
  | [], env, env', st, st', h => by
    simp only [opsAV, Option.some.injEq, Prod.mk.injEq] at h
    exact ⟨fun _ => env, fun _ => st, fun _ => .any, ⟨fun i h => absurd h (by simp)⟩, rfl, rfl, h.1, h.2⟩
  | o :: r, env, env', st, st', h => by
    simp only [opsAV] at h
    have key : ∀ (v : AV) (st1 : St), opsAV pure call r (setD env o.d v) st1 = some (env', st') → ((wantedAV env o.g = some true ∧ opAV pure call env st o.k = some (v, st1)) ∨ (wantedAV env o.g = some false ∧ v = .v (.tuple #[]) ∧ st1 = st)) →
        ∃ E T V, Trace pure call (o :: r) E T V ∧ E 0 = env ∧ T 0 = st ∧ E (o :: r).length = env' ∧ T (o :: r).length = st' := by
      intro v st1 h1 h2
      obtain ⟨E, T, V, ht, e0, t0, en, tn⟩ := trace_of h1
      refine ⟨fun i => match i with | 0 => env | i + 1 => E i, fun i => match i with | 0 => st | i + 1 => T i, fun i => match i with | 0 => v | i + 1 => V i, ⟨fun i hi => ?_⟩, rfl, rfl, by simpa using en, by simpa using tn⟩
      cases i with
      | zero => exact ⟨by simpa using e0, by simpa [t0] using h2⟩
      | succ i => simpa using ht.step i (by simpa using hi)
    split at h
    · rename_i hw
      split at h
      · rename_i v st1 hv
        exact key v st1 h (.inl ⟨hw, hv⟩)
      · simp at h
    · rename_i hw
      exact key _ st h (.inr ⟨hw, rfl, rfl⟩)
    · simp at h

variable {ks : List IOp} {E : Nat → Env} {T : Nat → St} {V : Nat → AV}

theorem Trace.len (ht : Trace pure call ks E T V) (hm : CallMono pure call) (i : Nat) (hi : i < ks.length) :
    ((T i).store.length ≤ (T (i + 1)).store.length ∧ (T i).tips.length ≤ (T (i + 1)).tips.length) ∧ (turnsS ks[i].k = false → ∃ rest, (T (i + 1)).store = (T i).store ++ rest) ∧ (turnsT ks[i].k = false → ∃ rest, (T (i + 1)).tips = (T i).tips ++ rest) := by
  rcases (ht.step i hi).2 with ⟨_, h⟩ | ⟨_, _, h⟩
  · exact opAV_len hm h
  · rw [h]; exact ⟨⟨Nat.le_refl _, Nat.le_refl _⟩, fun _ => ⟨[], by simp⟩, fun _ => ⟨[], by simp⟩⟩

theorem Trace.mono (ht : Trace pure call ks E T V) (hm : CallMono pure call) {i j : Nat} (hij : i ≤ j) (hj : j ≤ ks.length) : (T i).store.length ≤ (T j).store.length ∧ (T i).tips.length ≤ (T j).tips.length := by
  induction j with
  | zero => have : i = 0 := by omega
            subst this; exact ⟨Nat.le_refl _, Nat.le_refl _⟩
  | succ j ih =>
    by_cases e : i = j + 1
    · subst e; exact ⟨Nat.le_refl _, Nat.le_refl _⟩
    · have h1 := ih (by omega) (by omega)
      have h2 := (ht.len hm j (by omega)).1
      exact ⟨by omega, by omega⟩

theorem Trace.pushS (ht : Trace pure call ks E T V) (hm : CallMono pure call) {i j : Nat} (hij : i ≤ j) (hj : j ≤ ks.length) (hno : ∀ m (h : m < ks.length), i ≤ m → m < j → turnsS ks[m].k = false) : ∃ rest, (T j).store = (T i).store ++ rest := by
  induction j with
  | zero => have : i = 0 := by omega
            subst this; exact ⟨[], by simp⟩
  | succ j ih =>
    by_cases e : i = j + 1
    · subst e; exact ⟨[], by simp⟩
    · obtain ⟨r1, h1⟩ := ih (by omega) (by omega) (fun m h h1 h2 => hno m h h1 (by omega))
      obtain ⟨r2, h2⟩ := (ht.len hm j (by omega)).2.1 (hno j (by omega) (by omega) (by omega))
      exact ⟨r1 ++ r2, by rw [h2, h1, List.append_assoc]⟩

theorem Trace.pushT (ht : Trace pure call ks E T V) (hm : CallMono pure call) {i j : Nat} (hij : i ≤ j) (hj : j ≤ ks.length) (hno : ∀ m (h : m < ks.length), i ≤ m → m < j → turnsT ks[m].k = false) : ∃ rest, (T j).tips = (T i).tips ++ rest := by
  induction j with
  | zero => have : i = 0 := by omega
            subst this; exact ⟨[], by simp⟩
  | succ j ih =>
    by_cases e : i = j + 1
    · subst e; exact ⟨[], by simp⟩
    · obtain ⟨r1, h1⟩ := ih (by omega) (by omega) (fun m h h1 h2 => hno m h h1 (by omega))
      obtain ⟨r2, h2⟩ := (ht.len hm j (by omega)).2.2 (hno j (by omega) (by omega) (by omega))
      exact ⟨r1 ++ r2, by rw [h2, h1, List.append_assoc]⟩

/-! ### any order -/

/-- The slots as they are once the operations of D are done. -/
def envOf (ks : List IOp) (V : Nat → AV) (D : Nat → Bool) (env : Env) : Nat → Env
  | 0 => env
  | n + 1 => if D n then setD (envOf ks V D env n) ((ks[n]?).bind (·.d)) (V n) else envOf ks V D env n

theorem get_setD (env : Env) (d : Option Tmp) (v : AV) (t : Nat) : (setD env d v).get t = if d = some t then v else env.get t := by
  cases d with
  | none => simp [setD]
  | some d => simp [setD, Env.get]

theorem envOf_congr {ks : List IOp} {V : Nat → AV} {D D' : Nat → Bool} {env : Env} {t : Nat} : ∀ (n : Nat), (∀ j, j < n → (ks[j]?).bind (·.d) = some t → D j = D' j) → (envOf ks V D env n).get t = (envOf ks V D' env n).get t
  | 0, _ => rfl
  | n + 1, h => by
    have ih := envOf_congr (ks := ks) (V := V) (D := D) (D' := D') (env := env) (t := t) n (fun j hj => h j (by omega))
    simp only [envOf]
    by_cases hd : (ks[n]?).bind (·.d) = some t
    · have := h n (by omega) hd
      cases h1 : D n <;> rw [h1] at this <;> simp only [← this, if_true, Bool.false_eq_true, if_false]
      · exact ih
      · rw [get_setD, get_setD, if_pos hd, if_pos hd]
    · cases h1 : D n <;> cases h2 : D' n <;> simp only [if_true, Bool.false_eq_true, if_false, get_setD, if_neg hd] <;> exact ih

theorem envOf_all (ht : Trace pure call ks E T V) {D : Nat → Bool} : ∀ (n : Nat), n ≤ ks.length → (∀ j, j < n → D j = true) → envOf ks V D (E 0) n = E n
  | 0, _, _ => rfl
  | n + 1, hn, h => by
    simp only [envOf, h n (by omega), if_true]
    rw [envOf_all ht n (by omega) (fun j hj => h j (by omega)), List.getElem?_eq_getElem (by omega)]
    exact ((ht.step n (by omega)).1).symm

theorem envOf_prefix (ht : Trace pure call ks E T V) {D : Nat → Bool} (i : Nat) : ∀ (n : Nat), i ≤ n → n ≤ ks.length → (∀ j, j < i → D j = true) → (∀ j, i ≤ j → j < n → D j = false) → envOf ks V D (E 0) n = E i := by
  intro n
  induction n with
  | zero => intro h _ _ _; have : i = 0 := by omega
            subst this; rfl
  | succ n ih =>
    intro h1 h2 h3 h4
    by_cases e : i = n + 1
    · subst e; exact envOf_all ht _ h2 h3
    · simp only [envOf, h4 n (by omega) (by omega), Bool.false_eq_true, if_false]
      exact ih (by omega) (by omega) h3 (fun j a b => h4 j a (by omega))
end
end Go.Ev

namespace Go.Ev
open Go

section
variable {P : Program} {pure : FuncId → Bool} {call : CallF}

/-! ### an operation looks at its own operands alone -/

def Agree (ts : List Tmp) (e e' : Env) : Prop := ∀ t ∈ ts, e.get t = e'.get t

theorem Agree.left {a b : List Tmp} {e e' : Env} (h : Agree (a ++ b) e e') : Agree a e e' := fun t ht => h t (by simp [ht])
theorem Agree.right {a b : List Tmp} {e e' : Env} (h : Agree (a ++ b) e e') : Agree b e e' := fun t ht => h t (by simp [ht])

theorem aval_congr {e e' : Env} {x : Operand} (h : Agree (opds x) e e') : aval e x = aval e' x := by
  cases x with
  | tmp t => exact h t (by simp [opds])
  | _ => rfl

theorem avals_congr {e e' : Env} : ∀ {xs : List Operand}, Agree (opdsL xs) e e' → avals e xs = avals e' xs
  | [], _ => rfl
  | x :: r, h => by simp only [avals]; rw [aval_congr h.left, avals_congr h.right]

theorem mapO_congr {e e' : Env} {x : Option Operand} (h : Agree (opdsO x) e e') : x.map (aval e) = x.map (aval e') := by
  cases x with
  | none => rfl
  | some x => simp only [Option.map_some]; rw [aval_congr h]

theorem withO_congr {e e' : Env} : ∀ {ps : List (Nat × Operand)}, Agree (opdsL (ps.map (·.2))) e e' → withO e ps = withO e' ps
  | [], _ => rfl
  | p :: r, h => by
    have ih := withO_congr (ps := r) h.right
    simp only [withO, List.map_cons] at ih ⊢
    rw [aval_congr (x := p.2) h.left, ih]

theorem withO2_congr {e e' : Env} : ∀ {ps : List (Nat × Nat × Operand)}, Agree (opdsL (ps.map (·.2.2))) e e' → withO2 e ps = withO2 e' ps
  | [], _ => rfl
  | p :: r, h => by
    have ih := withO2_congr (ps := r) h.right
    simp only [withO2, List.map_cons] at ih ⊢
    rw [aval_congr (x := p.2.2) h.left, ih]

theorem onB_congr {e e' : Env} {ts : List Tmp} {x : AV} (h : Agree ts e e') : onB e ts x = onB e' ts x := by
  unfold onB
  cases x <;> try rfl
  rename_i l o
  simp only
  rw [Bool.eq_iff_iff, List.any_eq_true, List.any_eq_true]
  exact ⟨fun ⟨t, h1, h2⟩ => ⟨t, h1, by rw [← h t h1]; exact h2⟩, fun ⟨t, h1, h2⟩ => ⟨t, h1, by rw [h t h1]; exact h2⟩⟩
theorem offB_congr {e e' : Env} {ts : List Tmp} {x : AV} (h : Agree ts e e') : offB e ts x = offB e' ts x := by
  unfold offB
  cases x <;> try rfl
  rename_i l o
  simp only
  rw [Bool.eq_iff_iff, List.all_eq_true, List.all_eq_true]
  exact ⟨fun h2 t h1 => by rw [← h t h1]; exact h2 t h1, fun h2 t h1 => by rw [h t h1]; exact h2 t h1⟩
theorem opAV_congr {e e' : Env} {st : St} {k : IK} (h : Agree (ikOps k) e e') : opAV pure call e st k = opAV pure call e' st k := by
  cases k <;> simp only [ikOps] at h <;> simp only [opAV, valAV]
  case pick c a b => rw [aval_congr h.left.left, aval_congr h.left.right, aval_congr h.right]
  case min3 c a b => rw [aval_congr h.left.left, aval_congr h.left.right, aval_congr h.right]
  case build zs ps => rw [withO2_congr h]
  case lit z ag zero n ps => rw [withO_congr h]
  case litm z ag zero n ps => rw [withO_congr h]
  case func f a b => rw [avals_congr h.left, avals_congr h.right]
  case slice z x lo hi mx => rw [aval_congr h.left.left.left, mapO_congr h.left.left.right, mapO_congr h.left.right, mapO_congr h.right]
  case slicea n z ag x lo hi mx => rw [aval_congr h.left.left.left, mapO_congr h.left.left.right, mapO_congr h.left.right, mapO_congr h.right]
  case mapPut m k x => rw [aval_congr h.left.left, aval_congr h.left.right, aval_congr h.right]
  case sliceStr x lo hi => rw [aval_congr h.left.left, mapO_congr h.left.right, mapO_congr h.right]
  case call p f args => rw [avals_congr h]
  case callk f args => rw [avals_congr h]
  case calll f args => rw [avals_congr h]
  case callz f args => rw [avals_congr h]
  case callr f args => rw [avals_congr h]
  case invoke tab x args => rw [aval_congr h.left, avals_congr h.right]
  case loadp ts s ag a => rw [aval_congr h.left, onB_congr h.right]
  case storeq ts s a x => rw [aval_congr h.left.left, aval_congr h.left.right, offB_congr h.right]
  case callv p f args => rw [aval_congr h.left, avals_congr h.right]
  all_goals first
    | (rw [aval_congr h]; done)
    | (rw [aval_congr h.left, aval_congr h.right]; done)
    | rfl

theorem wantedAV_congr {e e' : Env} {g : Option (Tmp × Bool)} (h : Agree (match g with | some (t, _) => [t] | none => []) e e') : wantedAV e g = wantedAV e' g := by
  cases g with
  | none => rfl
  | some g => obtain ⟨t, b⟩ := g; simp only [wantedAV]; rw [h t (by simp)]

/-! ### guards -/

theorem wanted_of {ops : Array Oper} {o : Oper} {io : IOp} {pv rs : Bool} {mt : Mode} {nt : Nat} {us : Us} {w : World} {K : Kx} {env : Env} {a : Act} {b : Bool} (hc : compIOp P pure pv rs mt nt ops o = some io) (hE : EnvRel us w K env a) (h : wantedAV env io.g = some b) :
    Region.wanted o (yielded ops a.tmps) = b := by
  unfold compIOp at hc
  split at hc
  · split at hc
    · split at hc
      · rename_i hg
        simp only [Option.some.injEq] at hc
        subst hc
        simp only [wantedAV, Option.some.injEq] at h
        subst h
        simp [Region.wanted, hg]
      · rename_i j want hg
        split at hc
        · rename_i t ht
          simp only [Option.some.injEq] at hc
          subst hc
          simp only [wantedAV] at h
          have hr := hE t
          have hy : yielded ops a.tmps j = match a.tmps[t]? with | some (.bool b) => some b | _ => none := by
            unfold yielded; rw [ht]; rfl
          simp only [Region.wanted, hg, hy]
          have hget : a.tmps.getD t undef = (a.tmps[t]?).getD undef := by simp
          rw [hget] at hr
          split at h
          · rename_i v hv
            rw [hv] at hr
            have e := hr.v_inv
            simp only [Option.some.injEq] at h
            subst h
            cases ha : a.tmps[t]? with
            | none => rw [ha] at e; simp [undef] at e
            | some x => rw [ha] at e; simp only [Option.getD_some] at e; subst e; cases v <;> cases want <;> rfl
          · rename_i x hx hv
            rw [hv] at hr
            have e := hr.v_inv
            simp only [Option.some.injEq] at h
            subst h
            cases ha : a.tmps[t]? with
            | none => rfl
            | some y =>
              rw [ha] at e; simp only [Option.getD_some] at e; subst e
              cases y <;> first | rfl | exact absurd rfl (hx _)
          · simp at h
        · simp at hc
    · simp at hc
  · simp at hc

theorem compIOp_dst {ops : Array Oper} {o : Oper} {io : IOp} {pv rs : Bool} {mt : Mode} {nt : Nat} (hc : compIOp P pure pv rs mt nt ops o = some io) : io.d = o.dst ∧ compOp P pure pv rs mt o.op = some io.k ∧ o.dst.all (· < nt) = true := by
  unfold compIOp at hc
  split at hc
  · rename_i k hk
    split at hc
    · rename_i hd
      split at hc
      · simp only [Option.some.injEq] at hc; subst hc; exact ⟨rfl, hk, hd⟩
      · split at hc
        · simp only [Option.some.injEq] at hc; subst hc; exact ⟨rfl, hk, hd⟩
        · simp at hc
    · simp at hc
  · simp at hc

/-! ### the names of what is laid anew -/

theorem Good.extend {us : Us} {w : World} {K : Kx} {S S2 : St} (hG : Good us w K S) (h1 : ∃ r, S2.store = S.store ++ r) (h2 : ∃ r, S2.tips = S.tips ++ r) : Good us w { K with T := S2.tips } S2 ∧ Ext us w K us w { K with T := S2.tips } := by
  obtain ⟨r1, h1⟩ := h1
  obtain ⟨r2, h2⟩ := h2
  have hk : KLe us w K us w { K with T := S2.tips } := by
    refine ⟨fun _ _ h => ⟨h, fun _ h => h⟩, fun t m h => ⟨m, ?_, Nat.le_refl _, fun _ _ h => ⟨h, rfl, fun _ h => h⟩⟩⟩
    rw [hG.T] at h
    simp only [h2]
    rw [List.getElem?_append_left (List.getElem?_eq_some_iff.1 h).1]; exact h
  have hg : ∀ l c, K.lm l = some c → S2.store[l]? = S.store[l]? := fun l c h => by rw [h1, List.getElem?_append_left (hG.lmlt l c h)]
  refine ⟨⟨rfl, fun l c h => ?_, fun l c cs hl hs => ?_, fun l l' c h h' => by rw [hg l c h, hg l' c h']; exact hG.inj l l' c h h', hG.tkinj, fun t c h => ?_, hG.tkus, hG.uslt, fun l c h => by rw [hg l c h]; exact hG.disj l c h, hG.lmtk⟩, ⟨rfl, rfl, rfl, Nat.le_refl _, fun _ _ h => h, .refl _ _, hk, fun _ _ _ _ => ⟨rfl, rfl⟩, fun _ _ h _ => h, fun l _ h => .inl ⟨l, h⟩, fun _ _ h => .inl h⟩⟩
  · have := hG.lmlt l c h; rw [h1]; simp; omega
  · have hlt := hG.lmlt l c hl
    rw [h1, List.getElem?_append_left hlt] at hs
    exact (hG.blk l c cs hl hs).mono (.refl _ _) hk rfl
  · have := hG.tklt t c h; rw [h2]; simp; omega

/-- The next operation that turns something and is not done. -/
theorem exists_next (p D : Nat → Bool) : ∀ n, ∃ q, q ≤ n ∧ (q < n → p q = true ∧ D q = false) ∧ ∀ j, j < q → p j = true → D j = true
  | 0 => ⟨0, Nat.le_refl _, fun h => absurd h (by omega), fun j h => absurd h (by omega)⟩
  | n + 1 => by
    obtain ⟨q, h1, h2, h3⟩ := exists_next p D n
    by_cases e : q < n
    · exact ⟨q, by omega, fun _ => h2 e, h3⟩
    · have : q = n := by omega
      subst this
      by_cases hp : p q = true ∧ D q = false
      · exact ⟨q, by omega, fun _ => hp, h3⟩
      · refine ⟨q + 1, Nat.le_refl _, fun h => absurd h (by omega), fun j hj hpj => ?_⟩
        by_cases e2 : j = q
        · subst e2
          cases hD : D j with
          | true => rfl
          | false => exact absurd ⟨hpj, hD⟩ hp
        · exact h3 j (by omega) hpj

def ikAt (ks : List IOp) (i : Nat) : IK := ((ks[i]?).map (·.k)).getD (.move (.tmp 0))

theorem ikAt_eq {ks : List IOp} {i : Nat} (h : i < ks.length) : ikAt ks i = ks[i].k := by simp [ikAt, h]

/-- What is named anew has names from L and N on. -/
structure NewK (L N : Nat) (K K' : Kx) : Prop where
  lm : ∀ l c, K'.lm l = some c → K.lm l = some c ∨ L ≤ l
  tk : ∀ t, (K'.tk t).isSome = true → (K.tk t).isSome = true ∨ N ≤ t

theorem NewK.refl (L N : Nat) (K : Kx) : NewK L N K K := ⟨fun _ _ h => .inl h, fun _ h => .inl h⟩
theorem NewK.trans {L N L' N' : Nat} {K K1 K2 : Kx} (h : NewK L N K K1) (h' : NewK L' N' K1 K2) (hL : L ≤ L') (hN : N ≤ N') : NewK L N K K2 :=
  ⟨fun l c e => (h'.lm l c e).elim (h.lm l c) (fun e => .inr (by omega)), fun t e => (h'.tk t e).elim (h.tk t) (fun e => .inr (by omega))⟩
theorem Fresh.newK {st st' : St} {K K' : Kx} (h : Fresh st st' K K') : NewK st.store.length st.tips.length K K' :=
  ⟨fun l c e => (h.lm l c e).elim .inl (fun e => .inr e.1), fun t e => (h.tk t e).elim .inl (fun e => .inr e.1)⟩

/-- What holds between two operations of a region, those of D being done. -/
structure Inv (ks : List IOp) (E : Nat → Env) (T : Nat → St) (V : Nat → AV) (nt : Nat) (ds : List Deferred × (Tmp → Value)) (us0 : Us) (w0 : World) (K0 : Kx) (D : Nat → Bool) (a : Act) (w : World) (us : Us) (K : Kx) (qS qT : Nat) : Prop where
  ext : Ext us0 w0 K0 us w K
  good : Good us w K ⟨(T qS).store, (T qT).tips⟩
  env : EnvRel us w K (envOf ks V D (E 0) ks.length) a
  qS1 : qS ≤ ks.length
  qS2 : qS < ks.length → turnsS (ikAt ks qS) = true ∧ D qS = false
  qS3 : ∀ j, j < qS → turnsS (ikAt ks j) = true → D j = true
  qT1 : qT ≤ ks.length
  qT2 : qT < ks.length → turnsT (ikAt ks qT) = true ∧ D qT = false
  qT3 : ∀ j, j < qT → turnsT (ikAt ks j) = true → D j = true
  freeL : ∀ i, i < ks.length → D i = false → ∀ l, (T i).store.length ≤ l → l < (T (i + 1)).store.length → K.lm l = none
  freeT : ∀ i, i < ks.length → D i = false → ∀ t, (T i).tips.length ≤ t → t < (T (i + 1)).tips.length → K.tk t = none
  size : nt ≤ a.tmps.size
  new : NewK (T 0).store.length (T 0).tips.length K0 K
  defers : a.defers = ds.1 ∧ ∀ t, (∀ i (h : i < ks.length), ks[i].d ≠ some t) → a.tmps.getD t undef = ds.2 t

/-- A way through the operations of a region that keeps apart what must not change places. -/
def Okay (ks : List IOp) : List Nat → (Nat → Bool) → Prop
  | [], D => ∀ i, i < ks.length → D i = true
  | i :: r, D => i < ks.length ∧ D i = false ∧
      (∀ j (hi : i < ks.length) (hj : j < ks.length), (j < i → conf ks[j] ks[i] = true → D j = true) ∧ (i < j → conf ks[i] ks[j] = true → D j = false)) ∧
      Okay ks r (fun j => D j || j == i)

theorem conf_false {a b : IOp} (h : conf a b = false) : (turns a.k &&& uses b.k = 0) ∧ (turns b.k &&& uses a.k = 0) ∧ (∀ d, a.d = some d → d ∉ looks b ∧ b.d ≠ some d) ∧ (∀ d, b.d = some d → d ∉ looks a) := by
  simp only [conf, Bool.not_eq_false', Bool.and_eq_true, beq_iff_eq] at h
  obtain ⟨⟨⟨h1, h2⟩, h3⟩, h4⟩ := h
  refine ⟨h1, h2, fun d hd => ?_, fun d hd => ?_⟩
  · rw [hd] at h3; simpa using h3
  · rw [hd] at h4; simpa using h4

theorem turns_uses (k : IK) : (turnsS k = true → usesS k = true) ∧ (turnsT k = true → usesT k = true) := by
  cases k <;> simp only [turnsS, turnsT, usesS, usesT, turns, uses] <;> first
    | decide
    | (split <;> decide)
    | simp

theorem and_testBit {x y : Nat} (h : x &&& y = 0) (i : Nat) : x.testBit i = true → y.testBit i = true → False := by
  intro h1 h2
  have := Nat.testBit_and x y i
  rw [h, h1, h2] at this
  simp at this
end
end Go.Ev

namespace Go.Ev
open Go

section
variable {P : Program} {pure : FuncId → Bool} {call : CallF}
variable {ks : List IOp} {E : Nat → Env} {T : Nat → St} {V : Nat → AV} {nt : Nat} {ds : List Deferred × (Tmp → Value)} {us0 : Us} {w0 : World} {K0 : Kx}

theorem put_getD (a : Act) (d : Option Tmp) (x : Value) (t : Tmp) (h : ∀ i, d = some i → i < a.tmps.size) : (a.put d x).tmps.getD t undef = if d = some t then x else a.tmps.getD t undef := by
  cases d with
  | none => simp [Act.put]
  | some i =>
    have hi := h i rfl
    simp only [Act.put, Option.some.injEq]
    by_cases e : i = t
    · subst e; simp [hi]
    · simp [e, Array.getElem?_setIfInBounds_ne e]

theorem put_size (a : Act) (d : Option Tmp) (x : Value) : (a.put d x).tmps.size = a.tmps.size := by cases d <;> simp [Act.put]
theorem put_defers (a : Act) (d : Option Tmp) (x : Value) : (a.put d x).defers = a.defers := by cases d <;> rfl

/-- The next state of the invariant. -/
theorem Inv.next (ht : Trace pure call ks E T V) (hm : CallMono pure call) {D : Nat → Bool} {a : Act} {w : World} {us : Us} {K : Kx} {qS qT i : Nat} (h : Inv ks E T V nt ds us0 w0 K0 D a w us K qS qT)
    (hi : i < ks.length) (hDi : D i = false) (hconf : ∀ j (hj : j < ks.length), (j < i → conf ks[j] ks[i] = true → D j = true) ∧ (i < j → conf ks[i] ks[j] = true → D j = false))
    {x : Value} {us1 : Us} {w1 : World} {K1 : Kx} {S1 : St} (hd : ∀ d, ks[i].d = some d → d < nt) (hr : Rel us1 w1 K1 (V i) x) (he : Ext us w K us1 w1 K1) (hg : Good us1 w1 K1 S1) (hf : Fresh (T i) (T (i + 1)) K K1)
    (hS : S1.store = if turnsS ks[i].k = true then (T (i + 1)).store else (T qS).store) (hT : S1.tips = if turnsT ks[i].k = true then (T (i + 1)).tips else (T qT).tips) :
    ∃ us' K' qS' qT', Inv ks E T V nt ds us0 w0 K0 (fun j => D j || j == i) (a.put ks[i].d x) w1 us' K' qS' qT' := by
  let D' : Nat → Bool := fun j => D j || j == i
  have hD' : ∀ j, j ≠ i → D' j = D j := fun j hj => by simp [D', hj]
  have hD'i : D' i = true := by simp [D']
  -- the next turning operation
  have next : ∀ (tn : IK → Bool) (us_ : IK → Bool) (q : Nat) (b : Nat), (∀ k, tn k = (turns k).testBit b) → (∀ k, us_ k = (uses k).testBit b) → (∀ k, tn k = true → us_ k = true) → q ≤ ks.length → (q < ks.length → tn (ikAt ks q) = true ∧ D q = false) → (∀ j, j < q → tn (ikAt ks j) = true → D j = true) →
      ∃ q', q' ≤ ks.length ∧ (q' < ks.length → tn (ikAt ks q') = true ∧ D' q' = false) ∧ (∀ j, j < q' → tn (ikAt ks j) = true → D' j = true) ∧
        (if tn ks[i].k = true then i + 1 ≤ q' ∧ ∀ m (hm : m < ks.length), i + 1 ≤ m → m < q' → tn ks[m].k = false else q' = q) := by
    intro tn us_ q b htn hus htu hq1 hq2 hq3
    by_cases hti : tn ks[i].k = true
    · obtain ⟨q', g1, g2, g3⟩ := exists_next (fun j => tn (ikAt ks j)) D' ks.length
      refine ⟨q', g1, g2, g3, ?_⟩
      rw [if_pos hti]
      have hcf : ∀ m (hm : m < ks.length), tn ks[m].k = true → (m < i → D m = true) ∧ (i < m → D m = false) := by
        intro m hm hmt
        refine ⟨fun hlt => (hconf m hm).1 hlt ?_, fun hlt => (hconf m hm).2 hlt ?_⟩
        · cases hc : conf ks[m] ks[i] with
          | true => rfl
          | false =>
            have := (conf_false hc).1
            exact absurd (and_testBit this b (by rw [← htn]; exact hmt) (by rw [← hus]; exact htu _ hti)) (by simp)
        · cases hc : conf ks[i] ks[m] with
          | true => rfl
          | false =>
            have := (conf_false hc).1
            exact absurd (and_testBit this b (by rw [← htn]; exact hti) (by rw [← hus]; exact htu _ hmt)) (by simp)
      have hge : i + 1 ≤ q' := by
        rcases Nat.lt_or_ge q' (i + 1) with hlt | hge
        · have hqn : q' < ks.length := by omega
          obtain ⟨h1, h2⟩ := g2 hqn
          rw [ikAt_eq hqn] at h1
          by_cases e : q' = i
          · subst e; rw [hD'i] at h2; exact absurd h2 (by simp)
          · have := (hcf q' hqn h1).1 (by omega)
            rw [hD' q' e, this] at h2
            exact absurd h2 (by simp)
        · exact hge
      refine ⟨hge, fun m hmn h1 h2 => ?_⟩
      cases hmt : tn ks[m].k with
      | false => rfl
      | true =>
        have h3 := g3 m h2 (by rw [ikAt_eq hmn]; exact hmt)
        rw [hD' m (by omega)] at h3
        have h4 := (hcf m hmn hmt).2 (by omega)
        rw [h3] at h4
        exact absurd h4 (by simp)
    · refine ⟨q, hq1, fun hqn => ?_, fun j hj hjt => ?_, by rw [if_neg hti]⟩
      · obtain ⟨h1, h2⟩ := hq2 hqn
        refine ⟨h1, ?_⟩
        rw [hD' q ?_]; exact h2
        intro e; subst e; rw [ikAt_eq hqn] at h1; exact hti h1
      · have := hq3 j hj hjt
        simp [D', this]
  obtain ⟨qS', a1, a2, a3, a4⟩ := next turnsS usesS qS 0 (fun _ => rfl) (fun _ => rfl) (fun k => (turns_uses k).1) h.qS1 h.qS2 h.qS3
  obtain ⟨qT', b1, b2, b3, b4⟩ := next turnsT usesT qT 1 (fun _ => rfl) (fun _ => rfl) (fun k => (turns_uses k).2) h.qT1 h.qT2 h.qT3
  have eS : ∃ r, (T qS').store = S1.store ++ r := by
    rw [hS]
    split at a4
    · next hh => rw [if_pos hh]; exact ht.pushS hm a4.1 a1 a4.2
    · next hh => rw [if_neg hh, a4]; exact ⟨[], by simp⟩
  have eT : ∃ r, (T qT').tips = S1.tips ++ r := by
    rw [hT]
    split at b4
    · next hh => rw [if_pos hh]; exact ht.pushT hm b4.1 b1 b4.2
    · next hh => rw [if_neg hh, b4]; exact ⟨[], by simp⟩
  obtain ⟨hg2, he2⟩ := hg.extend (S2 := ⟨(T qS').store, (T qT').tips⟩) eS eT
  have hput : ∀ t, (a.put ks[i].d x).tmps.getD t undef = if ks[i].d = some t then x else a.tmps.getD t undef := fun t => put_getD a ks[i].d x t (fun d hdd => Nat.lt_of_lt_of_le (hd d hdd) h.size)
  refine ⟨us1, _, qS', qT', h.ext.trans (he.trans he2), hg2, fun t => ?_, a1, a2, a3, b1, b2, b3, fun j hj hjD l hl1 hl2 => ?_, fun j hj hjD l hl1 hl2 => ?_, by rw [put_size]; exact h.size, ?_, ⟨by rw [put_defers]; exact h.defers.1, fun t ht0 => by rw [put_getD _ _ _ _ (fun d hdd => Nat.lt_of_lt_of_le (hd d hdd) h.size), if_neg (ht0 i hi)]; exact h.defers.2 t ht0⟩⟩
  · rw [hput]
    by_cases e : ks[i].d = some t
    · rw [if_pos e]
      have e1 : (envOf ks V D' (E 0) ks.length).get t = (E (i + 1)).get t := by
        rw [← envOf_prefix (D := fun j => decide (j < i + 1)) ht (i + 1) ks.length hi (Nat.le_refl _) (fun j hj => by simpa using hj) (fun j hj _ => by simp; omega)]
        refine envOf_congr ks.length (fun j hj hjd => ?_)
        rw [List.getElem?_eq_getElem hj] at hjd
        simp only [Option.bind_some] at hjd
        rcases Nat.lt_trichotomy j i with hlt | rfl | hgt
        · rw [hD' j (by omega)]
          have : D j = true := (hconf j hj).1 hlt (by
            cases hc : conf ks[j] ks[i] with
            | true => rfl
            | false => exact absurd e ((conf_false hc).2.2.1 t hjd).2)
          rw [this]; simp; omega
        · rw [hD'i]; simp
        · rw [hD' j (by omega)]
          have : D j = false := (hconf j hj).2 hgt (by
            cases hc : conf ks[i] ks[j] with
            | true => rfl
            | false => exact absurd hjd ((conf_false hc).2.2.1 t e).2)
          rw [this]; simp; omega
      rw [e1, (ht.step i hi).1, get_setD, if_pos e]
      exact hr.mono he2.usle he2.kle
    · rw [if_neg e]
      have e1 : (envOf ks V D' (E 0) ks.length).get t = (envOf ks V D (E 0) ks.length).get t := by
        refine envOf_congr ks.length (fun j hj hjd => ?_)
        by_cases ej : j = i
        · subst ej
          rw [List.getElem?_eq_getElem hj] at hjd
          exact absurd hjd e
        · exact hD' j ej
      rw [e1]
      exact (h.env t).mono (he.trans he2).usle (he.trans he2).kle
  · have hji : j ≠ i := fun e => by subst e; simp at hjD
    replace hjD : D j = false := by simpa [hji] using hjD
    have h0 := h.freeL j hj hjD l hl1 hl2
    cases hk : K1.lm l with
    | none => rfl
    | some c =>
      rcases hf.lm l c hk with h1 | ⟨h1, h2⟩
      · rw [h0] at h1; exact absurd h1 (by simp)
      · exfalso
        rcases Nat.lt_or_gt_of_ne hji with hlt | hgt
        · have := (ht.mono hm (i := j + 1) (j := i) (by omega) (by omega)).1; omega
        · have := (ht.mono hm (i := i + 1) (j := j) (by omega) (by omega)).1; omega
  · have hji : j ≠ i := fun e => by subst e; simp at hjD
    replace hjD : D j = false := by simpa [hji] using hjD
    have h0 := h.freeT j hj hjD l hl1 hl2
    cases hk : K1.tk l with
    | none => rfl
    | some c =>
      rcases hf.tk l (by rw [hk]; rfl) with h1 | ⟨h1, h2⟩
      · rw [h0] at h1; exact absurd h1 (by simp)
      · exfalso
        rcases Nat.lt_or_gt_of_ne hji with hlt | hgt
        · have := (ht.mono hm (i := j + 1) (j := i) (by omega) (by omega)).2; omega
        · have := (ht.mono hm (i := i + 1) (j := j) (by omega) (by omega)).2; omega
  · have hmo := ht.mono hm (i := 0) (j := i) (by omega) (by omega)
    refine h.new.trans (K1 := K) (L' := (T i).store.length) (N' := (T i).tips.length) ?_ hmo.1 hmo.2
    exact ⟨fun l c e => hf.newK.lm l c e, fun t e => hf.newK.tk t e⟩

theorem inv_class {D : Nat → Bool} {q i : Nat} (tn us_ : IK → Bool) (b : Nat) (htn : ∀ k, tn k = (turns k).testBit b) (hus : ∀ k, us_ k = (uses k).testBit b) (htu : ∀ k, tn k = true → us_ k = true)
    (hi : i < ks.length) (hDi : D i = false) (hconf : ∀ j (hj : j < ks.length), (j < i → conf ks[j] ks[i] = true → D j = true) ∧ (i < j → conf ks[i] ks[j] = true → D j = false))
    (hq1 : q ≤ ks.length) (hq2 : q < ks.length → tn (ikAt ks q) = true ∧ D q = false) (hq3 : ∀ j, j < q → tn (ikAt ks j) = true → D j = true) :
    (tn ks[i].k = true → q = i) ∧ (tn ks[i].k = false → us_ ks[i].k = true → i + 1 ≤ q ∧ ∀ m (hm : m < ks.length), i + 1 ≤ m → m < q → tn ks[m].k = false) := by
  have low : us_ ks[i].k = true → ¬ (q < i) := by
    intro hu hlt
    have hqn : q < ks.length := by omega
    obtain ⟨h1, h2⟩ := hq2 hqn
    rw [ikAt_eq hqn] at h1
    have := (hconf q hqn).1 hlt (by
      cases hc : conf ks[q] ks[i] with
      | true => rfl
      | false => exact absurd (and_testBit (conf_false hc).1 b (by rw [← htn]; exact h1) (by rw [← hus]; exact hu)) (by simp))
    rw [this] at h2; exact absurd h2 (by simp)
  refine ⟨fun h => ?_, fun h hu => ?_⟩
  · have h1 := low (htu _ h)
    rcases Nat.lt_or_ge i q with hlt | hge
    · have := hq3 i hlt (by rw [ikAt_eq hi]; exact h)
      rw [hDi] at this; exact absurd this (by simp)
    · omega
  · have h1 := low hu
    have h2 : q ≠ i := by
      intro e; subst e
      have := (hq2 hi).1
      rw [ikAt_eq hi, h] at this
      exact absurd this (by simp)
    refine ⟨by omega, fun m hm h3 h4 => ?_⟩
    cases hmt : tn ks[m].k with
    | false => rfl
    | true =>
      have h5 := hq3 m h4 (by rw [ikAt_eq hm]; exact hmt)
      have h6 := (hconf m hm).2 (by omega) (by
        cases hc : conf ks[i] ks[m] with
        | true => rfl
        | false => exact absurd (and_testBit (conf_false hc).2.1 b (by rw [← htn]; exact hmt) (by rw [← hus]; exact hu)) (by simp))
      rw [h5] at h6; exact absurd h6 (by simp)

/-- How an operation of the region stands to the one of the text. -/
def OpOf (ks : List IOp) (E : Nat → Env) (T : Nat → St) (i : Nat) (io k : IOp) : Prop :=
  io = k ∨ (∃ ts s ag x, io.k = .load s ag x ∧ k = ⟨io.d, io.g, .loadp ts s ag x⟩ ∧ (wantedAV (E i) io.g = some true → ∀ q, q ≤ ks.length → loadAV s ag (T q) (aval (E i) x) = loadAV s ag (T i) (aval (E i) x))) ∨
    (∃ ts s a x, io.k = .store s a x ∧ k = ⟨io.d, io.g, .storeq ts s a x⟩)

theorem OpOf.dg {i : Nat} {io k : IOp} (h : OpOf ks E T i io k) : k.d = io.d ∧ k.g = io.g := by
  rcases h with rfl | ⟨_, _, _, _, _, rfl, _⟩ | ⟨_, _, _, _, _, rfl⟩ <;> exact ⟨rfl, rfl⟩

theorem loadAV_tips (s : Nat) (ag : Bool) (S S' : St) (h : S.store = S'.store) (x : AV) : loadAV s ag S x = loadAV s ag S' x := by
  cases x <;> simp only [loadAV, h]

theorem region_any {G : Nat → List Nat} {ops : Array Oper} {Q : Exit → Act → World → Prop} (hcomp : ∀ i (h : i < ks.length), ∃ (pv rs : Bool) (mt : Mode) (o : Oper) (io : IOp), ops[i]? = some o ∧ compIOp P pure pv rs mt nt ops o = some io ∧ GlobOk mt.2.2.2 us0 w0 ∧ OpOf ks E T i io ks[i]) (hgl : GlobOk G us0 w0) (ht : Trace pure call ks E T V) (hm : CallMono pure call) (hcall : CallOk P G pure call) (hcs : CallStore pure call)
    (hQ : ∀ a w us K qS qT D, (∀ i, i < ks.length → D i = true) → Inv ks E T V nt ds us0 w0 K0 D a w us K qS qT → Q .normal a w) :
    ∀ (π : List Nat) (D : Nat → Bool) (a : Act) (w : World), Okay ks π D → (∃ us K qS qT, Inv ks E T V nt ds us0 w0 K0 D a w us K qS qT) → wpOps P ops Q π a w := by
  intro π
  induction π with
  | nil => intro D a w hD ⟨us, K, qS, qT, h⟩; exact hQ a w us K qS qT D hD h
  | cons i rest ih =>
    intro D a w ⟨hi, hDi, hconf, hrest⟩ ⟨us, K, qS, qT, h⟩
    have hconf' := fun j hj => hconf j hi hj
    obtain ⟨pv, rs, mt, o, io, ho, hc, hgm, hof⟩ := hcomp i hi
    obtain ⟨hd1, hd2, hd3⟩ := compIOp_dst hc
    obtain ⟨hod, hog⟩ := hof.dg
    rw [← hod] at hd1
    have hdlt : ∀ d, ks[i].d = some d → d < nt := by
      intro d hd
      rw [hd1] at hd
      rw [hd] at hd3
      simpa using hd3
    have hag : Agree (looks ks[i]) (envOf ks V D (E 0) ks.length) (E i) := by
      intro t htl
      rw [← envOf_prefix (D := fun j => decide (j < i)) ht i ks.length (by omega) (Nat.le_refl _) (fun j hj => by simpa using hj) (fun j hj _ => by simp; omega)]
      refine envOf_congr ks.length (fun j hj hjd => ?_)
      rw [List.getElem?_eq_getElem hj] at hjd
      simp only [Option.bind_some] at hjd
      rcases Nat.lt_trichotomy j i with hlt | rfl | hgt
      · have : D j = true := (hconf' j hj).1 hlt (by
          cases hcf : conf ks[j] ks[i] with
          | true => rfl
          | false => exact absurd htl ((conf_false hcf).2.2.1 t hjd).1)
        rw [this]; simp; omega
      · rw [hDi]; simp
      · have : D j = false := (hconf' j hj).2 hgt (by
          cases hcf : conf ks[i] ks[j] with
          | true => rfl
          | false => exact absurd htl ((conf_false hcf).2.2.2 t hjd))
        rw [this]; simp; omega
    have hw : wantedAV (envOf ks V D (E 0) ks.length) ks[i].g = wantedAV (E i) ks[i].g := wantedAV_congr (hag.left)
    have hcS := inv_class (D := D) turnsS usesS 0 (fun _ => rfl) (fun _ => rfl) (fun k => (turns_uses k).1) hi hDi hconf' h.qS1 h.qS2 h.qS3
    have hcT := inv_class (D := D) turnsT usesT 1 (fun _ => rfl) (fun _ => rfl) (fun k => (turns_uses k).2) hi hDi hconf' h.qT1 h.qT2 h.qT3
    simp only [wpOps, ho]
    rcases (ht.step i hi).2 with ⟨hwt, hop⟩ | ⟨hwt, hV, hTi⟩
    · rw [wanted_of hc h.env (by rw [← hog]; exact hw.trans hwt), if_pos rfl]
      refine .inl ?_
      have hop' : opAV pure call (envOf ks V D (E 0) ks.length) (T i) ks[i].k = some (V i, T (i + 1)) := (opAV_congr hag.right).trans hop
      let S' : St := ⟨if turnsS ks[i].k = true then (T (i + 1)).store else (T qS).store, if turnsT ks[i].k = true then (T (i + 1)).tips else (T qT).tips⟩
      have hcp : Compat ks[i].k (T i) (T (i + 1)) ⟨(T qS).store, (T qT).tips⟩ S' K := by
        refine ⟨fun e => ⟨by rw [hcS.1 e], by simp [S', e]⟩, fun e => by simp [S', e], fun e hu => ?_, fun e => ⟨by rw [hcT.1 e], by simp [S', e]⟩, fun e => by simp [S', e], fun e hu => ?_, h.freeL i hi hDi, h.freeT i hi hDi⟩
        · obtain ⟨g1, g2⟩ := hcS.2 e hu
          exact ht.pushS hm g1 h.qS1 g2
        · obtain ⟨g1, g2⟩ := hcT.2 e hu
          exact ht.pushT hm g1 h.qT1 g2
      rcases hof with e | ⟨ts, s, ag, x, e1, e2, hpr⟩ | ⟨ts, s, y, x, e1, e2⟩
      · rw [e] at hd2
        refine op_goes hd2 hop' hcall hcs (hgl.mono h.ext.usle) (hgm.mono h.ext.usle) h.env h.good hcp _ _ (fun x us1 w1 K1 hr he hg hf => ?_)
        rw [← hd1]
        exact ih _ _ _ hrest (h.next ht hm hi hDi hconf' hdlt hr he hg hf rfl rfl)
      · have ek : ks[i].k = .loadp ts s ag x := by rw [e2]
        rw [ek] at hop'
        have hop0 := hop
        rw [ek] at hop0
        simp only [opAV, only] at hop' hop0
        have hax : aval (envOf ks V D (E 0) ks.length) x = aval (E i) x := aval_congr (by have := hag.right; rw [ek] at this; exact this.left)
        have hl := hpr (by rw [← hog]; exact hwt) qS h.qS1
        split at hop'
        · split at hop'
          · rename_i a0 ha0
            simp only [Option.some.injEq, Prod.mk.injEq] at hop'
            obtain ⟨rfl, hTi⟩ := hop'
            rw [e1] at hd2
            have hld : opAV pure call (envOf ks V D (E 0) ks.length) ⟨(T qS).store, (T qT).tips⟩ (.load s ag x) = some (V i, ⟨(T qS).store, (T qT).tips⟩) := by
              simp only [opAV, only]
              rw [loadAV_tips s ag ⟨(T qS).store, (T qT).tips⟩ (T qS) rfl, hax, hl, ← hax, ha0]
            have hcp2 : Compat (.load s ag x) ⟨(T qS).store, (T qT).tips⟩ ⟨(T qS).store, (T qT).tips⟩ ⟨(T qS).store, (T qT).tips⟩ ⟨(T qS).store, (T qT).tips⟩ K :=
              ⟨fun _ => ⟨rfl, rfl⟩, fun _ => rfl, fun _ _ => ⟨[], by simp⟩, fun _ => ⟨rfl, rfl⟩, fun _ => rfl, fun _ _ => ⟨[], by simp⟩, fun l h1 h2 => absurd h1 (by omega), fun l h1 h2 => absurd h1 (by omega)⟩
            refine op_goes hd2 hld hcall hcs (hgl.mono h.ext.usle) (hgm.mono h.ext.usle) h.env h.good hcp2 _ _ (fun y us1 w1 K1 hr he hg hf => ?_)
            rw [← hd1]
            have hf' : Fresh (T i) (T (i + 1)) K K1 := ⟨fun l c hk => (hf.lm l c hk).elim .inl (fun h2 => absurd h2.1 (by omega)), fun t hk => (hf.tk t hk).elim .inl (fun h2 => absurd h2.1 (by omega))⟩
            refine ih _ _ _ hrest (h.next ht hm hi hDi hconf' hdlt hr he hg hf' ?_ ?_)
            · rw [ek]; simp [turnsS, turns]
            · rw [ek]; simp [turnsT, turns]
          · simp at hop'
        · simp at hop'
      · have ek : ks[i].k = .storeq ts s y x := by rw [e2]
        rw [ek] at hop' hcp
        rw [e1] at hd2
        have hst : opAV pure call (envOf ks V D (E 0) ks.length) (T i) (.store s y x) = some (V i, T (i + 1)) := by
          simp only [opAV] at hop' ⊢
          split at hop'
          · exact hop'
          · simp at hop'
        have hcp2 : Compat (.store s y x) (T i) (T (i + 1)) ⟨(T qS).store, (T qT).tips⟩ S' K := ⟨hcp.s1, hcp.s2, hcp.s3, hcp.t1, hcp.t2, hcp.t3, hcp.freeL, hcp.freeT⟩
        refine op_goes hd2 hst hcall hcs (hgl.mono h.ext.usle) (hgm.mono h.ext.usle) h.env h.good hcp2 _ _ (fun z us1 w1 K1 hr he hg hf => ?_)
        rw [← hd1]
        exact ih _ _ _ hrest (h.next ht hm hi hDi hconf' hdlt hr he hg hf rfl rfl)
    · rw [wanted_of hc h.env (by rw [← hog]; exact hw.trans hwt), if_neg (by simp)]
      rw [← hd1]
      have hr : Rel us w K (V i) undef := by rw [hV]; exact .v K _ rfl
      refine ih _ _ _ hrest (h.next ht hm hi hDi hconf' hdlt hr (.refl _ _ _) h.good ⟨fun _ _ h => .inl h, fun _ h => .inl h⟩ ?_ ?_)
      · split
        · next e => rw [hcS.1 e, hTi]
        · rfl
      · split
        · next e => rw [hcT.1 e, hTi]
        · rfl
end
end Go.Ev

namespace Go.Ev
open Go

/-! ## The orders that the edges allow -/

theorem bits_fold (g : Nat → Nat) (b : Edge → Bool) (i : Nat) : ∀ (l : List Edge) (s : Nat), (l.foldl (fun s e => if b e = true then s ||| 2 ^ e.on ||| g e.on else s) s).testBit i = true →
    s.testBit i = true ∨ ∃ e ∈ l, b e = true ∧ (e.on = i ∨ (g e.on).testBit i = true)
  | [], s, h => .inl h
  | e :: l, s, h => by
    simp only [List.foldl_cons] at h
    rcases bits_fold g b i l _ h with h1 | ⟨e', he', h2⟩
    · by_cases hb : b e = true
      · simp only [hb, if_true, Nat.testBit_or, Bool.or_eq_true, Nat.testBit_two_pow, decide_eq_true_eq] at h1
        rcases h1 with (h1 | h1) | h1
        · exact .inl h1
        · exact .inr ⟨e, by simp, hb, .inl h1⟩
        · exact .inr ⟨e, by simp, hb, .inr h1⟩
      · simp only [hb, Bool.false_eq_true, if_false] at h1
        exact .inl h1
    · exact .inr ⟨e', by simp [he'], h2⟩

def befStep (acc : Array Nat) (o : Oper) : Array Nat :=
  acc.push (o.after.foldl (fun s e => if Region.binds .any e = true then s ||| 2 ^ e.on ||| acc.getD e.on 0 else s) 0)

theorem before_eq (ops : Array Oper) : Region.before ops = ops.toList.foldl befStep #[] := by
  unfold Region.before
  rw [← Array.foldl_toList]
  rfl

theorem bef_fold : ∀ (l : List Oper) (acc : Array Nat), (l.foldl befStep acc).size = acc.size + l.length ∧ (∀ k, k < acc.size → (l.foldl befStep acc)[k]? = acc[k]?) ∧
    ∀ j (h : j < l.length), ∃ acc' : Array Nat, acc'.size = acc.size + j ∧ (∀ k, k < acc.size + j → acc'[k]? = (l.foldl befStep acc)[k]?) ∧
      (l.foldl befStep acc)[acc.size + j]? = some (l[j].after.foldl (fun s e => if Region.binds .any e = true then s ||| 2 ^ e.on ||| acc'.getD e.on 0 else s) 0)
  | [], acc => ⟨by simp, fun _ _ => rfl, fun j h => absurd h (by simp)⟩
  | o :: l, acc => by
    obtain ⟨h1, h2, h3⟩ := bef_fold l (befStep acc o)
    have hs : (befStep acc o).size = acc.size + 1 := by simp [befStep]
    simp only [List.foldl_cons]
    refine ⟨by rw [h1, hs, List.length_cons]; omega, fun k hk => ?_, fun j hj => ?_⟩
    · rw [h2 k (by omega)]
      simp [befStep, Array.getElem?_push, Nat.ne_of_lt hk]
    · cases j with
      | zero =>
        refine ⟨acc, rfl, fun k hk => ?_, ?_⟩
        · rw [h2 k (by omega)]
          simp [befStep, Array.getElem?_push, Nat.ne_of_lt (show k < acc.size by omega)]
        · rw [Nat.add_zero, h2 _ (by omega)]
          simp [befStep]
      | succ j =>
        obtain ⟨acc', g1, g2, g3⟩ := h3 j (by simpa using hj)
        refine ⟨acc', by omega, fun k hk => g2 k (by omega), ?_⟩
        rw [hs] at g3
        rw [show acc.size + (j + 1) = acc.size + 1 + j from by omega, g3]
        simp

/-- What stands before an operation: an edge, or what stands before an edge's end. -/
theorem before_spec {ops : Array Oper} {j i : Nat} (hj : j < ops.size) (hlt : ∀ e ∈ ops[j].after.toList, Region.binds .any e = true → e.on < j) (h : ((Region.before ops).getD j 0).testBit i = true) :
    ∃ e ∈ ops[j].after.toList, Region.binds .any e = true ∧ (e.on = i ∨ ((Region.before ops).getD e.on 0).testBit i = true) := by
  rw [before_eq] at h ⊢
  obtain ⟨h1, h2, h3⟩ := bef_fold ops.toList #[]
  obtain ⟨acc', g1, g2, g3⟩ := h3 j (by simpa using hj)
  have e0 : (#[] : Array Nat).size = 0 := rfl
  rw [e0] at g1 g2 g3
  simp only [Nat.zero_add] at g1 g2 g3
  have e1 : (ops.toList.foldl befStep #[]).getD j 0 = (ops.toList[j]'(by simpa using hj)).after.foldl (fun s e => if Region.binds .any e = true then s ||| 2 ^ e.on ||| acc'.getD e.on 0 else s) 0 := by
    rw [Array.getD_eq_getD_getElem?, g3]; rfl
  rw [e1, ← Array.foldl_toList] at h
  rcases bits_fold (fun k => acc'.getD k 0) (fun e => Region.binds .any e) i _ 0 h with h4 | ⟨e, he, hb, h5⟩
  · simp at h4
  · have he' : e ∈ ops[j].after.toList := by simpa using he
    refine ⟨e, he', hb, ?_⟩
    rcases h5 with h5 | h5
    · exact .inl h5
    · refine .inr ?_
      have hk := hlt e he' hb
      have e2 : acc'.getD e.on 0 = (ops.toList.foldl befStep #[]).getD e.on 0 := by
        rw [Array.getD_eq_getD_getElem?, Array.getD_eq_getD_getElem?, g2 e.on hk]
      rw [← e2]; exact h5

section
variable {ops : Array Oper} {ks : List IOp}

structure OrderOk (ops : Array Oper) (ks : List IOp) : Prop where
  lt : ∀ j (h : j < ops.size), ∀ e ∈ ops[j].after.toList, Region.binds .any e = true → e.on < j
  conf : ∀ i j (hi : i < ks.length) (hj : j < ks.length), i < j → conf ks[i] ks[j] = true → ((Region.before ops).getD j 0).testBit i = true

theorem orderOk_spec (hlen : ks.length = ops.size) (h : orderOk ops ks = true) : OrderOk ops ks := by
  unfold orderOk at h
  simp only [List.all_eq_true, List.mem_range, Bool.and_eq_true] at h
  refine ⟨fun j hj e he hb => ?_, fun i j hi hj hij hc => ?_⟩
  · have := (h j hj).1
    rw [Array.getElem?_eq_getElem hj] at this
    simp only [Option.map_some, Option.getD_some] at this
    rw [← Array.all_toList] at this
    have := List.all_eq_true.1 this e he
    simpa [hb] using this
  · have := (h j (by omega)).2 i hij
    rw [List.getElem?_eq_getElem hi, List.getElem?_eq_getElem hj] at this
    simpa [hc] using this

def Closed (ops : Array Oper) (D : Nat → Bool) : Prop := ∀ j (h : j < ops.size), D j = true → ∀ e ∈ ops[j].after.toList, Region.binds .any e = true → D e.on = true

theorem Closed.before {D : Nat → Bool} (ho : OrderOk ops ks) (hD : Closed ops D) : ∀ (j i : Nat) (hj : j < ops.size), (D j = true ∨ ∀ e ∈ ops[j].after.toList, Region.binds .any e = true → D e.on = true) → ((Region.before ops).getD j 0).testBit i = true → D i = true := by
  intro j
  induction j using Nat.strongRecOn with
  | _ j ih =>
    intro i hj h hb
    obtain ⟨e, he, heb, h2⟩ := before_spec hj (ho.lt j hj) hb
    have hon : D e.on = true := by
      rcases h with h | h
      · exact hD j hj h e he heb
      · exact h e he heb
    rcases h2 with rfl | h2
    · exact hon
    · have hlt := ho.lt j hj e he heb
      exact ih e.on hlt i (by omega) (.inl hon) h2

def undone (D : Nat → Bool) : Nat → Nat
  | 0 => 0
  | n + 1 => undone D n + (if D n = true then 0 else 1)

theorem undone_le (D : Nat → Bool) : ∀ n, undone D n ≤ n
  | 0 => Nat.le_refl _
  | n + 1 => by have := undone_le D n; simp only [undone]; split <;> omega

theorem undone_congr {D D' : Nat → Bool} : ∀ n, (∀ i, i < n → D i = D' i) → undone D n = undone D' n
  | 0, _ => rfl
  | n + 1, h => by simp only [undone]; rw [undone_congr n (fun i hi => h i (by omega)), h n (by omega)]

theorem undone_zero {D : Nat → Bool} : ∀ {n : Nat}, undone D n = 0 → ∀ i, i < n → D i = true
  | 0, _, i, hi => absurd hi (by omega)
  | n + 1, h, i, hi => by
    simp only [undone] at h
    by_cases e : i = n
    · subst e
      split at h
      · assumption
      · omega
    · exact undone_zero (n := n) (by omega) i (by omega)

theorem undone_set {D : Nat → Bool} {i : Nat} (hD : D i = false) : ∀ {n : Nat}, i < n → undone (fun j => D j || j == i) n + 1 = undone D n
  | 0, hi => absurd hi (by omega)
  | n + 1, hi => by
    simp only [undone]
    by_cases e : i = n
    · subst e
      rw [undone_congr (D := fun j => D j || j == i) (D' := D) i (fun j hj => by
        have : (j == i) = false := by simp; omega
        simp only [this, Bool.or_false])]
      simp [hD]
    · have h2 : (n == i) = false := by simp; omega
      have := undone_set hD (n := n) (by omega)
      simp only [h2, Bool.or_false]
      omega

theorem Okay.congr : ∀ {π : List Nat} {D D' : Nat → Bool}, (∀ i, i < ks.length → D i = D' i) → Okay ks π D → Okay ks π D'
  | [], D, D', h, hk => fun i hi => by rw [← h i hi]; exact hk i hi
  | i :: r, D, D', h, ⟨h1, h2, h3, h4⟩ => ⟨h1, by rw [← h i h1]; exact h2, fun j hi hj => by rw [← h j hj]; exact h3 j hi hj, Okay.congr (fun j hj => by rw [h j hj]) h4⟩

theorem okay_go (hlen : ks.length = ops.size) (ho : OrderOk ops ks) : ∀ (fuel t : Nat) (listed : Array Bool), listed.size = ops.size → Closed ops (fun j => listed.getD j true) → undone (fun j => listed.getD j true) ops.size ≤ fuel →
    Okay ks (Region.linearise.go .any ops fuel t listed []) (fun j => listed.getD j true) := by
  intro fuel
  induction fuel with
  | zero =>
    intro t listed hs hcl hu
    simp only [Region.linearise.go, List.reverse_nil]
    intro i hi
    exact undone_zero (D := fun j => listed.getD j true) (n := ops.size) (by omega) i (by omega)
  | succ fuel ih =>
    intro t listed hs hcl hu
    simp only [Region.linearise.go]
    change Okay ks (match (Region.ready .any ops listed)[t % (Region.ready .any ops listed).length]? with
      | some i => Region.linearise.go .any ops fuel (t / (Region.ready .any ops listed).length) (listed.setIfInBounds i true) [i]
      | none => [].reverse) _
    have hmem : ∀ i, i ∈ Region.ready .any ops listed ↔ i < ops.size ∧ listed.getD i true = false ∧ ((ops[i]?).map (·.after.all fun e => !Region.binds .any e || listed.getD e.on false)).getD false = true := by
      intro i; simp [Region.ready]
    cases hi : (Region.ready .any ops listed)[t % (Region.ready .any ops listed).length]? with
    | none =>
      simp only [List.reverse_nil]
      have hnil : Region.ready .any ops listed = [] := by
        cases hr : Region.ready .any ops listed with
        | nil => rfl
        | cons x xs =>
          rw [hr] at hi
          have hlt : t % (x :: xs).length < (x :: xs).length := Nat.mod_lt _ (by simp)
          simp at hi
          simp at hlt
          omega
      -- the first that is not listed would be ready
      intro i hin
      have all : ∀ j, j < ops.size → listed.getD j true = true := by
        intro j
        induction j using Nat.strongRecOn with
        | _ j ihj =>
          intro hj
          cases hl : listed.getD j true with
          | true => rfl
          | false =>
            exfalso
            have : j ∈ Region.ready .any ops listed := by
              rw [hmem]
              refine ⟨hj, hl, ?_⟩
              rw [Array.getElem?_eq_getElem hj]
              simp only [Option.map_some, Option.getD_some]
              rw [← Array.all_toList, List.all_eq_true]
              intro e he
              cases hb : Region.binds .any e with
              | false => rfl
              | true =>
                have hlt := ho.lt j hj e he hb
                have h1 := ihj e.on hlt (by omega)
                have h2 : listed.getD e.on false = true := by
                  rw [Array.getD_eq_getD_getElem?] at h1 ⊢
                  rw [Array.getElem?_eq_getElem (by omega)] at h1 ⊢
                  exact h1
                simp [h2]
            rw [hnil] at this
            exact absurd this (by simp)
      exact all i (by omega)
    | some i =>
      simp only []
      have hir := (hmem i).1 (List.mem_of_getElem? hi)
      obtain ⟨h1, h2, h3⟩ := hir
      rw [Array.getElem?_eq_getElem h1] at h3
      simp only [Option.map_some, Option.getD_some] at h3
      rw [← Array.all_toList] at h3
      have hedges : ∀ e ∈ ops[i].after.toList, Region.binds .any e = true → (fun j => listed.getD j true) e.on = true := by
        intro e he hb
        have := List.all_eq_true.1 h3 e he
        simp only [hb, Bool.not_true, Bool.false_or] at this
        rw [Array.getD_eq_getD_getElem?] at this
        show listed.getD e.on true = true
        rw [Array.getD_eq_getD_getElem?]
        cases hg : listed[e.on]? with
        | none => rfl
        | some b => rw [hg] at this; simpa using this
      rw [linearise_go_acc, List.reverse_singleton, List.singleton_append]
      have hD' : ∀ j, (listed.setIfInBounds i true).getD j true = (listed.getD j true || j == i) := by
        intro j
        rw [Array.getD_eq_getD_getElem?, Array.getD_eq_getD_getElem?, Array.getElem?_setIfInBounds]
        by_cases e : i = j
        · subst e; simp [show i < listed.size by omega]
        · have e' : (j == i) = false := by simp; omega
          rw [if_neg e, e', Bool.or_false]
      refine ⟨by omega, h2, fun j hi' hj' => ⟨fun hlt hc => ?_, fun hgt hc => ?_⟩, ?_⟩
      · exact hcl.before ho i j h1 (.inr hedges) (ho.conf j i hj' hi' hlt hc)
      · show listed.getD j true = false
        cases hDj : listed.getD j true with
        | false => rfl
        | true =>
          have : listed.getD i true = true := hcl.before ho j i (by omega) (.inl hDj) (ho.conf i j hi' hj' hgt hc)
          rw [h2] at this; exact absurd this (by simp)
      · refine Okay.congr (D := fun j => (listed.setIfInBounds i true).getD j true) (fun j _ => hD' j) (ih _ _ (by simpa using hs) ?_ ?_)
        · intro j hj hDj e he hb
          show (listed.setIfInBounds i true).getD e.on true = true
          replace hDj : (listed.setIfInBounds i true).getD j true = true := hDj
          rw [hD'] at hDj ⊢
          simp only [Bool.or_eq_true, beq_iff_eq] at hDj ⊢
          rcases hDj with hDj | rfl
          · exact .inl (hcl j hj hDj e he hb)
          · exact .inl (hedges e he hb)
        · have h3 := undone_congr (D := fun j => (listed.setIfInBounds i true).getD j true) (D' := fun j => listed.getD j true || j == i) ops.size (fun j _ => hD' j)
          have h4 := undone_set (D := fun j => listed.getD j true) h2 h1
          omega

theorem okay_linearise (hlen : ks.length = ops.size) (ho : OrderOk ops ks) (t : Nat) : Okay ks (Region.linearise .any ops t) (fun _ => false) := by
  have h := okay_go hlen ho ops.size t (Array.replicate ops.size false) (by simp) (by
    intro j hj h
    exfalso
    simp [Array.getD_eq_getD_getElem?, hj] at h) (undone_le _ _)
  refine Okay.congr (fun i hi => ?_) h
  simp [Array.getD_eq_getD_getElem?, show i < ops.size by omega]

/-- The text's own order. -/
theorem okay_text : ∀ (m i : Nat), i + m = ks.length → Okay ks (List.range' i m) (fun j => decide (j < i))
  | 0, i, h => fun j hj => by simp; omega
  | m + 1, i, h => by
    rw [List.range'_succ]
    refine ⟨by omega, by simp, fun j hi hj => ⟨fun hlt _ => by simpa using hlt, fun hgt _ => by simp; omega⟩, ?_⟩
    refine Okay.congr (fun j hj => ?_) (okay_text m (i + 1) (by omega))
    by_cases e : j = i
    · subst e; simp
    · have : (j == i) = false := by simp [e]
      rw [this, Bool.or_false]
      simp; omega
end
end Go.Ev

