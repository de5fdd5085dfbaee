/- What is proved: what functions of this program answer, by the evaluator. No condition. -/
import Derived.Test.YtdnjagnechibhaaGreatDoorTqp1
set_option linter.all false
namespace Go.Proofs.YtdnjagnechibhaaGreatDoor.Vm.Q
open Go Go.Ev Go.RowKit Go.Proofs.YtdnjagnechibhaaGreatDoor.Vm
set_option maxRecDepth 100001
theorem vals_v {us : Us} {w : World} {K : Kx} {ns : List Value} {vs : List Value} (h : Rels us w K (ns.map AV.v) vs) : vs = ns := by
  refine List.ext_getElem (by rw [← h.len]; simp) fun i h1 h2 => ?_
  have := h.rel i (by simpa using h2) h1
  rw [List.getElem_map] at this
  exact this.v_inv
theorem rels_v {us : Us} {w : World} {K : Kx} {ns : List Value} (h : ∀ v ∈ ns, plainV v = true) : Rels us w K (ns.map AV.v) ns :=
  ⟨by simp, fun i h1 h2 => by rw [List.getElem_map]; exact .v _ _ (h _ (List.getElem_mem _))⟩
theorem flat_prs (l : List (Int × Int)) : flat (l.map spA) = (Sb.prs l).map AV.v := by
  unfold Sb.prs
  induction l with
  | nil => rfl
  | cons p r ih => rw [List.map_cons, flat_cons, ih, List.flatMap_cons, List.map_append]; rfl
theorem prs_at : ∀ (l : List (Int × Int)) (j : Nat) (h : j < l.length), (Sb.prs l)[j * 2]? = some (Value.int .i64 l[j].1) ∧ (Sb.prs l)[j * 2 + 1]? = some (Value.int .i64 l[j].2)
  | p :: r, 0, h => ⟨rfl, rfl⟩
  | p :: r, j + 1, h => by
    have ih := prs_at r j (by simpa using h)
    have e : Sb.prs (p :: r) = Value.int .i64 p.1 :: Value.int .i64 p.2 :: Sb.prs r := rfl
    rw [e, show (j + 1) * 2 = j * 2 + 1 + 1 by omega]
    simpa using ih
theorem prs_mem {l : List (Int × Int)} {v : Value} (h : v ∈ Sb.prs l) : ∃ n, v = Value.int .i64 n := by
  unfold Sb.prs at h
  obtain ⟨p, _, h⟩ := List.mem_flatMap.1 h
  simp only [List.mem_cons, List.not_mem_nil, or_false] at h
  rcases h with rfl | rfl <;> exact ⟨_, rfl⟩
set_option maxHeartbeats 1000000 in
theorem turn_ok {us : Us} {w : World} {K : Kx} {st st' : St} (hG : Go.Ev.Good us w K st) {g : Tag} {xs : List AV} {r : AV} (h : turnAV xs st = some (r, st')) (vs : Array Value) (hr : Rels us w K [.lst g 2 xs] vs.toList) :
    Calls Tryz.prog 28 vs w fun e w' => ∃ x us' K', e = .returned x ∧ Rel us' w' K' r x ∧ Ext us w K us' w' K' ∧ Go.Ev.Good us' w' K' st' ∧ Fresh st st' K K' := by
  unfold turnAV at h
  split at h
  · rename_i l hl
    split at h
    · next hk =>
      simp only [Option.some.injEq, Prod.mk.injEq] at h
      obtain ⟨rfl, rfl⟩ := h
      obtain ⟨⟨k1, k7⟩, hall⟩ := hk
      have hx : xs = l.map spA := shs_spec xs l hl
      subst hx
      have hok : SpOk l := fun p hp => by simpa using (List.all_eq_true.1 hall) p hp
      obtain ⟨v1, r1, e1, h1, hr1⟩ := hr.cons_inv
      have e2 := hr1.nil_inv
      subst e2
      obtain ⟨c, p, cap, ws, rfl, h4⟩ := h1.lst_inv
      have hvs : vs = #[.slice (some ⟨c, p, none⟩) (l.map spA).length cap] := by
        apply Array.ext'
        rw [e1]
      subst hvs
      have h5 : LstAt us w K .any 2 (l.map spA) c p cap ws := { h4 with tag := trivial }
      have hchk := check hG l k1 k7 hok #[.slice (some ⟨c, p, none⟩) (l.map spA).length cap] (.cons h5.rel .nil)
      rw [List.length_map] at hchk ⊢
      have hws : ws = Sb.prs l := by
        have := h4.rels
        rw [flat_prs] at this
        exact vals_v this
      obtain ⟨n, hn, _⟩ := h4.lies
      have hcell : ∀ j (hj : j < l.length), w.cell? ⟨c, p + j * 2, none⟩ = some (Sb.ci l[j].1) ∧ w.cell? ⟨c, p + j * 2 + 1, none⟩ = some (Sb.ci l[j].2) := fun j hj => by
        obtain ⟨q1, q2⟩ := prs_at l j hj
        rw [← hws] at q1 q2
        obtain ⟨i1, g1⟩ := List.getElem?_eq_some_iff.1 q1
        obtain ⟨i2, g2⟩ := List.getElem?_eq_some_iff.1 q2
        have a1 := h4.cells (j * 2) i1
        have a2 := h4.cells (j * 2 + 1) i2
        rw [g1] at a1
        rw [g2] at a2
        exact ⟨a1, by rw [Nat.add_assoc]; exact a2⟩
      refine (Sb.turn w c p cap l (by omega) (hG.uslt c n hn) hcell hchk).mono fun e w' he => ?_
      obtain ⟨v, rfl, ⟨w1, hw1, hrow⟩, hnil, hbel⟩ := he
      rcases hrow.2 with ⟨rfl, h0⟩ | ⟨b, cap', cur, rfl, hge, hblk, hcap, _, hsz, htake⟩
      · omega
      · have htl : (Sb.trn l).length = l.length := by simp [Sb.trn]
        have hpl : (Sb.prs (Sb.trn l)).length = l.length * 2 := by rw [Sb.prs_len, htl]
        have hlt : b < w'.heap.size := (Array.getElem?_eq_some_iff.1 hblk).1
        obtain ⟨j1, j2⟩ := new_us hG hbel (c := b) (n := l.length * 2) (by omega) hlt
        have key : LstAt (us.new b (l.length * 2)) w' K .any 2 ((Sb.trn l).map spA) b 0 cap' (Sb.prs (Sb.trn l)) := by
          refine ⟨⟨l.length * 2, by simp [Us.new], by omega⟩, fun i hi => ?_, fun x hx => ?_, fun x hx => ?_, by simpa [htl] using hcap, ?_, trivial⟩
          · rw [Nat.zero_add, cell_of_row w' b i cur 120 _ hblk]
            have h6 : (cur.toList.take (l.length * 2))[i]? = some ((Sb.prs (Sb.trn l))[i]) := by rw [htake]; exact List.getElem?_eq_getElem hi
            rw [List.getElem?_take, if_pos (by omega)] at h6
            rw [← Array.getElem?_toList]; exact h6
          · obtain ⟨m, rfl⟩ := prs_mem hx; rfl
          · obtain ⟨q, _, rfl⟩ := List.mem_map.1 hx; rfl
          · rw [flat_prs]
            exact rels_v fun v hv => by obtain ⟨m, rfl⟩ := prs_mem hv; rfl
        have hrel := key.rel
        rw [List.length_map, htl] at hrel
        exact ⟨_, _, K, rfl, Rel.mkTup (.cons hrel (.cons (.v _ _ rfl) .nil)), j2, j1, Fresh.same _ _⟩
    · simp at h
  · simp at h
end Go.Proofs.YtdnjagnechibhaaGreatDoor.Vm.Q
