/- What is proved: what functions of this program answer, by the evaluator. No condition. -/
import Derived.Test.YtdnjagnechibhaaGreatDoorTqp3
set_option linter.all false
namespace Go.Proofs.YtdnjagnechibhaaGreatDoor.Vm.Q
open Go Go.Ev Go.RowKit Go.Proofs.YtdnjagnechibhaaGreatDoor.Vm
set_option maxRecDepth 100001
theorem cell_of {us : Us} {w : World} {K : Kx} {S : St} {l c : Nat} {cs : List AV} (hG : Go.Ev.Good us w K S) (hc : K.lm l = some c) (hz : ∃ n, SizeAt w c n) (hs : S.store[l]? = some cs) (i : Nat) {x : AV} (hx : cs[i]? = some x) :
    ∃ v, w.cell? ⟨c, i, none⟩ = some v ∧ Rel us w K x v ∧ w.frozen? ⟨c, i, none⟩ = false := by
  obtain ⟨cur, ty, hheap, hle, hrel, _⟩ := (hG.blk l c cs hc hs).cells hz
  obtain ⟨hi, he⟩ := List.getElem?_eq_some_iff.1 hx
  have hq : i < cur.size := by omega
  refine ⟨cur[i], by rw [cell_of_row w c i cur ty _ hheap, Array.getElem?_eq_getElem hq], ?_, by simp [World.frozen?, hheap]⟩
  have := hrel.rel i hi (by simp; omega)
  rw [he] at this
  simpa using this
theorem tab111 : tabB[111]? = some (.v (.int .u8 117)) := rfl
theorem tab117 : tabB[117]? = some (.v (.int .u8 111)) := rfl
theorem tab_ne : tabB ≠ [] := by intro h; have := tab111; rw [h] at this; simp at this
set_option maxHeartbeats 4000000 in
theorem repl_ok {us : Us} {w : World} {K : Kx} {st' : St} {b a1 a2 a3 a4 : ByteArray} {zs : List AV}
    (hG : Go.Ev.Good us w K ⟨[zs, [.v (.int .u32 0), .v (.int .i32 0), .v (.int .u32 0), .v .nilIface, .lst (.own 0 4) 1 [.v (.string a1), .v (.string a2), .v (.string a3), .v (.string a4)]]], [4]⟩)
    {r : AV} (h : replAV b a1 a2 a3 a4 zs = some (r, st')) (vs : Array Value) (hr : Rels us w K [.ptr 1 0, .v (.string b)] vs.toList) :
    Calls Tryz.prog 27 vs w fun e w' => ∃ x us' K', e = .returned x ∧ Rel us' w' K' r x ∧ Ext us w K us' w' K' ∧ Go.Ev.Good us' w' K' st' ∧
      Fresh ⟨[zs, [.v (.int .u32 0), .v (.int .i32 0), .v (.int .u32 0), .v .nilIface, .lst (.own 0 4) 1 [.v (.string a1), .v (.string a2), .v (.string a3), .v (.string a4)]]], [4]⟩ st' K K' := by
  unfold replAV at h
  split at h
  · rename_i ns hns
    split at h
    · next hk =>
      obtain ⟨hlen, rfl, rfl, rfl, rfl⟩ := hk
      split at h
      · rename_i x y hxy
        split at h
        · next hl =>
          simp only [Option.some.injEq, Prod.mk.injEq] at h
          obtain ⟨rfl, rfl⟩ := h
          have hzs : zs = ns.map B8 := u8l_spec zs ns hns
          subst hzs
          have hb : b = ⟨#[x, y]⟩ := by
            obtain ⟨d⟩ := b
            congr 1
            exact Array.toList_inj.1 hxy
          subst hb
          obtain ⟨v1, r1, e1, h1, hr1⟩ := hr.cons_inv
          obtain ⟨v2, r2, e2, h2, hr2⟩ := hr1.cons_inv
          have e3 := hr2.nil_inv
          subst e3 e2
          obtain ⟨c, hc, rfl, hz⟩ := h1.ptr_inv'
          have e4 := h2.v_inv
          subst e4
          have hvs : vs = #[.pointer (some ⟨c, 0, none⟩), .string ⟨#[x, y]⟩] := by
            apply Array.ext'
            rw [e1]
          subst hvs
          obtain ⟨u0, c0, q0, f0⟩ := cell_of hG hc hz rfl 0 rfl
          obtain ⟨u1, c1, q1, f1⟩ := cell_of hG hc hz rfl 1 rfl
          have q0 := q0.v_inv
          have q1 := q1.v_inv
          subst q0 q1
          obtain ⟨hE0, hG0⟩ := put1 (q := 1) (x := .v (.int .i32 1)) hG hc hz rfl (by simp) (.v _ _ rfl) rfl
          obtain ⟨n0, hn0⟩ := hz
          have hcall := (callAV_ok mixed libOk 400 74 _ _ _ _ (run74 ns hlen) us (w.setCell ⟨c, 1, none⟩ (.int .i32 1)) K _ _ #[.pointer (some ⟨c, 0, none⟩)] hG0 (globs _ _) (by
            rw [if_neg (show ¬ L.pure 74 = true by decide)]
            exact ⟨rfl, rfl⟩) (.cons (.ptr K 1 0 c hc ⟨n0, hE0.sz _ _ hn0⟩) .nil)).2
          refine (So.replace c x y hl.1 hl.2 w c0 c1 f0 f1
            (fun w1 => ∃ us1 K1, Ext us (w.setCell ⟨c, 1, none⟩ (.int .i32 1)) K us1 w1 K1 ∧ Go.Ev.Good us1 w1 K1 ⟨[ns.map B8, R1, tabB], [4]⟩ ∧ Fresh ⟨[ns.map B8, R0 0 1], [4]⟩ ⟨[ns.map B8, R1, tabB], [4]⟩ K K1)
            (hcall.mono fun e w1 he => ?_) (fun w1 hX => ?_)).mono fun e w' he => ?_
          · obtain ⟨v, us1, K1, rfl, _, hE1, hG1, hF1, _⟩ := he
            have hc1 := (hE1.kle.lm 1 c hc).1
            have hz1 : ∃ n, SizeAt w1 c n := ⟨n0, hE1.sz _ _ (hE0.sz _ _ hn0)⟩
            obtain ⟨u0, d0, q0, g0⟩ := cell_of hG1 hc1 hz1 rfl 0 rfl
            obtain ⟨u1, d1, q1, g1⟩ := cell_of hG1 hc1 hz1 rfl 1 rfl
            have q0 := q0.v_inv
            have q1 := q1.v_inv
            subst q0 q1
            exact ⟨⟨v, rfl⟩, ⟨d0, d1, g0, g1⟩, us1, K1, hE1, hG1, hF1⟩
          · obtain ⟨us1, K1, hE1, hG1, hF1⟩ := hX
            have hc1 := (hE1.kle.lm 1 c hc).1
            have hz1 : ∃ n, SizeAt w1 c n := ⟨n0, hE1.sz _ _ (hE0.sz _ _ hn0)⟩
            obtain ⟨u3, d3, q3, _⟩ := cell_of hG1 hc1 hz1 rfl 3 rfl
            obtain ⟨u, rfl, q4⟩ := q3.ifc_inv
            obtain ⟨t, ht, rfl, hzt⟩ := q4.ptr_inv'
            obtain ⟨u5, d5, q5, _⟩ := cell_of hG1 ht hzt rfl 111 tab111
            obtain ⟨u6, d6, q6, _⟩ := cell_of hG1 ht hzt rfl 117 tab117
            have q5 := q5.v_inv
            have q6 := q6.v_inv
            subst q5 q6
            refine ⟨t, fun e => ?_, hG1.lmltH ht, d3, d5, d6⟩
            subst e
            rcases hG1.inj 1 2 t hc1 ht with e | e | e
            · omega
            · simp at e
            · exact tab_ne (by simpa using e)
          · obtain ⟨rfl, w1, ⟨us1, K1, hE1, hG1, hF1⟩, hbel⟩ := he
            have hc1 := (hE1.kle.lm 1 c hc).1
            have hz1 : ∃ n, SizeAt w1 c n := ⟨n0, hE1.sz _ _ (hE0.sz _ _ hn0)⟩
            have hbd : Below w1.heap.size w1 w1.drew := (Below.refl w1.heap.size w1).drew
            have hGd := good_below hG1 hbd
            have hEd := ext_below hG1 hbd K1 rfl rfl (fun _ _ h => h) (fun l c h => .inl ⟨l, h⟩)
            obtain ⟨n1, hn1⟩ := hz1
            obtain ⟨hEa, hGa⟩ := put1 (q := 0) (x := .v (.int .u32 1)) hGd hc1 ⟨n1, hEd.sz _ _ hn1⟩ rfl (by simp) (.v _ _ rfl) (v := .int .u32 1) rfl
            obtain ⟨hEb, hGb⟩ := put1 (q := 1) (x := .v (.int .i32 0)) hGa hc1 ⟨n1, hEa.sz _ _ (hEd.sz _ _ hn1)⟩ rfl (by simp [putCells]) (.v _ _ rfl) (v := .int .i32 0) rfl
            have hbel2 : Below ((w1.drew.setCell ⟨c, 0, none⟩ (.int .u32 1)).setCell ⟨c, 1, none⟩ (.int .i32 0)).heap.size ((w1.drew.setCell ⟨c, 0, none⟩ (.int .u32 1)).setCell ⟨c, 1, none⟩ (.int .i32 0)) w' := by
              rw [So.setCell_size, So.setCell_size]; exact hbel
            have hGc := good_below hGb hbel2
            have hEc := ext_below hGb hbel2 K1 rfl rfl (fun _ _ h => h) (fun l c h => .inl ⟨l, h⟩)
            refine ⟨_, us1, K1, rfl, .v _ _ rfl, hE0.trans (hE1.trans (hEd.trans (hEa.trans (hEb.trans hEc)))), (hGc.dead 1).dead 2, ⟨fun l c h => hF1.lm l c h, fun t h => hF1.tk t h⟩⟩
        · simp at h
      · simp at h
    · simp at h
  · simp at h
end Go.Proofs.YtdnjagnechibhaaGreatDoor.Vm.Q
