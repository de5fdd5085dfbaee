/- What is proved: what functions of this program answer, by the evaluator. No condition. -/
import Derived.Test.YtdnjagnechibhaaGreatDoorTqp2
import Derived.Laws.IdiomCopy
set_option linter.all false
namespace Go.Proofs.YtdnjagnechibhaaGreatDoor.Vm.Q
open Go Go.Ev Go.RowKit Go.Proofs.YtdnjagnechibhaaGreatDoor.Vm
set_option maxRecDepth 100001
theorem put1 {us : Us} {w : World} {K : Kx} {S : St} {l q c : Nat} {cs : List AV} {x : AV} {v : Value} (hG : Go.Ev.Good us w K S) (hc : K.lm l = some c) (hz0 : ∃ n, SizeAt w c n) (hcs : S.store[l]? = some cs) (hb : q < cs.length) (hx : Rel us w K x v) (hone : v.oneCell' = true) :
    Ext us w K us (w.setCell ⟨c, q, none⟩ v) K ∧ Go.Ev.Good us (w.setCell ⟨c, q, none⟩ v) K ⟨S.store.set l (putCells cs q [x]), S.tips⟩ := by
  have hne : cs ≠ [] := fun e => by subst e; simp at hb
  obtain ⟨w', h1, h2, h3⟩ := put_cells Tryz.prog (q := q) hG hc hz0 hcs hne (by simp; omega) (.cons hx .nil) (by simpa using hone)
  obtain ⟨cur, ty, hheap, hle, hrel, hone2⟩ := (hG.blk l c cs hc hcs).cells hz0
  have hq : q < cur.size := by omega
  have hr := run_storeCells_cells (P := Tryz.prog) c q [v] 0 w (fun j hj => by
    obtain rfl : j = 0 := by simpa using hj
    simp [World.cell?, hheap, hq]) (fun j hj => by
    obtain rfl : j = 0 := by simpa using hj
    simp [World.frozen?, hheap]) (by simpa using hone)
  rw [h1] at hr
  simp only [Result.ok.injEq, true_and] at hr
  have e : w' = w.setCell ⟨c, q, none⟩ v := hr
  rw [← e]
  exact ⟨h2, h3⟩
theorem bits16 {zs : List Int} (h : zs.length = 16) : ∃ z0 z1 z2 z3 z4 z5 z6 z7 z8 z9 za zb zc zd ze zf, zs = [z0, z1, z2, z3, z4, z5, z6, z7, z8, z9, za, zb, zc, zd, ze, zf] := by
  match zs, h with
  | [a, b, c, d, e, f, g, h, i, j, k, l, m, n, o, p], _ => exact ⟨a, b, c, d, e, f, g, h, i, j, k, l, m, n, o, p, rfl⟩
theorem run74 (zs : List Int) (h : zs.length = 16) : callAV L 400 74 [.ptr 1 0] ⟨[zs.map B8, R0 0 1], [4]⟩ = some (.tup [], ⟨[zs.map B8, R1, tabB], [4]⟩) := by
  obtain ⟨z0, z1, z2, z3, z4, z5, z6, z7, z8, z9, za, zb, zc, zd, ze, zf, rfl⟩ := bits16 h
  exact c74 z0 z1 z2 z3 z4 z5 z6 z7 z8 z9 za zb zc zd ze zf
end Go.Proofs.YtdnjagnechibhaaGreatDoor.Vm.Q
