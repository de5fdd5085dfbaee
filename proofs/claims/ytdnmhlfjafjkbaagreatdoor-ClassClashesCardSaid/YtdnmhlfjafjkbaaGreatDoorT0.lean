/- What is proved: what functions of this program answer, by the evaluator. No condition. -/
import Derived.Test.YtdnmhlfjafjkbaaGreatDoorLib
import Derived.Test.YtdnmhlfjafjkbaaGreatDoorSy
import Derived.KernelRfl
set_option linter.all false
namespace Go.Proofs.YtdnmhlfjafjkbaaGreatDoor.Vm
open Go Go.Ev
set_option maxRecDepth 100000
attribute [local go_sem] z47 z0u z5h z21 z42 z0p z5d z1b z2d z0c z38 z20 z41 z0o z5c z24 z45 z0s z5f z1c z2e z0d z39 z1a z2c z0b z36 z23 z44 z0r z33 z66 z19 z81 z25 z46 z0t z5g z26 z0z z0v z5i z1z z40 z0n z5b z22 z43 z0q z5e z37 z27 z2l z8a z88 z89 z5n z3e z3i z3h z3g z3t z3u z4i z5q z8g z10 z49 z35 z1g z3c z3w z3y z63 z64 z62 z3z z2b z1d z58 z34 z2a z1h z0g z2f z1i z3b z85 z5j z1w z17 z1y pubs pub z6s params z2m z0a z1j z2p z3j z3v z8b untips untip z57 wantedAV setElems withO z8c z3p z3m z3l z5s z3o z3k z5r z3n List.replicate_succ List.replicate_zero opAV valAV aval avals ofVal Env.get setD canon gcAV renAll renEnv renStore renCells z6p cutSt okEnv okStore okRefs okRef z4g z8k z69 z8j z8h z8i z8l cellsEq cellEq isShift intOp boolOp z86 z87 z8m bne resAV tupAV z5o zak z74 fins zgc z8e z8f z73 zbv storeAV readCells putCells z65 z32 z18 fieldAddrAV zaf goI List.getElem?_cons_zero List.getElem?_cons_succ List.getElem?_nil Option.bind_some Option.map_some List.length_cons List.length_nil List.all_cons List.all_nil Bool.and_true Bool.true_and Bool.and_false Bool.false_and and_true true_and and_false false_and Bool.false_eq_true List.set_cons_zero List.set_cons_succ List.append_nil List.nil_append List.cons_append List.take_zero List.take_succ_cons List.take_nil List.drop_zero List.drop_succ_cons List.map_cons List.map_nil decide_true decide_false beq_self_eq_true Bool.not_true Bool.not_false or_true true_or or_false false_or Nat.zero_add Nat.add_zero Nat.le_refl Nat.lt_irrefl decide_eq_true_eq eq_self_iff_true not_true_eq_false not_false_eq_true List.getD_cons_zero z3x Nat.zero_le Nat.not_lt_zero Bool.true_beq Bool.false_beq beq_true beq_false ge_iff_le gt_iff_lt keepR keepT ownTop zgi pus Option.map_none z2h z2g z5w z3q z5v Int.cast_ofNat_Int Nat.mul_one Nat.zero_mul Int.toNat_natCast Int.toNat_zero setParts withO2 hasKey z60 z5k z3s z3d z1f z1e z0e
theorem znt {f:FuncId} {fn:IF} (hf:L.fns f=some fn)(hp:L.pure f=true) {args:List AV} {st0 st1:St} {r:AV} (h:run L f args st0=some (r,st1))(st:St):run L f args st=some (r,st):=by
 rw [run_pure hf hp] at h⊢
 unfold leaveK at h⊢
 split at h
 ·simp only [leave,Option.some.injEq,Prod.mk.injEq] at h⊢
  exact ⟨h.1,trivial⟩
 ·simp at h
theorem c15 (st:St):run L 15 [] st=some (.v (.bool true),st):=
 znt (fn:=ir15) rfl rfl (z1n L 400 _ _ _ _ (show callAV L 400 15 [] ⟨[],[]⟩=some (.v (.bool true),⟨[],[]⟩) by kernel_rfl)) st
end Go.Proofs.YtdnmhlfjafjkbaaGreatDoor.Vm
