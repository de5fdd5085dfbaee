/- What is proved: what functions of this program answer, by the evaluator. No condition. -/
import Derived.Test.YtdnmhlfjafjkbaaGreatDoorLib
import Derived.Test.YtdnmhlfjafjkbaaGreatDoorSy
import Derived.KernelRfl
set_option linter.all false
namespace Go.Proofs.YtdnmhlfjafjkbaaGreatDoor.Vm
open Go Go.Ev
set_option maxRecDepth 100000
attribute [local go_sem] z4b z0s z5p z20 z46 z0n z5l z18 z2d z0c z38 z1z z45 z0m z5k z23 z49 z0q z5n z19 z2e z0d z39 z16 z2c z0b z35 z22 z48 z0p z30 z6i z15 z85 z24 z4a z0r z5o z25 z1o z0t z5q z1y z44 z0l z5j z21 z47 z0o z5m z37 z1b z36 z6t z8f z8g z5y z3g z3j z3i z3h z3x z3y z6d z61 z8m z0w z4c z34 z1d z3b z40 z42 z6f z6g z6e z43 z2b z1a z5i z31 z2a z1f z0g z2f z1h z3a z87 z5r z1w z12 z1x pubs pub z8z params z2j z07 z17 z2l z3k z3z z6u untips untip z5e wantedAV setElems withO z8h z3q z3n z3m z63 z3p z3l z62 z3o List.replicate_succ List.replicate_zero opAV valAV aval avals ofVal Env.get setD canon gcAV renAll renEnv renStore renCells z0y cutSt okEnv okStore okRefs okRef z0f z8q z6l z8p z8n z8o z8r cellsEq cellEq isShift intOp boolOp z89 z8c z8s bne resAV tupAV z5z zbp z6x fins zh3 z6w z8l z8k zbq storeAV readCells putCells z6h z2z z14 fieldAddrAV za6 goI List.getElem?_cons_zero List.getElem?_cons_succ List.getElem?_nil Option.bind_some Option.map_some List.length_cons List.length_nil List.all_cons List.all_nil Bool.and_true Bool.true_and Bool.and_false Bool.false_and and_true true_and and_false false_and Bool.false_eq_true List.set_cons_zero List.set_cons_succ List.append_nil List.nil_append List.cons_append List.take_zero List.take_succ_cons List.take_nil List.drop_zero List.drop_succ_cons List.map_cons List.map_nil decide_true decide_false beq_self_eq_true Bool.not_true Bool.not_false or_true true_or or_false false_or Nat.zero_add Nat.add_zero Nat.le_refl Nat.lt_irrefl decide_eq_true_eq eq_self_iff_true not_true_eq_false not_false_eq_true List.getD_cons_zero z41 Nat.zero_le Nat.not_lt_zero Bool.true_beq Bool.false_beq beq_true beq_false ge_iff_le gt_iff_lt keepR keepT ownTop zh8 pus Option.map_none z2h z2g z65 z3r z64 Int.cast_ofNat_Int Nat.mul_one Nat.zero_mul Int.toNat_natCast Int.toNat_zero setParts withO2 hasKey z6c z5u z3w z3c z1c z0k z02
theorem zm5 {f:FuncId} {fn:IF} (hf:L.fns f=some fn)(hp:L.pure f=true) {args:List AV} {st0 st1:St} {r:AV} (h:run L f args st0=some (r,st1))(st:St):run L f args st=some (r,st):=by
 rw [run_pure hf hp] at h⊢
 unfold leaveK at h⊢
 split at h
 ·simp only [leave,Option.some.injEq,Prod.mk.injEq] at h⊢
  exact ⟨h.1,trivial⟩
 ·simp at h
theorem c15 (st:St):run L 15 [] st=some (.v (.bool true),st):=
 zm5 (fn:=ir15) rfl rfl (z1g L 400 _ _ _ _ (show callAV L 400 15 [] ⟨[],[]⟩=some (.v (.bool true),⟨[],[]⟩) by kernel_rfl)) st
end Go.Proofs.YtdnmhlfjafjkbaaGreatDoor.Vm
