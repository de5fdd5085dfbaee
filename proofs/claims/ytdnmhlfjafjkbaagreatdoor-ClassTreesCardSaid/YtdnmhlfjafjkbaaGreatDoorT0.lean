/- What is proved: what functions of this program answer, by the evaluator. No condition. -/
import Derived.Test.YtdnmhlfjafjkbaaGreatDoorLib
import Derived.Test.YtdnmhlfjafjkbaaGreatDoorSy
import Derived.KernelRfl
set_option linter.all false
namespace Go.Proofs.YtdnmhlfjafjkbaaGreatDoor.Vm
open Go Go.Ev
set_option maxRecDepth 100000
attribute [local go_sem] z49 z0s z5g z23 z44 z0n z5c z1b z2e z0b z3a z22 z43 z0m z5b z26 z47 z0q z5e z1c z2f z0c z3b z1a z2d z0a z37 z25 z46 z0p z34 z61 z19 z7p z27 z48 z0r z5f z28 z1u z0t z5h z21 z42 z0l z5a z24 z45 z0o z5d z39 z29 z38 z7x z7v z7w z5l z3g z3k z3j z3i z3v z3w z4j z5n z83 z0z z4b z36 z1f z3e z3y z40 z5y z5z z5x z41 z2c z1d z57 z35 z2b z1g z0e z2g z1h z3d z7s z5i z1y z17 z20 pubs pub z4h params z2m z07 z1i z2p z3l z3x z7y untips untip z56 wantedAV setElems withO z7z z3r z3o z3n z5p z3q z3m z5o z3p List.replicate_succ List.replicate_zero opAV valAV aval avals ofVal Env.get setD canon gcAV renAll renEnv renStore renCells z1m cutSt okEnv okStore okRefs okRef z0k z87 z64 z86 z84 z85 z88 cellsEq cellEq isShift intOp boolOp z7t z7u z89 bne resAV tupAV z5m zbr z6x fins zg9 z6w z82 z81 zbs storeAV readCells putCells z60 z33 z18 fieldAddrAV za6 goI List.getElem?_cons_zero List.getElem?_cons_succ List.getElem?_nil Option.bind_some Option.map_some List.length_cons List.length_nil List.all_cons List.all_nil Bool.and_true Bool.true_and Bool.and_false Bool.false_and and_true true_and and_false false_and Bool.false_eq_true List.set_cons_zero List.set_cons_succ List.append_nil List.nil_append List.cons_append List.take_zero List.take_succ_cons List.take_nil List.drop_zero List.drop_succ_cons List.map_cons List.map_nil decide_true decide_false beq_self_eq_true Bool.not_true Bool.not_false or_true true_or or_false false_or Nat.zero_add Nat.add_zero Nat.le_refl Nat.lt_irrefl decide_eq_true_eq eq_self_iff_true not_true_eq_false not_false_eq_true List.getD_cons_zero z3z Nat.zero_le Nat.not_lt_zero Bool.true_beq Bool.false_beq beq_true beq_false ge_iff_le gt_iff_lt keepR keepT ownTop zgf pus Option.map_none z2i z2h z5s z3s z5r Int.cast_ofNat_Int Nat.mul_one Nat.zero_mul Int.toNat_natCast Int.toNat_zero setParts withO2 hasKey z5v z5j z3u z3f z1e z0w zy
theorem zo6 {f:FuncId} {fn:IF} (hf:L.fns f=some fn)(hp:L.pure f=true) {args:List AV} {st0 st1:St} {r:AV} (h:run L f args st0=some (r,st1))(st:St):run L f args st=some (r,st):=by
 rw [run_pure hf hp] at h⊢
 unfold leaveK at h⊢
 split at h
 ·simp only [leave,Option.some.injEq,Prod.mk.injEq] at h⊢
  exact ⟨h.1,trivial⟩
 ·simp at h
theorem c15 (st:St):run L 15 [] st=some (.v (.bool true),st):=
 zo6 (fn:=ir15) rfl rfl (z05 L 400 _ _ _ _ (show callAV L 400 15 [] ⟨[],[]⟩=some (.v (.bool true),⟨[],[]⟩) by kernel_rfl)) st
end Go.Proofs.YtdnmhlfjafjkbaaGreatDoor.Vm
