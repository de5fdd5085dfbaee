/- What is proved: what functions of this program answer, by the evaluator. No condition. -/
import Derived.Test.YtdnmhlfjafjkbaaGreatDoorLib
import Derived.Test.YtdnmhlfjafjkbaaGreatDoorSy
import Derived.KernelRfl
set_option linter.all false
namespace Go.Proofs.YtdnmhlfjafjkbaaGreatDoor.Vm
open Go Go.Ev
set_option maxRecDepth 100000
attribute [local go_sem] z3p z0i z4m z1j z3k z0d z4i z0u z1v z01 z2q z1i z3j z0c z4h z1m z3n z0g z4k z0v z1w z02 z2r z0t z1u zz z2n z1l z3m z0f z2k z56 z0s z6g z1n z3o z0h z4l z1o z1e z0j z4n z1h z3i z0b z4g z1k z3l z0e z4j z2p z17 z2o z5x z6r z6s z4t z2w z2z z2y z2x z3b z3c z51 z4v z70 z0k z3q z2m z0z z2u z3e z3g z53 z54 z52 z3h z1t z0w z4e z2l z1s z11 z05 z1y z12 z2t z6l z4p z1f z0q z1g pubs pub z6j params z22 z00 z15 z25 z30 z3d z5y untips untip z4c wantedAV setElems withO z6t z36 z33 z32 z4x z35 z31 z4w z34 List.replicate_succ List.replicate_zero opAV valAV aval avals ofVal Env.get setD canon gcAV renAll renEnv renStore renCells z2c cutSt okEnv okStore okRefs okRef z18 z74 z57 z73 z71 z72 z75 cellsEq cellEq isShift intOp boolOp z6m z6n z76 bne resAV tupAV z4u z9j z62 fins zep z61 z6w z6v z9k storeAV readCells putCells z55 z2j z0r fieldAddrAV z8i goI List.getElem?_cons_zero List.getElem?_cons_succ List.getElem?_nil Option.bind_some Option.map_some List.length_cons List.length_nil List.all_cons List.all_nil Bool.and_true Bool.true_and Bool.and_false Bool.false_and and_true true_and and_false false_and Bool.false_eq_true List.set_cons_zero List.set_cons_succ List.append_nil List.nil_append List.cons_append List.take_zero List.take_succ_cons List.take_nil List.drop_zero List.drop_succ_cons List.map_cons List.map_nil decide_true decide_false beq_self_eq_true Bool.not_true Bool.not_false or_true true_or or_false false_or Nat.zero_add Nat.add_zero Nat.le_refl Nat.lt_irrefl decide_eq_true_eq eq_self_iff_true not_true_eq_false not_false_eq_true List.getD_cons_zero z3f Nat.zero_le Nat.not_lt_zero Bool.true_beq Bool.false_beq beq_true beq_false ge_iff_le gt_iff_lt keepR keepT ownTop zf6 pus Option.map_none z20 z1z z4z z38 z4y Int.cast_ofNat_Int Nat.mul_one Nat.zero_mul Int.toNat_natCast Int.toNat_zero setParts withO2 hasKey z50 z4q z3a z2v z0y z0m zt
theorem zmy {f:FuncId} {fn:IF} (hf:L.fns f=some fn)(hp:L.pure f=true) {args:List AV} {st0 st1:St} {r:AV} (h:run L f args st0=some (r,st1))(st:St):run L f args st=some (r,st):=by
 rw [run_pure hf hp] at h⊢
 unfold leaveK at h⊢
 split at h
 ·simp only [leave,Option.some.injEq,Prod.mk.injEq] at h⊢
  exact ⟨h.1,trivial⟩
 ·simp at h
theorem c15 (st:St):run L 15 [] st=some (.v (.bool true),st):=
 zmy (fn:=ir15) rfl rfl (z0a L 400 _ _ _ _ (show callAV L 400 15 [] ⟨[],[]⟩=some (.v (.bool true),⟨[],[]⟩) by kernel_rfl)) st
end Go.Proofs.YtdnmhlfjafjkbaaGreatDoor.Vm
