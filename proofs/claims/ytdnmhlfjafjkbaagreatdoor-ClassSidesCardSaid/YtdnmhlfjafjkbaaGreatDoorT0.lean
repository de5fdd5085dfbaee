/- What is proved: what functions of this program answer, by the evaluator. No condition. -/
import Derived.Test.YtdnmhlfjafjkbaaGreatDoorLib
import Derived.Test.YtdnmhlfjafjkbaaGreatDoorSy
import Derived.KernelRfl
set_option linter.all false
namespace Go.Proofs.YtdnmhlfjafjkbaaGreatDoor.Vm
open Go Go.Ev
set_option maxRecDepth 100000
attribute [local go_sem] z56 z10 z6h z2g z51 z0v z6d z1m z31 z0f z41 z2f z50 z0u z6c z2j z54 z0y z6f z1n z32 z0g z42 z1k z2z z0e z3y z2i z53 z0x z3s z7g z1j z9b z2k z55 z0z z6g z2l z1v z11 z6i z2e z4z z0t z6b z2h z52 z0w z6e z40 z2n z3z z9u z9s z9t z6v z4b z4e z4d z4c z4r z4s z5p z6z zag z13 z58 z3u z1s z47 z4u z4w z7d z7e z7c z4x z2y z1o z66 z3t z2x z1u z0l z33 z1x z46 z9j z6r z2b z1h z2d pubs pub z8b params z2q z0a z1b z30 z4f z4t z9v untips untip z64 wantedAV setElems withO z9y z4l z4i z4h z71 z4k z4g z70 z4j List.replicate_succ List.replicate_zero opAV valAV aval avals ofVal Env.get setD canon gcAV renAll renEnv renStore renCells z7t cutSt okEnv okStore okRefs okRef z5d zam z7j zal zaj zak zan cellsEq cellEq isShift intOp boolOp z9n z9o zao bne resAV tupAV z6y zdx z83 fins zij za6 za7 za5 zdy storeAV readCells putCells z7f z3r z1i fieldAddrAV zbg goI List.getElem?_cons_zero List.getElem?_cons_succ List.getElem?_nil Option.bind_some Option.map_some List.length_cons List.length_nil List.all_cons List.all_nil Bool.and_true Bool.true_and Bool.and_false Bool.false_and and_true true_and and_false false_and Bool.false_eq_true List.set_cons_zero List.set_cons_succ List.append_nil List.nil_append List.cons_append List.take_zero List.take_succ_cons List.take_nil List.drop_zero List.drop_succ_cons List.map_cons List.map_nil decide_true decide_false beq_self_eq_true Bool.not_true Bool.not_false or_true true_or or_false false_or Nat.zero_add Nat.add_zero Nat.le_refl Nat.lt_irrefl decide_eq_true_eq eq_self_iff_true not_true_eq_false not_false_eq_true List.getD_cons_zero z4v Nat.zero_le Nat.not_lt_zero Bool.true_beq Bool.false_beq beq_true beq_false ge_iff_le gt_iff_lt keepR keepT ownTop zit pus Option.map_none z35 z34 z75 z4n z74 Int.cast_ofNat_Int Nat.mul_one Nat.zero_mul Int.toNat_natCast Int.toNat_zero setParts withO2 hasKey z7b z6t z4p z48 z1r z1q z0h
theorem zkl {f:FuncId} {fn:IF} (hf:L.fns f=some fn)(hp:L.pure f=true) {args:List AV} {st0 st1:St} {r:AV} (h:run L f args st0=some (r,st1))(st:St):run L f args st=some (r,st):=by
 rw [run_pure hf hp] at h⊢
 unfold leaveK at h⊢
 split at h
 ·simp only [leave,Option.some.injEq,Prod.mk.injEq] at h⊢
  exact ⟨h.1,trivial⟩
 ·simp at h
theorem c15 (st:St):run L 15 [] st=some (.v (.bool true),st):=
 zkl (fn:=ir15) rfl rfl (z1g L 400 _ _ _ _ (show callAV L 400 15 [] ⟨[],[]⟩=some (.v (.bool true),⟨[],[]⟩) by kernel_rfl)) st
end Go.Proofs.YtdnmhlfjafjkbaaGreatDoor.Vm
