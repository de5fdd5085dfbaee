/- What is proved: what functions of this program answer, by the evaluator. No condition. -/
import Derived.Test.YtdnmhlfjafjkbaaGreatDoorLib
import Derived.Test.YtdnmhlfjafjkbaaGreatDoorSy
import Derived.KernelRfl
set_option linter.all false
namespace Go.Proofs.YtdnmhlfjafjkbaaGreatDoor.Vm
open Go Go.Ev
set_option maxRecDepth 100000
attribute [local go_sem] z3h z0f z4k z1f z3c z0a z4g z0q z1q z03 z2k z1e z3b z09 z4f z1i z3f z0d z4i z0r z1r z04 z2l z0p z1p z02 z2h z1h z3e z0c z2d z5b z0o z67 z1j z3g z0e z4j z1k z1s z0g z4l z1d z3a z08 z4e z1g z3d z0b z4h z2j z1m z2i z6e z6c z6d z4v z2p z2s z2r z2q z33 z34 z3y z4x z6m z0h z3i z2g z0v z2n z36 z38 z58 z59 z57 z39 z1o z0s z48 z2e z1n z0w z05 z1t z0x z2m z69 z4n z1b z0m z1c pubs pub z3t params z24 z06 z0z z26 z2t z35 z6f untips untip z43 wantedAV setElems withO z6g z2z z2w z2v z4z z2y z2u z4y z2x List.replicate_succ List.replicate_zero opAV valAV aval avals ofVal Env.get setD canon gcAV renAll renEnv renStore renCells z3u cutSt okEnv okStore okRefs okRef z1a z6q z5e z6p z6n z6o z6r cellsEq cellEq isShift intOp boolOp z6a z6b z6s bne resAV tupAV z4w z84 z5m fins zc7 z6j z6k z6i z85 storeAV readCells putCells z5a z2c z0n fieldAddrAV z7o goI List.getElem?_cons_zero List.getElem?_cons_succ List.getElem?_nil Option.bind_some Option.map_some List.length_cons List.length_nil List.all_cons List.all_nil Bool.and_true Bool.true_and Bool.and_false Bool.false_and and_true true_and and_false false_and Bool.false_eq_true List.set_cons_zero List.set_cons_succ List.append_nil List.nil_append List.cons_append List.take_zero List.take_succ_cons List.take_nil List.drop_zero List.drop_succ_cons List.map_cons List.map_nil decide_true decide_false beq_self_eq_true Bool.not_true Bool.not_false or_true true_or or_false false_or Nat.zero_add Nat.add_zero Nat.le_refl Nat.lt_irrefl decide_eq_true_eq eq_self_iff_true not_true_eq_false not_false_eq_true List.getD_cons_zero z37 Nat.zero_le Nat.not_lt_zero Bool.true_beq Bool.false_beq beq_true beq_false ge_iff_le gt_iff_lt keepR keepT ownTop zck pus Option.map_none z1v z1u z52 z30 z51 Int.cast_ofNat_Int Nat.mul_one Nat.zero_mul Int.toNat_natCast Int.toNat_zero setParts withO2 hasKey z55 z4s z32 z2o z0u z0i z01
theorem znx {f:FuncId} {fn:IF} (hf:L.fns f=some fn)(hp:L.pure f=true) {args:List AV} {st0 st1:St} {r:AV} (h:run L f args st0=some (r,st1))(st:St):run L f args st=some (r,st):=by
 rw [run_pure hf hp] at h⊢
 unfold leaveK at h⊢
 split at h
 ·simp only [leave,Option.some.injEq,Prod.mk.injEq] at h⊢
  exact ⟨h.1,trivial⟩
 ·simp at h
theorem c15 (st:St):run L 15 [] st=some (.v (.bool true),st):=
 znx (fn:=ir15) rfl rfl (z11 L 400 _ _ _ _ (show callAV L 400 15 [] ⟨[],[]⟩=some (.v (.bool true),⟨[],[]⟩) by kernel_rfl)) st
end Go.Proofs.YtdnmhlfjafjkbaaGreatDoor.Vm
