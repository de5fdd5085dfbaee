/- What is proved: what functions of this program answer, by the evaluator. No condition. -/
import Derived.Test.YtdnmhlfjafjkbaaGreatDoorLib
import Derived.Test.YtdnmhlfjafjkbaaGreatDoorSy
import Derived.KernelRfl
set_option linter.all false
namespace Go.Proofs.YtdnmhlfjafjkbaaGreatDoor.Vm
open Go Go.Ev
set_option maxRecDepth 100000
attribute [local go_sem] z3x z0p z4z z1s z3s z0k z4v z15 z25 z08 z30 z1r z3r z0j z4u z1v z3v z0n z4x z16 z26 z09 z31 z14 z24 z06 z2y z1u z3u z0m z2v z5i z13 z70 z1w z3w z0o z4y z1x z0w z0q z50 z1q z3q z0i z4t z1t z3t z0l z4w z2z z1z z2c z7a z78 z79 z56 z35 z38 z37 z36 z3j z3k z4b z58 z7k z0s z3y z2x z1b z33 z3m z3o z5f z5g z5e z3p z23 z17 z4s z2w z22 z1d z0e z28 z1e z32 z73 z53 z1o z11 z1p pubs pub z5y params z2g z07 z1g z2l z39 z3l z6f untips untip z4r wantedAV setElems withO z7b z3f z3c z3b z5a z3e z3a z59 z3d List.replicate_succ List.replicate_zero opAV valAV aval avals ofVal Env.get setD canon gcAV renAll renEnv renStore renCells z6e cutSt okEnv okStore okRefs okRef z4a z7o z5j z7n z7l z7m z7p cellsEq cellEq isShift intOp boolOp z74 z75 z7q bne resAV tupAV z57 za2 z6j fins zep z7f z7g z7e za3 storeAV readCells putCells z5h z2u z12 fieldAddrAV z94 goI List.getElem?_cons_zero List.getElem?_cons_succ List.getElem?_nil Option.bind_some Option.map_some List.length_cons List.length_nil List.all_cons List.all_nil Bool.and_true Bool.true_and Bool.and_false Bool.false_and and_true true_and and_false false_and Bool.false_eq_true List.set_cons_zero List.set_cons_succ List.append_nil List.nil_append List.cons_append List.take_zero List.take_succ_cons List.take_nil List.drop_zero List.drop_succ_cons List.map_cons List.map_nil decide_true decide_false beq_self_eq_true Bool.not_true Bool.not_false or_true true_or or_false false_or Nat.zero_add Nat.add_zero Nat.le_refl Nat.lt_irrefl decide_eq_true_eq eq_self_iff_true not_true_eq_false not_false_eq_true List.getD_cons_zero z3n Nat.zero_le Nat.not_lt_zero Bool.true_beq Bool.false_beq beq_true beq_false ge_iff_le gt_iff_lt keepR keepT ownTop zf5 pus Option.map_none z2a z29 z5c z3g z5b Int.cast_ofNat_Int Nat.mul_one Nat.zero_mul Int.toNat_natCast Int.toNat_zero setParts withO2 hasKey z5d z54 z3i z34 z1a z19 z0a
theorem zls {f:FuncId} {fn:IF} (hf:L.fns f=some fn)(hp:L.pure f=true) {args:List AV} {st0 st1:St} {r:AV} (h:run L f args st0=some (r,st1))(st:St):run L f args st=some (r,st):=by
 rw [run_pure hf hp] at h⊢
 unfold leaveK at h⊢
 split at h
 ·simp only [leave,Option.some.injEq,Prod.mk.injEq] at h⊢
  exact ⟨h.1,trivial⟩
 ·simp at h
theorem c15 (st:St):run L 15 [] st=some (.v (.bool true),st):=
 zls (fn:=ir15) rfl rfl (z1l L 400 _ _ _ _ (show callAV L 400 15 [] ⟨[],[]⟩=some (.v (.bool true),⟨[],[]⟩) by kernel_rfl)) st
end Go.Proofs.YtdnmhlfjafjkbaaGreatDoor.Vm
