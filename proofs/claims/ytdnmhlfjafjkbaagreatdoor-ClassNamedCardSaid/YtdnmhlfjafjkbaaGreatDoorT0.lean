/- What is proved: what functions of this program answer, by the evaluator. No condition. -/
import Derived.Test.YtdnmhlfjafjkbaaGreatDoorLib
import Derived.Test.YtdnmhlfjafjkbaaGreatDoorSy
import Derived.KernelRfl
set_option linter.all false
namespace Go.Proofs.YtdnmhlfjafjkbaaGreatDoor.Vm
open Go Go.Ev
set_option maxRecDepth 100000
attribute [local go_sem] z30 z09 z48 z12 z2v z04 z44 z0m z1d zw z23 z11 z2u z03 z43 z15 z2y z07 z46 z0n z1e zx z24 z0l z1c zu z21 z14 z2x z06 z1x z4o z0k z5k z16 z2z z08 z47 z17 z1k z0a z49 z10 z2t z02 z42 z13 z2w z05 z45 z22 z19 z1s z5t z5r z5s z4c z29 z2c z2b z2a z2m z2n z3n z4e z5y z0d z31 z1z z0r z27 z2p z2r z4l z4m z4k z2s z1b z0o z41 z1y z1a z0s zz z1f z0t z26 z5m z4a z0y z0i z0z pubs pub z5h params z1t z00 z0w z1u z2d z2o z5u untips untip z40 wantedAV setElems withO z5v z2j z2g z2f z4g z2i z2e z4f z2h List.replicate_succ List.replicate_zero opAV valAV aval avals ofVal Env.get setD canon gcAV renAll renEnv renStore renCells z52 cutSt okEnv okStore okRefs okRef z3m z62 z4p z61 z5z z60 z63 cellsEq cellEq isShift intOp boolOp z5o z5p z64 bne resAV tupAV z4d z72 z56 fins zam z5w z5x z55 z7i storeAV readCells putCells z4n z1w z0j fieldAddrAV z6w goI List.getElem?_cons_zero List.getElem?_cons_succ List.getElem?_nil Option.bind_some Option.map_some List.length_cons List.length_nil List.all_cons List.all_nil Bool.and_true Bool.true_and Bool.and_false Bool.false_and and_true true_and and_false false_and Bool.false_eq_true List.set_cons_zero List.set_cons_succ List.append_nil List.nil_append List.cons_append List.take_zero List.take_succ_cons List.take_nil List.drop_zero List.drop_succ_cons List.map_cons List.map_nil decide_true decide_false beq_self_eq_true Bool.not_true Bool.not_false or_true true_or or_false false_or Nat.zero_add Nat.add_zero Nat.le_refl Nat.lt_irrefl decide_eq_true_eq eq_self_iff_true not_true_eq_false not_false_eq_true List.getD_cons_zero z2q Nat.zero_le Nat.not_lt_zero Bool.true_beq Bool.false_beq beq_true beq_false ge_iff_le gt_iff_lt keepR keepT ownTop zan pus Option.map_none z1h z1g z4i z2k z4h Int.cast_ofNat_Int Nat.mul_one Nat.zero_mul Int.toNat_natCast Int.toNat_zero setParts withO2 hasKey z4j z4b z2l z28 z0q z0p zy
theorem znj {f:FuncId} {fn:IF} (hf:L.fns f=some fn)(hp:L.pure f=true) {args:List AV} {st0 st1:St} {r:AV} (h:run L f args st0=some (r,st1))(st:St):run L f args st=some (r,st):=by
 rw [run_pure hf hp] at h⊢
 unfold leaveK at h⊢
 split at h
 ·simp only [leave,Option.some.injEq,Prod.mk.injEq] at h⊢
  exact ⟨h.1,trivial⟩
 ·simp at h
theorem c15 (st:St):run L 15 [] st=some (.v (.bool true),st):=
 znj (fn:=ir15) rfl rfl (z4v L 400 _ _ _ _ (show callAV L 400 15 [] ⟨[],[]⟩=some (.v (.bool true),⟨[],[]⟩) by kernel_rfl)) st
end Go.Proofs.YtdnmhlfjafjkbaaGreatDoor.Vm
