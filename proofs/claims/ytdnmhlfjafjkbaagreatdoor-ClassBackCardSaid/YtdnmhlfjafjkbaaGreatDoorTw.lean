/- What is proved: what functions of this program answer, by the evaluator. No condition. -/
import Derived.Test.YtdnmhlfjafjkbaaGreatDoorRows
import Derived.Test.YtdnmhlfjafjkbaaGreatDoorTq4
import Derived.Test.YtdnmhlfjafjkbaaGreatDoorSy
import Derived.WalkKit
import Derived.ProofKit
import Derived.LaidMore
import Derived.OpenShut
import Derived.Stop.Joined
set_option linter.all false
set_option linter.all false
namespace Go.Proofs.YtdnmhlfjafjkbaaGreatDoor.Vm
open Go Go.Ev Go.ChangeShapes Go.WideShapes Go.ChangeAt Go.RowKit
set_option maxRecDepth 100000
attribute [local go_sem] z3h z0f z4k z1f z3c z0a z4g z0q z1q z03 z2k z1e z3b z09 z4f z1i z3f z0d z4i z0r z1r z04 z2l z0p z1p z02 z2h z1h z3e z0c z2d z5b z0o z67 z1j z3g z0e z4j z1k z1s z0g z4l z1d z3a z08 z4e z1g z3d z0b z4h z2j z1m z2i z6e z6c z6d z4v z2p z2s z2r z2q z33 z34 z3y z4x z6m z0h z3i z2g z0v z2n z36 z38 z58 z59 z57 z39 z1o z0s z48 z2e z1n z0w z05 z1t z0x z2m z69 z4n z1b z0m z1c pubs pub z3t params z24 z06 z0z z26 z2t z35 z6f untips untip z43 wantedAV setElems withO z6g z2z z2w z2v z4z z2y z2u z4y z2x List.replicate_succ List.replicate_zero opAV valAV aval avals ofVal Env.get setD canon gcAV renAll renEnv renStore renCells z3u cutSt okEnv okStore okRefs okRef z1a z6q z5e z6p z6n z6o z6r cellsEq cellEq isShift intOp boolOp z6a z6b z6s bne resAV tupAV z4w z84 z5m fins zc7 z6j z6k z6i z85 storeAV readCells putCells z5a z2c z0n fieldAddrAV z7o goI List.getElem?_cons_zero List.getElem?_cons_succ List.getElem?_nil Option.bind_some Option.map_some List.length_cons List.length_nil List.all_cons List.all_nil Bool.and_true Bool.true_and Bool.and_false Bool.false_and and_true true_and and_false false_and Bool.false_eq_true List.set_cons_zero List.set_cons_succ List.append_nil List.nil_append List.cons_append List.take_zero List.take_succ_cons List.take_nil List.drop_zero List.drop_succ_cons List.map_cons List.map_nil decide_true decide_false beq_self_eq_true Bool.not_true Bool.not_false or_true true_or or_false false_or Nat.zero_add Nat.add_zero Nat.le_refl Nat.lt_irrefl decide_eq_true_eq eq_self_iff_true not_true_eq_false not_false_eq_true List.getD_cons_zero z37 Nat.zero_le Nat.not_lt_zero Bool.true_beq Bool.false_beq beq_true beq_false ge_iff_le gt_iff_lt keepR keepT ownTop zck pus Option.map_none z1v z1u z52 z30 z51 Int.cast_ofNat_Int Nat.mul_one Nat.zero_mul Int.toNat_natCast Int.toNat_zero setParts withO2 hasKey z55 z4s z32 z2o z0u z0i z01
def laidL : List (String × DataW Unit) := [("math/bits.deBruijn32tab", Rows.laid_math_bits_deBruijn32tab), ("math/bits.deBruijn64tab", Rows.laid_math_bits_deBruijn64tab)]
theorem g32 : Tryz.prog.globalNamed "math/bits.deBruijn32tab" = some 0 := by kernel_rfl
theorem g64 : Tryz.prog.globalNamed "math/bits.deBruijn64tab" = some 1 := by kernel_rfl
theorem t32:(Tryz.prog.globals[0]?).map (·.type)=some 188:=by kernel_rfl
theorem t64:(Tryz.prog.globals[1]?).map (·.type)=some 189:=by kernel_rfl
theorem zk4:laidOutB Tryz.prog=true:=by kernel_rfl
theorem door_met (os:Os)(args:Array Value):laidMetH Tryz.prog laidL ((World.doorLaid Tryz.prog 19 os).forCall (fun _ _=>0) ⟨#[],args,[]⟩).memory:=
 laidMetH_of_parts3 (fuel:=8) (laidMet_of_run' 8 (by kernel_rfl) (by kernel_rfl)) (by kernel_rfl) (by kernel_rfl)
theorem zeh {W:World} {fuel:Nat} {t e:TypeId} {n:Nat} {cs:List Value} {bs:List Nat} {p:List MemPlace} {held:Bool} (ht:Tryz.prog.underlying t=some (.array n e))(he:Tryz.prog.underlying e=some (.int .u8))(hc:Tryz.prog.cellsOf e=1)(hct:Tryz.prog.cellsOf t=n)
  (h:DataW.trod (fun _=>()) Tryz.prog W 0 (fun _=>true) held fuel t cs=some (.agg (bs.map fun (b:Nat)=> .lit (.int .u8 (b:Int))),p)):cs=bs.map fun (b:Nat)=>Value.int .u8 (b:Int):=by
 obtain ⟨xs,m,rfl,hx,hlen,hn,hel⟩:=DataW.trod_array ht h
 simp only [Prod.mk.injEq,DataW.agg.injEq] at hx
 have hbl:bs.length=n:=by have:=congrArg List.length hx.1;simp only [List.length_map] at this;omega
 apply List.ext_getElem
 ·rw [hlen,hct,List.length_map,hbl]
 ·intro i h1 h2
  have hi:i<n:=by rw [hlen,hct] at h1;exact h1
  have h3:=hel i hi
  rw [hc,Nat.mul_one,List.getElem?_eq_getElem (by omega)] at h3
  obtain ⟨k,e1,e2,_⟩:=DataW.trod_int he h3
  have e3:(cs.drop i).take 1=[cs[i]]:=by rw [List.drop_eq_getElem_cons h1];rfl
  rw [e3] at e1
  simp only [List.cons.injEq,and_true] at e1
  have e4:(xs.map (·.1))[i]'(by simp;omega)=(bs.map fun (b:Nat)=>DataW.lit (.int .u8 (b:Int)))[i]'(by simp;omega):=by simp only [hx.1]
  simp only [List.getElem_map,e2,DataW.lit.injEq,Lit.int.injEq,true_and] at e4
  rw [e1,List.getElem_map,e4]
theorem zfg {W:World} (h:laidMetH Tryz.prog laidL W)(N:Nat):GlobOk G (usOf N W) W:=by
 rw [MakeChecks.laidMetH_plain _ _ _ (by kernel_rfl)] at h
 obtain ⟨ps,⟨g0,t0,cs0,f0,p0,q0,hg0,ht0,hv0,hd0,⟨g1,t1,cs1,f1,p1,q1,hg1,ht1,hv1,hd1,_,_⟩,_⟩,_,_⟩:=h
 obtain rfl:=Option.some.inj (g32.symm.trans hg0)
 obtain rfl:=Option.some.inj (g64.symm.trans hg1)
 obtain rfl:=Option.some.inj (t32.symm.trans ht0)
 obtain rfl:=Option.some.inj (t64.symm.trans ht1)
 have e1:cs1.toList=(G 1).map fun (b:Nat)=>Value.int .u8 (b:Int):=zeh (bs:=G 1) (p:=p1) (t:=189) (e:=5) (n:=64) (by kernel_rfl) (by kernel_rfl) (by kernel_rfl) (by kernel_rfl) hd1
 refine zki (fun g hg=> ?_) N
 have cellsOf: ∀{nm:String} {g:Nat} {cs:Array Value},Tryz.prog.globalNamed nm=some g→W.var? Tryz.prog nm=some cs→∃ty fz,W.heap[g]? =some (.cells cs ty fz):=by
  intro nm g cs hg hv
  simp only [World.var?,hg,Option.bind_some] at hv
  split at hv
  ·rename_i c ty fz hb
   simp only [Option.some.injEq] at hv
   subst hv
   exact ⟨ty,fz,hb⟩
  ·simp at hv
 match g,hg with
 |0,hg=>exact absurd rfl hg
 |1,_=>obtain ⟨ty,fz,hb⟩:=cellsOf g64 hv1;exact ⟨cs1,ty,fz,hb,e1⟩
 |g+2,hg=>exact absurd (show G (g+2)=[] by unfold G kept;rw [List.find?_cons_of_neg (by simp)];rfl) hg
theorem row_post {os:Os} {f:FuncId} {fn:Func} {s:ChangeSpec} {H:Type} {enc:TypeId×Value→H} (hs:s.vars=[])
  (htys:(fn.params.toList.all fun t=>(decide (t<Tryz.prog.types.size)&&okTy Tryz.prog 8 t)&&Tryz.prog.readableRec t)=true) (hres:fn.resultTypes= #[4])
  (hspec: ∀ds:List (DataW H),ds.length=fn.params.size→s.fn H ds={results:=[.lit (.bool true)],args:=ds})
  (hrun: ∀vals:List AV,vals.length=fn.params.toList.length→(∀(j:Nat) t a,fn.params.toList[j]? =some t→vals[j]? =some a→ShV Tryz.prog 8 t a)→∃st,run L f vals ⟨[],[]⟩=some (.v (.bool true),st))
  (W:World) (hL:laidMetH Tryz.prog laidL W) (base:Nat) (args:Array Value) (ds gs:List (DataW H)) (before:List MemPlace) (apart fresh handsOn:Bool)
  (hval: ∀(j:Nat) t v,fn.params[j]? =some t→args[j]? =some v→Value.okWide Tryz.prog W .any base t v)
  (hW:DataW.Whole enc Tryz.prog fn.params.toList s.vars apart W args.toList ds gs before):
  Calls Tryz.prog f args W fun e W'=> ∃v,e=.returned v∧s.post enc Tryz.prog fn apart fresh handsOn false W args v W':=by
 have hty: ∀t∈fn.params.toList,(t<Tryz.prog.types.size∧okTy Tryz.prog 8 t=true)∧Tryz.prog.readableRec t=true:=fun t ht=>by
  have:=List.all_eq_true.1 htys t ht
  simp only [Bool.and_eq_true,decide_eq_true_eq] at this
  exact this
 have hW':=hW
 obtain ⟨p,q,hA,hV,rfl,hfz,hnd⟩:=hW
 rw [hs] at hV
 obtain ⟨rfl,rfl⟩:=trodVars_none hV
 have hlen:ds.length=fn.params.size:=by
  have: ∀{ts:List TypeId} {vs:List Value} {ds:List (DataW H)} {ps:List MemPlace},DataW.TrodAll enc Tryz.prog W 0 (fun _=>true) true ts vs ds ps→ds.length=ts.length:=by
   intro ts
   induction ts with
   |nil=>intro vs ds ps h;cases vs<;>cases ds<;>simp_all [DataW.TrodAll]
   |cons t ts ih=>
    intro vs ds ps h
    cases vs with
    |nil=>simp [DataW.TrodAll] at h
    |cons v vs=>
     cases ds with
     |nil=>simp [DataW.TrodAll] at h
     |cons d ds=>
      obtain ⟨_,_,_,h2,_⟩:=h
      simp [ih h2]
  simpa using this hA
 refine (zk3 mix libOk zk4 (fun t ht=>(hty t ht).1) hrun (zfg hL) (fun j t v ht hv=>hval j t v (by simpa using ht) (by simpa using hv)) hA).mono fun e W' ⟨he,hb⟩=> ?_
 subst he
 refine ⟨_,rfl,Go.Ev.post_of_below (pa:=p) (pv:=[]) hW' hb (fun b sp hd=> ?_) ?_ ?_ rfl⟩
 ·rw [hres,List.append_nil,hspec ds hlen]
  exact trodAll_cons_mk (shut_bool Tryz.underlying4 _) trodAll_mk0
 ·rw [List.append_nil,hspec ds hlen]
  exact zdq zk4 hb (fun t ht=>⟨(hty t ht).2,(hty t ht).1.1⟩) hA
 ·rw [hs,List.append_nil,hspec ds hlen];rfl
end Go.Proofs.YtdnmhlfjafjkbaaGreatDoor.Vm
