/- What is proved: what each function of this program computes, as equations on the evaluator. No condition. -/
import Derived.Test.YtdnmhlfjafjkbaaGreatDoorC1
set_option linter.all false
namespace Go.Proofs.YtdnmhlfjafjkbaaGreatDoor.Vm
open Go Go.Ev
set_option maxRecDepth 100000
set_option maxHeartbeats 4000000
attribute [local go_sem] m_ x_ l_ k_ o_ t_ a_ s_ q_ b_ c_ u_ g_ z30 z09 z48 z12 z2v z04 z44 z0m z1d zw z23 z11 z2u z03 z43 z15 z2y z07 z46 z0n z1e zx z24 z0l z1c zu z21 z14 z2x z06 z1x z4o z0k z5k z16 z2z z08 z47 z17 z1k z0a z49 z10 z2t z02 z42 z13 z2w z05 z45 z22 z19 z1s z5t z5r z5s z4c z29 z2c z2b z2a z2m z2n z3n z4e z5y z0d z31 z1z z0r z27 z2p z2r z4l z4m z4k z2s z1b z0o z41 z1y z1a z0s zz z1f z0t z26 z5m z4a z0y z0i z0z pubs pub z5h params z1t z00 z0w z1u z2d z2o z5u untips untip z40 wantedAV setElems withO z5v z2j z2g z2f z4g z2i z2e z4f z2h List.replicate_succ List.replicate_zero opAV valAV aval avals ofVal Env.get setD canon gcAV renAll renEnv renStore renCells z52 cutSt okEnv okStore okRefs okRef z3m z62 z4p z61 z5z z60 z63 cellsEq cellEq isShift intOp boolOp z5o z5p z64 bne resAV tupAV z4d z72 z56 fins zam z5w z5x z55 z7i storeAV readCells putCells z4n z1w z0j fieldAddrAV z6w goI List.getElem?_cons_zero List.getElem?_cons_succ List.getElem?_nil Option.bind_some Option.map_some List.length_cons List.length_nil List.all_cons List.all_nil Bool.and_true Bool.true_and Bool.and_false Bool.false_and and_true true_and and_false false_and Bool.false_eq_true List.set_cons_zero List.set_cons_succ List.append_nil List.nil_append List.cons_append List.take_zero List.take_succ_cons List.take_nil List.drop_zero List.drop_succ_cons List.map_cons List.map_nil decide_true decide_false beq_self_eq_true Bool.not_true Bool.not_false or_true true_or or_false false_or Nat.zero_add Nat.add_zero Nat.le_refl Nat.lt_irrefl decide_eq_true_eq eq_self_iff_true not_true_eq_false not_false_eq_true List.getD_cons_zero z2q Nat.zero_le Nat.not_lt_zero Bool.true_beq Bool.false_beq beq_true beq_false ge_iff_le gt_iff_lt keepR keepT ownTop zan pus Option.map_none z1h z1g z4i z2k z4h Int.cast_ofNat_Int Nat.mul_one Nat.zero_mul Int.toNat_natCast Int.toNat_zero setParts withO2 hasKey z4j z4b z2l z28 z0q z0p zy z0v zl1 z3g z3y z3o z6p z6r z8k z59 z3t z38 z1o z5c z3v z3r z32 z3z z37 z5a z3u z33 z1m z5d z3w z5f z35 z36 z3x z1l z57 z3q z3p z58 Option.bind_none Bool.not_eq_true' decide_eq_false_iff_not Bool.and_eq_true Bool.or_eq_true Option.some.injEq Int.not_lt Int.not_le
attribute [local go_sem_proc] reduceIte Nat.reduceEqDiff Nat.reduceAdd Nat.reduceSub Nat.reduceLeDiff Nat.reduceLT reduceCtorEq Int.reduceLT Int.reduceLE Int.reduceEq Int.reduceBEq Int.reduceSub Int.reduceAdd Int.reduceMul Int.reduceNeg Int.reduceToNat Nat.reduceMul Nat.reduceBEq
attribute [local go_sem] m_ x_ l_ k_ o_ t_ a_ s_ q_ b_ c_ u_ g_ zd zf zi z8 zh
section
variable (S0:List (List AV)) (T:List Nat) (l:Nat) (hl:l<S0.length) (n:Nat) (hn:n≤1000) (ag:Bool) (k:Nat) (hk:pure k=true) (caps:List AV) (c:Fin 256→Fin 256→Int) (lt:Fin 256→Fin 256→Bool) (hlt: ∀x y,lt x y=decide (c x y<0)) (hc: ∀x y X E,run L k (fS x::fS y::caps) ⟨put S0 l X E,T⟩=some (I (c x y),⟨put S0 l X E,T⟩))
include S0 T l hl n hn ag k hk caps c lt hlt hc
theorem par0s (X0:List (List AV))(a j:Nat)(ha:a<n)(hoth:j<n)(d:Array (Fin 256))(hsz:d.size=n)(lo hi2:Nat)(i:Nat)(hok:0<i∧i≤j+1)(env:Env)(st:St)
  (hg:gcAV false lo hi2 (canon env [0,1,4,12,13]) st=([(0,.rsl l 0 n n 1 ag),(1,J a),(4,.fn (.func k) [] caps),(12,J i),(13,J j)],⟨put S0 l (Dm gS d) X0,T⟩)):
  ∃x_1 en s,lim (headed pure (run L) false [0,1,4,12,13] lp168_0 lo hi2) env st=some (x_1,en,s)∧(x_1=.exit 0∧en.get 0=.rsl l 0 n n 1 ag∧en.get 1=J a∧en.get 4=.fn (.func k) [] caps∧en.get 12=J (Go.Sort.scanUp (fun x=>lt x d[a]!) d j i)∧en.get 13=J j∧s=⟨put S0 l (Dm gS d) X0,T⟩):=by
 refine z9 (α:=Nat) (fun i=>j+1-i) (fun i=>0<i∧i≤j+1) (fun i=>([(0,.rsl l 0 n n 1 ag),(1,J a),(4,.fn (.func k) [] caps),(12,J i),(13,J j)],⟨put S0 l (Dm gS d) X0,T⟩)) (fun i x_1 en s=>x_1=.exit 0∧en.get 0=.rsl l 0 n n 1 ag∧en.get 1=J a∧en.get 4=.fn (.func k) [] caps∧en.get 12=J (Go.Sort.scanUp (fun x=>lt x d[a]!) d j i)∧en.get 13=J j∧s=⟨put S0 l (Dm gS d) X0,T⟩) (fun i hok=> ?_) i hok env st hg
 obtain ⟨h1,h2⟩:=hok
 have hget:=fun C E=>zk hl C E
 have hpset:=fun C C' E=>zj hl C C' E
 have hlenD:(Dm gS d).length=n:=by rw [zr,hsz]
 by_cases h:i≤j
 ·have hle:((i:Int)≤(j:Int))=True:=eT (by omega)
  have hs:=ze i (by omega)
  have r10:(((a:Nat):Int)<(n:Int))=True:=eT (by omega)
  have r11:((a:Nat)<n)=True:=eT (by omega)
  have r12:((a:Nat)+1≤n)=True:=eT (by omega)
  have r13:((Dm gS d).drop (a)).take 1=[gS d[a]!]:=zg gS d (by omega)
  have r20:(((i:Nat):Int)<(n:Int))=True:=eT (by omega)
  have r21:((i:Nat)<n)=True:=eT (by omega)
  have r22:((i:Nat)+1≤n)=True:=eT (by omega)
  have r23:((Dm gS d).drop (i)).take 1=[gS d[i]!]:=zg gS d (by omega)
  cases hcc:lt d[i]! d[a]! with
  |true=>
   have hk0:(c d[i]! d[a]! <0)=True:=by rw [hlt] at hcc;simpa using hcc
   rw [z6t _ d j i h (by simp [hcc])]
   generalize d[a]! =x at*
   generalize d[i]! =y at*
   simp only [go_sem,lp168_0,hle,hs,r10,r11,r12,r13,r20,r21,r22,r23,hc,hk,hk0,hget,hpset,hlenD,nn_,lm_,List.length_set]
   refine ⟨i+1,by simp only [go_sem,z3,z4,z5]<;>rfl,?_,?_,fun x en s hq=> ?_⟩
   ·omega
   ·omega
   ·exact hq
  |false=>
   have hk0:(c d[i]! d[a]! <0)=False:=by rw [hlt] at hcc;simpa using hcc
   rw [z18 _ d _ _ (by simp [hcc])]
   generalize d[a]! =x at*
   generalize d[i]! =y at*
   simp only [go_sem,lp168_0,hle,r10,r11,r12,r13,r20,r21,r22,r23,hc,hk,hk0,hget,hpset,hlenD,nn_,lm_,List.length_set]
 ·have hle:((i:Int)≤(j:Int))=False:=eF (by omega)
  rw [z18 _ d _ _ (by simp;omega)]
  simp only [go_sem,lp168_0,hle]
theorem par1s (X0:List (List AV))(a i:Nat)(ha:a<n)(hoth:0<i)(d:Array (Fin 256))(hsz:d.size=n)(lo hi2:Nat)(j:Nat)(hok:i≤j+1∧j<n)(env:Env)(st:St)
  (hg:gcAV false lo hi2 (canon env [0,1,4,12,13]) st=([(0,.rsl l 0 n n 1 ag),(1,J a),(4,.fn (.func k) [] caps),(12,J i),(13,J j)],⟨put S0 l (Dm gS d) X0,T⟩)):
  ∃x_1 en s,lim (headed pure (run L) false [0,1,4,12,13] lp168_1 lo hi2) env st=some (x_1,en,s)∧(x_1=.exit 2∧en.get 0=.rsl l 0 n n 1 ag∧en.get 1=J a∧en.get 4=.fn (.func k) [] caps∧en.get 12=J i∧en.get 13=J (Go.Sort.scanDown (fun x=> !lt x d[a]!) d i j)∧s=⟨put S0 l (Dm gS d) X0,T⟩):=by
 refine z9 (α:=Nat) (fun j=>j) (fun j=>i≤j+1∧j<n) (fun j=>([(0,.rsl l 0 n n 1 ag),(1,J a),(4,.fn (.func k) [] caps),(12,J i),(13,J j)],⟨put S0 l (Dm gS d) X0,T⟩)) (fun j x_1 en s=>x_1=.exit 2∧en.get 0=.rsl l 0 n n 1 ag∧en.get 1=J a∧en.get 4=.fn (.func k) [] caps∧en.get 12=J i∧en.get 13=J (Go.Sort.scanDown (fun x=> !lt x d[a]!) d i j)∧s=⟨put S0 l (Dm gS d) X0,T⟩) (fun j hok=> ?_) j hok env st hg
 obtain ⟨h1,h2⟩:=hok
 have hget:=fun C E=>zk hl C E
 have hpset:=fun C C' E=>zj hl C C' E
 have hlenD:(Dm gS d).length=n:=by rw [zr,hsz]
 by_cases h:i≤j
 ·have hle:((i:Int)≤(j:Int))=True:=eT (by omega)
  have hs:=z0c j (by omega) (by omega)
  have r30:(((a:Nat):Int)<(n:Int))=True:=eT (by omega)
  have r31:((a:Nat)<n)=True:=eT (by omega)
  have r32:((a:Nat)+1≤n)=True:=eT (by omega)
  have r33:((Dm gS d).drop (a)).take 1=[gS d[a]!]:=zg gS d (by omega)
  have r40:(((j:Nat):Int)<(n:Int))=True:=eT (by omega)
  have r41:((j:Nat)<n)=True:=eT (by omega)
  have r42:((j:Nat)+1≤n)=True:=eT (by omega)
  have r43:((Dm gS d).drop (j)).take 1=[gS d[j]!]:=zg gS d (by omega)
  cases hcc:lt d[j]! d[a]! with
  |true=>
   have hk0:(c d[j]! d[a]! <0)=True:=by rw [hlt] at hcc;simpa using hcc
   rw [z0b _ d _ _ (by simp [hcc])]
   generalize d[a]! =x at*
   generalize d[j]! =y at*
   simp only [go_sem,lp168_1,hle,r30,r31,r32,r33,r40,r41,r42,r43,hc,hk,hk0,hget,hpset,hlenD,nn_,lm_,List.length_set]
  |false=>
   have hk0:(c d[j]! d[a]! <0)=False:=by rw [hlt] at hcc;simpa using hcc
   rw [z51 _ d i j h (by omega) (by simp [hcc])]
   generalize d[a]! =x at*
   generalize d[j]! =y at*
   simp only [go_sem,lp168_1,hle,hs,r30,r31,r32,r33,r40,r41,r42,r43,hc,hk,hk0,hget,hpset,hlenD,nn_,lm_,List.length_set]
   refine ⟨j-1,by simp only [go_sem,z3,z4,z5]<;>rfl,?_,?_,fun x en s hq=> ?_⟩
   ·omega
   ·omega
   ·exact hq
 ·have hle:((i:Int)≤(j:Int))=False:=eF (by omega)
  rw [z0b _ d _ _ (by simp;omega)]
  simp only [go_sem,lp168_1,hle]
theorem par2s (X0:List (List AV))(a j:Nat)(ha:a<n)(hoth:j<n)(d:Array (Fin 256))(hsz:d.size=n)(lo hi2:Nat)(i:Nat)(hok:0<i∧i≤j+1)(env:Env)(st:St)
  (hg:gcAV false lo hi2 (canon env [0,1,4,12,13]) st=([(0,.rsl l 0 n n 1 ag),(1,J a),(4,.fn (.func k) [] caps),(12,J i),(13,J j)],⟨put S0 l (Dm gS d) X0,T⟩)):
  ∃x_1 en s,lim (headed pure (run L) false [0,1,4,12,13] lp168_2 lo hi2) env st=some (x_1,en,s)∧(x_1=.exit 6∧en.get 0=.rsl l 0 n n 1 ag∧en.get 1=J a∧en.get 4=.fn (.func k) [] caps∧en.get 12=J (Go.Sort.scanUp (fun x=>lt x d[a]!) d j i)∧en.get 13=J j∧s=⟨put S0 l (Dm gS d) X0,T⟩):=by
 refine z9 (α:=Nat) (fun i=>j+1-i) (fun i=>0<i∧i≤j+1) (fun i=>([(0,.rsl l 0 n n 1 ag),(1,J a),(4,.fn (.func k) [] caps),(12,J i),(13,J j)],⟨put S0 l (Dm gS d) X0,T⟩)) (fun i x_1 en s=>x_1=.exit 6∧en.get 0=.rsl l 0 n n 1 ag∧en.get 1=J a∧en.get 4=.fn (.func k) [] caps∧en.get 12=J (Go.Sort.scanUp (fun x=>lt x d[a]!) d j i)∧en.get 13=J j∧s=⟨put S0 l (Dm gS d) X0,T⟩) (fun i hok=> ?_) i hok env st hg
 obtain ⟨h1,h2⟩:=hok
 have hget:=fun C E=>zk hl C E
 have hpset:=fun C C' E=>zj hl C C' E
 have hlenD:(Dm gS d).length=n:=by rw [zr,hsz]
 by_cases h:i≤j
 ·have hle:((i:Int)≤(j:Int))=True:=eT (by omega)
  have hs:=ze i (by omega)
  have r50:(((a:Nat):Int)<(n:Int))=True:=eT (by omega)
  have r51:((a:Nat)<n)=True:=eT (by omega)
  have r52:((a:Nat)+1≤n)=True:=eT (by omega)
  have r53:((Dm gS d).drop (a)).take 1=[gS d[a]!]:=zg gS d (by omega)
  have r60:(((i:Nat):Int)<(n:Int))=True:=eT (by omega)
  have r61:((i:Nat)<n)=True:=eT (by omega)
  have r62:((i:Nat)+1≤n)=True:=eT (by omega)
  have r63:((Dm gS d).drop (i)).take 1=[gS d[i]!]:=zg gS d (by omega)
  cases hcc:lt d[i]! d[a]! with
  |true=>
   have hk0:(c d[i]! d[a]! <0)=True:=by rw [hlt] at hcc;simpa using hcc
   rw [z6t _ d j i h (by simp [hcc])]
   generalize d[a]! =x at*
   generalize d[i]! =y at*
   simp only [go_sem,lp168_2,hle,hs,r50,r51,r52,r53,r60,r61,r62,r63,hc,hk,hk0,hget,hpset,hlenD,nn_,lm_,List.length_set]
   refine ⟨i+1,by simp only [go_sem,z3,z4,z5]<;>rfl,?_,?_,fun x en s hq=> ?_⟩
   ·omega
   ·omega
   ·exact hq
  |false=>
   have hk0:(c d[i]! d[a]! <0)=False:=by rw [hlt] at hcc;simpa using hcc
   rw [z18 _ d _ _ (by simp [hcc])]
   generalize d[a]! =x at*
   generalize d[i]! =y at*
   simp only [go_sem,lp168_2,hle,r50,r51,r52,r53,r60,r61,r62,r63,hc,hk,hk0,hget,hpset,hlenD,nn_,lm_,List.length_set]
 ·have hle:((i:Int)≤(j:Int))=False:=eF (by omega)
  rw [z18 _ d _ _ (by simp;omega)]
  simp only [go_sem,lp168_2,hle]
theorem par3s (X0:List (List AV))(a i:Nat)(ha:a<n)(hoth:0<i)(d:Array (Fin 256))(hsz:d.size=n)(lo hi2:Nat)(j:Nat)(hok:i≤j+1∧j<n)(env:Env)(st:St)
  (hg:gcAV false lo hi2 (canon env [0,1,4,12,13]) st=([(0,.rsl l 0 n n 1 ag),(1,J a),(4,.fn (.func k) [] caps),(12,J i),(13,J j)],⟨put S0 l (Dm gS d) X0,T⟩)):
  ∃x_1 en s,lim (headed pure (run L) false [0,1,4,12,13] lp168_3 lo hi2) env st=some (x_1,en,s)∧(x_1=.exit 8∧en.get 0=.rsl l 0 n n 1 ag∧en.get 1=J a∧en.get 4=.fn (.func k) [] caps∧en.get 12=J i∧en.get 13=J (Go.Sort.scanDown (fun x=> !lt x d[a]!) d i j)∧s=⟨put S0 l (Dm gS d) X0,T⟩):=by
 refine z9 (α:=Nat) (fun j=>j) (fun j=>i≤j+1∧j<n) (fun j=>([(0,.rsl l 0 n n 1 ag),(1,J a),(4,.fn (.func k) [] caps),(12,J i),(13,J j)],⟨put S0 l (Dm gS d) X0,T⟩)) (fun j x_1 en s=>x_1=.exit 8∧en.get 0=.rsl l 0 n n 1 ag∧en.get 1=J a∧en.get 4=.fn (.func k) [] caps∧en.get 12=J i∧en.get 13=J (Go.Sort.scanDown (fun x=> !lt x d[a]!) d i j)∧s=⟨put S0 l (Dm gS d) X0,T⟩) (fun j hok=> ?_) j hok env st hg
 obtain ⟨h1,h2⟩:=hok
 have hget:=fun C E=>zk hl C E
 have hpset:=fun C C' E=>zj hl C C' E
 have hlenD:(Dm gS d).length=n:=by rw [zr,hsz]
 by_cases h:i≤j
 ·have hle:((i:Int)≤(j:Int))=True:=eT (by omega)
  have hs:=z0c j (by omega) (by omega)
  have r70:(((a:Nat):Int)<(n:Int))=True:=eT (by omega)
  have r71:((a:Nat)<n)=True:=eT (by omega)
  have r72:((a:Nat)+1≤n)=True:=eT (by omega)
  have r73:((Dm gS d).drop (a)).take 1=[gS d[a]!]:=zg gS d (by omega)
  have r80:(((j:Nat):Int)<(n:Int))=True:=eT (by omega)
  have r81:((j:Nat)<n)=True:=eT (by omega)
  have r82:((j:Nat)+1≤n)=True:=eT (by omega)
  have r83:((Dm gS d).drop (j)).take 1=[gS d[j]!]:=zg gS d (by omega)
  cases hcc:lt d[j]! d[a]! with
  |true=>
   have hk0:(c d[j]! d[a]! <0)=True:=by rw [hlt] at hcc;simpa using hcc
   rw [z0b _ d _ _ (by simp [hcc])]
   generalize d[a]! =x at*
   generalize d[j]! =y at*
   simp only [go_sem,lp168_3,hle,r70,r71,r72,r73,r80,r81,r82,r83,hc,hk,hk0,hget,hpset,hlenD,nn_,lm_,List.length_set]
  |false=>
   have hk0:(c d[j]! d[a]! <0)=False:=by rw [hlt] at hcc;simpa using hcc
   rw [z51 _ d i j h (by omega) (by simp [hcc])]
   generalize d[a]! =x at*
   generalize d[j]! =y at*
   simp only [go_sem,lp168_3,hle,hs,r70,r71,r72,r73,r80,r81,r82,r83,hc,hk,hk0,hget,hpset,hlenD,nn_,lm_,List.length_set]
   refine ⟨j-1,by simp only [go_sem,z3,z4,z5]<;>rfl,?_,?_,fun x en s hq=> ?_⟩
   ·omega
   ·omega
   ·exact hq
 ·have hle:((i:Int)≤(j:Int))=False:=eF (by omega)
  rw [z0b _ d _ _ (by simp;omega)]
  simp only [go_sem,lp168_3,hle]
theorem peq0s (X0:List (List AV))(a j:Nat)(ha:a<n)(hoth:j<n)(d:Array (Fin 256))(hsz:d.size=n)(lo hi2:Nat)(i:Nat)(hok:0<i∧i≤j+1)(env:Env)(st:St)
  (hg:gcAV false lo hi2 (canon env [0,1,4,11,12]) st=([(0,.rsl l 0 n n 1 ag),(1,J a),(4,.fn (.func k) [] caps),(11,J i),(12,J j)],⟨put S0 l (Dm gS d) X0,T⟩)):
  ∃x_1 en s,lim (headed pure (run L) false [0,1,4,11,12] lp167_0 lo hi2) env st=some (x_1,en,s)∧(x_1=.exit 2∧en.get 0=.rsl l 0 n n 1 ag∧en.get 1=J a∧en.get 4=.fn (.func k) [] caps∧en.get 11=J (Go.Sort.scanUp (fun x=> !lt d[a]! x) d j i)∧en.get 12=J j∧s=⟨put S0 l (Dm gS d) X0,T⟩):=by
 refine z9 (α:=Nat) (fun i=>j+1-i) (fun i=>0<i∧i≤j+1) (fun i=>([(0,.rsl l 0 n n 1 ag),(1,J a),(4,.fn (.func k) [] caps),(11,J i),(12,J j)],⟨put S0 l (Dm gS d) X0,T⟩)) (fun i x_1 en s=>x_1=.exit 2∧en.get 0=.rsl l 0 n n 1 ag∧en.get 1=J a∧en.get 4=.fn (.func k) [] caps∧en.get 11=J (Go.Sort.scanUp (fun x=> !lt d[a]! x) d j i)∧en.get 12=J j∧s=⟨put S0 l (Dm gS d) X0,T⟩) (fun i hok=> ?_) i hok env st hg
 obtain ⟨h1,h2⟩:=hok
 have hget:=fun C E=>zk hl C E
 have hpset:=fun C C' E=>zj hl C C' E
 have hlenD:(Dm gS d).length=n:=by rw [zr,hsz]
 by_cases h:i≤j
 ·have hle:((i:Int)≤(j:Int))=True:=eT (by omega)
  have hs:=ze i (by omega)
  have r90:(((a:Nat):Int)<(n:Int))=True:=eT (by omega)
  have r91:((a:Nat)<n)=True:=eT (by omega)
  have r92:((a:Nat)+1≤n)=True:=eT (by omega)
  have r93:((Dm gS d).drop (a)).take 1=[gS d[a]!]:=zg gS d (by omega)
  have r100:(((i:Nat):Int)<(n:Int))=True:=eT (by omega)
  have r101:((i:Nat)<n)=True:=eT (by omega)
  have r102:((i:Nat)+1≤n)=True:=eT (by omega)
  have r103:((Dm gS d).drop (i)).take 1=[gS d[i]!]:=zg gS d (by omega)
  cases hcc:lt d[a]! d[i]! with
  |true=>
   have hk0:(c d[a]! d[i]! <0)=True:=by rw [hlt] at hcc;simpa using hcc
   rw [z18 _ d _ _ (by simp [hcc])]
   generalize d[a]! =x at*
   generalize d[i]! =y at*
   simp only [go_sem,lp167_0,hle,r90,r91,r92,r93,r100,r101,r102,r103,hc,hk,hk0,hget,hpset,hlenD,nn_,lm_,List.length_set]
  |false=>
   have hk0:(c d[a]! d[i]! <0)=False:=by rw [hlt] at hcc;simpa using hcc
   rw [z6t _ d j i h (by simp [hcc])]
   generalize d[a]! =x at*
   generalize d[i]! =y at*
   simp only [go_sem,lp167_0,hle,hs,r90,r91,r92,r93,r100,r101,r102,r103,hc,hk,hk0,hget,hpset,hlenD,nn_,lm_,List.length_set]
   refine ⟨i+1,by simp only [go_sem,z3,z4,z5]<;>rfl,?_,?_,fun x en s hq=> ?_⟩
   ·omega
   ·omega
   ·exact hq
 ·have hle:((i:Int)≤(j:Int))=False:=eF (by omega)
  rw [z18 _ d _ _ (by simp;omega)]
  simp only [go_sem,lp167_0,hle]
theorem peq1s (X0:List (List AV))(a i:Nat)(ha:a<n)(hoth:0<i)(d:Array (Fin 256))(hsz:d.size=n)(lo hi2:Nat)(j:Nat)(hok:i≤j+1∧j<n)(env:Env)(st:St)
  (hg:gcAV false lo hi2 (canon env [0,1,4,11,12]) st=([(0,.rsl l 0 n n 1 ag),(1,J a),(4,.fn (.func k) [] caps),(11,J i),(12,J j)],⟨put S0 l (Dm gS d) X0,T⟩)):
  ∃x_1 en s,lim (headed pure (run L) false [0,1,4,11,12] lp167_1 lo hi2) env st=some (x_1,en,s)∧(x_1=.exit 4∧en.get 0=.rsl l 0 n n 1 ag∧en.get 1=J a∧en.get 4=.fn (.func k) [] caps∧en.get 11=J i∧en.get 12=J (Go.Sort.scanDown (fun x=>lt d[a]! x) d i j)∧s=⟨put S0 l (Dm gS d) X0,T⟩):=by
 refine z9 (α:=Nat) (fun j=>j) (fun j=>i≤j+1∧j<n) (fun j=>([(0,.rsl l 0 n n 1 ag),(1,J a),(4,.fn (.func k) [] caps),(11,J i),(12,J j)],⟨put S0 l (Dm gS d) X0,T⟩)) (fun j x_1 en s=>x_1=.exit 4∧en.get 0=.rsl l 0 n n 1 ag∧en.get 1=J a∧en.get 4=.fn (.func k) [] caps∧en.get 11=J i∧en.get 12=J (Go.Sort.scanDown (fun x=>lt d[a]! x) d i j)∧s=⟨put S0 l (Dm gS d) X0,T⟩) (fun j hok=> ?_) j hok env st hg
 obtain ⟨h1,h2⟩:=hok
 have hget:=fun C E=>zk hl C E
 have hpset:=fun C C' E=>zj hl C C' E
 have hlenD:(Dm gS d).length=n:=by rw [zr,hsz]
 by_cases h:i≤j
 ·have hle:((i:Int)≤(j:Int))=True:=eT (by omega)
  have hs:=z0c j (by omega) (by omega)
  have r110:(((a:Nat):Int)<(n:Int))=True:=eT (by omega)
  have r111:((a:Nat)<n)=True:=eT (by omega)
  have r112:((a:Nat)+1≤n)=True:=eT (by omega)
  have r113:((Dm gS d).drop (a)).take 1=[gS d[a]!]:=zg gS d (by omega)
  have r120:(((j:Nat):Int)<(n:Int))=True:=eT (by omega)
  have r121:((j:Nat)<n)=True:=eT (by omega)
  have r122:((j:Nat)+1≤n)=True:=eT (by omega)
  have r123:((Dm gS d).drop (j)).take 1=[gS d[j]!]:=zg gS d (by omega)
  cases hcc:lt d[a]! d[j]! with
  |true=>
   have hk0:(c d[a]! d[j]! <0)=True:=by rw [hlt] at hcc;simpa using hcc
   rw [z51 _ d i j h (by omega) (by simp [hcc])]
   generalize d[a]! =x at*
   generalize d[j]! =y at*
   simp only [go_sem,lp167_1,hle,hs,r110,r111,r112,r113,r120,r121,r122,r123,hc,hk,hk0,hget,hpset,hlenD,nn_,lm_,List.length_set]
   refine ⟨j-1,by simp only [go_sem,z3,z4,z5]<;>rfl,?_,?_,fun x en s hq=> ?_⟩
   ·omega
   ·omega
   ·exact hq
  |false=>
   have hk0:(c d[a]! d[j]! <0)=False:=by rw [hlt] at hcc;simpa using hcc
   rw [z0b _ d _ _ (by simp [hcc])]
   generalize d[a]! =x at*
   generalize d[j]! =y at*
   simp only [go_sem,lp167_1,hle,r110,r111,r112,r113,r120,r121,r122,r123,hc,hk,hk0,hget,hpset,hlenD,nn_,lm_,List.length_set]
 ·have hle:((i:Int)≤(j:Int))=False:=eF (by omega)
  rw [z0b _ d _ _ (by simp;omega)]
  simp only [go_sem,lp167_1,hle]
theorem par4s (X0:List (List AV))(a:Nat)(ha:a<n)(lo hi2:Nat)(i:Nat)(j:Nat)(d:Array (Fin 256))(hok:a<i∧i≤j+1∧j<n∧d.size=n)(env:Env)(st:St)
  (hg:gcAV false lo hi2 (canon env [0,1,4,12,13]) st=([(0,.rsl l 0 n n 1 ag),(1,J a),(4,.fn (.func k) [] caps),(12,J i),(13,J j)],⟨put S0 l (Dm gS d) X0,T⟩)):
  ∃x_1 en s,lim (headed pure (run L) false [0,1,4,12,13] lp168_4 lo hi2) env st=some (x_1,en,s)∧(x_1=.exit 4∧en.get 0=.rsl l 0 n n 1 ag∧en.get 1=J a∧en.get 4=.fn (.func k) [] caps∧en.get 13=J (Go.Sort.partLoop lt a i j d).1∧s=⟨put S0 l (Dm gS (Go.Sort.partLoop lt a i j d).2) X0,T⟩):=by
 refine z9 (α:=Nat×Nat×Array (Fin 256)) (fun ⟨i,j,d⟩=>j+1-i) (fun ⟨i,j,d⟩=>a<i∧i≤j+1∧j<n∧d.size=n) (fun ⟨i,j,d⟩=>([(0,.rsl l 0 n n 1 ag),(1,J a),(4,.fn (.func k) [] caps),(12,J i),(13,J j)],⟨put S0 l (Dm gS d) X0,T⟩)) (fun ⟨i,j,d⟩ x_1 en s=>x_1=.exit 4∧en.get 0=.rsl l 0 n n 1 ag∧en.get 1=J a∧en.get 4=.fn (.func k) [] caps∧en.get 13=J (Go.Sort.partLoop lt a i j d).1∧s=⟨put S0 l (Dm gS (Go.Sort.partLoop lt a i j d).2) X0,T⟩) (fun ⟨i,j,d⟩ hok=> ?_) ⟨i,j,d⟩ hok env st hg
 simp only at hok
 obtain ⟨h1,h2,h3,hsz⟩:=hok
 dsimp only at h1 h2 h3 hsz⊢
 have hf:=z6c (fun x=>lt x d[a]!) (fun x=> !lt x d[a]!) (fun _=>rfl) d (i:=i) (j:=j) (by omega) h2
 rw [Go.Sort.partLoop_eq]
 simp only [go_sem,lp168_4]
 generalize hg:lim (headed pure (run L) false _ lp168_2 _ _) _ _=o
 obtain ⟨x,en,s,rfl,h2⟩: ∃x en s,o=some (x,en,s)∧_:=by rw [←hg];exact par2s S0 T l hl n hn ag k hk caps c lt hlt hc X0 a j ha h3 d hsz _ _ i ⟨by omega,h2⟩ _ _ (by simp only [go_sem]<;>rfl)
 clear hg
 obtain ⟨rfl,e0,e1,e4,e12,e13,rfl⟩:=h2
 generalize Go.Sort.scanUp (fun x=>lt x d[a]!) d j i=i2 at*
 simp only [go_sem,lp168_4,e0,e1,e4,e12,e13]
 generalize hg:lim (headed pure (run L) false _ lp168_3 _ _) _ _=o
 obtain ⟨x,en,s,rfl,h2⟩: ∃x en s,o=some (x,en,s)∧_:=by rw [←hg];exact par3s S0 T l hl n hn ag k hk caps c lt hlt hc X0 a i2 ha (by omega) d hsz _ _ j ⟨by omega,h3⟩ _ _ (by simp only [go_sem,e0,e1,e4,e12,e13]<;>rfl)
 clear hg
 clear e0 e1 e4 e12 e13
 obtain ⟨rfl,e0,e1,e4,e12,e13,rfl⟩:=h2
 generalize Go.Sort.scanDown (fun x=> !lt x d[a]!) d i2 j=j2 at*
 by_cases p:i2>j2
 ·have q:((j2:Int)<(i2:Int))=True:=eT (by omega)
  rw [if_pos p]
  simp only [go_sem,lp168_4,e0,e1,e4,e12,e13,q]
 ·have q:((j2:Int)<(i2:Int))=False:=eF (by omega)
  rw [if_neg p]
  have hf5:=hf.2.2.2.2 p
  have hs:=ze i2 (by omega)
  have hw:=z0c j2 (by omega) (by omega)
  have hget:=fun C E=>zk hl C E
  have hpset:=fun C C' E=>zj hl C C' E
  have hlenD:(Dm gS d).length=n:=by rw [zr,hsz]
  have r130:(((i2:Nat):Int)<(n:Int))=True:=eT (by omega)
  have r131:((i2:Nat)<n)=True:=eT (by omega)
  have r132:((i2:Nat)+1≤n)=True:=eT (by omega)
  have r133:((Dm gS d).drop (i2)).take 1=[gS d[i2]!]:=zg gS d (by omega)
  have r140:(((j2:Nat):Int)<(n:Int))=True:=eT (by omega)
  have r141:((j2:Nat)<n)=True:=eT (by omega)
  have r142:((j2:Nat)+1≤n)=True:=eT (by omega)
  have r143:((Dm gS d).drop (j2)).take 1=[gS d[j2]!]:=zg gS d (by omega)
  have hsw:=z0h gS d i2 j2
  have hsz1:=zl (i:=i2) (j:=j2) hsz
  generalize d[i2]! =x at*
  generalize d[j2]! =y at*
  generalize Go.Sort.swp d i2 j2=d1 at*
  simp only [go_sem,lp168_4,e0,e1,e4,e12,e13,q,hs,hw,r130,r131,r132,r133,r140,r141,r142,r143,hsw,hget,hpset,hlenD,nn_,lm_,List.length_set]
  refine ⟨(i2+1,j2-1,d1),by simp only [go_sem,z3,z4,z5,e0,e1,e4]<;>rfl,?_,?_,fun x en s hq=> ?_⟩
  ·dsimp only;exact ⟨by omega,by omega,by omega,hsz1⟩
  ·dsimp only;omega
  ·exact hq
theorem pars (X0:List (List AV))(d:Array (Fin 256))(hsz:d.size=n)(a b v:Nat)(hab:a+1<b)(hb:b≤n)(hv:v<n):
  run L 168 [.rsl l 0 n n 1 ag,J a,J b,J v,.fn (.func k) [] caps] ⟨put S0 l (Dm gS d) X0,T⟩=some (.tup [J (Go.Sort.partition lt d a b v).1,B (Go.Sort.partition lt d a b v).2.1],⟨put S0 l (Dm gS (Go.Sort.partition lt d a b v).2.2) X0,T⟩):=by
 rw [z6 (fn:=ir168) rfl rfl]
 have ha1:=ze a (by omega)
 have hb1:=z0c b (by omega) (by omega)
 have e:Go.Sort.partition lt d a b v=(let d0:=Go.Sort.swp d a v;let i:=Go.Sort.scanUp (fun x=>lt x d0[a]!) d0 (b-1) (a+1);let j:=Go.Sort.scanDown (fun x=> !lt x d0[a]!) d0 i (b-1);if i>j then (j,true,Go.Sort.swp d0 j a) else ((Go.Sort.partLoop lt a (i+1) (j-1) (Go.Sort.swp d0 i j)).1,false,Go.Sort.swp (Go.Sort.partLoop lt a (i+1) (j-1) (Go.Sort.swp d0 i j)).2 (Go.Sort.partLoop lt a (i+1) (j-1) (Go.Sort.swp d0 i j)).1 a)):=rfl
 rw [e]
 have hget:=fun C E=>zk hl C E
 have hpset:=fun C C' E=>zj hl C C' E
 have hlenD:(Dm gS d).length=n:=by rw [zr,hsz]
 have r150:(((a:Nat):Int)<(n:Int))=True:=eT (by omega)
 have r151:((a:Nat)<n)=True:=eT (by omega)
 have r152:((a:Nat)+1≤n)=True:=eT (by omega)
 have r153:((Dm gS d).drop (a)).take 1=[gS d[a]!]:=zg gS d (by omega)
 have r160:(((v:Nat):Int)<(n:Int))=True:=eT (by omega)
 have r161:((v:Nat)<n)=True:=eT (by omega)
 have r162:((v:Nat)+1≤n)=True:=eT (by omega)
 have r163:((Dm gS d).drop (v)).take 1=[gS d[v]!]:=zg gS d (by omega)
 have hsw:=z0h gS d a v
 have hsz0:=zl (i:=a) (j:=v) hsz
 generalize d[a]! =x at*
 generalize d[v]! =y at*
 generalize Go.Sort.swp d a v=d0 at*
 simp only [ir168,go_sem,ha1,hb1,r150,r151,r152,r153,r160,r161,r162,r163,hsw,hget,hpset,hlenD,nn_,lm_,List.length_set]
 have hf:=z6c (fun x=>lt x d0[a]!) (fun x=> !lt x d0[a]!) (fun _=>rfl) d0 (i:=a+1) (j:=b-1) (by omega) (by omega)
 generalize hg:lim (headed pure (run L) false _ lp168_0 _ _) _ _=o
 obtain ⟨x,en,s,rfl,h2⟩: ∃x en s,o=some (x,en,s)∧_:=by rw [←hg];exact par0s S0 T l hl n hn ag k hk caps c lt hlt hc X0 a (b-1) (by omega) (by omega) d0 hsz0 _ _ (a+1) ⟨by omega,by omega⟩ _ _ (by simp only [go_sem]<;>rfl)
 clear hg
 obtain ⟨rfl,e0,e1,e4,e12,e13,rfl⟩:=h2
 generalize Go.Sort.scanUp (fun x=>lt x d0[a]!) d0 (b-1) (a+1)=i2 at*
 simp only [go_sem,e0,e1,e4,e12,e13]
 generalize hg:lim (headed pure (run L) false _ lp168_1 _ _) _ _=o
 obtain ⟨x,en,s,rfl,h2⟩: ∃x en s,o=some (x,en,s)∧_:=by rw [←hg];exact par1s S0 T l hl n hn ag k hk caps c lt hlt hc X0 a i2 (by omega) (by omega) d0 hsz0 _ _ (b-1) ⟨by omega,by omega⟩ _ _ (by simp only [go_sem,e0,e1,e4,e12,e13]<;>rfl)
 clear hg
 clear e0 e1 e4 e12 e13
 obtain ⟨rfl,e0,e1,e4,e12,e13,rfl⟩:=h2
 generalize Go.Sort.scanDown (fun x=> !lt x d0[a]!) d0 i2 (b-1)=j2 at*
 clear hget hpset hlenD
 have hget:=fun C E=>zk hl C E
 have hpset:=fun C C' E=>zj hl C C' E
 have hlenD:(Dm gS d0).length=n:=by rw [zr,hsz0]
 by_cases p:i2>j2
 ·have q:((j2:Int)<(i2:Int))=True:=eT (by omega)
  rw [if_pos p]
  have r170:(((j2:Nat):Int)<(n:Int))=True:=eT (by omega)
  have r171:((j2:Nat)<n)=True:=eT (by omega)
  have r172:((j2:Nat)+1≤n)=True:=eT (by omega)
  have r173:((Dm gS d0).drop (j2)).take 1=[gS d0[j2]!]:=zg gS d0 (by omega)
  have r180:(((a:Nat):Int)<(n:Int))=True:=eT (by omega)
  have r181:((a:Nat)<n)=True:=eT (by omega)
  have r182:((a:Nat)+1≤n)=True:=eT (by omega)
  have r183:((Dm gS d0).drop (a)).take 1=[gS d0[a]!]:=zg gS d0 (by omega)
  have hsw2:=z0h gS d0 j2 a
  generalize d0[a]! =x2 at*
  generalize d0[j2]! =y2 at*
  simp only [go_sem,e0,e1,e4,e12,e13,q,r170,r171,r172,r173,r180,r181,r182,r183,hsw2,hget,hpset,hlenD,nn_,lm_,List.length_set]
 ·have q:((j2:Int)<(i2:Int))=False:=eF (by omega)
  rw [if_neg p]
  have hf5:=hf.2.2.2.2 p
  have hs:=ze i2 (by omega)
  have hw:=z0c j2 (by omega) (by omega)
  have r190:(((i2:Nat):Int)<(n:Int))=True:=eT (by omega)
  have r191:((i2:Nat)<n)=True:=eT (by omega)
  have r192:((i2:Nat)+1≤n)=True:=eT (by omega)
  have r193:((Dm gS d0).drop (i2)).take 1=[gS d0[i2]!]:=zg gS d0 (by omega)
  have r200:(((j2:Nat):Int)<(n:Int))=True:=eT (by omega)
  have r201:((j2:Nat)<n)=True:=eT (by omega)
  have r202:((j2:Nat)+1≤n)=True:=eT (by omega)
  have r203:((Dm gS d0).drop (j2)).take 1=[gS d0[j2]!]:=zg gS d0 (by omega)
  have hsw2:=z0h gS d0 i2 j2
  have hsz1:=zl (i:=i2) (j:=j2) hsz0
  generalize d0[i2]! =x2 at*
  generalize d0[j2]! =y2 at*
  generalize Go.Sort.swp d0 i2 j2=d1 at*
  simp only [go_sem,e0,e1,e4,e12,e13,q,hs,hw,r190,r191,r192,r193,r200,r201,r202,r203,hsw2,hget,hpset,hlenD,nn_,lm_,List.length_set]
  have hpo:=z77 lt a _ (i2+1) (j2-1) d1 (Nat.le_refl _) (by omega) (by omega)
  generalize hg:lim (headed pure (run L) false _ lp168_4 _ _) _ _=o
  obtain ⟨x,en,s,rfl,h2⟩: ∃x en s,o=some (x,en,s)∧_:=by rw [←hg];exact par4s S0 T l hl n hn ag k hk caps c lt hlt hc X0 a (by omega) _ _ (i2+1) (j2-1) d1 ⟨by omega,by omega,by omega,hsz1⟩ _ _ (by simp only [go_sem,e0,e1,e4,e12,e13]<;>rfl)
  clear hg
  clear e0 e1 e4 e12 e13 hget hpset hlenD
  obtain ⟨rfl,e0,e1,e4,e13,rfl⟩:=h2
  generalize Go.Sort.partLoop lt a (i2+1) (j2-1) d1=r at*
  obtain ⟨j3,d2⟩:=r
  dsimp only at*
  have hsz2:d2.size=n:=by rw [hpo.1,hsz1]
  have hget:=fun C E=>zk hl C E
  have hpset:=fun C C' E=>zj hl C C' E
  have hlenD:(Dm gS d2).length=n:=by rw [zr,hsz2]
  have r210:(((j3:Nat):Int)<(n:Int))=True:=eT (by omega)
  have r211:((j3:Nat)<n)=True:=eT (by omega)
  have r212:((j3:Nat)+1≤n)=True:=eT (by omega)
  have r213:((Dm gS d2).drop (j3)).take 1=[gS d2[j3]!]:=zg gS d2 (by omega)
  have r220:(((a:Nat):Int)<(n:Int))=True:=eT (by omega)
  have r221:((a:Nat)<n)=True:=eT (by omega)
  have r222:((a:Nat)+1≤n)=True:=eT (by omega)
  have r223:((Dm gS d2).drop (a)).take 1=[gS d2[a]!]:=zg gS d2 (by omega)
  have hsw3:=z0h gS d2 j3 a
  generalize d2[j3]! =x3 at*
  generalize d2[a]! =y3 at*
  simp only [go_sem,e0,e1,e4,e13,r210,r211,r212,r213,r220,r221,r222,r223,hsw3,hget,hpset,hlenD,nn_,lm_,List.length_set]
theorem peq2s (X0:List (List AV))(a:Nat)(ha:a<n)(lo hi2:Nat)(i:Nat)(j:Nat)(d:Array (Fin 256))(hok:a<i∧i≤j+1∧j<n∧d.size=n)(env:Env)(st:St)
  (hg:gcAV false lo hi2 (canon env [0,1,4,11,12]) st=([(0,.rsl l 0 n n 1 ag),(1,J a),(4,.fn (.func k) [] caps),(11,J i),(12,J j)],⟨put S0 l (Dm gS d) X0,T⟩)):
  ∃x_1 en s,lim (headed pure (run L) false [0,1,4,11,12] lp167_2 lo hi2) env st=some (x_1,en,s)∧(x_1=.exit 0∧en.get 11=J (Go.Sort.partEqLoop lt a i j d).1∧s=⟨put S0 l (Dm gS (Go.Sort.partEqLoop lt a i j d).2) X0,T⟩):=by
 refine z9 (α:=Nat×Nat×Array (Fin 256)) (fun ⟨i,j,d⟩=>j+1-i) (fun ⟨i,j,d⟩=>a<i∧i≤j+1∧j<n∧d.size=n) (fun ⟨i,j,d⟩=>([(0,.rsl l 0 n n 1 ag),(1,J a),(4,.fn (.func k) [] caps),(11,J i),(12,J j)],⟨put S0 l (Dm gS d) X0,T⟩)) (fun ⟨i,j,d⟩ x_1 en s=>x_1=.exit 0∧en.get 11=J (Go.Sort.partEqLoop lt a i j d).1∧s=⟨put S0 l (Dm gS (Go.Sort.partEqLoop lt a i j d).2) X0,T⟩) (fun ⟨i,j,d⟩ hok=> ?_) ⟨i,j,d⟩ hok env st hg
 simp only at hok
 obtain ⟨h1,h2,h3,hsz⟩:=hok
 dsimp only at h1 h2 h3 hsz⊢
 have hf:=z6c (fun x=> !lt d[a]! x) (fun x=>lt d[a]! x) (fun x=>by simp) d (i:=i) (j:=j) (by omega) h2
 rw [Go.Sort.partEqLoop_eq]
 simp only [go_sem,lp167_2]
 generalize hg:lim (headed pure (run L) false _ lp167_0 _ _) _ _=o
 obtain ⟨x,en,s,rfl,h2⟩: ∃x en s,o=some (x,en,s)∧_:=by rw [←hg];exact peq0s S0 T l hl n hn ag k hk caps c lt hlt hc X0 a j ha h3 d hsz _ _ i ⟨by omega,h2⟩ _ _ (by simp only [go_sem]<;>rfl)
 clear hg
 obtain ⟨rfl,e0,e1,e4,e12,e13,rfl⟩:=h2
 generalize Go.Sort.scanUp (fun x=> !lt d[a]! x) d j i=i2 at*
 simp only [go_sem,lp167_2,e0,e1,e4,e12,e13]
 generalize hg:lim (headed pure (run L) false _ lp167_1 _ _) _ _=o
 obtain ⟨x,en,s,rfl,h2⟩: ∃x en s,o=some (x,en,s)∧_:=by rw [←hg];exact peq1s S0 T l hl n hn ag k hk caps c lt hlt hc X0 a i2 ha (by omega) d hsz _ _ j ⟨by omega,h3⟩ _ _ (by simp only [go_sem,e0,e1,e4,e12,e13]<;>rfl)
 clear hg
 clear e0 e1 e4 e12 e13
 obtain ⟨rfl,e0,e1,e4,e12,e13,rfl⟩:=h2
 generalize Go.Sort.scanDown (fun x=>lt d[a]! x) d i2 j=j2 at*
 by_cases p:i2>j2
 ·have q:((j2:Int)<(i2:Int))=True:=eT (by omega)
  rw [if_pos p]
  simp only [go_sem,lp167_2,e0,e1,e4,e12,e13,q]
 ·have q:((j2:Int)<(i2:Int))=False:=eF (by omega)
  rw [if_neg p]
  have hf5:=hf.2.2.2.2 p
  have hs:=ze i2 (by omega)
  have hw:=z0c j2 (by omega) (by omega)
  have hget:=fun C E=>zk hl C E
  have hpset:=fun C C' E=>zj hl C C' E
  have hlenD:(Dm gS d).length=n:=by rw [zr,hsz]
  have r230:(((i2:Nat):Int)<(n:Int))=True:=eT (by omega)
  have r231:((i2:Nat)<n)=True:=eT (by omega)
  have r232:((i2:Nat)+1≤n)=True:=eT (by omega)
  have r233:((Dm gS d).drop (i2)).take 1=[gS d[i2]!]:=zg gS d (by omega)
  have r240:(((j2:Nat):Int)<(n:Int))=True:=eT (by omega)
  have r241:((j2:Nat)<n)=True:=eT (by omega)
  have r242:((j2:Nat)+1≤n)=True:=eT (by omega)
  have r243:((Dm gS d).drop (j2)).take 1=[gS d[j2]!]:=zg gS d (by omega)
  have hsw:=z0h gS d i2 j2
  have hsz1:=zl (i:=i2) (j:=j2) hsz
  generalize d[i2]! =x at*
  generalize d[j2]! =y at*
  generalize Go.Sort.swp d i2 j2=d1 at*
  simp only [go_sem,lp167_2,e0,e1,e4,e12,e13,q,hs,hw,r230,r231,r232,r233,r240,r241,r242,r243,hsw,hget,hpset,hlenD,nn_,lm_,List.length_set]
  refine ⟨(i2+1,j2-1,d1),by simp only [go_sem,z3,z4,z5,e0,e1,e4]<;>rfl,?_,?_,fun x en s hq=> ?_⟩
  ·dsimp only;exact ⟨by omega,by omega,by omega,hsz1⟩
  ·dsimp only;omega
  ·exact hq
theorem peqs (X0:List (List AV))(d:Array (Fin 256))(hsz:d.size=n)(a b v:Nat)(hab:a+1<b)(hb:b≤n)(hv:v<n):
  run L 167 [.rsl l 0 n n 1 ag,J a,J b,J v,.fn (.func k) [] caps] ⟨put S0 l (Dm gS d) X0,T⟩=some (J (Go.Sort.partitionEqual lt d a b v).1,⟨put S0 l (Dm gS (Go.Sort.partitionEqual lt d a b v).2) X0,T⟩):=by
 rw [z6 (fn:=ir167) rfl rfl]
 have ha1:=ze a (by omega)
 have hb1:=z0c b (by omega) (by omega)
 have e:Go.Sort.partitionEqual lt d a b v=Go.Sort.partEqLoop lt a (a+1) (b-1) (Go.Sort.swp d a v):=rfl
 rw [e]
 have hget:=fun C E=>zk hl C E
 have hpset:=fun C C' E=>zj hl C C' E
 have hlenD:(Dm gS d).length=n:=by rw [zr,hsz]
 have r250:(((a:Nat):Int)<(n:Int))=True:=eT (by omega)
 have r251:((a:Nat)<n)=True:=eT (by omega)
 have r252:((a:Nat)+1≤n)=True:=eT (by omega)
 have r253:((Dm gS d).drop (a)).take 1=[gS d[a]!]:=zg gS d (by omega)
 have r260:(((v:Nat):Int)<(n:Int))=True:=eT (by omega)
 have r261:((v:Nat)<n)=True:=eT (by omega)
 have r262:((v:Nat)+1≤n)=True:=eT (by omega)
 have r263:((Dm gS d).drop (v)).take 1=[gS d[v]!]:=zg gS d (by omega)
 have hsw:=z0h gS d a v
 have hsz0:=zl (i:=a) (j:=v) hsz
 generalize d[a]! =x at*
 generalize d[v]! =y at*
 generalize Go.Sort.swp d a v=d0 at*
 simp only [ir167,go_sem,ha1,hb1,r250,r251,r252,r253,r260,r261,r262,r263,hsw,hget,hpset,hlenD,nn_,lm_,List.length_set]
 generalize hg:lim (headed pure (run L) false _ lp167_2 _ _) _ _=o
 obtain ⟨x,en,s,rfl,h2⟩: ∃x en s,o=some (x,en,s)∧_:=by rw [←hg];exact peq2s S0 T l hl n hn ag k hk caps c lt hlt hc X0 a (by omega) _ _ (a+1) (b-1) d0 ⟨by omega,by omega,by omega,hsz0⟩ _ _ (by simp only [go_sem]<;>rfl)
 clear hg
 obtain ⟨rfl,e11,rfl⟩:=h2
 simp only [go_sem,e11]
end
attribute [local go_sem] m_ x_ l_ k_ o_ t_ a_ s_ q_ b_ c_ u_ g_ zd zf zi z8 zh
def tl129:IC:=(.seq (.seq (.ops [⟨(some 81),none,.move (.tmp 1)⟩,⟨(some 82),none,.bin .gtr none (.tmp 81) (.const (.int .i64 0))⟩,⟨(some 83),none,.move (.tmp 82)⟩,⟨(some 84),(some (83,true)),.move (.tmp 4)⟩,⟨(some 85),(some (83,true)),.move (.tmp 0)⟩,⟨(some 86),(some (83,true)),.move (.tmp 1)⟩,⟨(some 87),(some (83,true)),.bin .sub none (.tmp 86) (.const (.int .i64 1))⟩,⟨(some 88),(some (83,true)),.indexS 1 (.tmp 85) (.tmp 87)⟩,⟨(some 89),(some (83,true)),.load 1 true (.tmp 88)⟩,⟨(some 90),(some (83,true)),.move (.tmp 0)⟩,⟨(some 91),(some (83,true)),.move (.tmp 13)⟩,⟨(some 92),(some (83,true)),.indexS 1 (.tmp 90) (.tmp 91)⟩,⟨(some 93),(some (83,true)),.load 1 true (.tmp 92)⟩,⟨(some 94),(some (83,true)),.callv true (.tmp 84) [(.tmp 89),(.tmp 93)]⟩,⟨(some 95),(some (83,true)),.bin .lss none (.tmp 94) (.const (.int .i64 0))⟩,⟨(some 96),(some (83,true)),.not (.tmp 95)⟩,⟨(some 97),none,.pick (.tmp 83) (.tmp 96) (.const (.bool false))⟩])
 (.cond (.tmp 97) (.seq (.ops [⟨(some 98),none,.move (.tmp 0)⟩,⟨(some 99),none,.move (.tmp 1)⟩,⟨(some 100),none,.move (.tmp 2)⟩,⟨(some 101),none,.move (.tmp 13)⟩,⟨(some 102),none,.move (.tmp 4)⟩,⟨(some 103),none,.call false 167 [(.tmp 98),(.tmp 99),(.tmp 100),(.tmp 101),(.tmp 102)]⟩,⟨(some 15),none,.move (.tmp 103)⟩])
  (.seq (.ops [⟨(some 104),none,.move (.tmp 15)⟩,⟨(some 1),none,.move (.tmp 104)⟩])
  (.exit 1)))
 .skip))
 (.seq (.ops [⟨(some 106),none,.move (.tmp 0)⟩,⟨(some 107),none,.move (.tmp 1)⟩,⟨(some 108),none,.move (.tmp 2)⟩,⟨(some 109),none,.move (.tmp 13)⟩,⟨(some 110),none,.move (.tmp 4)⟩,⟨(some 111),none,.call false 168 [(.tmp 106),(.tmp 107),(.tmp 108),(.tmp 109),(.tmp 110)]⟩,⟨(some 105),none,.move (.tmp 111)⟩,⟨(some 112),none,.extract 0 (.tmp 105)⟩,⟨(some 113),none,.extract 1 (.tmp 105)⟩,⟨(some 16),none,.move (.tmp 112)⟩,⟨(some 17),none,.move (.tmp 113)⟩])
 (.seq (.ops [⟨(some 114),none,.move (.tmp 17)⟩,⟨(some 11),none,.move (.tmp 114)⟩])
 (.seq (.ops [⟨(some 115),none,.move (.tmp 16)⟩,⟨(some 116),none,.move (.tmp 1)⟩,⟨(some 117),none,.bin .sub none (.tmp 115) (.tmp 116)⟩,⟨(some 118),none,.move (.tmp 2)⟩,⟨(some 119),none,.move (.tmp 16)⟩,⟨(some 120),none,.bin .sub none (.tmp 118) (.tmp 119)⟩,⟨(some 18),none,.move (.tmp 117)⟩,⟨(some 19),none,.move (.tmp 120)⟩])
 (.seq (.ops [⟨(some 121),none,.move (.tmp 12)⟩,⟨(some 122),none,.bin .quo none (.tmp 121) (.const (.int .i64 8))⟩,⟨(some 20),none,.move (.tmp 122)⟩])
 (.seq (.ops [⟨(some 123),none,.move (.tmp 18)⟩,⟨(some 124),none,.move (.tmp 19)⟩,⟨(some 125),none,.bin .lss none (.tmp 123) (.tmp 124)⟩])
 (.cond (.tmp 125) (.seq (.ops [⟨(some 126),none,.move (.tmp 18)⟩,⟨(some 127),none,.move (.tmp 20)⟩,⟨(some 128),none,.bin .geq none (.tmp 126) (.tmp 127)⟩,⟨(some 10),none,.move (.tmp 128)⟩])
  (.seq (.ops [⟨(some 129),none,.move (.tmp 0)⟩,⟨(some 130),none,.move (.tmp 1)⟩,⟨(some 131),none,.move (.tmp 16)⟩,⟨(some 132),none,.move (.tmp 3)⟩,⟨(some 133),none,.move (.tmp 4)⟩,⟨(some 134),none,.call false 129 [(.tmp 129),(.tmp 130),(.tmp 131),(.tmp 132),(.tmp 133)]⟩])
  (.ops [⟨(some 135),none,.move (.tmp 16)⟩,⟨(some 136),none,.bin .add none (.tmp 135) (.const (.int .i64 1))⟩,⟨(some 1),none,.move (.tmp 136)⟩])))
 (.seq (.ops [⟨(some 137),none,.move (.tmp 19)⟩,⟨(some 138),none,.move (.tmp 20)⟩,⟨(some 139),none,.bin .geq none (.tmp 137) (.tmp 138)⟩,⟨(some 10),none,.move (.tmp 139)⟩])
  (.seq (.ops [⟨(some 140),none,.move (.tmp 0)⟩,⟨(some 141),none,.move (.tmp 16)⟩,⟨(some 142),none,.bin .add none (.tmp 141) (.const (.int .i64 1))⟩,⟨(some 143),none,.move (.tmp 2)⟩,⟨(some 144),none,.move (.tmp 3)⟩,⟨(some 145),none,.move (.tmp 4)⟩,⟨(some 146),none,.call false 129 [(.tmp 140),(.tmp 142),(.tmp 143),(.tmp 144),(.tmp 145)]⟩])
  (.ops [⟨(some 147),none,.move (.tmp 16)⟩,⟨(some 2),none,.move (.tmp 147)⟩]))))))))))
theorem zlw:lp129_0=(.block 1 (.seq (.ops [⟨(some 21),none,.move (.tmp 2)⟩,⟨(some 22),none,.move (.tmp 1)⟩,⟨(some 23),none,.bin .sub none (.tmp 21) (.tmp 22)⟩,⟨(some 12),none,.move (.tmp 23)⟩])
 (.seq (.seq (.ops [⟨(some 24),none,.move (.tmp 12)⟩,⟨(some 25),none,.bin .leq none (.tmp 24) (.const (.int .i64 12))⟩])
 (.cond (.tmp 25) (.seq (.ops [⟨(some 26),none,.move (.tmp 0)⟩,⟨(some 27),none,.move (.tmp 1)⟩,⟨(some 28),none,.move (.tmp 2)⟩,⟨(some 29),none,.move (.tmp 4)⟩,⟨(some 30),none,.call false 161 [(.tmp 26),(.tmp 27),(.tmp 28),(.tmp 29)]⟩])
  .ret)
 .skip))
 (.seq (.seq (.ops [⟨(some 31),none,.move (.tmp 3)⟩,⟨(some 32),none,.bin .eql none (.tmp 31) (.const (.int .i64 0))⟩])
 (.cond (.tmp 32) (.seq (.ops [⟨(some 33),none,.move (.tmp 0)⟩,⟨(some 34),none,.move (.tmp 1)⟩,⟨(some 35),none,.move (.tmp 2)⟩,⟨(some 36),none,.move (.tmp 4)⟩,⟨(some 37),none,.call false 162 [(.tmp 33),(.tmp 34),(.tmp 35),(.tmp 36)]⟩])
  .ret)
 .skip))
 (.seq (.seq (.ops [⟨(some 38),none,.move (.tmp 10)⟩,⟨(some 39),none,.not (.tmp 38)⟩])
 (.cond (.tmp 39) (.seq (.ops [⟨(some 40),none,.move (.tmp 0)⟩,⟨(some 41),none,.move (.tmp 1)⟩,⟨(some 42),none,.move (.tmp 2)⟩,⟨(some 43),none,.move (.tmp 4)⟩,⟨(some 44),none,.call false 163 [(.tmp 40),(.tmp 41),(.tmp 42),(.tmp 43)]⟩])
  (.ops [⟨(some 45),none,.move (.tmp 3)⟩,⟨(some 46),none,.bin .sub none (.tmp 45) (.const (.int .i64 1))⟩,⟨(some 3),none,.move (.tmp 46)⟩]))
 .skip))
 (.seq (.ops [⟨(some 48),none,.move (.tmp 0)⟩,⟨(some 49),none,.move (.tmp 1)⟩,⟨(some 50),none,.move (.tmp 2)⟩,⟨(some 51),none,.move (.tmp 4)⟩,⟨(some 52),none,.call false 164 [(.tmp 48),(.tmp 49),(.tmp 50),(.tmp 51)]⟩,⟨(some 47),none,.move (.tmp 52)⟩,⟨(some 53),none,.extract 0 (.tmp 47)⟩,⟨(some 54),none,.extract 1 (.tmp 47)⟩,⟨(some 13),none,.move (.tmp 53)⟩,⟨(some 14),none,.move (.tmp 54)⟩])
 (.seq (.seq (.ops [⟨(some 55),none,.move (.tmp 14)⟩,⟨(some 56),none,.bin .eql none (.tmp 55) (.const (.int .i64 2))⟩])
 (.cond (.tmp 56) (.seq (.ops [⟨(some 57),none,.move (.tmp 0)⟩,⟨(some 58),none,.move (.tmp 1)⟩,⟨(some 59),none,.move (.tmp 2)⟩,⟨(some 60),none,.move (.tmp 4)⟩,⟨(some 61),none,.call false 165 [(.tmp 57),(.tmp 58),(.tmp 59),(.tmp 60)]⟩])
  (.seq (.ops [⟨(some 62),none,.move (.tmp 2)⟩,⟨(some 63),none,.bin .sub none (.tmp 62) (.const (.int .i64 1))⟩,⟨(some 64),none,.move (.tmp 13)⟩,⟨(some 65),none,.move (.tmp 1)⟩,⟨(some 66),none,.bin .sub none (.tmp 64) (.tmp 65)⟩,⟨(some 67),none,.bin .sub none (.tmp 63) (.tmp 66)⟩,⟨(some 13),none,.move (.tmp 67)⟩])
  (.ops [⟨(some 14),none,.move (.const (.int .i64 1))⟩])))
 .skip))
 (.seq (.seq (.ops [⟨(some 68),none,.move (.tmp 10)⟩,⟨(some 69),none,.move (.tmp 68)⟩,⟨(some 70),(some (69,true)),.move (.tmp 11)⟩,⟨(some 71),none,.pick (.tmp 69) (.tmp 70) (.const (.bool false))⟩,⟨(some 72),none,.move (.tmp 71)⟩,⟨(some 73),(some (72,true)),.move (.tmp 14)⟩,⟨(some 74),(some (72,true)),.bin .eql none (.tmp 73) (.const (.int .i64 1))⟩,⟨(some 75),none,.pick (.tmp 72) (.tmp 74) (.const (.bool false))⟩])
 (.cond (.tmp 75) (.seq (.ops [⟨(some 76),none,.move (.tmp 0)⟩,⟨(some 77),none,.move (.tmp 1)⟩,⟨(some 78),none,.move (.tmp 2)⟩,⟨(some 79),none,.move (.tmp 4)⟩,⟨(some 80),none,.call false 166 [(.tmp 76),(.tmp 77),(.tmp 78),(.tmp 79)]⟩])
  (.cond (.tmp 80) .ret
  .skip))
 .skip))
 tl129)))))))):=rfl
def endss (k:Nat) (caps:List AV) (l n:Nat) (ag:Bool) (en:Env) (a b li:Nat) (wb wp:Bool):Prop:=
 en.get 0=.rsl l 0 n n 1 ag∧en.get 1=J a∧en.get 2=J b∧en.get 3=J li∧en.get 4=.fn (.func k) [] caps∧en.get 10=B wb∧en.get 11=B wp
section
variable (S0:List (List AV)) (T:List Nat) (l:Nat) (hl:l<S0.length) (n:Nat) (hn:n≤1000) (ag:Bool) (k:Nat) (hk:pure k=true) (caps:List AV) (c:Fin 256→Fin 256→Int) (lt:Fin 256→Fin 256→Bool) (hlt: ∀x y,lt x y=decide (c x y<0)) (hc: ∀x y X E,run L k (fS x::fS y::caps) ⟨put S0 l X E,T⟩=some (I (c x y),⟨put S0 l X E,T⟩))
include S0 T l hl n hn ag k hk caps c lt hlt hc
theorem zdd (N:Nat)(ih:(∀(a b li:Nat) (d:Array (Fin 256)) (X0:List (List AV)),a≤b→b≤n→d.size=n→li<1000→b-a<N→(Go.Sort.pdq lt d a b li true true).size=n∧∃X1,(PL X0→PL X1)∧run L 129 [.rsl l 0 n n 1 ag,J a,J b,J li,.fn (.func k) [] caps] ⟨put S0 l (Dm gS d) X0,T⟩=some (.tup [],⟨put S0 l (Dm gS (Go.Sort.pdq lt d a b li true true)) X1,T⟩)))
  (X0:List (List AV)) (en:Env) (a b li p:Nat) (wb wp:Bool) (d:Array (Fin 256)) (hsz:d.size=n) (hab:a+13≤b) (hb:b≤n) (hN:b-a≤N) (hp1:a≤p) (hp2:p<b) (hli:li<1000)
  (e0:en.get 0=.rsl l 0 n n 1 ag) (e1:en.get 1=J a) (e2:en.get 2=J b) (e3:en.get 3=J li) (e4:en.get 4=.fn (.func k) [] caps) (e10:en.get 10=B wb) (e11:en.get 11=B wp) (e12:en.get 12=J (b-a)) (e13:en.get 13=J p)
  (NN:Env→St→Prop) (QQ:X→Env→St→Prop)
  (hnext: ∀en' a' b' wb' wp' (d':Array (Fin 256)) X1,endss k caps l n ag en' a' b' li wb' wp'→(PL X0→PL X1)→a'≤b'→b'≤n→b'-a'<b-a→d'.size=n→pdqT lt d a b p li wb wp=Go.Sort.pdq lt d' a' b' li wb' wp'→NN en' ⟨put S0 l (Dm gS d') X1,T⟩):
  Then (blockK 1 (codeAV pure (run L) lim tl129 en ⟨put S0 l (Dm gS d) X0,T⟩)) NN QQ:=by
 have hpo:=z7t lt d (a:=a) (b:=b) (p:=p) (by omega)
 have hpe:=z53 lt d (a:=a) (b:=b) (p:=p) (by omega)
 have hrp:=pars S0 T l hl n hn ag k hk caps c lt hlt hc X0 d hsz a b p (by omega) hb (by omega)
 have hre:=peqs S0 T l hl n hn ag k hk caps c lt hlt hc X0 d hsz a b p (by omega) hb (by omega)
 have hT:pdqT lt d a b p li wb wp=if (decide (a>0)&& !lt d[a-1]! d[p]!)=true then Go.Sort.pdq lt (Go.Sort.partitionEqual lt d a b p).2 (Go.Sort.partitionEqual lt d a b p).1 b li wb wp
  else if (Go.Sort.partition lt d a b p).1-a<b-(Go.Sort.partition lt d a b p).1 then
   Go.Sort.pdq lt (Go.Sort.pdq lt (Go.Sort.partition lt d a b p).2.2 a (Go.Sort.partition lt d a b p).1 li true true) ((Go.Sort.partition lt d a b p).1+1) b li (decide ((b-a) / 8≤(Go.Sort.partition lt d a b p).1-a)) (Go.Sort.partition lt d a b p).2.1
  else
   Go.Sort.pdq lt (Go.Sort.pdq lt (Go.Sort.partition lt d a b p).2.2 ((Go.Sort.partition lt d a b p).1+1) b li true true) a (Go.Sort.partition lt d a b p).1 li (decide ((b-a) / 8≤b-(Go.Sort.partition lt d a b p).1)) (Go.Sort.partition lt d a b p).2.1:=rfl
 rw [hT] at hnext
 generalize Go.Sort.partition lt d a b p=q at*
 generalize Go.Sort.partitionEqual lt d a b p=qe at*
 obtain ⟨mid,ap,d4⟩:=q
 obtain ⟨mid2,d5⟩:=qe
 dsimp only at*
 have hget:=fun C E=>zk hl C E
 have hpset:=fun C C' E=>zj hl C C' E
 have hlenD:(Dm gS d).length=n:=by rw [zr,hsz]
 have r10:(((p:Nat):Int)<(n:Int))=True:=eT (by omega)
 have r11:((p:Nat)<n)=True:=eT (by omega)
 have r12:((p:Nat)+1≤n)=True:=eT (by omega)
 have r13:((Dm gS d).drop (p)).take 1=[gS d[p]!]:=zg gS d (by omega)
 have hq8:IntKind.i64.wrap (Int.tdiv ((b-a:Nat):Int) 8)=(((b-a) / 8:Nat):Int):=zl2 (b-a) 8 (by omega) (by omega)
 have hml:=z9p mid a (by omega) (by omega)
 have hmr:=z9p b mid (by omega) (by omega)
 have hm1:=ze mid (by omega)
 have b1:((((b-a) / 8:Nat):Int)≤((mid-a:Nat):Int))=((b-a) / 8≤mid-a):=propext (by omega)
 have b2:((((b-a) / 8:Nat):Int)≤((b-mid:Nat):Int))=((b-a) / 8≤b-mid):=propext (by omega)
 have dd: ∀(P:Prop) [Decidable P] (v:Bool),v=decide P→decide P=v:=fun _ _ _ h=>h.symm
 have i1:=ih a mid li d4 X0 (by omega) (by omega) (by omega) hli (by omega)
 have i2:=ih (mid+1) b li d4 X0 (by omega) (by omega) (by omega) hli (by omega)
 obtain ⟨z1,Y1,y1,i1⟩:=i1
 obtain ⟨z2,Y2,y2,i2⟩:=i2
 generalize Go.Sort.pdq lt d4 a mid li true true=d6 at*
 generalize Go.Sort.pdq lt d4 (mid+1) b li true true=d7 at*
 generalize (b-a) / 8=bal at*
 by_cases h0:a=0
 ·have q0:((0:Int)<(a:Int))=False:=eF (by omega)
  rw [show decide (a>0)=false from decide_eq_false (by omega),Bool.false_and,if_neg (by simp)] at hnext
  by_cases hc2:mid-a<b-mid
  ·have q1:(((mid-a:Nat):Int)<((b-mid:Nat):Int))=True:=eT (by omega)
   rw [if_pos hc2] at hnext
   simp only [go_sem,tl129,e0,e1,e2,e3,e4,e10,e11,e12,e13,q0,hrp,hml,hmr,hq8,q1,b1,i1,hm1]
   exact hnext _ _ _ _ _ _ _ ⟨by simp only [go_sem,e0],by simp only [go_sem],by simp only [go_sem,e2],by simp only [go_sem,e3],by simp only [go_sem,e4],by simp only [go_sem],by simp only [go_sem]⟩ y1 (by omega) hb (by omega) z1 rfl
  ·have q1:(((mid-a:Nat):Int)<((b-mid:Nat):Int))=False:=eF (by omega)
   rw [if_neg hc2] at hnext
   simp only [go_sem,tl129,e0,e1,e2,e3,e4,e10,e11,e12,e13,q0,hrp,hml,hmr,hq8,q1,b2,i2,hm1]
   exact hnext _ _ _ _ _ _ _ ⟨by simp only [go_sem,e0],by simp only [go_sem,e1],by simp only [go_sem],by simp only [go_sem,e3],by simp only [go_sem,e4],by simp only [go_sem],by simp only [go_sem]⟩ y2 (by omega) (by omega) (by omega) z2 rfl
 ·have q0:((0:Int)<(a:Int))=True:=eT (by omega)
  have hw:=z0c a (by omega) (by omega)
  have r20:(((a-1:Nat):Int)<(n:Int))=True:=eT (by omega)
  have r21:((a-1:Nat)<n)=True:=eT (by omega)
  have r22:((a-1:Nat)+1≤n)=True:=eT (by omega)
  have r23:((Dm gS d).drop (a-1)).take 1=[gS d[a-1]!]:=zg gS d (by omega)
  rw [show decide (a>0)=true from decide_eq_true (by omega),Bool.true_and] at hnext
  cases hcc:lt d[a-1]! d[p]! with
  |true=>
   have hk0:(c d[a-1]! d[p]! <0)=True:=by rw [hlt] at hcc;simpa using hcc
   rw [hcc,if_neg (by simp)] at hnext
   generalize d[a-1]! =x at*
   generalize d[p]! =y at*
   by_cases hc2:mid-a<b-mid
   ·have q1:(((mid-a:Nat):Int)<((b-mid:Nat):Int))=True:=eT (by omega)
    rw [if_pos hc2] at hnext
    simp only [go_sem,tl129,e0,e1,e2,e3,e4,e10,e11,e12,e13,q0,hw,r10,r11,r12,r13,r20,r21,r22,r23,hc,hk,hk0,hrp,hml,hmr,hq8,q1,b1,i1,hm1,hget,hpset,hlenD,nn_,lm_,List.length_set]
    exact hnext _ _ _ _ _ _ _ ⟨by simp only [go_sem,e0],by simp only [go_sem],by simp only [go_sem,e2],by simp only [go_sem,e3],by simp only [go_sem,e4],by simp only [go_sem],by simp only [go_sem]⟩ y1 (by omega) hb (by omega) z1 rfl
   ·have q1:(((mid-a:Nat):Int)<((b-mid:Nat):Int))=False:=eF (by omega)
    rw [if_neg hc2] at hnext
    simp only [go_sem,tl129,e0,e1,e2,e3,e4,e10,e11,e12,e13,q0,hw,r10,r11,r12,r13,r20,r21,r22,r23,hc,hk,hk0,hrp,hml,hmr,hq8,q1,b2,i2,hm1,hget,hpset,hlenD,nn_,lm_,List.length_set]
    exact hnext _ _ _ _ _ _ _ ⟨by simp only [go_sem,e0],by simp only [go_sem,e1],by simp only [go_sem],by simp only [go_sem,e3],by simp only [go_sem,e4],by simp only [go_sem],by simp only [go_sem]⟩ y2 (by omega) (by omega) (by omega) z2 rfl
  |false=>
   have hk0:(c d[a-1]! d[p]! <0)=False:=by rw [hlt] at hcc;simpa using hcc
   rw [hcc,if_pos (show (!false)=true from rfl)] at hnext
   generalize d[a-1]! =x at*
   generalize d[p]! =y at*
   simp only [go_sem,tl129,e0,e1,e2,e3,e4,e10,e11,e12,e13,q0,hw,r10,r11,r12,r13,r20,r21,r22,r23,hc,hk,hk0,hre,hget,hpset,hlenD,nn_,lm_,List.length_set]
   exact hnext _ _ _ _ _ _ _ ⟨by simp only [go_sem,e0],by simp only [go_sem],by simp only [go_sem,e2],by simp only [go_sem,e3],by simp only [go_sem,e4],by simp only [go_sem,e10],by simp only [go_sem,e11]⟩ id (by omega) hb (by omega) (by rw [hpe.1,hsz]) rfl
theorem pdq0s (hn2:n<256)(N:Nat)(ih:(∀(a b li:Nat) (d:Array (Fin 256)) (X0:List (List AV)),a≤b→b≤n→d.size=n→li<1000→b-a<N→(Go.Sort.pdq lt d a b li true true).size=n∧∃X1,(PL X0→PL X1)∧run L 129 [.rsl l 0 n n 1 ag,J a,J b,J li,.fn (.func k) [] caps] ⟨put S0 l (Dm gS d) X0,T⟩=some (.tup [],⟨put S0 l (Dm gS (Go.Sort.pdq lt d a b li true true)) X1,T⟩)))(lo hi2:Nat)(a:Nat)(b:Nat)(li:Nat)(wb:Bool)(wp:Bool)(d:Array (Fin 256))(X0:List (List AV))(hok:a≤b∧b≤n∧d.size=n∧li<1000∧b-a≤N)(env:Env)(st:St)
  (hg:gcAV false lo hi2 (canon env [0,1,2,3,4,10,11]) st=([(0,.rsl l 0 n n 1 ag),(1,J a),(2,J b),(3,J li),(4,.fn (.func k) [] caps),(10,B wb),(11,B wp)],⟨put S0 l (Dm gS d) X0,T⟩)):
  ∃x_1 en s,lim (headed pure (run L) false [0,1,2,3,4,10,11] lp129_0 lo hi2) env st=some (x_1,en,s)∧(x_1=.ret∧(Go.Sort.pdq lt d a b li wb wp).size=n∧∃X1,(PL X0→PL X1)∧s=⟨put S0 l (Dm gS (Go.Sort.pdq lt d a b li wb wp)) X1,T⟩):=by
 refine z9 (α:=Nat×Nat×Nat×Bool×Bool×Array (Fin 256)×List (List AV)) (fun ⟨a,b,li,wb,wp,d,X0⟩=>b-a) (fun ⟨a,b,li,wb,wp,d,X0⟩=>a≤b∧b≤n∧d.size=n∧li<1000∧b-a≤N) (fun ⟨a,b,li,wb,wp,d,X0⟩=>([(0,.rsl l 0 n n 1 ag),(1,J a),(2,J b),(3,J li),(4,.fn (.func k) [] caps),(10,B wb),(11,B wp)],⟨put S0 l (Dm gS d) X0,T⟩)) (fun ⟨a,b,li,wb,wp,d,X0⟩ x_1 en s=>x_1=.ret∧(Go.Sort.pdq lt d a b li wb wp).size=n∧∃X1,(PL X0→PL X1)∧s=⟨put S0 l (Dm gS (Go.Sort.pdq lt d a b li wb wp)) X1,T⟩) (fun ⟨a,b,li,wb,wp,d,X0⟩ hok=> ?_) ⟨a,b,li,wb,wp,d,X0⟩ hok env st hg
 simp only at hok
 obtain ⟨h1,h2,hsz,hli,hN⟩:=hok
 dsimp only at h1 h2 hsz hli hN⊢
 have hw:=z9p b a h1 (by omega)
 rw [zlw]
 by_cases h12:b-a≤12
 ·have q12:(((b-a:Nat):Int)≤12)=True:=eT (by omega)
  have e:Go.Sort.pdq lt d a b li wb wp=Go.Sort.insertionSort lt d a b:=by rw [Go.Sort.pdq,if_pos h12]
  rw [e]
  have hi:=inss S0 T l hl n hn ag k hk caps c lt hlt hc X0 a b (by omega) h2 d hsz
  simp only [go_sem,lp129_0,hw,q12,hi]
  exact ⟨by rw [z6m,hsz],_,id,rfl⟩
 ·have q12:(((b-a:Nat):Int)≤12)=False:=eF (by omega)
  by_cases hl0:li=0
  ·have ql:((li:Int)=0)=True:=eT (by omega)
   have e:Go.Sort.pdq lt d a b li wb wp=Go.Sort.heapSort lt d a b:=by rw [Go.Sort.pdq,if_neg h12,if_pos hl0]
   rw [e]
   have hh:=heaps S0 T l hl n hn ag k hk caps c lt hlt hc X0 d hsz a b (by omega) h2
   simp only [go_sem,lp129_0,hw,q12,ql,hh]
   exact ⟨by rw [z9h,hsz],_,id,rfl⟩
  ·have ql:((li:Int)=0)=False:=eF (by omega)
   have hb1:=z0c b (by omega) (by omega)
   cases wb with
   |false=>
    obtain ⟨BB,hbr⟩:=brks S0 T l hl n hn ag k caps X0 d hsz a b (by omega) h2 (by omega)
    have hz1:(Go.Sort.breakPatterns d a b).size=n:=by rw [z6n,hsz]
    have hpl:=z0c li (by omega) (by omega)
    generalize hd1:Go.Sort.breakPatterns d a b=d1 at*
    obtain ⟨B2,hpv⟩:=pivs S0 T l hl n hn ag k hk caps c lt hlt hc (X0++ [[U BB]]) d1 hz1 a b (by omega) h2
    have hpr:=Go.Sort.choosePivot_holds lt d1 a b (by omega)
    generalize hcc:Go.Sort.choosePivot lt d1 a b=cc at*
    obtain ⟨pv,hint⟩:=cc
    dsimp only at hpr hpv
    cases hint with
    |unknown=>
     have hpv:run L 164 [.rsl l 0 n n 1 ag,J a,J b,.fn (.func k) [] caps] ⟨put S0 l (Dm gS d1) (X0++ [[U BB]]),T⟩=some (.tup [J pv,I 0],⟨put S0 l (Dm gS d1) ((X0++ [[U BB]])++ [[J B2]]),T⟩):=hpv
     have e:Go.Sort.pdq lt d a b li false wp=pdqT lt d1 a b pv (li-1) false wp:=by rw [z01 lt d false wp (by omega) hl0];simp [hd1,hcc]
     rw [e]
     simp only [go_sem,lp129_0,hw,q12,ql,hbr,hpl,hpv]
     refine zdd S0 T l hl n hn ag k hk caps c lt hlt hc N ih _ _ a b (li-1) pv false wp d1 hz1 (by omega) h2 hN (by omega) (by omega) (by omega) (by simp only [go_sem]) (by simp only [go_sem]) (by simp only [go_sem]) (by simp only [go_sem]) (by simp only [go_sem]) (by simp only [go_sem]) (by simp only [go_sem]) (by simp only [go_sem]) (by simp only [go_sem]) _ _ (fun en2 a2 b2 wb2 wp2 d9 X9 he gx g1 g2 g3 g4 g5=> ?_)
     obtain ⟨f0,f1,f2,f3,f4,f10,f11⟩:=he
     refine ⟨(a2,b2,(li-1),wb2,wp2,d9,X9),by simp only [go_sem,f0,f1,f2,f3,f4,f10,f11],?_,?_,fun x en s hq=> ?_⟩
     ·dsimp only;exact ⟨g1,g2,g4,by omega,by omega⟩
     ·dsimp only;exact g3
     ·dsimp only at hq
      rw [g5]
      obtain ⟨hq1,hq2,X8,hx8,hq3⟩:=hq
      exact ⟨hq1,hq2,X8,fun h0=>hx8 (gx ((h0.snoc _ _).snoc _ _)),hq3⟩
    |increasing=>
     have hpv:run L 164 [.rsl l 0 n n 1 ag,J a,J b,.fn (.func k) [] caps] ⟨put S0 l (Dm gS d1) (X0++ [[U BB]]),T⟩=some (.tup [J pv,I 1],⟨put S0 l (Dm gS d1) ((X0++ [[U BB]])++ [[J B2]]),T⟩):=hpv
     have e:Go.Sort.pdq lt d a b li false wp=pdqT lt d1 a b pv (li-1) false wp:=by rw [z01 lt d false wp (by omega) hl0];simp [hd1,hcc]
     rw [e]
     simp only [go_sem,lp129_0,hw,q12,ql,hbr,hpl,hpv]
     refine zdd S0 T l hl n hn ag k hk caps c lt hlt hc N ih _ _ a b (li-1) pv false wp d1 hz1 (by omega) h2 hN (by omega) (by omega) (by omega) (by simp only [go_sem]) (by simp only [go_sem]) (by simp only [go_sem]) (by simp only [go_sem]) (by simp only [go_sem]) (by simp only [go_sem]) (by simp only [go_sem]) (by simp only [go_sem]) (by simp only [go_sem]) _ _ (fun en2 a2 b2 wb2 wp2 d9 X9 he gx g1 g2 g3 g4 g5=> ?_)
     obtain ⟨f0,f1,f2,f3,f4,f10,f11⟩:=he
     refine ⟨(a2,b2,(li-1),wb2,wp2,d9,X9),by simp only [go_sem,f0,f1,f2,f3,f4,f10,f11],?_,?_,fun x en s hq=> ?_⟩
     ·dsimp only;exact ⟨g1,g2,g4,by omega,by omega⟩
     ·dsimp only;exact g3
     ·dsimp only at hq
      rw [g5]
      obtain ⟨hq1,hq2,X8,hx8,hq3⟩:=hq
      exact ⟨hq1,hq2,X8,fun h0=>hx8 (gx ((h0.snoc _ _).snoc _ _)),hq3⟩
    |decreasing=>
     have hpv:run L 164 [.rsl l 0 n n 1 ag,J a,J b,.fn (.func k) [] caps] ⟨put S0 l (Dm gS d1) (X0++ [[U BB]]),T⟩=some (.tup [J pv,I 2],⟨put S0 l (Dm gS d1) ((X0++ [[U BB]])++ [[J B2]]),T⟩):=hpv
     have hrv:=revs S0 T l hl n hn ag k caps ((X0++ [[U BB]])++ [[J B2]]) d1 hz1 a b (by omega) h2
     have hz2:(Go.Sort.reverseRange d1 a b).size=n:=by rw [z3l,hz1]
     have hpa:=z9p pv a (by omega) (by omega)
     have hpb:=z9p (b-1) (pv-a) (by omega) (by omega)
     generalize hd2:Go.Sort.reverseRange d1 a b=d2 at*
     have e:Go.Sort.pdq lt d a b li false wp=pdqT lt d2 a b (b-1-(pv-a)) (li-1) false wp:=by rw [z01 lt d false wp (by omega) hl0];simp [hd1,hcc,hd2]
     rw [e]
     simp only [go_sem,lp129_0,hw,q12,ql,hbr,hpl,hpv,hrv,hb1,hpa,hpb]
     refine zdd S0 T l hl n hn ag k hk caps c lt hlt hc N ih _ _ a b (li-1) (b-1-(pv-a)) false wp d2 hz2 (by omega) h2 hN (by omega) (by omega) (by omega) (by simp only [go_sem]) (by simp only [go_sem]) (by simp only [go_sem]) (by simp only [go_sem]) (by simp only [go_sem]) (by simp only [go_sem]) (by simp only [go_sem]) (by simp only [go_sem]) (by simp only [go_sem]) _ _ (fun en2 a2 b2 wb2 wp2 d9 X9 he gx g1 g2 g3 g4 g5=> ?_)
     obtain ⟨f0,f1,f2,f3,f4,f10,f11⟩:=he
     refine ⟨(a2,b2,(li-1),wb2,wp2,d9,X9),by simp only [go_sem,f0,f1,f2,f3,f4,f10,f11],?_,?_,fun x en s hq=> ?_⟩
     ·dsimp only;exact ⟨g1,g2,g4,by omega,by omega⟩
     ·dsimp only;exact g3
     ·dsimp only at hq
      rw [g5]
      obtain ⟨hq1,hq2,X8,hx8,hq3⟩:=hq
      exact ⟨hq1,hq2,X8,fun h0=>hx8 (gx ((h0.snoc _ _).snoc _ _)),hq3⟩
   |true=>
    obtain ⟨B2,hpv⟩:=pivs S0 T l hl n hn ag k hk caps c lt hlt hc X0 d hsz a b (by omega) h2
    have hpr:=Go.Sort.choosePivot_holds lt d a b (by omega)
    generalize hcc:Go.Sort.choosePivot lt d a b=cc at*
    obtain ⟨pv,hint⟩:=cc
    dsimp only at hpr hpv
    cases hint with
    |unknown=>
     have hpv:run L 164 [.rsl l 0 n n 1 ag,J a,J b,.fn (.func k) [] caps] ⟨put S0 l (Dm gS d) X0,T⟩=some (.tup [J pv,I 0],⟨put S0 l (Dm gS d) (X0++ [[J B2]]),T⟩):=hpv
     have e:Go.Sort.pdq lt d a b li true wp=pdqT lt d a b pv li true wp:=by rw [z01 lt d true wp (by omega) hl0];simp [hcc]
     rw [e]
     cases wp with
     |false=>
      simp only [go_sem,lp129_0,hw,q12,ql,hpv]
      refine zdd S0 T l hl n hn ag k hk caps c lt hlt hc N ih _ _ a b li pv true false d hsz (by omega) h2 hN (by omega) (by omega) (by omega) (by simp only [go_sem]) (by simp only [go_sem]) (by simp only [go_sem]) (by simp only [go_sem]) (by simp only [go_sem]) (by simp only [go_sem]) (by simp only [go_sem]) (by simp only [go_sem]) (by simp only [go_sem]) _ _ (fun en2 a2 b2 wb2 wp2 d9 X9 he gx g1 g2 g3 g4 g5=> ?_)
      obtain ⟨f0,f1,f2,f3,f4,f10,f11⟩:=he
      refine ⟨(a2,b2,li,wb2,wp2,d9,X9),by simp only [go_sem,f0,f1,f2,f3,f4,f10,f11],?_,?_,fun x en s hq=> ?_⟩
      ·dsimp only;exact ⟨g1,g2,g4,by omega,by omega⟩
      ·dsimp only;exact g3
      ·dsimp only at hq
       rw [g5]
       obtain ⟨hq1,hq2,X8,hx8,hq3⟩:=hq
       exact ⟨hq1,hq2,X8,fun h0=>hx8 (gx (h0.snoc _ _)),hq3⟩
     |true=>
      simp only [go_sem,lp129_0,hw,q12,ql,hpv]
      refine zdd S0 T l hl n hn ag k hk caps c lt hlt hc N ih _ _ a b li pv true true d hsz (by omega) h2 hN (by omega) (by omega) (by omega) (by simp only [go_sem]) (by simp only [go_sem]) (by simp only [go_sem]) (by simp only [go_sem]) (by simp only [go_sem]) (by simp only [go_sem]) (by simp only [go_sem]) (by simp only [go_sem]) (by simp only [go_sem]) _ _ (fun en2 a2 b2 wb2 wp2 d9 X9 he gx g1 g2 g3 g4 g5=> ?_)
      obtain ⟨f0,f1,f2,f3,f4,f10,f11⟩:=he
      refine ⟨(a2,b2,li,wb2,wp2,d9,X9),by simp only [go_sem,f0,f1,f2,f3,f4,f10,f11],?_,?_,fun x en s hq=> ?_⟩
      ·dsimp only;exact ⟨g1,g2,g4,by omega,by omega⟩
      ·dsimp only;exact g3
      ·dsimp only at hq
       rw [g5]
       obtain ⟨hq1,hq2,X8,hx8,hq3⟩:=hq
       exact ⟨hq1,hq2,X8,fun h0=>hx8 (gx (h0.snoc _ _)),hq3⟩
    |increasing=>
     have hpv:run L 164 [.rsl l 0 n n 1 ag,J a,J b,.fn (.func k) [] caps] ⟨put S0 l (Dm gS d) X0,T⟩=some (.tup [J pv,I 1],⟨put S0 l (Dm gS d) (X0++ [[J B2]]),T⟩):=hpv
     cases wp with
     |false=>
      have e:Go.Sort.pdq lt d a b li true false=pdqT lt d a b pv li true false:=by rw [z01 lt d true false (by omega) hl0];simp [hcc]
      rw [e]
      simp only [go_sem,lp129_0,hw,q12,ql,hpv]
      refine zdd S0 T l hl n hn ag k hk caps c lt hlt hc N ih _ _ a b li pv true false d hsz (by omega) h2 hN (by omega) (by omega) (by omega) (by simp only [go_sem]) (by simp only [go_sem]) (by simp only [go_sem]) (by simp only [go_sem]) (by simp only [go_sem]) (by simp only [go_sem]) (by simp only [go_sem]) (by simp only [go_sem]) (by simp only [go_sem]) _ _ (fun en2 a2 b2 wb2 wp2 d9 X9 he gx g1 g2 g3 g4 g5=> ?_)
      obtain ⟨f0,f1,f2,f3,f4,f10,f11⟩:=he
      refine ⟨(a2,b2,li,wb2,wp2,d9,X9),by simp only [go_sem,f0,f1,f2,f3,f4,f10,f11],?_,?_,fun x en s hq=> ?_⟩
      ·dsimp only;exact ⟨g1,g2,g4,by omega,by omega⟩
      ·dsimp only;exact g3
      ·dsimp only at hq
       rw [g5]
       obtain ⟨hq1,hq2,X8,hx8,hq3⟩:=hq
       exact ⟨hq1,hq2,X8,fun h0=>hx8 (gx (h0.snoc _ _)),hq3⟩
     |true=>
      have hpi:=piss S0 T l hl n hn ag k hk caps c lt hlt hc (X0++ [[J B2]]) d hsz a b (by omega) h2
      have hz3:(Go.Sort.partialInsertionSort lt d a b).1.size=n:=by unfold Go.Sort.partialInsertionSort;rw [z3f,hsz]
      generalize hpe:Go.Sort.partialInsertionSort lt d a b=pi at*
      obtain ⟨d3,ok⟩:=pi
      dsimp only at hpi hz3
      cases ok with
      |true=>
       have e:Go.Sort.pdq lt d a b li true true=d3:=by rw [z01 lt d true true (by omega) hl0];simp [hcc,hpe]
       rw [e]
       simp only [go_sem,lp129_0,hw,q12,ql,hpv,hpi]
       exact ⟨hz3,_,fun h0=>(h0.snoc _ _),rfl⟩
      |false=>
       have e:Go.Sort.pdq lt d a b li true true=pdqT lt d3 a b pv li true true:=by rw [z01 lt d true true (by omega) hl0];simp [hcc,hpe]
       rw [e]
       simp only [go_sem,lp129_0,hw,q12,ql,hpv,hpi]
       refine zdd S0 T l hl n hn ag k hk caps c lt hlt hc N ih _ _ a b li pv true true d3 hz3 (by omega) h2 hN (by omega) (by omega) (by omega) (by simp only [go_sem]) (by simp only [go_sem]) (by simp only [go_sem]) (by simp only [go_sem]) (by simp only [go_sem]) (by simp only [go_sem]) (by simp only [go_sem]) (by simp only [go_sem]) (by simp only [go_sem]) _ _ (fun en2 a2 b2 wb2 wp2 d9 X9 he gx g1 g2 g3 g4 g5=> ?_)
       obtain ⟨f0,f1,f2,f3,f4,f10,f11⟩:=he
       refine ⟨(a2,b2,li,wb2,wp2,d9,X9),by simp only [go_sem,f0,f1,f2,f3,f4,f10,f11],?_,?_,fun x en s hq=> ?_⟩
       ·dsimp only;exact ⟨g1,g2,g4,by omega,by omega⟩
       ·dsimp only;exact g3
       ·dsimp only at hq
        rw [g5]
        obtain ⟨hq1,hq2,X8,hx8,hq3⟩:=hq
        exact ⟨hq1,hq2,X8,fun h0=>hx8 (gx (h0.snoc _ _)),hq3⟩
    |decreasing=>
     have hpv:run L 164 [.rsl l 0 n n 1 ag,J a,J b,.fn (.func k) [] caps] ⟨put S0 l (Dm gS d) X0,T⟩=some (.tup [J pv,I 2],⟨put S0 l (Dm gS d) (X0++ [[J B2]]),T⟩):=hpv
     have hrv:=revs S0 T l hl n hn ag k caps (X0++ [[J B2]]) d hsz a b (by omega) h2
     have hz2:(Go.Sort.reverseRange d a b).size=n:=by rw [z3l,hsz]
     have hpa:=z9p pv a (by omega) (by omega)
     have hpb:=z9p (b-1) (pv-a) (by omega) (by omega)
     generalize hd2:Go.Sort.reverseRange d a b=d2 at*
     cases wp with
     |false=>
      have e:Go.Sort.pdq lt d a b li true false=pdqT lt d2 a b (b-1-(pv-a)) li true false:=by rw [z01 lt d true false (by omega) hl0];simp [hcc,hd2]
      rw [e]
      simp only [go_sem,lp129_0,hw,q12,ql,hpv,hrv,hb1,hpa,hpb]
      refine zdd S0 T l hl n hn ag k hk caps c lt hlt hc N ih _ _ a b li (b-1-(pv-a)) true false d2 hz2 (by omega) h2 hN (by omega) (by omega) (by omega) (by simp only [go_sem]) (by simp only [go_sem]) (by simp only [go_sem]) (by simp only [go_sem]) (by simp only [go_sem]) (by simp only [go_sem]) (by simp only [go_sem]) (by simp only [go_sem]) (by simp only [go_sem]) _ _ (fun en2 a2 b2 wb2 wp2 d9 X9 he gx g1 g2 g3 g4 g5=> ?_)
      obtain ⟨f0,f1,f2,f3,f4,f10,f11⟩:=he
      refine ⟨(a2,b2,li,wb2,wp2,d9,X9),by simp only [go_sem,f0,f1,f2,f3,f4,f10,f11],?_,?_,fun x en s hq=> ?_⟩
      ·dsimp only;exact ⟨g1,g2,g4,by omega,by omega⟩
      ·dsimp only;exact g3
      ·dsimp only at hq
       rw [g5]
       obtain ⟨hq1,hq2,X8,hx8,hq3⟩:=hq
       exact ⟨hq1,hq2,X8,fun h0=>hx8 (gx (h0.snoc _ _)),hq3⟩
     |true=>
      have hpi:=piss S0 T l hl n hn ag k hk caps c lt hlt hc (X0++ [[J B2]]) d2 hz2 a b (by omega) h2
      have hz3:(Go.Sort.partialInsertionSort lt d2 a b).1.size=n:=by unfold Go.Sort.partialInsertionSort;rw [z3f,hz2]
      generalize hpe:Go.Sort.partialInsertionSort lt d2 a b=pi at*
      obtain ⟨d3,ok⟩:=pi
      dsimp only at hpi hz3
      cases ok with
      |true=>
       have e:Go.Sort.pdq lt d a b li true true=d3:=by rw [z01 lt d true true (by omega) hl0];simp [hcc,hd2,hpe]
       rw [e]
       simp only [go_sem,lp129_0,hw,q12,ql,hpv,hrv,hb1,hpa,hpb,hpi]
       exact ⟨hz3,_,fun h0=>(h0.snoc _ _),rfl⟩
      |false=>
       have e:Go.Sort.pdq lt d a b li true true=pdqT lt d3 a b (b-1-(pv-a)) li true true:=by rw [z01 lt d true true (by omega) hl0];simp [hcc,hd2,hpe]
       rw [e]
       simp only [go_sem,lp129_0,hw,q12,ql,hpv,hrv,hb1,hpa,hpb,hpi]
       refine zdd S0 T l hl n hn ag k hk caps c lt hlt hc N ih _ _ a b li (b-1-(pv-a)) true true d3 hz3 (by omega) h2 hN (by omega) (by omega) (by omega) (by simp only [go_sem]) (by simp only [go_sem]) (by simp only [go_sem]) (by simp only [go_sem]) (by simp only [go_sem]) (by simp only [go_sem]) (by simp only [go_sem]) (by simp only [go_sem]) (by simp only [go_sem]) _ _ (fun en2 a2 b2 wb2 wp2 d9 X9 he gx g1 g2 g3 g4 g5=> ?_)
       obtain ⟨f0,f1,f2,f3,f4,f10,f11⟩:=he
       refine ⟨(a2,b2,li,wb2,wp2,d9,X9),by simp only [go_sem,f0,f1,f2,f3,f4,f10,f11],?_,?_,fun x en s hq=> ?_⟩
       ·dsimp only;exact ⟨g1,g2,g4,by omega,by omega⟩
       ·dsimp only;exact g3
       ·dsimp only at hq
        rw [g5]
        obtain ⟨hq1,hq2,X8,hx8,hq3⟩:=hq
        exact ⟨hq1,hq2,X8,fun h0=>hx8 (gx (h0.snoc _ _)),hq3⟩
end
theorem pdqs (S0:List (List AV))(T:List Nat)(l:Nat)(hl:l<S0.length)(n:Nat)(hn:n≤1000)(ag:Bool)(k:Nat)(hk:pure k=true)(caps:List AV)(c:Fin 256→Fin 256→Int)(lt:Fin 256→Fin 256→Bool)(hlt: ∀x y,lt x y=decide (c x y<0))(hc: ∀x y X E,run L k (fS x::fS y::caps) ⟨put S0 l X E,T⟩=some (I (c x y),⟨put S0 l X E,T⟩))(hn2:n<256): ∀(N a b li:Nat) (d:Array (Fin 256)) (X0:List (List AV)),a≤b→b≤n→d.size=n→li<1000→b-a<N→(Go.Sort.pdq lt d a b li true true).size=n∧∃X1,(PL X0→PL X1)∧run L 129 [.rsl l 0 n n 1 ag,J a,J b,J li,.fn (.func k) [] caps] ⟨put S0 l (Dm gS d) X0,T⟩=some (.tup [],⟨put S0 l (Dm gS (Go.Sort.pdq lt d a b li true true)) X1,T⟩)
 |0,_,_,_,_,_,_,_,_,_,h=>by omega
 |N+1,a,b,li,d,X0,h1,h2,hsz,hli,hN=>by
  have ih:=pdqs S0 T l hl n hn ag k hk caps c lt hlt hc hn2 N
  rw [z6 (fn:=ir129) rfl rfl]
  simp only [ir129,go_sem]
  generalize hg:lim (headed pure (run L) false _ lp129_0 _ _) _ _=o
  obtain ⟨x,en,s,rfl,h2⟩: ∃x en s,o=some (x,en,s)∧_:=by rw [←hg];exact pdq0s S0 T l hl n hn ag k hk caps c lt hlt hc hn2 N ih _ _ a b li true true d X0 ⟨h1,h2,hsz,hli,by omega⟩ _ _ (by simp only [go_sem]<;>rfl)
  clear hg
  obtain ⟨rfl,hz,X1,hX1,rfl⟩:=h2
  refine ⟨hz,X1,hX1,?_⟩
  simp only [go_sem]
section
variable (S0:List (List AV)) (T:List Nat) (l:Nat) (hl:l<S0.length) (n:Nat) (hn:n≤1000) (ag:Bool) (k:Nat) (hk:pure k=true) (caps:List AV) (c:Fin 256→Fin 256→Int) (lt:Fin 256→Fin 256→Bool) (hlt: ∀x y,lt x y=decide (c x y<0)) (hc: ∀x y X E,run L k (fS x::fS y::caps) ⟨put S0 l X E,T⟩=some (I (c x y),⟨put S0 l X E,T⟩))
include S0 T l hl n hn ag k hk caps c lt hlt hc
theorem sorts (hn2:n<256)(d:Array (Fin 256))(hsz:d.size=n)(X0:List (List AV)):
  ∃X1,(PL X0→PL X1)∧run L 80 [.rsl l 0 n n 1 ag,.fn (.func k) [] caps] ⟨put S0 l (Dm gS d) X0,T⟩=some (.tup [],⟨put S0 l (Dm gS (Go.Sort.sort lt d)) X1,T⟩):=by
 rw [z6 (fn:=ir80) rfl rfl]
 have hcv:=z8i n (by omega)
 have h115:=fun st=>c115 n hn2 st
 have hbl:Go.Sort.bitsLen n<1000:=by
  have:=(Go.Sort.bitsLen_le_iff n 8).2 (by omega)
  omega
 obtain ⟨hz,X1,hX1,h⟩:=pdqs S0 T l hl n hn ag k hk caps c lt hlt hc hn2 (n+1) 0 n (Go.Sort.bitsLen n) d X0 (by omega) (by omega) hsz hbl (by omega)
 refine ⟨X1,hX1,?_⟩
 have e:Go.Sort.sort lt d=Go.Sort.pdq lt d 0 n (Go.Sort.bitsLen n) true true:=by unfold Go.Sort.sort;rw [hsz]
 rw [e]
 have h:run L 129 [.rsl l 0 n n 1 ag,I 0,J n,J (Go.Sort.bitsLen n),.fn (.func k) [] caps] ⟨put S0 l (Dm gS d) X0,T⟩=_:=h
 simp only [ir80,go_sem,hcv,h115,h]
end
attribute [local go_sem] m_ x_ l_ k_ o_ t_ a_ s_ q_ b_ c_ u_ g_ zd zf zi z8 zh
section
variable (S0:List (List AV)) (T:List Nat) (l:Nat) (hl:l<S0.length) (n:Nat) (hn:n≤1000) (ag:Bool) (k:Nat) (hk:pure k=false) (caps:List AV) (c:LI→LI→Int) (lt:LI→LI→Bool) (hlt: ∀x y,lt x y=decide (c x y<0)) (hc: ∀x y X E,run L k (fL x::fL y::caps) ⟨put S0 l X E,T⟩=some (I (c x y),⟨put S0 l X E,T⟩))
include S0 T l hl n hn ag k hk caps c lt hlt hc
theorem ins0l (X0:List (List AV))(a b i:Nat)(hi:i<n)(lo hi2:Nat)(j:Nat)(d:Array (LI))(hok:j≤i∧d.size=n)(env:Env)(st:St)
  (hg:gcAV false lo hi2 (canon env [0,1,2,3,8,9]) st=([(0,.rsl l 0 n n 1 ag),(1,J a),(2,J b),(3,.fn (.func k) [] caps),(8,J i),(9,J j)],⟨put S0 l (Dm fL d) X0,T⟩)):
  ∃x_1 en s,lim (headed pure (run L) false [0,1,2,3,8,9] lp173_0 lo hi2) env st=some (x_1,en,s)∧(x_1=.exit 2∧en.get 0=.rsl l 0 n n 1 ag∧en.get 1=J a∧en.get 2=J b∧en.get 3=.fn (.func k) [] caps∧en.get 8=J i∧s=⟨put S0 l (Dm fL (Go.Sort.insInner lt a j d)) X0,T⟩):=by
 refine z9 (α:=Nat×Array (LI)) (fun ⟨j,d⟩=>j) (fun ⟨j,d⟩=>j≤i∧d.size=n) (fun ⟨j,d⟩=>([(0,.rsl l 0 n n 1 ag),(1,J a),(2,J b),(3,.fn (.func k) [] caps),(8,J i),(9,J j)],⟨put S0 l (Dm fL d) X0,T⟩)) (fun ⟨j,d⟩ x_1 en s=>x_1=.exit 2∧en.get 0=.rsl l 0 n n 1 ag∧en.get 1=J a∧en.get 2=J b∧en.get 3=.fn (.func k) [] caps∧en.get 8=J i∧s=⟨put S0 l (Dm fL (Go.Sort.insInner lt a j d)) X0,T⟩) (fun ⟨j,d⟩ hok=> ?_) ⟨j,d⟩ hok env st hg
 simp only at hok
 obtain ⟨h1,hsz⟩:=hok
 dsimp only at h1 hsz⊢
 have hget:=fun C E=>zk hl C E
 have hpset:=fun C C' E=>zj hl C C' E
 have hlenD:(Dm fL d).length=n:=by rw [zr,hsz]
 by_cases h:a<j
 ·obtain ⟨m,rfl⟩: ∃m,j=m+1:=⟨j-1,by omega⟩
  have e:Go.Sort.insInner lt a (m+1) d=if (decide (m+1>a)&&lt d[m+1]! d[m]!)=true then Go.Sort.insInner lt a m (Go.Sort.swp d (m+1) m) else d:=rfl
  rw [e]
  have hgt:((a:Int)<((m+1:Nat):Int))=True:=eT (by omega)
  have hw:IntKind.i64.wrap (((m+1:Nat):Int)-1)=((m:Nat):Int):=by rw [z0f]<;>omega
  have r10:(((m+1:Nat):Int)<(n:Int))=True:=eT (by omega)
  have r11:((m+1:Nat)<n)=True:=eT (by omega)
  have r12:((m+1:Nat)+1≤n)=True:=eT (by omega)
  have r13:(Dm fL d)[m+1]? =some (fL d[m+1]!):=zn fL d (by omega)
  have r20:(((m:Nat):Int)<(n:Int))=True:=eT (by omega)
  have r21:((m:Nat)<n)=True:=eT (by omega)
  have r22:((m:Nat)+1≤n)=True:=eT (by omega)
  have r23:(Dm fL d)[m]? =some (fL d[m]!):=zn fL d (by omega)
  have hd:decide (m+1>a)=true:=decide_eq_true (by omega)
  have hsw:=z0h fL d (m+1) m
  rw [hd,Bool.true_and]
  cases hcc:lt d[m+1]! d[m]! with
  |true=>
   have hk0:(c d[m+1]! d[m]! <0)=True:=by rw [hlt] at hcc;simpa using hcc
   rw [if_pos rfl]
   generalize d[m+1]! =x at*
   generalize d[m]! =y at*
   simp only [go_sem,lp173_0,hgt,hw,r10,r11,r12,r13,r20,r21,r22,r23,hc,hk,hk0,hget,hpset,hlenD,nn_,lm_,List.length_set]
   refine ⟨(m,Go.Sort.swp d (m+1) m),by simp only [go_sem,z3,z4,z5,hsw]<;>rfl,?_,?_,fun x en s hq=> ?_⟩
   ·dsimp only;exact ⟨by omega,zl hsz⟩
   ·dsimp only;omega
   ·exact hq
  |false=>
   have hk0:(c d[m+1]! d[m]! <0)=False:=by rw [hlt] at hcc;simpa using hcc
   rw [if_neg (by simp)]
   generalize d[m+1]! =x at*
   generalize d[m]! =y at*
   simp only [go_sem,lp173_0,hgt,hw,r10,r11,r12,r13,r20,r21,r22,r23,hc,hk,hk0,hget,hpset,hlenD,nn_,lm_,List.length_set]
 ·have hgt:((a:Int)<(j:Int))=False:=eF (by omega)
  have e:Go.Sort.insInner lt a j d=d:=by
   cases j with
   |zero=>rfl
   |succ m=>unfold Go.Sort.insInner;rw [if_neg (by simp;omega)]
  rw [e]
  simp only [go_sem,lp173_0,hgt]
theorem ins1l (X0:List (List AV))(a b:Nat)(hb:b≤n)(lo hi2:Nat)(i:Nat)(d:Array (LI))(hok:i≤n+1∧d.size=n)(env:Env)(st:St)
  (hg:gcAV false lo hi2 (canon env [0,1,2,3,8]) st=([(0,.rsl l 0 n n 1 ag),(1,J a),(2,J b),(3,.fn (.func k) [] caps),(8,J i)],⟨put S0 l (Dm fL d) X0,T⟩)):
  ∃x_1 en s,lim (headed pure (run L) false [0,1,2,3,8] lp173_1 lo hi2) env st=some (x_1,en,s)∧(x_1=.exit 0∧s=⟨put S0 l (Dm fL (Go.Sort.insOuter lt a b i d)) X0,T⟩):=by
 refine z9 (α:=Nat×Array (LI)) (fun ⟨i,d⟩=>b-i) (fun ⟨i,d⟩=>i≤n+1∧d.size=n) (fun ⟨i,d⟩=>([(0,.rsl l 0 n n 1 ag),(1,J a),(2,J b),(3,.fn (.func k) [] caps),(8,J i)],⟨put S0 l (Dm fL d) X0,T⟩)) (fun ⟨i,d⟩ x_1 en s=>x_1=.exit 0∧s=⟨put S0 l (Dm fL (Go.Sort.insOuter lt a b i d)) X0,T⟩) (fun ⟨i,d⟩ hok=> ?_) ⟨i,d⟩ hok env st hg
 simp only at hok
 obtain ⟨h1,hsz⟩:=hok
 dsimp only at h1 hsz⊢
 by_cases h:i<b
 ·have e:Go.Sort.insOuter lt a b i d=Go.Sort.insOuter lt a b (i+1) (Go.Sort.insInner lt a i d):=by
   rw [Go.Sort.insOuter,if_pos h]
  rw [e]
  have hlt2:((i:Int)<(b:Int))=True:=eT (by omega)
  have hs:=ze i (by omega)
  have hz:(Go.Sort.insInner lt a i d).size=n:=by rw [z6b,hsz]
  simp only [go_sem,lp173_1,hlt2]
  generalize hg:lim (headed pure (run L) false _ lp173_0 _ _) _ _=o
  obtain ⟨x,en,s,rfl,h2⟩: ∃x en s,o=some (x,en,s)∧_:=by rw [←hg];exact ins0l S0 T l hl n hn ag k hk caps c lt hlt hc X0 a b i (by omega) _ _ i d ⟨Nat.le_refl _,hsz⟩ _ _ (by simp only [go_sem]<;>rfl)
  clear hg
  obtain ⟨rfl,e0,e1,e2,e3,e8,rfl⟩:=h2
  simp only [go_sem,lp173_1,e0,e1,e2,e3,e8,hs]
  refine ⟨(i+1,Go.Sort.insInner lt a i d),by simp only [go_sem,z3,z4,z5,e0,e1,e2,e3,e8]<;>rfl,?_,?_,fun x en s hq=> ?_⟩
  ·dsimp only;exact ⟨by omega,hz⟩
  ·dsimp only;omega
  ·exact hq
 ·have e:Go.Sort.insOuter lt a b i d=d:=by rw [Go.Sort.insOuter,if_neg h]
  rw [e]
  have hlt2:((i:Int)<(b:Int))=False:=eF (by omega)
  simp only [go_sem,lp173_1,hlt2]
theorem insl (X0:List (List AV))(a b:Nat)(ha:a≤n)(hb:b≤n)(d:Array (LI))(hsz:d.size=n):
  run L 173 [.rsl l 0 n n 1 ag,J a,J b,.fn (.func k) [] caps] ⟨put S0 l (Dm fL d) X0,T⟩=some (.tup [],⟨put S0 l (Dm fL (Go.Sort.insertionSort lt d a b)) X0,T⟩):=by
 rw [z6 (fn:=ir173) rfl rfl]
 have hs:=ze a (by omega)
 simp only [ir173,go_sem,hs]
 generalize hg:lim (headed pure (run L) false _ lp173_1 _ _) _ _=o
 obtain ⟨x,en,s,rfl,h2⟩: ∃x en s,o=some (x,en,s)∧_:=by rw [←hg];exact ins1l S0 T l hl n hn ag k hk caps c lt hlt hc X0 a b hb _ _ (a+1) d ⟨by omega,hsz⟩ _ _ (by simp only [go_sem]<;>rfl)
 clear hg
 obtain ⟨rfl,rfl⟩:=h2
 simp only [go_sem]
 rfl
end
attribute [local go_sem] m_ x_ l_ k_ o_ t_ a_ s_ q_ b_ c_ u_ g_ zd zf zi z8 zh
section
variable (S0:List (List AV)) (T:List Nat) (l:Nat) (hl:l<S0.length) (n:Nat) (hn:n≤1000) (ag:Bool) (k:Nat) (hk:pure k=false) (caps:List AV) (c:LI→LI→Int) (lt:LI→LI→Bool) (hlt: ∀x y,lt x y=decide (c x y<0)) (hc: ∀x y X E,run L k (fL x::fL y::caps) ⟨put S0 l X E,T⟩=some (I (c x y),⟨put S0 l X E,T⟩))
include S0 T l hl n hn ag k hk caps c lt hlt hc
theorem ordl (X0:List (List AV))(d:Array (LI))(hsz:d.size=n)(x y s:Nat)(hx:x<n)(hy:y<n)(hs:s<1000):
  run L 201 [.rsl l 0 n n 1 ag,J x,J y,.ptr (S0.length+X0.length) 0,.fn (.func k) [] caps] ⟨put S0 l (Dm fL d) (X0++ [[J s]]),T⟩=some (.tup [J (Go.Sort.order2 lt d x y s).1,J (Go.Sort.order2 lt d x y s).2.1],⟨put S0 l (Dm fL d) (X0++ [[J (Go.Sort.order2 lt d x y s).2.2]]),T⟩):=by
 rw [z6 (fn:=ir201) rfl rfl]
 have hget:=fun C E=>zk hl C E
 have hpset:=fun C C' E=>zj hl C C' E
 have hlenD:(Dm fL d).length=n:=by rw [zr,hsz]
 have r10:(((x:Nat):Int)<(n:Int))=True:=eT (by omega)
 have r11:((x:Nat)<n)=True:=eT (by omega)
 have r12:((x:Nat)+1≤n)=True:=eT (by omega)
 have r13:(Dm fL d)[x]? =some (fL d[x]!):=zn fL d (by omega)
 have r20:(((y:Nat):Int)<(n:Int))=True:=eT (by omega)
 have r21:((y:Nat)<n)=True:=eT (by omega)
 have r22:((y:Nat)+1≤n)=True:=eT (by omega)
 have r23:(Dm fL d)[y]? =some (fL d[y]!):=zn fL d (by omega)
 have hpl:=fun C B=>z5b (S0:=S0) (l:=l) C X0 B
 have hps:=fun C B B'=>z86 (S0:=S0) (l:=l) C X0 B B'
 have hs1:=ze s (by omega)
 have e:Go.Sort.order2 lt d x y s=if lt d[y]! d[x]! =true then (y,x,s+1) else (x,y,s):=rfl
 rw [e]
 cases hcc:lt d[y]! d[x]! with
 |true=>
  have hk0:(c d[y]! d[x]! <0)=True:=by rw [hlt] at hcc;simpa using hcc
  rw [if_pos rfl]
  generalize d[x]! =u at*
  generalize d[y]! =v at*
  simp only [ir201,go_sem,r10,r11,r12,r13,r20,r21,r22,r23,hc,hk,hk0,hpl,hps,hs1,hget,hpset,hlenD,nn_,lm_,List.length_set]
 |false=>
  have hk0:(c d[y]! d[x]! <0)=False:=by rw [hlt] at hcc;simpa using hcc
  rw [if_neg (by simp)]
  generalize d[x]! =u at*
  generalize d[y]! =v at*
  simp only [ir201,go_sem,r10,r11,r12,r13,r20,r21,r22,r23,hc,hk,hk0,hget,hpset,hlenD,nn_,lm_,List.length_set]
theorem medl (X0:List (List AV))(d:Array (LI))(hsz:d.size=n)(x y z s:Nat)(hx:x<n)(hy:y<n)(hz:z<n)(hs:s<900):
  run L 196 [.rsl l 0 n n 1 ag,J x,J y,J z,.ptr (S0.length+X0.length) 0,.fn (.func k) [] caps] ⟨put S0 l (Dm fL d) (X0++ [[J s]]),T⟩=some (J (Go.Sort.median lt d x y z s).1,⟨put S0 l (Dm fL d) (X0++ [[J (Go.Sort.median lt d x y z s).2]]),T⟩):=by
 rw [z6 (fn:=ir196) rfl rfl]
 have o1:=ordl S0 T l hl n hn ag k hk caps c lt hlt hc X0 d hsz x y s hx hy (by omega)
 have b1:=z6g lt d hx hy s
 have e:Go.Sort.median lt d x y z s=((Go.Sort.order2 lt d (Go.Sort.order2 lt d x y s).1 (Go.Sort.order2 lt d (Go.Sort.order2 lt d x y s).2.1 z (Go.Sort.order2 lt d x y s).2.2).1 (Go.Sort.order2 lt d (Go.Sort.order2 lt d x y s).2.1 z (Go.Sort.order2 lt d x y s).2.2).2.2).2.1,(Go.Sort.order2 lt d (Go.Sort.order2 lt d x y s).1 (Go.Sort.order2 lt d (Go.Sort.order2 lt d x y s).2.1 z (Go.Sort.order2 lt d x y s).2.2).1 (Go.Sort.order2 lt d (Go.Sort.order2 lt d x y s).2.1 z (Go.Sort.order2 lt d x y s).2.2).2.2).2.2):=rfl
 rw [e]
 generalize Go.Sort.order2 lt d x y s=r1 at*
 obtain ⟨x1,y1,s1⟩:=r1
 dsimp only at*
 have o2:=ordl S0 T l hl n hn ag k hk caps c lt hlt hc X0 d hsz y1 z s1 b1.2.1 hz (by omega)
 have b2:=z6g lt d b1.2.1 hz s1
 generalize Go.Sort.order2 lt d y1 z s1=r2 at*
 obtain ⟨x2,y2,s2⟩:=r2
 dsimp only at*
 have o3:=ordl S0 T l hl n hn ag k hk caps c lt hlt hc X0 d hsz x1 x2 s2 b1.1 b2.1 (by omega)
 generalize Go.Sort.order2 lt d x1 x2 s2=r3 at*
 obtain ⟨x3,y3,s3⟩:=r3
 dsimp only at*
 simp only [ir196,go_sem,o1,o2,o3]
theorem adjl (X0:List (List AV))(d:Array (LI))(hsz:d.size=n)(x s:Nat)(hx0:0<x)(hx:x+1<n)(hs:s<900):
  run L 195 [.rsl l 0 n n 1 ag,J x,.ptr (S0.length+X0.length) 0,.fn (.func k) [] caps] ⟨put S0 l (Dm fL d) (X0++ [[J s]]),T⟩=some (J (Go.Sort.medianAdjacent lt d x s).1,⟨put S0 l (Dm fL d) (X0++ [[J (Go.Sort.medianAdjacent lt d x s).2]]),T⟩):=by
 rw [z6 (fn:=ir195) rfl rfl]
 have o1:=medl S0 T l hl n hn ag k hk caps c lt hlt hc X0 d hsz (x-1) x (x+1) s (by omega) (by omega) (by omega) hs
 have h1:=ze x (by omega)
 have h2:=z0c x (by omega) (by omega)
 have e:Go.Sort.medianAdjacent lt d x s=Go.Sort.median lt d (x-1) x (x+1) s:=rfl
 rw [e]
 simp only [ir195,go_sem,h1,h2,o1]
theorem pivl (X0:List (List AV))(d:Array (LI))(hsz:d.size=n)(a b:Nat)(hab:a+13≤b)(hb:b≤n):
  ∃s4:Nat,run L 176 [.rsl l 0 n n 1 ag,J a,J b,.fn (.func k) [] caps] ⟨put S0 l (Dm fL d) X0,T⟩=some (.tup [J (Go.Sort.choosePivot lt d a b).1,J (hintN (Go.Sort.choosePivot lt d a b).2)],⟨put S0 l (Dm fL d) (X0++ [[J s4]]),T⟩):=by
 rw [z6 (fn:=ir176) rfl rfl]
 have hll:=fun C=>z7q (S0:=S0) (l:=l) C X0
 have hsn:=fun C B=>zap (S0:=S0) (l:=l) C X0 B
 have hpl:=fun C B=>z5b (S0:=S0) (l:=l) C X0 B
 have hw:=z9p b a (by omega) (by omega)
 obtain ⟨len,hlen⟩: ∃len,len=b-a:=⟨_,rfl⟩
 rw [←hlen] at hw
 have hq:IntKind.i64.wrap (Int.tdiv (len:Int) 4)=((len / 4:Nat):Int):=zl2 len 4 (by omega) (by omega)
 obtain ⟨q,hqd⟩: ∃q,q=len / 4:=⟨_,rfl⟩
 rw [←hqd] at hq
 have hm1:IntKind.i64.wrap ((q:Int)*1)=((q:Nat):Int):=by rw [z0f]<;>omega
 have hm2:IntKind.i64.wrap ((q:Int)*2)=((q*2:Nat):Int):=by rw [z0f]<;>omega
 have hm3:IntKind.i64.wrap ((q:Int)*3)=((q*3:Nat):Int):=by rw [z0f]<;>omega
 have ha1:=zc7 a q (by omega)
 have ha2:=zc7 a (q*2) (by omega)
 have ha3:=zc7 a (q*3) (by omega)
 have e:Go.Sort.choosePivot lt d a b=(let r:Nat×Nat:=if len≥50 then Go.Sort.median lt d (Go.Sort.medianAdjacent lt d (a+q) 0).1 (Go.Sort.medianAdjacent lt d (a+q*2) (Go.Sort.medianAdjacent lt d (a+q) 0).2).1 (Go.Sort.medianAdjacent lt d (a+q*3) (Go.Sort.medianAdjacent lt d (a+q*2) (Go.Sort.medianAdjacent lt d (a+q) 0).2).2).1 (Go.Sort.medianAdjacent lt d (a+q*3) (Go.Sort.medianAdjacent lt d (a+q*2) (Go.Sort.medianAdjacent lt d (a+q) 0).2).2).2 else Go.Sort.median lt d (a+q) (a+q*2) (a+q*3) 0;(r.1,if r.2=0 then Go.Sort.Hint.increasing else if r.2=12 then Go.Sort.Hint.decreasing else Go.Sort.Hint.unknown)):=by
  unfold Go.Sort.choosePivot
  simp only [←hlen,←hqd,Nat.mul_one]
  rw [if_pos (by omega)]
 rw [e]
 have q8:((8:Int)≤(len:Int))=True:=eT (by omega)
 by_cases h50:50≤len
 ·have q50:((50:Int)≤(len:Int))=True:=eT (by omega)
  rw [if_pos h50]
  have o1:=adjl S0 T l hl n hn ag k hk caps c lt hlt hc X0 d hsz (a+q) 0 (by omega) (by omega) (by omega)
  have b1:=z5i lt d (show a+q-1<n by omega) (show a+q<n by omega) (show a+q+1<n by omega) 0
  rw [show Go.Sort.median lt d (a+q-1) (a+q) (a+q+1) 0=Go.Sort.medianAdjacent lt d (a+q) 0 from rfl] at b1
  generalize Go.Sort.medianAdjacent lt d (a+q) 0=r1 at*
  obtain ⟨x1,s1⟩:=r1
  dsimp only at*
  have o2:=adjl S0 T l hl n hn ag k hk caps c lt hlt hc X0 d hsz (a+q*2) s1 (by omega) (by omega) (by omega)
  have b2:=z5i lt d (show a+q*2-1<n by omega) (show a+q*2<n by omega) (show a+q*2+1<n by omega) s1
  rw [show Go.Sort.median lt d (a+q*2-1) (a+q*2) (a+q*2+1) s1=Go.Sort.medianAdjacent lt d (a+q*2) s1 from rfl] at b2
  generalize Go.Sort.medianAdjacent lt d (a+q*2) s1=r2 at*
  obtain ⟨x2,s2⟩:=r2
  dsimp only at*
  have o3:=adjl S0 T l hl n hn ag k hk caps c lt hlt hc X0 d hsz (a+q*3) s2 (by omega) (by omega) (by omega)
  have b3:=z5i lt d (show a+q*3-1<n by omega) (show a+q*3<n by omega) (show a+q*3+1<n by omega) s2
  rw [show Go.Sort.median lt d (a+q*3-1) (a+q*3) (a+q*3+1) s2=Go.Sort.medianAdjacent lt d (a+q*3) s2 from rfl] at b3
  generalize Go.Sort.medianAdjacent lt d (a+q*3) s2=r3 at*
  obtain ⟨x3,s3⟩:=r3
  dsimp only at*
  have o4:=medl S0 T l hl n hn ag k hk caps c lt hlt hc X0 d hsz x1 x2 x3 s3 b1.1 b2.1 b3.1 (by omega)
  have b4:=z5i lt d b1.1 b2.1 b3.1 s3
  generalize Go.Sort.median lt d x1 x2 x3 s3=r4 at*
  obtain ⟨x4,s4⟩:=r4
  dsimp only at*
  refine ⟨s4,?_⟩
  rcases Nat.lt_trichotomy s4 0 with h0|h0|h0
  ·omega
  ·subst h0
   simp only [ir176,go_sem,hw,hq,hm1,hm2,hm3,ha1,ha2,ha3,q8,q50,hll,hsn,hpl,show I 0=J 0 from rfl,o1,o2,o3,o4,Int.natCast_zero]
   rfl
  ·rw [if_neg (by omega)]
   have p0:((s4:Int)=0)=False:=eF (by omega)
   by_cases h12:s4=12
   ·subst h12
    simp only [ir176,go_sem,hw,hq,hm1,hm2,hm3,ha1,ha2,ha3,q8,q50,hll,hsn,hpl,show I 0=J 0 from rfl,o1,o2,o3,o4,show ((12:Nat):Int)=12 from rfl]
    rfl
   ·have p12:((s4:Int)=12)=False:=eF (by omega)
    rw [if_neg h12]
    simp only [ir176,go_sem,hw,hq,hm1,hm2,hm3,ha1,ha2,ha3,q8,q50,hll,hsn,hpl,show I 0=J 0 from rfl,o1,o2,o3,o4,p0,p12]
    rfl
 ·have q50:((50:Int)≤(len:Int))=False:=eF (by omega)
  rw [if_neg h50]
  have o4:=medl S0 T l hl n hn ag k hk caps c lt hlt hc X0 d hsz (a+q) (a+q*2) (a+q*3) 0 (by omega) (by omega) (by omega) (by omega)
  generalize Go.Sort.median lt d (a+q) (a+q*2) (a+q*3) 0=r4 at*
  obtain ⟨x4,s4⟩:=r4
  dsimp only at*
  refine ⟨s4,?_⟩
  rcases Nat.lt_trichotomy s4 0 with h0|h0|h0
  ·omega
  ·subst h0
   simp only [ir176,go_sem,hw,hq,hm1,hm2,hm3,ha1,ha2,ha3,q8,q50,hll,hsn,hpl,show I 0=J 0 from rfl,o4,Int.natCast_zero]
   rfl
  ·rw [if_neg (by omega)]
   have p0:((s4:Int)=0)=False:=eF (by omega)
   by_cases h12:s4=12
   ·subst h12
    simp only [ir176,go_sem,hw,hq,hm1,hm2,hm3,ha1,ha2,ha3,q8,q50,hll,hsn,hpl,show I 0=J 0 from rfl,o4,show ((12:Nat):Int)=12 from rfl]
    rfl
   ·have p12:((s4:Int)=12)=False:=eF (by omega)
    rw [if_neg h12]
    simp only [ir176,go_sem,hw,hq,hm1,hm2,hm3,ha1,ha2,ha3,q8,q50,hll,hsn,hpl,show I 0=J 0 from rfl,o4,p0,p12]
    rfl
end
theorem rev0l (S0:List (List AV))(T:List Nat)(l:Nat)(hl:l<S0.length)(n:Nat)(hn:n≤1000)(ag:Bool)(X0:List (List AV))(lo hi2:Nat)(i:Nat)(j:Nat)(d:Array (LI))(hok:i≤n∧j<n∧d.size=n)(env:Env)(st:St)
  (hg:gcAV false lo hi2 (canon env [0,8,9]) st=([(0,.rsl l 0 n n 1 ag),(8,J i),(9,J j)],⟨put S0 l (Dm fL d) X0,T⟩)):
  ∃x_1 en s,lim (headed pure (run L) false [0,8,9] lp177_0 lo hi2) env st=some (x_1,en,s)∧(x_1=.exit 0∧s=⟨put S0 l (Dm fL (Go.Sort.reverseLoop i j d)) X0,T⟩):=by
 refine z9 (α:=Nat×Nat×Array (LI)) (fun ⟨i,j,d⟩=>j-i) (fun ⟨i,j,d⟩=>i≤n∧j<n∧d.size=n) (fun ⟨i,j,d⟩=>([(0,.rsl l 0 n n 1 ag),(8,J i),(9,J j)],⟨put S0 l (Dm fL d) X0,T⟩)) (fun ⟨i,j,d⟩ x_1 en s=>x_1=.exit 0∧s=⟨put S0 l (Dm fL (Go.Sort.reverseLoop i j d)) X0,T⟩) (fun ⟨i,j,d⟩ hok=> ?_) ⟨i,j,d⟩ hok env st hg
 simp only at hok
 obtain ⟨h1,h2,hsz⟩:=hok
 dsimp only at h1 h2 hsz⊢
 have hget:=fun C E=>zk hl C E
 have hpset:=fun C C' E=>zj hl C C' E
 have hlenD:(Dm fL d).length=n:=by rw [zr,hsz]
 by_cases h:i<j
 ·have e:Go.Sort.reverseLoop i j d=Go.Sort.reverseLoop (i+1) (j-1) (Go.Sort.swp d i j):=by
   rw [Go.Sort.reverseLoop,if_pos h]
  rw [e]
  have hlt2:((i:Int)<(j:Int))=True:=eT (by omega)
  have hs:=ze i (by omega)
  have hw:=z0c j (by omega) (by omega)
  have r30:(((i:Nat):Int)<(n:Int))=True:=eT (by omega)
  have r31:((i:Nat)<n)=True:=eT (by omega)
  have r32:((i:Nat)+1≤n)=True:=eT (by omega)
  have r33:(Dm fL d)[i]? =some (fL d[i]!):=zn fL d (by omega)
  have r40:(((j:Nat):Int)<(n:Int))=True:=eT (by omega)
  have r41:((j:Nat)<n)=True:=eT (by omega)
  have r42:((j:Nat)+1≤n)=True:=eT (by omega)
  have r43:(Dm fL d)[j]? =some (fL d[j]!):=zn fL d (by omega)
  have hsw:=z0h fL d i j
  generalize d[i]! =x at*
  generalize d[j]! =y at*
  simp only [go_sem,lp177_0,hlt2,hs,hw,r30,r31,r32,r33,r40,r41,r42,r43,hget,hpset,hlenD,nn_,lm_,List.length_set]
  refine ⟨(i+1,j-1,Go.Sort.swp d i j),by simp only [go_sem,z3,z4,z5,hsw]<;>rfl,?_,?_,fun x en s hq=> ?_⟩
  ·dsimp only;exact ⟨by omega,by omega,zl hsz⟩
  ·dsimp only;omega
  ·exact hq
 ·have e:Go.Sort.reverseLoop i j d=d:=by rw [Go.Sort.reverseLoop,if_neg h]
  rw [e]
  have hlt2:((i:Int)<(j:Int))=False:=eF (by omega)
  simp only [go_sem,lp177_0,hlt2]
theorem revl (S0:List (List AV))(T:List Nat)(l:Nat)(hl:l<S0.length)(n:Nat)(hn:n≤1000)(ag:Bool)(k:Nat)(caps:List AV)(X0:List (List AV))(d:Array (LI))(hsz:d.size=n)(a b:Nat)(hab:a<b)(hb:b≤n):
  run L 177 [.rsl l 0 n n 1 ag,J a,J b,.fn (.func k) [] caps] ⟨put S0 l (Dm fL d) X0,T⟩=some (.tup [],⟨put S0 l (Dm fL (Go.Sort.reverseRange d a b)) X0,T⟩):=by
 rw [z6 (fn:=ir177) rfl rfl]
 have hw:=z0c b (by omega) (by omega)
 simp only [ir177,go_sem,hw]
 generalize hg:lim (headed pure (run L) false _ lp177_0 _ _) _ _=o
 obtain ⟨x,en,s,rfl,h2⟩: ∃x en s,o=some (x,en,s)∧_:=by rw [←hg];exact rev0l S0 T l hl n hn ag X0 _ _ a (b-1) d ⟨by omega,by omega,hsz⟩ _ _ (by simp only [go_sem]<;>rfl)
 clear hg
 obtain ⟨rfl,rfl⟩:=h2
 simp only [go_sem]
 rfl
attribute [local go_sem] m_ x_ l_ k_ o_ t_ a_ s_ q_ b_ c_ u_ g_ zd zf zi z8 zh
section
variable (S0:List (List AV)) (T:List Nat) (l:Nat) (hl:l<S0.length) (n:Nat) (hn:n≤1000) (ag:Bool) (k:Nat) (hk:pure k=false) (caps:List AV) (c:LI→LI→Int) (lt:LI→LI→Bool) (hlt: ∀x y,lt x y=decide (c x y<0)) (hc: ∀x y X E,run L k (fL x::fL y::caps) ⟨put S0 l X E,T⟩=some (I (c x y),⟨put S0 l X E,T⟩))
include S0 T l hl n hn ag k hk caps c lt hlt hc
theorem pis0l (X0:List (List AV))(a b z0:Nat)(hb:b≤n)(d:Array (LI))(hsz:d.size=n)(lo hi2:Nat)(i:Nat)(hok:0<i∧i≤b)(env:Env)(st:St)
  (hg:gcAV false lo hi2 (canon env [0,1,2,3,9,10]) st=([(0,.rsl l 0 n n 1 ag),(1,J a),(2,J b),(3,.fn (.func k) [] caps),(9,J i),(10,J z0)],⟨put S0 l (Dm fL d) X0,T⟩)):
  ∃x_1 en s,lim (headed pure (run L) false [0,1,2,3,9,10] lp178_0 lo hi2) env st=some (x_1,en,s)∧(x_1=.exit 2∧en.get 0=.rsl l 0 n n 1 ag∧en.get 1=J a∧en.get 2=J b∧en.get 3=.fn (.func k) [] caps∧en.get 9=J (Go.Sort.scanSorted lt d b i)∧en.get 10=J z0∧s=⟨put S0 l (Dm fL d) X0,T⟩):=by
 refine z9 (α:=Nat) (fun i=>b-i) (fun i=>0<i∧i≤b) (fun i=>([(0,.rsl l 0 n n 1 ag),(1,J a),(2,J b),(3,.fn (.func k) [] caps),(9,J i),(10,J z0)],⟨put S0 l (Dm fL d) X0,T⟩)) (fun i x_1 en s=>x_1=.exit 2∧en.get 0=.rsl l 0 n n 1 ag∧en.get 1=J a∧en.get 2=J b∧en.get 3=.fn (.func k) [] caps∧en.get 9=J (Go.Sort.scanSorted lt d b i)∧en.get 10=J z0∧s=⟨put S0 l (Dm fL d) X0,T⟩) (fun i hok=> ?_) i hok env st hg
 obtain ⟨h1,h2⟩:=hok
 have hget:=fun C E=>zk hl C E
 have hpset:=fun C C' E=>zj hl C C' E
 have hlenD:(Dm fL d).length=n:=by rw [zr,hsz]
 by_cases h:i<b
 ·have hlt2:((i:Int)<(b:Int))=True:=eT (by omega)
  have hs:=ze i (by omega)
  have hw:=z0c i (by omega) (by omega)
  have r10:(((i:Nat):Int)<(n:Int))=True:=eT (by omega)
  have r11:((i:Nat)<n)=True:=eT (by omega)
  have r12:((i:Nat)+1≤n)=True:=eT (by omega)
  have r13:(Dm fL d)[i]? =some (fL d[i]!):=zn fL d (by omega)
  have r20:(((i-1:Nat):Int)<(n:Int))=True:=eT (by omega)
  have r21:((i-1:Nat)<n)=True:=eT (by omega)
  have r22:((i-1:Nat)+1≤n)=True:=eT (by omega)
  have r23:(Dm fL d)[i-1]? =some (fL d[i-1]!):=zn fL d (by omega)
  cases hcc:lt d[i]! d[i-1]! with
  |true=>
   have e:Go.Sort.scanSorted lt d b i=i:=by rw [Go.Sort.scanSorted,if_neg (by simp [hcc])]
   rw [e]
   have hk0:(c d[i]! d[i-1]! <0)=True:=by rw [hlt] at hcc;simpa using hcc
   generalize d[i]! =x at*
   generalize d[i-1]! =y at*
   simp only [go_sem,lp178_0,hlt2,hw,r10,r11,r12,r13,r20,r21,r22,r23,hc,hk,hk0,hget,hpset,hlenD,nn_,lm_,List.length_set]
  |false=>
   have e:Go.Sort.scanSorted lt d b i=Go.Sort.scanSorted lt d b (i+1):=by rw [Go.Sort.scanSorted,if_pos (by simp [hcc,h])]
   rw [e]
   have hk0:(c d[i]! d[i-1]! <0)=False:=by rw [hlt] at hcc;simpa using hcc
   generalize d[i]! =x at*
   generalize d[i-1]! =y at*
   simp only [go_sem,lp178_0,hlt2,hw,hs,r10,r11,r12,r13,r20,r21,r22,r23,hc,hk,hk0,hget,hpset,hlenD,nn_,lm_,List.length_set]
   refine ⟨i+1,by simp only [go_sem,z3,z4,z5]<;>rfl,?_,?_,fun x en s hq=> ?_⟩
   ·omega
   ·omega
   ·exact hq
 ·have hlt2:((i:Int)<(b:Int))=False:=eF (by omega)
  have e:Go.Sort.scanSorted lt d b i=i:=by rw [Go.Sort.scanSorted,if_neg (by simp;omega)]
  rw [e]
  simp only [go_sem,lp178_0,hlt2]
theorem pis1l (X0:List (List AV))(a b i z0:Nat)(lo hi2:Nat)(j:Nat)(d:Array (LI))(hok:j<n∧d.size=n)(env:Env)(st:St)
  (hg:gcAV false lo hi2 (canon env [0,1,2,3,9,10,11]) st=([(0,.rsl l 0 n n 1 ag),(1,J a),(2,J b),(3,.fn (.func k) [] caps),(9,J i),(10,J z0),(11,J j)],⟨put S0 l (Dm fL d) X0,T⟩)):
  ∃x_1 en s,lim (headed pure (run L) false [0,1,2,3,9,10,11] lp178_1 lo hi2) env st=some (x_1,en,s)∧(x_1=.exit 4∧en.get 0=.rsl l 0 n n 1 ag∧en.get 1=J a∧en.get 2=J b∧en.get 3=.fn (.func k) [] caps∧en.get 9=J i∧en.get 10=J z0∧s=⟨put S0 l (Dm fL (Go.Sort.shiftDown lt j d)) X0,T⟩):=by
 refine z9 (α:=Nat×Array (LI)) (fun ⟨j,d⟩=>j) (fun ⟨j,d⟩=>j<n∧d.size=n) (fun ⟨j,d⟩=>([(0,.rsl l 0 n n 1 ag),(1,J a),(2,J b),(3,.fn (.func k) [] caps),(9,J i),(10,J z0),(11,J j)],⟨put S0 l (Dm fL d) X0,T⟩)) (fun ⟨j,d⟩ x_1 en s=>x_1=.exit 4∧en.get 0=.rsl l 0 n n 1 ag∧en.get 1=J a∧en.get 2=J b∧en.get 3=.fn (.func k) [] caps∧en.get 9=J i∧en.get 10=J z0∧s=⟨put S0 l (Dm fL (Go.Sort.shiftDown lt j d)) X0,T⟩) (fun ⟨j,d⟩ hok=> ?_) ⟨j,d⟩ hok env st hg
 simp only at hok
 obtain ⟨h1,hsz⟩:=hok
 dsimp only at h1 hsz⊢
 have hget:=fun C E=>zk hl C E
 have hpset:=fun C C' E=>zj hl C C' E
 have hlenD:(Dm fL d).length=n:=by rw [zr,hsz]
 cases j with
 |zero=>
  have hlt2:((1:Int)≤((0:Nat):Int))=False:=eF (by omega)
  simp only [go_sem,lp178_1,hlt2]
  rfl
 |succ m=>
  have hlt2:((1:Int)≤((m+1:Nat):Int))=True:=eT (by omega)
  have hw:IntKind.i64.wrap (((m+1:Nat):Int)-1)=((m:Nat):Int):=by rw [z0f]<;>omega
  have e:Go.Sort.shiftDown lt (m+1) d=if (!lt d[m+1]! d[m]!)=true then d else Go.Sort.shiftDown lt m (Go.Sort.swp d (m+1) m):=rfl
  rw [e]
  have r30:(((m+1:Nat):Int)<(n:Int))=True:=eT (by omega)
  have r31:((m+1:Nat)<n)=True:=eT (by omega)
  have r32:((m+1:Nat)+1≤n)=True:=eT (by omega)
  have r33:(Dm fL d)[m+1]? =some (fL d[m+1]!):=zn fL d (by omega)
  have r40:(((m:Nat):Int)<(n:Int))=True:=eT (by omega)
  have r41:((m:Nat)<n)=True:=eT (by omega)
  have r42:((m:Nat)+1≤n)=True:=eT (by omega)
  have r43:(Dm fL d)[m]? =some (fL d[m]!):=zn fL d (by omega)
  have hsw:=z0h fL d (m+1) m
  cases hcc:lt d[m+1]! d[m]! with
  |true=>
   have hk0:(c d[m+1]! d[m]! <0)=True:=by rw [hlt] at hcc;simpa using hcc
   rw [if_neg (by simp)]
   generalize d[m+1]! =x at*
   generalize d[m]! =y at*
   simp only [go_sem,lp178_1,hlt2,hw,r30,r31,r32,r33,r40,r41,r42,r43,hc,hk,hk0,hget,hpset,hlenD,nn_,lm_,List.length_set]
   refine ⟨(m,Go.Sort.swp d (m+1) m),by simp only [go_sem,z3,z4,z5,hsw]<;>rfl,?_,?_,fun x en s hq=> ?_⟩
   ·dsimp only;exact ⟨by omega,zl hsz⟩
   ·dsimp only;omega
   ·exact hq
  |false=>
   have hk0:(c d[m+1]! d[m]! <0)=False:=by rw [hlt] at hcc;simpa using hcc
   rw [if_pos (show (!false)=true from rfl)]
   generalize d[m+1]! =x at*
   generalize d[m]! =y at*
   simp only [go_sem,lp178_1,hlt2,hw,r30,r31,r32,r33,r40,r41,r42,r43,hc,hk,hk0,hget,hpset,hlenD,nn_,lm_,List.length_set]
theorem pis2l (X0:List (List AV))(a b i z0:Nat)(hb:b≤n)(lo hi2:Nat)(j:Nat)(d:Array (LI))(hok:0<j∧j≤b∧d.size=n)(env:Env)(st:St)
  (hg:gcAV false lo hi2 (canon env [0,1,2,3,9,10,12]) st=([(0,.rsl l 0 n n 1 ag),(1,J a),(2,J b),(3,.fn (.func k) [] caps),(9,J i),(10,J z0),(12,J j)],⟨put S0 l (Dm fL d) X0,T⟩)):
  ∃x_1 en s,lim (headed pure (run L) false [0,1,2,3,9,10,12] lp178_2 lo hi2) env st=some (x_1,en,s)∧(x_1=.exit 6∧en.get 0=.rsl l 0 n n 1 ag∧en.get 1=J a∧en.get 2=J b∧en.get 3=.fn (.func k) [] caps∧en.get 9=J i∧en.get 10=J z0∧s=⟨put S0 l (Dm fL (Go.Sort.shiftUp lt b j d)) X0,T⟩):=by
 refine z9 (α:=Nat×Array (LI)) (fun ⟨j,d⟩=>b-j) (fun ⟨j,d⟩=>0<j∧j≤b∧d.size=n) (fun ⟨j,d⟩=>([(0,.rsl l 0 n n 1 ag),(1,J a),(2,J b),(3,.fn (.func k) [] caps),(9,J i),(10,J z0),(12,J j)],⟨put S0 l (Dm fL d) X0,T⟩)) (fun ⟨j,d⟩ x_1 en s=>x_1=.exit 6∧en.get 0=.rsl l 0 n n 1 ag∧en.get 1=J a∧en.get 2=J b∧en.get 3=.fn (.func k) [] caps∧en.get 9=J i∧en.get 10=J z0∧s=⟨put S0 l (Dm fL (Go.Sort.shiftUp lt b j d)) X0,T⟩) (fun ⟨j,d⟩ hok=> ?_) ⟨j,d⟩ hok env st hg
 simp only at hok
 obtain ⟨h1,h2,hsz⟩:=hok
 dsimp only at h1 h2 hsz⊢
 have hget:=fun C E=>zk hl C E
 have hpset:=fun C C' E=>zj hl C C' E
 have hlenD:(Dm fL d).length=n:=by rw [zr,hsz]
 by_cases h:j<b
 ·have hlt2:((j:Int)<(b:Int))=True:=eT (by omega)
  have hs:=ze j (by omega)
  have hw:=z0c j (by omega) (by omega)
  have e:Go.Sort.shiftUp lt b j d=if (!lt d[j]! d[j-1]!)=true then d else Go.Sort.shiftUp lt b (j+1) (Go.Sort.swp d j (j-1)):=by rw [Go.Sort.shiftUp,if_pos h]
  rw [e]
  have r50:(((j:Nat):Int)<(n:Int))=True:=eT (by omega)
  have r51:((j:Nat)<n)=True:=eT (by omega)
  have r52:((j:Nat)+1≤n)=True:=eT (by omega)
  have r53:(Dm fL d)[j]? =some (fL d[j]!):=zn fL d (by omega)
  have r60:(((j-1:Nat):Int)<(n:Int))=True:=eT (by omega)
  have r61:((j-1:Nat)<n)=True:=eT (by omega)
  have r62:((j-1:Nat)+1≤n)=True:=eT (by omega)
  have r63:(Dm fL d)[j-1]? =some (fL d[j-1]!):=zn fL d (by omega)
  have hsw:=z0h fL d j (j-1)
  cases hcc:lt d[j]! d[j-1]! with
  |true=>
   have hk0:(c d[j]! d[j-1]! <0)=True:=by rw [hlt] at hcc;simpa using hcc
   rw [if_neg (by simp)]
   generalize d[j]! =x at*
   generalize d[j-1]! =y at*
   simp only [go_sem,lp178_2,hlt2,hw,hs,r50,r51,r52,r53,r60,r61,r62,r63,hc,hk,hk0,hget,hpset,hlenD,nn_,lm_,List.length_set]
   refine ⟨(j+1,Go.Sort.swp d j (j-1)),by simp only [go_sem,z3,z4,z5,hsw]<;>rfl,?_,?_,fun x en s hq=> ?_⟩
   ·dsimp only;exact ⟨by omega,by omega,zl hsz⟩
   ·dsimp only;omega
   ·exact hq
  |false=>
   have hk0:(c d[j]! d[j-1]! <0)=False:=by rw [hlt] at hcc;simpa using hcc
   rw [if_pos (show (!false)=true from rfl)]
   generalize d[j]! =x at*
   generalize d[j-1]! =y at*
   simp only [go_sem,lp178_2,hlt2,hw,r50,r51,r52,r53,r60,r61,r62,r63,hc,hk,hk0,hget,hpset,hlenD,nn_,lm_,List.length_set]
 ·have hlt2:((j:Int)<(b:Int))=False:=eF (by omega)
  have e:Go.Sort.shiftUp lt b j d=d:=by rw [Go.Sort.shiftUp,if_neg h]
  rw [e]
  simp only [go_sem,lp178_2,hlt2]
theorem pis3l (X0:List (List AV))(a b:Nat)(hab:a<b)(hb:b≤n)(lo hi2:Nat)(s0:Nat)(i:Nat)(d:Array (LI))(hok:s0≤5∧a<i∧i≤b∧d.size=n)(env:Env)(st:St)
  (hg:gcAV false lo hi2 (canon env [0,1,2,3,9,10]) st=([(0,.rsl l 0 n n 1 ag),(1,J a),(2,J b),(3,.fn (.func k) [] caps),(9,J i),(10,J s0)],⟨put S0 l (Dm fL d) X0,T⟩)):
  ∃x_1 en s,lim (headed pure (run L) false [0,1,2,3,9,10] lp178_3 lo hi2) env st=some (x_1,en,s)∧(s=⟨put S0 l (Dm fL (Go.Sort.partialIns lt a b (5-s0) i d).1) X0,T⟩∧((x_1=.exit 0∧(Go.Sort.partialIns lt a b (5-s0) i d).2=false)∨(x_1=.ret∧en.get 8=B (Go.Sort.partialIns lt a b (5-s0) i d).2))):=by
 refine z9 (α:=Nat×Nat×Array (LI)) (fun ⟨s0,i,d⟩=>5-s0) (fun ⟨s0,i,d⟩=>s0≤5∧a<i∧i≤b∧d.size=n) (fun ⟨s0,i,d⟩=>([(0,.rsl l 0 n n 1 ag),(1,J a),(2,J b),(3,.fn (.func k) [] caps),(9,J i),(10,J s0)],⟨put S0 l (Dm fL d) X0,T⟩)) (fun ⟨s0,i,d⟩ x_1 en s=>s=⟨put S0 l (Dm fL (Go.Sort.partialIns lt a b (5-s0) i d).1) X0,T⟩∧((x_1=.exit 0∧(Go.Sort.partialIns lt a b (5-s0) i d).2=false)∨(x_1=.ret∧en.get 8=B (Go.Sort.partialIns lt a b (5-s0) i d).2))) (fun ⟨s0,i,d⟩ hok=> ?_) ⟨s0,i,d⟩ hok env st hg
 simp only at hok
 obtain ⟨h1,h2,h3,hsz⟩:=hok
 dsimp only at h1 h2 h3 hsz⊢
 by_cases h:s0<5
 ·have hlt2:((s0:Int)<5)=True:=eT (by omega)
  have hs:=ze s0 (by omega)
  have hin:=z74 lt d b _ i (Nat.le_refl _) h3
  have e:Go.Sort.partialIns lt a b (5-s0) i d=(if Go.Sort.scanSorted lt d b i=b then (d,true) else if b-a<50 then (d,false) else
    Go.Sort.partialIns lt a b (5-(s0+1)) (Go.Sort.scanSorted lt d b i) (if b-Go.Sort.scanSorted lt d b i≥2 then Go.Sort.shiftUp lt b (Go.Sort.scanSorted lt d b i+1) (if Go.Sort.scanSorted lt d b i-a≥2 then Go.Sort.shiftDown lt (Go.Sort.scanSorted lt d b i-1) (Go.Sort.swp d (Go.Sort.scanSorted lt d b i) (Go.Sort.scanSorted lt d b i-1)) else Go.Sort.swp d (Go.Sort.scanSorted lt d b i) (Go.Sort.scanSorted lt d b i-1)) else (if Go.Sort.scanSorted lt d b i-a≥2 then Go.Sort.shiftDown lt (Go.Sort.scanSorted lt d b i-1) (Go.Sort.swp d (Go.Sort.scanSorted lt d b i) (Go.Sort.scanSorted lt d b i-1)) else Go.Sort.swp d (Go.Sort.scanSorted lt d b i) (Go.Sort.scanSorted lt d b i-1)))):=by
   rw [show 5-s0=(5-(s0+1))+1 by omega];rfl
  rw [e]
  simp only [go_sem,lp178_3,hlt2]
  generalize hg:lim (headed pure (run L) false _ lp178_0 _ _) _ _=o
  obtain ⟨x,en,s,rfl,h2⟩: ∃x en s,o=some (x,en,s)∧_:=by rw [←hg];exact pis0l S0 T l hl n hn ag k hk caps c lt hlt hc X0 a b s0 hb d hsz _ _ i ⟨by omega,h3⟩ _ _ (by simp only [go_sem]<;>rfl)
  clear hg
  obtain ⟨rfl,e0,e1,e2,e3,e9,e10,rfl⟩:=h2
  generalize Go.Sort.scanSorted lt d b i=z at*
  by_cases p1:z=b
  ·subst p1
   have q1:((z:Int)=(z:Int))=True:=eT rfl
   rw [if_pos rfl]
   simp only [go_sem,lp178_3,e0,e1,e2,e3,e9,e10,q1]
  ·have q1:((z:Int)=(b:Int))=False:=eF (by omega)
   have hba:=z9p b a (by omega) (by omega)
   rw [if_neg p1]
   by_cases p2:b-a<50
   ·have q2:(((b-a:Nat):Int)<50)=True:=eT (by omega)
    rw [if_pos p2]
    simp only [go_sem,lp178_3,e0,e1,e2,e3,e9,e10,q1,hba,q2]
   ·have q2:(((b-a:Nat):Int)<50)=False:=eF (by omega)
    rw [if_neg p2]
    have hget:=fun C E=>zk hl C E
    have hpset:=fun C C' E=>zj hl C C' E
    have hlenD:(Dm fL d).length=n:=by rw [zr,hsz]
    have hw:=z0c z (by omega) (by omega)
    have hz1:=ze z (by omega)
    have hza:=z9p z a (by omega) (by omega)
    have hbz:=z9p b z (by omega) (by omega)
    have r70:(((z:Nat):Int)<(n:Int))=True:=eT (by omega)
    have r71:((z:Nat)<n)=True:=eT (by omega)
    have r72:((z:Nat)+1≤n)=True:=eT (by omega)
    have r73:(Dm fL d)[z]? =some (fL d[z]!):=zn fL d (by omega)
    have r80:(((z-1:Nat):Int)<(n:Int))=True:=eT (by omega)
    have r81:((z-1:Nat)<n)=True:=eT (by omega)
    have r82:((z-1:Nat)+1≤n)=True:=eT (by omega)
    have r83:(Dm fL d)[z-1]? =some (fL d[z-1]!):=zn fL d (by omega)
    have hsw:=z0h fL d z (z-1)
    have hsz2:=zl (i:=z) (j:=z-1) hsz
    generalize d[z]! =x at*
    generalize d[z-1]! =y at*
    generalize Go.Sort.swp d z (z-1)=d1 at*
    by_cases p3:z-a≥2
    ·have q3:((2:Int)≤((z-a:Nat):Int))=True:=eT (by omega)
     rw [if_pos p3]
     simp only [go_sem,lp178_3,e0,e1,e2,e3,e9,e10,q1,hba,q2,hw,hza,r70,r71,r72,r73,r80,r81,r82,r83,hsw,q3,hget,hpset,hlenD,nn_,lm_,List.length_set]
     generalize hg:lim (headed pure (run L) false _ lp178_1 _ _) _ _=o
     obtain ⟨x,en,s,rfl,h2⟩: ∃x en s,o=some (x,en,s)∧_:=by rw [←hg];exact pis1l S0 T l hl n hn ag k hk caps c lt hlt hc X0 a b z s0 _ _ (z-1) d1 ⟨by omega,hsz2⟩ _ _ (by simp only [go_sem,e0,e1,e2,e3,e9,e10]<;>rfl)
     clear hg
     clear e0 e1 e2 e3 e9 e10
     obtain ⟨rfl,e0,e1,e2,e3,e9,e10,rfl⟩:=h2
     have hsz3:(Go.Sort.shiftDown lt (z-1) d1).size=n:=by rw [z3s,hsz2]
     generalize Go.Sort.shiftDown lt (z-1) d1=d2 at*
     by_cases p4:b-z≥2
     ·have q4:((2:Int)≤((b-z:Nat):Int))=True:=eT (by omega)
      rw [if_pos p4]
      simp only [go_sem,lp178_3,e0,e1,e2,e3,e9,e10,hbz,q4,hz1]
      generalize hg:lim (headed pure (run L) false _ lp178_2 _ _) _ _=o
      obtain ⟨x,en,s,rfl,h2⟩: ∃x en s,o=some (x,en,s)∧_:=by rw [←hg];exact pis2l S0 T l hl n hn ag k hk caps c lt hlt hc X0 a b z s0 hb _ _ (z+1) d2 ⟨by omega,by omega,hsz3⟩ _ _ (by simp only [go_sem,e0,e1,e2,e3,e9,e10]<;>rfl)
      clear hg
      clear e0 e1 e2 e3 e9 e10
      obtain ⟨rfl,e0,e1,e2,e3,e9,e10,rfl⟩:=h2
      have hsz4:(Go.Sort.shiftUp lt b (z+1) d2).size=n:=by rw [z4r lt b _ _ _ (Nat.le_refl _),hsz3]
      generalize Go.Sort.shiftUp lt b (z+1) d2=d3 at*
      simp only [go_sem,lp178_3,e0,e1,e2,e3,e9,e10,hs]
      refine ⟨(s0+1,z,d3),by simp only [go_sem,z3,z4,z5,e0,e1,e2,e3,e9,e10]<;>rfl,?_,?_,fun x en s hq=> ?_⟩
      ·dsimp only;exact ⟨by omega,by omega,by omega,hsz4⟩
      ·dsimp only;omega
      ·exact hq
     ·have q4:((2:Int)≤((b-z:Nat):Int))=False:=eF (by omega)
      rw [if_neg p4]
      simp only [go_sem,lp178_3,e0,e1,e2,e3,e9,e10,hbz,q4,hs]
      refine ⟨(s0+1,z,d2),by simp only [go_sem,z3,z4,z5,e0,e1,e2,e3,e9,e10]<;>rfl,?_,?_,fun x en s hq=> ?_⟩
      ·dsimp only;exact ⟨by omega,by omega,by omega,hsz3⟩
      ·dsimp only;omega
      ·exact hq
    ·have q3:((2:Int)≤((z-a:Nat):Int))=False:=eF (by omega)
     rw [if_neg p3]
     by_cases p4:b-z≥2
     ·have q4:((2:Int)≤((b-z:Nat):Int))=True:=eT (by omega)
      rw [if_pos p4]
      simp only [go_sem,lp178_3,e0,e1,e2,e3,e9,e10,q1,hba,q2,hw,hza,r70,r71,r72,r73,r80,r81,r82,r83,hsw,q3,hbz,q4,hz1,hget,hpset,hlenD,nn_,lm_,List.length_set]
      generalize hg:lim (headed pure (run L) false _ lp178_2 _ _) _ _=o
      obtain ⟨x,en,s,rfl,h2⟩: ∃x en s,o=some (x,en,s)∧_:=by rw [←hg];exact pis2l S0 T l hl n hn ag k hk caps c lt hlt hc X0 a b z s0 hb _ _ (z+1) d1 ⟨by omega,by omega,hsz2⟩ _ _ (by simp only [go_sem,e0,e1,e2,e3,e9,e10]<;>rfl)
      clear hg
      clear e0 e1 e2 e3 e9 e10
      obtain ⟨rfl,e0,e1,e2,e3,e9,e10,rfl⟩:=h2
      have hsz4:(Go.Sort.shiftUp lt b (z+1) d1).size=n:=by rw [z4r lt b _ _ _ (Nat.le_refl _),hsz2]
      generalize Go.Sort.shiftUp lt b (z+1) d1=d3 at*
      simp only [go_sem,lp178_3,e0,e1,e2,e3,e9,e10,hs]
      refine ⟨(s0+1,z,d3),by simp only [go_sem,z3,z4,z5,e0,e1,e2,e3,e9,e10]<;>rfl,?_,?_,fun x en s hq=> ?_⟩
      ·dsimp only;exact ⟨by omega,by omega,by omega,hsz4⟩
      ·dsimp only;omega
      ·exact hq
     ·have q4:((2:Int)≤((b-z:Nat):Int))=False:=eF (by omega)
      rw [if_neg p4]
      simp only [go_sem,lp178_3,e0,e1,e2,e3,e9,e10,q1,hba,q2,hw,hza,r70,r71,r72,r73,r80,r81,r82,r83,hsw,q3,hbz,q4,hs,hget,hpset,hlenD,nn_,lm_,List.length_set]
      refine ⟨(s0+1,z,d1),by simp only [go_sem,z3,z4,z5,e0,e1,e2,e3,e9,e10]<;>rfl,?_,?_,fun x en s hq=> ?_⟩
      ·dsimp only;exact ⟨by omega,by omega,by omega,hsz2⟩
      ·dsimp only;omega
      ·exact hq
 ·have hlt2:((s0:Int)<5)=False:=eF (by omega)
  have e:Go.Sort.partialIns lt a b (5-s0) i d=(d,false):=by rw [show 5-s0=0 by omega];rfl
  rw [e]
  simp only [go_sem,lp178_3,hlt2]
theorem pisl (X0:List (List AV))(d:Array (LI))(hsz:d.size=n)(a b:Nat)(hab:a<b)(hb:b≤n):
  run L 178 [.rsl l 0 n n 1 ag,J a,J b,.fn (.func k) [] caps] ⟨put S0 l (Dm fL d) X0,T⟩=some (B (Go.Sort.partialInsertionSort lt d a b).2,⟨put S0 l (Dm fL (Go.Sort.partialInsertionSort lt d a b).1) X0,T⟩):=by
 rw [z6 (fn:=ir178) rfl rfl]
 have hs:=ze a (by omega)
 simp only [ir178,go_sem,hs]
 generalize hg:lim (headed pure (run L) false _ lp178_3 _ _) _ _=o
 obtain ⟨x,en,s,rfl,h2⟩: ∃x en s,o=some (x,en,s)∧_:=by rw [←hg];exact pis3l S0 T l hl n hn ag k hk caps c lt hlt hc X0 a b hab hb _ _ 0 (a+1) d ⟨by omega,by omega,by omega,hsz⟩ _ _ (by simp only [go_sem,Int.natCast_zero]<;>rfl)
 clear hg
 rw [show Go.Sort.partialIns lt a b (5-0) (a+1) d=Go.Sort.partialInsertionSort lt d a b from rfl] at h2
 obtain ⟨rfl,h2⟩:=h2
 rcases h2 with ⟨rfl,h3⟩ | ⟨rfl,h3⟩
 ·rw [h3]
  simp only [go_sem]
 ·simp only [go_sem,h3]
end
attribute [local go_sem] m_ x_ l_ k_ o_ t_ a_ s_ q_ b_ c_ u_ g_ zd zf zi z8 zh
section
variable (S0:List (List AV)) (T:List Nat) (l:Nat) (hl:l<S0.length) (n:Nat) (hn:n≤1000) (ag:Bool) (k:Nat) (hk:pure k=false) (caps:List AV) (c:LI→LI→Int) (lt:LI→LI→Bool) (hlt: ∀x y,lt x y=decide (c x y<0)) (hc: ∀x y X E,run L k (fL x::fL y::caps) ⟨put S0 l X E,T⟩=some (I (c x y),⟨put S0 l X E,T⟩))
include S0 T l hl n hn ag k hk caps c lt hlt hc
theorem sift0l (X0:List (List AV))(h first:Nat)(hF:first+h≤n)(lo hi2:Nat)(root:Nat)(d:Array (LI))(hok:root≤h∧d.size=n)(env:Env)(st:St)
  (hg:gcAV false lo hi2 (canon env [0,2,3,4,10]) st=([(0,.rsl l 0 n n 1 ag),(2,J h),(3,J first),(4,.fn (.func k) [] caps),(10,J root)],⟨put S0 l (Dm fL d) X0,T⟩)):
  ∃x_1 en s,lim (headed pure (run L) false [0,2,3,4,10] lp194_0 lo hi2) env st=some (x_1,en,s)∧((x_1=.exit 0∨x_1=.ret)∧s=⟨put S0 l (Dm fL (Go.Sort.siftDown lt h first root d)) X0,T⟩):=by
 refine z9 (α:=Nat×Array (LI)) (fun ⟨root,d⟩=>h-root) (fun ⟨root,d⟩=>root≤h∧d.size=n) (fun ⟨root,d⟩=>([(0,.rsl l 0 n n 1 ag),(2,J h),(3,J first),(4,.fn (.func k) [] caps),(10,J root)],⟨put S0 l (Dm fL d) X0,T⟩)) (fun ⟨root,d⟩ x_1 en s=>(x_1=.exit 0∨x_1=.ret)∧s=⟨put S0 l (Dm fL (Go.Sort.siftDown lt h first root d)) X0,T⟩) (fun ⟨root,d⟩ hok=> ?_) ⟨root,d⟩ hok env st hg
 simp only at hok
 obtain ⟨h1,hsz⟩:=hok
 dsimp only at h1 hsz⊢
 have hm:IntKind.i64.wrap (2*(root:Int))=((2*root:Nat):Int):=by rw [z0f]<;>omega
 have ha:=ze (2*root) (by omega)
 by_cases p:2*root+1≥h
 ·have e:Go.Sort.siftDown lt h first root d=d:=by rw [Go.Sort.siftDown,dif_pos p]
  rw [e]
  have q:((h:Int)≤((2*root+1:Nat):Int))=True:=eT (by omega)
  simp only [go_sem,lp194_0,hm,ha,q]
 ·have q:((h:Int)≤((2*root+1:Nat):Int))=False:=eF (by omega)
  have ha2:=ze (2*root+1) (by omega)
  have hfr:=zc7 first root (by omega)
  have hfc:=zc7 first (2*root+1) (by omega)
  have hfc1:=ze (first+(2*root+1)) (by omega)
  have hfc2:=zc7 first (2*root+2) (by omega)
  have hget:=fun C E=>zk hl C E
  have hpset:=fun C C' E=>zj hl C C' E
  have hlenD:(Dm fL d).length=n:=by rw [zr,hsz]
  have r10:(((first+root:Nat):Int)<(n:Int))=True:=eT (by omega)
  have r11:((first+root:Nat)<n)=True:=eT (by omega)
  have r12:((first+root:Nat)+1≤n)=True:=eT (by omega)
  have r13:(Dm fL d)[first+root]? =some (fL d[first+root]!):=zn fL d (by omega)
  have r20:(((first+(2*root+1):Nat):Int)<(n:Int))=True:=eT (by omega)
  have r21:((first+(2*root+1):Nat)<n)=True:=eT (by omega)
  have r22:((first+(2*root+1):Nat)+1≤n)=True:=eT (by omega)
  have r23:(Dm fL d)[first+(2*root+1)]? =some (fL d[first+(2*root+1)]!):=zn fL d (by omega)
  have hsw1:=z0h fL d (first+root) (first+(2*root+1))
  have hsz1:=zl (i:=first+root) (j:=first+(2*root+1)) hsz
  by_cases p2:2*root+1+1<h
  ·have q2:(((2*root+1+1:Nat):Int)<(h:Int))=True:=eT (by omega)
   have r30:(((first+(2*root+1)+1:Nat):Int)<(n:Int))=True:=eT (by omega)
   have r31:((first+(2*root+1)+1:Nat)<n)=True:=eT (by omega)
   have r32:((first+(2*root+1)+1:Nat)+1≤n)=True:=eT (by omega)
   have r33:(Dm fL d)[first+(2*root+1)+1]? =some (fL d[first+(2*root+1)+1]!):=zn fL d (by omega)
   have r40:(((first+(2*root+2):Nat):Int)<(n:Int))=True:=eT (by omega)
   have r41:((first+(2*root+2):Nat)<n)=True:=eT (by omega)
   have r42:((first+(2*root+2):Nat)+1≤n)=True:=eT (by omega)
   have r43:(Dm fL d)[first+(2*root+2)]? =some (fL d[first+(2*root+2)]!):=zn fL d (by omega)
   have hsw2:=z0h fL d (first+root) (first+(2*root+2))
   have hsz2:=zl (i:=first+root) (j:=first+(2*root+2)) hsz
   cases hcc:lt d[first+(2*root+1)]! d[first+(2*root+1)+1]! with
   |true=>
    have hk0:(c d[first+(2*root+1)]! d[first+(2*root+1)+1]! <0)=True:=by rw [hlt] at hcc;simpa using hcc
    cases hcd:lt d[first+root]! d[first+(2*root+2)]! with
    |true=>
     have hk1:(c d[first+root]! d[first+(2*root+2)]! <0)=True:=by rw [hlt] at hcd;simpa using hcd
     have e:Go.Sort.siftDown lt h first root d=Go.Sort.siftDown lt h first (2*root+2) (Go.Sort.swp d (first+root) (first+(2*root+2))):=by
      rw [Go.Sort.siftDown,dif_neg p,if_pos (by rw [hcc];simp;omega),if_neg (by rw [hcd];simp),dif_pos (by omega)]
     rw [e]
     generalize d[first+root]! =x at*
     generalize d[first+(2*root+1)]! =y at*
     generalize d[first+(2*root+1)+1]! =z at*
     generalize d[first+(2*root+2)]! =w at*
     generalize Go.Sort.swp d (first+root) (first+(2*root+2))=d1 at*
     simp only [go_sem,lp194_0,hm,ha,q,ha2,q2,hfr,hfc,hfc1,show 2*root+1+1=2*root+2 from rfl,hfc2,r10,r11,r12,r13,r20,r21,r22,r23,r30,r31,r32,r33,r40,r41,r42,r43,hc,hk,hk0,hk1,hsw2,hget,hpset,hlenD,nn_,lm_,List.length_set]
     refine ⟨(2*root+2,d1),by simp only [go_sem,z3,z4,z5]<;>rfl,?_,?_,fun x en s hq=> ?_⟩
     ·dsimp only;exact ⟨by omega,hsz2⟩
     ·dsimp only;omega
     ·exact hq
    |false=>
     have hk1:(c d[first+root]! d[first+(2*root+2)]! <0)=False:=by rw [hlt] at hcd;simpa using hcd
     have e:Go.Sort.siftDown lt h first root d=d:=by
      rw [Go.Sort.siftDown,dif_neg p,if_pos (by rw [hcc];simp;omega),if_pos (by rw [hcd];rfl)]
     rw [e]
     generalize d[first+root]! =x at*
     generalize d[first+(2*root+1)]! =y at*
     generalize d[first+(2*root+1)+1]! =z at*
     generalize d[first+(2*root+2)]! =w at*
     simp only [go_sem,lp194_0,hm,ha,q,ha2,q2,hfr,hfc,hfc1,show 2*root+1+1=2*root+2 from rfl,hfc2,r10,r11,r12,r13,r20,r21,r22,r23,r30,r31,r32,r33,r40,r41,r42,r43,hc,hk,hk0,hk1,hget,hpset,hlenD,nn_,lm_,List.length_set]
   |false=>
    have hk0:(c d[first+(2*root+1)]! d[first+(2*root+1)+1]! <0)=False:=by rw [hlt] at hcc;simpa using hcc
    cases hcd:lt d[first+root]! d[first+(2*root+1)]! with
    |true=>
     have hk1:(c d[first+root]! d[first+(2*root+1)]! <0)=True:=by rw [hlt] at hcd;simpa using hcd
     have e:Go.Sort.siftDown lt h first root d=Go.Sort.siftDown lt h first (2*root+1) (Go.Sort.swp d (first+root) (first+(2*root+1))):=by
      rw [Go.Sort.siftDown,dif_neg p,if_neg (by rw [hcc];simp),if_neg (by rw [hcd];simp)]
     rw [e]
     generalize d[first+root]! =x at*
     generalize d[first+(2*root+1)]! =y at*
     generalize d[first+(2*root+1)+1]! =z at*
     generalize Go.Sort.swp d (first+root) (first+(2*root+1))=d1 at*
     simp only [go_sem,lp194_0,hm,ha,q,ha2,q2,hfr,hfc,hfc1,r10,r11,r12,r13,r20,r21,r22,r23,r30,r31,r32,r33,hc,hk,hk0,hk1,hsw1,hget,hpset,hlenD,nn_,lm_,List.length_set]
     refine ⟨(2*root+1,d1),by simp only [go_sem,z3,z4,z5]<;>rfl,?_,?_,fun x en s hq=> ?_⟩
     ·dsimp only;exact ⟨by omega,hsz1⟩
     ·dsimp only;omega
     ·exact hq
    |false=>
     have hk1:(c d[first+root]! d[first+(2*root+1)]! <0)=False:=by rw [hlt] at hcd;simpa using hcd
     have e:Go.Sort.siftDown lt h first root d=d:=by
      rw [Go.Sort.siftDown,dif_neg p,if_neg (by rw [hcc];simp),if_pos (by rw [hcd];rfl)]
     rw [e]
     generalize d[first+root]! =x at*
     generalize d[first+(2*root+1)]! =y at*
     generalize d[first+(2*root+1)+1]! =z at*
     simp only [go_sem,lp194_0,hm,ha,q,ha2,q2,hfr,hfc,hfc1,r10,r11,r12,r13,r20,r21,r22,r23,r30,r31,r32,r33,hc,hk,hk0,hk1,hget,hpset,hlenD,nn_,lm_,List.length_set]
  ·have q2:(((2*root+1+1:Nat):Int)<(h:Int))=False:=eF (by omega)
   cases hcd:lt d[first+root]! d[first+(2*root+1)]! with
   |true=>
    have hk1:(c d[first+root]! d[first+(2*root+1)]! <0)=True:=by rw [hlt] at hcd;simpa using hcd
    have e:Go.Sort.siftDown lt h first root d=Go.Sort.siftDown lt h first (2*root+1) (Go.Sort.swp d (first+root) (first+(2*root+1))):=by
     rw [Go.Sort.siftDown,dif_neg p,if_neg (by simp;omega),if_neg (by rw [hcd];simp)]
    rw [e]
    generalize d[first+root]! =x at*
    generalize d[first+(2*root+1)]! =y at*
    generalize Go.Sort.swp d (first+root) (first+(2*root+1))=d1 at*
    simp only [go_sem,lp194_0,hm,ha,q,ha2,q2,hfr,hfc,r10,r11,r12,r13,r20,r21,r22,r23,hc,hk,hk1,hsw1,hget,hpset,hlenD,nn_,lm_,List.length_set]
    refine ⟨(2*root+1,d1),by simp only [go_sem,z3,z4,z5]<;>rfl,?_,?_,fun x en s hq=> ?_⟩
    ·dsimp only;exact ⟨by omega,hsz1⟩
    ·dsimp only;omega
    ·exact hq
   |false=>
    have hk1:(c d[first+root]! d[first+(2*root+1)]! <0)=False:=by rw [hlt] at hcd;simpa using hcd
    have e:Go.Sort.siftDown lt h first root d=d:=by
     rw [Go.Sort.siftDown,dif_neg p,if_neg (by simp;omega),if_pos (by rw [hcd];rfl)]
    rw [e]
    generalize d[first+root]! =x at*
    generalize d[first+(2*root+1)]! =y at*
    simp only [go_sem,lp194_0,hm,ha,q,ha2,q2,hfr,hfc,r10,r11,r12,r13,r20,r21,r22,r23,hc,hk,hk1,hget,hpset,hlenD,nn_,lm_,List.length_set]
theorem siftl (X0:List (List AV))(h first root:Nat)(hF:first+h≤n)(hr:root≤h)(d:Array (LI))(hsz:d.size=n):
  run L 194 [.rsl l 0 n n 1 ag,J root,J h,J first,.fn (.func k) [] caps] ⟨put S0 l (Dm fL d) X0,T⟩=some (.tup [],⟨put S0 l (Dm fL (Go.Sort.siftDown lt h first root d)) X0,T⟩):=by
 rw [z6 (fn:=ir194) rfl rfl]
 simp only [ir194,go_sem]
 generalize hg:lim (headed pure (run L) false _ lp194_0 _ _) _ _=o
 obtain ⟨x,en,s,rfl,h2⟩: ∃x en s,o=some (x,en,s)∧_:=by rw [←hg];exact sift0l S0 T l hl n hn ag k hk caps c lt hlt hc X0 h first hF _ _ root d ⟨hr,hsz⟩ _ _ (by simp only [go_sem]<;>rfl)
 clear hg
 obtain ⟨h2|h2,rfl⟩:=h2
 ·subst h2
  simp only [go_sem]
 ·subst h2
  simp only [go_sem]
theorem heap0l (X0:List (List AV))(h first:Nat)(hF:first+h≤n)(lo hi2:Nat)(k0:Nat)(d:Array (LI))(hok:k0≤h∧d.size=n)(env:Env)(st:St)
  (hg:gcAV false lo hi2 (canon env [0,3,8,9,10,11]) st=([(0,.rsl l 0 n n 1 ag),(3,.fn (.func k) [] caps),(8,J first),(9,I 0),(10,J h),(11,I ((k0:Int)-1))],⟨put S0 l (Dm fL d) X0,T⟩)):
  ∃x_1 en s,lim (headed pure (run L) false [0,3,8,9,10,11] lp174_0 lo hi2) env st=some (x_1,en,s)∧(x_1=.exit 0∧en.get 0=.rsl l 0 n n 1 ag∧en.get 3=.fn (.func k) [] caps∧en.get 8=J first∧en.get 9=I 0∧en.get 10=J h∧s=⟨put S0 l (Dm fL (Go.Sort.heapBuild lt h first k0 d)) X0,T⟩):=by
 refine z9 (α:=Nat×Array (LI)) (fun ⟨k0,d⟩=>k0) (fun ⟨k0,d⟩=>k0≤h∧d.size=n) (fun ⟨k0,d⟩=>([(0,.rsl l 0 n n 1 ag),(3,.fn (.func k) [] caps),(8,J first),(9,I 0),(10,J h),(11,I ((k0:Int)-1))],⟨put S0 l (Dm fL d) X0,T⟩)) (fun ⟨k0,d⟩ x_1 en s=>x_1=.exit 0∧en.get 0=.rsl l 0 n n 1 ag∧en.get 3=.fn (.func k) [] caps∧en.get 8=J first∧en.get 9=I 0∧en.get 10=J h∧s=⟨put S0 l (Dm fL (Go.Sort.heapBuild lt h first k0 d)) X0,T⟩) (fun ⟨k0,d⟩ hok=> ?_) ⟨k0,d⟩ hok env st hg
 simp only at hok
 obtain ⟨h1,hsz⟩:=hok
 dsimp only at h1 hsz⊢
 cases k0 with
 |zero=>
  have q:((0:Int)≤((0:Nat):Int)-1)=False:=eF (by omega)
  simp only [go_sem,lp174_0,q]
  rfl
 |succ m=>
  have e:Go.Sort.heapBuild lt h first (m+1) d=Go.Sort.heapBuild lt h first m (Go.Sort.siftDown lt h first m d):=rfl
  rw [e]
  have hm:(((m+1:Nat):Int)-1)=(m:Int):=by omega
  have q:((0:Int)≤(m:Int))=True:=eT (by omega)
  have hw:IntKind.i64.wrap ((m:Int)-1)=(m:Int)-1:=by rw [z0f]<;>omega
  have hs:=siftl S0 T l hl n hn ag k hk caps c lt hlt hc X0 h first m hF (by omega) d hsz
  have hsz1:(Go.Sort.siftDown lt h first m d).size=n:=by rw [z1i lt h first _ _ _ (Nat.le_refl _),hsz]
  generalize Go.Sort.siftDown lt h first m d=d1 at*
  simp only [go_sem,lp174_0,hm,q,hs,hw]
  refine ⟨(m,d1),by simp only [go_sem,z3,z4,z5]<;>rfl,?_,?_,fun x en s hq=> ?_⟩
  ·dsimp only;exact ⟨by omega,hsz1⟩
  ·dsimp only;omega
  ·exact hq
theorem heap1l (X0:List (List AV))(h first:Nat)(hF:first+h≤n)(lo hi2:Nat)(k0:Nat)(d:Array (LI))(hok:k0≤h∧d.size=n)(env:Env)(st:St)
  (hg:gcAV false lo hi2 (canon env [0,3,8,9,12]) st=([(0,.rsl l 0 n n 1 ag),(3,.fn (.func k) [] caps),(8,J first),(9,I 0),(12,I ((k0:Int)-1))],⟨put S0 l (Dm fL d) X0,T⟩)):
  ∃x_1 en s,lim (headed pure (run L) false [0,3,8,9,12] lp174_1 lo hi2) env st=some (x_1,en,s)∧(x_1=.exit 2∧s=⟨put S0 l (Dm fL (Go.Sort.heapPop lt first k0 d)) X0,T⟩):=by
 refine z9 (α:=Nat×Array (LI)) (fun ⟨k0,d⟩=>k0) (fun ⟨k0,d⟩=>k0≤h∧d.size=n) (fun ⟨k0,d⟩=>([(0,.rsl l 0 n n 1 ag),(3,.fn (.func k) [] caps),(8,J first),(9,I 0),(12,I ((k0:Int)-1))],⟨put S0 l (Dm fL d) X0,T⟩)) (fun ⟨k0,d⟩ x_1 en s=>x_1=.exit 2∧s=⟨put S0 l (Dm fL (Go.Sort.heapPop lt first k0 d)) X0,T⟩) (fun ⟨k0,d⟩ hok=> ?_) ⟨k0,d⟩ hok env st hg
 simp only at hok
 obtain ⟨h1,hsz⟩:=hok
 dsimp only at h1 hsz⊢
 cases k0 with
 |zero=>
  have q:((0:Int)≤((0:Nat):Int)-1)=False:=eF (by omega)
  simp only [go_sem,lp174_1,q]
  rfl
 |succ m=>
  have e:Go.Sort.heapPop lt first (m+1) d=Go.Sort.heapPop lt first m (Go.Sort.siftDown lt m first 0 (Go.Sort.swp d first (first+m))):=rfl
  rw [e]
  have hm:(((m+1:Nat):Int)-1)=(m:Int):=by omega
  have q:((0:Int)≤(m:Int))=True:=eT (by omega)
  have hw:IntKind.i64.wrap ((m:Int)-1)=(m:Int)-1:=by rw [z0f]<;>omega
  have ha:=zc7 first m (by omega)
  have hget:=fun C E=>zk hl C E
  have hpset:=fun C C' E=>zj hl C C' E
  have hlenD:(Dm fL d).length=n:=by rw [zr,hsz]
  have r50:(((first:Nat):Int)<(n:Int))=True:=eT (by omega)
  have r51:((first:Nat)<n)=True:=eT (by omega)
  have r52:((first:Nat)+1≤n)=True:=eT (by omega)
  have r53:(Dm fL d)[first]? =some (fL d[first]!):=zn fL d (by omega)
  have r60:(((first+m:Nat):Int)<(n:Int))=True:=eT (by omega)
  have r61:((first+m:Nat)<n)=True:=eT (by omega)
  have r62:((first+m:Nat)+1≤n)=True:=eT (by omega)
  have r63:(Dm fL d)[first+m]? =some (fL d[first+m]!):=zn fL d (by omega)
  have hsw:=z0h fL d first (first+m)
  have hsz0:=zl (i:=first) (j:=first+m) hsz
  generalize d[first]! =x at*
  generalize d[first+m]! =y at*
  generalize Go.Sort.swp d first (first+m)=d0 at*
  have hs:run L 194 [.rsl l 0 n n 1 ag,I 0,J m,J first,.fn (.func k) [] caps] ⟨put S0 l (Dm fL d0) X0,T⟩=some (.tup [],⟨put S0 l (Dm fL (Go.Sort.siftDown lt m first 0 d0)) X0,T⟩):=siftl S0 T l hl n hn ag k hk caps c lt hlt hc X0 m first 0 (by omega) (by omega) d0 hsz0
  have hsz1:(Go.Sort.siftDown lt m first 0 d0).size=n:=by rw [z1i lt m first _ _ _ (Nat.le_refl _),hsz0]
  generalize Go.Sort.siftDown lt m first 0 d0=d1 at*
  simp only [go_sem,lp174_1,hm,q,ha,r50,r51,r52,r53,r60,r61,r62,r63,hsw,hs,hw,hget,hpset,hlenD,nn_,lm_,List.length_set]
  refine ⟨(m,d1),by simp only [go_sem,z3,z4,z5]<;>rfl,?_,?_,fun x en s hq=> ?_⟩
  ·dsimp only;exact ⟨by omega,hsz1⟩
  ·dsimp only;omega
  ·exact hq
theorem heapl (X0:List (List AV))(d:Array (LI))(hsz:d.size=n)(a b:Nat)(hab:a<b)(hb:b≤n):
  run L 174 [.rsl l 0 n n 1 ag,J a,J b,.fn (.func k) [] caps] ⟨put S0 l (Dm fL d) X0,T⟩=some (.tup [],⟨put S0 l (Dm fL (Go.Sort.heapSort lt d a b)) X0,T⟩):=by
 rw [z6 (fn:=ir174) rfl rfl]
 have hw:=z9p b a (by omega) (by omega)
 have hw1:=z0c (b-a) (by omega) (by omega)
 have hq:IntKind.i64.wrap (Int.tdiv ((b-a-1:Nat):Int) 2)=(((b-a-1) / 2+1:Nat):Int)-1:=by
  rw [show ((((b-a-1) / 2+1:Nat):Int)-1)=(((b-a-1) / 2:Nat):Int) by omega]
  exact zl2 (b-a-1) 2 (by omega) (by omega)
 have hz0:Go.Sort.heapSort lt d a b=Go.Sort.heapPop lt a (b-a) (Go.Sort.heapBuild lt (b-a) a ((b-a-1) / 2+1) d):=rfl
 have hsz2:(Go.Sort.heapBuild lt (b-a) a ((b-a-1) / 2+1) d).size=n:=by rw [z5e,hsz]
 simp only [ir174,go_sem,hw,hw1,hq]
 generalize hg:lim (headed pure (run L) false _ lp174_0 _ _) _ _=o
 obtain ⟨x,en,s,rfl,h2⟩: ∃x en s,o=some (x,en,s)∧_:=by rw [←hg];exact heap0l S0 T l hl n hn ag k hk caps c lt hlt hc X0 (b-a) a (by omega) _ _ ((b-a-1) / 2+1) d ⟨by omega,hsz⟩ _ _ (by simp only [go_sem]<;>rfl)
 clear hg
 obtain ⟨rfl,e0,e3,e8,e9,e10,rfl⟩:=h2
 rw [hz0]
 generalize Go.Sort.heapBuild lt (b-a) a ((b-a-1) / 2+1) d=d1 at*
 have hw2:IntKind.i64.wrap (((b-a:Nat):Int)-1)=((b-a:Nat):Int)-1:=by rw [z0f]<;>omega
 simp only [go_sem,e0,e3,e8,e9,e10,hw2]
 generalize hg:lim (headed pure (run L) false _ lp174_1 _ _) _ _=o
 obtain ⟨x,en,s,rfl,h2⟩: ∃x en s,o=some (x,en,s)∧_:=by rw [←hg];exact heap1l S0 T l hl n hn ag k hk caps c lt hlt hc X0 (b-a) a (by omega) _ _ (b-a) d1 ⟨Nat.le_refl _,hsz2⟩ _ _ (by simp only [go_sem,e0,e3,e8,e9,e10]<;>rfl)
 clear hg
 obtain ⟨rfl,rfl⟩:=h2
 simp only [go_sem]
end
attribute [local go_sem] m_ x_ l_ k_ o_ t_ a_ s_ q_ b_ c_ u_ g_ zd zf zi z8 zh
def brkNl (a len md:Nat):Nat→Nat→UInt64×Array (LI)→UInt64×Array (LI)
 |0,_,st=>st
 |k+1,idx,st=>brkNl a len md k (idx+1) (Go.Sort.breakStep a len md st idx)
theorem brk0l (S0:List (List AV))(T:List Nat)(l:Nat)(hl:l<S0.length)(n:Nat)(hn:n≤1000)(ag:Bool)(X0:List (List AV))(a len q md i0:Nat)(hq:q=len / 4)(hi0:i0=a+q*2-1)(h8:13≤len)(hal:a+len≤n)(hmd:md≤2*len)(hm0:0<md)(lo hi2:Nat)(j:Nat)(r:UInt64)(d:Array (LI))(hok:j≤3∧d.size=n)(env:Env)(st:St)
  (hg:gcAV false lo hi2 (canon env [0,1,8,9,10,11]) st=([(0,.rsl l 0 n n 1 ag),(1,J a),(8,J len),(9,.ptr (S0.length+X0.length) 0),(10,U md),(11,J (i0+j))],⟨put S0 l (Dm fL d) (X0++ [[U r.toNat]]),T⟩)):
  ∃x_1 en s,lim (headed pure (run L) false [0,1,8,9,10,11] lp175_0 lo hi2) env st=some (x_1,en,s)∧(x_1=.exit 0∧∃z:Nat,s=⟨put S0 l (Dm fL (brkNl a len md (3-j) (i0+j) (r,d)).2) (X0++ [[U z]]),T⟩):=by
 refine z9 (α:=Nat×UInt64×Array (LI)) (fun ⟨j,r,d⟩=>3-j) (fun ⟨j,r,d⟩=>j≤3∧d.size=n) (fun ⟨j,r,d⟩=>([(0,.rsl l 0 n n 1 ag),(1,J a),(8,J len),(9,.ptr (S0.length+X0.length) 0),(10,U md),(11,J (i0+j))],⟨put S0 l (Dm fL d) (X0++ [[U r.toNat]]),T⟩)) (fun ⟨j,r,d⟩ x_1 en s=>x_1=.exit 0∧∃z:Nat,s=⟨put S0 l (Dm fL (brkNl a len md (3-j) (i0+j) (r,d)).2) (X0++ [[U z]]),T⟩) (fun ⟨j,r,d⟩ hok=> ?_) ⟨j,r,d⟩ hok env st hg
 simp only at hok
 obtain ⟨h1,hsz⟩:=hok
 dsimp only at h1 hsz⊢
 have hqj:IntKind.i64.wrap (Int.tdiv (len:Int) 4)=((q:Nat):Int):=by rw [hq];exact zl2 len 4 (by omega) (by omega)
 have hm2:IntKind.i64.wrap ((q:Int)*2)=((q*2:Nat):Int):=by rw [z0f]<;>omega
 have ha2:=zc7 a (q*2) (by omega)
 have ha3:=ze (a+q*2) (by omega)
 by_cases h:j<3
 ·have hle:(((i0+j:Nat):Int)≤((a+q*2+1:Nat):Int))=True:=eT (by omega)
  have hs:=ze (i0+j) (by omega)
  have hpl:=fun C B=>z5b (S0:=S0) (l:=l) C X0 B
  have hps:=fun C B B'=>z86 (S0:=S0) (l:=l) C X0 B B'
  have hll:=fun C B=>z7q (S0:=S0) (l:=l) C (X0++ [B])
  have h183:=fun C=>c183 (put S0 l C (X0++ [[U r.toNat]])) T (S0.length+X0.length) (by rw [z7q];simp) r (z5b C X0 _)
  rw [show 3-j=(3-(j+1))+1 by omega]
  have e:brkNl a len md (3-(j+1)+1) (i0+j) (r,d)=brkNl a len md (3-(j+1)) (i0+j+1) (Go.Sort.breakStep a len md (r,d) (i0+j)):=rfl
  rw [e]
  have e2:Go.Sort.breakStep a len md (r,d) (i0+j)=(Go.Sort.xorNext r,Go.Sort.swp d (i0+j) (a+(if (Go.Sort.xorNext r).toNat&&&(md-1)≥len then ((Go.Sort.xorNext r).toNat&&&(md-1))-len else (Go.Sort.xorNext r).toNat&&&(md-1)))):=rfl
  rw [e2]
  have hsub:IntKind.u64.wrap ((md:Int)-1)=((md-1:Nat):Int):=by
   have:=z8i (md-1) (by omega)
   rw [←this];congr 1;omega
  have hand:binAV .and none (U (Go.Sort.xorNext r).toNat) (U (md-1))=some (U ((Go.Sort.xorNext r).toNat&&&(md-1))):=by
   rw [zkz]
   unfold andN
   rw [Nat.mod_eq_of_lt (UInt64.toNat_lt _),Nat.mod_eq_of_lt (by omega)]
  have hol:(Go.Sort.xorNext r).toNat&&&(md-1)≤md-1:=Nat.and_le_right
  generalize Go.Sort.xorNext r=r1 at*
  generalize (r1.toNat&&&(md-1))=ot at*
  have hcv:IntKind.i64.wrap (ot:Int)=ot:=by rw [z0f]<;>omega
  have hget:=fun C E=>zk hl C E
  have hpset:=fun C C' E=>zj hl C C' E
  have hlenD:(Dm fL d).length=n:=by rw [zr,hsz]
  by_cases p:ot≥len
  ·have q1:((len:Int)≤(ot:Int))=True:=eT (by omega)
   have hsu:=z9p ot len (by omega) (by omega)
   have haa:=zc7 a (ot-len) (by omega)
   rw [if_pos p]
   have r10:(((i0+j:Nat):Int)<(n:Int))=True:=eT (by omega)
   have r11:((i0+j:Nat)<n)=True:=eT (by omega)
   have r12:((i0+j:Nat)+1≤n)=True:=eT (by omega)
   have r13:(Dm fL d)[i0+j]? =some (fL d[i0+j]!):=zn fL d (by omega)
   have r20:(((a+(ot-len):Nat):Int)<(n:Int))=True:=eT (by omega)
   have r21:((a+(ot-len):Nat)<n)=True:=eT (by omega)
   have r22:((a+(ot-len):Nat)+1≤n)=True:=eT (by omega)
   have r23:(Dm fL d)[a+(ot-len)]? =some (fL d[a+(ot-len)]!):=zn fL d (by omega)
   have hsw:=z0h fL d (i0+j) (a+(ot-len))
   have hsz1:=zl (i:=i0+j) (j:=a+(ot-len)) hsz
   generalize d[i0+j]! =x at*
   generalize d[a+(ot-len)]! =y at*
   generalize Go.Sort.swp d (i0+j) (a+(ot-len))=d1 at*
   simp only [go_sem,lp175_0,hqj,hm2,ha2,ha3,hle,h183,hps,hsub,hand,hcv,q1,hsu,haa,r10,r11,r12,r13,r20,r21,r22,r23,hsw,hs,hget,hpset,hlenD,nn_,lm_,List.length_set]
   refine ⟨(j+1,r1,d1),by simp only [go_sem,z3,z4,z5]<;>rfl,?_,?_,fun x en s hq=> ?_⟩
   ·dsimp only;exact ⟨by omega,hsz1⟩
   ·dsimp only;omega
   ·exact hq
  ·have q1:((len:Int)≤(ot:Int))=False:=eF (by omega)
   have haa:=zc7 a ot (by omega)
   rw [if_neg p]
   have r30:(((i0+j:Nat):Int)<(n:Int))=True:=eT (by omega)
   have r31:((i0+j:Nat)<n)=True:=eT (by omega)
   have r32:((i0+j:Nat)+1≤n)=True:=eT (by omega)
   have r33:(Dm fL d)[i0+j]? =some (fL d[i0+j]!):=zn fL d (by omega)
   have r40:(((a+ot:Nat):Int)<(n:Int))=True:=eT (by omega)
   have r41:((a+ot:Nat)<n)=True:=eT (by omega)
   have r42:((a+ot:Nat)+1≤n)=True:=eT (by omega)
   have r43:(Dm fL d)[a+ot]? =some (fL d[a+ot]!):=zn fL d (by omega)
   have hsw:=z0h fL d (i0+j) (a+ot)
   have hsz1:=zl (i:=i0+j) (j:=a+ot) hsz
   generalize d[i0+j]! =x at*
   generalize d[a+ot]! =y at*
   generalize Go.Sort.swp d (i0+j) (a+ot)=d1 at*
   simp only [go_sem,lp175_0,hqj,hm2,ha2,ha3,hle,h183,hps,hsub,hand,hcv,q1,haa,r30,r31,r32,r33,r40,r41,r42,r43,hsw,hs,hget,hpset,hlenD,nn_,lm_,List.length_set]
   refine ⟨(j+1,r1,d1),by simp only [go_sem,z3,z4,z5]<;>rfl,?_,?_,fun x en s hq=> ?_⟩
   ·dsimp only;exact ⟨by omega,hsz1⟩
   ·dsimp only;omega
   ·exact hq
 ·have hle:(((i0+j:Nat):Int)≤((a+q*2+1:Nat):Int))=False:=eF (by omega)
  rw [show 3-j=0 by omega]
  simp only [go_sem,lp175_0,hqj,hm2,ha2,ha3,hle]
  exact ⟨_,rfl⟩
theorem brkl (S0:List (List AV))(T:List Nat)(l:Nat)(hl:l<S0.length)(n:Nat)(hn:n≤1000)(ag:Bool)(k:Nat)(caps:List AV)(X0:List (List AV))(d:Array (LI))(hsz:d.size=n)(a b:Nat)(hab:a+13≤b)(hb:b≤n)(hb2:b-a<256):
  ∃z:Nat,run L 175 [.rsl l 0 n n 1 ag,J a,J b,.fn (.func k) [] caps] ⟨put S0 l (Dm fL d) X0,T⟩=some (.tup [],⟨put S0 l (Dm fL (Go.Sort.breakPatterns d a b)) (X0++ [[U z]]),T⟩):=by
 rw [z6 (fn:=ir175) rfl rfl]
 have hw:=z9p b a (by omega) (by omega)
 obtain ⟨len,hlen⟩: ∃len,len=b-a:=⟨_,rfl⟩
 rw [←hlen] at hw
 have q8:((8:Int)≤(len:Int))=True:=eT (by omega)
 have hqj:IntKind.i64.wrap (Int.tdiv (len:Int) 4)=((len / 4:Nat):Int):=zl2 len 4 (by omega) (by omega)
 obtain ⟨q,hqd⟩: ∃q,q=len / 4:=⟨_,rfl⟩
 rw [←hqd] at hqj
 have hm2:IntKind.i64.wrap ((q:Int)*2)=((q*2:Nat):Int):=by rw [z0f]<;>omega
 have ha2:=zc7 a (q*2) (by omega)
 have ha3:=z0c (a+q*2) (by omega) (by omega)
 have h182:=fun st=>c182 len (by omega) st
 have hmd:=Go.Sort.two_pow_bitsLen_le (n:=len) (by omega)
 have hcv:IntKind.u64.wrap (len:Int)=((UInt64.ofNat len).toNat:Int):=by
  rw [z8i len (by omega),UInt64.toNat_ofNat',Nat.mod_eq_of_lt (by omega)]
 have e:Go.Sort.breakPatterns d a b=(brkNl a len (2^Go.Sort.bitsLen len) 3 (a+q*2-1) (UInt64.ofNat len,d)).2:=by
  unfold Go.Sort.breakPatterns
  dsimp only
  rw [←hlen,if_pos (by omega),←hqd,Nat.one_shiftLeft]
  rfl
 rw [e]
 have hp:=Nat.two_pow_pos (Go.Sort.bitsLen len)
 generalize 2^Go.Sort.bitsLen len=md at*
 have hll:=fun C=>z7q (S0:=S0) (l:=l) C X0
 have hsn:=fun C B=>zap (S0:=S0) (l:=l) C X0 B
 have hpl:=fun C B=>z5b (S0:=S0) (l:=l) C X0 B
 have hps:=fun C B B'=>z86 (S0:=S0) (l:=l) C X0 B B'
 simp only [ir175,go_sem,hw,q8,hqj,hm2,ha2,ha3,h182,hcv,hll,hsn,hpl,hps]
 generalize hg:lim (headed pure (run L) false _ lp175_0 _ _) _ _=o
 obtain ⟨x,en,s,rfl,h2⟩: ∃x en s,o=some (x,en,s)∧_:=by rw [←hg];exact brk0l S0 T l hl n hn ag X0 a len q md (a+q*2-1) hqd rfl (by omega) (by omega) hmd hp _ _ 0 (UInt64.ofNat len) d ⟨by omega,hsz⟩ _ _ (by simp only [go_sem]<;>rfl)
 clear hg
 obtain ⟨rfl,z,rfl⟩:=h2
 refine ⟨z,?_⟩
 simp only [go_sem]
attribute [local go_sem] m_ x_ l_ k_ o_ t_ a_ s_ q_ b_ c_ u_ g_ zd zf zi z8 zh
section
variable (S0:List (List AV)) (T:List Nat) (l:Nat) (hl:l<S0.length) (n:Nat) (hn:n≤1000) (ag:Bool) (k:Nat) (hk:pure k=false) (caps:List AV) (c:LI→LI→Int) (lt:LI→LI→Bool) (hlt: ∀x y,lt x y=decide (c x y<0)) (hc: ∀x y X E,run L k (fL x::fL y::caps) ⟨put S0 l X E,T⟩=some (I (c x y),⟨put S0 l X E,T⟩))
include S0 T l hl n hn ag k hk caps c lt hlt hc
theorem par0l (X0:List (List AV))(a j:Nat)(ha:a<n)(hoth:j<n)(d:Array (LI))(hsz:d.size=n)(lo hi2:Nat)(i:Nat)(hok:0<i∧i≤j+1)(env:Env)(st:St)
  (hg:gcAV false lo hi2 (canon env [0,1,4,12,13]) st=([(0,.rsl l 0 n n 1 ag),(1,J a),(4,.fn (.func k) [] caps),(12,J i),(13,J j)],⟨put S0 l (Dm fL d) X0,T⟩)):
  ∃x_1 en s,lim (headed pure (run L) false [0,1,4,12,13] lp180_0 lo hi2) env st=some (x_1,en,s)∧(x_1=.exit 0∧en.get 0=.rsl l 0 n n 1 ag∧en.get 1=J a∧en.get 4=.fn (.func k) [] caps∧en.get 12=J (Go.Sort.scanUp (fun x=>lt x d[a]!) d j i)∧en.get 13=J j∧s=⟨put S0 l (Dm fL d) X0,T⟩):=by
 refine z9 (α:=Nat) (fun i=>j+1-i) (fun i=>0<i∧i≤j+1) (fun i=>([(0,.rsl l 0 n n 1 ag),(1,J a),(4,.fn (.func k) [] caps),(12,J i),(13,J j)],⟨put S0 l (Dm fL d) X0,T⟩)) (fun i x_1 en s=>x_1=.exit 0∧en.get 0=.rsl l 0 n n 1 ag∧en.get 1=J a∧en.get 4=.fn (.func k) [] caps∧en.get 12=J (Go.Sort.scanUp (fun x=>lt x d[a]!) d j i)∧en.get 13=J j∧s=⟨put S0 l (Dm fL d) X0,T⟩) (fun i hok=> ?_) i hok env st hg
 obtain ⟨h1,h2⟩:=hok
 have hget:=fun C E=>zk hl C E
 have hpset:=fun C C' E=>zj hl C C' E
 have hlenD:(Dm fL d).length=n:=by rw [zr,hsz]
 by_cases h:i≤j
 ·have hle:((i:Int)≤(j:Int))=True:=eT (by omega)
  have hs:=ze i (by omega)
  have r10:(((a:Nat):Int)<(n:Int))=True:=eT (by omega)
  have r11:((a:Nat)<n)=True:=eT (by omega)
  have r12:((a:Nat)+1≤n)=True:=eT (by omega)
  have r13:(Dm fL d)[a]? =some (fL d[a]!):=zn fL d (by omega)
  have r20:(((i:Nat):Int)<(n:Int))=True:=eT (by omega)
  have r21:((i:Nat)<n)=True:=eT (by omega)
  have r22:((i:Nat)+1≤n)=True:=eT (by omega)
  have r23:(Dm fL d)[i]? =some (fL d[i]!):=zn fL d (by omega)
  cases hcc:lt d[i]! d[a]! with
  |true=>
   have hk0:(c d[i]! d[a]! <0)=True:=by rw [hlt] at hcc;simpa using hcc
   rw [z6t _ d j i h (by simp [hcc])]
   generalize d[a]! =x at*
   generalize d[i]! =y at*
   simp only [go_sem,lp180_0,hle,hs,r10,r11,r12,r13,r20,r21,r22,r23,hc,hk,hk0,hget,hpset,hlenD,nn_,lm_,List.length_set]
   refine ⟨i+1,by simp only [go_sem,z3,z4,z5]<;>rfl,?_,?_,fun x en s hq=> ?_⟩
   ·omega
   ·omega
   ·exact hq
  |false=>
   have hk0:(c d[i]! d[a]! <0)=False:=by rw [hlt] at hcc;simpa using hcc
   rw [z18 _ d _ _ (by simp [hcc])]
   generalize d[a]! =x at*
   generalize d[i]! =y at*
   simp only [go_sem,lp180_0,hle,r10,r11,r12,r13,r20,r21,r22,r23,hc,hk,hk0,hget,hpset,hlenD,nn_,lm_,List.length_set]
 ·have hle:((i:Int)≤(j:Int))=False:=eF (by omega)
  rw [z18 _ d _ _ (by simp;omega)]
  simp only [go_sem,lp180_0,hle]
theorem par1l (X0:List (List AV))(a i:Nat)(ha:a<n)(hoth:0<i)(d:Array (LI))(hsz:d.size=n)(lo hi2:Nat)(j:Nat)(hok:i≤j+1∧j<n)(env:Env)(st:St)
  (hg:gcAV false lo hi2 (canon env [0,1,4,12,13]) st=([(0,.rsl l 0 n n 1 ag),(1,J a),(4,.fn (.func k) [] caps),(12,J i),(13,J j)],⟨put S0 l (Dm fL d) X0,T⟩)):
  ∃x_1 en s,lim (headed pure (run L) false [0,1,4,12,13] lp180_1 lo hi2) env st=some (x_1,en,s)∧(x_1=.exit 2∧en.get 0=.rsl l 0 n n 1 ag∧en.get 1=J a∧en.get 4=.fn (.func k) [] caps∧en.get 12=J i∧en.get 13=J (Go.Sort.scanDown (fun x=> !lt x d[a]!) d i j)∧s=⟨put S0 l (Dm fL d) X0,T⟩):=by
 refine z9 (α:=Nat) (fun j=>j) (fun j=>i≤j+1∧j<n) (fun j=>([(0,.rsl l 0 n n 1 ag),(1,J a),(4,.fn (.func k) [] caps),(12,J i),(13,J j)],⟨put S0 l (Dm fL d) X0,T⟩)) (fun j x_1 en s=>x_1=.exit 2∧en.get 0=.rsl l 0 n n 1 ag∧en.get 1=J a∧en.get 4=.fn (.func k) [] caps∧en.get 12=J i∧en.get 13=J (Go.Sort.scanDown (fun x=> !lt x d[a]!) d i j)∧s=⟨put S0 l (Dm fL d) X0,T⟩) (fun j hok=> ?_) j hok env st hg
 obtain ⟨h1,h2⟩:=hok
 have hget:=fun C E=>zk hl C E
 have hpset:=fun C C' E=>zj hl C C' E
 have hlenD:(Dm fL d).length=n:=by rw [zr,hsz]
 by_cases h:i≤j
 ·have hle:((i:Int)≤(j:Int))=True:=eT (by omega)
  have hs:=z0c j (by omega) (by omega)
  have r30:(((a:Nat):Int)<(n:Int))=True:=eT (by omega)
  have r31:((a:Nat)<n)=True:=eT (by omega)
  have r32:((a:Nat)+1≤n)=True:=eT (by omega)
  have r33:(Dm fL d)[a]? =some (fL d[a]!):=zn fL d (by omega)
  have r40:(((j:Nat):Int)<(n:Int))=True:=eT (by omega)
  have r41:((j:Nat)<n)=True:=eT (by omega)
  have r42:((j:Nat)+1≤n)=True:=eT (by omega)
  have r43:(Dm fL d)[j]? =some (fL d[j]!):=zn fL d (by omega)
  cases hcc:lt d[j]! d[a]! with
  |true=>
   have hk0:(c d[j]! d[a]! <0)=True:=by rw [hlt] at hcc;simpa using hcc
   rw [z0b _ d _ _ (by simp [hcc])]
   generalize d[a]! =x at*
   generalize d[j]! =y at*
   simp only [go_sem,lp180_1,hle,r30,r31,r32,r33,r40,r41,r42,r43,hc,hk,hk0,hget,hpset,hlenD,nn_,lm_,List.length_set]
  |false=>
   have hk0:(c d[j]! d[a]! <0)=False:=by rw [hlt] at hcc;simpa using hcc
   rw [z51 _ d i j h (by omega) (by simp [hcc])]
   generalize d[a]! =x at*
   generalize d[j]! =y at*
   simp only [go_sem,lp180_1,hle,hs,r30,r31,r32,r33,r40,r41,r42,r43,hc,hk,hk0,hget,hpset,hlenD,nn_,lm_,List.length_set]
   refine ⟨j-1,by simp only [go_sem,z3,z4,z5]<;>rfl,?_,?_,fun x en s hq=> ?_⟩
   ·omega
   ·omega
   ·exact hq
 ·have hle:((i:Int)≤(j:Int))=False:=eF (by omega)
  rw [z0b _ d _ _ (by simp;omega)]
  simp only [go_sem,lp180_1,hle]
theorem par2l (X0:List (List AV))(a j:Nat)(ha:a<n)(hoth:j<n)(d:Array (LI))(hsz:d.size=n)(lo hi2:Nat)(i:Nat)(hok:0<i∧i≤j+1)(env:Env)(st:St)
  (hg:gcAV false lo hi2 (canon env [0,1,4,12,13]) st=([(0,.rsl l 0 n n 1 ag),(1,J a),(4,.fn (.func k) [] caps),(12,J i),(13,J j)],⟨put S0 l (Dm fL d) X0,T⟩)):
  ∃x_1 en s,lim (headed pure (run L) false [0,1,4,12,13] lp180_2 lo hi2) env st=some (x_1,en,s)∧(x_1=.exit 6∧en.get 0=.rsl l 0 n n 1 ag∧en.get 1=J a∧en.get 4=.fn (.func k) [] caps∧en.get 12=J (Go.Sort.scanUp (fun x=>lt x d[a]!) d j i)∧en.get 13=J j∧s=⟨put S0 l (Dm fL d) X0,T⟩):=by
 refine z9 (α:=Nat) (fun i=>j+1-i) (fun i=>0<i∧i≤j+1) (fun i=>([(0,.rsl l 0 n n 1 ag),(1,J a),(4,.fn (.func k) [] caps),(12,J i),(13,J j)],⟨put S0 l (Dm fL d) X0,T⟩)) (fun i x_1 en s=>x_1=.exit 6∧en.get 0=.rsl l 0 n n 1 ag∧en.get 1=J a∧en.get 4=.fn (.func k) [] caps∧en.get 12=J (Go.Sort.scanUp (fun x=>lt x d[a]!) d j i)∧en.get 13=J j∧s=⟨put S0 l (Dm fL d) X0,T⟩) (fun i hok=> ?_) i hok env st hg
 obtain ⟨h1,h2⟩:=hok
 have hget:=fun C E=>zk hl C E
 have hpset:=fun C C' E=>zj hl C C' E
 have hlenD:(Dm fL d).length=n:=by rw [zr,hsz]
 by_cases h:i≤j
 ·have hle:((i:Int)≤(j:Int))=True:=eT (by omega)
  have hs:=ze i (by omega)
  have r50:(((a:Nat):Int)<(n:Int))=True:=eT (by omega)
  have r51:((a:Nat)<n)=True:=eT (by omega)
  have r52:((a:Nat)+1≤n)=True:=eT (by omega)
  have r53:(Dm fL d)[a]? =some (fL d[a]!):=zn fL d (by omega)
  have r60:(((i:Nat):Int)<(n:Int))=True:=eT (by omega)
  have r61:((i:Nat)<n)=True:=eT (by omega)
  have r62:((i:Nat)+1≤n)=True:=eT (by omega)
  have r63:(Dm fL d)[i]? =some (fL d[i]!):=zn fL d (by omega)
  cases hcc:lt d[i]! d[a]! with
  |true=>
   have hk0:(c d[i]! d[a]! <0)=True:=by rw [hlt] at hcc;simpa using hcc
   rw [z6t _ d j i h (by simp [hcc])]
   generalize d[a]! =x at*
   generalize d[i]! =y at*
   simp only [go_sem,lp180_2,hle,hs,r50,r51,r52,r53,r60,r61,r62,r63,hc,hk,hk0,hget,hpset,hlenD,nn_,lm_,List.length_set]
   refine ⟨i+1,by simp only [go_sem,z3,z4,z5]<;>rfl,?_,?_,fun x en s hq=> ?_⟩
   ·omega
   ·omega
   ·exact hq
  |false=>
   have hk0:(c d[i]! d[a]! <0)=False:=by rw [hlt] at hcc;simpa using hcc
   rw [z18 _ d _ _ (by simp [hcc])]
   generalize d[a]! =x at*
   generalize d[i]! =y at*
   simp only [go_sem,lp180_2,hle,r50,r51,r52,r53,r60,r61,r62,r63,hc,hk,hk0,hget,hpset,hlenD,nn_,lm_,List.length_set]
 ·have hle:((i:Int)≤(j:Int))=False:=eF (by omega)
  rw [z18 _ d _ _ (by simp;omega)]
  simp only [go_sem,lp180_2,hle]
theorem par3l (X0:List (List AV))(a i:Nat)(ha:a<n)(hoth:0<i)(d:Array (LI))(hsz:d.size=n)(lo hi2:Nat)(j:Nat)(hok:i≤j+1∧j<n)(env:Env)(st:St)
  (hg:gcAV false lo hi2 (canon env [0,1,4,12,13]) st=([(0,.rsl l 0 n n 1 ag),(1,J a),(4,.fn (.func k) [] caps),(12,J i),(13,J j)],⟨put S0 l (Dm fL d) X0,T⟩)):
  ∃x_1 en s,lim (headed pure (run L) false [0,1,4,12,13] lp180_3 lo hi2) env st=some (x_1,en,s)∧(x_1=.exit 8∧en.get 0=.rsl l 0 n n 1 ag∧en.get 1=J a∧en.get 4=.fn (.func k) [] caps∧en.get 12=J i∧en.get 13=J (Go.Sort.scanDown (fun x=> !lt x d[a]!) d i j)∧s=⟨put S0 l (Dm fL d) X0,T⟩):=by
 refine z9 (α:=Nat) (fun j=>j) (fun j=>i≤j+1∧j<n) (fun j=>([(0,.rsl l 0 n n 1 ag),(1,J a),(4,.fn (.func k) [] caps),(12,J i),(13,J j)],⟨put S0 l (Dm fL d) X0,T⟩)) (fun j x_1 en s=>x_1=.exit 8∧en.get 0=.rsl l 0 n n 1 ag∧en.get 1=J a∧en.get 4=.fn (.func k) [] caps∧en.get 12=J i∧en.get 13=J (Go.Sort.scanDown (fun x=> !lt x d[a]!) d i j)∧s=⟨put S0 l (Dm fL d) X0,T⟩) (fun j hok=> ?_) j hok env st hg
 obtain ⟨h1,h2⟩:=hok
 have hget:=fun C E=>zk hl C E
 have hpset:=fun C C' E=>zj hl C C' E
 have hlenD:(Dm fL d).length=n:=by rw [zr,hsz]
 by_cases h:i≤j
 ·have hle:((i:Int)≤(j:Int))=True:=eT (by omega)
  have hs:=z0c j (by omega) (by omega)
  have r70:(((a:Nat):Int)<(n:Int))=True:=eT (by omega)
  have r71:((a:Nat)<n)=True:=eT (by omega)
  have r72:((a:Nat)+1≤n)=True:=eT (by omega)
  have r73:(Dm fL d)[a]? =some (fL d[a]!):=zn fL d (by omega)
  have r80:(((j:Nat):Int)<(n:Int))=True:=eT (by omega)
  have r81:((j:Nat)<n)=True:=eT (by omega)
  have r82:((j:Nat)+1≤n)=True:=eT (by omega)
  have r83:(Dm fL d)[j]? =some (fL d[j]!):=zn fL d (by omega)
  cases hcc:lt d[j]! d[a]! with
  |true=>
   have hk0:(c d[j]! d[a]! <0)=True:=by rw [hlt] at hcc;simpa using hcc
   rw [z0b _ d _ _ (by simp [hcc])]
   generalize d[a]! =x at*
   generalize d[j]! =y at*
   simp only [go_sem,lp180_3,hle,r70,r71,r72,r73,r80,r81,r82,r83,hc,hk,hk0,hget,hpset,hlenD,nn_,lm_,List.length_set]
  |false=>
   have hk0:(c d[j]! d[a]! <0)=False:=by rw [hlt] at hcc;simpa using hcc
   rw [z51 _ d i j h (by omega) (by simp [hcc])]
   generalize d[a]! =x at*
   generalize d[j]! =y at*
   simp only [go_sem,lp180_3,hle,hs,r70,r71,r72,r73,r80,r81,r82,r83,hc,hk,hk0,hget,hpset,hlenD,nn_,lm_,List.length_set]
   refine ⟨j-1,by simp only [go_sem,z3,z4,z5]<;>rfl,?_,?_,fun x en s hq=> ?_⟩
   ·omega
   ·omega
   ·exact hq
 ·have hle:((i:Int)≤(j:Int))=False:=eF (by omega)
  rw [z0b _ d _ _ (by simp;omega)]
  simp only [go_sem,lp180_3,hle]
theorem peq0l (X0:List (List AV))(a j:Nat)(ha:a<n)(hoth:j<n)(d:Array (LI))(hsz:d.size=n)(lo hi2:Nat)(i:Nat)(hok:0<i∧i≤j+1)(env:Env)(st:St)
  (hg:gcAV false lo hi2 (canon env [0,1,4,11,12]) st=([(0,.rsl l 0 n n 1 ag),(1,J a),(4,.fn (.func k) [] caps),(11,J i),(12,J j)],⟨put S0 l (Dm fL d) X0,T⟩)):
  ∃x_1 en s,lim (headed pure (run L) false [0,1,4,11,12] lp179_0 lo hi2) env st=some (x_1,en,s)∧(x_1=.exit 2∧en.get 0=.rsl l 0 n n 1 ag∧en.get 1=J a∧en.get 4=.fn (.func k) [] caps∧en.get 11=J (Go.Sort.scanUp (fun x=> !lt d[a]! x) d j i)∧en.get 12=J j∧s=⟨put S0 l (Dm fL d) X0,T⟩):=by
 refine z9 (α:=Nat) (fun i=>j+1-i) (fun i=>0<i∧i≤j+1) (fun i=>([(0,.rsl l 0 n n 1 ag),(1,J a),(4,.fn (.func k) [] caps),(11,J i),(12,J j)],⟨put S0 l (Dm fL d) X0,T⟩)) (fun i x_1 en s=>x_1=.exit 2∧en.get 0=.rsl l 0 n n 1 ag∧en.get 1=J a∧en.get 4=.fn (.func k) [] caps∧en.get 11=J (Go.Sort.scanUp (fun x=> !lt d[a]! x) d j i)∧en.get 12=J j∧s=⟨put S0 l (Dm fL d) X0,T⟩) (fun i hok=> ?_) i hok env st hg
 obtain ⟨h1,h2⟩:=hok
 have hget:=fun C E=>zk hl C E
 have hpset:=fun C C' E=>zj hl C C' E
 have hlenD:(Dm fL d).length=n:=by rw [zr,hsz]
 by_cases h:i≤j
 ·have hle:((i:Int)≤(j:Int))=True:=eT (by omega)
  have hs:=ze i (by omega)
  have r90:(((a:Nat):Int)<(n:Int))=True:=eT (by omega)
  have r91:((a:Nat)<n)=True:=eT (by omega)
  have r92:((a:Nat)+1≤n)=True:=eT (by omega)
  have r93:(Dm fL d)[a]? =some (fL d[a]!):=zn fL d (by omega)
  have r100:(((i:Nat):Int)<(n:Int))=True:=eT (by omega)
  have r101:((i:Nat)<n)=True:=eT (by omega)
  have r102:((i:Nat)+1≤n)=True:=eT (by omega)
  have r103:(Dm fL d)[i]? =some (fL d[i]!):=zn fL d (by omega)
  cases hcc:lt d[a]! d[i]! with
  |true=>
   have hk0:(c d[a]! d[i]! <0)=True:=by rw [hlt] at hcc;simpa using hcc
   rw [z18 _ d _ _ (by simp [hcc])]
   generalize d[a]! =x at*
   generalize d[i]! =y at*
   simp only [go_sem,lp179_0,hle,r90,r91,r92,r93,r100,r101,r102,r103,hc,hk,hk0,hget,hpset,hlenD,nn_,lm_,List.length_set]
  |false=>
   have hk0:(c d[a]! d[i]! <0)=False:=by rw [hlt] at hcc;simpa using hcc
   rw [z6t _ d j i h (by simp [hcc])]
   generalize d[a]! =x at*
   generalize d[i]! =y at*
   simp only [go_sem,lp179_0,hle,hs,r90,r91,r92,r93,r100,r101,r102,r103,hc,hk,hk0,hget,hpset,hlenD,nn_,lm_,List.length_set]
   refine ⟨i+1,by simp only [go_sem,z3,z4,z5]<;>rfl,?_,?_,fun x en s hq=> ?_⟩
   ·omega
   ·omega
   ·exact hq
 ·have hle:((i:Int)≤(j:Int))=False:=eF (by omega)
  rw [z18 _ d _ _ (by simp;omega)]
  simp only [go_sem,lp179_0,hle]
theorem peq1l (X0:List (List AV))(a i:Nat)(ha:a<n)(hoth:0<i)(d:Array (LI))(hsz:d.size=n)(lo hi2:Nat)(j:Nat)(hok:i≤j+1∧j<n)(env:Env)(st:St)
  (hg:gcAV false lo hi2 (canon env [0,1,4,11,12]) st=([(0,.rsl l 0 n n 1 ag),(1,J a),(4,.fn (.func k) [] caps),(11,J i),(12,J j)],⟨put S0 l (Dm fL d) X0,T⟩)):
  ∃x_1 en s,lim (headed pure (run L) false [0,1,4,11,12] lp179_1 lo hi2) env st=some (x_1,en,s)∧(x_1=.exit 4∧en.get 0=.rsl l 0 n n 1 ag∧en.get 1=J a∧en.get 4=.fn (.func k) [] caps∧en.get 11=J i∧en.get 12=J (Go.Sort.scanDown (fun x=>lt d[a]! x) d i j)∧s=⟨put S0 l (Dm fL d) X0,T⟩):=by
 refine z9 (α:=Nat) (fun j=>j) (fun j=>i≤j+1∧j<n) (fun j=>([(0,.rsl l 0 n n 1 ag),(1,J a),(4,.fn (.func k) [] caps),(11,J i),(12,J j)],⟨put S0 l (Dm fL d) X0,T⟩)) (fun j x_1 en s=>x_1=.exit 4∧en.get 0=.rsl l 0 n n 1 ag∧en.get 1=J a∧en.get 4=.fn (.func k) [] caps∧en.get 11=J i∧en.get 12=J (Go.Sort.scanDown (fun x=>lt d[a]! x) d i j)∧s=⟨put S0 l (Dm fL d) X0,T⟩) (fun j hok=> ?_) j hok env st hg
 obtain ⟨h1,h2⟩:=hok
 have hget:=fun C E=>zk hl C E
 have hpset:=fun C C' E=>zj hl C C' E
 have hlenD:(Dm fL d).length=n:=by rw [zr,hsz]
 by_cases h:i≤j
 ·have hle:((i:Int)≤(j:Int))=True:=eT (by omega)
  have hs:=z0c j (by omega) (by omega)
  have r110:(((a:Nat):Int)<(n:Int))=True:=eT (by omega)
  have r111:((a:Nat)<n)=True:=eT (by omega)
  have r112:((a:Nat)+1≤n)=True:=eT (by omega)
  have r113:(Dm fL d)[a]? =some (fL d[a]!):=zn fL d (by omega)
  have r120:(((j:Nat):Int)<(n:Int))=True:=eT (by omega)
  have r121:((j:Nat)<n)=True:=eT (by omega)
  have r122:((j:Nat)+1≤n)=True:=eT (by omega)
  have r123:(Dm fL d)[j]? =some (fL d[j]!):=zn fL d (by omega)
  cases hcc:lt d[a]! d[j]! with
  |true=>
   have hk0:(c d[a]! d[j]! <0)=True:=by rw [hlt] at hcc;simpa using hcc
   rw [z51 _ d i j h (by omega) (by simp [hcc])]
   generalize d[a]! =x at*
   generalize d[j]! =y at*
   simp only [go_sem,lp179_1,hle,hs,r110,r111,r112,r113,r120,r121,r122,r123,hc,hk,hk0,hget,hpset,hlenD,nn_,lm_,List.length_set]
   refine ⟨j-1,by simp only [go_sem,z3,z4,z5]<;>rfl,?_,?_,fun x en s hq=> ?_⟩
   ·omega
   ·omega
   ·exact hq
  |false=>
   have hk0:(c d[a]! d[j]! <0)=False:=by rw [hlt] at hcc;simpa using hcc
   rw [z0b _ d _ _ (by simp [hcc])]
   generalize d[a]! =x at*
   generalize d[j]! =y at*
   simp only [go_sem,lp179_1,hle,r110,r111,r112,r113,r120,r121,r122,r123,hc,hk,hk0,hget,hpset,hlenD,nn_,lm_,List.length_set]
 ·have hle:((i:Int)≤(j:Int))=False:=eF (by omega)
  rw [z0b _ d _ _ (by simp;omega)]
  simp only [go_sem,lp179_1,hle]
theorem par4l (X0:List (List AV))(a:Nat)(ha:a<n)(lo hi2:Nat)(i:Nat)(j:Nat)(d:Array (LI))(hok:a<i∧i≤j+1∧j<n∧d.size=n)(env:Env)(st:St)
  (hg:gcAV false lo hi2 (canon env [0,1,4,12,13]) st=([(0,.rsl l 0 n n 1 ag),(1,J a),(4,.fn (.func k) [] caps),(12,J i),(13,J j)],⟨put S0 l (Dm fL d) X0,T⟩)):
  ∃x_1 en s,lim (headed pure (run L) false [0,1,4,12,13] lp180_4 lo hi2) env st=some (x_1,en,s)∧(x_1=.exit 4∧en.get 0=.rsl l 0 n n 1 ag∧en.get 1=J a∧en.get 4=.fn (.func k) [] caps∧en.get 13=J (Go.Sort.partLoop lt a i j d).1∧s=⟨put S0 l (Dm fL (Go.Sort.partLoop lt a i j d).2) X0,T⟩):=by
 refine z9 (α:=Nat×Nat×Array (LI)) (fun ⟨i,j,d⟩=>j+1-i) (fun ⟨i,j,d⟩=>a<i∧i≤j+1∧j<n∧d.size=n) (fun ⟨i,j,d⟩=>([(0,.rsl l 0 n n 1 ag),(1,J a),(4,.fn (.func k) [] caps),(12,J i),(13,J j)],⟨put S0 l (Dm fL d) X0,T⟩)) (fun ⟨i,j,d⟩ x_1 en s=>x_1=.exit 4∧en.get 0=.rsl l 0 n n 1 ag∧en.get 1=J a∧en.get 4=.fn (.func k) [] caps∧en.get 13=J (Go.Sort.partLoop lt a i j d).1∧s=⟨put S0 l (Dm fL (Go.Sort.partLoop lt a i j d).2) X0,T⟩) (fun ⟨i,j,d⟩ hok=> ?_) ⟨i,j,d⟩ hok env st hg
 simp only at hok
 obtain ⟨h1,h2,h3,hsz⟩:=hok
 dsimp only at h1 h2 h3 hsz⊢
 have hf:=z6c (fun x=>lt x d[a]!) (fun x=> !lt x d[a]!) (fun _=>rfl) d (i:=i) (j:=j) (by omega) h2
 rw [Go.Sort.partLoop_eq]
 simp only [go_sem,lp180_4]
 generalize hg:lim (headed pure (run L) false _ lp180_2 _ _) _ _=o
 obtain ⟨x,en,s,rfl,h2⟩: ∃x en s,o=some (x,en,s)∧_:=by rw [←hg];exact par2l S0 T l hl n hn ag k hk caps c lt hlt hc X0 a j ha h3 d hsz _ _ i ⟨by omega,h2⟩ _ _ (by simp only [go_sem]<;>rfl)
 clear hg
 obtain ⟨rfl,e0,e1,e4,e12,e13,rfl⟩:=h2
 generalize Go.Sort.scanUp (fun x=>lt x d[a]!) d j i=i2 at*
 simp only [go_sem,lp180_4,e0,e1,e4,e12,e13]
 generalize hg:lim (headed pure (run L) false _ lp180_3 _ _) _ _=o
 obtain ⟨x,en,s,rfl,h2⟩: ∃x en s,o=some (x,en,s)∧_:=by rw [←hg];exact par3l S0 T l hl n hn ag k hk caps c lt hlt hc X0 a i2 ha (by omega) d hsz _ _ j ⟨by omega,h3⟩ _ _ (by simp only [go_sem,e0,e1,e4,e12,e13]<;>rfl)
 clear hg
 clear e0 e1 e4 e12 e13
 obtain ⟨rfl,e0,e1,e4,e12,e13,rfl⟩:=h2
 generalize Go.Sort.scanDown (fun x=> !lt x d[a]!) d i2 j=j2 at*
 by_cases p:i2>j2
 ·have q:((j2:Int)<(i2:Int))=True:=eT (by omega)
  rw [if_pos p]
  simp only [go_sem,lp180_4,e0,e1,e4,e12,e13,q]
 ·have q:((j2:Int)<(i2:Int))=False:=eF (by omega)
  rw [if_neg p]
  have hf5:=hf.2.2.2.2 p
  have hs:=ze i2 (by omega)
  have hw:=z0c j2 (by omega) (by omega)
  have hget:=fun C E=>zk hl C E
  have hpset:=fun C C' E=>zj hl C C' E
  have hlenD:(Dm fL d).length=n:=by rw [zr,hsz]
  have r130:(((i2:Nat):Int)<(n:Int))=True:=eT (by omega)
  have r131:((i2:Nat)<n)=True:=eT (by omega)
  have r132:((i2:Nat)+1≤n)=True:=eT (by omega)
  have r133:(Dm fL d)[i2]? =some (fL d[i2]!):=zn fL d (by omega)
  have r140:(((j2:Nat):Int)<(n:Int))=True:=eT (by omega)
  have r141:((j2:Nat)<n)=True:=eT (by omega)
  have r142:((j2:Nat)+1≤n)=True:=eT (by omega)
  have r143:(Dm fL d)[j2]? =some (fL d[j2]!):=zn fL d (by omega)
  have hsw:=z0h fL d i2 j2
  have hsz1:=zl (i:=i2) (j:=j2) hsz
  generalize d[i2]! =x at*
  generalize d[j2]! =y at*
  generalize Go.Sort.swp d i2 j2=d1 at*
  simp only [go_sem,lp180_4,e0,e1,e4,e12,e13,q,hs,hw,r130,r131,r132,r133,r140,r141,r142,r143,hsw,hget,hpset,hlenD,nn_,lm_,List.length_set]
  refine ⟨(i2+1,j2-1,d1),by simp only [go_sem,z3,z4,z5,e0,e1,e4]<;>rfl,?_,?_,fun x en s hq=> ?_⟩
  ·dsimp only;exact ⟨by omega,by omega,by omega,hsz1⟩
  ·dsimp only;omega
  ·exact hq
theorem parl (X0:List (List AV))(d:Array (LI))(hsz:d.size=n)(a b v:Nat)(hab:a+1<b)(hb:b≤n)(hv:v<n):
  run L 180 [.rsl l 0 n n 1 ag,J a,J b,J v,.fn (.func k) [] caps] ⟨put S0 l (Dm fL d) X0,T⟩=some (.tup [J (Go.Sort.partition lt d a b v).1,B (Go.Sort.partition lt d a b v).2.1],⟨put S0 l (Dm fL (Go.Sort.partition lt d a b v).2.2) X0,T⟩):=by
 rw [z6 (fn:=ir180) rfl rfl]
 have ha1:=ze a (by omega)
 have hb1:=z0c b (by omega) (by omega)
 have e:Go.Sort.partition lt d a b v=(let d0:=Go.Sort.swp d a v;let i:=Go.Sort.scanUp (fun x=>lt x d0[a]!) d0 (b-1) (a+1);let j:=Go.Sort.scanDown (fun x=> !lt x d0[a]!) d0 i (b-1);if i>j then (j,true,Go.Sort.swp d0 j a) else ((Go.Sort.partLoop lt a (i+1) (j-1) (Go.Sort.swp d0 i j)).1,false,Go.Sort.swp (Go.Sort.partLoop lt a (i+1) (j-1) (Go.Sort.swp d0 i j)).2 (Go.Sort.partLoop lt a (i+1) (j-1) (Go.Sort.swp d0 i j)).1 a)):=rfl
 rw [e]
 have hget:=fun C E=>zk hl C E
 have hpset:=fun C C' E=>zj hl C C' E
 have hlenD:(Dm fL d).length=n:=by rw [zr,hsz]
 have r150:(((a:Nat):Int)<(n:Int))=True:=eT (by omega)
 have r151:((a:Nat)<n)=True:=eT (by omega)
 have r152:((a:Nat)+1≤n)=True:=eT (by omega)
 have r153:(Dm fL d)[a]? =some (fL d[a]!):=zn fL d (by omega)
 have r160:(((v:Nat):Int)<(n:Int))=True:=eT (by omega)
 have r161:((v:Nat)<n)=True:=eT (by omega)
 have r162:((v:Nat)+1≤n)=True:=eT (by omega)
 have r163:(Dm fL d)[v]? =some (fL d[v]!):=zn fL d (by omega)
 have hsw:=z0h fL d a v
 have hsz0:=zl (i:=a) (j:=v) hsz
 generalize d[a]! =x at*
 generalize d[v]! =y at*
 generalize Go.Sort.swp d a v=d0 at*
 simp only [ir180,go_sem,ha1,hb1,r150,r151,r152,r153,r160,r161,r162,r163,hsw,hget,hpset,hlenD,nn_,lm_,List.length_set]
 have hf:=z6c (fun x=>lt x d0[a]!) (fun x=> !lt x d0[a]!) (fun _=>rfl) d0 (i:=a+1) (j:=b-1) (by omega) (by omega)
 generalize hg:lim (headed pure (run L) false _ lp180_0 _ _) _ _=o
 obtain ⟨x,en,s,rfl,h2⟩: ∃x en s,o=some (x,en,s)∧_:=by rw [←hg];exact par0l S0 T l hl n hn ag k hk caps c lt hlt hc X0 a (b-1) (by omega) (by omega) d0 hsz0 _ _ (a+1) ⟨by omega,by omega⟩ _ _ (by simp only [go_sem]<;>rfl)
 clear hg
 obtain ⟨rfl,e0,e1,e4,e12,e13,rfl⟩:=h2
 generalize Go.Sort.scanUp (fun x=>lt x d0[a]!) d0 (b-1) (a+1)=i2 at*
 simp only [go_sem,e0,e1,e4,e12,e13]
 generalize hg:lim (headed pure (run L) false _ lp180_1 _ _) _ _=o
 obtain ⟨x,en,s,rfl,h2⟩: ∃x en s,o=some (x,en,s)∧_:=by rw [←hg];exact par1l S0 T l hl n hn ag k hk caps c lt hlt hc X0 a i2 (by omega) (by omega) d0 hsz0 _ _ (b-1) ⟨by omega,by omega⟩ _ _ (by simp only [go_sem,e0,e1,e4,e12,e13]<;>rfl)
 clear hg
 clear e0 e1 e4 e12 e13
 obtain ⟨rfl,e0,e1,e4,e12,e13,rfl⟩:=h2
 generalize Go.Sort.scanDown (fun x=> !lt x d0[a]!) d0 i2 (b-1)=j2 at*
 clear hget hpset hlenD
 have hget:=fun C E=>zk hl C E
 have hpset:=fun C C' E=>zj hl C C' E
 have hlenD:(Dm fL d0).length=n:=by rw [zr,hsz0]
 by_cases p:i2>j2
 ·have q:((j2:Int)<(i2:Int))=True:=eT (by omega)
  rw [if_pos p]
  have r170:(((j2:Nat):Int)<(n:Int))=True:=eT (by omega)
  have r171:((j2:Nat)<n)=True:=eT (by omega)
  have r172:((j2:Nat)+1≤n)=True:=eT (by omega)
  have r173:(Dm fL d0)[j2]? =some (fL d0[j2]!):=zn fL d0 (by omega)
  have r180:(((a:Nat):Int)<(n:Int))=True:=eT (by omega)
  have r181:((a:Nat)<n)=True:=eT (by omega)
  have r182:((a:Nat)+1≤n)=True:=eT (by omega)
  have r183:(Dm fL d0)[a]? =some (fL d0[a]!):=zn fL d0 (by omega)
  have hsw2:=z0h fL d0 j2 a
  generalize d0[a]! =x2 at*
  generalize d0[j2]! =y2 at*
  simp only [go_sem,e0,e1,e4,e12,e13,q,r170,r171,r172,r173,r180,r181,r182,r183,hsw2,hget,hpset,hlenD,nn_,lm_,List.length_set]
 ·have q:((j2:Int)<(i2:Int))=False:=eF (by omega)
  rw [if_neg p]
  have hf5:=hf.2.2.2.2 p
  have hs:=ze i2 (by omega)
  have hw:=z0c j2 (by omega) (by omega)
  have r190:(((i2:Nat):Int)<(n:Int))=True:=eT (by omega)
  have r191:((i2:Nat)<n)=True:=eT (by omega)
  have r192:((i2:Nat)+1≤n)=True:=eT (by omega)
  have r193:(Dm fL d0)[i2]? =some (fL d0[i2]!):=zn fL d0 (by omega)
  have r200:(((j2:Nat):Int)<(n:Int))=True:=eT (by omega)
  have r201:((j2:Nat)<n)=True:=eT (by omega)
  have r202:((j2:Nat)+1≤n)=True:=eT (by omega)
  have r203:(Dm fL d0)[j2]? =some (fL d0[j2]!):=zn fL d0 (by omega)
  have hsw2:=z0h fL d0 i2 j2
  have hsz1:=zl (i:=i2) (j:=j2) hsz0
  generalize d0[i2]! =x2 at*
  generalize d0[j2]! =y2 at*
  generalize Go.Sort.swp d0 i2 j2=d1 at*
  simp only [go_sem,e0,e1,e4,e12,e13,q,hs,hw,r190,r191,r192,r193,r200,r201,r202,r203,hsw2,hget,hpset,hlenD,nn_,lm_,List.length_set]
  have hpo:=z77 lt a _ (i2+1) (j2-1) d1 (Nat.le_refl _) (by omega) (by omega)
  generalize hg:lim (headed pure (run L) false _ lp180_4 _ _) _ _=o
  obtain ⟨x,en,s,rfl,h2⟩: ∃x en s,o=some (x,en,s)∧_:=by rw [←hg];exact par4l S0 T l hl n hn ag k hk caps c lt hlt hc X0 a (by omega) _ _ (i2+1) (j2-1) d1 ⟨by omega,by omega,by omega,hsz1⟩ _ _ (by simp only [go_sem,e0,e1,e4,e12,e13]<;>rfl)
  clear hg
  clear e0 e1 e4 e12 e13 hget hpset hlenD
  obtain ⟨rfl,e0,e1,e4,e13,rfl⟩:=h2
  generalize Go.Sort.partLoop lt a (i2+1) (j2-1) d1=r at*
  obtain ⟨j3,d2⟩:=r
  dsimp only at*
  have hsz2:d2.size=n:=by rw [hpo.1,hsz1]
  have hget:=fun C E=>zk hl C E
  have hpset:=fun C C' E=>zj hl C C' E
  have hlenD:(Dm fL d2).length=n:=by rw [zr,hsz2]
  have r210:(((j3:Nat):Int)<(n:Int))=True:=eT (by omega)
  have r211:((j3:Nat)<n)=True:=eT (by omega)
  have r212:((j3:Nat)+1≤n)=True:=eT (by omega)
  have r213:(Dm fL d2)[j3]? =some (fL d2[j3]!):=zn fL d2 (by omega)
  have r220:(((a:Nat):Int)<(n:Int))=True:=eT (by omega)
  have r221:((a:Nat)<n)=True:=eT (by omega)
  have r222:((a:Nat)+1≤n)=True:=eT (by omega)
  have r223:(Dm fL d2)[a]? =some (fL d2[a]!):=zn fL d2 (by omega)
  have hsw3:=z0h fL d2 j3 a
  generalize d2[j3]! =x3 at*
  generalize d2[a]! =y3 at*
  simp only [go_sem,e0,e1,e4,e13,r210,r211,r212,r213,r220,r221,r222,r223,hsw3,hget,hpset,hlenD,nn_,lm_,List.length_set]
theorem peq2l (X0:List (List AV))(a:Nat)(ha:a<n)(lo hi2:Nat)(i:Nat)(j:Nat)(d:Array (LI))(hok:a<i∧i≤j+1∧j<n∧d.size=n)(env:Env)(st:St)
  (hg:gcAV false lo hi2 (canon env [0,1,4,11,12]) st=([(0,.rsl l 0 n n 1 ag),(1,J a),(4,.fn (.func k) [] caps),(11,J i),(12,J j)],⟨put S0 l (Dm fL d) X0,T⟩)):
  ∃x_1 en s,lim (headed pure (run L) false [0,1,4,11,12] lp179_2 lo hi2) env st=some (x_1,en,s)∧(x_1=.exit 0∧en.get 11=J (Go.Sort.partEqLoop lt a i j d).1∧s=⟨put S0 l (Dm fL (Go.Sort.partEqLoop lt a i j d).2) X0,T⟩):=by
 refine z9 (α:=Nat×Nat×Array (LI)) (fun ⟨i,j,d⟩=>j+1-i) (fun ⟨i,j,d⟩=>a<i∧i≤j+1∧j<n∧d.size=n) (fun ⟨i,j,d⟩=>([(0,.rsl l 0 n n 1 ag),(1,J a),(4,.fn (.func k) [] caps),(11,J i),(12,J j)],⟨put S0 l (Dm fL d) X0,T⟩)) (fun ⟨i,j,d⟩ x_1 en s=>x_1=.exit 0∧en.get 11=J (Go.Sort.partEqLoop lt a i j d).1∧s=⟨put S0 l (Dm fL (Go.Sort.partEqLoop lt a i j d).2) X0,T⟩) (fun ⟨i,j,d⟩ hok=> ?_) ⟨i,j,d⟩ hok env st hg
 simp only at hok
 obtain ⟨h1,h2,h3,hsz⟩:=hok
 dsimp only at h1 h2 h3 hsz⊢
 have hf:=z6c (fun x=> !lt d[a]! x) (fun x=>lt d[a]! x) (fun x=>by simp) d (i:=i) (j:=j) (by omega) h2
 rw [Go.Sort.partEqLoop_eq]
 simp only [go_sem,lp179_2]
 generalize hg:lim (headed pure (run L) false _ lp179_0 _ _) _ _=o
 obtain ⟨x,en,s,rfl,h2⟩: ∃x en s,o=some (x,en,s)∧_:=by rw [←hg];exact peq0l S0 T l hl n hn ag k hk caps c lt hlt hc X0 a j ha h3 d hsz _ _ i ⟨by omega,h2⟩ _ _ (by simp only [go_sem]<;>rfl)
 clear hg
 obtain ⟨rfl,e0,e1,e4,e12,e13,rfl⟩:=h2
 generalize Go.Sort.scanUp (fun x=> !lt d[a]! x) d j i=i2 at*
 simp only [go_sem,lp179_2,e0,e1,e4,e12,e13]
 generalize hg:lim (headed pure (run L) false _ lp179_1 _ _) _ _=o
 obtain ⟨x,en,s,rfl,h2⟩: ∃x en s,o=some (x,en,s)∧_:=by rw [←hg];exact peq1l S0 T l hl n hn ag k hk caps c lt hlt hc X0 a i2 ha (by omega) d hsz _ _ j ⟨by omega,h3⟩ _ _ (by simp only [go_sem,e0,e1,e4,e12,e13]<;>rfl)
 clear hg
 clear e0 e1 e4 e12 e13
 obtain ⟨rfl,e0,e1,e4,e12,e13,rfl⟩:=h2
 generalize Go.Sort.scanDown (fun x=>lt d[a]! x) d i2 j=j2 at*
 by_cases p:i2>j2
 ·have q:((j2:Int)<(i2:Int))=True:=eT (by omega)
  rw [if_pos p]
  simp only [go_sem,lp179_2,e0,e1,e4,e12,e13,q]
 ·have q:((j2:Int)<(i2:Int))=False:=eF (by omega)
  rw [if_neg p]
  have hf5:=hf.2.2.2.2 p
  have hs:=ze i2 (by omega)
  have hw:=z0c j2 (by omega) (by omega)
  have hget:=fun C E=>zk hl C E
  have hpset:=fun C C' E=>zj hl C C' E
  have hlenD:(Dm fL d).length=n:=by rw [zr,hsz]
  have r230:(((i2:Nat):Int)<(n:Int))=True:=eT (by omega)
  have r231:((i2:Nat)<n)=True:=eT (by omega)
  have r232:((i2:Nat)+1≤n)=True:=eT (by omega)
  have r233:(Dm fL d)[i2]? =some (fL d[i2]!):=zn fL d (by omega)
  have r240:(((j2:Nat):Int)<(n:Int))=True:=eT (by omega)
  have r241:((j2:Nat)<n)=True:=eT (by omega)
  have r242:((j2:Nat)+1≤n)=True:=eT (by omega)
  have r243:(Dm fL d)[j2]? =some (fL d[j2]!):=zn fL d (by omega)
  have hsw:=z0h fL d i2 j2
  have hsz1:=zl (i:=i2) (j:=j2) hsz
  generalize d[i2]! =x at*
  generalize d[j2]! =y at*
  generalize Go.Sort.swp d i2 j2=d1 at*
  simp only [go_sem,lp179_2,e0,e1,e4,e12,e13,q,hs,hw,r230,r231,r232,r233,r240,r241,r242,r243,hsw,hget,hpset,hlenD,nn_,lm_,List.length_set]
  refine ⟨(i2+1,j2-1,d1),by simp only [go_sem,z3,z4,z5,e0,e1,e4]<;>rfl,?_,?_,fun x en s hq=> ?_⟩
  ·dsimp only;exact ⟨by omega,by omega,by omega,hsz1⟩
  ·dsimp only;omega
  ·exact hq
theorem peql (X0:List (List AV))(d:Array (LI))(hsz:d.size=n)(a b v:Nat)(hab:a+1<b)(hb:b≤n)(hv:v<n):
  run L 179 [.rsl l 0 n n 1 ag,J a,J b,J v,.fn (.func k) [] caps] ⟨put S0 l (Dm fL d) X0,T⟩=some (J (Go.Sort.partitionEqual lt d a b v).1,⟨put S0 l (Dm fL (Go.Sort.partitionEqual lt d a b v).2) X0,T⟩):=by
 rw [z6 (fn:=ir179) rfl rfl]
 have ha1:=ze a (by omega)
 have hb1:=z0c b (by omega) (by omega)
 have e:Go.Sort.partitionEqual lt d a b v=Go.Sort.partEqLoop lt a (a+1) (b-1) (Go.Sort.swp d a v):=rfl
 rw [e]
 have hget:=fun C E=>zk hl C E
 have hpset:=fun C C' E=>zj hl C C' E
 have hlenD:(Dm fL d).length=n:=by rw [zr,hsz]
 have r250:(((a:Nat):Int)<(n:Int))=True:=eT (by omega)
 have r251:((a:Nat)<n)=True:=eT (by omega)
 have r252:((a:Nat)+1≤n)=True:=eT (by omega)
 have r253:(Dm fL d)[a]? =some (fL d[a]!):=zn fL d (by omega)
 have r260:(((v:Nat):Int)<(n:Int))=True:=eT (by omega)
 have r261:((v:Nat)<n)=True:=eT (by omega)
 have r262:((v:Nat)+1≤n)=True:=eT (by omega)
 have r263:(Dm fL d)[v]? =some (fL d[v]!):=zn fL d (by omega)
 have hsw:=z0h fL d a v
 have hsz0:=zl (i:=a) (j:=v) hsz
 generalize d[a]! =x at*
 generalize d[v]! =y at*
 generalize Go.Sort.swp d a v=d0 at*
 simp only [ir179,go_sem,ha1,hb1,r250,r251,r252,r253,r260,r261,r262,r263,hsw,hget,hpset,hlenD,nn_,lm_,List.length_set]
 generalize hg:lim (headed pure (run L) false _ lp179_2 _ _) _ _=o
 obtain ⟨x,en,s,rfl,h2⟩: ∃x en s,o=some (x,en,s)∧_:=by rw [←hg];exact peq2l S0 T l hl n hn ag k hk caps c lt hlt hc X0 a (by omega) _ _ (a+1) (b-1) d0 ⟨by omega,by omega,by omega,hsz0⟩ _ _ (by simp only [go_sem]<;>rfl)
 clear hg
 obtain ⟨rfl,e11,rfl⟩:=h2
 simp only [go_sem,e11]
end
end Go.Proofs.YtdnmhlfjafjkbaaGreatDoor.Vm
