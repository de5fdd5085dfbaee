/- What is proved: what each function of this program computes, as equations on the evaluator. No condition. -/
import Derived.Test.YtdnmhlfjafjkbaaGreatDoorC1
import Derived.KernelRfl
import Derived.Test.YtdnmhlfjafjkbaaGreatDoorT0
set_option linter.all false
namespace Go.Proofs.YtdnmhlfjafjkbaaGreatDoor.Vm
open Go Go.Ev
set_option maxRecDepth 100000
set_option maxHeartbeats 4000000
attribute [local go_sem] m_ x_ l_ k_ o_ t_ a_ s_ q_ b_ c_ u_ g_ z47 z0u z5h z21 z42 z0p z5d z1b z2d z0c z38 z20 z41 z0o z5c z24 z45 z0s z5f z1c z2e z0d z39 z1a z2c z0b z36 z23 z44 z0r z33 z66 z19 z81 z25 z46 z0t z5g z26 z0z z0v z5i z1z z40 z0n z5b z22 z43 z0q z5e z37 z27 z2l z8a z88 z89 z5n z3e z3i z3h z3g z3t z3u z4i z5q z8g z10 z49 z35 z1g z3c z3w z3y z63 z64 z62 z3z z2b z1d z58 z34 z2a z1h z0g z2f z1i z3b z85 z5j z1w z17 z1y pubs pub z6s params z2m z0a z1j z2p z3j z3v z8b untips untip z57 wantedAV setElems withO z8c z3p z3m z3l z5s z3o z3k z5r z3n List.replicate_succ List.replicate_zero opAV valAV aval avals ofVal Env.get setD canon gcAV renAll renEnv renStore renCells z6p cutSt okEnv okStore okRefs okRef z4g z8k z69 z8j z8h z8i z8l cellsEq cellEq isShift intOp boolOp z86 z87 z8m bne resAV tupAV z5o zak z74 fins zgc z8e z8f z73 zbv storeAV readCells putCells z65 z32 z18 fieldAddrAV zaf goI List.getElem?_cons_zero List.getElem?_cons_succ List.getElem?_nil Option.bind_some Option.map_some List.length_cons List.length_nil List.all_cons List.all_nil Bool.and_true Bool.true_and Bool.and_false Bool.false_and and_true true_and and_false false_and Bool.false_eq_true List.set_cons_zero List.set_cons_succ List.append_nil List.nil_append List.cons_append List.take_zero List.take_succ_cons List.take_nil List.drop_zero List.drop_succ_cons List.map_cons List.map_nil decide_true decide_false beq_self_eq_true Bool.not_true Bool.not_false or_true true_or or_false false_or Nat.zero_add Nat.add_zero Nat.le_refl Nat.lt_irrefl decide_eq_true_eq eq_self_iff_true not_true_eq_false not_false_eq_true List.getD_cons_zero z3x Nat.zero_le Nat.not_lt_zero Bool.true_beq Bool.false_beq beq_true beq_false ge_iff_le gt_iff_lt keepR keepT ownTop zgi pus Option.map_none z2h z2g z5w z3q z5v Int.cast_ofNat_Int Nat.mul_one Nat.zero_mul Int.toNat_natCast Int.toNat_zero setParts withO2 hasKey z60 z5k z3s z3d z1f z1e z0e z2n setm z6z z77 z6d zbi zc9 zf0 z8r z6k z56 z4a z94 z6v z6j z4q z7a z55 z8w z6l z4y z3f z96 z6w z9n z51 z52 z71 z31 z8o z6i z6h z8p Option.bind_none Bool.not_eq_true' decide_eq_false_iff_not Bool.and_eq_true Bool.or_eq_true Option.some.injEq Int.not_lt Int.not_le
attribute [local go_sem_proc] reduceIte Nat.reduceEqDiff Nat.reduceAdd Nat.reduceSub Nat.reduceLeDiff Nat.reduceLT reduceCtorEq Int.reduceLT Int.reduceLE Int.reduceEq Int.reduceBEq Int.reduceSub Int.reduceAdd Int.reduceMul Int.reduceNeg Int.reduceToNat Nat.reduceMul Nat.reduceBEq
attribute [local go_sem] m_ x_ l_ k_ o_ t_ a_ s_ q_ b_ c_ u_ g_ zd zi zh z6 zg
section
variable (S0:List (List AV)) (T:List Nat) (l:Nat) (hl:l<S0.length) (n:Nat) (hn:n≤1000) (ag:Bool) (k:Nat) (hk:pure k=true) (caps:List AV) (c:Fin 256→Fin 256→Int) (lt:Fin 256→Fin 256→Bool) (hlt: ∀x y,lt x y=decide (c x y<0)) (hc: ∀x y X E,run L k (fS x::fS y::caps) ⟨put S0 l X E,T⟩=some (I (c x y),⟨put S0 l X E,T⟩))
include S0 T l hl n hn ag k hk caps c lt hlt hc
theorem par0s (X0:List (List AV))(a j:Nat)(ha:a<n)(hoth:j<n)(d:Array (Fin 256))(hsz:d.size=n)(lo hi2:Nat)(i:Nat)(hok:0<i∧i≤j+1)(env:Env)(st:St)
  (hg:gcAV false lo hi2 (canon env [0,1,4,12,13]) st=([(0,.rsl l 0 n n 1 ag),(1,J a),(4,.fn (.func k) [] caps),(12,J i),(13,J j)],⟨put S0 l (Dm gS d) X0,T⟩)):
  ∃x_1 en s,lim (headed pure (run L) false [0,1,4,12,13] lp168_0 lo hi2) env st=some (x_1,en,s)∧(x_1=.exit 0∧en.get 0=.rsl l 0 n n 1 ag∧en.get 1=J a∧en.get 4=.fn (.func k) [] caps∧en.get 12=J (Go.Sort.scanUp (fun x=>lt x d[a]!) d j i)∧en.get 13=J j∧s=⟨put S0 l (Dm gS d) X0,T⟩):=by
 refine zb (α:=Nat) (fun i=>j+1-i) (fun i=>0<i∧i≤j+1) (fun i=>([(0,.rsl l 0 n n 1 ag),(1,J a),(4,.fn (.func k) [] caps),(12,J i),(13,J j)],⟨put S0 l (Dm gS d) X0,T⟩)) (fun i x_1 en s=>x_1=.exit 0∧en.get 0=.rsl l 0 n n 1 ag∧en.get 1=J a∧en.get 4=.fn (.func k) [] caps∧en.get 12=J (Go.Sort.scanUp (fun x=>lt x d[a]!) d j i)∧en.get 13=J j∧s=⟨put S0 l (Dm gS d) X0,T⟩) (fun i hok=> ?_) i hok env st hg
 obtain ⟨h1,h2⟩:=hok
 have hget:=fun C E=>zz hl C E
 have hpset:=fun C C' E=>zy hl C C' E
 have hlenD:(Dm gS d).length=n:=by rw [z0h,hsz]
 by_cases h:i≤j
 ·have hle:((i:Int)≤(j:Int))=True:=eT (by omega)
  have hs:=zj i (by omega)
  have r10:(((a:Nat):Int)<(n:Int))=True:=eT (by omega)
  have r11:((a:Nat)<n)=True:=eT (by omega)
  have r12:((a:Nat)+1≤n)=True:=eT (by omega)
  have r13:((Dm gS d).drop (a)).take 1=[gS d[a]!]:=ze gS d (by omega)
  have r20:(((i:Nat):Int)<(n:Int))=True:=eT (by omega)
  have r21:((i:Nat)<n)=True:=eT (by omega)
  have r22:((i:Nat)+1≤n)=True:=eT (by omega)
  have r23:((Dm gS d).drop (i)).take 1=[gS d[i]!]:=ze gS d (by omega)
  cases hcc:lt d[i]! d[a]! with
  |true=>
   have hk0:(c d[i]! d[a]! <0)=True:=by rw [hlt] at hcc;simpa using hcc
   rw [zb1 _ d j i h (by simp [hcc])]
   generalize d[a]! =x at*
   generalize d[i]! =y at*
   simp only [go_sem,lp168_0,hle,hs,r10,r11,r12,r13,r20,r21,r22,r23,hc,hk,hk0,hget,hpset,hlenD,nn_,lm_,List.length_set]
   refine ⟨i+1,by simp only [go_sem,z3,z4,z5]<;>rfl,?_,?_,fun x en s hq=> ?_⟩
   ·omega
   ·omega
   ·exact hq
  |false=>
   have hk0:(c d[i]! d[a]! <0)=False:=by rw [hlt] at hcc;simpa using hcc
   rw [z2x _ d _ _ (by simp [hcc])]
   generalize d[a]! =x at*
   generalize d[i]! =y at*
   simp only [go_sem,lp168_0,hle,r10,r11,r12,r13,r20,r21,r22,r23,hc,hk,hk0,hget,hpset,hlenD,nn_,lm_,List.length_set]
 ·have hle:((i:Int)≤(j:Int))=False:=eF (by omega)
  rw [z2x _ d _ _ (by simp;omega)]
  simp only [go_sem,lp168_0,hle]
theorem par1s (X0:List (List AV))(a i:Nat)(ha:a<n)(hoth:0<i)(d:Array (Fin 256))(hsz:d.size=n)(lo hi2:Nat)(j:Nat)(hok:i≤j+1∧j<n)(env:Env)(st:St)
  (hg:gcAV false lo hi2 (canon env [0,1,4,12,13]) st=([(0,.rsl l 0 n n 1 ag),(1,J a),(4,.fn (.func k) [] caps),(12,J i),(13,J j)],⟨put S0 l (Dm gS d) X0,T⟩)):
  ∃x_1 en s,lim (headed pure (run L) false [0,1,4,12,13] lp168_1 lo hi2) env st=some (x_1,en,s)∧(x_1=.exit 2∧en.get 0=.rsl l 0 n n 1 ag∧en.get 1=J a∧en.get 4=.fn (.func k) [] caps∧en.get 12=J i∧en.get 13=J (Go.Sort.scanDown (fun x=> !lt x d[a]!) d i j)∧s=⟨put S0 l (Dm gS d) X0,T⟩):=by
 refine zb (α:=Nat) (fun j=>j) (fun j=>i≤j+1∧j<n) (fun j=>([(0,.rsl l 0 n n 1 ag),(1,J a),(4,.fn (.func k) [] caps),(12,J i),(13,J j)],⟨put S0 l (Dm gS d) X0,T⟩)) (fun j x_1 en s=>x_1=.exit 2∧en.get 0=.rsl l 0 n n 1 ag∧en.get 1=J a∧en.get 4=.fn (.func k) [] caps∧en.get 12=J i∧en.get 13=J (Go.Sort.scanDown (fun x=> !lt x d[a]!) d i j)∧s=⟨put S0 l (Dm gS d) X0,T⟩) (fun j hok=> ?_) j hok env st hg
 obtain ⟨h1,h2⟩:=hok
 have hget:=fun C E=>zz hl C E
 have hpset:=fun C C' E=>zy hl C C' E
 have hlenD:(Dm gS d).length=n:=by rw [z0h,hsz]
 by_cases h:i≤j
 ·have hle:((i:Int)≤(j:Int))=True:=eT (by omega)
  have hs:=z1p j (by omega) (by omega)
  have r30:(((a:Nat):Int)<(n:Int))=True:=eT (by omega)
  have r31:((a:Nat)<n)=True:=eT (by omega)
  have r32:((a:Nat)+1≤n)=True:=eT (by omega)
  have r33:((Dm gS d).drop (a)).take 1=[gS d[a]!]:=ze gS d (by omega)
  have r40:(((j:Nat):Int)<(n:Int))=True:=eT (by omega)
  have r41:((j:Nat)<n)=True:=eT (by omega)
  have r42:((j:Nat)+1≤n)=True:=eT (by omega)
  have r43:((Dm gS d).drop (j)).take 1=[gS d[j]!]:=ze gS d (by omega)
  cases hcc:lt d[j]! d[a]! with
  |true=>
   have hk0:(c d[j]! d[a]! <0)=True:=by rw [hlt] at hcc;simpa using hcc
   rw [z1k _ d _ _ (by simp [hcc])]
   generalize d[a]! =x at*
   generalize d[j]! =y at*
   simp only [go_sem,lp168_1,hle,r30,r31,r32,r33,r40,r41,r42,r43,hc,hk,hk0,hget,hpset,hlenD,nn_,lm_,List.length_set]
  |false=>
   have hk0:(c d[j]! d[a]! <0)=False:=by rw [hlt] at hcc;simpa using hcc
   rw [z80 _ d i j h (by omega) (by simp [hcc])]
   generalize d[a]! =x at*
   generalize d[j]! =y at*
   simp only [go_sem,lp168_1,hle,hs,r30,r31,r32,r33,r40,r41,r42,r43,hc,hk,hk0,hget,hpset,hlenD,nn_,lm_,List.length_set]
   refine ⟨j-1,by simp only [go_sem,z3,z4,z5]<;>rfl,?_,?_,fun x en s hq=> ?_⟩
   ·omega
   ·omega
   ·exact hq
 ·have hle:((i:Int)≤(j:Int))=False:=eF (by omega)
  rw [z1k _ d _ _ (by simp;omega)]
  simp only [go_sem,lp168_1,hle]
theorem par2s (X0:List (List AV))(a j:Nat)(ha:a<n)(hoth:j<n)(d:Array (Fin 256))(hsz:d.size=n)(lo hi2:Nat)(i:Nat)(hok:0<i∧i≤j+1)(env:Env)(st:St)
  (hg:gcAV false lo hi2 (canon env [0,1,4,12,13]) st=([(0,.rsl l 0 n n 1 ag),(1,J a),(4,.fn (.func k) [] caps),(12,J i),(13,J j)],⟨put S0 l (Dm gS d) X0,T⟩)):
  ∃x_1 en s,lim (headed pure (run L) false [0,1,4,12,13] lp168_2 lo hi2) env st=some (x_1,en,s)∧(x_1=.exit 6∧en.get 0=.rsl l 0 n n 1 ag∧en.get 1=J a∧en.get 4=.fn (.func k) [] caps∧en.get 12=J (Go.Sort.scanUp (fun x=>lt x d[a]!) d j i)∧en.get 13=J j∧s=⟨put S0 l (Dm gS d) X0,T⟩):=by
 refine zb (α:=Nat) (fun i=>j+1-i) (fun i=>0<i∧i≤j+1) (fun i=>([(0,.rsl l 0 n n 1 ag),(1,J a),(4,.fn (.func k) [] caps),(12,J i),(13,J j)],⟨put S0 l (Dm gS d) X0,T⟩)) (fun i x_1 en s=>x_1=.exit 6∧en.get 0=.rsl l 0 n n 1 ag∧en.get 1=J a∧en.get 4=.fn (.func k) [] caps∧en.get 12=J (Go.Sort.scanUp (fun x=>lt x d[a]!) d j i)∧en.get 13=J j∧s=⟨put S0 l (Dm gS d) X0,T⟩) (fun i hok=> ?_) i hok env st hg
 obtain ⟨h1,h2⟩:=hok
 have hget:=fun C E=>zz hl C E
 have hpset:=fun C C' E=>zy hl C C' E
 have hlenD:(Dm gS d).length=n:=by rw [z0h,hsz]
 by_cases h:i≤j
 ·have hle:((i:Int)≤(j:Int))=True:=eT (by omega)
  have hs:=zj i (by omega)
  have r50:(((a:Nat):Int)<(n:Int))=True:=eT (by omega)
  have r51:((a:Nat)<n)=True:=eT (by omega)
  have r52:((a:Nat)+1≤n)=True:=eT (by omega)
  have r53:((Dm gS d).drop (a)).take 1=[gS d[a]!]:=ze gS d (by omega)
  have r60:(((i:Nat):Int)<(n:Int))=True:=eT (by omega)
  have r61:((i:Nat)<n)=True:=eT (by omega)
  have r62:((i:Nat)+1≤n)=True:=eT (by omega)
  have r63:((Dm gS d).drop (i)).take 1=[gS d[i]!]:=ze gS d (by omega)
  cases hcc:lt d[i]! d[a]! with
  |true=>
   have hk0:(c d[i]! d[a]! <0)=True:=by rw [hlt] at hcc;simpa using hcc
   rw [zb1 _ d j i h (by simp [hcc])]
   generalize d[a]! =x at*
   generalize d[i]! =y at*
   simp only [go_sem,lp168_2,hle,hs,r50,r51,r52,r53,r60,r61,r62,r63,hc,hk,hk0,hget,hpset,hlenD,nn_,lm_,List.length_set]
   refine ⟨i+1,by simp only [go_sem,z3,z4,z5]<;>rfl,?_,?_,fun x en s hq=> ?_⟩
   ·omega
   ·omega
   ·exact hq
  |false=>
   have hk0:(c d[i]! d[a]! <0)=False:=by rw [hlt] at hcc;simpa using hcc
   rw [z2x _ d _ _ (by simp [hcc])]
   generalize d[a]! =x at*
   generalize d[i]! =y at*
   simp only [go_sem,lp168_2,hle,r50,r51,r52,r53,r60,r61,r62,r63,hc,hk,hk0,hget,hpset,hlenD,nn_,lm_,List.length_set]
 ·have hle:((i:Int)≤(j:Int))=False:=eF (by omega)
  rw [z2x _ d _ _ (by simp;omega)]
  simp only [go_sem,lp168_2,hle]
theorem par3s (X0:List (List AV))(a i:Nat)(ha:a<n)(hoth:0<i)(d:Array (Fin 256))(hsz:d.size=n)(lo hi2:Nat)(j:Nat)(hok:i≤j+1∧j<n)(env:Env)(st:St)
  (hg:gcAV false lo hi2 (canon env [0,1,4,12,13]) st=([(0,.rsl l 0 n n 1 ag),(1,J a),(4,.fn (.func k) [] caps),(12,J i),(13,J j)],⟨put S0 l (Dm gS d) X0,T⟩)):
  ∃x_1 en s,lim (headed pure (run L) false [0,1,4,12,13] lp168_3 lo hi2) env st=some (x_1,en,s)∧(x_1=.exit 8∧en.get 0=.rsl l 0 n n 1 ag∧en.get 1=J a∧en.get 4=.fn (.func k) [] caps∧en.get 12=J i∧en.get 13=J (Go.Sort.scanDown (fun x=> !lt x d[a]!) d i j)∧s=⟨put S0 l (Dm gS d) X0,T⟩):=by
 refine zb (α:=Nat) (fun j=>j) (fun j=>i≤j+1∧j<n) (fun j=>([(0,.rsl l 0 n n 1 ag),(1,J a),(4,.fn (.func k) [] caps),(12,J i),(13,J j)],⟨put S0 l (Dm gS d) X0,T⟩)) (fun j x_1 en s=>x_1=.exit 8∧en.get 0=.rsl l 0 n n 1 ag∧en.get 1=J a∧en.get 4=.fn (.func k) [] caps∧en.get 12=J i∧en.get 13=J (Go.Sort.scanDown (fun x=> !lt x d[a]!) d i j)∧s=⟨put S0 l (Dm gS d) X0,T⟩) (fun j hok=> ?_) j hok env st hg
 obtain ⟨h1,h2⟩:=hok
 have hget:=fun C E=>zz hl C E
 have hpset:=fun C C' E=>zy hl C C' E
 have hlenD:(Dm gS d).length=n:=by rw [z0h,hsz]
 by_cases h:i≤j
 ·have hle:((i:Int)≤(j:Int))=True:=eT (by omega)
  have hs:=z1p j (by omega) (by omega)
  have r70:(((a:Nat):Int)<(n:Int))=True:=eT (by omega)
  have r71:((a:Nat)<n)=True:=eT (by omega)
  have r72:((a:Nat)+1≤n)=True:=eT (by omega)
  have r73:((Dm gS d).drop (a)).take 1=[gS d[a]!]:=ze gS d (by omega)
  have r80:(((j:Nat):Int)<(n:Int))=True:=eT (by omega)
  have r81:((j:Nat)<n)=True:=eT (by omega)
  have r82:((j:Nat)+1≤n)=True:=eT (by omega)
  have r83:((Dm gS d).drop (j)).take 1=[gS d[j]!]:=ze gS d (by omega)
  cases hcc:lt d[j]! d[a]! with
  |true=>
   have hk0:(c d[j]! d[a]! <0)=True:=by rw [hlt] at hcc;simpa using hcc
   rw [z1k _ d _ _ (by simp [hcc])]
   generalize d[a]! =x at*
   generalize d[j]! =y at*
   simp only [go_sem,lp168_3,hle,r70,r71,r72,r73,r80,r81,r82,r83,hc,hk,hk0,hget,hpset,hlenD,nn_,lm_,List.length_set]
  |false=>
   have hk0:(c d[j]! d[a]! <0)=False:=by rw [hlt] at hcc;simpa using hcc
   rw [z80 _ d i j h (by omega) (by simp [hcc])]
   generalize d[a]! =x at*
   generalize d[j]! =y at*
   simp only [go_sem,lp168_3,hle,hs,r70,r71,r72,r73,r80,r81,r82,r83,hc,hk,hk0,hget,hpset,hlenD,nn_,lm_,List.length_set]
   refine ⟨j-1,by simp only [go_sem,z3,z4,z5]<;>rfl,?_,?_,fun x en s hq=> ?_⟩
   ·omega
   ·omega
   ·exact hq
 ·have hle:((i:Int)≤(j:Int))=False:=eF (by omega)
  rw [z1k _ d _ _ (by simp;omega)]
  simp only [go_sem,lp168_3,hle]
theorem peq0s (X0:List (List AV))(a j:Nat)(ha:a<n)(hoth:j<n)(d:Array (Fin 256))(hsz:d.size=n)(lo hi2:Nat)(i:Nat)(hok:0<i∧i≤j+1)(env:Env)(st:St)
  (hg:gcAV false lo hi2 (canon env [0,1,4,11,12]) st=([(0,.rsl l 0 n n 1 ag),(1,J a),(4,.fn (.func k) [] caps),(11,J i),(12,J j)],⟨put S0 l (Dm gS d) X0,T⟩)):
  ∃x_1 en s,lim (headed pure (run L) false [0,1,4,11,12] lp167_0 lo hi2) env st=some (x_1,en,s)∧(x_1=.exit 2∧en.get 0=.rsl l 0 n n 1 ag∧en.get 1=J a∧en.get 4=.fn (.func k) [] caps∧en.get 11=J (Go.Sort.scanUp (fun x=> !lt d[a]! x) d j i)∧en.get 12=J j∧s=⟨put S0 l (Dm gS d) X0,T⟩):=by
 refine zb (α:=Nat) (fun i=>j+1-i) (fun i=>0<i∧i≤j+1) (fun i=>([(0,.rsl l 0 n n 1 ag),(1,J a),(4,.fn (.func k) [] caps),(11,J i),(12,J j)],⟨put S0 l (Dm gS d) X0,T⟩)) (fun i x_1 en s=>x_1=.exit 2∧en.get 0=.rsl l 0 n n 1 ag∧en.get 1=J a∧en.get 4=.fn (.func k) [] caps∧en.get 11=J (Go.Sort.scanUp (fun x=> !lt d[a]! x) d j i)∧en.get 12=J j∧s=⟨put S0 l (Dm gS d) X0,T⟩) (fun i hok=> ?_) i hok env st hg
 obtain ⟨h1,h2⟩:=hok
 have hget:=fun C E=>zz hl C E
 have hpset:=fun C C' E=>zy hl C C' E
 have hlenD:(Dm gS d).length=n:=by rw [z0h,hsz]
 by_cases h:i≤j
 ·have hle:((i:Int)≤(j:Int))=True:=eT (by omega)
  have hs:=zj i (by omega)
  have r90:(((a:Nat):Int)<(n:Int))=True:=eT (by omega)
  have r91:((a:Nat)<n)=True:=eT (by omega)
  have r92:((a:Nat)+1≤n)=True:=eT (by omega)
  have r93:((Dm gS d).drop (a)).take 1=[gS d[a]!]:=ze gS d (by omega)
  have r100:(((i:Nat):Int)<(n:Int))=True:=eT (by omega)
  have r101:((i:Nat)<n)=True:=eT (by omega)
  have r102:((i:Nat)+1≤n)=True:=eT (by omega)
  have r103:((Dm gS d).drop (i)).take 1=[gS d[i]!]:=ze gS d (by omega)
  cases hcc:lt d[a]! d[i]! with
  |true=>
   have hk0:(c d[a]! d[i]! <0)=True:=by rw [hlt] at hcc;simpa using hcc
   rw [z2x _ d _ _ (by simp [hcc])]
   generalize d[a]! =x at*
   generalize d[i]! =y at*
   simp only [go_sem,lp167_0,hle,r90,r91,r92,r93,r100,r101,r102,r103,hc,hk,hk0,hget,hpset,hlenD,nn_,lm_,List.length_set]
  |false=>
   have hk0:(c d[a]! d[i]! <0)=False:=by rw [hlt] at hcc;simpa using hcc
   rw [zb1 _ d j i h (by simp [hcc])]
   generalize d[a]! =x at*
   generalize d[i]! =y at*
   simp only [go_sem,lp167_0,hle,hs,r90,r91,r92,r93,r100,r101,r102,r103,hc,hk,hk0,hget,hpset,hlenD,nn_,lm_,List.length_set]
   refine ⟨i+1,by simp only [go_sem,z3,z4,z5]<;>rfl,?_,?_,fun x en s hq=> ?_⟩
   ·omega
   ·omega
   ·exact hq
 ·have hle:((i:Int)≤(j:Int))=False:=eF (by omega)
  rw [z2x _ d _ _ (by simp;omega)]
  simp only [go_sem,lp167_0,hle]
theorem peq1s (X0:List (List AV))(a i:Nat)(ha:a<n)(hoth:0<i)(d:Array (Fin 256))(hsz:d.size=n)(lo hi2:Nat)(j:Nat)(hok:i≤j+1∧j<n)(env:Env)(st:St)
  (hg:gcAV false lo hi2 (canon env [0,1,4,11,12]) st=([(0,.rsl l 0 n n 1 ag),(1,J a),(4,.fn (.func k) [] caps),(11,J i),(12,J j)],⟨put S0 l (Dm gS d) X0,T⟩)):
  ∃x_1 en s,lim (headed pure (run L) false [0,1,4,11,12] lp167_1 lo hi2) env st=some (x_1,en,s)∧(x_1=.exit 4∧en.get 0=.rsl l 0 n n 1 ag∧en.get 1=J a∧en.get 4=.fn (.func k) [] caps∧en.get 11=J i∧en.get 12=J (Go.Sort.scanDown (fun x=>lt d[a]! x) d i j)∧s=⟨put S0 l (Dm gS d) X0,T⟩):=by
 refine zb (α:=Nat) (fun j=>j) (fun j=>i≤j+1∧j<n) (fun j=>([(0,.rsl l 0 n n 1 ag),(1,J a),(4,.fn (.func k) [] caps),(11,J i),(12,J j)],⟨put S0 l (Dm gS d) X0,T⟩)) (fun j x_1 en s=>x_1=.exit 4∧en.get 0=.rsl l 0 n n 1 ag∧en.get 1=J a∧en.get 4=.fn (.func k) [] caps∧en.get 11=J i∧en.get 12=J (Go.Sort.scanDown (fun x=>lt d[a]! x) d i j)∧s=⟨put S0 l (Dm gS d) X0,T⟩) (fun j hok=> ?_) j hok env st hg
 obtain ⟨h1,h2⟩:=hok
 have hget:=fun C E=>zz hl C E
 have hpset:=fun C C' E=>zy hl C C' E
 have hlenD:(Dm gS d).length=n:=by rw [z0h,hsz]
 by_cases h:i≤j
 ·have hle:((i:Int)≤(j:Int))=True:=eT (by omega)
  have hs:=z1p j (by omega) (by omega)
  have r110:(((a:Nat):Int)<(n:Int))=True:=eT (by omega)
  have r111:((a:Nat)<n)=True:=eT (by omega)
  have r112:((a:Nat)+1≤n)=True:=eT (by omega)
  have r113:((Dm gS d).drop (a)).take 1=[gS d[a]!]:=ze gS d (by omega)
  have r120:(((j:Nat):Int)<(n:Int))=True:=eT (by omega)
  have r121:((j:Nat)<n)=True:=eT (by omega)
  have r122:((j:Nat)+1≤n)=True:=eT (by omega)
  have r123:((Dm gS d).drop (j)).take 1=[gS d[j]!]:=ze gS d (by omega)
  cases hcc:lt d[a]! d[j]! with
  |true=>
   have hk0:(c d[a]! d[j]! <0)=True:=by rw [hlt] at hcc;simpa using hcc
   rw [z80 _ d i j h (by omega) (by simp [hcc])]
   generalize d[a]! =x at*
   generalize d[j]! =y at*
   simp only [go_sem,lp167_1,hle,hs,r110,r111,r112,r113,r120,r121,r122,r123,hc,hk,hk0,hget,hpset,hlenD,nn_,lm_,List.length_set]
   refine ⟨j-1,by simp only [go_sem,z3,z4,z5]<;>rfl,?_,?_,fun x en s hq=> ?_⟩
   ·omega
   ·omega
   ·exact hq
  |false=>
   have hk0:(c d[a]! d[j]! <0)=False:=by rw [hlt] at hcc;simpa using hcc
   rw [z1k _ d _ _ (by simp [hcc])]
   generalize d[a]! =x at*
   generalize d[j]! =y at*
   simp only [go_sem,lp167_1,hle,r110,r111,r112,r113,r120,r121,r122,r123,hc,hk,hk0,hget,hpset,hlenD,nn_,lm_,List.length_set]
 ·have hle:((i:Int)≤(j:Int))=False:=eF (by omega)
  rw [z1k _ d _ _ (by simp;omega)]
  simp only [go_sem,lp167_1,hle]
theorem par4s (X0:List (List AV))(a:Nat)(ha:a<n)(lo hi2:Nat)(i:Nat)(j:Nat)(d:Array (Fin 256))(hok:a<i∧i≤j+1∧j<n∧d.size=n)(env:Env)(st:St)
  (hg:gcAV false lo hi2 (canon env [0,1,4,12,13]) st=([(0,.rsl l 0 n n 1 ag),(1,J a),(4,.fn (.func k) [] caps),(12,J i),(13,J j)],⟨put S0 l (Dm gS d) X0,T⟩)):
  ∃x_1 en s,lim (headed pure (run L) false [0,1,4,12,13] lp168_4 lo hi2) env st=some (x_1,en,s)∧(x_1=.exit 4∧en.get 0=.rsl l 0 n n 1 ag∧en.get 1=J a∧en.get 4=.fn (.func k) [] caps∧en.get 13=J (Go.Sort.partLoop lt a i j d).1∧s=⟨put S0 l (Dm gS (Go.Sort.partLoop lt a i j d).2) X0,T⟩):=by
 refine zb (α:=Nat×Nat×Array (Fin 256)) (fun ⟨i,j,d⟩=>j+1-i) (fun ⟨i,j,d⟩=>a<i∧i≤j+1∧j<n∧d.size=n) (fun ⟨i,j,d⟩=>([(0,.rsl l 0 n n 1 ag),(1,J a),(4,.fn (.func k) [] caps),(12,J i),(13,J j)],⟨put S0 l (Dm gS d) X0,T⟩)) (fun ⟨i,j,d⟩ x_1 en s=>x_1=.exit 4∧en.get 0=.rsl l 0 n n 1 ag∧en.get 1=J a∧en.get 4=.fn (.func k) [] caps∧en.get 13=J (Go.Sort.partLoop lt a i j d).1∧s=⟨put S0 l (Dm gS (Go.Sort.partLoop lt a i j d).2) X0,T⟩) (fun ⟨i,j,d⟩ hok=> ?_) ⟨i,j,d⟩ hok env st hg
 simp only at hok
 obtain ⟨h1,h2,h3,hsz⟩:=hok
 dsimp only at h1 h2 h3 hsz⊢
 have hf:=z9w (fun x=>lt x d[a]!) (fun x=> !lt x d[a]!) (fun _=>rfl) d (i:=i) (j:=j) (by omega) h2
 rw [Go.Sort.partLoop_eq]
 simp only [go_sem,lp168_4]
 generalize hg:lim (headed pure (run L) false _ lp168_2 _ _) _ _=o
 obtain ⟨x,en,s,rfl,h2⟩: ∃x en s,o=some (x,en,s)∧_:=by rw [←hg];exact par2s S0 T l hl n hn ag k hk caps c lt hlt hc X0 a j ha h3 d hsz _ _ i ⟨by omega,h2⟩ _ _ (by simp only [go_sem]<;>rfl)
 clear hg
 obtain ⟨rfl,e0,e1,e4,e12,e13,rfl⟩:=h2
 generalize Go.Sort.scanUp (fun x=>lt x d[a]!) d j i=i2 at*
 simp only [go_sem,lp168_4,e0,e1,e4,e12,e13]
 generalize hg:lim (headed pure (run L) false _ lp168_3 _ _) _ _=o
 obtain ⟨x,en,s,rfl,h2⟩: ∃x en s,o=some (x,en,s)∧_:=by rw [←hg];exact par3s S0 T l hl n hn ag k hk caps c lt hlt hc X0 a i2 ha (by omega) d hsz _ _ j ⟨by omega,h3⟩ _ _ (by simp only [go_sem,e0,e1,e4,e12,e13]<;>rfl)
 clear hg
 clear e0 e1 e4 e12 e13
 obtain ⟨rfl,e0,e1,e4,e12,e13,rfl⟩:=h2
 generalize Go.Sort.scanDown (fun x=> !lt x d[a]!) d i2 j=j2 at*
 by_cases p:i2>j2
 ·have q:((j2:Int)<(i2:Int))=True:=eT (by omega)
  rw [if_pos p]
  simp only [go_sem,lp168_4,e0,e1,e4,e12,e13,q]
 ·have q:((j2:Int)<(i2:Int))=False:=eF (by omega)
  rw [if_neg p]
  have hf5:=hf.2.2.2.2 p
  have hs:=zj i2 (by omega)
  have hw:=z1p j2 (by omega) (by omega)
  have hget:=fun C E=>zz hl C E
  have hpset:=fun C C' E=>zy hl C C' E
  have hlenD:(Dm gS d).length=n:=by rw [z0h,hsz]
  have r130:(((i2:Nat):Int)<(n:Int))=True:=eT (by omega)
  have r131:((i2:Nat)<n)=True:=eT (by omega)
  have r132:((i2:Nat)+1≤n)=True:=eT (by omega)
  have r133:((Dm gS d).drop (i2)).take 1=[gS d[i2]!]:=ze gS d (by omega)
  have r140:(((j2:Nat):Int)<(n:Int))=True:=eT (by omega)
  have r141:((j2:Nat)<n)=True:=eT (by omega)
  have r142:((j2:Nat)+1≤n)=True:=eT (by omega)
  have r143:((Dm gS d).drop (j2)).take 1=[gS d[j2]!]:=ze gS d (by omega)
  have hsw:=z2q gS d i2 j2
  have hsz1:=zx (i:=i2) (j:=j2) hsz
  generalize d[i2]! =x at*
  generalize d[j2]! =y at*
  generalize Go.Sort.swp d i2 j2=d1 at*
  simp only [go_sem,lp168_4,e0,e1,e4,e12,e13,q,hs,hw,r130,r131,r132,r133,r140,r141,r142,r143,hsw,hget,hpset,hlenD,nn_,lm_,List.length_set]
  refine ⟨(i2+1,j2-1,d1),by simp only [go_sem,z3,z4,z5,e0,e1,e4]<;>rfl,?_,?_,fun x en s hq=> ?_⟩
  ·dsimp only;exact ⟨by omega,by omega,by omega,hsz1⟩
  ·dsimp only;omega
  ·exact hq
theorem pars (X0:List (List AV))(d:Array (Fin 256))(hsz:d.size=n)(a b v:Nat)(hab:a+1<b)(hb:b≤n)(hv:v<n):
  run L 168 [.rsl l 0 n n 1 ag,J a,J b,J v,.fn (.func k) [] caps] ⟨put S0 l (Dm gS d) X0,T⟩=some (.tup [J (Go.Sort.partition lt d a b v).1,B (Go.Sort.partition lt d a b v).2.1],⟨put S0 l (Dm gS (Go.Sort.partition lt d a b v).2.2) X0,T⟩):=by
 rw [zc (fn:=ir168) rfl rfl]
 have ha1:=zj a (by omega)
 have hb1:=z1p b (by omega) (by omega)
 have e:Go.Sort.partition lt d a b v=(let d0:=Go.Sort.swp d a v;let i:=Go.Sort.scanUp (fun x=>lt x d0[a]!) d0 (b-1) (a+1);let j:=Go.Sort.scanDown (fun x=> !lt x d0[a]!) d0 i (b-1);if i>j then (j,true,Go.Sort.swp d0 j a) else ((Go.Sort.partLoop lt a (i+1) (j-1) (Go.Sort.swp d0 i j)).1,false,Go.Sort.swp (Go.Sort.partLoop lt a (i+1) (j-1) (Go.Sort.swp d0 i j)).2 (Go.Sort.partLoop lt a (i+1) (j-1) (Go.Sort.swp d0 i j)).1 a)):=rfl
 rw [e]
 have hget:=fun C E=>zz hl C E
 have hpset:=fun C C' E=>zy hl C C' E
 have hlenD:(Dm gS d).length=n:=by rw [z0h,hsz]
 have r150:(((a:Nat):Int)<(n:Int))=True:=eT (by omega)
 have r151:((a:Nat)<n)=True:=eT (by omega)
 have r152:((a:Nat)+1≤n)=True:=eT (by omega)
 have r153:((Dm gS d).drop (a)).take 1=[gS d[a]!]:=ze gS d (by omega)
 have r160:(((v:Nat):Int)<(n:Int))=True:=eT (by omega)
 have r161:((v:Nat)<n)=True:=eT (by omega)
 have r162:((v:Nat)+1≤n)=True:=eT (by omega)
 have r163:((Dm gS d).drop (v)).take 1=[gS d[v]!]:=ze gS d (by omega)
 have hsw:=z2q gS d a v
 have hsz0:=zx (i:=a) (j:=v) hsz
 generalize d[a]! =x at*
 generalize d[v]! =y at*
 generalize Go.Sort.swp d a v=d0 at*
 simp only [ir168,go_sem,ha1,hb1,r150,r151,r152,r153,r160,r161,r162,r163,hsw,hget,hpset,hlenD,nn_,lm_,List.length_set]
 have hf:=z9w (fun x=>lt x d0[a]!) (fun x=> !lt x d0[a]!) (fun _=>rfl) d0 (i:=a+1) (j:=b-1) (by omega) (by omega)
 generalize hg:lim (headed pure (run L) false _ lp168_0 _ _) _ _=o
 obtain ⟨x,en,s,rfl,h2⟩: ∃x en s,o=some (x,en,s)∧_:=by rw [←hg];exact par0s S0 T l hl n hn ag k hk caps c lt hlt hc X0 a (b-1) (by omega) (by omega) d0 hsz0 _ _ (a+1) ⟨by omega,by omega⟩ _ _ (by simp only [go_sem]<;>rfl)
 clear hg
 obtain ⟨rfl,e0,e1,e4,e12,e13,rfl⟩:=h2
 generalize Go.Sort.scanUp (fun x=>lt x d0[a]!) d0 (b-1) (a+1)=i2 at*
 simp only [go_sem,e0,e1,e4,e12,e13]
 generalize hg:lim (headed pure (run L) false _ lp168_1 _ _) _ _=o
 obtain ⟨x,en,s,rfl,h2⟩: ∃x en s,o=some (x,en,s)∧_:=by rw [←hg];exact par1s S0 T l hl n hn ag k hk caps c lt hlt hc X0 a i2 (by omega) (by omega) d0 hsz0 _ _ (b-1) ⟨by omega,by omega⟩ _ _ (by simp only [go_sem,e0,e1,e4,e12,e13]<;>rfl)
 clear hg
 clear e0 e1 e4 e12 e13
 obtain ⟨rfl,e0,e1,e4,e12,e13,rfl⟩:=h2
 generalize Go.Sort.scanDown (fun x=> !lt x d0[a]!) d0 i2 (b-1)=j2 at*
 clear hget hpset hlenD
 have hget:=fun C E=>zz hl C E
 have hpset:=fun C C' E=>zy hl C C' E
 have hlenD:(Dm gS d0).length=n:=by rw [z0h,hsz0]
 by_cases p:i2>j2
 ·have q:((j2:Int)<(i2:Int))=True:=eT (by omega)
  rw [if_pos p]
  have r170:(((j2:Nat):Int)<(n:Int))=True:=eT (by omega)
  have r171:((j2:Nat)<n)=True:=eT (by omega)
  have r172:((j2:Nat)+1≤n)=True:=eT (by omega)
  have r173:((Dm gS d0).drop (j2)).take 1=[gS d0[j2]!]:=ze gS d0 (by omega)
  have r180:(((a:Nat):Int)<(n:Int))=True:=eT (by omega)
  have r181:((a:Nat)<n)=True:=eT (by omega)
  have r182:((a:Nat)+1≤n)=True:=eT (by omega)
  have r183:((Dm gS d0).drop (a)).take 1=[gS d0[a]!]:=ze gS d0 (by omega)
  have hsw2:=z2q gS d0 j2 a
  generalize d0[a]! =x2 at*
  generalize d0[j2]! =y2 at*
  simp only [go_sem,e0,e1,e4,e12,e13,q,r170,r171,r172,r173,r180,r181,r182,r183,hsw2,hget,hpset,hlenD,nn_,lm_,List.length_set]
 ·have q:((j2:Int)<(i2:Int))=False:=eF (by omega)
  rw [if_neg p]
  have hf5:=hf.2.2.2.2 p
  have hs:=zj i2 (by omega)
  have hw:=z1p j2 (by omega) (by omega)
  have r190:(((i2:Nat):Int)<(n:Int))=True:=eT (by omega)
  have r191:((i2:Nat)<n)=True:=eT (by omega)
  have r192:((i2:Nat)+1≤n)=True:=eT (by omega)
  have r193:((Dm gS d0).drop (i2)).take 1=[gS d0[i2]!]:=ze gS d0 (by omega)
  have r200:(((j2:Nat):Int)<(n:Int))=True:=eT (by omega)
  have r201:((j2:Nat)<n)=True:=eT (by omega)
  have r202:((j2:Nat)+1≤n)=True:=eT (by omega)
  have r203:((Dm gS d0).drop (j2)).take 1=[gS d0[j2]!]:=ze gS d0 (by omega)
  have hsw2:=z2q gS d0 i2 j2
  have hsz1:=zx (i:=i2) (j:=j2) hsz0
  generalize d0[i2]! =x2 at*
  generalize d0[j2]! =y2 at*
  generalize Go.Sort.swp d0 i2 j2=d1 at*
  simp only [go_sem,e0,e1,e4,e12,e13,q,hs,hw,r190,r191,r192,r193,r200,r201,r202,r203,hsw2,hget,hpset,hlenD,nn_,lm_,List.length_set]
  have hpo:=z84 lt a _ (i2+1) (j2-1) d1 (Nat.le_refl _) (by omega) (by omega)
  generalize hg:lim (headed pure (run L) false _ lp168_4 _ _) _ _=o
  obtain ⟨x,en,s,rfl,h2⟩: ∃x en s,o=some (x,en,s)∧_:=by rw [←hg];exact par4s S0 T l hl n hn ag k hk caps c lt hlt hc X0 a (by omega) _ _ (i2+1) (j2-1) d1 ⟨by omega,by omega,by omega,hsz1⟩ _ _ (by simp only [go_sem,e0,e1,e4,e12,e13]<;>rfl)
  clear hg
  clear e0 e1 e4 e12 e13 hget hpset hlenD
  obtain ⟨rfl,e0,e1,e4,e13,rfl⟩:=h2
  generalize Go.Sort.partLoop lt a (i2+1) (j2-1) d1=r at*
  obtain ⟨j3,d2⟩:=r
  dsimp only at*
  have hsz2:d2.size=n:=by rw [hpo.1,hsz1]
  have hget:=fun C E=>zz hl C E
  have hpset:=fun C C' E=>zy hl C C' E
  have hlenD:(Dm gS d2).length=n:=by rw [z0h,hsz2]
  have r210:(((j3:Nat):Int)<(n:Int))=True:=eT (by omega)
  have r211:((j3:Nat)<n)=True:=eT (by omega)
  have r212:((j3:Nat)+1≤n)=True:=eT (by omega)
  have r213:((Dm gS d2).drop (j3)).take 1=[gS d2[j3]!]:=ze gS d2 (by omega)
  have r220:(((a:Nat):Int)<(n:Int))=True:=eT (by omega)
  have r221:((a:Nat)<n)=True:=eT (by omega)
  have r222:((a:Nat)+1≤n)=True:=eT (by omega)
  have r223:((Dm gS d2).drop (a)).take 1=[gS d2[a]!]:=ze gS d2 (by omega)
  have hsw3:=z2q gS d2 j3 a
  generalize d2[j3]! =x3 at*
  generalize d2[a]! =y3 at*
  simp only [go_sem,e0,e1,e4,e13,r210,r211,r212,r213,r220,r221,r222,r223,hsw3,hget,hpset,hlenD,nn_,lm_,List.length_set]
theorem peq2s (X0:List (List AV))(a:Nat)(ha:a<n)(lo hi2:Nat)(i:Nat)(j:Nat)(d:Array (Fin 256))(hok:a<i∧i≤j+1∧j<n∧d.size=n)(env:Env)(st:St)
  (hg:gcAV false lo hi2 (canon env [0,1,4,11,12]) st=([(0,.rsl l 0 n n 1 ag),(1,J a),(4,.fn (.func k) [] caps),(11,J i),(12,J j)],⟨put S0 l (Dm gS d) X0,T⟩)):
  ∃x_1 en s,lim (headed pure (run L) false [0,1,4,11,12] lp167_2 lo hi2) env st=some (x_1,en,s)∧(x_1=.exit 0∧en.get 11=J (Go.Sort.partEqLoop lt a i j d).1∧s=⟨put S0 l (Dm gS (Go.Sort.partEqLoop lt a i j d).2) X0,T⟩):=by
 refine zb (α:=Nat×Nat×Array (Fin 256)) (fun ⟨i,j,d⟩=>j+1-i) (fun ⟨i,j,d⟩=>a<i∧i≤j+1∧j<n∧d.size=n) (fun ⟨i,j,d⟩=>([(0,.rsl l 0 n n 1 ag),(1,J a),(4,.fn (.func k) [] caps),(11,J i),(12,J j)],⟨put S0 l (Dm gS d) X0,T⟩)) (fun ⟨i,j,d⟩ x_1 en s=>x_1=.exit 0∧en.get 11=J (Go.Sort.partEqLoop lt a i j d).1∧s=⟨put S0 l (Dm gS (Go.Sort.partEqLoop lt a i j d).2) X0,T⟩) (fun ⟨i,j,d⟩ hok=> ?_) ⟨i,j,d⟩ hok env st hg
 simp only at hok
 obtain ⟨h1,h2,h3,hsz⟩:=hok
 dsimp only at h1 h2 h3 hsz⊢
 have hf:=z9w (fun x=> !lt d[a]! x) (fun x=>lt d[a]! x) (fun x=>by simp) d (i:=i) (j:=j) (by omega) h2
 rw [Go.Sort.partEqLoop_eq]
 simp only [go_sem,lp167_2]
 generalize hg:lim (headed pure (run L) false _ lp167_0 _ _) _ _=o
 obtain ⟨x,en,s,rfl,h2⟩: ∃x en s,o=some (x,en,s)∧_:=by rw [←hg];exact peq0s S0 T l hl n hn ag k hk caps c lt hlt hc X0 a j ha h3 d hsz _ _ i ⟨by omega,h2⟩ _ _ (by simp only [go_sem]<;>rfl)
 clear hg
 obtain ⟨rfl,e0,e1,e4,e12,e13,rfl⟩:=h2
 generalize Go.Sort.scanUp (fun x=> !lt d[a]! x) d j i=i2 at*
 simp only [go_sem,lp167_2,e0,e1,e4,e12,e13]
 generalize hg:lim (headed pure (run L) false _ lp167_1 _ _) _ _=o
 obtain ⟨x,en,s,rfl,h2⟩: ∃x en s,o=some (x,en,s)∧_:=by rw [←hg];exact peq1s S0 T l hl n hn ag k hk caps c lt hlt hc X0 a i2 ha (by omega) d hsz _ _ j ⟨by omega,h3⟩ _ _ (by simp only [go_sem,e0,e1,e4,e12,e13]<;>rfl)
 clear hg
 clear e0 e1 e4 e12 e13
 obtain ⟨rfl,e0,e1,e4,e12,e13,rfl⟩:=h2
 generalize Go.Sort.scanDown (fun x=>lt d[a]! x) d i2 j=j2 at*
 by_cases p:i2>j2
 ·have q:((j2:Int)<(i2:Int))=True:=eT (by omega)
  rw [if_pos p]
  simp only [go_sem,lp167_2,e0,e1,e4,e12,e13,q]
 ·have q:((j2:Int)<(i2:Int))=False:=eF (by omega)
  rw [if_neg p]
  have hf5:=hf.2.2.2.2 p
  have hs:=zj i2 (by omega)
  have hw:=z1p j2 (by omega) (by omega)
  have hget:=fun C E=>zz hl C E
  have hpset:=fun C C' E=>zy hl C C' E
  have hlenD:(Dm gS d).length=n:=by rw [z0h,hsz]
  have r230:(((i2:Nat):Int)<(n:Int))=True:=eT (by omega)
  have r231:((i2:Nat)<n)=True:=eT (by omega)
  have r232:((i2:Nat)+1≤n)=True:=eT (by omega)
  have r233:((Dm gS d).drop (i2)).take 1=[gS d[i2]!]:=ze gS d (by omega)
  have r240:(((j2:Nat):Int)<(n:Int))=True:=eT (by omega)
  have r241:((j2:Nat)<n)=True:=eT (by omega)
  have r242:((j2:Nat)+1≤n)=True:=eT (by omega)
  have r243:((Dm gS d).drop (j2)).take 1=[gS d[j2]!]:=ze gS d (by omega)
  have hsw:=z2q gS d i2 j2
  have hsz1:=zx (i:=i2) (j:=j2) hsz
  generalize d[i2]! =x at*
  generalize d[j2]! =y at*
  generalize Go.Sort.swp d i2 j2=d1 at*
  simp only [go_sem,lp167_2,e0,e1,e4,e12,e13,q,hs,hw,r230,r231,r232,r233,r240,r241,r242,r243,hsw,hget,hpset,hlenD,nn_,lm_,List.length_set]
  refine ⟨(i2+1,j2-1,d1),by simp only [go_sem,z3,z4,z5,e0,e1,e4]<;>rfl,?_,?_,fun x en s hq=> ?_⟩
  ·dsimp only;exact ⟨by omega,by omega,by omega,hsz1⟩
  ·dsimp only;omega
  ·exact hq
theorem peqs (X0:List (List AV))(d:Array (Fin 256))(hsz:d.size=n)(a b v:Nat)(hab:a+1<b)(hb:b≤n)(hv:v<n):
  run L 167 [.rsl l 0 n n 1 ag,J a,J b,J v,.fn (.func k) [] caps] ⟨put S0 l (Dm gS d) X0,T⟩=some (J (Go.Sort.partitionEqual lt d a b v).1,⟨put S0 l (Dm gS (Go.Sort.partitionEqual lt d a b v).2) X0,T⟩):=by
 rw [zc (fn:=ir167) rfl rfl]
 have ha1:=zj a (by omega)
 have hb1:=z1p b (by omega) (by omega)
 have e:Go.Sort.partitionEqual lt d a b v=Go.Sort.partEqLoop lt a (a+1) (b-1) (Go.Sort.swp d a v):=rfl
 rw [e]
 have hget:=fun C E=>zz hl C E
 have hpset:=fun C C' E=>zy hl C C' E
 have hlenD:(Dm gS d).length=n:=by rw [z0h,hsz]
 have r250:(((a:Nat):Int)<(n:Int))=True:=eT (by omega)
 have r251:((a:Nat)<n)=True:=eT (by omega)
 have r252:((a:Nat)+1≤n)=True:=eT (by omega)
 have r253:((Dm gS d).drop (a)).take 1=[gS d[a]!]:=ze gS d (by omega)
 have r260:(((v:Nat):Int)<(n:Int))=True:=eT (by omega)
 have r261:((v:Nat)<n)=True:=eT (by omega)
 have r262:((v:Nat)+1≤n)=True:=eT (by omega)
 have r263:((Dm gS d).drop (v)).take 1=[gS d[v]!]:=ze gS d (by omega)
 have hsw:=z2q gS d a v
 have hsz0:=zx (i:=a) (j:=v) hsz
 generalize d[a]! =x at*
 generalize d[v]! =y at*
 generalize Go.Sort.swp d a v=d0 at*
 simp only [ir167,go_sem,ha1,hb1,r250,r251,r252,r253,r260,r261,r262,r263,hsw,hget,hpset,hlenD,nn_,lm_,List.length_set]
 generalize hg:lim (headed pure (run L) false _ lp167_2 _ _) _ _=o
 obtain ⟨x,en,s,rfl,h2⟩: ∃x en s,o=some (x,en,s)∧_:=by rw [←hg];exact peq2s S0 T l hl n hn ag k hk caps c lt hlt hc X0 a (by omega) _ _ (a+1) (b-1) d0 ⟨by omega,by omega,by omega,hsz0⟩ _ _ (by simp only [go_sem]<;>rfl)
 clear hg
 obtain ⟨rfl,e11,rfl⟩:=h2
 simp only [go_sem,e11]
end
attribute [local go_sem] m_ x_ l_ k_ o_ t_ a_ s_ q_ b_ c_ u_ g_ zd zi zh z6 zg
def tl129:IC:=(.seq (.seq (.ops [⟨(some 81),none,.move (.tmp 1)⟩,⟨(some 82),none,.bin .gtr none (.tmp 81) (.const (.int .i64 0))⟩,⟨(some 83),none,.move (.tmp 82)⟩,⟨(some 84),(some (83,true)),.move (.tmp 4)⟩,⟨(some 85),(some (83,true)),.move (.tmp 0)⟩,⟨(some 86),(some (83,true)),.move (.tmp 1)⟩,⟨(some 87),(some (83,true)),.bin .sub none (.tmp 86) (.const (.int .i64 1))⟩,⟨(some 88),(some (83,true)),.indexS 1 (.tmp 85) (.tmp 87)⟩,⟨(some 89),(some (83,true)),.load 1 true (.tmp 88)⟩,⟨(some 90),(some (83,true)),.move (.tmp 0)⟩,⟨(some 91),(some (83,true)),.move (.tmp 13)⟩,⟨(some 92),(some (83,true)),.indexS 1 (.tmp 90) (.tmp 91)⟩,⟨(some 93),(some (83,true)),.load 1 true (.tmp 92)⟩,⟨(some 94),(some (83,true)),.callv true (.tmp 84) [(.tmp 89),(.tmp 93)]⟩,⟨(some 95),(some (83,true)),.bin .lss none (.tmp 94) (.const (.int .i64 0))⟩,⟨(some 96),(some (83,true)),.not (.tmp 95)⟩,⟨(some 97),none,.pick (.tmp 83) (.tmp 96) (.const (.bool false))⟩])
 (.cond (.tmp 97) (.seq (.ops [⟨(some 98),none,.move (.tmp 0)⟩,⟨(some 99),none,.move (.tmp 1)⟩,⟨(some 100),none,.move (.tmp 2)⟩,⟨(some 101),none,.move (.tmp 13)⟩,⟨(some 102),none,.move (.tmp 4)⟩,⟨(some 103),none,.call false 167 [(.tmp 98),(.tmp 99),(.tmp 100),(.tmp 101),(.tmp 102)]⟩,⟨(some 15),none,.move (.tmp 103)⟩])
  (.seq (.ops [⟨(some 104),none,.move (.tmp 15)⟩,⟨(some 1),none,.move (.tmp 104)⟩])
  (.exit 1)))
 .skip))
 (.seq (.ops [⟨(some 106),none,.move (.tmp 0)⟩,⟨(some 107),none,.move (.tmp 1)⟩,⟨(some 108),none,.move (.tmp 2)⟩,⟨(some 109),none,.move (.tmp 13)⟩,⟨(some 110),none,.move (.tmp 4)⟩,⟨(some 111),none,.call false 168 [(.tmp 106),(.tmp 107),(.tmp 108),(.tmp 109),(.tmp 110)]⟩,⟨(some 105),none,.move (.tmp 111)⟩,⟨(some 112),none,.extract 0 (.tmp 105)⟩,⟨(some 113),none,.extract 1 (.tmp 105)⟩,⟨(some 16),none,.move (.tmp 112)⟩,⟨(some 17),none,.move (.tmp 113)⟩])
 (.seq (.ops [⟨(some 114),none,.move (.tmp 17)⟩,⟨(some 11),none,.move (.tmp 114)⟩])
 (.seq (.ops [⟨(some 115),none,.move (.tmp 16)⟩,⟨(some 116),none,.move (.tmp 1)⟩,⟨(some 117),none,.bin .sub none (.tmp 115) (.tmp 116)⟩,⟨(some 118),none,.move (.tmp 2)⟩,⟨(some 119),none,.move (.tmp 16)⟩,⟨(some 120),none,.bin .sub none (.tmp 118) (.tmp 119)⟩,⟨(some 18),none,.move (.tmp 117)⟩,⟨(some 19),none,.move (.tmp 120)⟩])
 (.seq (.ops [⟨(some 121),none,.move (.tmp 12)⟩,⟨(some 122),none,.bin .quo none (.tmp 121) (.const (.int .i64 8))⟩,⟨(some 20),none,.move (.tmp 122)⟩])
 (.seq (.ops [⟨(some 123),none,.move (.tmp 18)⟩,⟨(some 124),none,.move (.tmp 19)⟩,⟨(some 125),none,.bin .lss none (.tmp 123) (.tmp 124)⟩])
 (.cond (.tmp 125) (.seq (.ops [⟨(some 126),none,.move (.tmp 18)⟩,⟨(some 127),none,.move (.tmp 20)⟩,⟨(some 128),none,.bin .geq none (.tmp 126) (.tmp 127)⟩,⟨(some 10),none,.move (.tmp 128)⟩])
  (.seq (.ops [⟨(some 129),none,.move (.tmp 0)⟩,⟨(some 130),none,.move (.tmp 1)⟩,⟨(some 131),none,.move (.tmp 16)⟩,⟨(some 132),none,.move (.tmp 3)⟩,⟨(some 133),none,.move (.tmp 4)⟩,⟨(some 134),none,.call false 129 [(.tmp 129),(.tmp 130),(.tmp 131),(.tmp 132),(.tmp 133)]⟩])
  (.ops [⟨(some 135),none,.move (.tmp 16)⟩,⟨(some 136),none,.bin .add none (.tmp 135) (.const (.int .i64 1))⟩,⟨(some 1),none,.move (.tmp 136)⟩])))
 (.seq (.ops [⟨(some 137),none,.move (.tmp 19)⟩,⟨(some 138),none,.move (.tmp 20)⟩,⟨(some 139),none,.bin .geq none (.tmp 137) (.tmp 138)⟩,⟨(some 10),none,.move (.tmp 139)⟩])
  (.seq (.ops [⟨(some 140),none,.move (.tmp 0)⟩,⟨(some 141),none,.move (.tmp 16)⟩,⟨(some 142),none,.bin .add none (.tmp 141) (.const (.int .i64 1))⟩,⟨(some 143),none,.move (.tmp 2)⟩,⟨(some 144),none,.move (.tmp 3)⟩,⟨(some 145),none,.move (.tmp 4)⟩,⟨(some 146),none,.call false 129 [(.tmp 140),(.tmp 142),(.tmp 143),(.tmp 144),(.tmp 145)]⟩])
  (.ops [⟨(some 147),none,.move (.tmp 16)⟩,⟨(some 2),none,.move (.tmp 147)⟩]))))))))))
theorem zm6:lp129_0=(.block 1 (.seq (.ops [⟨(some 21),none,.move (.tmp 2)⟩,⟨(some 22),none,.move (.tmp 1)⟩,⟨(some 23),none,.bin .sub none (.tmp 21) (.tmp 22)⟩,⟨(some 12),none,.move (.tmp 23)⟩])
 (.seq (.seq (.ops [⟨(some 24),none,.move (.tmp 12)⟩,⟨(some 25),none,.bin .leq none (.tmp 24) (.const (.int .i64 12))⟩])
 (.cond (.tmp 25) (.seq (.ops [⟨(some 26),none,.move (.tmp 0)⟩,⟨(some 27),none,.move (.tmp 1)⟩,⟨(some 28),none,.move (.tmp 2)⟩,⟨(some 29),none,.move (.tmp 4)⟩,⟨(some 30),none,.call false 161 [(.tmp 26),(.tmp 27),(.tmp 28),(.tmp 29)]⟩])
  .ret)
 .skip))
 (.seq (.seq (.ops [⟨(some 31),none,.move (.tmp 3)⟩,⟨(some 32),none,.bin .eql none (.tmp 31) (.const (.int .i64 0))⟩])
 (.cond (.tmp 32) (.seq (.ops [⟨(some 33),none,.move (.tmp 0)⟩,⟨(some 34),none,.move (.tmp 1)⟩,⟨(some 35),none,.move (.tmp 2)⟩,⟨(some 36),none,.move (.tmp 4)⟩,⟨(some 37),none,.call false 162 [(.tmp 33),(.tmp 34),(.tmp 35),(.tmp 36)]⟩])
  .ret)
 .skip))
 (.seq (.seq (.ops [⟨(some 38),none,.move (.tmp 10)⟩,⟨(some 39),none,.not (.tmp 38)⟩])
 (.cond (.tmp 39) (.seq (.ops [⟨(some 40),none,.move (.tmp 0)⟩,⟨(some 41),none,.move (.tmp 1)⟩,⟨(some 42),none,.move (.tmp 2)⟩,⟨(some 43),none,.move (.tmp 4)⟩,⟨(some 44),none,.call false 163 [(.tmp 40),(.tmp 41),(.tmp 42),(.tmp 43)]⟩])
  (.ops [⟨(some 45),none,.move (.tmp 3)⟩,⟨(some 46),none,.bin .sub none (.tmp 45) (.const (.int .i64 1))⟩,⟨(some 3),none,.move (.tmp 46)⟩]))
 .skip))
 (.seq (.ops [⟨(some 48),none,.move (.tmp 0)⟩,⟨(some 49),none,.move (.tmp 1)⟩,⟨(some 50),none,.move (.tmp 2)⟩,⟨(some 51),none,.move (.tmp 4)⟩,⟨(some 52),none,.call false 164 [(.tmp 48),(.tmp 49),(.tmp 50),(.tmp 51)]⟩,⟨(some 47),none,.move (.tmp 52)⟩,⟨(some 53),none,.extract 0 (.tmp 47)⟩,⟨(some 54),none,.extract 1 (.tmp 47)⟩,⟨(some 13),none,.move (.tmp 53)⟩,⟨(some 14),none,.move (.tmp 54)⟩])
 (.seq (.seq (.ops [⟨(some 55),none,.move (.tmp 14)⟩,⟨(some 56),none,.bin .eql none (.tmp 55) (.const (.int .i64 2))⟩])
 (.cond (.tmp 56) (.seq (.ops [⟨(some 57),none,.move (.tmp 0)⟩,⟨(some 58),none,.move (.tmp 1)⟩,⟨(some 59),none,.move (.tmp 2)⟩,⟨(some 60),none,.move (.tmp 4)⟩,⟨(some 61),none,.call false 165 [(.tmp 57),(.tmp 58),(.tmp 59),(.tmp 60)]⟩])
  (.seq (.ops [⟨(some 62),none,.move (.tmp 2)⟩,⟨(some 63),none,.bin .sub none (.tmp 62) (.const (.int .i64 1))⟩,⟨(some 64),none,.move (.tmp 13)⟩,⟨(some 65),none,.move (.tmp 1)⟩,⟨(some 66),none,.bin .sub none (.tmp 64) (.tmp 65)⟩,⟨(some 67),none,.bin .sub none (.tmp 63) (.tmp 66)⟩,⟨(some 13),none,.move (.tmp 67)⟩])
  (.ops [⟨(some 14),none,.move (.const (.int .i64 1))⟩])))
 .skip))
 (.seq (.seq (.ops [⟨(some 68),none,.move (.tmp 10)⟩,⟨(some 69),none,.move (.tmp 68)⟩,⟨(some 70),(some (69,true)),.move (.tmp 11)⟩,⟨(some 71),none,.pick (.tmp 69) (.tmp 70) (.const (.bool false))⟩,⟨(some 72),none,.move (.tmp 71)⟩,⟨(some 73),(some (72,true)),.move (.tmp 14)⟩,⟨(some 74),(some (72,true)),.bin .eql none (.tmp 73) (.const (.int .i64 1))⟩,⟨(some 75),none,.pick (.tmp 72) (.tmp 74) (.const (.bool false))⟩])
 (.cond (.tmp 75) (.seq (.ops [⟨(some 76),none,.move (.tmp 0)⟩,⟨(some 77),none,.move (.tmp 1)⟩,⟨(some 78),none,.move (.tmp 2)⟩,⟨(some 79),none,.move (.tmp 4)⟩,⟨(some 80),none,.call false 166 [(.tmp 76),(.tmp 77),(.tmp 78),(.tmp 79)]⟩])
  (.cond (.tmp 80) .ret
  .skip))
 .skip))
 tl129)))))))):=rfl
def endss (k:Nat) (caps:List AV) (l n:Nat) (ag:Bool) (en:Env) (a b li:Nat) (wb wp:Bool):Prop:=
 en.get 0=.rsl l 0 n n 1 ag∧en.get 1=J a∧en.get 2=J b∧en.get 3=J li∧en.get 4=.fn (.func k) [] caps∧en.get 10=B wb∧en.get 11=B wp
section
variable (S0:List (List AV)) (T:List Nat) (l:Nat) (hl:l<S0.length) (n:Nat) (hn:n≤1000) (ag:Bool) (k:Nat) (hk:pure k=true) (caps:List AV) (c:Fin 256→Fin 256→Int) (lt:Fin 256→Fin 256→Bool) (hlt: ∀x y,lt x y=decide (c x y<0)) (hc: ∀x y X E,run L k (fS x::fS y::caps) ⟨put S0 l X E,T⟩=some (I (c x y),⟨put S0 l X E,T⟩))
include S0 T l hl n hn ag k hk caps c lt hlt hc
theorem zdh (N:Nat)(ih:(∀(a b li:Nat) (d:Array (Fin 256)) (X0:List (List AV)),a≤b→b≤n→d.size=n→li<1000→b-a<N→(Go.Sort.pdq lt d a b li true true).size=n∧∃X1,(PL X0→PL X1)∧run L 129 [.rsl l 0 n n 1 ag,J a,J b,J li,.fn (.func k) [] caps] ⟨put S0 l (Dm gS d) X0,T⟩=some (.tup [],⟨put S0 l (Dm gS (Go.Sort.pdq lt d a b li true true)) X1,T⟩)))
  (X0:List (List AV)) (en:Env) (a b li p:Nat) (wb wp:Bool) (d:Array (Fin 256)) (hsz:d.size=n) (hab:a+13≤b) (hb:b≤n) (hN:b-a≤N) (hp1:a≤p) (hp2:p<b) (hli:li<1000)
  (e0:en.get 0=.rsl l 0 n n 1 ag) (e1:en.get 1=J a) (e2:en.get 2=J b) (e3:en.get 3=J li) (e4:en.get 4=.fn (.func k) [] caps) (e10:en.get 10=B wb) (e11:en.get 11=B wp) (e12:en.get 12=J (b-a)) (e13:en.get 13=J p)
  (NN:Env→St→Prop) (QQ:X→Env→St→Prop)
  (hnext: ∀en' a' b' wb' wp' (d':Array (Fin 256)) X1,endss k caps l n ag en' a' b' li wb' wp'→(PL X0→PL X1)→a'≤b'→b'≤n→b'-a'<b-a→d'.size=n→pdqT lt d a b p li wb wp=Go.Sort.pdq lt d' a' b' li wb' wp'→NN en' ⟨put S0 l (Dm gS d') X1,T⟩):
  Then (blockK 1 (codeAV pure (run L) lim tl129 en ⟨put S0 l (Dm gS d) X0,T⟩)) NN QQ:=by
 have hpo:=zad lt d (a:=a) (b:=b) (p:=p) (by omega)
 have hpe:=z4u lt d (a:=a) (b:=b) (p:=p) (by omega)
 have hrp:=pars S0 T l hl n hn ag k hk caps c lt hlt hc X0 d hsz a b p (by omega) hb (by omega)
 have hre:=peqs S0 T l hl n hn ag k hk caps c lt hlt hc X0 d hsz a b p (by omega) hb (by omega)
 have hT:pdqT lt d a b p li wb wp=if (decide (a>0)&& !lt d[a-1]! d[p]!)=true then Go.Sort.pdq lt (Go.Sort.partitionEqual lt d a b p).2 (Go.Sort.partitionEqual lt d a b p).1 b li wb wp
  else if (Go.Sort.partition lt d a b p).1-a<b-(Go.Sort.partition lt d a b p).1 then
   Go.Sort.pdq lt (Go.Sort.pdq lt (Go.Sort.partition lt d a b p).2.2 a (Go.Sort.partition lt d a b p).1 li true true) ((Go.Sort.partition lt d a b p).1+1) b li (decide ((b-a) / 8≤(Go.Sort.partition lt d a b p).1-a)) (Go.Sort.partition lt d a b p).2.1
  else
   Go.Sort.pdq lt (Go.Sort.pdq lt (Go.Sort.partition lt d a b p).2.2 ((Go.Sort.partition lt d a b p).1+1) b li true true) a (Go.Sort.partition lt d a b p).1 li (decide ((b-a) / 8≤b-(Go.Sort.partition lt d a b p).1)) (Go.Sort.partition lt d a b p).2.1:=rfl
 rw [hT] at hnext
 generalize Go.Sort.partition lt d a b p=q at*
 generalize Go.Sort.partitionEqual lt d a b p=qe at*
 obtain ⟨mid,ap,d4⟩:=q
 obtain ⟨mid2,d5⟩:=qe
 dsimp only at*
 have hget:=fun C E=>zz hl C E
 have hpset:=fun C C' E=>zy hl C C' E
 have hlenD:(Dm gS d).length=n:=by rw [z0h,hsz]
 have r10:(((p:Nat):Int)<(n:Int))=True:=eT (by omega)
 have r11:((p:Nat)<n)=True:=eT (by omega)
 have r12:((p:Nat)+1≤n)=True:=eT (by omega)
 have r13:((Dm gS d).drop (p)).take 1=[gS d[p]!]:=ze gS d (by omega)
 have hq8:IntKind.i64.wrap (Int.tdiv ((b-a:Nat):Int) 8)=(((b-a) / 8:Nat):Int):=quoJ (b-a) 8 (by omega) (by omega)
 have hml:=zgm mid a (by omega) (by omega)
 have hmr:=zgm b mid (by omega) (by omega)
 have hm1:=zj mid (by omega)
 have b1:((((b-a) / 8:Nat):Int)≤((mid-a:Nat):Int))=((b-a) / 8≤mid-a):=propext (by omega)
 have b2:((((b-a) / 8:Nat):Int)≤((b-mid:Nat):Int))=((b-a) / 8≤b-mid):=propext (by omega)
 have dd: ∀(P:Prop) [Decidable P] (v:Bool),v=decide P→decide P=v:=fun _ _ _ h=>h.symm
 have i1:=ih a mid li d4 X0 (by omega) (by omega) (by omega) hli (by omega)
 have i2:=ih (mid+1) b li d4 X0 (by omega) (by omega) (by omega) hli (by omega)
 obtain ⟨z1,Y1,y1,i1⟩:=i1
 obtain ⟨z2,Y2,y2,i2⟩:=i2
 generalize Go.Sort.pdq lt d4 a mid li true true=d6 at*
 generalize Go.Sort.pdq lt d4 (mid+1) b li true true=d7 at*
 generalize (b-a) / 8=bal at*
 by_cases h0:a=0
 ·have q0:((0:Int)<(a:Int))=False:=eF (by omega)
  rw [show decide (a>0)=false from decide_eq_false (by omega),Bool.false_and,if_neg (by simp)] at hnext
  by_cases hc2:mid-a<b-mid
  ·have q1:(((mid-a:Nat):Int)<((b-mid:Nat):Int))=True:=eT (by omega)
   rw [if_pos hc2] at hnext
   simp only [go_sem,tl129,e0,e1,e2,e3,e4,e10,e11,e12,e13,q0,hrp,hml,hmr,hq8,q1,b1,i1,hm1]
   exact hnext _ _ _ _ _ _ _ ⟨by simp only [go_sem,e0],by simp only [go_sem],by simp only [go_sem,e2],by simp only [go_sem,e3],by simp only [go_sem,e4],by simp only [go_sem],by simp only [go_sem]⟩ y1 (by omega) hb (by omega) z1 rfl
  ·have q1:(((mid-a:Nat):Int)<((b-mid:Nat):Int))=False:=eF (by omega)
   rw [if_neg hc2] at hnext
   simp only [go_sem,tl129,e0,e1,e2,e3,e4,e10,e11,e12,e13,q0,hrp,hml,hmr,hq8,q1,b2,i2,hm1]
   exact hnext _ _ _ _ _ _ _ ⟨by simp only [go_sem,e0],by simp only [go_sem,e1],by simp only [go_sem],by simp only [go_sem,e3],by simp only [go_sem,e4],by simp only [go_sem],by simp only [go_sem]⟩ y2 (by omega) (by omega) (by omega) z2 rfl
 ·have q0:((0:Int)<(a:Int))=True:=eT (by omega)
  have hw:=z1p a (by omega) (by omega)
  have r20:(((a-1:Nat):Int)<(n:Int))=True:=eT (by omega)
  have r21:((a-1:Nat)<n)=True:=eT (by omega)
  have r22:((a-1:Nat)+1≤n)=True:=eT (by omega)
  have r23:((Dm gS d).drop (a-1)).take 1=[gS d[a-1]!]:=ze gS d (by omega)
  rw [show decide (a>0)=true from decide_eq_true (by omega),Bool.true_and] at hnext
  cases hcc:lt d[a-1]! d[p]! with
  |true=>
   have hk0:(c d[a-1]! d[p]! <0)=True:=by rw [hlt] at hcc;simpa using hcc
   rw [hcc,if_neg (by simp)] at hnext
   generalize d[a-1]! =x at*
   generalize d[p]! =y at*
   by_cases hc2:mid-a<b-mid
   ·have q1:(((mid-a:Nat):Int)<((b-mid:Nat):Int))=True:=eT (by omega)
    rw [if_pos hc2] at hnext
    simp only [go_sem,tl129,e0,e1,e2,e3,e4,e10,e11,e12,e13,q0,hw,r10,r11,r12,r13,r20,r21,r22,r23,hc,hk,hk0,hrp,hml,hmr,hq8,q1,b1,i1,hm1,hget,hpset,hlenD,nn_,lm_,List.length_set]
    exact hnext _ _ _ _ _ _ _ ⟨by simp only [go_sem,e0],by simp only [go_sem],by simp only [go_sem,e2],by simp only [go_sem,e3],by simp only [go_sem,e4],by simp only [go_sem],by simp only [go_sem]⟩ y1 (by omega) hb (by omega) z1 rfl
   ·have q1:(((mid-a:Nat):Int)<((b-mid:Nat):Int))=False:=eF (by omega)
    rw [if_neg hc2] at hnext
    simp only [go_sem,tl129,e0,e1,e2,e3,e4,e10,e11,e12,e13,q0,hw,r10,r11,r12,r13,r20,r21,r22,r23,hc,hk,hk0,hrp,hml,hmr,hq8,q1,b2,i2,hm1,hget,hpset,hlenD,nn_,lm_,List.length_set]
    exact hnext _ _ _ _ _ _ _ ⟨by simp only [go_sem,e0],by simp only [go_sem,e1],by simp only [go_sem],by simp only [go_sem,e3],by simp only [go_sem,e4],by simp only [go_sem],by simp only [go_sem]⟩ y2 (by omega) (by omega) (by omega) z2 rfl
  |false=>
   have hk0:(c d[a-1]! d[p]! <0)=False:=by rw [hlt] at hcc;simpa using hcc
   rw [hcc,if_pos (show (!false)=true from rfl)] at hnext
   generalize d[a-1]! =x at*
   generalize d[p]! =y at*
   simp only [go_sem,tl129,e0,e1,e2,e3,e4,e10,e11,e12,e13,q0,hw,r10,r11,r12,r13,r20,r21,r22,r23,hc,hk,hk0,hre,hget,hpset,hlenD,nn_,lm_,List.length_set]
   exact hnext _ _ _ _ _ _ _ ⟨by simp only [go_sem,e0],by simp only [go_sem],by simp only [go_sem,e2],by simp only [go_sem,e3],by simp only [go_sem,e4],by simp only [go_sem,e10],by simp only [go_sem,e11]⟩ id (by omega) hb (by omega) (by rw [hpe.1,hsz]) rfl
theorem pdq0s (hn2:n<256)(N:Nat)(ih:(∀(a b li:Nat) (d:Array (Fin 256)) (X0:List (List AV)),a≤b→b≤n→d.size=n→li<1000→b-a<N→(Go.Sort.pdq lt d a b li true true).size=n∧∃X1,(PL X0→PL X1)∧run L 129 [.rsl l 0 n n 1 ag,J a,J b,J li,.fn (.func k) [] caps] ⟨put S0 l (Dm gS d) X0,T⟩=some (.tup [],⟨put S0 l (Dm gS (Go.Sort.pdq lt d a b li true true)) X1,T⟩)))(lo hi2:Nat)(a:Nat)(b:Nat)(li:Nat)(wb:Bool)(wp:Bool)(d:Array (Fin 256))(X0:List (List AV))(hok:a≤b∧b≤n∧d.size=n∧li<1000∧b-a≤N)(env:Env)(st:St)
  (hg:gcAV false lo hi2 (canon env [0,1,2,3,4,10,11]) st=([(0,.rsl l 0 n n 1 ag),(1,J a),(2,J b),(3,J li),(4,.fn (.func k) [] caps),(10,B wb),(11,B wp)],⟨put S0 l (Dm gS d) X0,T⟩)):
  ∃x_1 en s,lim (headed pure (run L) false [0,1,2,3,4,10,11] lp129_0 lo hi2) env st=some (x_1,en,s)∧(x_1=.ret∧(Go.Sort.pdq lt d a b li wb wp).size=n∧∃X1,(PL X0→PL X1)∧s=⟨put S0 l (Dm gS (Go.Sort.pdq lt d a b li wb wp)) X1,T⟩):=by
 refine zb (α:=Nat×Nat×Nat×Bool×Bool×Array (Fin 256)×List (List AV)) (fun ⟨a,b,li,wb,wp,d,X0⟩=>b-a) (fun ⟨a,b,li,wb,wp,d,X0⟩=>a≤b∧b≤n∧d.size=n∧li<1000∧b-a≤N) (fun ⟨a,b,li,wb,wp,d,X0⟩=>([(0,.rsl l 0 n n 1 ag),(1,J a),(2,J b),(3,J li),(4,.fn (.func k) [] caps),(10,B wb),(11,B wp)],⟨put S0 l (Dm gS d) X0,T⟩)) (fun ⟨a,b,li,wb,wp,d,X0⟩ x_1 en s=>x_1=.ret∧(Go.Sort.pdq lt d a b li wb wp).size=n∧∃X1,(PL X0→PL X1)∧s=⟨put S0 l (Dm gS (Go.Sort.pdq lt d a b li wb wp)) X1,T⟩) (fun ⟨a,b,li,wb,wp,d,X0⟩ hok=> ?_) ⟨a,b,li,wb,wp,d,X0⟩ hok env st hg
 simp only at hok
 obtain ⟨h1,h2,hsz,hli,hN⟩:=hok
 dsimp only at h1 h2 hsz hli hN⊢
 have hw:=zgm b a h1 (by omega)
 rw [zm6]
 by_cases h12:b-a≤12
 ·have q12:(((b-a:Nat):Int)≤12)=True:=eT (by omega)
  have e:Go.Sort.pdq lt d a b li wb wp=Go.Sort.insertionSort lt d a b:=by rw [Go.Sort.pdq,if_pos h12]
  rw [e]
  have hi:=inss S0 T l hl n hn ag k hk caps c lt hlt hc X0 a b (by omega) h2 d hsz
  simp only [go_sem,lp129_0,hw,q12,hi]
  exact ⟨by rw [z9e,hsz],_,id,rfl⟩
 ·have q12:(((b-a:Nat):Int)≤12)=False:=eF (by omega)
  by_cases hl0:li=0
  ·have ql:((li:Int)=0)=True:=eT (by omega)
   have e:Go.Sort.pdq lt d a b li wb wp=Go.Sort.heapSort lt d a b:=by rw [Go.Sort.pdq,if_neg h12,if_pos hl0]
   rw [e]
   have hh:=heaps S0 T l hl n hn ag k hk caps c lt hlt hc X0 d hsz a b (by omega) h2
   simp only [go_sem,lp129_0,hw,q12,ql,hh]
   exact ⟨by rw [zdz,hsz],_,id,rfl⟩
  ·have ql:((li:Int)=0)=False:=eF (by omega)
   have hb1:=z1p b (by omega) (by omega)
   cases wb with
   |false=>
    obtain ⟨BB,hbr⟩:=brks S0 T l hl n hn ag k caps X0 d hsz a b (by omega) h2 (by omega)
    have hz1:(Go.Sort.breakPatterns d a b).size=n:=by rw [z9m,hsz]
    have hpl:=z1p li (by omega) (by omega)
    generalize hd1:Go.Sort.breakPatterns d a b=d1 at*
    obtain ⟨B2,hpv⟩:=pivs S0 T l hl n hn ag k hk caps c lt hlt hc (X0++ [[U BB]]) d1 hz1 a b (by omega) h2
    have hpr:=Go.Sort.choosePivot_holds lt d1 a b (by omega)
    generalize hcc:Go.Sort.choosePivot lt d1 a b=cc at*
    obtain ⟨pv,hint⟩:=cc
    dsimp only at hpr hpv
    cases hint with
    |unknown=>
     have hpv:run L 164 [.rsl l 0 n n 1 ag,J a,J b,.fn (.func k) [] caps] ⟨put S0 l (Dm gS d1) (X0++ [[U BB]]),T⟩=some (.tup [J pv,I 0],⟨put S0 l (Dm gS d1) ((X0++ [[U BB]])++ [[J B2]]),T⟩):=hpv
     have e:Go.Sort.pdq lt d a b li false wp=pdqT lt d1 a b pv (li-1) false wp:=by rw [z15 lt d false wp (by omega) hl0];simp [hd1,hcc]
     rw [e]
     simp only [go_sem,lp129_0,hw,q12,ql,hbr,hpl,hpv]
     refine zdh S0 T l hl n hn ag k hk caps c lt hlt hc N ih _ _ a b (li-1) pv false wp d1 hz1 (by omega) h2 hN (by omega) (by omega) (by omega) (by simp only [go_sem]) (by simp only [go_sem]) (by simp only [go_sem]) (by simp only [go_sem]) (by simp only [go_sem]) (by simp only [go_sem]) (by simp only [go_sem]) (by simp only [go_sem]) (by simp only [go_sem]) _ _ (fun en2 a2 b2 wb2 wp2 d9 X9 he gx g1 g2 g3 g4 g5=> ?_)
     obtain ⟨f0,f1,f2,f3,f4,f10,f11⟩:=he
     refine ⟨(a2,b2,(li-1),wb2,wp2,d9,X9),by simp only [go_sem,f0,f1,f2,f3,f4,f10,f11],?_,?_,fun x en s hq=> ?_⟩
     ·dsimp only;exact ⟨g1,g2,g4,by omega,by omega⟩
     ·dsimp only;exact g3
     ·dsimp only at hq
      rw [g5]
      obtain ⟨hq1,hq2,X8,hx8,hq3⟩:=hq
      exact ⟨hq1,hq2,X8,fun h0=>hx8 (gx ((h0.snoc _ _).snoc _ _)),hq3⟩
    |increasing=>
     have hpv:run L 164 [.rsl l 0 n n 1 ag,J a,J b,.fn (.func k) [] caps] ⟨put S0 l (Dm gS d1) (X0++ [[U BB]]),T⟩=some (.tup [J pv,I 1],⟨put S0 l (Dm gS d1) ((X0++ [[U BB]])++ [[J B2]]),T⟩):=hpv
     have e:Go.Sort.pdq lt d a b li false wp=pdqT lt d1 a b pv (li-1) false wp:=by rw [z15 lt d false wp (by omega) hl0];simp [hd1,hcc]
     rw [e]
     simp only [go_sem,lp129_0,hw,q12,ql,hbr,hpl,hpv]
     refine zdh S0 T l hl n hn ag k hk caps c lt hlt hc N ih _ _ a b (li-1) pv false wp d1 hz1 (by omega) h2 hN (by omega) (by omega) (by omega) (by simp only [go_sem]) (by simp only [go_sem]) (by simp only [go_sem]) (by simp only [go_sem]) (by simp only [go_sem]) (by simp only [go_sem]) (by simp only [go_sem]) (by simp only [go_sem]) (by simp only [go_sem]) _ _ (fun en2 a2 b2 wb2 wp2 d9 X9 he gx g1 g2 g3 g4 g5=> ?_)
     obtain ⟨f0,f1,f2,f3,f4,f10,f11⟩:=he
     refine ⟨(a2,b2,(li-1),wb2,wp2,d9,X9),by simp only [go_sem,f0,f1,f2,f3,f4,f10,f11],?_,?_,fun x en s hq=> ?_⟩
     ·dsimp only;exact ⟨g1,g2,g4,by omega,by omega⟩
     ·dsimp only;exact g3
     ·dsimp only at hq
      rw [g5]
      obtain ⟨hq1,hq2,X8,hx8,hq3⟩:=hq
      exact ⟨hq1,hq2,X8,fun h0=>hx8 (gx ((h0.snoc _ _).snoc _ _)),hq3⟩
    |decreasing=>
     have hpv:run L 164 [.rsl l 0 n n 1 ag,J a,J b,.fn (.func k) [] caps] ⟨put S0 l (Dm gS d1) (X0++ [[U BB]]),T⟩=some (.tup [J pv,I 2],⟨put S0 l (Dm gS d1) ((X0++ [[U BB]])++ [[J B2]]),T⟩):=hpv
     have hrv:=revs S0 T l hl n hn ag k caps ((X0++ [[U BB]])++ [[J B2]]) d1 hz1 a b (by omega) h2
     have hz2:(Go.Sort.reverseRange d1 a b).size=n:=by rw [z4s,hz1]
     have hpa:=zgm pv a (by omega) (by omega)
     have hpb:=zgm (b-1) (pv-a) (by omega) (by omega)
     generalize hd2:Go.Sort.reverseRange d1 a b=d2 at*
     have e:Go.Sort.pdq lt d a b li false wp=pdqT lt d2 a b (b-1-(pv-a)) (li-1) false wp:=by rw [z15 lt d false wp (by omega) hl0];simp [hd1,hcc,hd2]
     rw [e]
     simp only [go_sem,lp129_0,hw,q12,ql,hbr,hpl,hpv,hrv,hb1,hpa,hpb]
     refine zdh S0 T l hl n hn ag k hk caps c lt hlt hc N ih _ _ a b (li-1) (b-1-(pv-a)) false wp d2 hz2 (by omega) h2 hN (by omega) (by omega) (by omega) (by simp only [go_sem]) (by simp only [go_sem]) (by simp only [go_sem]) (by simp only [go_sem]) (by simp only [go_sem]) (by simp only [go_sem]) (by simp only [go_sem]) (by simp only [go_sem]) (by simp only [go_sem]) _ _ (fun en2 a2 b2 wb2 wp2 d9 X9 he gx g1 g2 g3 g4 g5=> ?_)
     obtain ⟨f0,f1,f2,f3,f4,f10,f11⟩:=he
     refine ⟨(a2,b2,(li-1),wb2,wp2,d9,X9),by simp only [go_sem,f0,f1,f2,f3,f4,f10,f11],?_,?_,fun x en s hq=> ?_⟩
     ·dsimp only;exact ⟨g1,g2,g4,by omega,by omega⟩
     ·dsimp only;exact g3
     ·dsimp only at hq
      rw [g5]
      obtain ⟨hq1,hq2,X8,hx8,hq3⟩:=hq
      exact ⟨hq1,hq2,X8,fun h0=>hx8 (gx ((h0.snoc _ _).snoc _ _)),hq3⟩
   |true=>
    obtain ⟨B2,hpv⟩:=pivs S0 T l hl n hn ag k hk caps c lt hlt hc X0 d hsz a b (by omega) h2
    have hpr:=Go.Sort.choosePivot_holds lt d a b (by omega)
    generalize hcc:Go.Sort.choosePivot lt d a b=cc at*
    obtain ⟨pv,hint⟩:=cc
    dsimp only at hpr hpv
    cases hint with
    |unknown=>
     have hpv:run L 164 [.rsl l 0 n n 1 ag,J a,J b,.fn (.func k) [] caps] ⟨put S0 l (Dm gS d) X0,T⟩=some (.tup [J pv,I 0],⟨put S0 l (Dm gS d) (X0++ [[J B2]]),T⟩):=hpv
     have e:Go.Sort.pdq lt d a b li true wp=pdqT lt d a b pv li true wp:=by rw [z15 lt d true wp (by omega) hl0];simp [hcc]
     rw [e]
     cases wp with
     |false=>
      simp only [go_sem,lp129_0,hw,q12,ql,hpv]
      refine zdh S0 T l hl n hn ag k hk caps c lt hlt hc N ih _ _ a b li pv true false d hsz (by omega) h2 hN (by omega) (by omega) (by omega) (by simp only [go_sem]) (by simp only [go_sem]) (by simp only [go_sem]) (by simp only [go_sem]) (by simp only [go_sem]) (by simp only [go_sem]) (by simp only [go_sem]) (by simp only [go_sem]) (by simp only [go_sem]) _ _ (fun en2 a2 b2 wb2 wp2 d9 X9 he gx g1 g2 g3 g4 g5=> ?_)
      obtain ⟨f0,f1,f2,f3,f4,f10,f11⟩:=he
      refine ⟨(a2,b2,li,wb2,wp2,d9,X9),by simp only [go_sem,f0,f1,f2,f3,f4,f10,f11],?_,?_,fun x en s hq=> ?_⟩
      ·dsimp only;exact ⟨g1,g2,g4,by omega,by omega⟩
      ·dsimp only;exact g3
      ·dsimp only at hq
       rw [g5]
       obtain ⟨hq1,hq2,X8,hx8,hq3⟩:=hq
       exact ⟨hq1,hq2,X8,fun h0=>hx8 (gx (h0.snoc _ _)),hq3⟩
     |true=>
      simp only [go_sem,lp129_0,hw,q12,ql,hpv]
      refine zdh S0 T l hl n hn ag k hk caps c lt hlt hc N ih _ _ a b li pv true true d hsz (by omega) h2 hN (by omega) (by omega) (by omega) (by simp only [go_sem]) (by simp only [go_sem]) (by simp only [go_sem]) (by simp only [go_sem]) (by simp only [go_sem]) (by simp only [go_sem]) (by simp only [go_sem]) (by simp only [go_sem]) (by simp only [go_sem]) _ _ (fun en2 a2 b2 wb2 wp2 d9 X9 he gx g1 g2 g3 g4 g5=> ?_)
      obtain ⟨f0,f1,f2,f3,f4,f10,f11⟩:=he
      refine ⟨(a2,b2,li,wb2,wp2,d9,X9),by simp only [go_sem,f0,f1,f2,f3,f4,f10,f11],?_,?_,fun x en s hq=> ?_⟩
      ·dsimp only;exact ⟨g1,g2,g4,by omega,by omega⟩
      ·dsimp only;exact g3
      ·dsimp only at hq
       rw [g5]
       obtain ⟨hq1,hq2,X8,hx8,hq3⟩:=hq
       exact ⟨hq1,hq2,X8,fun h0=>hx8 (gx (h0.snoc _ _)),hq3⟩
    |increasing=>
     have hpv:run L 164 [.rsl l 0 n n 1 ag,J a,J b,.fn (.func k) [] caps] ⟨put S0 l (Dm gS d) X0,T⟩=some (.tup [J pv,I 1],⟨put S0 l (Dm gS d) (X0++ [[J B2]]),T⟩):=hpv
     cases wp with
     |false=>
      have e:Go.Sort.pdq lt d a b li true false=pdqT lt d a b pv li true false:=by rw [z15 lt d true false (by omega) hl0];simp [hcc]
      rw [e]
      simp only [go_sem,lp129_0,hw,q12,ql,hpv]
      refine zdh S0 T l hl n hn ag k hk caps c lt hlt hc N ih _ _ a b li pv true false d hsz (by omega) h2 hN (by omega) (by omega) (by omega) (by simp only [go_sem]) (by simp only [go_sem]) (by simp only [go_sem]) (by simp only [go_sem]) (by simp only [go_sem]) (by simp only [go_sem]) (by simp only [go_sem]) (by simp only [go_sem]) (by simp only [go_sem]) _ _ (fun en2 a2 b2 wb2 wp2 d9 X9 he gx g1 g2 g3 g4 g5=> ?_)
      obtain ⟨f0,f1,f2,f3,f4,f10,f11⟩:=he
      refine ⟨(a2,b2,li,wb2,wp2,d9,X9),by simp only [go_sem,f0,f1,f2,f3,f4,f10,f11],?_,?_,fun x en s hq=> ?_⟩
      ·dsimp only;exact ⟨g1,g2,g4,by omega,by omega⟩
      ·dsimp only;exact g3
      ·dsimp only at hq
       rw [g5]
       obtain ⟨hq1,hq2,X8,hx8,hq3⟩:=hq
       exact ⟨hq1,hq2,X8,fun h0=>hx8 (gx (h0.snoc _ _)),hq3⟩
     |true=>
      have hpi:=piss S0 T l hl n hn ag k hk caps c lt hlt hc (X0++ [[J B2]]) d hsz a b (by omega) h2
      have hz3:(Go.Sort.partialInsertionSort lt d a b).1.size=n:=by unfold Go.Sort.partialInsertionSort;rw [z3a,hsz]
      generalize hpe:Go.Sort.partialInsertionSort lt d a b=pi at*
      obtain ⟨d3,ok⟩:=pi
      dsimp only at hpi hz3
      cases ok with
      |true=>
       have e:Go.Sort.pdq lt d a b li true true=d3:=by rw [z15 lt d true true (by omega) hl0];simp [hcc,hpe]
       rw [e]
       simp only [go_sem,lp129_0,hw,q12,ql,hpv,hpi]
       exact ⟨hz3,_,fun h0=>(h0.snoc _ _),rfl⟩
      |false=>
       have e:Go.Sort.pdq lt d a b li true true=pdqT lt d3 a b pv li true true:=by rw [z15 lt d true true (by omega) hl0];simp [hcc,hpe]
       rw [e]
       simp only [go_sem,lp129_0,hw,q12,ql,hpv,hpi]
       refine zdh S0 T l hl n hn ag k hk caps c lt hlt hc N ih _ _ a b li pv true true d3 hz3 (by omega) h2 hN (by omega) (by omega) (by omega) (by simp only [go_sem]) (by simp only [go_sem]) (by simp only [go_sem]) (by simp only [go_sem]) (by simp only [go_sem]) (by simp only [go_sem]) (by simp only [go_sem]) (by simp only [go_sem]) (by simp only [go_sem]) _ _ (fun en2 a2 b2 wb2 wp2 d9 X9 he gx g1 g2 g3 g4 g5=> ?_)
       obtain ⟨f0,f1,f2,f3,f4,f10,f11⟩:=he
       refine ⟨(a2,b2,li,wb2,wp2,d9,X9),by simp only [go_sem,f0,f1,f2,f3,f4,f10,f11],?_,?_,fun x en s hq=> ?_⟩
       ·dsimp only;exact ⟨g1,g2,g4,by omega,by omega⟩
       ·dsimp only;exact g3
       ·dsimp only at hq
        rw [g5]
        obtain ⟨hq1,hq2,X8,hx8,hq3⟩:=hq
        exact ⟨hq1,hq2,X8,fun h0=>hx8 (gx (h0.snoc _ _)),hq3⟩
    |decreasing=>
     have hpv:run L 164 [.rsl l 0 n n 1 ag,J a,J b,.fn (.func k) [] caps] ⟨put S0 l (Dm gS d) X0,T⟩=some (.tup [J pv,I 2],⟨put S0 l (Dm gS d) (X0++ [[J B2]]),T⟩):=hpv
     have hrv:=revs S0 T l hl n hn ag k caps (X0++ [[J B2]]) d hsz a b (by omega) h2
     have hz2:(Go.Sort.reverseRange d a b).size=n:=by rw [z4s,hsz]
     have hpa:=zgm pv a (by omega) (by omega)
     have hpb:=zgm (b-1) (pv-a) (by omega) (by omega)
     generalize hd2:Go.Sort.reverseRange d a b=d2 at*
     cases wp with
     |false=>
      have e:Go.Sort.pdq lt d a b li true false=pdqT lt d2 a b (b-1-(pv-a)) li true false:=by rw [z15 lt d true false (by omega) hl0];simp [hcc,hd2]
      rw [e]
      simp only [go_sem,lp129_0,hw,q12,ql,hpv,hrv,hb1,hpa,hpb]
      refine zdh S0 T l hl n hn ag k hk caps c lt hlt hc N ih _ _ a b li (b-1-(pv-a)) true false d2 hz2 (by omega) h2 hN (by omega) (by omega) (by omega) (by simp only [go_sem]) (by simp only [go_sem]) (by simp only [go_sem]) (by simp only [go_sem]) (by simp only [go_sem]) (by simp only [go_sem]) (by simp only [go_sem]) (by simp only [go_sem]) (by simp only [go_sem]) _ _ (fun en2 a2 b2 wb2 wp2 d9 X9 he gx g1 g2 g3 g4 g5=> ?_)
      obtain ⟨f0,f1,f2,f3,f4,f10,f11⟩:=he
      refine ⟨(a2,b2,li,wb2,wp2,d9,X9),by simp only [go_sem,f0,f1,f2,f3,f4,f10,f11],?_,?_,fun x en s hq=> ?_⟩
      ·dsimp only;exact ⟨g1,g2,g4,by omega,by omega⟩
      ·dsimp only;exact g3
      ·dsimp only at hq
       rw [g5]
       obtain ⟨hq1,hq2,X8,hx8,hq3⟩:=hq
       exact ⟨hq1,hq2,X8,fun h0=>hx8 (gx (h0.snoc _ _)),hq3⟩
     |true=>
      have hpi:=piss S0 T l hl n hn ag k hk caps c lt hlt hc (X0++ [[J B2]]) d2 hz2 a b (by omega) h2
      have hz3:(Go.Sort.partialInsertionSort lt d2 a b).1.size=n:=by unfold Go.Sort.partialInsertionSort;rw [z3a,hz2]
      generalize hpe:Go.Sort.partialInsertionSort lt d2 a b=pi at*
      obtain ⟨d3,ok⟩:=pi
      dsimp only at hpi hz3
      cases ok with
      |true=>
       have e:Go.Sort.pdq lt d a b li true true=d3:=by rw [z15 lt d true true (by omega) hl0];simp [hcc,hd2,hpe]
       rw [e]
       simp only [go_sem,lp129_0,hw,q12,ql,hpv,hrv,hb1,hpa,hpb,hpi]
       exact ⟨hz3,_,fun h0=>(h0.snoc _ _),rfl⟩
      |false=>
       have e:Go.Sort.pdq lt d a b li true true=pdqT lt d3 a b (b-1-(pv-a)) li true true:=by rw [z15 lt d true true (by omega) hl0];simp [hcc,hd2,hpe]
       rw [e]
       simp only [go_sem,lp129_0,hw,q12,ql,hpv,hrv,hb1,hpa,hpb,hpi]
       refine zdh S0 T l hl n hn ag k hk caps c lt hlt hc N ih _ _ a b li (b-1-(pv-a)) true true d3 hz3 (by omega) h2 hN (by omega) (by omega) (by omega) (by simp only [go_sem]) (by simp only [go_sem]) (by simp only [go_sem]) (by simp only [go_sem]) (by simp only [go_sem]) (by simp only [go_sem]) (by simp only [go_sem]) (by simp only [go_sem]) (by simp only [go_sem]) _ _ (fun en2 a2 b2 wb2 wp2 d9 X9 he gx g1 g2 g3 g4 g5=> ?_)
       obtain ⟨f0,f1,f2,f3,f4,f10,f11⟩:=he
       refine ⟨(a2,b2,li,wb2,wp2,d9,X9),by simp only [go_sem,f0,f1,f2,f3,f4,f10,f11],?_,?_,fun x en s hq=> ?_⟩
       ·dsimp only;exact ⟨g1,g2,g4,by omega,by omega⟩
       ·dsimp only;exact g3
       ·dsimp only at hq
        rw [g5]
        obtain ⟨hq1,hq2,X8,hx8,hq3⟩:=hq
        exact ⟨hq1,hq2,X8,fun h0=>hx8 (gx (h0.snoc _ _)),hq3⟩
end
theorem pdqs (S0:List (List AV))(T:List Nat)(l:Nat)(hl:l<S0.length)(n:Nat)(hn:n≤1000)(ag:Bool)(k:Nat)(hk:pure k=true)(caps:List AV)(c:Fin 256→Fin 256→Int)(lt:Fin 256→Fin 256→Bool)(hlt: ∀x y,lt x y=decide (c x y<0))(hc: ∀x y X E,run L k (fS x::fS y::caps) ⟨put S0 l X E,T⟩=some (I (c x y),⟨put S0 l X E,T⟩))(hn2:n<256): ∀(N a b li:Nat) (d:Array (Fin 256)) (X0:List (List AV)),a≤b→b≤n→d.size=n→li<1000→b-a<N→(Go.Sort.pdq lt d a b li true true).size=n∧∃X1,(PL X0→PL X1)∧run L 129 [.rsl l 0 n n 1 ag,J a,J b,J li,.fn (.func k) [] caps] ⟨put S0 l (Dm gS d) X0,T⟩=some (.tup [],⟨put S0 l (Dm gS (Go.Sort.pdq lt d a b li true true)) X1,T⟩)
 |0,_,_,_,_,_,_,_,_,_,h=>by omega
 |N+1,a,b,li,d,X0,h1,h2,hsz,hli,hN=>by
  have ih:=pdqs S0 T l hl n hn ag k hk caps c lt hlt hc hn2 N
  rw [zc (fn:=ir129) rfl rfl]
  simp only [ir129,go_sem]
  generalize hg:lim (headed pure (run L) false _ lp129_0 _ _) _ _=o
  obtain ⟨x,en,s,rfl,h2⟩: ∃x en s,o=some (x,en,s)∧_:=by rw [←hg];exact pdq0s S0 T l hl n hn ag k hk caps c lt hlt hc hn2 N ih _ _ a b li true true d X0 ⟨h1,h2,hsz,hli,by omega⟩ _ _ (by simp only [go_sem]<;>rfl)
  clear hg
  obtain ⟨rfl,hz,X1,hX1,rfl⟩:=h2
  refine ⟨hz,X1,hX1,?_⟩
  simp only [go_sem]
section
variable (S0:List (List AV)) (T:List Nat) (l:Nat) (hl:l<S0.length) (n:Nat) (hn:n≤1000) (ag:Bool) (k:Nat) (hk:pure k=true) (caps:List AV) (c:Fin 256→Fin 256→Int) (lt:Fin 256→Fin 256→Bool) (hlt: ∀x y,lt x y=decide (c x y<0)) (hc: ∀x y X E,run L k (fS x::fS y::caps) ⟨put S0 l X E,T⟩=some (I (c x y),⟨put S0 l X E,T⟩))
include S0 T l hl n hn ag k hk caps c lt hlt hc
theorem sorts (hn2:n<256)(d:Array (Fin 256))(hsz:d.size=n)(X0:List (List AV)):
  ∃X1,(PL X0→PL X1)∧run L 80 [.rsl l 0 n n 1 ag,.fn (.func k) [] caps] ⟨put S0 l (Dm gS d) X0,T⟩=some (.tup [],⟨put S0 l (Dm gS (Go.Sort.sort lt d)) X1,T⟩):=by
 rw [zc (fn:=ir80) rfl rfl]
 have hcv:=zde n (by omega)
 have h115:=fun st=>c115 n hn2 st
 have hbl:Go.Sort.bitsLen n<1000:=by
  have:=(Go.Sort.bitsLen_le_iff n 8).2 (by omega)
  omega
 obtain ⟨hz,X1,hX1,h⟩:=pdqs S0 T l hl n hn ag k hk caps c lt hlt hc hn2 (n+1) 0 n (Go.Sort.bitsLen n) d X0 (by omega) (by omega) hsz hbl (by omega)
 refine ⟨X1,hX1,?_⟩
 have e:Go.Sort.sort lt d=Go.Sort.pdq lt d 0 n (Go.Sort.bitsLen n) true true:=by unfold Go.Sort.sort;rw [hsz]
 rw [e]
 have h:run L 129 [.rsl l 0 n n 1 ag,I 0,J n,J (Go.Sort.bitsLen n),.fn (.func k) [] caps] ⟨put S0 l (Dm gS d) X0,T⟩=_:=h
 simp only [ir80,go_sem,hcv,h115,h]
end
attribute [local go_sem] m_ x_ l_ k_ o_ t_ a_ s_ q_ b_ c_ u_ g_ zd zi zh z6 zg
theorem zh3 {a b:Nat} (ha:a<512)(hb:b<512)(h:memb a=memb b):a=b:=by
 apply Nat.eq_of_testBit_eq;intro i
 have h1:=z1r ha (i:Int)
 have h2:=z1r hb (i:Int)
 rw [h] at h1
 have h3:(∃j:Nat,(i:Int)=j∧a.testBit j=true)↔(∃j:Nat,(i:Int)=j∧b.testBit j=true):=h1.symm.trans h2
 cases ha':a.testBit i
 ·cases hb':b.testBit i
  ·rfl
  ·obtain ⟨j,hj,hj2⟩:=h3.2 ⟨i,rfl,hb'⟩
   have:i=j:=by omega
   subst this
   rw [ha'] at hj2;cases hj2
 ·obtain ⟨j,hj,hj2⟩:=h3.1 ⟨i,rfl,ha'⟩
  have:i=j:=by omega
  subst this
  exact hj2.symm
theorem zj5 {α:Type} (f:α→List Int):Go.Sort.SWO (fun x y=>lexLt (f x) (f y)) where
 irrefl x:=z28 _
 trans x y z:=z9c _ _ _
 ntrans x y z h1 h2:=zh5 h2 h1
def sortA {α:Type} [Inhabited α] (lt:α→α→Bool) (l:List α):List α:=(Go.Sort.sort lt l.toArray).toList
theorem zhu {α:Type} [Inhabited α] {lt:α→α→Bool} (h:Go.Sort.SWO lt)(l:List α):(sortA lt l).Perm l:=by
 have h1:=(Go.Sort.sort_sorts lt h l.toArray).1
 have h2:=h1.2.2
 have hs:(Go.Sort.sort lt l.toArray).size=l.toArray.size:=h1.1
 rw [Go.Sort.extract_toList _ _ _ (by rw [hs];exact Nat.le_refl _),Go.Sort.extract_toList _ _ _ (Nat.le_refl _)] at h2
 have key: ∀(d:Array α),(List.range' 0 (d.size-0)).map (fun i=>d[i]!)=d.toList:=by
  intro d
  apply List.ext_getElem
  ·simp
  ·intro i h1 h2
   simp at h1 h2⊢
   exact getElem!_pos d i h2
 have e1:=key (Go.Sort.sort lt l.toArray)
 rw [hs] at e1
 rw [e1,key] at h2
 exact h2
theorem zek {α:Type} [Inhabited α] {lt:α→α→Bool} (h:Go.Sort.SWO lt)(l:List α):(sortA lt l).Pairwise (fun x y=>lt y x=false):=by
 have h1:=Go.Sort.sort_sorts lt h l.toArray
 have hs:(Go.Sort.sort lt l.toArray).size=l.toArray.size:=h1.1.1
 rw [List.pairwise_iff_getElem]
 intro i j hi hj hij
 unfold sortA at hi hj⊢
 simp only [Array.length_toList] at hi hj
 have:=h1.2 i j (Nat.zero_le _) hij (by rw [←hs];exact hj)
 rw [getElem!_pos _ i hi,getElem!_pos _ j hj] at this
 simpa using this
theorem zbf {α:Type} {R:α→α→Prop} (hR: ∀x y,R x y→R y x→x=y): ∀(l m:List α),l.Perm m→l.Pairwise R→m.Pairwise R→l=m
 | [],m,h,_,_=>(List.Perm.nil_eq h)
 |x::l,m,h,h1,h2=>by
  cases m with
  |nil=>exact absurd h.length_eq (by simp)
  |cons y m=>
   have hx:x∈y::m:=h.mem_iff.1 (by simp)
   have hy:y∈x::l:=h.mem_iff.2 (by simp)
   rw [List.pairwise_cons] at h1 h2
   have e:x=y:=by
    rw [List.mem_cons] at hx hy
    rcases hx with e|hx
    ·exact e
    ·rcases hy with e|hy
     ·exact e.symm
     ·exact hR _ _ (h1.1 y hy) (h2.1 x hx)
   subst e
   rw [zbf hR l m (List.Perm.cons_inv h) h1.2 h2.2]
def lt8 (x y:Fin 256):Bool:=lexLt (memb x.val) (memb y.val)
def fin8 (ss:List Nat):List (Fin 256):=ss.map fun x=>⟨x % 256,Nat.mod_lt _ (by decide)⟩
theorem zhf {ss:List Nat} (h: ∀s∈ss,s<256):(fin8 ss).map (fun x=>x.val)=ss:=by
 unfold fin8
 rw [List.map_map]
 conv=>rhs;rw [←List.map_id ss]
 apply List.map_congr_left
 intro x hx
 exact Nat.mod_eq_of_lt (h x hx)
def srt (ss:List Nat):List Nat:=(sortA lt8 (fin8 ss)).map (fun x=>x.val)
theorem zaa (ss:List Nat): ∀s∈srt ss,s<256:=by
 intro s hs
 unfold srt at hs
 rw [List.mem_map] at hs
 obtain ⟨x,_,rfl⟩:=hs
 exact x.isLt
theorem z7d {ss:List Nat} (h: ∀s∈ss,s<256):(srt ss).Perm ss:=by
 have:=(zhu (zj5 (fun x:Fin 256=>memb x.val)) (fin8 ss)).map (fun x=>x.val)
 rw [zhf h] at this
 exact this
def LexLe (a b:Nat):Prop:=lexLt (memb b) (memb a)=false
theorem LexLe.anti {a b:Nat} (ha:a<512)(hb:b<512)(h1:LexLe a b)(h2:LexLe b a):a=b:=zh3 ha hb (z9d _ _ h2 h1)
theorem zci (ss:List Nat):(srt ss).Pairwise LexLe:=by
 unfold srt
 rw [List.pairwise_map]
 exact zek (zj5 (fun x:Fin 256=>memb x.val)) (fin8 ss)
theorem z4l {ss:List Nat} (h: ∀s∈ss,s<256):(srt ss).length=ss.length:=(z7d h).length_eq
theorem zdi {ss ts:List Nat} (h: ∀s∈ss,s<256)(hp:ts.Perm ss)(hs:ts.Pairwise LexLe):ts=srt ss:=by
 have h2: ∀s∈ts,s<256:=fun s hs=>h s (hp.mem_iff.1 hs)
 have key: ∀(l m:List Nat),(∀s∈l,s<256)→(∀s∈m,s<256)→l.Perm m→l.Pairwise LexLe→m.Pairwise LexLe→l=m:=by
  intro l m hl hm hpm h1 h2
  refine zbf (R:=fun a b=>a<256∧b<256∧LexLe a b) (fun x y hx hy=>hx.2.2.anti (by omega) (by omega) hy.2.2) l m hpm ?_ ?_
  ·exact h1.imp_of_mem (fun ha hb hab=>⟨hl _ ha,hl _ hb,hab⟩)
  ·exact h2.imp_of_mem (fun ha hb hab=>⟨hm _ ha,hm _ hb,hab⟩)
 exact key _ _ h2 (zaa ss) (hp.trans (z7d h).symm) hs (zci ss)
theorem c81 (a b:Nat)(ha:a<256)(hb:b<256)(st:St):run L 81 [E8 a,E8 b] st=some (I (cmpN (memb a) (memb b)),st):=by
 rw [run_pure (fn:=ir81) rfl rfl]
 have h1:=fun st=>c94 a ha st
 have h2:=fun st=>c94 b hb st
 have hm:=z14 a
 have h3: ∀st,run L 42 [tAV (memb a),tAV (memb b)] st=some (I (cmpN (memb a) (memb b)),st):=fun st=>c42 true true (memb a) (memb b) (by omega) st
 simp only [ir81,go_sem,h1,h2,h3]
attribute [local go_sem] m_ x_ l_ k_ o_ t_ a_ s_ q_ b_ c_ u_ g_ zk z9 zf zm z09 z08 zd zi zh z6 zg z07
theorem zp9 {X:List (List AV)} (h:PL X)(n:Nat):okStore n X=true:=by
 induction X with
 |nil=>rfl
 |cons B r ih=>
  obtain ⟨k,i,rfl⟩:=h B (by simp)
  simp only [okStore,ih (fun C hC=>h C (by simp [hC])),okRefs,okRef,Bool.and_self]
theorem zlc {X:List (List AV)} (h:PL X)(n:Nat)(T:List Nat)(acc:List (Nat×Nat)):renStore n T acc X=(X,acc):=by
 induction X generalizing acc with
 |nil=>rfl
 |cons B r ih=>
  obtain ⟨k,i,rfl⟩:=h B (by simp)
  simp only [renStore,renCells,ren1,ih (fun C hC=>h C (by simp [hC]))]
theorem zc4 {α:Type} (X:List α)(c:α):(X++ [c])[X.length]? =some c:=by simp
theorem zgs {α:Type} (X:List α)(c d:α):(X++ [c]).set X.length d=X++ [d]:=by simp
theorem zj4 {α:Type} (X:List α)(c:α):(X++ [c]).take X.length=X:=by simp
abbrev cmpS:AV:=.fn (.func 81) [] []
theorem zpa {ss:List Nat} (h: ∀s∈ss,s<256):Dm gS (fin8 ss).toArray=ss.map u8:=by
 unfold Dm
 show (fin8 ss).map (fun x=>u8 x.val)=ss.map u8
 rw [show (fun x:Fin 256=>u8 x.val)=u8∘(fun x:Fin 256=>x.val) from rfl,←List.map_map,zhf h]
theorem Dm_srt (ss:List Nat):Dm gS (Go.Sort.sort lt8 (fin8 ss).toArray)=(srt ss).map u8:=by
 unfold Dm srt sortA
 rw [List.map_map];rfl
theorem c80 (S0:List (List AV))(T:List Nat)(l:Nat)(hl:l<S0.length)(ag:Bool)(ss:List Nat)(h: ∀s∈ss,s<256)(hn:ss.length<256):
  ∃X1,PL X1∧run L 80 [.rsl l 0 ss.length ss.length 1 ag,cmpS] ⟨S0.set l (ss.map u8),T⟩=some (.tup [],⟨S0.set l ((srt ss).map u8)++X1,T⟩):=by
 obtain ⟨X1,h1,h2⟩:=sorts S0 T l hl ss.length (by omega) ag 81 rfl [] (fun x y=>cmpN (memb x.val) (memb y.val)) lt8 (fun x y=>(zgf _ _).symm)
  (fun x y X E=>c81 x.val y.val x.isLt y.isLt _) hn (fin8 ss).toArray (by simp [fin8]) []
 rw [zpa h,Dm_srt] at h2
 unfold put at h2
 rw [List.append_nil] at h2
 exact ⟨X1,h1 PL.nil,h2⟩
theorem ins1n (st0:St)(lo hi:Nat)(i:Nat)(hok:True)(env:Env)(st:St)
  (hg:gcAV false lo hi (canon env [0,1,2,3,8]) st=([(0,.v (.slice none 0 0)),(1,I 0),(2,I 0),(3,cmpS),(8,J i)],st0)):
  ∃x_1 en s,lim (headed pure (run L) false [0,1,2,3,8] lp161_1 lo hi) env st=some (x_1,en,s)∧(x_1=.exit 0∧s=st0):=by
 refine zb (α:=Nat) (fun i=>0) (fun i=>True) (fun i=>([(0,.v (.slice none 0 0)),(1,I 0),(2,I 0),(3,cmpS),(8,J i)],st0)) (fun i x_1 en s=>x_1=.exit 0∧s=st0) (fun i hok=> ?_) i hok env st hg
 have hlt:((i:Int)<0)=False:=eF (by omega)
 simp only [go_sem,lp161_1,hlt]
theorem c161n (st:St):run L 161 [.v (.slice none 0 0),I 0,I 0,cmpS] st=some (.tup [],st):=by
 rw [zc (fn:=ir161) rfl rfl]
 have h1:IntKind.i64.wrap 1=1:=by decide
 simp only [ir161,go_sem,h1]
 generalize hg:lim (headed pure (run L) false _ lp161_1 _ _) _ _=o
 obtain ⟨x,en,s,rfl,h2⟩: ∃x en s,o=some (x,en,s)∧_:=by rw [←hg];exact ins1n st _ _ 1 trivial _ _ (by simp only [go_sem,show I 1=J 1 from rfl]<;>rfl)
 clear hg
 obtain ⟨rfl,rfl⟩:=h2
 simp only [go_sem]
theorem pdqn (st0:St)(lo hi:Nat)(i:Nat)(hok:True)(env:Env)(st:St)
  (hg:gcAV false lo hi (canon env [0,1,2,3,4,10,11]) st=([(0,.v (.slice none 0 0)),(1,I 0),(2,I 0),(3,J i),(4,cmpS),(10,B true),(11,B true)],st0)):
  ∃x_1 en s,lim (headed pure (run L) false [0,1,2,3,4,10,11] lp129_0 lo hi) env st=some (x_1,en,s)∧(x_1=.ret∧s=st0):=by
 refine zb (α:=Nat) (fun i=>0) (fun i=>True) (fun i=>([(0,.v (.slice none 0 0)),(1,I 0),(2,I 0),(3,J i),(4,cmpS),(10,B true),(11,B true)],st0)) (fun i x_1 en s=>x_1=.ret∧s=st0) (fun i hok=> ?_) i hok env st hg
 have h1:IntKind.i64.wrap 0=0:=by decide
 have h2:((0:Int)≤12)=True:=eT (by omega)
 simp only [go_sem,lp129_0,h1,h2,c161n]
theorem c80n (st:St):run L 80 [.v (.slice none 0 0),cmpS] st=some (.tup [],st):=by
 have h129: ∀i:Nat,run L 129 [.v (.slice none 0 0),I 0,I 0,J i,cmpS] st=some (.tup [],st):=by
  intro i
  rw [zc (fn:=ir129) rfl rfl]
  simp only [ir129,go_sem]
  generalize hg:lim (headed pure (run L) false _ lp129_0 _ _) _ _=o
  obtain ⟨x,en,s,rfl,h2⟩: ∃x en s,o=some (x,en,s)∧_:=by rw [←hg];exact pdqn st _ _ i trivial _ _ (by simp only [go_sem]<;>rfl)
  clear hg
  obtain ⟨rfl,rfl⟩:=h2
  simp only [go_sem]
 rw [zc (fn:=ir80) rfl rfl]
 have h115: ∀st,run L 115 [.v (.int .u64 0)] st=some (J (Go.Sort.bitsLen 0),st):=fun st=>c115 0 (by omega) st
 have hcv:IntKind.u64.wrap 0=0:=by decide
 simp only [ir80,go_sem,hcv,h115,h129]
theorem zj8:srt []=[]:=List.Perm.eq_nil (z7d (by simp))
theorem c79 (n:Nat)(h2:2≤n)(hn:n≤8)(nl:Bool)(X:List Nat)(hX: ∀v∈X,v<2^n∧v≠0∧v≠2^n-1)(hnd:(X.map (smlN n)).Nodup)(hl:X.length≤13):
  (clP (X.map (smlN n)) 0=none→∃X1,PL X1∧run L 79 [J n,sl 1 nl (X.map tM)] ⟨[],[]⟩=some (.tup [kA (srt (X.map (smlN n))),I 0],⟨kS (srt (X.map (smlN n)))++X1,[]⟩))∧
  (clP (X.map (smlN n)) 0≠none→run L 79 [J n,sl 1 nl (X.map tM)] ⟨[],[]⟩=some (.tup [.v (.slice none 0 0),I 12],⟨kS (X.map (smlN n)),[]⟩)):=by
 rw [zc (fn:=ir79) rfl rfl]
 have h2n:2^n≤256:=Nat.pow_le_pow_right (n:=2) (by decide) hn
 have h70:=c70 n h2 hn nl X hX hnd (by omega)
 have hss: ∀x∈X.map (smlN n),x<256:=by
  intro x hx
  rw [List.mem_map] at hx
  obtain ⟨v,hv,rfl⟩:=hx
  exact Nat.lt_of_lt_of_le (z1o (hX v hv).1) h2n
 have hk:(X.map (smlN n)).length≤13:=by rw [lm_];exact hl
 generalize X.map (smlN n)=ss at*
 have h71:=fun st=>c71 true ss hss hk st
 have hpl:=zex (clP ss 0)
 by_cases he:ss=[]
 ·subst he
  rw [show kA []=.v (.slice none 0 0) from rfl,show kS []=[] from rfl] at h70
  rw [show sl 1 true (([]:List Nat).map E8)=AV.v (.slice none 0 0) from rfl,show clA (clP [] 0)=.tup [I 0,I 0,B false] from rfl] at h71
  rw [show clA (clP [] 0)=.tup [I 0,I 0,B false] from rfl] at hpl
  refine ⟨fun _=>⟨[],PL.nil,?_⟩,fun h=>absurd rfl h⟩
  rw [zj8]
  simp only [ir79,go_sem,h70,show pure 70=false from rfl,show pure 71=true from rfl,shStore,shV,shVs,zhc,h71,hpl,c80n]
  rfl
 ·rw [zbo he,za4 he] at h70
  have hsv:=zay 0 ss
  obtain ⟨S2,hfr⟩:=zku he []
  refine ⟨fun hc=> ?_,fun hc=> ?_⟩
  ·rw [hc,show clA none=.tup [I 0,I 0,B false] from rfl] at h71 hpl
   obtain ⟨X1,hX1,h80⟩:=c80 [ss.map u8] [] 0 (by simp) true ss hss (by omega)
   refine ⟨X1,hX1,?_⟩
   have h80:run L 80 [.rsl 0 0 ss.length ss.length 1 true,cmpS] ⟨[ss.map u8],[]⟩=some (.tup [],⟨[(srt ss).map u8]++X1,[]⟩):=h80
   have hse:srt ss≠[]:=fun e=>he (List.eq_nil_of_length_eq_zero (by rw [←z4l hss,e];rfl))
   rw [zbo hse,za4 hse,z4l hss]
   simp only [ir79,go_sem,h70,show pure 70=false from rfl,show pure 71=true from rfl,shStore,shV,shVs,hsv,hfr,h71,hpl,h80]
  ·obtain ⟨p,hp⟩:=Option.ne_none_iff_exists'.1 hc
   obtain ⟨a,b⟩:=p
   rw [hp,show clA (some (a,b))=.tup [J a,J b,B true] from rfl] at h71 hpl
   rw [za4 he]
   simp only [ir79,go_sem,h70,show pure 70=false from rfl,show pure 71=true from rfl,shStore,shV,shVs,hsv,hfr,h71,hpl]
attribute [local go_sem] m_ x_ l_ k_ o_ t_ a_ s_ q_ b_ c_ u_ g_ zk z9 zf zm z09 z08 zd zi zh z6 zg z07
theorem u8s_E (ss:List Nat):u8s (ss.map E8)=some (ss.map fun (s:Nat)=>(s:Int)):=by
 induction ss with
 |nil=>rfl
 |cons s r ih=>simp only [List.map_cons,u8s,ih,Option.map_some]
theorem zl7 (nl:Bool)(ss:List Nat)(hk:ss.length≤1000)(st:St):bytesOf st (sl 1 nl (ss.map E8))=some (ss.map fun (s:Nat)=>(s:Int)):=by
 unfold bytesOf
 rw [z4i]
 simp only [Option.bind_some,u8s_E,lm_,if_pos hk]
theorem c130 (x:AV)(ss:List Nat)(hx: ∀st,bytesOf st x=some (ss.map fun (s:Nat)=>(s:Int)))(h: ∀s∈ss,s<256)(hk:ss.length<256):
  (ss=[]→run L 130 [.fn (.func 170) [] [.ptr 0 0],cmpS] ⟨[[x]],[]⟩=some (.v (.slice none 0 0),⟨[[x]],[]⟩))∧
  (ss≠[]→∃X1,PL X1∧run L 130 [.fn (.func 170) [] [.ptr 0 0],cmpS] ⟨[[x]],[]⟩=some (.rsl 1 0 ss.length ss.length 1 true,⟨[[x],(srt ss).map u8]++X1,[]⟩)):=by
 rw [zc (fn:=ir130) rfl rfl]
 have hb:=hx ⟨[[x]],[]⟩
 have h169: ∀r st',primSeq 192 170 192 [.v (.slice none 0 0),.fn (.func 170) [] [.ptr 0 0]] ⟨[[x]],[]⟩=some (r,st')→1≤st'.store.length→
   run L 192 [.v (.slice none 0 0),.fn (.func 170) [] [.ptr 0 0]] ⟨[[x]],[]⟩=some (r,st'):=by
  intro r st' hp h1
  exact zlm rfl rfl hp h1 (Nat.zero_le _)
 refine ⟨fun he=> ?_,fun he=> ?_⟩
 ·rw [he,List.map_nil] at hb
  have h192:=h169 (.v (.slice none 0 0)) ⟨[[x]],[]⟩ (by
   simp only [primSeq,if_true,List.getElem?_cons_zero,hb]) (by simp)
  have h169:run L 169 [.fn (.func 170) [] [.ptr 0 0]] ⟨[[x]],[]⟩=some (.v (.slice none 0 0),⟨[[x]],[]⟩):=by
   rw [zc (fn:=ir169) rfl rfl]
   simp only [ir169,go_sem,h192,show pure 192=false from rfl]
  simp only [ir130,go_sem,h169,c80n]
 ·obtain ⟨z,zs,rfl⟩: ∃z zs,ss=z::zs:=by cases ss with|nil=>exact absurd rfl he|cons z zs=>exact ⟨z,zs,rfl⟩
  generalize hss:z::zs=ss at*
  have h192:=h169 (.rsl 1 0 ss.length ss.length 1 true) ⟨[[x],ss.map u8],[]⟩ (by
   have e:(ss.map fun (s:Nat)=>(s:Int))=(z:Int)::zs.map fun (s:Nat)=>(s:Int):=by rw [←hss];rfl
   rw [e] at hb
   simp only [primSeq,if_true,List.getElem?_cons_zero,hb]
   have e1:((z:Int)::zs.map fun (s:Nat)=>(s:Int)).length=ss.length:=by rw [←hss];simp
   have e2:(((z:Int)::zs.map fun (s:Nat)=>(s:Int)).map fun z=>AV.v (.int .u8 z))=ss.map u8:=by rw [←hss];simp
   rw [e1,e2];rfl) (by simp)
  have h169:run L 169 [.fn (.func 170) [] [.ptr 0 0]] ⟨[[x]],[]⟩=some (.rsl 1 0 ss.length ss.length 1 true,⟨[[x],ss.map u8],[]⟩):=by
   rw [zc (fn:=ir169) rfl rfl]
   simp only [ir169,go_sem,h192,show pure 192=false from rfl]
  obtain ⟨X1,hX1,h80⟩:=c80 [[x],ss.map u8] [] 1 (by simp) true ss h hk
  have h80:run L 80 [.rsl 1 0 ss.length ss.length 1 true,cmpS] ⟨[[x],ss.map u8],[]⟩=some (.tup [],⟨[[x],(srt ss).map u8]++X1,[]⟩):=h80
  refine ⟨X1,hX1,?_⟩
  simp only [ir130,go_sem,h169,h80]
theorem loop84 (C:List AV)(hC1: ∀n,okRefs n C=true)(hC2: ∀n T acc,renCells n T acc C=(C,acc))(X1:List (List AV))(hX:PL X1)(ss:List Nat)(h256: ∀s∈ss,s<256)(hk:ss.length<256)(i:Nat)(o:List Nat)(hok:i≤ss.length∧o.length≤i)(env:Env)(st:St)
  (hg:gcAV true (X1.length+1+1) 0 (canon env [3,8,9,10]) st=([(3,oA (o.map tM)),(8,.rsl 1 0 ss.length ss.length 1 true),(9,J ss.length),(10,J i)],⟨C::ss.map u8::X1,oT (o.map tM)⟩)):
  ∃x_1 en s,lim (headed pure (run L) true [3,8,9,10] lp84_0 (X1.length+1+1) 0) env st=some (x_1,en,s)∧(x_1=.exit 0∧en.get 3=oA ((o++ss.drop i).map tM)):=by
 refine zb (α:=Nat×List Nat) (fun ⟨i,o⟩=>ss.length-i) (fun ⟨i,o⟩=>i≤ss.length∧o.length≤i) (fun ⟨i,o⟩=>([(3,oA (o.map tM)),(8,.rsl 1 0 ss.length ss.length 1 true),(9,J ss.length),(10,J i)],⟨C::ss.map u8::X1,oT (o.map tM)⟩)) (fun ⟨i,o⟩ x_1 en s=>x_1=.exit 0∧en.get 3=oA ((o++ss.drop i).map tM)) (fun ⟨i,o⟩ hok=> ?_) ⟨i,o⟩ hok env st hg
 simp only at hok
 obtain ⟨h1,h2⟩:=hok
 dsimp only at h1 h2⊢
 by_cases h:i<ss.length
 ·have hs:=zj i (by omega)
  have hlt:((i:Int)<(ss.length:Int))=True:=eT (by omega)
  have hd:ss.drop i=ss.getD i 0::ss.drop (i+1):=by
   rw [List.drop_eq_getElem_cons h];simp [List.getD_eq_getElem?_getD,h]
  have hb:ss.getD i 0<256:=by
   rw [List.getD_eq_getElem?_getD,List.getElem?_eq_getElem h];exact h256 _ (List.getElem_mem h)
  have hg:=zem ss i h
  have hil:(i+1≤ss.length)=True:=eT (by omega)
  have hin:((i:Int).toNat<ss.length)=True:=eT (by omega)
  rw [hd]
  generalize ss.getD i 0=v at*
  have h94:=fun st=>c94 v hb st
  have happ:=fun S=>z9p (o.map tM) (tM v) S (by rw [lm_];omega)
  have g1:=zc4 X1 [u8 v]
  have g2:=zgs X1 [u8 v] [u8 v]
  have g0:=zc4 X1 [u8 0]
  have g3:=zgs X1 [u8 0] [u8 v]
  have g4:=zj4 X1 [u8 v]
  have hl1:(1<X1.length+1+1)=True:=eT (by omega)
  simp only [go_sem,lp84_0,hlt,hs,hil,hin,hg,h94,happ,g0,g1,g2,g3,nn_,lm_,show AV.v (.int .u8 0)=u8 0 from rfl]
  refine ⟨(i+1,o++ [v]),by simp only [go_sem,z3,z4,z5,zet,z97,List.map_append,hC1,hC2,zr,zn,zp9 hX,zlc hX,g4,hl1]<;>rfl,?_,?_,fun x en s hq=> ?_⟩
  ·dsimp only;exact ⟨by omega,by rw [List.length_append,List.length_singleton];omega⟩
  ·dsimp only;omega
  ·simp only [List.append_assoc,List.singleton_append] at hq;exact hq
 ·have hd:ss.drop i=[]:=List.drop_eq_nil_of_le (by omega)
  have hlt:((i:Int)<(ss.length:Int))=False:=eF (by omega)
  rw [hd,List.append_nil]
  simp only [go_sem,lp84_0,hlt]
theorem zoe (C:List AV)(hC1: ∀n,okRefs n C=true)(hC2: ∀n T acc,renCells n T acc C=(C,acc))(i:Nat)(hok:i=0)(env:Env)(st:St)
  (hg:gcAV true 1 0 (canon env [3,8,9,10]) st=([(3,.v (.slice none 0 0)),(8,.v (.slice none 0 0)),(9,I 0),(10,J i)],⟨[C],[]⟩)):
  ∃x_1 en s,lim (headed pure (run L) true [3,8,9,10] lp84_0 1 0) env st=some (x_1,en,s)∧(x_1=.exit 0∧en.get 3=.v (.slice none 0 0)):=by
 refine zb (α:=Nat) (fun i=>i) (fun i=>i=0) (fun i=>([(3,.v (.slice none 0 0)),(8,.v (.slice none 0 0)),(9,I 0),(10,J i)],⟨[C],[]⟩)) (fun i x_1 en s=>x_1=.exit 0∧en.get 3=.v (.slice none 0 0)) (fun i hok=> ?_) i hok env st hg
 subst hok
 have hlt:(((0:Nat):Int)<0)=False:=eF (by omega)
 simp only [go_sem,lp84_0,hlt]
theorem c84 (nl:Bool)(ss:List Nat)(h: ∀s∈ss,s<256)(hk:ss.length<256)(st:St):run L 84 [sl 1 nl (ss.map E8)] st=some (sl 1 true ((srt ss).map tM),st):=by
 rw [run_pure (fn:=ir84) rfl rfl]
 have h131:run L 131 [sl 1 nl (ss.map E8)] ⟨[],[]⟩=some (.fn (.func 170) [] [.ptr 0 0],⟨[[sl 1 nl (ss.map E8)]],[]⟩):=by
  rw [zc (fn:=ir131) rfl rfl]
  simp only [ir131,go_sem]
 have h130:=c130 (sl 1 nl (ss.map E8)) ss (fun st=>zl7 nl ss (by omega) st) h hk
 have hp:pub (sl 1 nl (ss.map E8))=sl 1 nl (ss.map E8):=z6s _ _ _
 have ho: ∀n,okRef n (sl 1 nl (ss.map E8))=true:=fun n=>z4g _ _ _ _
 have hr: ∀n T acc,ren1 n T acc (sl 1 nl (ss.map E8))=(sl 1 nl (ss.map E8),acc):=fun n T acc=>z6p _ _ _ _ _ _
 generalize sl 1 nl (ss.map E8)=x at*
 have hC1: ∀n,okRefs n [x]=true:=fun n=>by simp only [okRefs,ho,Bool.and_self]
 have hC2: ∀n T acc,renCells n T acc [x]=([x],acc):=fun n T acc=>by simp only [renCells,hr]
 by_cases he:ss=[]
 ·have h130:=h130.1 he
  have hz:srt ss=[]:=by rw [he,zj8]
  rw [hz]
  simp only [ir84,go_sem,hp,h131,h130]
  generalize hg:lim (headed pure (run L) true _ lp84_0 _ _) _ _=o
  obtain ⟨x,en,s,rfl,h2⟩: ∃x en s,o=some (x,en,s)∧_:=by rw [←hg];exact zoe [x] hC1 hC2 0 rfl _ _ (by simp only [go_sem,ho,hr,Int.natCast_zero]<;>rfl)
  clear hg
  obtain ⟨rfl,e3⟩:=h2
  simp only [go_sem,e3]
  rfl
 ·obtain ⟨X1,hX1,h130⟩:=h130.2 he
  have hsl:=z4l h
  have hl1:(1<X1.length+1+1)=True:=eT (by omega)
  simp only [ir84,go_sem,hp,h131,h130]
  rw [←hsl]
  generalize hg:lim (headed pure (run L) true _ lp84_0 _ _) _ _=o
  obtain ⟨x,en,s,rfl,h2⟩: ∃x en s,o=some (x,en,s)∧_:=by rw [←hg];exact loop84 [x] hC1 hC2 X1 hX1 (srt ss) (zaa ss) (by omega) 0 [] ⟨by omega,by simp⟩ _ _ (by simp only [go_sem,ho,hr,zr,zn,zp9 hX1,zlc hX1,hl1,Int.natCast_zero,List.map_nil,←zdr,zf4,List.take_length]<;>rfl)
  clear hg
  rw [List.drop_zero] at h2
  obtain ⟨rfl,e3⟩:=h2
  simp only [go_sem,e3]
attribute [local go_sem] m_ x_ l_ k_ o_ t_ a_ s_ q_ b_ c_ u_ g_ zk z9 zf zm z09 z08 zd zi zh z6 zg z07
theorem zjq {α:Type} (A L:List α) {p:Nat} (hp:A.length=p)(k:Nat):(A++L)[p+k]? =L[k]? :=by
 subst hp;rw [List.getElem?_append_right (by omega)];simp
theorem za0 {α:Type} (A L:List α) {p:Nat} (hp:A.length=p):(A++L)[p]? =L[0]? :=zjq A L hp 0
theorem znb {α:Type} (A L:List α) {p:Nat} (hp:A.length=p)(k:Nat)(v:α):(A++L).set (p+k) v=A++L.set k v:=by
 subst hp;rw [List.set_append_right _ _ (by omega)];simp
theorem zbe {α:Type} (A L:List α) {p:Nat} (hp:A.length=p)(v:α):(A++L).set p v=A++L.set 0 v:=znb A L hp 0 v
theorem zjp {α:Type} (A L:List α) {p:Nat} (hp:A.length=p):(A++L).length=p+L.length:=by rw [List.length_append,hp]
structure Calm (A:List (List AV)):Prop where
 ok: ∀n,okStore n A=true
 ren: ∀n T acc,renStore n T acc A=(A,acc)
theorem Calm.okApp {A:List (List AV)} (h:Calm A)(n:Nat)(L:List (List AV)):okStore n (A++L)=okStore n L:=by
 have key: ∀(B:List (List AV)),okStore n (B++L)=(okStore n B&&okStore n L):=by
  intro B
  induction B with
  |nil=>rfl
  |cons b r ih=>simp only [List.cons_append,okStore,ih,Bool.and_assoc]
 rw [key,h.ok,Bool.true_and]
theorem Calm.renApp {A:List (List AV)} (h:Calm A)(n:Nat)(T:List Nat)(acc:List (Nat×Nat))(L:List (List AV)):renStore n T acc (A++L)=(A++(renStore n T acc L).1,(renStore n T acc L).2):=by
 have key: ∀(B:List (List AV)) (acc:List (Nat×Nat)),renStore n T acc (B++L)=((renStore n T acc B).1++(renStore n T (renStore n T acc B).2 L).1,(renStore n T (renStore n T acc B).2 L).2):=by
  intro B
  induction B with
  |nil=>intro acc;rfl
  |cons b r ih=>intro acc;simp only [List.cons_append,renStore,ih]
 rw [key,h.ren]
theorem PL.calm {X:List (List AV)} (h:PL X):Calm X:=⟨zp9 h,zlc h⟩
theorem Calm.cons {A:List (List AV)} (h:Calm A) {C:List AV} (hC1: ∀n,okRefs n C=true)(hC2: ∀n T acc,renCells n T acc C=(C,acc)):Calm (C::A):=
 ⟨fun n=>by simp only [okStore,hC1,h.ok,Bool.and_self],fun n T acc=>by simp only [renStore,hC2,h.ren]⟩
def isP (l:Nat):AV→Bool
 | .ptr l' _=>l'==l
 |_=>false
def notP (l:Nat):AV→Bool
 | .ptr l' _=>l' !=l
 |_=>true
theorem onB1 (env:Env)(t:Tmp)(l o:Nat):onB env [t] (.ptr l o)=isP l (env.get t):=by
 show ([t].any fun t=>match env.get t with| .ptr l' _=>l'==l|_=>false)=_
 rw [List.any_cons,List.any_nil,Bool.or_false];rfl
theorem zi7 (env:Env)(ts:List Tmp)(e:AV)(o:Nat):onB env ts (.eptr e o)=true:=rfl
theorem zib (env:Env)(t:Tmp)(l o:Nat):offB env [t] (.ptr l o)=notP l (env.get t):=by
 show ([t].all fun t=>match env.get t with| .ptr l' _=>l' !=l|_=>true)=_
 rw [List.all_cons,List.all_nil,Bool.and_true];rfl
theorem za5 (l l' o:Nat):isP l (.ptr l' o)=(l'==l):=rfl
theorem z7i (l l' o:Nat):notP l (.ptr l' o)=(l' !=l):=rfl
attribute [local go_sem] m_ x_ l_ k_ o_ t_ a_ s_ q_ b_ c_ u_ g_ zk z9 zf zm z09 z08 zd zi zh z6 zg z07
theorem z7j (l:Nat):notP l .any=true:=rfl
theorem znf {a b cs:List AV} (hne:cs≠[])(T:List Nat)(env:Env):
  frzL 2 env ⟨[a,b,cs],T⟩=(frzEnv 2 cs env,⟨[frzVs 2 cs a,frzVs 2 cs b,[]],T⟩):=by
 cases cs with
 |nil=>exact absurd rfl hne
 |cons x r=>rfl
theorem zhb (l:Nat)(X:List Nat)(h:X≠[]):frzV l (X.map u8) (.rsl l 0 X.length X.length 1 true)=sl 1 true (X.map E8):=by
 simp only [frzV,lm_,List.drop_zero]
 rw [if_pos ⟨trivial,by omega,.inl trivial,Nat.le_refl _⟩,zo3,zha,z7z (by simpa using h)]
theorem frzEnv_get (l:Nat)(cs:List AV)(env:Env)(t:Tmp):(frzEnv l cs env).get t=frzV l cs (env.get t):=by
 induction env with
 |nil=>simp [frzEnv,Env.get,frzV]
 |cons x r ih=>
  obtain ⟨u,a⟩:=x
  simp only [frzEnv,Env.get]
  split
  ·rfl
  ·exact ih
theorem c89 (n:Nat)(h2:2≤n)(hn:n≤8)(nl:Bool)(X:List Nat)(hX: ∀v∈X,v<2^n∧v≠0∧v≠2^n-1)(hnd:(X.map (smlN n)).Nodup)(hl:X.length≤13)(i j:Nat)(hi:i<X.length)(hj:j<X.length)(st:St):
  run L 89 [J n,sl 1 nl (X.map tM),J i,J j] st=some (.tup [E8 ((X.map (smlN n)).getD i 0),E8 ((X.map (smlN n)).getD j 0),I 0],st):=by
 rw [run_pure (fn:=ir89) rfl rfl]
 have h70:=c70 n h2 hn nl X hX hnd (by omega)
 have hsl:(X.map (smlN n)).length=X.length:=List.length_map ..
 rw [←hsl] at hi hj hl
 clear hsl hX hnd
 generalize X.map (smlN n)=ss at*
 have he:ss≠[]:=by intro e;subst e;simp at hi
 rw [zbo he,za4 he] at h70
 have hsv:=zay 2 ss
 have hfz:=fun T env=>znf (a:=[u8 0]) (b:=[u8 0]) (cs:=ss.map u8) (by simpa using he) T env
 have hfv:=zhb 2 ss he
 have q1:(min (i:Int) (j:Int)<0)=False:=eF (by omega)
 have q2:((ss.length:Int)≤max (i:Int) (j:Int))=False:=eF (by omega)
 have hxi:=z0l E8 true ss i hi
 have hxj:=z0l E8 true ss j hj
 have hgi:ss.getD i 0=ss[i]:=by rw [List.getD_eq_getElem?_getD,List.getElem?_eq_getElem hi];rfl
 have hgj:ss.getD j 0=ss[j]:=by rw [List.getD_eq_getElem?_getD,List.getElem?_eq_getElem hj];rfl
 have hll:=zq E8 true ss
 rw [hgi,hgj]
 generalize ss[i]=a at*
 generalize ss[j]=b at*
 simp only [ir89,go_sem,h70,show pure 70=false from rfl,shStore,shV,shVs,hsv,z4j,frzAV,frzT,frzLs,rslsOf,hfz,frzEnv,frzEnv_get,zks,ze2,zgb,ze3,ze1,frzVs,hfv,q1,q2,hll,hxi,hxj,onB1,zi7,zib,za5,z7i,z7j,show AV.v (.int .u8 0)=u8 0 from rfl]
theorem c24 (n:Nat)(h2:2≤n)(hn:n≤8)(nl:Bool)(X:List Nat)(hX: ∀v∈X,v<2^n∧v≠0∧v≠2^n-1)(hnd:(X.map (smlN n)).Nodup)(hl:X.length≤13)(i j:Nat)(hi:i<X.length)(hj:j<X.length)(st:St):
  run L 24 [J n,sl 1 nl (X.map tM),J i,J j] st=some (I (if agN ((X.map (smlN n)).getD i 0) ((X.map (smlN n)).getD j 0)=true then 14 else 0),st):=by
 rw [run_pure (fn:=ir24) rfl rfl]
 have h89:=fun st=>c89 n h2 hn nl X hX hnd hl i j hi hj st
 have h2n:2^n≤256:=Nat.pow_le_pow_right (n:=2) (by decide) hn
 have h8: ∀k,k<X.length→(X.map (smlN n)).getD k 0<256:=by
  intro k hk
  have hm:=z16 (L:=X.map (smlN n)) (k:=k) (by rw [lm_];exact hk)
  rw [List.mem_map] at hm
  obtain ⟨v,hv,e⟩:=hm
  rw [←e]
  exact Nat.lt_of_lt_of_le (z1o (hX v hv).1) h2n
 have ha:=h8 i hi
 have hb:=h8 j hj
 generalize (X.map (smlN n)).getD i 0=a at*
 generalize (X.map (smlN n)).getD j 0=b at*
 have h73:=fun st=>c73 a b ha hb st
 cases hag:agN a b with
 |true=>
  rw [hag] at h73
  rw [if_pos rfl]
  simp only [ir24,go_sem,h89,h73]
 |false=>
  rw [hag] at h73
  rw [if_neg (by simp)]
  simp only [ir24,go_sem,h89,h73]
theorem loop23 (n1 n2:Bool)(xs ys:List (List Int))(hl:xs.length=ys.length)(hlen:xs.length<1000000)(hlx: ∀x∈xs,x.length<1000000)(i:Nat)(hok:i≤xs.length)(env:Env)(st:St)
  (hg:gcAV true 0 0 (canon env [0,1,5]) st=([(0,sl 1 n1 (xs.map tAV)),(1,sl 1 n2 (ys.map tAV)),(5,I i)],⟨[],[]⟩)):
  ∃x_1 en s,lim (headed pure (run L) true [0,1,5] lp23_0 0 0) env st=some (x_1,en,s)∧(if xs.drop i=ys.drop i then x_1=.exit 0 else x_1=.ret∧en.get 4=B false):=by
 refine zb (α:=Nat) (fun i=>xs.length-i) (fun i=>i≤xs.length) (fun i=>([(0,sl 1 n1 (xs.map tAV)),(1,sl 1 n2 (ys.map tAV)),(5,I i)],⟨[],[]⟩)) (fun i x_1 en s=>if xs.drop i=ys.drop i then x_1=.exit 0 else x_1=.ret∧en.get 4=B false) (fun i hok=> ?_) i hok env st hg
 by_cases h:i<xs.length
 ·have hx:=z0l tAV n1 xs i h
  have hy:=z0l tAV n2 ys i (by omega)
  have hs:=zj i (by omega)
  have hd:xs.drop i=xs[i]::xs.drop (i+1):=List.drop_eq_getElem_cons h
  have hd2:ys.drop i=ys[i]::ys.drop (i+1):=List.drop_eq_getElem_cons (by omega)
  have hlt:((i:Int)<(xs.length:Int))=True:=eT (by omega)
  have ha:=hlx xs[i] (List.getElem_mem h)
  rw [hd,hd2]
  generalize xs[i]=a at*
  generalize ys[i]'(by omega)=b at*
  have h22: ∀st,run L 22 [tAV a,tAV b] st=some (B (decide (a=b)),st):=fun st=>c22 true true a b ha st
  by_cases p:a=b
  ·rw [decide_eq_true p] at h22
   simp only [go_sem,lp23_0,hx,hy,hlt,h22,hs,lm_]
   refine ⟨i+1,by simp only [go_sem,z3,z4,z5]<;>rfl,?_,?_,fun x en s hq=> ?_⟩
   ·omega
   ·omega
   ·simp only [List.cons.injEq,p,true_and];exact hq
  ·rw [decide_eq_false p] at h22
   simp only [go_sem,lp23_0,hx,hy,hlt,h22,lm_]
   rw [if_neg (by simp [p])];trivial
 ·have hd:xs.drop i=[]:=List.drop_eq_nil_of_le (by omega)
  have hd2:ys.drop i=[]:=List.drop_eq_nil_of_le (by omega)
  have hlt:((i:Int)<(xs.length:Int))=False:=eF (by omega)
  simp only [go_sem,lp23_0,hlt,lm_]
  rw [hd,hd2];simp
theorem c23 (n1 n2:Bool)(xs ys:List (List Int))(hlen:xs.length<1000000)(hlx: ∀x∈xs,x.length<1000000)(st:St):run L 23 [sl 1 n1 (xs.map tAV),sl 1 n2 (ys.map tAV)] st=some (B (decide (xs=ys)),st):=by
 rw [run_pure (fn:=ir23) rfl rfl]
 by_cases hl:xs.length=ys.length
 ·simp only [ir23,go_sem,lm_,hl]
  generalize hg:lim (headed pure (run L) true _ lp23_0 _ _) _ _=o
  obtain ⟨x,en,s,rfl,h2⟩: ∃x en s,o=some (x,en,s)∧_:=by rw [←hg];exact loop23 n1 n2 xs ys hl hlen hlx 0 (by omega) _ _ (by simp only [go_sem]<;>rfl)
  clear hg
  simp only [List.drop_zero] at h2
  by_cases h:xs=ys
  ·rw [if_pos h] at h2
   subst h2
   simp only [go_sem,h]
  ·rw [if_neg h] at h2
   obtain ⟨rfl,h3⟩:=h2
   simp only [go_sem,h3,h]
 ·have hl2:((xs.length:Int)=(ys.length:Int))=False:=eF (by omega)
  have hne: ¬xs=ys:=fun h=>hl (by rw [h])
  simp only [ir23,go_sem,lm_,hl2,hne]
theorem c23M (n1 n2:Bool)(xs ys:List Nat)(hlen:xs.length<1000000)(st:St):run L 23 [sl 1 n1 (xs.map tM),sl 1 n2 (ys.map tM)] st=some (B (decide (xs.map memb=ys.map memb)),st):=by
 have:=c23 n1 n2 (xs.map memb) (ys.map memb) (by simpa using hlen) (fun x hx=>by
  rw [List.mem_map] at hx
  obtain ⟨m,_,rfl⟩:=hx
  have:=z14 m
  omega) st
 rw [List.map_map,List.map_map] at this
 exact this
attribute [local go_sem] m_ x_ l_ k_ o_ t_ a_ s_ q_ b_ c_ u_ g_ zk z9 zf zm z09 z08 zd zi zh z6 zg z07
def walkO (U:List Nat) (a:Nat):Nat→Nat→List Nat→List Nat
 |0,_,out=>out
 |f+1,at',out=>if at'=0 then out else walkO U a f (upC U at') (out.set (at'-1) (out.getD (at'-1) 0|||2^a))
def outF (U:List Nat):Nat→List Nat→List Nat→List Nat
 |_,[],out=>out
 |a,w::r,out=>outF U (a+1) r (walkO U a U.length w out)
def outL (U W:List Nat):List Nat:=outF U 0 W (List.replicate U.length 0)
def srtB (O:List Nat):Bool:=(List.range (O.length-1)).all fun j=> !lexLt (memb (O.getD (j+1) 0)) (memb (O.getD j 0))
theorem zdw (U:List Nat)(t c:Nat):itC U (t+1) c=upC U (itC U t c):=by
 have:=z0x U t 1 c
 rw [this];rfl
theorem upC_le {U:List Nat} {m:Nat} (h: ∀u∈U,u≤m)(c:Nat):upC U c≤m:=by
 unfold upC
 split
 ·omega
 ·rw [List.getD_eq_getElem?_getD]
  cases hc:U[c-1]? with
  |none=>simp
  |some u=>exact h u (List.mem_of_getElem? hc)
theorem zkh {U:List Nat} {m:Nat} (h: ∀u∈U,u≤m): ∀(t c:Nat),c≤m→itC U t c≤m
 |0,_,hc=>hc
 |t+1,c,_=>zkh h t _ (upC_le h c)
attribute [local go_sem] m_ x_ l_ k_ o_ t_ a_ s_ q_ b_ c_ u_ g_ zk z9 zf zm z09 z08 zd zi zh z6 zg z07
theorem zgr (L:List Nat)(i v k:Nat):(L.set i v).getD k 0=if i=k∧k<L.length then v else L.getD k 0:=by
 rw [List.getD_eq_getElem?_getD,List.getD_eq_getElem?_getD,List.getElem?_set]
 by_cases h:i=k
 ·subst h
  by_cases h2:i<L.length
  ·simp [h2]
  ·rw [if_pos rfl,if_neg h2,if_neg (by simp [h2]),List.getElem?_eq_none (by omega)]
 ·rw [if_neg h,if_neg (by simp [h])]
attribute [local go_sem] m_ x_ l_ k_ o_ t_ a_ s_ q_ b_ c_ u_ g_ zk z9 zf zm z09 z08 zd zi zh z6 zg z07
theorem zdf (U:List Nat)(a:Nat)(ha:a<8): ∀(f w:Nat) (O:List Nat),(∀k,O.getD k 0<256)→(walkO U a f w O).length=O.length∧∀k,(walkO U a f w O).getD k 0<256
 |0,_,_,h=>⟨rfl,h⟩
 |f+1,w,O,h=>by
  unfold walkO
  split
  ·exact ⟨rfl,h⟩
  ·have hb: ∀k,(O.set (w-1) (O.getD (w-1) 0|||2^a)).getD k 0<256:=by
    intro k
    rw [zgr]
    split
    ·exact Nat.or_lt_two_pow (n:=8) (h _) (Nat.pow_lt_pow_right (by omega) ha)
    ·exact h k
   have ih:=zdf U a ha f (upC U w) _ hb
   exact ⟨by rw [ih.1,List.length_set],ih.2⟩
theorem zg6 (U:List Nat): ∀(W:List Nat) (a:Nat) (O:List Nat),a+W.length≤8→(∀k,O.getD k 0<256)→(outF U a W O).length=O.length∧∀k,(outF U a W O).getD k 0<256
 | [],_,_,_,h=>⟨rfl,h⟩
 |w::r,a,O,hl,h=>by
  rw [List.length_cons] at hl
  have h1:=zdf U a (by omega) U.length w O h
  have ih:=zg6 U r (a+1) (walkO U a U.length w O) (by omega) h1.2
  exact ⟨ih.1.trans h1.1,ih.2⟩
attribute [local go_sem] m_ x_ l_ k_ o_ t_ a_ s_ q_ b_ c_ u_ g_ zk z9 zf zm z09 z08 zd zi zh z6 zg z07
theorem zhq (U:List Nat)(a f:Nat)(O:List Nat):walkO U a f 0 O=O:=by
 cases f with
 |zero=>rfl
 |succ f=>unfold walkO;rw [if_pos rfl]
theorem zei (U:List Nat)(a:Nat): ∀(f w:Nat) (O:List Nat),(∀t,itC U t w≤O.length)→∀k,k<O.length→∀b,
  ((walkO U a f w O).getD k 0).testBit b=((O.getD k 0).testBit b||(decide (b=a)&&decide (∃t,t<f∧itC U t w=k+1)))
 |0,w,O,_,k,hk,b=>by
  have: ¬ ∃t,t<0∧itC U t w=k+1:=fun ⟨t,h,_⟩=>by omega
  rw [decide_eq_false this,Bool.and_false,Bool.or_false];rfl
 |f+1,w,O,hle,k,hk,b=>by
  by_cases hw:w=0
  ·subst hw
   rw [zhq]
   have: ¬ ∃t,t<f+1∧itC U t 0=k+1:=fun ⟨t,_,h⟩=>by rw [z5p] at h;omega
   rw [decide_eq_false this,Bool.and_false,Bool.or_false]
  ·have e:walkO U a (f+1) w O=walkO U a f (upC U w) (O.set (w-1) (O.getD (w-1) 0|||2^a)):=by
    show (if w=0 then O else _)=_
    rw [if_neg hw]
   have hw1:w≤O.length:=hle 0
   have ih:=zei U a f (upC U w) (O.set (w-1) (O.getD (w-1) 0|||2^a)) (fun t=>by rw [List.length_set];exact hle (t+1)) k (by rw [List.length_set];exact hk) b
   rw [e,ih,zgr]
   have hsplit:decide (∃t,t<f+1∧itC U t w=k+1)=(decide (w=k+1)||decide (∃t,t<f∧itC U t (upC U w)=k+1)):=by
    rw [Bool.eq_iff_iff]
    simp only [Bool.or_eq_true,decide_eq_true_eq]
    constructor
    ·rintro ⟨t,h1,h2⟩
     cases t with
     |zero=>exact .inl h2
     |succ t=>exact .inr ⟨t,by omega,h2⟩
    ·rintro (h| ⟨t,h1,h2⟩)
     ·exact ⟨0,by omega,h⟩
     ·exact ⟨t+1,by omega,h2⟩
   rw [hsplit]
   by_cases hk2:w=k+1
   ·rw [if_pos ⟨by omega,hk⟩,Nat.testBit_or,Nat.testBit_two_pow,decide_eq_true hk2,Bool.true_or,Bool.and_true]
    rw [show w-1=k by omega]
    have e3:decide (a=b)=decide (b=a):=by simp only [eq_comm]
    rw [e3]
    cases (O.getD k 0).testBit b<;>cases decide (b=a)<;>simp
   ·rw [if_neg (by omega),decide_eq_false hk2,Bool.false_or]
theorem zgy (U:List Nat)(m:Nat)(hU: ∀u∈U,u≤m): ∀(W:List Nat) (a:Nat) (O:List Nat),a+W.length≤8→O.length=m→(∀w∈W,w≤m)→(∀k,O.getD k 0<256)→∀k,k<m→∀b,
  ((outF U a W O).getD k 0).testBit b=((O.getD k 0).testBit b||(decide (a≤b∧b<a+W.length)&&decide (∃t,t<U.length∧itC U t (W.getD (b-a) 0)=k+1)))
 | [],a,O,_,_,_,_,k,hk,b=>by
  have: ¬(a≤b∧b<a+([]:List Nat).length):=by simp
  rw [decide_eq_false this,Bool.false_and,Bool.or_false];rfl
 |w::r,a,O,hl,hO,hW,hb,k,hk,b=>by
  rw [List.length_cons] at hl
  have hwo:=zdf U a (by omega) U.length w O hb
  have hbit:=zei U a U.length w O (fun t=>by rw [hO];exact zkh hU t w (hW w (by simp))) k (by rw [hO];exact hk) b
  have ih:=zgy U m hU r (a+1) (walkO U a U.length w O) (by omega) (by rw [hwo.1,hO]) (fun x hx=>hW x (by simp [hx])) hwo.2 k hk b
  show ((outF U (a+1) r (walkO U a U.length w O)).getD k 0).testBit b=_
  rw [ih,hbit]
  by_cases h1:b=a
  ·subst h1
   have e1: ¬(b+1≤b∧b<b+1+r.length):=by omega
   have e2:b≤b∧b<b+(w::r).length:=⟨Nat.le_refl _,by simp⟩
   rw [decide_eq_false e1,decide_eq_true e2,Nat.sub_self,List.getD_cons_zero]
   simp
  ·rw [decide_eq_false h1,Bool.false_and,Bool.or_false]
   by_cases h2:a+1≤b∧b<a+1+r.length
   ·have e2:a≤b∧b<a+(w::r).length:=⟨by omega,by rw [List.length_cons];omega⟩
    rw [decide_eq_true h2,decide_eq_true e2,show b-a=(b-(a+1))+1 by omega]
    rfl
   ·have e2: ¬(a≤b∧b<a+(w::r).length):=by rw [List.length_cons];omega
    rw [decide_eq_false h2,decide_eq_false e2]
    simp
theorem zlx {U W:List Nat} (hU: ∀u∈U,u≤U.length)(hW: ∀w∈W,w≤U.length)(hWl:W.length≤8) {k:Nat} (hk:k<U.length)(b:Nat):
  ((outL U W).getD k 0).testBit b=(decide (b<W.length)&&decide (∃t,t<U.length∧itC U t (W.getD b 0)=k+1)):=by
 have h:=zgy U U.length hU W 0 (List.replicate U.length 0) (by omega) (by simp) hW (fun k=>by simp [List.getD_eq_getElem?_getD,List.getElem?_replicate];split<;>simp) k hk b
 have e0:((List.replicate U.length 0).getD k 0).testBit b=false:=by
  simp [List.getD_eq_getElem?_getD,List.getElem?_replicate,hk]
 unfold outL
 rw [h,e0,Bool.false_or,Nat.zero_add,Nat.sub_zero]
 simp
attribute [local go_sem] m_ x_ l_ k_ o_ t_ a_ s_ q_ b_ c_ u_ g_ zk z9 zf zm z09 z08 zd zi zh z6 zg z07
theorem Lam.srt {n:Nat} {ss:List Nat} (h:Lam n ss)(hn:n≤8):Lam n (srt ss):=by
 have h8: ∀s∈ss,s<256:=fun s hs=>h.lt8 hn hs
 have hp:=z7d h8
 exact ⟨fun s hs=>h.lt s (hp.mem_iff.1 hs),fun s hs=>h.ne s (hp.mem_iff.1 hs),fun s hs=>h.even s (hp.mem_iff.1 hs),hp.nodup_iff.2 h.nd,fun s hs t ht=>h.ag s (hp.mem_iff.1 hs) t (hp.mem_iff.1 ht)⟩
attribute [local go_sem] m_ x_ l_ k_ o_ t_ a_ s_ q_ b_ c_ u_ g_ zk z9 zf zm z09 z08 zd zi zh z6 zg z07
def Num (A:List (List AV)):Prop:=∀C∈A,∃xs:List Value,C=xs.map AV.v
theorem Num.nil:Num []:=fun _ h=>by cases h
theorem Num.app {A B:List (List AV)} (h:Num A)(g:Num B):Num (A++B):=fun C hC=>(List.mem_append.1 hC).elim (h C) (g C)
theorem Num.one8 (ss:List Nat):Num [ss.map u8]:=fun C hC=>⟨ss.map fun (n:Nat)=>Value.int .u8 (n:Int),by rw [List.mem_singleton.1 hC,List.map_map];rfl⟩
theorem Num.kS (ss:List Nat):Num (kS ss):=by
 unfold Vm.kS;split
 ·exact Num.nil
 ·exact Num.one8 ss
theorem PL.num {X:List (List AV)} (h:PL X):Num X:=fun C hC=>by
 obtain ⟨k,i,rfl⟩:=h C hC
 exact ⟨[.int k i],rfl⟩
theorem Num.refs {A:List (List AV)} (h:Num A)(n:Nat)(acc:List Nat):refsStore n acc A=acc:=by
 induction A generalizing acc with
 |nil=>rfl
 |cons C r ih=>
  obtain ⟨xs,rfl⟩:=h C (by simp)
  simp only [refsStore]
  rw [show refsL n acc (xs.map AV.v)=acc from z9z n (fun x=>x) xs acc]
  exact ih (fun D hD=>h D (by simp [hD])) acc
theorem Num.maps {A:List (List AV)} (h:Num A)(n:Nat)(M:List Nat):mapStore n M A=A:=by
 induction A with
 |nil=>rfl
 |cons C r ih=>
  obtain ⟨xs,rfl⟩:=h C (by simp)
  simp only [mapStore]
  rw [show mapLs n M (xs.map AV.v)=xs.map AV.v from za3 n M (fun x=>x) xs,ih (fun D hD=>h D (by simp [hD]))]
theorem Num.calm {A:List (List AV)} (h:Num A):Calm A:=by
 induction A with
 |nil=>exact ⟨fun _=>rfl,fun _ _ _=>rfl⟩
 |cons C r ih=>
  obtain ⟨xs,rfl⟩:=h C (by simp)
  exact (ih (fun D hD=>h D (by simp [hD]))).cons (fun n=>z7h (fun x=>AV.v x) n (fun _=>rfl) xs) (fun n T acc=>z4d (fun x=>AV.v x) n T (fun _ _=>rfl) xs acc)
theorem zaw {α:Type} (A L:List α) {p:Nat} (hp:A.length=p):(A++L).take p=A:=by subst hp;simp
theorem zn6 {α:Type} (A L:List α) {p:Nat} (hp:A.length=p):(A++L)[p+1]? =L[1]? :=zjq A L hp 1
def kB (p:Nat) (ss:List Nat):AV:=if ss=[] then .v (.slice none 0 0) else .rsl p 0 ss.length ss.length 1 true
theorem zot {p:Nat} {X:List Nat} (h:X≠[]):kB p X=.rsl p 0 X.length X.length 1 true:=by unfold kB;rw [if_neg h]
theorem kB_one (p l:Nat):kB p [l]=.rsl p 0 1 1 1 true:=rfl
theorem zos (p:Nat)(X:List Nat)(l:Nat):kB p (X++ [l])=.rsl p 0 (X.length+1) (X.length+1) 1 true:=by rw [zot (by simp)];simp
theorem happP (A:List (List AV))(p:Nat)(hp:A.length=p)(X:List Nat)(v:Nat)(T:List Nat)(h:1≤X.length)(h2:X.length≤1000):appendmAV 1 true (.rsl p 0 X.length X.length 1 true) [E8 v] ⟨A++ [X.map u8],T⟩=some (.rsl (p+1) 0 (X.length+1) (X.length+1) 1 true,⟨A++ [[],(X++ [v]).map u8],T⟩):=by
 have htk:(X.map u8).take X.length=X.map u8:=List.take_of_length_le (by simp)
 have g0:=za0 A [X.map u8] hp
 simp only [appendmAV,g0,List.getElem?_cons_zero,lm_,List.length_cons,List.length_nil,Nat.mul_one,htk]
 rw [if_pos ⟨trivial,trivial,Nat.le_refl _,by omega,by omega⟩,if_neg (by omega),if_pos ⟨trivial,by unfold maxGrow;omega,by omega⟩]
 have hs:=zbe A [X.map u8] hp ([]:List AV)
 simp [flatAV,z0z,hp,hs]
def evs (k:Nat):List Nat:=(List.range k).map fun i=>2*i+2
theorem ze8 (k:Nat):(evs k).length=k:=by simp [evs]
theorem zn1 (k:Nat):evs (k+1)=evs k++ [2*k+2]:=by simp [evs,List.range_succ]
theorem shl1 (n:Nat)(hn:n≤8):binAV .shl none (I 1) (J n)=some (J (2^n)):=by
 rcases (by omega:n=0∨n=1∨n=2∨n=3∨n=4∨n=5∨n=6∨n=7∨n=8) with h|h|h|h|h|h|h|h|h<;>subst h<;>rfl
theorem zmg (A:List (List AV))(hA:Num A)(p:Nat)(hp:A.length=p)(R:AV)(hr1: ∀acc,refsV p acc R=acc)(hr2: ∀M,mapL p M R=R)(hr4: ∀n T acc,ren1 n T acc R=(R,acc))(n:Nat)(h1n:1≤n)(hn:n≤8)(k:Nat)(ss:List Nat)(hok:k≤2^(n-1)-1∧ss=evs k)(env:Env)(st:St)
  (hg:gcAV true p 0 (canon env [0,6,8,9,3000000]) st=([(0,J n),(6,R),(8,kB p ss),(9,J (2*k+2)),(3000000,.any)],⟨A++kS ss,[]⟩)):
  ∃x_1 en s,lim (headed pure (run L) true [0,6,8,9,3000000] lp20_0 p 0) env st=some (x_1,en,s)∧(x_1=.exit 0∧en.get 3000000=.any∧en.get 0=J n∧en.get 6=R∧en.get 8=kB p (evs (2^(n-1)-1))∧s=⟨A++kS (evs (2^(n-1)-1)),[]⟩):=by
 refine zb (α:=Nat×List Nat) (fun ⟨k,ss⟩=>2^(n-1)-k) (fun ⟨k,ss⟩=>k≤2^(n-1)-1∧ss=evs k) (fun ⟨k,ss⟩=>([(0,J n),(6,R),(8,kB p ss),(9,J (2*k+2)),(3000000,.any)],⟨A++kS ss,[]⟩)) (fun ⟨k,ss⟩ x_1 en s=>x_1=.exit 0∧en.get 3000000=.any∧en.get 0=J n∧en.get 6=R∧en.get 8=kB p (evs (2^(n-1)-1))∧s=⟨A++kS (evs (2^(n-1)-1)),[]⟩) (fun ⟨k,ss⟩ hok=> ?_) ⟨k,ss⟩ hok env st hg
 simp only at hok
 obtain ⟨h1,h2⟩:=hok
 dsimp only at h1 h2⊢
 have h2n:2^(n-1)≤128:=Nat.pow_le_pow_right (n:=2) (by decide) (by omega:n-1≤7)
 have hpos:0<2^(n-1):=Nat.two_pow_pos _
 have hpn:2^n=2*2^(n-1):=by rw [show n=(n-1)+1 by omega,Nat.pow_succ];simp;omega
 have hsh:=shl1 n hn
 by_cases h:k<2^(n-1)-1
 ·have hlt:(((2*k+2:Nat):Int)<((2^n:Nat):Int))=True:=eT (by omega)
  have hw:=zhp (2*k+2) (by omega)
  have ha:IntKind.i64.wrap (((2*k+2:Nat):Int)+2)=((2*k+2+2:Nat):Int):=by rw [z04]<;>omega
  have hT:evs (k+1)=ss++ [2*k+2]:=by rw [zn1,h2]
  have hln:ss.length=k:=by rw [h2,ze8]
  have pt0:=fun L=>zaw A L hp
  have pg0:=fun L=>za0 A L hp
  have pg1:=fun L=>zn6 A L hp
  have pn:(p<p)=False:=eF (by omega)
  have pn1:(p+1<p)=False:=eF (by omega)
  have pp0:(p≤p)=True:=eT (by omega)
  have pp1:(p≤p+1)=True:=eT (by omega)
  have pp1b:(p=p+1)=False:=eF (by omega)
  have p00:p+0=p:=rfl
  generalize hv:2*k+2=v at*
  have hv2:2*(k+1)+2=v+2:=by omega
  generalize 2^n=N at*
  by_cases he:ss=[]
  ·subst he
   have eA:kB p []=.v (.slice none 0 0):=rfl
   have eS:kS []=[]:=rfl
   have happ:=zas v (A++ []) []
   rw [List.append_nil,hp] at happ
   rw [eA,eS,List.append_nil]
   simp only [go_sem,lp20_0,hsh,hlt,hw,happ,ha]
   refine ⟨(k+1,[v]),by simp only [go_sem,z3,z4,z5,hv2,kB_one,zf9,hr1,hr2,hr4,pt0,pg0,pn,pp0,p00,hA.refs,hA.maps,hA.calm.okApp,hA.calm.renApp,compact,compactW,refsEnv,refsV,refsL,refsStore,refsAt,mapEnv,mapL,mapLs,newName,posOf,mapStore,pickStore,namesOk,zu,z0f,List.contains_nil,List.contains_cons,Option.getD_some,hasKey]<;>rfl,?_,?_,fun x en s hq=> ?_⟩
   ·dsimp only;exact ⟨by omega,by rw [hT];rfl⟩
   ·dsimp only;omega
   ·exact hq
  ·have eA:=zot (p:=p) he
   have eS:=za4 he
   have hpos:1≤ss.length:=List.length_pos_iff.2 he
   have happ:=happP A p hp ss v [] hpos (by omega)
   rw [eA,eS]
   simp only [go_sem,lp20_0,hsh,hlt,hw,happ,ha]
   refine ⟨(k+1,ss++ [v]),by simp only [go_sem,z3,z4,z5,hv2,zos,zbl,hr1,hr2,hr4,pt0,pg1,pn1,pp1,pp1b,p00,hA.refs,hA.maps,hA.calm.okApp,hA.calm.renApp,zr,zn,compact,compactW,refsEnv,refsV,refsL,refsStore,refsAt,mapEnv,mapL,mapLs,newName,posOf,mapStore,pickStore,namesOk,zu,z0f,z2r,z2s,List.contains_nil,List.contains_cons,Option.getD_some,hasKey]<;>rfl,?_,?_,fun x en s hq=> ?_⟩
   ·dsimp only;exact ⟨by omega,by rw [hT]⟩
   ·dsimp only;omega
   ·exact hq
 ·have e:k=2^(n-1)-1:=by omega
  have hlt:(((2*k+2:Nat):Int)<((2^n:Nat):Int))=False:=eF (by omega)
  rw [h2,e] at*
  simp only [go_sem,lp20_0,hsh,hlt]
attribute [local go_sem] m_ x_ l_ k_ o_ t_ a_ s_ q_ b_ c_ u_ g_ zk z9 zf zm z09 z08 zd zi zh z6 zg z07
def bars (v o:Nat):Bool:=decide (o=v)|| !agN o v
theorem c83 (S:List (List AV))(T:List Nat)(q a b:Nat)(ha:a<256)(hb:b<256)(hq:S[q]? =some [u8 a]):run L 83 [E8 b,.ptr q 0] ⟨S,T⟩=some (B (bars a b),⟨S++ [[u8 b]],T⟩):=by
 rw [zc (fn:=ir83) rfl rfl]
 have h:=fun st=>c73 b a hb ha st
 have hql:q<S.length:=by
  rcases Nat.lt_or_ge q S.length with h|h
  ·exact h
  ·rw [List.getElem?_eq_none h] at hq;cases hq
 have hg1:(S++ [[u8 b]])[S.length]? =some [u8 b]:=zc4 S _
 have hg2:(S++ [[u8 b]])[q]? =some [u8 a]:=by rw [List.getElem?_append_left hql,hq]
 have hcell:((b:Int)==(a:Int))=decide (b=a):=by
  by_cases h:b=a
  ·subst h;simp
  ·rw [decide_eq_false h];simp;omega
 have hd:bars a b=(decide (b=a)|| !agN b a):=rfl
 rw [hd]
 by_cases he:b=a
 ·have hdd:decide (b=a)=true:=decide_eq_true he
  rw [hdd] at hcell⊢
  simp only [ir83,go_sem,hg1,hg2,hcell]
  rfl
 ·have hdd:decide (b=a)=false:=decide_eq_false he
  rw [hdd] at hcell⊢
  cases hh:agN b a<;>rw [hh] at h<;>simp only [ir83,go_sem,h,hg1,hg2,hcell]<;>rfl
theorem zmj (S0:List (List AV))(T:List Nat)(l q a:Nat)(ha:a<256)(ss:List Nat)(h256: ∀s∈ss,s<256)(hn:ss.length≤1000)(hl:S0[l]? =some (ss.map u8))(hq:S0[q]? =some [u8 a])(lo hi:Nat)(i:Nat)(G:List (List AV))(hok:i≤ss.length∧Num G)(env:Env)(st:St)
  (hg:gcAV false lo hi (canon env [0,1,7,8]) st=([(0,.rsl l 0 ss.length ss.length 1 true),(1,.fn (.func 83) [] [.ptr q 0]),(7,J ss.length),(8,J i)],⟨S0++G,T⟩)):
  ∃x_1 en s,lim (headed pure (run L) false [0,1,7,8] lp123_0 lo hi) env st=some (x_1,en,s)∧((∃G',Num G'∧s=⟨S0++G',T⟩)∧((x_1=.exit 0∧(ss.drop i).findIdx? (bars a)=none)∨(x_1=.ret∧∃j:Nat,(ss.drop i).findIdx? (bars a)=some j∧en.get 4=J (i+j)))):=by
 refine zb (α:=Nat×List (List AV)) (fun ⟨i,G⟩=>ss.length-i) (fun ⟨i,G⟩=>i≤ss.length∧Num G) (fun ⟨i,G⟩=>([(0,.rsl l 0 ss.length ss.length 1 true),(1,.fn (.func 83) [] [.ptr q 0]),(7,J ss.length),(8,J i)],⟨S0++G,T⟩)) (fun ⟨i,G⟩ x_1 en s=>(∃G',Num G'∧s=⟨S0++G',T⟩)∧((x_1=.exit 0∧(ss.drop i).findIdx? (bars a)=none)∨(x_1=.ret∧∃j:Nat,(ss.drop i).findIdx? (bars a)=some j∧en.get 4=J (i+j)))) (fun ⟨i,G⟩ hok=> ?_) ⟨i,G⟩ hok env st hg
 simp only at hok
 obtain ⟨h1,h2⟩:=hok
 dsimp only at h1 h2⊢
 have up: ∀(k:Nat) (C:List AV),S0[k]? =some C→(S0++G)[k]? =some C:=by
  intro k C h
  have hk:k<S0.length:=by
   rcases Nat.lt_or_ge k S0.length with h'|h'
   ·exact h'
   ·rw [List.getElem?_eq_none h'] at h;cases h
  rw [List.getElem?_append_left hk,h]
 have hl2:=up _ _ hl
 by_cases h:i<ss.length
 ·have hs:=zj i (by omega)
  have hd:ss.drop i=ss.getD i 0::ss.drop (i+1):=by
   rw [List.drop_eq_getElem_cons h];simp [List.getD_eq_getElem?_getD,h]
  have hb8:=h256 _ (z16 h)
  have hg8:=zem ss i h
  have hi2:(i+1≤ss.length)=True:=eT (by omega)
  have hi1:(i<ss.length)=True:=eT (by omega)
  have hlt:((i:Int)<(ss.length:Int))=True:=eT (by omega)
  rw [hd,List.findIdx?_cons]
  generalize ss.getD i 0=b at*
  have hcall:=c83 (S0++G) T q a b ha hb8 (up _ _ hq)
  have hN:Num (G++ [[u8 b]]):=h2.app (Num.one8 [b])
  rw [List.append_assoc] at hcall
  have hpk:pure 83=false:=rfl
  cases hp:bars a b with
  |true=>
   rw [hp] at hcall
   simp only [go_sem,lp123_0,hl2,hi1,hi2,hlt,hg8,hpk,hcall,nn_,lm_]
   exact ⟨⟨_,hN,rfl⟩,0,rfl,rfl⟩
  |false=>
   rw [hp] at hcall
   simp only [go_sem,lp123_0,hl2,hi1,hi2,hlt,hg8,hpk,hcall,hs,nn_,lm_]
   refine ⟨(i+1,G++ [[u8 b]]),by simp only [go_sem,z3,z4,z5]<;>rfl,?_,?_,fun x en s hq=> ?_⟩
   ·dsimp only;exact ⟨by omega,hN⟩
   ·dsimp only;omega
   ·obtain ⟨hq0,hq⟩:=hq
    refine ⟨hq0,?_⟩
    rcases hq with ⟨rfl,hq⟩ | ⟨rfl,j,hq,hj⟩
    ·left;rw [hq];exact ⟨rfl,rfl⟩
    ·right;refine ⟨rfl,j+1,by rw [hq];rfl,?_⟩
     rw [hj,show i+1+j=i+(j+1) by omega]
 ·have hd:ss.drop i=[]:=List.drop_eq_nil_of_le (by omega)
  have hlt:((i:Int)<(ss.length:Int))=False:=eF (by omega)
  rw [hd]
  simp only [go_sem,lp123_0,hlt]
  exact ⟨⟨_,h2,rfl⟩,rfl⟩
theorem c82r (S0:List (List AV))(T:List Nat)(l q a:Nat)(ha:a<256)(ss:List Nat)(h256: ∀s∈ss,s<256)(hn:ss.length≤1000)(hl:S0[l]? =some (ss.map u8))(hq:S0[q]? =some [u8 a]):
  ∃G,Num G∧run L 82 [.rsl l 0 ss.length ss.length 1 true,.fn (.func 83) [] [.ptr q 0]] ⟨S0,T⟩=some (B (ss.any (bars a)),⟨S0++G,T⟩):=by
 have h123: ∃G,Num G∧run L 123 [.rsl l 0 ss.length ss.length 1 true,.fn (.func 83) [] [.ptr q 0]] ⟨S0,T⟩=some (I (idxF (bars a) ss),⟨S0++G,T⟩):=by
  rw [zc (fn:=ir123) rfl rfl]
  simp only [ir123,go_sem]
  generalize hg:lim (headed pure (run L) false _ lp123_0 _ _) _ _=o
  obtain ⟨x,en,s,rfl,h2⟩: ∃x en s,o=some (x,en,s)∧_:=by rw [←hg];exact zmj S0 T l q a ha ss h256 hn hl hq _ _ 0 [] ⟨by omega,Num.nil⟩ _ _ (by simp only [go_sem,List.append_nil]<;>rfl)
  clear hg
  rw [List.drop_zero] at h2
  obtain ⟨⟨G,hG,rfl⟩,h2⟩:=h2
  refine ⟨G,hG,?_⟩
  unfold idxF
  rcases h2 with ⟨rfl,h2⟩ | ⟨rfl,j,h2,h3⟩
  ·rw [h2]
   simp only [go_sem]
  ·rw [h2]
   rw [Nat.zero_add] at h3
   simp only [go_sem,h3]
 obtain ⟨G,hG,h⟩:=h123
 refine ⟨G,hG,?_⟩
 rw [zc (fn:=ir82) rfl rfl]
 simp only [ir82,go_sem,h,zdx]
theorem c82e (S0:List (List AV))(T:List Nat)(k:Nat)(hk:pure k=false)(caps:List AV):run L 82 [.v (.slice none 0 0),.fn (.func k) [] caps] ⟨S0,T⟩=some (B false,⟨S0,T⟩):=
 c82 ⟨S0,T⟩ k hk caps (.v (.slice none 0 0)) [] (by decide) rfl (fun i h=>absurd h (by simp)) (fun _=>false) (fun x hx=>absurd hx (by simp))
attribute [local go_sem] m_ x_ l_ k_ o_ t_ a_ s_ q_ b_ c_ u_ g_ zk z9 zf zm z09 z08 zd zi zh z6 zg z07
def fillStep (out:List Nat) (v:Nat):List Nat:=if out.any (bars v)=true then out else out++ [v]
theorem z75 (al:List Nat): ∀ss:List Nat,(al.foldl fillStep ss).length≤ss.length+al.length:=by
 induction al with
 |nil=>intro ss;simp
 |cons v r ih=>
  intro ss
  have h:(fillStep ss v).length≤ss.length+1:=by unfold fillStep;split<;>simp
  have:=ih (fillStep ss v)
  simp only [List.foldl_cons,List.length_cons];omega
theorem z5y (al:List Nat)(ha: ∀s∈al,s<256): ∀ss:List Nat,(∀s∈ss,s<256)→∀s∈al.foldl fillStep ss,s<256:=by
 induction al with
 |nil=>intro ss h;exact h
 |cons v r ih=>
  intro ss h
  rw [List.foldl_cons]
  refine ih (fun s hs=>ha s (by simp [hs])) _ ?_
  unfold fillStep;split
  ·exact h
  ·intro s hs
   rcases List.mem_append.1 hs with hs|hs
   ·exact h s hs
   ·rw [List.mem_singleton.1 hs];exact ha v (by simp)
theorem happG (S:List (List AV))(l lo:Nat)(X:List Nat)(v:Nat)(hl:S[l]? =some (X.map u8))(h:1≤X.length)(h2:X.length≤1000)(hlo:lo≤S.length):
  ∃r S',appendmAV 1 true (.rsl l 0 X.length X.length 1 true) [E8 v] ⟨S,[]⟩=some (.rsl r 0 (X.length+1) (X.length+1) 1 true,⟨S',[]⟩)∧lo≤r∧S'.take lo=(S.set l []).take lo∧S'[r]? =some ((X++ [v]).map u8):=by
 have htk:(X.map u8).take X.length=X.map u8:=List.take_of_length_le (by simp)
 have key:appendmAV 1 true (.rsl l 0 X.length X.length 1 true) [E8 v] ⟨S,[]⟩=some (.rsl S.length 0 (X.length+1) (X.length+1) 1 true,⟨S.set l []++ [(X++ [v]).map u8],[]⟩):=by
  simp only [appendmAV,hl,lm_,List.length_cons,List.length_nil,Nat.mul_one,htk]
  rw [if_pos ⟨trivial,trivial,Nat.le_refl _,by omega,by omega⟩,if_neg (by omega),if_pos ⟨trivial,by unfold maxGrow;omega,by omega⟩]
  simp [flatAV,z0z]
 refine ⟨_,_,key,hlo,?_,?_⟩
 ·rw [List.take_append_of_le_length (by rw [List.length_set];exact hlo)]
 ·have:=zc4 (S.set l []) ((X++ [v]).map u8)
  rwa [List.length_set] at this
theorem happN (S:List (List AV))(lo:Nat)(v:Nat)(hlo:lo≤S.length):
  ∃r S',appendmAV 1 true (.v (.slice none 0 0)) [E8 v] ⟨S,[]⟩=some (.rsl r 0 1 1 1 true,⟨S',[]⟩)∧lo≤r∧S'.take lo=S.take lo∧S'[r]? =some [u8 v]:=
 ⟨_,_,zas v S [],hlo,by rw [List.take_append_of_le_length hlo],zc4 _ _⟩
def rg (lo:Nat) (g:Bool) (out:List Nat):AV:=match g with|true=> .rsl lo 0 out.length out.length 1 true|false=>kA out
def sg (B B':List (List AV)) (g:Bool) (out:List Nat):List (List AV):=match g with|true=>B'++ [out.map u8]|false=>B
theorem zmf (B B':List (List AV))(lo q:Nat)(hB:Num B)(hB':Num B')(hl:B.length=lo)(hl':B'.length=lo)(al:List Nat)(ha: ∀s∈al,s<256)(hal:al.length≤128)(hq:B[q]? =some (al.map u8))(hq':B'[q]? =some (al.map u8))(hqlo:q<lo)(ss:List Nat)(h256: ∀s∈ss,s<256)(hsl:ss.length≤13)(h0:ss≠[]→B[0]? =some (ss.map u8)∧B.set 0 []=B')(h0e:ss=[]→B=B')(i:Nat)(g:Bool)(out:List Nat)(hok:i≤al.length∧out=(al.take i).foldl fillStep ss∧(g=false→out=ss)∧(g=true→out≠[]))(env:Env)(st:St)
  (hg:gcAV true lo 0 (canon env [6,35,36,37,3000000]) st=([(6,rg lo g out),(35,.rsl q 0 al.length al.length 1 true),(36,J al.length),(37,J i),(3000000,.any)],⟨sg B B' g out,[]⟩)):
  ∃x_1 en s,lim (headed pure (run L) true [6,35,36,37,3000000] lp20_1 lo 0) env st=some (x_1,en,s)∧(x_1=.exit 2∧∃g',en.get 6=rg lo g' (al.foldl fillStep ss)∧s=⟨sg B B' g' (al.foldl fillStep ss),[]⟩∧(g'=false→al.foldl fillStep ss=ss)∧(g'=true→al.foldl fillStep ss≠[])):=by
 refine zb (α:=Nat×Bool×List Nat) (fun ⟨i,g,out⟩=>al.length-i) (fun ⟨i,g,out⟩=>i≤al.length∧out=(al.take i).foldl fillStep ss∧(g=false→out=ss)∧(g=true→out≠[])) (fun ⟨i,g,out⟩=>([(6,rg lo g out),(35,.rsl q 0 al.length al.length 1 true),(36,J al.length),(37,J i),(3000000,.any)],⟨sg B B' g out,[]⟩)) (fun ⟨i,g,out⟩ x_1 en s=>x_1=.exit 2∧∃g',en.get 6=rg lo g' (al.foldl fillStep ss)∧s=⟨sg B B' g' (al.foldl fillStep ss),[]⟩∧(g'=false→al.foldl fillStep ss=ss)∧(g'=true→al.foldl fillStep ss≠[])) (fun ⟨i,g,out⟩ hok=> ?_) ⟨i,g,out⟩ hok env st hg
 simp only at hok
 obtain ⟨h1,h2,h3,h4⟩:=hok
 dsimp only at h1 h2 h3 h4⊢
 by_cases h:i<al.length
 ·have hs:=zj i (by omega)
  have hb8:=ha _ (z16 h)
  have hg8:=zem al i h
  have hi2:(i+1≤al.length)=True:=eT (by omega)
  have hi1:(i<al.length)=True:=eT (by omega)
  have hlt:((i:Int)<(al.length:Int))=True:=eT (by omega)
  have hT:(al.take (i+1)).foldl fillStep ss=fillStep out (al.getD i 0):=by
   rw [List.take_succ,List.getElem?_eq_getElem h,List.foldl_append,←h2]
   simp [List.getD_eq_getElem?_getD,h]
  have hol:out.length≤1000:=by
   have:=z75 (al.take i) ss
   rw [←h2,List.length_take] at this;omega
  have ho8: ∀s∈out,s<256:=by
   rw [h2];exact z5y _ (fun s hs=>ha s (List.mem_of_mem_take hs)) ss h256
  generalize al.getD i 0=a at*
  have hfs:fillStep out a=if out.any (bars a)=true then out else out++ [a]:=rfl
  have hq1:(q<lo)=True:=eT hqlo
  have hl00:(lo<lo)=False:=eF (by omega)
  have hl01:(lo≤lo)=True:=eT (by omega)
  have hlz:(0<lo)=True:=eT (by omega)
  have hp0:lo+0=lo:=rfl
  cases g with
  |true=>
   have e1:rg lo true out=.rsl lo 0 out.length out.length 1 true:=rfl
   have e2:sg B B' true out=B'++ [out.map u8]:=rfl
   rw [e1,e2]
   have gq: ∀L,(B'++L)[q]? =some (al.map u8):=fun L=>by rw [List.getElem?_append_left (by omega),hq']
   have g0:=fun L=>za0 B' L hl'
   have g1:=fun L=>zjq B' L hl' 1
   have s1:=fun L v=>znb B' L hl' 1 v
   have pl:=fun L=>zjp B' L hl'
   have pt0:=fun L=>zaw B' L hl'
   obtain ⟨G,hG,hcall⟩:=c82r (B'++ [out.map u8,[u8 a]]) [] lo (lo+1) a hb8 out ho8 hol (by rw [g0];rfl) (by rw [g1];rfl)
   rw [List.append_assoc] at hcall
   simp only [List.cons_append,List.nil_append] at hcall
   have hpos:1≤out.length:=List.length_pos_iff.2 (h4 rfl)
   obtain ⟨r,S',happ,hr1,hr2,hr3⟩:=happG (B'++out.map u8:: [u8 a]::G) lo lo out a (by rw [g0];rfl) hpos hol (by rw [pl];omega)
   rw [zbe B' _ hl',List.set_cons_zero,pt0] at hr2
   have hrl:(r<lo)=False:=eF (by omega)
   have hrl2:(lo≤r)=True:=eT hr1
   have gr:(B'++out.map u8:: [u8 a]::G)[lo+1]? =some [u8 a]:=by rw [g1];rfl
   cases hp:out.any (bars a) with
   |true=>
    rw [hp] at hcall
    rw [hp,if_pos rfl] at hfs
    simp only [go_sem,lp20_1,gq,hi1,hi2,hlt,hg8,g0,g1,s1,pl,hcall,hs,nn_,lm_,List.append_assoc]
    refine ⟨(i+1,true,out),by simp only [go_sem,z3,z4,z5,e1,e2,gq,hq1,hl00,hl01,hp0,g0,pt0,hB'.refs,hB'.maps,hB'.calm.okApp,hB'.calm.renApp,zr,zn,compact,compactW,refsEnv,refsV,refsL,refsStore,refsAt,mapEnv,mapL,mapLs,newName,posOf,mapStore,pickStore,namesOk,zu,z0f,z2r,z2s,List.contains_nil,List.contains_cons,Option.getD_some,hasKey]<;>rfl,?_,?_,fun x en s hq=> ?_⟩
    ·dsimp only;exact ⟨by omega,by rw [hT,hfs],h3,h4⟩
    ·dsimp only;omega
    ·exact hq
   |false=>
    rw [hp] at hcall
    rw [hp,if_neg (by simp)] at hfs
    have e3:rg lo true (out++ [a])=.rsl lo 0 (out.length+1) (out.length+1) 1 true:=by unfold rg;simp
    have e4:sg B B' true (out++ [a])=B'++ [(out++ [a]).map u8]:=rfl
    simp only [go_sem,lp20_1,gq,hi1,hi2,hlt,hg8,g0,g1,s1,pl,hcall,gr,happ,hs,nn_,lm_,List.append_assoc]
    refine ⟨(i+1,true,out++ [a]),by simp only [go_sem,z3,z4,z5,e3,e4,hq1,hl00,hl01,hrl,hrl2,hr2,hr3,hp0,pt0,hB'.refs,hB'.maps,hB'.calm.okApp,hB'.calm.renApp,zr,zn,compact,compactW,refsEnv,refsV,refsL,refsStore,refsAt,mapEnv,mapL,mapLs,newName,posOf,mapStore,pickStore,namesOk,zu,z0f,z2r,z2s,List.contains_nil,List.contains_cons,Option.getD_some,hasKey]<;>rfl,?_,?_,fun x en s hq=> ?_⟩
    ·dsimp only;exact ⟨by omega,by rw [hT,hfs],(fun h=>by cases h),(fun _=>by simp)⟩
    ·dsimp only;omega
    ·exact hq
  |false=>
   have e1:rg lo false out=kA out:=rfl
   have e2:sg B B' false out=B:=rfl
   rw [e1,e2]
   have hos:=h3 rfl
   have gq: ∀L,(B++L)[q]? =some (al.map u8):=fun L=>by rw [List.getElem?_append_left (by omega),hq]
   have g0:=fun L=>za0 B L hl
   have s0:=fun L v=>zbe B L hl v
   have pl:=fun L=>zjp B L hl
   have pt0:=fun L=>zaw B L hl
   have e4:sg B B' true (out++ [a])=B'++ [(out++ [a]).map u8]:=rfl
   by_cases he:out=[]
   ·have hBB:=h0e (by rw [←hos,he])
    subst he
    have e5:kA []=.v (.slice none 0 0):=rfl
    rw [e5]
    have hcall:=c82e (B++ [[u8 a]]) [] 83 rfl [.ptr lo 0]
    have hfs:fillStep [] a=[a]:=rfl
    obtain ⟨r,S',happ,hr1,hr2,hr3⟩:=happN (B++ [[u8 a]]) lo a (by rw [pl];omega)
    rw [pt0,hBB] at hr2
    have hrl:(r<lo)=False:=eF (by omega)
    have hrl2:(lo≤r)=True:=eT hr1
    have e3:rg lo true [a]=.rsl lo 0 1 1 1 true:=rfl
    have e4:sg B B' true [a]=B'++ [[u8 a]]:=rfl
    simp only [go_sem,lp20_1,hq,gq,hi1,hi2,hlt,hg8,hl,g0,s0,pl,hcall,happ,hs,nn_,lm_,List.append_assoc]
    refine ⟨(i+1,true,[a]),by simp only [go_sem,z3,z4,z5,e3,e4,hq1,hl00,hl01,hrl,hrl2,hr2,hr3,hp0,pt0,hB'.refs,hB'.maps,hB'.calm.okApp,hB'.calm.renApp,zr,zn,compact,compactW,refsEnv,refsV,refsL,refsStore,refsAt,mapEnv,mapL,mapLs,newName,posOf,mapStore,pickStore,namesOk,zu,z0f,z2r,z2s,List.contains_nil,List.contains_cons,Option.getD_some,hasKey]<;>rfl,?_,?_,fun x en s hq=> ?_⟩
    ·dsimp only;exact ⟨by omega,by rw [hT,hfs],(fun h=>by cases h),(fun _=>by simp)⟩
    ·dsimp only;omega
    ·exact hq
   ·obtain ⟨hb0,hbs⟩:=h0 (by rw [←hos];exact he)
    have e5:=zbo he
    rw [e5]
    rw [←hos] at hb0
    have gz: ∀L,(B++L)[0]? =some (out.map u8):=fun L=>by rw [List.getElem?_append_left (by omega),hb0]
    obtain ⟨G,hG,hcall⟩:=c82r (B++ [[u8 a]]) [] 0 lo a hb8 out ho8 hol (by rw [gz]) (by rw [g0];rfl)
    rw [List.append_assoc] at hcall
    simp only [List.cons_append,List.nil_append] at hcall
    have hpos:1≤out.length:=List.length_pos_iff.2 he
    obtain ⟨r,S',happ,hr1,hr2,hr3⟩:=happG (B++ [u8 a]::G) 0 lo out a (gz _) hpos hol (by rw [pl];omega)
    rw [List.set_append_left _ _ (by omega),hbs,zaw B' _ hl'] at hr2
    have hrl:(r<lo)=False:=eF (by omega)
    have hrl2:(lo≤r)=True:=eT hr1
    have gr:(B++ [u8 a]::G)[lo]? =some [u8 a]:=by rw [g0];rfl
    cases hp:out.any (bars a) with
    |true=>
     rw [hp] at hcall
     rw [hp,if_pos rfl] at hfs
     simp only [go_sem,lp20_1,hq,gq,hi1,hi2,hlt,hg8,hl,g0,s0,pl,hcall,hs,nn_,lm_,List.append_assoc]
     refine ⟨(i+1,false,out),by simp only [go_sem,z3,z4,z5,e1,e2,e5,hq1,hl00,hl01,hlz,hp0,pt0,hB.refs,hB.maps,hB.calm.ok,hB.calm.ren,hB.calm.okApp,hB.calm.renApp,List.append_nil,zr,zn,compact,compactW,refsEnv,refsV,refsL,refsStore,refsAt,mapEnv,mapL,mapLs,newName,posOf,mapStore,pickStore,namesOk,zu,z0f,z2r,z2s,List.contains_nil,List.contains_cons,Option.getD_some,hasKey]<;>rfl,?_,?_,fun x en s hq=> ?_⟩
     ·dsimp only;exact ⟨by omega,by rw [hT,hfs],h3,h4⟩
     ·dsimp only;omega
     ·exact hq
    |false=>
     rw [hp] at hcall
     rw [hp,if_neg (by simp)] at hfs
     have e3:rg lo true (out++ [a])=.rsl lo 0 (out.length+1) (out.length+1) 1 true:=by unfold rg;simp
     simp only [go_sem,lp20_1,hq,gq,hi1,hi2,hlt,hg8,hl,g0,s0,pl,hcall,gr,happ,hs,nn_,lm_,List.append_assoc]
     refine ⟨(i+1,true,out++ [a]),by simp only [go_sem,z3,z4,z5,e3,e4,hq1,hl00,hl01,hrl,hrl2,hr2,hr3,hp0,pt0,hB'.refs,hB'.maps,hB'.calm.okApp,hB'.calm.renApp,zr,zn,compact,compactW,refsEnv,refsV,refsL,refsStore,refsAt,mapEnv,mapL,mapLs,newName,posOf,mapStore,pickStore,namesOk,zu,z0f,z2r,z2s,List.contains_nil,List.contains_cons,Option.getD_some,hasKey]<;>rfl,?_,?_,fun x en s hq=> ?_⟩
     ·dsimp only;exact ⟨by omega,by rw [hT,hfs],(fun h=>by cases h),(fun _=>by simp)⟩
     ·dsimp only;omega
     ·exact hq
 ·have e:al.take i=al:=List.take_of_length_le (by omega)
  have hlt:((i:Int)<(al.length:Int))=False:=eF (by omega)
  rw [e] at h2
  rw [←h2]
  simp only [go_sem,lp20_1,hlt]
  exact ⟨g,rfl,rfl,h3,h4⟩
attribute [local go_sem] m_ x_ l_ k_ o_ t_ a_ s_ q_ b_ c_ u_ g_ zk z9 zf zm z09 z08 zd zi zh z6 zg z07
theorem Num.sh {A:List (List AV)} (h:Num A)(n:Nat):shStore n A=A:=by
 induction A with
 |nil=>rfl
 |cons C r ih=>
  obtain ⟨xs,rfl⟩:=h C (by simp)
  have e:shVs n (xs.map AV.v)=xs.map AV.v:=by
   clear h ih
   induction xs with
   |nil=>rfl
   |cons x r ih=>simp only [List.map_cons,shVs,shV,ih]
  simp only [shStore,e,ih (fun D hD=>h D (by simp [hD]))]
theorem zkt {S:List (List AV)} {l:Nat} {cs:List AV} (h:S[l]? =some cs)(hne:cs≠[])(T:List Nat): ∃S',∀env,frzL l env ⟨S,T⟩=(frzEnv l cs env,⟨S',T⟩):=by
 cases cs with
 |nil=>exact absurd rfl hne
 |cons x r=>exact ⟨(frzStore l (x::r) S).set l [],fun env=>by simp only [frzL,h]⟩
def fillL (n:Nat) (ss:List Nat):List Nat:=(srt (evs (2^(n-1)-1))).foldl fillStep ss
theorem zfk {n:Nat} (hn:n≤8): ∀s∈evs (2^(n-1)-1),s<256:=by
 intro s hs
 have h2n:2^(n-1)≤128:=Nat.pow_le_pow_right (n:=2) (by decide) (by omega:n-1≤7)
 unfold evs at hs
 rw [List.mem_map] at hs
 obtain ⟨i,hi,rfl⟩:=hs
 rw [List.mem_range] at hi
 omega
theorem c20 (n:Nat)(h2:2≤n)(hn:n≤8)(nl:Bool)(X:List Nat)(hX: ∀v∈X,v<2^n∧v≠0∧v≠2^n-1)(hnd:(X.map (smlN n)).Nodup)(hl:X.length≤13)(hc:clP (X.map (smlN n)) 0=none)(st:St):
  run L 20 [J n,sl 1 nl (X.map tM)] st=some (.tup [sl 1 true ((srt (fillL n (srt (X.map (smlN n))))).map tM),I 0],st):=by
 rw [run_pure (fn:=ir20) rfl rfl]
 obtain ⟨X1,hX1,h79⟩:=(c79 n h2 hn nl X hX hnd hl).1 hc
 have h2n:2^n≤256:=Nat.pow_le_pow_right (n:=2) (by decide) hn
 have hss0: ∀x∈X.map (smlN n),x<256:=by
  intro x hx
  rw [List.mem_map] at hx
  obtain ⟨v,hv,rfl⟩:=hx
  exact Nat.lt_of_lt_of_le (z1o (hX v hv).1) h2n
 have hsl:=z4l hss0
 have h256: ∀s∈srt (X.map (smlN n)),s<256:=zaa _
 rw [lm_] at hsl
 generalize srt (X.map (smlN n))=ss at*
 clear hX hnd hc hss0
 have hsm:ss.length≤13:=by omega
 clear hsl hl
 have hm1:2≤2^(n-1):=Nat.pow_le_pow_right (n:=2) (by decide) (by omega:1≤n-1)
 have hm2:2^(n-1)≤128:=Nat.pow_le_pow_right (n:=2) (by decide) (by omega:n-1≤7)
 have hev:=zfk hn
 have hel:=ze8 (2^(n-1)-1)
 have hfd:fillL n ss=(srt (evs (2^(n-1)-1))).foldl fillStep ss:=rfl
 rw [hfd]
 have hA:Num (kS ss++X1):=(Num.kS ss).app hX1.num
 obtain ⟨p,hp⟩: ∃p,(kS ss++X1).length=p:=⟨_,rfl⟩
 have hsA:=hA.sh 0
 have h0:ss≠[]→(kS ss++X1)[0]? =some (ss.map u8)∧0<p:=by
  intro h
  rw [za4 h] at hp⊢
  exact ⟨rfl,by rw [←hp];simp⟩
 have hr1a: ∀k,p≤k→∀acc,refsV k acc (kA ss)=acc:=by
  intro k hk acc;unfold kA;split
  ·rfl
  ·next h=>have:=(h0 h).2;simp only [refsV];rw [if_pos (Or.inl (by omega))]
 have hr2a: ∀k,p≤k→∀M,mapL k M (kA ss)=kA ss:=by
  intro k hk acc;unfold kA;split
  ·rfl
  ·next h=>have:=(h0 h).2;simp only [mapL,newName];rw [if_pos (by omega)]
 have hr1:=hr1a p (Nat.le_refl p)
 have hr2:=hr2a p (Nat.le_refl p)
 have hr4: ∀n T acc,ren1 n T acc (kA ss)=(kA ss,acc):=by
  intro n T acc;unfold kA;split<;>rfl
 have hr5:shV 0 (kA ss)=kA ss:=by unfold kA;split<;>simp only [shV]
 generalize hAA:kS ss++X1=A at*
 generalize hev0:evs (2^(n-1)-1)=al at*
 have hane:al≠[]:=by intro e;rw [e] at hel;simp at hel;omega
 have hkB:=zot (p:=p) hane
 have hkS:=za4 hane
 obtain ⟨X2,hX2,h80⟩:=c80 (A++ [[]]) [] p (by rw [List.length_append,hp];simp) true al hev (by omega)
 rw [zbe A _ hp,zbe A _ hp,List.set_cons_zero,List.set_cons_zero,List.append_assoc] at h80
 simp only [List.cons_append,List.nil_append] at h80
 have hsl:=z4l hev
 have hs8:=zaa al
 have pt0:=fun L=>zaw A L hp
 have ptA:A.take p=A:=by rw [←hp];exact List.take_length
 have g0:=fun L=>za0 A L hp
 have hkB0:kB p []=.v (.slice none 0 0):=rfl
 have hkS0:kS []=[]:=rfl
 simp only [ir20,go_sem,h79,show pure 79=false from rfl,shStore,shV,shVs,hr5,hsA,keepR,keepT,ownTop,hp]
 generalize hg:lim (headed pure (run L) true _ lp20_0 _ _) _ _=o
 obtain ⟨x,en,s,rfl,h2⟩: ∃x en s,o=some (x,en,s)∧_:=by rw [←hg];exact zmg A hA p hp (kA ss) hr1 hr2 hr4 n (by omega) hn 0 [] ⟨by omega,rfl⟩ _ _ (by simp only [go_sem,hr1,hr2,hr4,hkB0,hkS0,List.append_nil,ptA,hA.refs,hA.maps,hA.calm.ok,hA.calm.ren,compact,compactW,refsEnv,refsV,refsL,refsStore,refsAt,mapEnv,mapL,mapLs,newName,posOf,mapStore,pickStore,namesOk,zu,z0f,z2r,z2s,List.contains_nil,List.contains_cons,Option.getD_some,hasKey]<;>rfl)
 clear hg
 obtain ⟨rfl,e30,e0,e6,e8,rfl⟩:=h2
 rw [hev0,hkB] at e8
 rw [hev0,hkS]
 simp only [go_sem,e0,e6,e8,h80]
 simp only [←hsl]
 have h128:(srt al).length≤128:=by omega
 have hfl:=z75 (srt al) ss
 have hf8:=z5y (srt al) hs8 ss h256
 clear e0 e8 h80 hel hsl hev0 hkB hkS hane h79
 generalize srt al=bl at*
 have hB:Num (A++bl.map u8::X2):=hA.app ((Num.one8 bl).app hX2.num)
 obtain ⟨lo,hlo⟩: ∃lo,(A++bl.map u8::X2).length=lo:=⟨_,rfl⟩
 have hplo:p<lo:=by rw [←hlo,zjp A _ hp];simp
 have hBq:(A++bl.map u8::X2)[p]? =some (bl.map u8):=by rw [g0];rfl
 have hB0:ss≠[]→(A++bl.map u8::X2)[0]? =some (ss.map u8)∧0<p:=fun h=>⟨by rw [List.getElem?_append_left (by have:=(h0 h).2;omega),(h0 h).1],(h0 h).2⟩
 rw [hlo]
 generalize A++bl.map u8::X2=B at*
 obtain ⟨B',hBB,hB',hl',hq'⟩: ∃B',((ss≠[]→B.set 0 []=B')∧(ss=[]→B=B'))∧Num B'∧B'.length=lo∧B'[p]? =some (bl.map u8):=by
  by_cases he:ss=[]
  ·exact ⟨B,⟨fun h=>absurd he h,fun _=>rfl⟩,hB,hlo,hBq⟩
  ·refine ⟨B.set 0 [],⟨fun _=>rfl,fun h=>absurd h he⟩,?_,by rw [List.length_set,hlo],?_⟩
   ·intro C hC
    rcases List.mem_or_eq_of_mem_set hC with h|h
    ·exact hB C h
    ·exact ⟨[],h⟩
   ·rw [List.getElem?_set_ne (by have:=(hB0 he).2;omega),hBq]
 have hr1:=hr1a lo (by omega)
 have hr2:=hr2a lo (by omega)
 have hptB:B.take lo=B:=by rw [←hlo];exact List.take_length
 have hq1:(p<lo)=True:=eT hplo
 have eR:rg lo false ss=kA ss:=rfl
 have eS:sg B B' false ss=B:=rfl
 generalize hg:lim (headed pure (run L) true _ lp20_1 _ _) _ _=o
 obtain ⟨x,en,s,rfl,h2⟩: ∃x en s,o=some (x,en,s)∧_:=by rw [←hg];exact zmf B B' lo p hB hB' hlo hl' bl hs8 h128 hBq hq' hplo ss h256 hsm (fun h=>⟨(hB0 h).1,hBB.1 h⟩) hBB.2 0 false ss ⟨by omega,rfl,fun _=>rfl,fun h=>by cases h⟩ _ _ (by simp only [go_sem,e6,e30,eR,eS,hr1,hr2,hr4,hq1,hptB,hB.refs,hB.maps,hB.calm.ok,hB.calm.ren,Int.natCast_zero,compact,compactW,refsEnv,refsV,refsL,refsStore,refsAt,mapEnv,mapL,mapLs,newName,posOf,mapStore,pickStore,namesOk,zu,z0f,z2r,z2s,List.contains_nil,List.contains_cons,Option.getD_some,hasKey]<;>rfl)
 clear hg
 obtain ⟨rfl,g,e6,rfl,hg1,hg2⟩:=h2
 have h84:=fun st=>c84 true (bl.foldl fillStep ss) hf8 (by omega) st
 have hfin:plainR (sl 1 true ((srt (bl.foldl fillStep ss)).map tM))=plainR (sl 1 true ((srt (bl.foldl fillStep ss)).map tM)):=rfl
 generalize bl.foldl fillStep ss=out at*
 cases g with
 |true=>
  have hne:=hg2 rfl
  rw [show rg lo true out=.rsl lo 0 out.length out.length 1 true from rfl] at e6
  rw [show sg B B' true out=B'++ [out.map u8] from rfl]
  obtain ⟨S',hfz⟩:=zkt (S:=B'++ [out.map u8]) (l:=lo) (cs:=out.map u8) (by rw [za0 B' _ hl'];rfl) (by simpa using hne) []
  have hfv:=zhb lo out hne
  simp only [go_sem,z4j,frzAV,frzT,frzLs,rslsOf,e6,hfz,frzEnv,frzEnv_get,hfv,h84]
 |false=>
  rw [show rg lo false out=kA out from rfl] at e6
  rw [show sg B B' false out=B from rfl]
  have hos:=hg1 rfl
  by_cases he:out=[]
  ·subst he
   rw [show kA []=.v (.slice none 0 0) from rfl] at e6
   rw [show sl 1 true (([]:List Nat).map E8)=AV.v (.slice none 0 0) from rfl] at h84
   simp only [go_sem,z4j,frzAV,frzT,frzLs,rslsOf,e6,h84]
  ·rw [zbo he] at e6
   obtain ⟨S',hfz⟩:=zkt (S:=B) (l:=0) (cs:=out.map u8) (by rw [hos];exact (hB0 (by rw [←hos];exact he)).1) (by simpa using he) []
   have hfv:=zhb 0 out he
   simp only [go_sem,z4j,frzAV,frzT,frzLs,rslsOf,e6,hfz,frzEnv,frzEnv_get,hfv,h84]
theorem c20n (n:Nat)(h2:2≤n)(hn:n≤8)(nl:Bool)(X:List Nat)(hX: ∀v∈X,v<2^n∧v≠0∧v≠2^n-1)(hnd:(X.map (smlN n)).Nodup)(hl:X.length≤13)(hc:clP (X.map (smlN n)) 0≠none)(st:St):
  run L 20 [J n,sl 1 nl (X.map tM)] st=some (.tup [.v (.slice none 0 0),I 12],st):=by
 rw [run_pure (fn:=ir20) rfl rfl]
 have h79:=(c79 n h2 hn nl X hX hnd hl).2 hc
 have hsA:=(Num.kS (X.map (smlN n))).sh 0
 generalize kS (X.map (smlN n))=A at*
 simp only [ir20,go_sem,h79,show pure 79=false from rfl,shStore,shV,shVs,hsA,keepR,keepT,ownTop]
theorem zoz {n v:Nat} (h1:1≤n):v∈evs (2^(n-1)-1)↔v<2^n∧v≠0∧v.testBit 0=false:=by
 have hpn:2^n=2*2^(n-1):=by rw [show n=(n-1)+1 by omega,Nat.pow_succ];simp;omega
 unfold evs
 rw [List.mem_map,Nat.testBit_zero]
 constructor
 ·rintro ⟨i,hi,rfl⟩
  rw [List.mem_range] at hi
  refine ⟨by omega,by omega,?_⟩
  rw [decide_eq_false_iff_not];omega
 ·rintro ⟨h2,h3,h4⟩
  rw [decide_eq_false_iff_not] at h4
  exact ⟨v / 2-1,List.mem_range.2 (by omega),by omega⟩
theorem zbk {U:List Nat} {w s:Nat} (hs:itC U (s+1) w=w): ∀(k:Nat),itC U (k*(s+1)) w=w
 |0=>by rw [Nat.zero_mul];rfl
 |k+1=>by rw [Nat.succ_mul,z0x,zbk hs k,hs]
def two (s w x y z:Nat):Bool:=s.testBit w==s.testBit x&&s.testBit y==s.testBit z&&s.testBit w !=s.testBit y
section
variable {n:Nat} {L U W:List Nat} (hn:n≤8) (hU: ∀u∈U,u≤U.length) (hW: ∀w∈W,w≤U.length) (hWl:W.length=n) (hul:U.length=L.length) (hend: ∀w,w≤U.length→itC U U.length w=0) (hout:outL U W=L)
include hn hU hW hWl hul hend hout
theorem z8q {k:Nat} (hk:k<L.length)(b:Nat):(L.getD k 0).testBit b=true↔b<n∧∃t,itC U t (W.getD b 0)=k+1:=by
 have h:=zlx hU hW (by omega) (k:=k) (by omega) b
 rw [hout] at h
 rw [h,hWl,Bool.and_eq_true,decide_eq_true_eq,decide_eq_true_eq]
 constructor
 ·rintro ⟨h1,t,_,h2⟩;exact ⟨h1,t,h2⟩
 ·rintro ⟨h1,t,h2⟩
  refine ⟨h1,t,?_,h2⟩
  apply Nat.lt_of_not_le;intro hle
  have hw:=hend (W.getD b 0) (hW _ (z16 (by omega)))
  rw [show t=U.length+(t-U.length) by omega,z0x,hw,z5p] at h2
  omega
theorem z9v {i j t:Nat} (hi:i<L.length)(hj:j<L.length)(h:itC U t (i+1)=j+1):Sub (L.getD i 0) (L.getD j 0):=by
 intro b hb
 obtain ⟨h1,s,h2⟩:=(z8q hn hU hW hWl hul hend hout hi b).1 hb
 exact (z8q hn hU hW hWl hul hend hout hj b).2 ⟨h1,s+t,by rw [z0x,h2,h]⟩
theorem zlk (h:Lam n L) {k:Nat} (hk:k<L.length):Abv L (L.getD k 0) (some k) (U.getD k 0):=by
 obtain ⟨a,ha⟩:=znd (h.ne _ (z16 hk))
 obtain ⟨han,t0,e0⟩:=(z8q hn hU hW hWl hul hend hout hk a).1 ha
 have key: ∀j,j<L.length→j≠k→Sub (L.getD k 0) (L.getD j 0)→∃s,itC U s (U.getD k 0)=j+1:=by
  intro j hj hjk hsub
  obtain ⟨_,s,e⟩:=(z8q hn hU hW hWl hul hend hout hj a).1 (hsub a ha)
  rcases Nat.lt_trichotomy s t0 with h1|h1|h1
  ·exfalso
   have e2:itC U (t0-s) (j+1)=k+1:=by rw [←e,←z0x,show s+(t0-s)=t0 by omega,e0]
   have:=z9v hn hU hW hWl hul hend hout hj hk e2
   exact hjk (zk1 h.nd hj hk (this.anti hsub))
  ·subst h1;rw [e0] at e;omega
  ·refine ⟨s-t0-1,?_⟩
   have e2:itC U (s-t0) (k+1)=j+1:=by rw [←e0,←z0x,show t0+(s-t0)=s by omega,e]
   rw [show s-t0=(s-t0-1)+1 by omega] at e2
   have e3:itC U (s-t0-1) (upC U (k+1))=j+1:=e2
   rwa [zap] at e3
 by_cases h0:U.getD k 0=0
 ·left
  refine ⟨h0,fun j hj hjk hsub=> ?_⟩
  obtain ⟨s,e⟩:=key j hj (fun e=>hjk (by rw [e])) hsub
  rw [h0,z5p] at e;omega
 ·right
  have hv:=hU _ (z16 (L:=U) (k:=k) (by omega))
  obtain ⟨i,hi⟩: ∃i,U.getD k 0=i+1:=⟨U.getD k 0-1,by omega⟩
  have hil:i<L.length:=by omega
  have hup:itC U 1 (k+1)=i+1:=by
   show upC U (k+1)=i+1
   rw [zap,hi]
  have hik:i≠k:=by
   rintro rfl
   have h1:=zbk (U:=U) (w:=i+1) (s:=0) hup U.length
   rw [Nat.zero_add,Nat.mul_one,hend _ (by omega)] at h1
   omega
  refine ⟨i,hi,hil,fun e=>hik (by simpa using e),z9v hn hU hW hWl hul hend hout hk hil hup,fun j hj hjk hsub=> ?_⟩
  obtain ⟨s,e⟩:=key j hj (fun e=>hjk (by rw [e])) hsub
  rw [hi] at e
  exact zjr (z9v hn hU hW hWl hul hend hout hil hj e)
end
inductive GK
 |nil
 |lst
 |odd (a:Addr) (cap:Nat)
abbrev GS:=GK×List Int
def gK:GK→AV
 | .nil=> .v (.slice none 0 0)
 | .lst=> .lst .any 1 []
 | .odd a c=> .v (.slice (some a) 0 c)
def gM (p:GS):AV:=if p.2.length=0 then gK p.1 else .lst .any 1 (p.2.map I)
theorem gM_sl (nl : Bool) (l : List Int) : ∃ k, gM (k, l) = sl 1 nl (l.map I) := by
  cases l with
  | nil => cases nl
           · exact ⟨.lst, rfl⟩
           · exact ⟨.nil, rfl⟩
  | cons a r => exact ⟨.nil, by rw [z7z (by simp)]; rfl⟩
def prevB (p:Option Int) (a:Int):Bool:=match p with|none=>false|some b=>decide (a≤b)
def rowE (n:Nat):Option Int→List Int→Int
 |_,[]=>0
 |p,a::r=>if a<0∨(n:Int)≤a then 2 else if prevB p a=true then 7 else rowE n (some a) r
def sideE (n:Nat) (l:List Int):Int:=if l=[] then 4 else rowE n none l
def maskL:List Int→Nat
 | []=>0
 |a::r=>2^a.toNat|||maskL r
theorem zcj {n:Nat}: ∀(l:List Int) (p:Option Int),rowE n p l=0→(∀a∈l,0≤a∧a<(n:Int))∧l.Pairwise (· < ·)∧(∀b,p=some b→∀a∈l,b<a)
 | [],p,_=>⟨by simp,List.Pairwise.nil,by simp⟩
 |a::r,p,h=>by
  unfold rowE at h
  split at h
  ·cases h
  ·rename_i h1
   split at h
   ·cases h
   ·rename_i h2
    obtain ⟨i1,i2,i3⟩:=zcj r (some a) h
    have i3:=i3 a rfl
    refine ⟨?_,List.pairwise_cons.2 ⟨i3,i2⟩,?_⟩
    ·intro b hb
     rw [List.mem_cons] at hb
     rcases hb with rfl|hb
     ·omega
     ·exact i1 b hb
    ·intro b hb c hc
     subst hb
     have:b<a:=by simpa [prevB] using h2
     rw [List.mem_cons] at hc
     rcases hc with rfl|hc
     ·exact this
     ·have:=i3 c hc;omega
theorem z7o: ∀(l:List Int),(∀a∈l,0≤a)→∀i:Nat,(maskL l).testBit i=decide ((i:Int)∈l)
 | [],_,i=>by simp [maskL]
 |a::r,h,i=>by
  have ih:=z7o r (fun b hb=>h b (by simp [hb])) i
  have ha:=h a (by simp)
  unfold maskL
  rw [Nat.testBit_or,ih,Nat.testBit_two_pow]
  rw [Bool.eq_iff_iff]
  simp only [Bool.or_eq_true,decide_eq_true_eq,List.mem_cons]
  constructor
  ·rintro (h1|h1)
   ·left;omega
   ·right;exact h1
  ·rintro (h1|h1)
   ·left;omega
   ·right;exact h1
theorem zc5: ∀(l k:List Int),l.Pairwise (· < ·)→k.Pairwise (· < ·)→(∀a,a∈l↔a∈k)→l=k
 | [],[],_,_,_=>rfl
 | [],b::k,_,_,h=>by have:=(h b).2 (by simp);cases this
 |a::l,[],_,_,h=>by have:=(h a).1 (by simp);cases this
 |a::l,b::k,h1,h2,h=>by
  rw [List.pairwise_cons] at h1 h2
  have e:a=b:=by
   have ha:=(h a).1 (by simp)
   have hb:=(h b).2 (by simp)
   rw [List.mem_cons] at ha hb
   rcases ha with ha|ha
   ·exact ha
   ·rcases hb with hb|hb
    ·exact hb.symm
    ·have:=h2.1 a ha;have:=h1.1 b hb;omega
  subst e
  rw [zc5 l k h1.2 h2.2 (fun c=>by
   constructor
   ·intro hc
    have:=(h c).1 (by simp [hc])
    rw [List.mem_cons] at this
    rcases this with rfl|this
    ·have:=h1.1 c hc;omega
    ·exact this
   ·intro hc
    have:=(h c).2 (by simp [hc])
    rw [List.mem_cons] at this
    rcases this with rfl|this
    ·have:=h2.1 c hc;omega
    ·exact this)]
theorem zds {n:Nat} {l:List Int} (h: ∀a∈l,0≤a∧a<(n:Int)):maskL l<2^n:=by
 apply Nat.lt_pow_two_of_testBit
 intro i hi
 rw [z7o l (fun a ha=>(h a ha).1)]
 apply decide_eq_false
 intro hm
 have:=(h _ hm).2
 omega
theorem zbj {n:Nat} (hn:n≤8) {l:List Int} (h:rowE n none l=0):memb (maskL l)=l:=by
 obtain ⟨h1,h2,_⟩:=zcj l none h
 have hl:=zds h1
 have h2n:2^n≤256:=Nat.pow_le_pow_right (n:=2) (by decide) hn
 apply zc5 _ _ (z98 _) h2
 intro a
 rw [z1r (by omega)]
 constructor
 ·rintro ⟨i,rfl,hi⟩
  rw [z7o l (fun a ha=>(h1 a ha).1)] at hi
  simpa using hi
 ·intro ha
  obtain ⟨k,rfl⟩:=Int.eq_ofNat_of_zero_le (h1 a ha).1
  refine ⟨k,rfl,?_⟩
  rw [z7o l (fun a ha=>(h1 a ha).1)]
  simpa using ha
theorem zk4 {l:List Int} (h: ∀a∈l,0≤a)(hne:l≠[]):maskL l≠0:=by
 obtain ⟨a,r,rfl⟩: ∃a r,l=a::r:=by cases l with|nil=>exact absurd rfl hne|cons a r=>exact ⟨a,r,rfl⟩
 intro h0
 have:=z7o _ h a.toNat
 rw [h0,Nat.zero_testBit,Int.toNat_of_nonneg (h a (by simp))] at this
 simp at this
def openS (n:Nat):List GS→List Nat→Int×List Nat
 | [],ss=>(0,ss)
 |p::r,ss=>if sideE n p.2≠0 then (sideE n p.2,ss) else
  if smlN n (maskL p.2)=0 then (5,ss) else if smlN n (maskL p.2)∈ss then (6,ss) else openS n r (ss++ [smlN n (maskL p.2)])
def openG (n:Int) (G:List GS):Int×List Nat:=if n<2∨8<n then (1,[]) else if 13<G.length then (3,[]) else openS n.toNat G []
theorem zj9 {n v:Nat} (hn:1≤n)(h:smlN n v≠0):v≠2^n-1:=by
 rintro rfl
 apply h
 unfold smlN
 rw [if_pos (by rw [z9i];simp;omega),Nat.xor_self]
theorem zkq (b:GK) {l:List Int} (h:l≠[]):gM (b,l)=tAV l:=by
 have h2:l.map I≠[]:=by simpa using h
 unfold gM tAV
 rw [z7z h2,if_neg (fun h3=>h (List.eq_nil_of_length_eq_zero h3))]
theorem zh0 {n:Nat} (h1:1≤n)(hn:n≤8): ∀(G:List GS) (ss T:List Nat),openS n G ss=(0,T)→
  ∃X:List Nat,G.map gM=X.map tM∧G.map (·.2)=X.map memb∧(∀v∈X,v<2^n∧v≠0∧v≠2^n-1)∧T=ss++X.map (smlN n)∧(ss.Nodup→T.Nodup)
 | [],ss,T,h=>by
  unfold openS at h
  simp only [Prod.mk.injEq,true_and] at h
  subst h
  exact ⟨[],rfl,rfl,by simp,by simp,fun h=>h⟩
 |(b,l)::r,ss,T,h=>by
  unfold openS at h
  split at h
  ·rename_i h0
   rw [Prod.mk.injEq] at h;exact absurd h.1 h0
  ·rename_i h0
   split at h
   ·rw [Prod.mk.injEq] at h;exact absurd h.1 (by decide)
   ·rename_i h3
    split at h
    ·rw [Prod.mk.injEq] at h;exact absurd h.1 (by decide)
    ·rename_i h4
     have h0:sideE n l=0:=by simpa using h0
     obtain ⟨X,e1,e2,e3,e4,e5⟩:=zh0 h1 hn r _ T h
     have hne:l≠[]:=by rintro rfl;simp [sideE] at h0
     have hrow:rowE n none l=0:=by unfold sideE at h0;rwa [if_neg hne] at h0
     have hm:=zbj hn hrow
     have hr:=(zcj l none hrow).1
     refine ⟨maskL l::X,?_,?_,?_,?_,?_⟩
     ·rw [List.map_cons,List.map_cons,e1,zkq b hne,tM,hm]
     ·rw [List.map_cons,List.map_cons,e2,hm]
     ·intro v hv
      rw [List.mem_cons] at hv
      rcases hv with rfl|hv
      ·exact ⟨zds hr,zk4 (fun a ha=>(hr a ha).1) hne,zj9 h1 h3⟩
      ·exact e3 v hv
     ·rw [e4];simp
     ·intro hnd
      apply e5
      rw [List.nodup_append]
      refine ⟨hnd,by simp,?_⟩
      intro x hx y hy
      rw [List.mem_singleton] at hy
      subst hy
      rintro rfl
      exact h4 hx
theorem z2k {n:Int} {G:List GS} (h:(openG n G).1=0): ∃(m:Nat) (X:List Nat),n=m∧2≤m∧m≤8∧G.length≤13∧X.length=G.length∧G.map gM=X.map tM∧G.map (·.2)=X.map memb∧(∀v∈X,v<2^m∧v≠0∧v≠2^m-1)∧(openG n G).2=X.map (smlN m)∧(X.map (smlN m)).Nodup:=by
 unfold openG at h⊢
 split at h
 ·cases h
 ·rename_i h1
  rw [if_neg h1]
  split at h
  ·cases h
  ·rename_i h2
   rw [if_neg h2]
   obtain ⟨X,e1,e2,e3,e4,e5⟩:=zh0 (n:=n.toNat) (by omega) (by omega) G [] _ (Prod.ext h rfl)
   rw [List.nil_append] at e4
   refine ⟨n.toNat,X,by omega,by omega,by omega,by omega,?_,e1,e2,e3,e4,?_⟩
   ·have:=congrArg List.length e1;simpa using this.symm
   ·have:=e5 List.nodup_nil
    rw [e4] at this;exact this
attribute [local go_sem] m_ x_ l_ k_ o_ t_ a_ s_ q_ b_ c_ u_ g_ zk z9 zf zm z09 z08 zd zi zh z6 zg z07
theorem z7r (p:GS)(R:AV→Prop)(h1:R (.v (.slice none 0 0)))(h2: ∀xs,R (.lst .any 1 xs))(h3: ∀a c,R (.v (.slice (some a) 0 c))):R (gM p):=by
 unfold gM
 split
 ·unfold gK;split
  ·exact h1
  ·exact h2 _
  ·exact h3 _ _
 ·exact h2 _
theorem z00 (p:GS):(gM p).shaped=true:=z7r p (fun a=>a.shaped=true) rfl (fun _=>rfl) (fun _ _=>rfl)
theorem z0m (p:GS):(gM p).cells=[gM p]:=z7r p (fun a=>a.cells=[a]) rfl (fun _=>rfl) (fun _ _=>rfl)
theorem z0k (p:GS):Ev.isAgg (gM p)=false:=z7r p (fun a=>Ev.isAgg a=false) rfl (fun _=>rfl) (fun _ _=>rfl)
theorem zp (p:GS):storable (gM p)=true:=z7r p (fun a=>storable a=true) rfl (fun _=>rfl) (fun _ _=>rfl)
theorem z0j (n:Nat)(p:GS):okRef n (gM p)=true:=z7r p (fun a=>okRef n a=true) rfl (fun _=>rfl) (fun _ _=>rfl)
theorem z4f (p:GS):pub (gM p)=gM p:=z7r p (fun a=>pub a=a) rfl (fun xs=>z6s 1 false xs) (fun _ _=>rfl)
attribute [local go_sem] m_ x_ l_ k_ o_ t_ a_ s_ q_ b_ c_ u_ g_ z00 z0m z0k zp z0j z4f
def rowAt (n:Nat) (l:List Int) (i:Nat):Int:=rowE n (if i=0 then none else l[i-1]?) (l.drop i)
theorem z9x (n:Nat)(l:List Int)(i:Nat)(h:i<l.length):rowAt n l i=if l[i]<0∨(n:Int)≤l[i] then 2 else if prevB (if i=0 then none else l[i-1]?) l[i]=true then 7 else rowAt n l (i+1):=by
 unfold rowAt
 rw [List.drop_eq_getElem_cons h]
 show (if _ then _ else if _ then _ else rowE n (some l[i]) (l.drop (i+1)))=_
 rw [if_neg (show ¬i+1=0 by omega),Nat.add_sub_cancel,List.getElem?_eq_getElem h]
theorem zb6 (n:Nat)(l:List Int)(i:Nat)(h: ¬i<l.length):rowAt n l i=0:=by
 unfold rowAt
 rw [List.drop_eq_nil_of_le (by omega)]
 cases (if i=0 then none else l[i-1]?)<;>rfl
theorem zii (n:Nat)(l:List Int)(hlen:l.length<1000)(nl:Bool)(G:List GS)(f:Int)(k:Nat)(i:Nat)(hok:i≤l.length)(env:Env)(st:St)
  (hg:gcAV true 0 0 (canon env [0,6,7,9,27,28,29,36,37,38]) st=([(0,J n),(6,.v (.int .u8 f)),(7,.v (.slice none 0 0)),(9,tAV l),(27,sl 1 nl (G.map gM)),(28,J G.length),(29,J k),(36,tAV l),(37,J l.length),(38,J i)],⟨[],[]⟩)):
  ∃x_1 en s,lim (headed pure (run L) true [0,6,7,9,27,28,29,36,37,38] lp70_0 0 0) env st=some (x_1,en,s)∧(s=⟨[],[]⟩∧((rowAt n l i=0∧x_1=.exit 3∧en.get 0=J n∧en.get 6=.v (.int .u8 f)∧en.get 7=.v (.slice none 0 0)∧en.get 9=tAV l∧en.get 27=sl 1 nl (G.map gM)∧en.get 28=J G.length∧en.get 29=J k∧en.get 3000000=.any)∨(rowAt n l i≠0∧x_1=.ret∧en.get 4=.v (.slice none 0 0)∧en.get 5=I (rowAt n l i)))):=by
 refine zb (α:=Nat) (fun i=>l.length-i) (fun i=>i≤l.length) (fun i=>([(0,J n),(6,.v (.int .u8 f)),(7,.v (.slice none 0 0)),(9,tAV l),(27,sl 1 nl (G.map gM)),(28,J G.length),(29,J k),(36,tAV l),(37,J l.length),(38,J i)],⟨[],[]⟩)) (fun i x_1 en s=>s=⟨[],[]⟩∧((rowAt n l i=0∧x_1=.exit 3∧en.get 0=J n∧en.get 6=.v (.int .u8 f)∧en.get 7=.v (.slice none 0 0)∧en.get 9=tAV l∧en.get 27=sl 1 nl (G.map gM)∧en.get 28=J G.length∧en.get 29=J k∧en.get 3000000=.any)∨(rowAt n l i≠0∧x_1=.ret∧en.get 4=.v (.slice none 0 0)∧en.get 5=I (rowAt n l i)))) (fun i hok=> ?_) i hok env st hg
 by_cases h:i<l.length
 ·have hs:=zj i (by omega)
  have hx:indexSAV 1 (tAV l) (.v (.int .i64 (i:Int)))=some (.eptr (I l[i]) 0):=zl true l i h
  have hlt:((i:Int)<(l.length:Int))=True:=eT (by omega)
  have hst:=z9x n l i h
  rw [hst]
  by_cases q1:l[i]<0
  ·rw [if_pos (.inl q1)]
   simp only [go_sem,lp70_0,hlt,hs,hx,q1]
   decide
  ·by_cases q2:(n:Int)≤l[i]
   ·rw [if_pos (.inr q2)]
    simp only [go_sem,lp70_0,hlt,hs,hx,q1,q2]
    decide
   ·rw [if_neg (not_or.2 ⟨q1,q2⟩)]
    by_cases h0:0<i
    ·have q3:((0:Int)<(i:Int))=True:=eT (by omega)
     have hm:IntKind.i64.wrap ((i:Int)-1)=((i-1:Nat):Int):=by
      rw [←w64 (i-1) (by omega)];congr 1;omega
     have hx2:indexSAV 1 (tAV l) (.v (.int .i64 ((i-1:Nat):Int)))=some (.eptr (I (l[i-1]'(by omega))) 0):=zl true l (i-1) (by omega)
     rw [if_neg (show ¬i=0 by omega),List.getElem?_eq_getElem (show i-1<l.length by omega)]
     generalize l[i-1]'(by omega)=b at*
     generalize l[i]=a at*
     have hpb:prevB (some b) a=decide (a≤b):=rfl
     rw [hpb]
     by_cases q4:a≤b
     ·rw [if_pos (by simpa using q4)]
      simp only [go_sem,lp70_0,hlt,hs,hx,q1,q2,q3,hm,hx2,q4]
      decide
     ·rw [if_neg (by simpa using q4)]
      simp only [go_sem,lp70_0,hlt,hs,hx,q1,q2,q3,hm,hx2,q4]
      refine ⟨i+1,by simp only [go_sem,z3,z4,z5,zt]<;>rfl,?_,?_,fun x en s hq=> ?_⟩
      ·omega
      ·omega
      ·exact hq
    ·have q3:((0:Int)<(i:Int))=False:=eF (by omega)
     rw [if_pos (show i=0 by omega)]
     generalize l[i]=a at*
     have hpb:prevB none a=false:=rfl
     rw [hpb,if_neg (by simp)]
     simp only [go_sem,lp70_0,hlt,hs,hx,q1,q2,q3]
     refine ⟨i+1,by simp only [go_sem,z3,z4,z5,zt]<;>rfl,?_,?_,fun x en s hq=> ?_⟩
     ·omega
     ·omega
     ·exact hq
 ·have hlt:((i:Int)<(l.length:Int))=False:=eF (by omega)
  rw [zb6 n l i h]
  simp only [go_sem,lp70_0,hlt]
theorem zij (n:Nat)(l:List Int)(hlen:l.length<1000)(nl:Bool)(G:List GS)(f:Int)(ss:List Nat)(k:Nat)(i:Nat)(hok:i≤l.length)(env:Env)(st:St)
  (hg:gcAV true 1 0 (canon env [0,6,7,9,27,28,29,36,37,38]) st=([(0,J n),(6,.v (.int .u8 f)),(7,.rsl 0 0 ss.length ss.length 1 true),(9,tAV l),(27,sl 1 nl (G.map gM)),(28,J G.length),(29,J k),(36,tAV l),(37,J l.length),(38,J i)],⟨[ss.map u8],[]⟩)):
  ∃x_1 en s,lim (headed pure (run L) true [0,6,7,9,27,28,29,36,37,38] lp70_0 1 0) env st=some (x_1,en,s)∧(s=⟨[ss.map u8],[]⟩∧((rowAt n l i=0∧x_1=.exit 3∧en.get 0=J n∧en.get 6=.v (.int .u8 f)∧en.get 7=.rsl 0 0 ss.length ss.length 1 true∧en.get 9=tAV l∧en.get 27=sl 1 nl (G.map gM)∧en.get 28=J G.length∧en.get 29=J k∧en.get 3000000=.any)∨(rowAt n l i≠0∧x_1=.ret∧en.get 4=.v (.slice none 0 0)∧en.get 5=I (rowAt n l i)))):=by
 refine zb (α:=Nat) (fun i=>l.length-i) (fun i=>i≤l.length) (fun i=>([(0,J n),(6,.v (.int .u8 f)),(7,.rsl 0 0 ss.length ss.length 1 true),(9,tAV l),(27,sl 1 nl (G.map gM)),(28,J G.length),(29,J k),(36,tAV l),(37,J l.length),(38,J i)],⟨[ss.map u8],[]⟩)) (fun i x_1 en s=>s=⟨[ss.map u8],[]⟩∧((rowAt n l i=0∧x_1=.exit 3∧en.get 0=J n∧en.get 6=.v (.int .u8 f)∧en.get 7=.rsl 0 0 ss.length ss.length 1 true∧en.get 9=tAV l∧en.get 27=sl 1 nl (G.map gM)∧en.get 28=J G.length∧en.get 29=J k∧en.get 3000000=.any)∨(rowAt n l i≠0∧x_1=.ret∧en.get 4=.v (.slice none 0 0)∧en.get 5=I (rowAt n l i)))) (fun i hok=> ?_) i hok env st hg
 by_cases h:i<l.length
 ·have hs:=zj i (by omega)
  have hx:indexSAV 1 (tAV l) (.v (.int .i64 (i:Int)))=some (.eptr (I l[i]) 0):=zl true l i h
  have hlt:((i:Int)<(l.length:Int))=True:=eT (by omega)
  have hst:=z9x n l i h
  rw [hst]
  by_cases q1:l[i]<0
  ·rw [if_pos (.inl q1)]
   simp only [go_sem,lp70_0,hlt,hs,hx,q1]
   decide
  ·by_cases q2:(n:Int)≤l[i]
   ·rw [if_pos (.inr q2)]
    simp only [go_sem,lp70_0,hlt,hs,hx,q1,q2]
    decide
   ·rw [if_neg (not_or.2 ⟨q1,q2⟩)]
    by_cases h0:0<i
    ·have q3:((0:Int)<(i:Int))=True:=eT (by omega)
     have hm:IntKind.i64.wrap ((i:Int)-1)=((i-1:Nat):Int):=by
      rw [←w64 (i-1) (by omega)];congr 1;omega
     have hx2:indexSAV 1 (tAV l) (.v (.int .i64 ((i-1:Nat):Int)))=some (.eptr (I (l[i-1]'(by omega))) 0):=zl true l (i-1) (by omega)
     rw [if_neg (show ¬i=0 by omega),List.getElem?_eq_getElem (show i-1<l.length by omega)]
     generalize l[i-1]'(by omega)=b at*
     generalize l[i]=a at*
     have hpb:prevB (some b) a=decide (a≤b):=rfl
     rw [hpb]
     by_cases q4:a≤b
     ·rw [if_pos (by simpa using q4)]
      simp only [go_sem,lp70_0,hlt,hs,hx,q1,q2,q3,hm,hx2,q4]
      decide
     ·rw [if_neg (by simpa using q4)]
      simp only [go_sem,lp70_0,hlt,hs,hx,q1,q2,q3,hm,hx2,q4]
      refine ⟨i+1,by simp only [go_sem,z3,z4,z5,zr,zn,zt]<;>rfl,?_,?_,fun x en s hq=> ?_⟩
      ·omega
      ·omega
      ·exact hq
    ·have q3:((0:Int)<(i:Int))=False:=eF (by omega)
     rw [if_pos (show i=0 by omega)]
     generalize l[i]=a at*
     have hpb:prevB none a=false:=rfl
     rw [hpb,if_neg (by simp)]
     simp only [go_sem,lp70_0,hlt,hs,hx,q1,q2,q3]
     refine ⟨i+1,by simp only [go_sem,z3,z4,z5,zr,zn,zt]<;>rfl,?_,?_,fun x en s hq=> ?_⟩
     ·omega
     ·omega
     ·exact hq
 ·have hlt:((i:Int)<(l.length:Int))=False:=eF (by omega)
  rw [zb6 n l i h]
  simp only [go_sem,lp70_0,hlt]
theorem zk3 {n v:Nat} (hv:v<2^n)(hn:n≤8):maskL (memb v)=v:=by
 have h2n:2^n≤256:=Nat.pow_le_pow_right (n:=2) (by decide) hn
 apply Nat.eq_of_testBit_eq
 intro i
 rw [z7o _ (fun a ha=>(zcr hn hv a ha).1),Bool.eq_iff_iff,decide_eq_true_eq,z1r (by omega)]
 constructor
 ·rintro ⟨k,e,h⟩
  have:i=k:=by omega
  subst this;exact h
 ·intro h;exact ⟨i,rfl,h⟩
theorem zk7 (n:Nat)(h1n:1≤n)(hn:n≤8)(nl:Bool)(G:List GS)(hG: ∀p∈G,p.2.length<1000)(hl:G.length≤13)(i:Nat)(ss:List Nat)(hok:i≤G.length∧ss.length≤i∧∀x∈ss,x<2^n)(env:Env)(st:St)
  (hg:gcAV true 0 0 (canon env [0,6,7,27,28,29,3000000]) st=([(0,J n),(6,u8 (2^n-1)),(7,kA ss),(27,sl 1 nl (G.map gM)),(28,J G.length),(29,J i),(3000000,.any)],⟨kS ss,[]⟩)):
  ∃x_1 en s,lim (headed pure (run L) true [0,6,7,27,28,29,3000000] lp70_1 0 0) env st=some (x_1,en,s)∧(((openS n (G.drop i) ss).1=0∧x_1=.exit 1∧en.get 7=kA (openS n (G.drop i) ss).2∧s=⟨kS (openS n (G.drop i) ss).2,[]⟩)∨((openS n (G.drop i) ss).1≠0∧x_1=.ret∧en.get 4=.v (.slice none 0 0)∧en.get 5=I (openS n (G.drop i) ss).1∧∃N:List (List Nat),N.length≤2∧s=⟨N.map (fun l=>l.map u8),[]⟩)):=by
 refine zb (α:=Nat×List Nat) (fun ⟨i,ss⟩=>G.length-i) (fun ⟨i,ss⟩=>i≤G.length∧ss.length≤i∧∀x∈ss,x<2^n) (fun ⟨i,ss⟩=>([(0,J n),(6,u8 (2^n-1)),(7,kA ss),(27,sl 1 nl (G.map gM)),(28,J G.length),(29,J i),(3000000,.any)],⟨kS ss,[]⟩)) (fun ⟨i,ss⟩ x_1 en s=>((openS n (G.drop i) ss).1=0∧x_1=.exit 1∧en.get 7=kA (openS n (G.drop i) ss).2∧s=⟨kS (openS n (G.drop i) ss).2,[]⟩)∨((openS n (G.drop i) ss).1≠0∧x_1=.ret∧en.get 4=.v (.slice none 0 0)∧en.get 5=I (openS n (G.drop i) ss).1∧∃N:List (List Nat),N.length≤2∧s=⟨N.map (fun l=>l.map u8),[]⟩)) (fun ⟨i,ss⟩ hok=> ?_) ⟨i,ss⟩ hok env st hg
 simp only at hok
 obtain ⟨h1,h2,h3⟩:=hok
 dsimp only at h1 h2 h3⊢
 by_cases h:i<G.length
 ·have hs:=zj i (by omega)
  have hx:=z0l gM nl G i h
  have hlt:((i:Int)<(G.length:Int))=True:=eT (by omega)
  have hgl:=hG G[i] (List.getElem_mem h)
  have hd:G.drop i=G[i]::G.drop (i+1):=List.drop_eq_getElem_cons h
  rw [hd]
  generalize G[i]=p at*
  obtain ⟨b,l⟩:=p
  dsimp only at hgl
  have h2n:2^n≤256:=Nat.pow_le_pow_right (n:=2) (by decide) hn
  have hp:0<2^n:=Nat.two_pow_pos n
  have hos:openS n ((b,l)::G.drop (i+1)) ss=if sideE n l≠0 then (sideE n l,ss) else if smlN n (maskL l)=0 then (5,ss) else if smlN n (maskL l)∈ss then (6,ss) else openS n (G.drop (i+1)) (ss++ [smlN n (maskL l)]):=rfl
  rw [hos]
  have hll0:l=[]→lenAV (gM (b,l))=some (I 0):=by rintro rfl;cases b<;>rfl
  have hmask:l≠[]→sideE n l=0→∃v,v<2^n∧l=memb v:=by
   intro hne he
   unfold sideE at he
   rw [if_neg hne] at he
   exact ⟨maskL l,zds (zcj l none he).1,(zbj hn he).symm⟩
  clear hos hd
  by_cases he:ss=[]
  ·subst he
   have eA:kA []=.v (.slice none 0 0):=rfl
   have eS:kS []=[]:=rfl
   rw [eA,eS]
   by_cases hne:l=[]
   ·have hll:=hll0 hne
    rw [if_pos (by unfold sideE;rw [if_pos hne];decide)]
    have hse:sideE n l=4:=by unfold sideE;rw [if_pos hne]
    rw [hse]
    simp only [go_sem,lp70_1,hlt,hx,hll]
    exact ⟨by decide,[],by simp,rfl⟩
   ·have hl0:((l.length:Int)=0)=False:=eF (by have:=List.length_pos_iff.2 hne;omega)
    have hgm:=zkq b hne
    rw [hgm] at hx
    have hll:lenAV (tAV l)=some (J l.length):=zq I true l
    have hse:sideE n l=rowAt n l 0:=by unfold sideE rowAt;rw [if_neg hne,if_pos rfl,List.drop_zero]
    rw [hse]
    simp only [go_sem,lp70_1,hlt,hx,hll,hl0]
    generalize hg:lim (headed pure (run L) true _ lp70_0 _ _) _ _=o
    obtain ⟨x,en,s,rfl,h2⟩: ∃x en s,o=some (x,en,s)∧_:=by rw [←hg];exact zii n l (by omega) nl G ((2^n-1:Nat):Int) i 0 (by omega) _ _ (by simp only [go_sem,Int.natCast_zero,zt]<;>rfl)
    clear hg
    obtain ⟨rfl,⟨er,rfl,e0,e6,e7,e9,e27,e28,e29,e30⟩ | ⟨er,rfl,e4,e5⟩⟩:=h2
    ·rw [if_neg (by simpa using er)]
     obtain ⟨v,hv,rfl⟩:=hmask hne (hse.trans er)
     have h105:=fun st=>c105 v (by omega) st
     have h106: ∀st,run L 106 [E8 v,I 0] st=some (B (v.testBit 0),st):=fun st=>c106 v (by omega) st
     have hmv:maskL (memb v)=v:=zk3 hv (by omega)
     rw [hmv]
     have hxo:=xor8 v (2^n-1) (by omega) (by omega)
     have hsl:=z1o hv
     have hsd:smlN n v=if v.testBit 0=true then v^^^(2^n-1) else v:=rfl
     have h122:=fun st=>c122 true [] (by simp) (smlN n v) st
     rw [show sl 1 true (([]:List Nat).map E8)=AV.v (.slice none 0 0) from rfl] at h122
     have hfr:=fun st=>zkr (smlN n v) st
     have happ:=zas (smlN n v) [[u8 (smlN n v)]] []
     clear hse hx hll hne hmask
     cases hb:v.testBit 0 with
     |true=>
      rw [hb] at h106
      rw [hb,if_pos rfl] at hsd
      rw [←hsd] at hxo
      generalize smlN n v=w at*
      by_cases hz:w=0
      ·rw [if_pos hz]
       have hz:((w:Int)=0)=True:=eT (by omega)
       simp only [go_sem,lp70_1,e0,e6,e7,e9,e27,e28,e29,h105,h106,hxo,hz]
       exact ⟨by decide,[[w]],by simp,rfl⟩
      ·rw [if_neg hz]
       have hz:((w:Int)=0)=False:=eF (by omega)
       have hni:w ∉ ([]:List Nat):=by simp
       rw [if_neg hni]
       rw [decide_eq_false hni] at h122
       simp only [go_sem,lp70_1,e0,e6,e7,e9,e27,e28,e29,h105,h106,hxo,hz,hfr,h122,z2j,happ,hs]
       refine ⟨(i+1,[w]),by simp only [go_sem,z3,z4,z5,e0,e6,e7,e27,e28,e29,e30,zh7,zf9,compact,compactW,refsEnv,refsV,refsL,refsStore,refsAt,mapEnv,mapL,mapLs,newName,posOf,mapStore,pickStore,namesOk,zu,z0f,List.contains_nil,List.contains_cons,Option.getD_some,hasKey]<;>rfl,?_,?_,fun x en s hq=> ?_⟩
       ·dsimp only;exact ⟨by omega,by simp,by intro x hx;rw [List.mem_singleton] at hx;omega⟩
       ·dsimp only;omega
       ·exact hq
     |false=>
      rw [hb] at h106
      rw [hb,if_neg (by simp)] at hsd
      generalize smlN n v=w at*
      subst hsd
      by_cases hz:w=0
      ·rw [if_pos hz]
       have hz:((w:Int)=0)=True:=eT (by omega)
       simp only [go_sem,lp70_1,e0,e6,e7,e9,e27,e28,e29,h105,h106,hz]
       exact ⟨by decide,[[w]],by simp,rfl⟩
      ·rw [if_neg hz]
       have hz:((w:Int)=0)=False:=eF (by omega)
       have hni:w ∉ ([]:List Nat):=by simp
       rw [if_neg hni]
       rw [decide_eq_false hni] at h122
       simp only [go_sem,lp70_1,e0,e6,e7,e9,e27,e28,e29,h105,h106,hz,hfr,h122,z2j,happ,hs]
       refine ⟨(i+1,[w]),by simp only [go_sem,z3,z4,z5,e0,e6,e7,e27,e28,e29,e30,zh7,zf9,compact,compactW,refsEnv,refsV,refsL,refsStore,refsAt,mapEnv,mapL,mapLs,newName,posOf,mapStore,pickStore,namesOk,zu,z0f,List.contains_nil,List.contains_cons,Option.getD_some,hasKey]<;>rfl,?_,?_,fun x en s hq=> ?_⟩
       ·dsimp only;exact ⟨by omega,by simp,by intro x hx;rw [List.mem_singleton] at hx;omega⟩
       ·dsimp only;omega
       ·exact hq
    ·rw [if_pos (by simpa using er)]
     simp only [go_sem,lp70_1,e4,e5]
     exact ⟨er,[],by simp,rfl⟩
  ·have eA:=zbo he
   have eS:=za4 he
   have hpos:1≤ss.length:=List.length_pos_iff.2 he
   rw [eA,eS]
   by_cases hne:l=[]
   ·have hll:=hll0 hne
    rw [if_pos (by unfold sideE;rw [if_pos hne];decide)]
    have hse:sideE n l=4:=by unfold sideE;rw [if_pos hne]
    rw [hse]
    simp only [go_sem,lp70_1,hlt,hx,hll]
    exact ⟨by decide,[ss],by simp,rfl⟩
   ·have hl0:((l.length:Int)=0)=False:=eF (by have:=List.length_pos_iff.2 hne;omega)
    have hgm:=zkq b hne
    rw [hgm] at hx
    have hll:lenAV (tAV l)=some (J l.length):=zq I true l
    have hse:sideE n l=rowAt n l 0:=by unfold sideE rowAt;rw [if_neg hne,if_pos rfl,List.drop_zero]
    rw [hse]
    simp only [go_sem,lp70_1,hlt,hx,hll,hl0]
    generalize hg:lim (headed pure (run L) true _ lp70_0 _ _) _ _=o
    obtain ⟨x,en,s,rfl,h2⟩: ∃x en s,o=some (x,en,s)∧_:=by rw [←hg];exact zij n l (by omega) nl G ((2^n-1:Nat):Int) ss i 0 (by omega) _ _ (by simp only [go_sem,Int.natCast_zero,zr,zn,zt]<;>rfl)
    clear hg
    obtain ⟨rfl,⟨er,rfl,e0,e6,e7,e9,e27,e28,e29,e30⟩ | ⟨er,rfl,e4,e5⟩⟩:=h2
    ·rw [if_neg (by simpa using er)]
     obtain ⟨v,hv,rfl⟩:=hmask hne (hse.trans er)
     have h105:=fun st=>c105 v (by omega) st
     have h106: ∀st,run L 106 [E8 v,I 0] st=some (B (v.testBit 0),st):=fun st=>c106 v (by omega) st
     have hmv:maskL (memb v)=v:=zk3 hv (by omega)
     rw [hmv]
     have hxo:=xor8 v (2^n-1) (by omega) (by omega)
     have hsl:=z1o hv
     have hsd:smlN n v=if v.testBit 0=true then v^^^(2^n-1) else v:=rfl
     have h122:=fun st=>c122 true ss (by omega) (smlN n v) st
     obtain ⟨S2,hfr⟩:=zne he (smlN n v) [u8 (smlN n v)] []
     have happ:=zkl [u8 (smlN n v)] ss (smlN n v) [] hpos (by omega)
     clear hse hx hll hne hmask
     cases hb:v.testBit 0 with
     |true=>
      rw [hb] at h106
      rw [hb,if_pos rfl] at hsd
      rw [←hsd] at hxo
      generalize smlN n v=w at*
      by_cases hz:w=0
      ·rw [if_pos hz]
       have hz:((w:Int)=0)=True:=eT (by omega)
       simp only [go_sem,lp70_1,e0,e6,e7,e9,e27,e28,e29,h105,h106,hxo,hz]
       exact ⟨by decide,[ss,[w]],by simp,rfl⟩
      ·rw [if_neg hz]
       have hz:((w:Int)=0)=False:=eF (by omega)
       by_cases hni:w∈ss
       ·rw [if_pos hni]
        rw [decide_eq_true hni] at h122
        simp only [go_sem,lp70_1,e0,e6,e7,e9,e27,e28,e29,h105,h106,hxo,hz,hfr,h122,z2j]
        exact ⟨by decide,[ss,[w]],by simp,rfl⟩
       ·rw [if_neg hni]
        rw [decide_eq_false hni] at h122
        simp only [go_sem,lp70_1,e0,e6,e7,e9,e27,e28,e29,h105,h106,hxo,hz,hfr,h122,z2j,happ,hs]
        refine ⟨(i+1,ss++ [w]),by simp only [go_sem,z3,z4,z5,e0,e6,e7,e27,e28,e29,e30,zdv,zbl,z2r,z2s,zr,zn,compact,compactW,refsEnv,refsV,refsL,refsStore,refsAt,mapEnv,mapL,mapLs,newName,posOf,mapStore,pickStore,namesOk,zu,z0f,List.contains_nil,List.contains_cons,Option.getD_some,hasKey]<;>rfl,?_,?_,fun x en s hq=> ?_⟩
        ·dsimp only;exact ⟨by omega,by rw [List.length_append,List.length_singleton];omega,by intro x hx;rcases List.mem_append.1 hx with hx|hx;exact h3 x hx;rw [List.mem_singleton] at hx;omega⟩
        ·dsimp only;omega
        ·exact hq
     |false=>
      rw [hb] at h106
      rw [hb,if_neg (by simp)] at hsd
      generalize smlN n v=w at*
      subst hsd
      by_cases hz:w=0
      ·rw [if_pos hz]
       have hz:((w:Int)=0)=True:=eT (by omega)
       simp only [go_sem,lp70_1,e0,e6,e7,e9,e27,e28,e29,h105,h106,hz]
       exact ⟨by decide,[ss,[w]],by simp,rfl⟩
      ·rw [if_neg hz]
       have hz:((w:Int)=0)=False:=eF (by omega)
       by_cases hni:w∈ss
       ·rw [if_pos hni]
        rw [decide_eq_true hni] at h122
        simp only [go_sem,lp70_1,e0,e6,e7,e9,e27,e28,e29,h105,h106,hz,hfr,h122,z2j]
        exact ⟨by decide,[ss,[w]],by simp,rfl⟩
       ·rw [if_neg hni]
        rw [decide_eq_false hni] at h122
        simp only [go_sem,lp70_1,e0,e6,e7,e9,e27,e28,e29,h105,h106,hz,hfr,h122,z2j,happ,hs]
        refine ⟨(i+1,ss++ [w]),by simp only [go_sem,z3,z4,z5,e0,e6,e7,e27,e28,e29,e30,zdv,zbl,z2r,z2s,zr,zn,compact,compactW,refsEnv,refsV,refsL,refsStore,refsAt,mapEnv,mapL,mapLs,newName,posOf,mapStore,pickStore,namesOk,zu,z0f,List.contains_nil,List.contains_cons,Option.getD_some,hasKey]<;>rfl,?_,?_,fun x en s hq=> ?_⟩
        ·dsimp only;exact ⟨by omega,by rw [List.length_append,List.length_singleton];omega,by intro x hx;rcases List.mem_append.1 hx with hx|hx;exact h3 x hx;rw [List.mem_singleton] at hx;omega⟩
        ·dsimp only;omega
        ·exact hq
    ·rw [if_pos (by simpa using er)]
     simp only [go_sem,lp70_1,e4,e5]
     exact ⟨er,[ss],by simp,rfl⟩
 ·have e:G.drop i=[]:=List.drop_eq_nil_of_le (by omega)
  have hlt:((i:Int)<(G.length:Int))=False:=eF (by omega)
  rw [e,show openS n [] ss=(0,ss) from rfl]
  simp only [go_sem,lp70_1,hlt]
theorem c70G (n:Int)(nl:Bool)(G:List GS)(hG: ∀p∈G,p.2.length<1000)(hGl:G.length<1000):
  ((openG n G).1=0∧run L 70 [I n,sl 1 nl (G.map gM)] ⟨[],[]⟩=some (.tup [kA (openG n G).2,I 0],⟨kS (openG n G).2,[]⟩))∨
  ((openG n G).1≠0∧∃N:List (List Nat),N.length≤2∧run L 70 [I n,sl 1 nl (G.map gM)] ⟨[],[]⟩=some (.tup [.v (.slice none 0 0),I (openG n G).1],⟨N.map (fun l=>l.map u8),[]⟩)):=by
 rw [zc (fn:=ir70) rfl rfl]
 unfold openG
 by_cases q1:n<2
 ·rw [if_pos (.inl q1)]
  right
  refine ⟨by decide,[],by simp,?_⟩
  simp only [ir70,go_sem,q1]
 ·by_cases q2:8<n
  ·rw [if_pos (.inr q2)]
   right
   refine ⟨by decide,[],by simp,?_⟩
   simp only [ir70,go_sem,q1,q2]
  ·rw [if_neg (not_or.2 ⟨q1,q2⟩)]
   obtain ⟨m,rfl⟩:=Int.eq_ofNat_of_zero_le (show 0≤n by omega)
   by_cases q3:13<G.length
   ·rw [if_pos q3]
    right
    refine ⟨by decide,[],by simp,?_⟩
    have q3:((13:Int)<(G.length:Int))=True:=eT (by omega)
    simp only [ir70,go_sem,lm_,q1,q2,q3]
   ·rw [if_neg q3]
    have q3:((13:Int)<(G.length:Int))=False:=eF (by omega)
    obtain ⟨r,hsh,hsu⟩:=shl8n m (by omega)
    have hto:((m:Int)).toNat=m:=rfl
    rw [hto]
    simp only [ir70,go_sem,lm_,q1,q2,q3,hsh,hsu]
    generalize hg:lim (headed pure (run L) true _ lp70_1 _ _) _ _=o
    obtain ⟨x,en,s,rfl,h2⟩: ∃x en s,o=some (x,en,s)∧_:=by rw [←hg];exact zk7 m (by omega) (by omega) nl G hG (by omega) 0 [] ⟨by omega,by simp,by simp⟩ _ _ (by simp only [go_sem,Int.natCast_zero,kA,kS,compact,compactW,refsEnv,refsV,refsL,refsStore,refsAt,mapEnv,mapL,mapLs,newName,posOf,mapStore,pickStore,namesOk,zu,z0f,List.contains_nil,List.contains_cons,Option.getD_some,hasKey]<;>rfl)
    clear hg
    rw [List.drop_zero] at h2
    rcases h2 with ⟨h0,rfl,e7,rfl⟩ | ⟨h0,rfl,e4,e5,N,hN,rfl⟩
    ·left
     refine ⟨h0,?_⟩
     simp only [go_sem,e7]
    ·right
     refine ⟨h0,N,hN,?_⟩
     simp only [go_sem,e4,e5]
attribute [local go_sem] m_ x_ l_ k_ o_ t_ a_ s_ q_ b_ c_ u_ g_ zk z9 zf zm z09 z08 zd zi zh z6 zg z07
theorem c98 (a lo hi:Int)(st:St):run L 98 [I a,I lo,I hi] st=some (B (decide (lo≤a∧a≤hi)),st):=by
 rw [run_pure (fn:=ir98) rfl rfl]
 by_cases h1:lo≤a
 ·by_cases h2:a≤hi<;>simp only [ir98,go_sem,h1,h2]
 ·simp only [ir98,go_sem,h1]
theorem zon (nl:Bool)(l:List Int)(hlen:l.length<1000000)(a:Int)(i:Nat)(hok:i≤l.length)(env:Env)(st:St)
  (hg:gcAV true 0 0 (canon env [0,1,5]) st=([(0,sl 1 nl (l.map I)),(1,I a),(5,J i)],⟨[],[]⟩)):
  ∃x_1 en s,lim (headed pure (run L) true [0,1,5] lp100_0 0 0) env st=some (x_1,en,s)∧(if a∈l.drop i then x_1=.ret∧en.get 4=B true else x_1=.exit 0):=by
 refine zb (α:=Nat) (fun i=>l.length-i) (fun i=>i≤l.length) (fun i=>([(0,sl 1 nl (l.map I)),(1,I a),(5,J i)],⟨[],[]⟩)) (fun i x_1 en s=>if a∈l.drop i then x_1=.ret∧en.get 4=B true else x_1=.exit 0) (fun i hok=> ?_) i hok env st hg
 by_cases h:i<l.length
 ·have hx:=zl nl l i h
  have hs:=zj i (by omega)
  have hd:l.drop i=l[i]::l.drop (i+1):=List.drop_eq_getElem_cons h
  have hlt:((i:Int)<(l.length:Int))=True:=eT (by omega)
  rw [hd]
  generalize l[i]=b at*
  by_cases p:b=a
  ·simp only [go_sem,lp100_0,hx,hlt,p,lm_]
   rw [if_pos (by simp)];trivial
  ·simp only [go_sem,lp100_0,hx,hlt,p,hs,lm_]
   refine ⟨i+1,by simp only [go_sem,z3,z4,z5]<;>rfl,?_,?_,fun x en s hq=> ?_⟩
   ·omega
   ·omega
   ·simp only [List.mem_cons,show ¬a=b from fun e=>p e.symm,false_or];exact hq
 ·have hd:l.drop i=[]:=List.drop_eq_nil_of_le (by omega)
  have hlt:((i:Int)<(l.length:Int))=False:=eF (by omega)
  simp only [go_sem,lp100_0,hlt,lm_]
  rw [hd];simp
theorem c100 (nl:Bool)(l:List Int)(hlen:l.length<1000000)(a:Int)(st:St):run L 100 [sl 1 nl (l.map I),I a] st=some (B (decide (a∈l)),st):=by
 rw [run_pure (fn:=ir100) rfl rfl]
 simp only [ir100,go_sem]
 generalize hg:lim (headed pure (run L) true _ lp100_0 _ _) _ _=o
 obtain ⟨x,en,s,rfl,h2⟩: ∃x en s,o=some (x,en,s)∧_:=by rw [←hg];exact zon nl l hlen a 0 (by omega) _ _ (by simp only [go_sem,Int.natCast_zero]<;>rfl)
 clear hg
 rw [List.drop_zero] at h2
 by_cases h:a∈l
 ·rw [if_pos h] at h2
  obtain ⟨rfl,h3⟩:=h2
  simp only [go_sem,h3,h]
 ·rw [if_neg h] at h2
  subst h2
  simp only [go_sem,h]
def othF (n:Nat) (l:List Int) (i:Nat):List Int:=((List.range' i (n-i)).filter fun (a:Nat)=> !decide ((a:Int)∈l)).map fun (a:Nat)=>(a:Int)
theorem zly (n:Nat)(l:List Int)(i:Nat)(h:i<n):othF n l i=if (i:Int)∈l then othF n l (i+1) else (i:Int)::othF n l (i+1):=by
 unfold othF
 rw [show n-i=(n-(i+1))+1 by omega,List.range'_succ,List.filter_cons]
 by_cases p:(i:Int)∈l
 ·rw [if_pos p,if_neg (by simp [p])]
 ·rw [if_neg p,if_pos (by simp [p])];rfl
theorem zo7 (n:Nat)(l:List Int)(i:Nat)(h: ¬i<n):othF n l i=[]:=by
 unfold othF
 rw [show n-i=0 by omega];rfl
theorem zgz (n:Nat)(l:List Int)(i:Nat):(othF n l i).length≤n-i:=by
 unfold othF
 rw [lm_]
 exact Nat.le_trans (List.length_filter_le _ _) (by simp)
theorem zoj (n:Nat)(hn:n≤8)(nl:Bool)(l:List Int)(hlen:l.length<1000000)(i:Nat)(o:List Int)(hok:i≤n∧o.length≤i)(env:Env)(st:St)
  (hg:gcAV true 0 0 (canon env [0,1,5,6]) st=([(0,J n),(1,sl 1 nl (l.map I)),(5,oA (o.map I)),(6,J i)],⟨[],oT (o.map I)⟩)):
  ∃x_1 en s,lim (headed pure (run L) true [0,1,5,6] lp125_0 0 0) env st=some (x_1,en,s)∧(x_1=.exit 0∧en.get 5=oA ((o++othF n l i).map I)∧s=⟨[],oT ((o++othF n l i).map I)⟩):=by
 refine zb (α:=Nat×List Int) (fun ⟨i,o⟩=>n-i) (fun ⟨i,o⟩=>i≤n∧o.length≤i) (fun ⟨i,o⟩=>([(0,J n),(1,sl 1 nl (l.map I)),(5,oA (o.map I)),(6,J i)],⟨[],oT (o.map I)⟩)) (fun ⟨i,o⟩ x_1 en s=>x_1=.exit 0∧en.get 5=oA ((o++othF n l i).map I)∧s=⟨[],oT ((o++othF n l i).map I)⟩) (fun ⟨i,o⟩ hok=> ?_) ⟨i,o⟩ hok env st hg
 simp only at hok
 obtain ⟨h1,h2⟩:=hok
 dsimp only at h1 h2⊢
 by_cases h:i<n
 ·have hs:=zj i (by omega)
  have hlt:((i:Int)<(n:Int))=True:=eT (by omega)
  have h100:=fun st=>c100 nl l hlen (i:Int) st
  rw [zly n l i h]
  by_cases p:(i:Int)∈l
  ·rw [decide_eq_true p] at h100
   rw [if_pos p]
   simp only [go_sem,lp125_0,hlt,hs,h100]
   refine ⟨(i+1,o),by simp only [go_sem,z3,z4,z5,zet,z97]<;>rfl,?_,?_,fun x en s hq=> ?_⟩
   ·dsimp only;omega
   ·dsimp only;omega
   ·exact hq
  ·rw [decide_eq_false p] at h100
   rw [if_neg p]
   have happ:=fun S=>z9p (o.map I) (J i) S (by rw [lm_];omega)
   simp only [go_sem,lp125_0,hlt,hs,h100,happ]
   refine ⟨(i+1,o++ [(i:Int)]),by simp only [go_sem,z3,z4,z5,zet,z97,List.map_append]<;>rfl,?_,?_,fun x en s hq=> ?_⟩
   ·dsimp only;rw [List.length_append,List.length_singleton];omega
   ·dsimp only;omega
   ·simp only [List.append_assoc,List.singleton_append] at hq;exact hq
 ·have hlt:((i:Int)<(n:Int))=False:=eF (by omega)
  rw [zo7 n l i h,List.append_nil]
  simp only [go_sem,lp125_0,hlt]
theorem c125 (n:Nat)(hn:n≤8)(nl:Bool)(l:List Int)(hlen:l.length<1000000)(st:St):run L 125 [J n,sl 1 nl (l.map I)] st=some (tAV (othF n l 0),st):=by
 rw [run_pure (fn:=ir125) rfl rfl]
 simp only [ir125,go_sem]
 generalize hg:lim (headed pure (run L) true _ lp125_0 _ _) _ _=o
 obtain ⟨x,en,s,rfl,h2⟩: ∃x en s,o=some (x,en,s)∧_:=by rw [←hg];exact zoj n hn nl l hlen 0 [] ⟨by omega,by simp⟩ _ _ (by simp only [go_sem,Int.natCast_zero,List.map_nil,zdr,zf4]<;>rfl)
 clear hg
 rw [List.nil_append] at h2
 obtain ⟨rfl,h3,rfl⟩:=h2
 simp only [go_sem,h3]
 rfl
theorem c110 (n:Nat)(hn:n≤8)(nl:Bool)(l:List Int)(hlen:l.length<1000000)(st:St):run L 110 [J n,sl 1 nl (l.map I)] st=some (if (0:Int)∈l then tAV (othF n l 0) else sl 1 nl (l.map I),st):=by
 rw [run_pure (fn:=ir110) rfl rfl]
 have h100:=fun st=>c100 nl l hlen 0 st
 have h125:=fun st=>c125 n hn nl l hlen st
 by_cases p:(0:Int)∈l
 ·rw [decide_eq_true p] at h100
  rw [if_pos p]
  simp only [ir110,go_sem,h100,h125]
  unfold tAV
  simp only [go_sem]
 ·rw [decide_eq_false p] at h100
  rw [if_neg p]
  simp only [ir110,go_sem,h100]
theorem loop87 (n1 n2:Bool)(xs ys:List Int)(hl:xs.length=ys.length)(hlen:xs.length<1000000)(i:Nat)(hok:i≤xs.length)(env:Env)(st:St)
  (hg:gcAV true 0 0 (canon env [0,1,5]) st=([(0,sl 1 n1 (xs.map I)),(1,sl 1 n2 (ys.map I)),(5,I i)],⟨[],[]⟩)):
  ∃x_1 en s,lim (headed pure (run L) true [0,1,5] lp87_0 0 0) env st=some (x_1,en,s)∧(if xs.drop i=ys.drop i then x_1=.exit 0 else x_1=.ret∧en.get 4=B false):=by
 refine zb (α:=Nat) (fun i=>xs.length-i) (fun i=>i≤xs.length) (fun i=>([(0,sl 1 n1 (xs.map I)),(1,sl 1 n2 (ys.map I)),(5,I i)],⟨[],[]⟩)) (fun i x_1 en s=>if xs.drop i=ys.drop i then x_1=.exit 0 else x_1=.ret∧en.get 4=B false) (fun i hok=> ?_) i hok env st hg
 by_cases h:i<xs.length
 ·have hx:=zl n1 xs i h
  have hy:=zl n2 ys i (by omega)
  have hs:=zj i (by omega)
  have hd:xs.drop i=xs[i]::xs.drop (i+1):=List.drop_eq_getElem_cons h
  have hd2:ys.drop i=ys[i]::ys.drop (i+1):=List.drop_eq_getElem_cons (by omega)
  have hlt:((i:Int)<(xs.length:Int))=True:=eT (by omega)
  rw [hd,hd2]
  generalize xs[i]=a at*
  generalize ys[i]'(by omega)=b at*
  by_cases p:a=b
  ·simp only [go_sem,lp87_0,hx,hy,hlt,p,hs,lm_]
   refine ⟨i+1,by simp only [go_sem,z3,z4,z5]<;>rfl,?_,?_,fun x en s hq=> ?_⟩
   ·omega
   ·omega
   ·simp only [List.cons.injEq,p,true_and];exact hq
  ·simp only [go_sem,lp87_0,hx,hy,hlt,p,lm_]
   rw [if_neg (by simp [p])];trivial
 ·have hd:xs.drop i=[]:=List.drop_eq_nil_of_le (by omega)
  have hd2:ys.drop i=[]:=List.drop_eq_nil_of_le (by omega)
  have hlt:((i:Int)<(xs.length:Int))=False:=eF (by omega)
  simp only [go_sem,lp87_0,hlt,lm_]
  rw [hd,hd2];simp
theorem c87 (n1 n2:Bool)(xs ys:List Int)(hlen:xs.length<1000000)(st:St):run L 87 [sl 1 n1 (xs.map I),sl 1 n2 (ys.map I)] st=some (B (decide (xs=ys)),st):=by
 rw [run_pure (fn:=ir87) rfl rfl]
 by_cases hl:xs.length=ys.length
 ·simp only [ir87,go_sem,lm_,hl]
  generalize hg:lim (headed pure (run L) true _ lp87_0 _ _) _ _=o
  obtain ⟨x,en,s,rfl,h2⟩: ∃x en s,o=some (x,en,s)∧_:=by rw [←hg];exact loop87 n1 n2 xs ys hl hlen 0 (by omega) _ _ (by simp only [go_sem]<;>rfl)
  clear hg
  simp only [List.drop_zero] at h2
  by_cases h:xs=ys
  ·rw [if_pos h] at h2
   subst h2
   simp only [go_sem,h]
  ·rw [if_neg h] at h2
   obtain ⟨rfl,h3⟩:=h2
   simp only [go_sem,h3,h]
 ·have hl2:((xs.length:Int)=(ys.length:Int))=False:=eF (by omega)
  have hne: ¬xs=ys:=fun h=>hl (by rw [h])
  simp only [ir87,go_sem,lm_,hl2,hne]
def apartL (l k:List Int):Bool:=l.all fun a=> !decide (a∈k)
theorem zoi (n1 n2:Bool)(l k:List Int)(hlen:l.length<1000000)(hlk:k.length<1000000)(i:Nat)(hok:i≤l.length)(env:Env)(st:St)
  (hg:gcAV true 0 0 (canon env [0,1,5]) st=([(0,sl 1 n1 (l.map I)),(1,sl 1 n2 (k.map I)),(5,I i)],⟨[],[]⟩)):
  ∃x_1 en s,lim (headed pure (run L) true [0,1,5] lp126_0 0 0) env st=some (x_1,en,s)∧(if apartL (l.drop i) k=true then x_1=.exit 0 else x_1=.ret∧en.get 4=B false):=by
 refine zb (α:=Nat) (fun i=>l.length-i) (fun i=>i≤l.length) (fun i=>([(0,sl 1 n1 (l.map I)),(1,sl 1 n2 (k.map I)),(5,I i)],⟨[],[]⟩)) (fun i x_1 en s=>if apartL (l.drop i) k=true then x_1=.exit 0 else x_1=.ret∧en.get 4=B false) (fun i hok=> ?_) i hok env st hg
 by_cases h:i<l.length
 ·have hx:=zl n1 l i h
  have hs:=zj i (by omega)
  have hd:l.drop i=l[i]::l.drop (i+1):=List.drop_eq_getElem_cons h
  have hlt:((i:Int)<(l.length:Int))=True:=eT (by omega)
  rw [hd]
  generalize l[i]=a at*
  have h100:=fun st=>c100 n2 k hlk a st
  have e:apartL (a::l.drop (i+1)) k=(!decide (a∈k)&&apartL (l.drop (i+1)) k):=rfl
  rw [e]
  by_cases p:a∈k
  ·rw [decide_eq_true p] at h100⊢
   simp only [go_sem,lp126_0,hx,hlt,h100,lm_]
   try (rw [if_neg (by simp)];trivial)
  ·rw [decide_eq_false p] at h100⊢
   simp only [go_sem,lp126_0,hx,hlt,h100,hs,lm_]
   refine ⟨i+1,by simp only [go_sem,z3,z4,z5]<;>rfl,?_,?_,fun x en s hq=> ?_⟩
   ·omega
   ·omega
   ·simpa using hq
 ·have hd:l.drop i=[]:=List.drop_eq_nil_of_le (by omega)
  have hlt:((i:Int)<(l.length:Int))=False:=eF (by omega)
  simp only [go_sem,lp126_0,hlt,lm_]
  rw [hd,show apartL [] k=true from rfl,if_pos rfl];trivial
theorem c126 (n1 n2:Bool)(l k:List Int)(hlen:l.length<1000000)(hlk:k.length<1000000)(st:St):run L 126 [sl 1 n1 (l.map I),sl 1 n2 (k.map I)] st=some (B (apartL l k),st):=by
 rw [run_pure (fn:=ir126) rfl rfl]
 simp only [ir126,go_sem]
 generalize hg:lim (headed pure (run L) true _ lp126_0 _ _) _ _=o
 obtain ⟨x,en,s,rfl,h2⟩: ∃x en s,o=some (x,en,s)∧_:=by rw [←hg];exact zoi n1 n2 l k hlen hlk 0 (by omega) _ _ (by simp only [go_sem,Int.natCast_zero]<;>rfl)
 clear hg
 rw [List.drop_zero] at h2
 cases h:apartL l k with
 |true=>
  rw [h,if_pos rfl] at h2
  subst h2
  simp only [go_sem]
 |false=>
  rw [h,if_neg (by simp)] at h2
  obtain ⟨rfl,h3⟩:=h2
  simp only [go_sem,h3]
def agreeL (n:Nat) (a b:List Int):Bool:=apartL a b||apartL a (othF n b 0)||apartL (othF n a 0) b||apartL (othF n a 0) (othF n b 0)
theorem c72 (n:Nat)(hn:n≤8)(n1 n2:Bool)(a b:List Int)(hla:a.length<1000000)(hlb:b.length<1000000)(st:St):run L 72 [J n,sl 1 n1 (a.map I),sl 1 n2 (b.map I)] st=some (B (agreeL n a b),st):=by
 rw [run_pure (fn:=ir72) rfl rfl]
 have ha:=fun st=>c125 n hn n1 a hla st
 have hb:=fun st=>c125 n hn n2 b hlb st
 have la:=zgz n a 0
 have lb:=zgz n b 0
 have h1:=fun st=>c126 n1 n2 a b hla hlb st
 have h2:=fun st=>c126 n1 true a (othF n b 0) hla (by omega) st
 have h3:=fun st=>c126 true n2 (othF n a 0) b (by omega) hlb st
 have h4:=fun st=>c126 true true (othF n a 0) (othF n b 0) (by omega) (by omega) st
 unfold agreeL
 generalize othF n a 0=oa at*
 generalize othF n b 0=ob at*
 unfold tAV at ha hb
 cases e1:apartL a b<;>rw [e1] at h1
 ·cases e2:apartL a ob<;>rw [e2] at h2
  ·cases e3:apartL oa b<;>rw [e3] at h3
   ·cases e4:apartL oa ob<;>rw [e4] at h4<;>simp only [ir72,go_sem,ha,hb,h1,h2,h3,h4,Bool.or_false,Bool.or_true]
   ·simp only [ir72,go_sem,ha,hb,h1,h2,h3,Bool.or_false,Bool.or_true,Bool.true_or]
  ·simp only [ir72,go_sem,ha,hb,h1,h2,Bool.or_false,Bool.or_true,Bool.true_or]
 ·simp only [ir72,go_sem,ha,hb,h1,Bool.or_false,Bool.or_true,Bool.true_or]
attribute [local go_sem] m_ x_ l_ k_ o_ t_ a_ s_ q_ b_ c_ u_ g_ zk z9 zf zm z09 z08 zd zi zh z6 zg z07 z00 z0m z0k zp z0j z4f
theorem zm0 (n:Nat)(l:List Int):(othF n l 0).Pairwise (· < ·):=by
 unfold othF
 rw [List.pairwise_map]
 exact ((List.pairwise_lt_range' (s:=0) (n:=n-0)).sublist List.filter_sublist).imp (fun h=>by omega)
theorem zlz (n:Nat)(l:List Int)(a:Int):a∈othF n l 0↔∃i:Nat,a=i∧i<n∧(i:Int) ∉ l:=by
 unfold othF
 rw [List.mem_map]
 constructor
 ·rintro ⟨i,hi,rfl⟩
  rw [List.mem_filter,List.mem_range'_1] at hi
  exact ⟨i,rfl,by omega,by simpa using hi.2⟩
 ·rintro ⟨i,rfl,h1,h2⟩
  exact ⟨i,by rw [List.mem_filter,List.mem_range'_1];exact ⟨by omega,by simpa using h2⟩,rfl⟩
theorem z7n {v:Nat} (hv:v<512)(i:Nat):(i:Int)∈memb v↔v.testBit i=true:=by
 rw [z1r hv]
 constructor
 ·rintro ⟨k,e,h⟩
  have:i=k:=by omega
  subst this;exact h
 ·intro h;exact ⟨i,rfl,h⟩
theorem z4o {n v:Nat} (hv:v<2^n)(i:Nat):(v^^^(2^n-1)).testBit i=(decide (i<n)&& !v.testBit i):=by
 rw [Nat.testBit_xor,z9i]
 by_cases h:i<n
 ·rw [decide_eq_true h];cases v.testBit i<;>rfl
 ·rw [decide_eq_false h,zg0 hv i (by omega)];rfl
theorem zdd {n v:Nat} (hv:v<2^n):v^^^(2^n-1)<2^n:=by
 have:=Nat.two_pow_pos n
 exact Nat.xor_lt_two_pow hv (by omega)
theorem zdp {n v:Nat} (hn:n≤8)(hv:v<2^n):othF n (memb v) 0=memb (v^^^(2^n-1)):=by
 have h2n:2^n≤256:=Nat.pow_le_pow_right (n:=2) (by decide) hn
 have hx:=zdd hv
 apply zc5 _ _ (zm0 n _) (z98 _)
 intro a
 rw [zlz,z1r (by omega)]
 constructor
 ·rintro ⟨i,rfl,h1,h2⟩
  refine ⟨i,rfl,?_⟩
  rw [z7n (by omega)] at h2
  rw [z4o hv,decide_eq_true h1];simpa using h2
 ·rintro ⟨i,rfl,h⟩
  rw [z4o hv,Bool.and_eq_true,decide_eq_true_eq] at h
  refine ⟨i,rfl,h.1,?_⟩
  rw [z7n (by omega)];simpa using h.2
theorem zp3 (n:Nat)(hn:n≤8)(v:Nat)(hv:v<2^n)(st:St):run L 110 [J n,tM v] st=some (tM (smlN n v),st):=by
 have h2n:2^n≤256:=Nat.pow_le_pow_right (n:=2) (by decide) hn
 have hm:=z14 v
 have h:=c110 n hn true (memb v) (by omega) st
 rw [zdp hn hv] at h
 have hb:(0:Int)∈memb v↔v.testBit 0=true:=z7n (v:=v) (by omega) 0
 unfold smlN
 by_cases p:v.testBit 0=true
 ·rw [if_pos (hb.2 p)] at h
  rw [if_pos p];exact h
 ·rw [if_neg (fun q=>p (hb.1 q))] at h
  rw [if_neg p];exact h
theorem c87M (a b:Nat)(ha:a<512)(hb:b<512)(st:St):run L 87 [tM a,tM b] st=some (B (decide (a=b)),st):=by
 have hm:=z14 a
 have h:=c87 true true (memb a) (memb b) (by omega) st
 have e:decide (memb a=memb b)=decide (a=b):=by
  rw [Bool.eq_iff_iff,decide_eq_true_eq,decide_eq_true_eq]
  exact ⟨zh3 ha hb,fun h=>by rw [h]⟩
 rw [e] at h
 exact h
theorem z7t {a b:Nat} (ha:a<512)(hb:b<512):apartL (memb a) (memb b)=decide (a&&&b=0):=by
 rw [Bool.eq_iff_iff,decide_eq_true_eq,zau]
 unfold apartL
 rw [List.all_eq_true]
 constructor
 ·intro h i hi
  have:=h (i:Int) ((z7n ha i).2 hi)
  rw [Bool.not_eq_true',decide_eq_false_iff_not,z7n hb] at this
  simpa using this
 ·intro h x hx
  obtain ⟨i,rfl,hi⟩:=(z1r ha x).1 hx
  have:=h i hi
  rw [Bool.not_eq_true',decide_eq_false_iff_not,z7n hb]
  simpa using this
def ag4 (n a b:Nat):Bool:=decide (a&&&b=0)||decide (a&&&(b^^^(2^n-1))=0)||decide ((a^^^(2^n-1))&&&b=0)||decide ((a^^^(2^n-1))&&&(b^^^(2^n-1))=0)
theorem zeg {n v:Nat}:(v^^^(2^n-1))^^^(2^n-1)=v:=by rw [Nat.xor_assoc,Nat.xor_self,Nat.xor_zero]
theorem ag4_l (n a b:Nat):ag4 n (a^^^(2^n-1)) b=ag4 n a b:=by
 unfold ag4
 rw [zeg]
 cases decide (a&&&b=0)<;>cases decide (a&&&(b^^^(2^n-1))=0)<;>cases decide ((a^^^(2^n-1))&&&b=0)<;>cases decide ((a^^^(2^n-1))&&&(b^^^(2^n-1))=0)<;>rfl
theorem ag4_r (n a b:Nat):ag4 n a (b^^^(2^n-1))=ag4 n a b:=by
 unfold ag4
 rw [zeg]
 cases decide (a&&&b=0)<;>cases decide (a&&&(b^^^(2^n-1))=0)<;>cases decide ((a^^^(2^n-1))&&&b=0)<;>cases decide ((a^^^(2^n-1))&&&(b^^^(2^n-1))=0)<;>rfl
theorem zp8 (n a b:Nat):ag4 n (smlN n a) (smlN n b)=ag4 n a b:=by
 unfold smlN
 split<;>split<;>simp only [ag4_l,ag4_r]
theorem zfw {n a b:Nat} (ha:a<2^n)(hb:b<2^n):a&&&(b^^^(2^n-1))=0↔Sub a b:=by
 rw [zau]
 constructor
 ·intro h i hi
  have:=h i hi
  rw [z4o hb] at this
  have hin:i<n:=by
   apply Nat.lt_of_not_le;intro h9
   rw [zg0 ha i h9] at hi;cases hi
  rw [decide_eq_true hin] at this
  simpa using this
 ·intro h i hi
  rw [z4o hb,h i hi];simp
theorem zna {n a b:Nat} (h1:1≤n)(hn:n≤8)(ha:a<2^n)(hb:b<2^n)(ha0:a.testBit 0=false)(hb0:b.testBit 0=false):ag4 n a b=agN a b:=by
 have h2n:2^n≤256:=Nat.pow_le_pow_right (n:=2) (by decide) hn
 rw [Bool.eq_iff_iff,zla (by omega) (by omega)]
 unfold ag4
 simp only [Bool.or_eq_true,decide_eq_true_eq]
 rw [zfw ha hb,Nat.and_comm (a^^^(2^n-1)) b,zfw hb ha,zau]
 constructor
 ·rintro (((h|h)|h)|h)
  ·exact .inl h
  ·exact .inr (.inl h)
  ·exact .inr (.inr h)
  ·have hc:=congrArg (fun x=>x.testBit 0) h
   simp only [Nat.testBit_and,z4o ha,z4o hb,ha0,hb0,Nat.zero_testBit] at hc
   rw [decide_eq_true (show 0<n by omega)] at hc
   cases hc
 ·rintro (h|h|h)
  ·exact .inl (.inl (.inl h))
  ·exact .inl (.inl (.inr h))
  ·exact .inl (.inr h)
theorem zax {n v:Nat} (h1:1≤n):(smlN n v).testBit 0=false:=by
 unfold smlN
 split
 ·rename_i h
  rw [Nat.testBit_xor,z9i,h,decide_eq_true (show 0<n by omega)];rfl
 ·rename_i h;simpa using h
theorem zl9 {n a b:Nat} (h1:1≤n)(hn:n≤8)(ha:a<2^n)(hb:b<2^n):agreeL n (memb a) (memb b)=agN (smlN n a) (smlN n b):=by
 have h2n:2^n≤256:=Nat.pow_le_pow_right (n:=2) (by decide) hn
 have hx:=zdd ha
 have hy:=zdd hb
 have e:agreeL n (memb a) (memb b)=ag4 n a b:=by
  unfold agreeL ag4
  rw [zdp hn ha,zdp hn hb,z7t (by omega) (by omega),z7t (by omega) (by omega),z7t (by omega) (by omega),z7t (by omega) (by omega)]
 rw [e,←zp8,zna h1 hn (z1o ha) (z1o hb) (zax h1) (zax h1)]
theorem c72M (n:Nat)(h1:1≤n)(hn:n≤8)(a b:Nat)(ha:a<2^n)(hb:b<2^n)(st:St):run L 72 [J n,tM a,tM b] st=some (B (agN (smlN n a) (smlN n b)),st):=by
 have hla:=z14 a
 have hlb:=z14 b
 have h:=c72 n hn true true (memb a) (memb b) (by omega) (by omega) st
 rw [zl9 h1 hn ha hb] at h
 exact h
end Go.Proofs.YtdnmhlfjafjkbaaGreatDoor.Vm
