/- What is proved: what each function of this program computes, as equations on the evaluator. No condition. -/
import Derived.Test.YtdnmhlfjafjkbaaGreatDoorC2
import Derived.Test.YtdnmhlfjafjkbaaGreatDoorT0
import Derived.KernelRfl
set_option linter.all false
namespace Go.Proofs.YtdnmhlfjafjkbaaGreatDoor.Vm
open Go Go.Ev
set_option maxRecDepth 100000
set_option maxHeartbeats 4000000
attribute [local go_sem] m_ x_ l_ k_ o_ t_ a_ s_ q_ b_ c_ u_ g_ z47 z0u z5h z21 z42 z0p z5d z1b z2d z0c z38 z20 z41 z0o z5c z24 z45 z0s z5f z1c z2e z0d z39 z1a z2c z0b z36 z23 z44 z0r z33 z66 z19 z81 z25 z46 z0t z5g z26 z0z z0v z5i z1z z40 z0n z5b z22 z43 z0q z5e z37 z27 z2l z8a z88 z89 z5n z3e z3i z3h z3g z3t z3u z4i z5q z8g z10 z49 z35 z1g z3c z3w z3y z63 z64 z62 z3z z2b z1d z58 z34 z2a z1h z0g z2f z1i z3b z85 z5j z1w z17 z1y pubs pub z6s params z2m z0a z1j z2p z3j z3v z8b untips untip z57 wantedAV setElems withO z8c z3p z3m z3l z5s z3o z3k z5r z3n List.replicate_succ List.replicate_zero opAV valAV aval avals ofVal Env.get setD canon gcAV renAll renEnv renStore renCells z6p cutSt okEnv okStore okRefs okRef z4g z8k z69 z8j z8h z8i z8l cellsEq cellEq isShift intOp boolOp z86 z87 z8m bne resAV tupAV z5o zak z74 fins zgc z8e z8f z73 zbv storeAV readCells putCells z65 z32 z18 fieldAddrAV zaf goI List.getElem?_cons_zero List.getElem?_cons_succ List.getElem?_nil Option.bind_some Option.map_some List.length_cons List.length_nil List.all_cons List.all_nil Bool.and_true Bool.true_and Bool.and_false Bool.false_and and_true true_and and_false false_and Bool.false_eq_true List.set_cons_zero List.set_cons_succ List.append_nil List.nil_append List.cons_append List.take_zero List.take_succ_cons List.take_nil List.drop_zero List.drop_succ_cons List.map_cons List.map_nil decide_true decide_false beq_self_eq_true Bool.not_true Bool.not_false or_true true_or or_false false_or Nat.zero_add Nat.add_zero Nat.le_refl Nat.lt_irrefl decide_eq_true_eq eq_self_iff_true not_true_eq_false not_false_eq_true List.getD_cons_zero z3x Nat.zero_le Nat.not_lt_zero Bool.true_beq Bool.false_beq beq_true beq_false ge_iff_le gt_iff_lt keepR keepT ownTop zgi pus Option.map_none z2h z2g z5w z3q z5v Int.cast_ofNat_Int Nat.mul_one Nat.zero_mul Int.toNat_natCast Int.toNat_zero setParts withO2 hasKey z60 z5k z3s z3d z1f z1e z0e z2n setm z6z z77 z6d zbi zc9 zf0 z8r z6k z56 z4a z94 z6v z6j z4q z7a z55 z8w z6l z4y z3f z96 z6w z9n z51 z52 z71 z31 z8o z6i z6h z8p Option.bind_none Bool.not_eq_true' decide_eq_false_iff_not Bool.and_eq_true Bool.or_eq_true Option.some.injEq Int.not_lt Int.not_le
attribute [local go_sem_proc] reduceIte Nat.reduceEqDiff Nat.reduceAdd Nat.reduceSub Nat.reduceLeDiff Nat.reduceLT reduceCtorEq Int.reduceLT Int.reduceLE Int.reduceEq Int.reduceBEq Int.reduceSub Int.reduceAdd Int.reduceMul Int.reduceNeg Int.reduceToNat Nat.reduceMul Nat.reduceBEq
attribute [local go_sem] m_ x_ l_ k_ o_ t_ a_ s_ q_ b_ c_ u_ g_ zk z9 zf zm z09 z08 zd zi zh z6 zg z07 z00 z0m z0k zp z0j z4f
theorem zo6: ∀n:Fin 9,pc (2^n.val-1)=n.val:=by decide
theorem zmn {n v:Nat} (hn:n≤8)(hv:v<2^n):(memb v).length=n↔v=2^n-1:=by
 have h2n:2^n≤256:=Nat.pow_le_pow_right (n:=2) (by decide) hn
 have hp:=Nat.two_pow_pos n
 have hf:pc (2^n-1)=n:=zo6 ⟨n,by omega⟩
 constructor
 ·intro h
  have hs:Sub v (2^n-1):=fun i hi=>by
   rw [z9i,decide_eq_true_eq]
   apply Nat.lt_of_not_le;intro h9
   rw [zg0 hv i h9] at hi;cases hi
  apply zjs (by omega) (by omega) hs
  rw [hf];exact Nat.le_of_eq h.symm
 ·intro h
  subst h;exact hf
theorem zli {n v:Nat} (h1:1≤n)(h0:v≠0):smlN n v=0↔v=2^n-1:=by
 constructor
 ·intro h
  apply Classical.byContradiction;intro hne
  exact zja h0 hne h
 ·rintro rfl
  unfold smlN
  rw [if_pos (by rw [z9i];simp;omega),Nat.xor_self]
theorem zmc (n:Nat)(h1n:1≤n)(hn:n≤8)(nl:Bool)(G:List GS)(l:List Int)(hlen:l.length<1000)(k:Nat)(i:Nat)(hok:i≤l.length)(env:Env)(st:St)
  (hg:gcAV true 0 0 (canon env [0,1,5,6,7]) st=([(0,J n),(1,sl 1 nl (G.map gM)),(5,J k),(6,tAV l),(7,J i)],⟨[],[]⟩)):
  ∃x_1 en s,lim (headed pure (run L) true [0,1,5,6,7] lp48_0 0 0) env st=some (x_1,en,s)∧((rowAt n l i=0∧x_1=.exit 2∧en.get 0=J n∧en.get 1=sl 1 nl (G.map gM)∧en.get 5=J k∧en.get 6=tAV l∧s=⟨[],[]⟩)∨(rowAt n l i≠0∧x_1=.ret∧en.get 4=I (rowAt n l i))):=by
 refine zb (α:=Nat) (fun i=>l.length-i) (fun i=>i≤l.length) (fun i=>([(0,J n),(1,sl 1 nl (G.map gM)),(5,J k),(6,tAV l),(7,J i)],⟨[],[]⟩)) (fun i x_1 en s=>(rowAt n l i=0∧x_1=.exit 2∧en.get 0=J n∧en.get 1=sl 1 nl (G.map gM)∧en.get 5=J k∧en.get 6=tAV l∧s=⟨[],[]⟩)∨(rowAt n l i≠0∧x_1=.ret∧en.get 4=I (rowAt n l i))) (fun i hok=> ?_) i hok env st hg
 have hll:lenAV (tAV l)=some (J l.length):=zq I true l
 by_cases h:i<l.length
 ·have hs:=zj i (by omega)
  have hx:indexSAV 1 (tAV l) (.v (.int .i64 (i:Int)))=some (.eptr (I l[i]) 0):=zl true l i h
  have hlt:((i:Int)<(l.length:Int))=True:=eT (by omega)
  have hst:=z9x n l i h
  have hn1:IntKind.i64.wrap ((n:Int)-1)=(n:Int)-1:=by rw [z04]<;>omega
  have h98:=fun a st=>c98 a 0 ((n:Int)-1) st
  rw [hst]
  by_cases q1:l[i]<0∨(n:Int)≤l[i]
  ·rw [if_pos q1]
   have h98:=fun st=>h98 l[i] st
   rw [decide_eq_false (by omega)] at h98
   simp only [go_sem,lp48_0,hll,hlt,hs,hx,hn1,h98]
   decide
  ·rw [if_neg q1]
   have h98:=fun st=>h98 l[i] st
   rw [decide_eq_true (by omega)] at h98
   by_cases h0:0<i
   ·have q3:((0:Int)<(i:Int))=True:=eT (by omega)
    have hm:IntKind.i64.wrap ((i:Int)-1)=((i-1:Nat):Int):=by
     rw [←w64 (i-1) (by omega)];congr 1;omega
    have hx2:indexSAV 1 (tAV l) (.v (.int .i64 ((i-1:Nat):Int)))=some (.eptr (I (l[i-1]'(by omega))) 0):=zl true l (i-1) (by omega)
    rw [if_neg (show ¬i=0 by omega),List.getElem?_eq_getElem (show i-1<l.length by omega)]
    generalize l[i-1]'(by omega)=b at*
    generalize l[i]=a at*
    have hpb:prevB (some b) a=decide (a≤b):=rfl
    rw [hpb]
    by_cases q4:a≤b
    ·rw [if_pos (by simpa using q4)]
     simp only [go_sem,lp48_0,hll,hlt,hs,hx,hn1,h98,q3,hm,hx2,q4]
     decide
    ·rw [if_neg (by simpa using q4)]
     simp only [go_sem,lp48_0,hll,hlt,hs,hx,hn1,h98,q3,hm,hx2,q4]
     refine ⟨i+1,by simp only [go_sem,z3,z4,z5,zt]<;>rfl,?_,?_,fun x en s hq=> ?_⟩
     ·omega
     ·omega
     ·exact hq
   ·have q3:((0:Int)<(i:Int))=False:=eF (by omega)
    rw [if_pos (show i=0 by omega)]
    generalize l[i]=a at*
    have hpb:prevB none a=false:=rfl
    rw [hpb,if_neg (by simp)]
    simp only [go_sem,lp48_0,hll,hlt,hs,hx,hn1,h98,q3]
    refine ⟨i+1,by simp only [go_sem,z3,z4,z5,zt]<;>rfl,?_,?_,fun x en s hq=> ?_⟩
    ·omega
    ·omega
    ·exact hq
 ·have hlt:((i:Int)<(l.length:Int))=False:=eF (by omega)
  rw [zb6 n l i h]
  simp only [go_sem,lp48_0,hll,hlt]
theorem zdl (n:Nat)(tips:List Nat)(v:Nat)(acc:List (Nat×Nat)):ren1 n tips acc (tM v)=(tM v,acc):=zt _ _ _ _
theorem zaq (n v:Nat):okRef n (tM v)=true:=zg _ _
theorem zlg {G:List GS} {X:List Nat} {i:Nat} (h:(G.take i).map gM=X.map tM)(hX:X.length=i) {j:Nat} (hj:j<i)(hg:j<G.length):gM G[j]=tM (X[j]'(by omega)):=by
 have e:=congrArg (fun l:List AV=>l[j]?) h
 simp only [List.getElem?_map,List.getElem?_take,if_pos hj] at e
 rw [List.getElem?_eq_getElem hg,List.getElem?_eq_getElem (show j<X.length by omega)] at e
 simpa using e
theorem zmb (n:Nat)(h1n:1≤n)(hn:n≤8)(nl:Bool)(G:List GS)(hGl:G.length≤13)(v:Nat)(hv:v<2^n)(X:List Nat)(hX: ∀x∈X,x<2^n)(i:Nat)(hi:i<G.length)(hXl:X.length=i)(hGX:(G.take i).map gM=X.map tM)(j:Nat)(hok:j≤i)(env:Env)(st:St)
  (hg:gcAV true 0 0 (canon env [0,1,5,6,8]) st=([(0,J n),(1,sl 1 nl (G.map gM)),(5,J i),(6,tM v),(8,J j)],⟨[],[]⟩)):
  ∃x_1 en s,lim (headed pure (run L) true [0,1,5,6,8] lp48_1 0 0) env st=some (x_1,en,s)∧(if smlN n v∈(X.map (smlN n)).drop j then x_1=.ret∧en.get 4=I 6 else (x_1=.exit 4∧en.get 0=J n∧en.get 1=sl 1 nl (G.map gM)∧en.get 5=J i∧s=⟨[],[]⟩)):=by
 refine zb (α:=Nat) (fun j=>i-j) (fun j=>j≤i) (fun j=>([(0,J n),(1,sl 1 nl (G.map gM)),(5,J i),(6,tM v),(8,J j)],⟨[],[]⟩)) (fun j x_1 en s=>if smlN n v∈(X.map (smlN n)).drop j then x_1=.ret∧en.get 4=I 6 else (x_1=.exit 4∧en.get 0=J n∧en.get 1=sl 1 nl (G.map gM)∧en.get 5=J i∧s=⟨[],[]⟩)) (fun j hok=> ?_) j hok env st hg
 by_cases h:j<i
 ·have hs:=zj j (by omega)
  have hlt:((j:Int)<(i:Int))=True:=eT (by omega)
  have hx:=z0l gM nl G j (by omega)
  have hget:=zlg hGX hXl h (by omega)
  rw [hget] at hx
  have h2n:2^n≤256:=Nat.pow_le_pow_right (n:=2) (by decide) hn
  have hxl:=hX (X[j]'(by omega)) (List.getElem_mem _)
  have hd:(X.map (smlN n)).drop j=smlN n (X[j]'(by omega))::(X.map (smlN n)).drop (j+1):=by
   rw [List.drop_eq_getElem_cons (by rw [lm_];omega),List.getElem_map]
  rw [hd]
  generalize X[j]'(by omega)=x at*
  have ha:=fun st=>zp3 n hn v hv st
  have hb:=fun st=>zp3 n hn x hxl st
  have l1:=z1o hv
  have l2:=z1o hxl
  have hc:=fun st=>c87M (smlN n v) (smlN n x) (by omega) (by omega) st
  by_cases p:smlN n v=smlN n x
  ·rw [decide_eq_true p] at hc
   have hin:(smlN n v∈smlN n x::(X.map (smlN n)).drop (j+1))=True:=eT (by rw [p];exact List.mem_cons_self)
   simp only [go_sem,lp48_1,hlt,hx,ha,hb,hc,hin]
  ·rw [decide_eq_false p] at hc
   have e:(smlN n v∈smlN n x::(X.map (smlN n)).drop (j+1))=(smlN n v∈(X.map (smlN n)).drop (j+1)):=by
    rw [List.mem_cons];exact propext ⟨fun h=>h.resolve_left p,fun h=> .inr h⟩
   simp only [e]
   simp only [go_sem,lp48_1,hlt,hx,ha,hb,hc,hs]
   refine ⟨j+1,by simp only [go_sem,z3,z4,z5,zdl,zaq]<;>rfl,?_,?_,fun x en s hq=> ?_⟩
   ·omega
   ·omega
   ·exact hq
 ·have e:(X.map (smlN n)).drop j=[]:=List.drop_eq_nil_of_le (by rw [lm_];omega)
  have hlt:((j:Int)<(i:Int))=False:=eF (by omega)
  have hin:(smlN n v∈([]:List Nat))=False:=eF (by simp)
  rw [e]
  simp only [go_sem,lp48_1,hlt,hin]
theorem zma (n:Nat)(h1n:1≤n)(hn:n≤8)(nl:Bool)(G:List GS)(hG: ∀p∈G,p.2.length<1000)(hGl:G.length≤13)(i:Nat)(X:List Nat)(hok:i≤G.length∧X.length=i∧(∀x∈X,x<2^n)∧(G.take i).map gM=X.map tM)(env:Env)(st:St)
  (hg:gcAV true 0 0 (canon env [0,1,5]) st=([(0,J n),(1,sl 1 nl (G.map gM)),(5,J i)],⟨[],[]⟩)):
  ∃x_1 en s,lim (headed pure (run L) true [0,1,5] lp48_2 0 0) env st=some (x_1,en,s)∧(((openS n (G.drop i) (X.map (smlN n))).1=0∧x_1=.exit 0)∨((openS n (G.drop i) (X.map (smlN n))).1≠0∧x_1=.ret∧en.get 4=I (openS n (G.drop i) (X.map (smlN n))).1)):=by
 refine zb (α:=Nat×List Nat) (fun ⟨i,X⟩=>G.length-i) (fun ⟨i,X⟩=>i≤G.length∧X.length=i∧(∀x∈X,x<2^n)∧(G.take i).map gM=X.map tM) (fun ⟨i,X⟩=>([(0,J n),(1,sl 1 nl (G.map gM)),(5,J i)],⟨[],[]⟩)) (fun ⟨i,X⟩ x_1 en s=>((openS n (G.drop i) (X.map (smlN n))).1=0∧x_1=.exit 0)∨((openS n (G.drop i) (X.map (smlN n))).1≠0∧x_1=.ret∧en.get 4=I (openS n (G.drop i) (X.map (smlN n))).1)) (fun ⟨i,X⟩ hok=> ?_) ⟨i,X⟩ hok env st hg
 simp only at hok
 obtain ⟨h1,hXl,h3,h4⟩:=hok
 dsimp only at h1 hXl h3 h4⊢
 have hGn:lenAV (sl 1 nl (G.map gM))=some (J G.length):=zq gM nl G
 by_cases h:i<G.length
 ·have hs:=zj i (by omega)
  have hlt:((i:Int)<(G.length:Int))=True:=eT (by omega)
  have hx:=z0l gM nl G i h
  have hgl:=hG G[i] (List.getElem_mem h)
  have hd:G.drop i=G[i]::G.drop (i+1):=List.drop_eq_getElem_cons h
  have hT:(G.take (i+1)).map gM=X.map tM++ [gM G[i]]:=by
   rw [List.take_succ,List.getElem?_eq_getElem h,List.map_append,h4];rfl
  rw [hd]
  generalize G[i]=p at*
  obtain ⟨b,l⟩:=p
  dsimp only at hgl
  have h2n:2^n≤256:=Nat.pow_le_pow_right (n:=2) (by decide) hn
  have hos:openS n ((b,l)::G.drop (i+1)) (X.map (smlN n))=if sideE n l≠0 then (sideE n l,X.map (smlN n)) else if smlN n (maskL l)=0 then (5,X.map (smlN n)) else if smlN n (maskL l)∈X.map (smlN n) then (6,X.map (smlN n)) else openS n (G.drop (i+1)) (X.map (smlN n)++ [smlN n (maskL l)]):=rfl
  rw [hos]
  by_cases hne:l=[]
  ·have hse:sideE n l=4:=by unfold sideE;rw [if_pos hne]
   rw [hse,if_pos (by decide)]
   subst hne
   have hll0:lenAV (gM (b,[]))=some (I 0):=by cases b<;>rfl
   simp only [go_sem,lp48_2,hGn,hlt,hx,hll0]
   decide
  ·have hgm:=zkq b hne
   rw [hgm] at hx hT
   have hll:lenAV (tAV l)=some (J l.length):=zq I true l
   have hl0:((l.length:Int)=0)=False:=eF (by have:=List.length_pos_iff.2 hne;omega)
   have hse:sideE n l=rowAt n l 0:=by unfold sideE rowAt;rw [if_neg hne,if_pos rfl,List.drop_zero]
   rw [hse]
   simp only [go_sem,lp48_2,hGn,hlt,hx,hll,hl0]
   generalize hg:lim (headed pure (run L) true _ lp48_0 _ _) _ _=o
   obtain ⟨x,en,s,rfl,h2⟩: ∃x en s,o=some (x,en,s)∧_:=by rw [←hg];exact zmc n h1n hn nl G l (by omega) i 0 (by omega) _ _ (by simp only [go_sem,Int.natCast_zero,zt]<;>rfl)
   clear hg
   rcases h2 with ⟨er,rfl,e0,e1,e5,e6,rfl⟩ | ⟨er,rfl,e4⟩
   ·rw [if_neg (by simpa using er)]
    have hrow:rowE n none l=0:=by
     have e:=hse.trans er
     unfold sideE at e
     rwa [if_neg hne] at e
    have hl2:=zbj hn hrow
    have hvl:=zds (zcj l none hrow).1
    have hv0:=zk4 (fun a ha=>((zcj l none hrow).1 a ha).1) hne
    have hlf:=zmn hn hvl
    have hz:=zli (n:=n) h1n hv0
    rw [hl2] at hlf
    generalize maskL l=v at*
    have htm:tAV l=tM v:=by unfold tM;rw [hl2]
    rw [htm] at e6 hll hT
    by_cases hf:v=2^n-1
    ·rw [if_pos (hz.2 hf)]
     have q:((l.length:Int)=(n:Int))=True:=eT (by rw [hlf.2 hf])
     simp only [go_sem,lp48_2,e0,e1,e5,e6,hll,q]
     decide
    ·rw [if_neg (fun e=>hf (hz.1 e))]
     have q:((l.length:Int)=(n:Int))=False:=eF (fun e=>hf (hlf.1 (by omega)))
     simp only [go_sem,lp48_2,e0,e1,e5,e6,hll,q]
     generalize hg:lim (headed pure (run L) true _ lp48_1 _ _) _ _=o
     obtain ⟨x,en,s,rfl,h2⟩: ∃x en s,o=some (x,en,s)∧_:=by rw [←hg];exact zmb n h1n hn nl G hGl v hvl X h3 i h hXl h4 0 (by omega) _ _ (by simp only [go_sem,Int.natCast_zero,zdl,zaq,e0,e1,e5,e6]<;>rfl)
     clear hg
     rw [List.drop_zero] at h2
     by_cases hin:smlN n v∈X.map (smlN n)
     ·rw [if_pos hin] at h2⊢
      obtain ⟨rfl,e4⟩:=h2
      simp only [go_sem,lp48_2,e4]
      decide
     ·rw [if_neg hin] at h2⊢
      obtain ⟨rfl,e0,e1,e5,rfl⟩:=h2
      simp only [go_sem,lp48_2,e0,e1,e5,hs]
      refine ⟨(i+1,X++ [v]),by simp only [go_sem,z3,z4,z5,e0,e1,e5]<;>rfl,?_,?_,fun x en s hq=> ?_⟩
      ·dsimp only
       refine ⟨by omega,by rw [List.length_append,List.length_singleton];omega,?_,?_⟩
       ·intro x hx
        rcases List.mem_append.1 hx with hx|hx
        ·exact h3 x hx
        ·rw [List.mem_singleton] at hx;subst hx;exact hvl
       ·rw [hT,List.map_append];rfl
      ·dsimp only;omega
      ·rw [List.map_append] at hq;exact hq
   ·rw [if_pos (by simpa using er)]
    simp only [go_sem,lp48_2,e4]
    exact er
 ·have e:G.drop i=[]:=List.drop_eq_nil_of_le (by omega)
  have hlt:((i:Int)<(G.length:Int))=False:=eF (by omega)
  rw [e,show openS n [] (X.map (smlN n))=(0,X.map (smlN n)) from rfl]
  simp only [go_sem,lp48_2,hGn,hlt]
theorem c48 (n:Int)(nl:Bool)(G:List GS)(hG: ∀p∈G,p.2.length<1000)(hGl:G.length<1000)(st:St):run L 48 [I n,sl 1 nl (G.map gM)] st=some (I (openG n G).1,st):=by
 rw [run_pure (fn:=ir48) rfl rfl]
 have h98:=fun st=>c98 n 2 8 st
 have hGn:lenAV (sl 1 nl (G.map gM))=some (J G.length):=zq gM nl G
 unfold openG
 by_cases q1:n<2∨8<n
 ·rw [if_pos q1]
  rw [decide_eq_false (by omega)] at h98
  simp only [ir48,go_sem,h98]
 ·rw [if_neg q1]
  rw [decide_eq_true (by omega)] at h98
  obtain ⟨m,rfl⟩:=Int.eq_ofNat_of_zero_le (show 0≤n by omega)
  by_cases q3:13<G.length
  ·rw [if_pos q3]
   have q3:((13:Int)<(G.length:Int))=True:=eT (by omega)
   simp only [ir48,go_sem,h98,hGn,q3]
  ·rw [if_neg q3]
   have q3:((13:Int)<(G.length:Int))=False:=eF (by omega)
   have hto:((m:Int)).toNat=m:=rfl
   rw [hto]
   simp only [ir48,go_sem,h98,hGn,q3]
   generalize hg:lim (headed pure (run L) true _ lp48_2 _ _) _ _=o
   obtain ⟨x,en,s,rfl,h2⟩: ∃x en s,o=some (x,en,s)∧_:=by rw [←hg];exact zma m (by omega) (by omega) nl G hG (by omega) 0 [] ⟨by omega,rfl,by simp,rfl⟩ _ _ (by simp only [go_sem,Int.natCast_zero]<;>rfl)
   clear hg
   rw [List.drop_zero,List.map_nil] at h2
   rcases h2 with ⟨h0,rfl⟩ | ⟨h0,rfl,e4⟩
   ·simp only [go_sem,h0]
   ·simp only [go_sem,e4]
attribute [local go_sem] m_ x_ l_ k_ o_ t_ a_ s_ q_ b_ c_ u_ g_ zk z9 zf zm z09 z08 zd zi zh z6 zg z07 z00 z0m z0k zp z0j z4f
theorem z4r (k:Nat): ∀N:List (List Nat),shStore k (N.map fun l=>l.map u8)=N.map fun l=>l.map u8
 | []=>rfl
 |l::r=>by simp only [List.map_cons,shStore,zay,z4r k r]
theorem onB2 (env:Env)(t u:Tmp)(l o:Nat):onB env [t,u] (.ptr l o)=(isP l (env.get t)||isP l (env.get u)):=by
 show ([t,u].any fun t=>match env.get t with| .ptr l' _=>l'==l|_=>false)=_
 rw [List.any_cons,List.any_cons,List.any_nil,Bool.or_false];rfl
theorem zjz (env:Env)(t u:Tmp)(l o:Nat):offB env [t,u] (.ptr l o)=(notP l (env.get t)&&notP l (env.get u)):=by
 show ([t,u].all fun t=>match env.get t with| .ptr l' _=>l' !=l|_=>true)=_
 rw [List.all_cons,List.all_cons,List.all_nil,Bool.and_true];rfl
section
variable {n:Int} {nl:Bool} {G:List GS} (hG: ∀p∈G,p.2.length<1000) (hGl:G.length<1000) (he:(openG n G).1≠0)
include hG hGl he
theorem c70e: ∃N:List (List Nat),N.length≤2∧run L 70 [I n,sl 1 nl (G.map gM)] ⟨[],[]⟩=some (.tup [.v (.slice none 0 0),I (openG n G).1],⟨N.map (fun l=>l.map u8),[]⟩):=by
 rcases c70G n nl G hG hGl with ⟨h,_⟩ | ⟨_,h⟩
 ·exact absurd h he
 ·exact h
theorem c89e (i j:Int)(st:St):run L 89 [I n,sl 1 nl (G.map gM),I i,I j] st=some (.tup [E8 0,E8 0,I (openG n G).1],st):=by
 rw [run_pure (fn:=ir89) rfl rfl]
 obtain ⟨N,hN,h70⟩:=c70e (nl:=nl) hG hGl he
 have hs0: ∀R T,sameSt ⟨[u8 0]:: [u8 0]::R,T⟩ (.ptr 0 0) (.agg [u8 0])=true:=fun R T=>rfl
 have hs1: ∀R T,sameSt ⟨[u8 0]:: [u8 0]::R,T⟩ (.ptr 1 0) (.agg [u8 0])=true:=fun R T=>rfl
 simp only [ir89,go_sem,hs0,hs1,h70,show pure 70=false from rfl,z4r,shV,shVs,he,onB2,zjz,onB1,zi7,zib,za5,z7i,z7j,Bool.or_false,Bool.or_true,Bool.true_or,Bool.false_or,show AV.v (.int .u8 0)=u8 0 from rfl]
theorem c24e (i j:Int)(st:St):run L 24 [I n,sl 1 nl (G.map gM),I i,I j] st=some (I (openG n G).1,st):=by
 rw [run_pure (fn:=ir24) rfl rfl]
 have h89:=fun st=>c89e (nl:=nl) hG hGl he i j st
 simp only [ir24,go_sem,h89,he]
theorem c16e (st:St):run L 16 [I n,sl 1 nl (G.map gM)] st=some (.tup [I 0,I 0,I (openG n G).1],st):=by
 rw [run_pure (fn:=ir16) rfl rfl]
 obtain ⟨N,hN,h70⟩:=c70e (nl:=nl) hG hGl he
 simp only [ir16,go_sem,h70,show pure 70=false from rfl,z4r,shV,shVs,he]
theorem c18e (st:St):run L 18 [I n,sl 1 nl (G.map gM)] st=some (.tup [.v (.slice none 0 0),I (openG n G).1],st):=by
 rw [run_pure (fn:=ir18) rfl rfl]
 obtain ⟨N,hN,h70⟩:=c70e (nl:=nl) hG hGl he
 simp only [ir18,go_sem,h70,show pure 70=false from rfl,z4r,shV,shVs,he]
theorem c79e: ∃N:List (List Nat),N.length≤2∧run L 79 [I n,sl 1 nl (G.map gM)] ⟨[],[]⟩=some (.tup [.v (.slice none 0 0),I (openG n G).1],⟨N.map (fun l=>l.map u8),[]⟩):=by
 rw [zc (fn:=ir79) rfl rfl]
 obtain ⟨N,hN,h70⟩:=c70e (nl:=nl) hG hGl he
 refine ⟨N,hN,?_⟩
 simp only [ir79,go_sem,h70,show pure 70=false from rfl,z4r,shV,shVs,he]
theorem c20e (st:St):run L 20 [I n,sl 1 nl (G.map gM)] st=some (.tup [.v (.slice none 0 0),I (openG n G).1],st):=by
 rw [run_pure (fn:=ir20) rfl rfl]
 obtain ⟨N,hN,h79⟩:=c79e (nl:=nl) hG hGl he
 simp only [ir20,go_sem,h79,show pure 79=false from rfl,z4r,shV,shVs,he]
end
attribute [local go_sem] m_ x_ l_ k_ o_ t_ a_ s_ q_ b_ c_ u_ g_ zk z9 zf zm z09 z08 zd zi zh z6 zg z07 z00 z0m z0k zp z0j z4f
theorem zom (n1 n2:Bool)(xs ys:List Int)(hlen:xs.length<1000000)(i:Nat)(hok:i≤xs.length∧i≤ys.length)(env:Env)(st:St)
  (hg:gcAV true 0 0 (canon env [0,1,5]) st=([(0,sl 1 n1 (xs.map I)),(1,sl 1 n2 (ys.map I)),(5,I i)],⟨[],[]⟩)):
  ∃x_1 en s,lim (headed pure (run L) true [0,1,5] lp101_0 0 0) env st=some (x_1,en,s)∧((x_1=.exit 0∧en.get 0=sl 1 n1 (xs.map I)∧en.get 1=sl 1 n2 (ys.map I)∧lexLt (xs.drop i) (ys.drop i)=decide (xs.length<ys.length))∨(x_1=.ret∧en.get 4=B (lexLt (xs.drop i) (ys.drop i)))):=by
 refine zb (α:=Nat) (fun i=>xs.length-i) (fun i=>i≤xs.length∧i≤ys.length) (fun i=>([(0,sl 1 n1 (xs.map I)),(1,sl 1 n2 (ys.map I)),(5,I i)],⟨[],[]⟩)) (fun i x_1 en s=>(x_1=.exit 0∧en.get 0=sl 1 n1 (xs.map I)∧en.get 1=sl 1 n2 (ys.map I)∧lexLt (xs.drop i) (ys.drop i)=decide (xs.length<ys.length))∨(x_1=.ret∧en.get 4=B (lexLt (xs.drop i) (ys.drop i)))) (fun i hok=> ?_) i hok env st hg
 obtain ⟨hok1,hok2⟩:=hok
 by_cases h:i<xs.length
 ·have hx:=zl n1 xs i h
  have hs:=zj i (by omega)
  have hd:xs.drop i=xs[i]::xs.drop (i+1):=List.drop_eq_getElem_cons h
  have hlt:((i:Int)<(xs.length:Int))=True:=eT (by omega)
  rw [hd]
  by_cases h2:i<ys.length
  ·have hy:=zl n2 ys i h2
   have hd2:ys.drop i=ys[i]::ys.drop (i+1):=List.drop_eq_getElem_cons h2
   have hlt2:((i:Int)<(ys.length:Int))=True:=eT (by omega)
   rw [hd2]
   generalize xs[i]=a at*
   generalize ys[i]=b at*
   have hcn:lexLt (a::xs.drop (i+1)) (b::ys.drop (i+1))=(decide (a<b)||(decide (a=b)&&lexLt (xs.drop (i+1)) (ys.drop (i+1)))):=rfl
   rw [hcn]
   by_cases p:a=b
   ·subst p
    have q:((a:Int)=a)=True:=eT rfl
    have e:(decide (a<a)||(decide (a=a)&&lexLt (xs.drop (i+1)) (ys.drop (i+1))))=lexLt (xs.drop (i+1)) (ys.drop (i+1)):=by simp
    rw [e]
    simp only [go_sem,lp101_0,hx,hy,hlt,hlt2,hs,lm_]
    refine ⟨i+1,by simp only [go_sem,z3,z4,z5]<;>rfl,?_,?_,fun x en s hq=> ?_⟩
    ·omega
    ·omega
    ·exact hq
   ·rw [decide_eq_false p,Bool.false_and,Bool.or_false]
    by_cases p1:a<b
    ·rw [decide_eq_true p1]
     simp only [go_sem,lp101_0,hx,hy,hlt,hlt2,p,p1,lm_]
    ·rw [decide_eq_false p1]
     simp only [go_sem,lp101_0,hx,hy,hlt,hlt2,p,p1,lm_]
  ·have hd2:ys.drop i=[]:=List.drop_eq_nil_of_le (by omega)
   have hlt2:((i:Int)<(ys.length:Int))=False:=eF (by omega)
   have hc:xs.length<ys.length↔False:=⟨fun h=>by omega,fun h=>h.elim⟩
   rw [hd2]
   generalize xs[i]=a at*
   have hcn:lexLt (a::xs.drop (i+1)) []=false:=rfl
   rw [hcn]
   simp only [hc]
   simp only [go_sem,lp101_0,hx,hlt,hlt2,lm_]
 ·have hd:xs.drop i=[]:=List.drop_eq_nil_of_le (by omega)
  have hlt:((i:Int)<(xs.length:Int))=False:=eF (by omega)
  have hi:i=xs.length:=by omega
  have hcn:lexLt [] (ys.drop i)=decide (xs.length<ys.length):=by
   by_cases h2:i<ys.length
   ·rw [List.drop_eq_getElem_cons h2,decide_eq_true (by omega)];rfl
   ·rw [List.drop_eq_nil_of_le (by omega),decide_eq_false (by omega)];rfl
  rw [hd,hcn]
  simp only [go_sem,lp101_0,hlt,lm_]
theorem c101 (n1 n2:Bool)(xs ys:List Int)(hlen:xs.length<1000000)(st:St):run L 101 [sl 1 n1 (xs.map I),sl 1 n2 (ys.map I)] st=some (B (lexLt xs ys),st):=by
 rw [run_pure (fn:=ir101) rfl rfl]
 simp only [ir101,go_sem]
 generalize hg:lim (headed pure (run L) true _ lp101_0 _ _) _ _=o
 obtain ⟨x,en,s,rfl,h2⟩: ∃x en s,o=some (x,en,s)∧_:=by rw [←hg];exact zom n1 n2 xs ys hlen 0 ⟨by omega,by omega⟩ _ _ (by simp only [go_sem,Int.natCast_zero]<;>rfl)
 clear hg
 simp only [List.drop_zero] at h2
 rcases h2 with ⟨rfl,e0,e1,h5⟩ | ⟨rfl,h3⟩
 ·rw [h5]
  by_cases p:xs.length<ys.length
  ·have q:((xs.length:Int)<(ys.length:Int))=True:=eT (by omega)
   simp only [go_sem,e0,e1,q,lm_,p]
  ·have q:((xs.length:Int)<(ys.length:Int))=False:=eF (by omega)
   simp only [go_sem,e0,e1,q,lm_,p]
 ·simp only [go_sem,h3]
def lexM (a b:Nat):Bool:=lexLt (memb a) (memb b)
def atM (x:Nat):List Nat→Nat
 | []=>0
 |a::r=>if lexM a x=true then atM x r+1 else 0
def putM (x:Nat):List Nat→List Nat
 | []=> [x]
 |a::r=>if lexM a x=true then a::putM x r else x::a::r
theorem znh (x:Nat): ∀l,atM x l≤l.length
 | []=>Nat.le_refl _
 |a::r=>by
  have:=znh x r
  unfold atM
  split
  ·rw [List.length_cons];omega
  ·exact Nat.zero_le _
theorem zjo (x:Nat): ∀l,putM x l=l.take (atM x l)++x::l.drop (atM x l)
 | []=>rfl
 |a::r=>by
  unfold putM atM
  split
  ·rw [zjo x r];rfl
  ·rfl
theorem zn5 (x:Nat)(l:List Nat)(i:Nat)(h:i<l.length):atM x (l.drop i)=if lexM l[i] x=true then atM x (l.drop (i+1))+1 else 0:=by
 rw [List.drop_eq_getElem_cons h];rfl
theorem loop88 (nl:Bool)(l:List Nat)(hlen:l.length<1000)(y:Nat)(i:Nat)(hok:i≤l.length)(env:Env)(st:St)
  (hg:gcAV true 0 0 (canon env [0,1,5]) st=([(0,sl 1 nl (l.map tM)),(1,tM y),(5,J i)],⟨[],[]⟩)):
  ∃x_1 en s,lim (headed pure (run L) true [0,1,5] lp88_0 0 0) env st=some (x_1,en,s)∧(x_1=.exit 0∧en.get 0=sl 1 nl (l.map tM)∧en.get 1=tM y∧en.get 5=J (i+atM y (l.drop i))∧s=⟨[],[]⟩):=by
 refine zb (α:=Nat) (fun i=>l.length-i) (fun i=>i≤l.length) (fun i=>([(0,sl 1 nl (l.map tM)),(1,tM y),(5,J i)],⟨[],[]⟩)) (fun i x_1 en s=>x_1=.exit 0∧en.get 0=sl 1 nl (l.map tM)∧en.get 1=tM y∧en.get 5=J (i+atM y (l.drop i))∧s=⟨[],[]⟩) (fun i hok=> ?_) i hok env st hg
 have hll:=zq tM nl l
 by_cases h:i<l.length
 ·have hs:=zj i (by omega)
  have hlt:((i:Int)<(l.length:Int))=True:=eT (by omega)
  have hx:=z0l tM nl l i h
  have hst:=zn5 y l i h
  rw [hst]
  generalize l[i]=a at*
  have hm:=z14 a
  have hc: ∀st,run L 101 [tM a,tM y] st=some (B (lexM a y),st):=fun st=>c101 true true (memb a) (memb y) (by omega) st
  cases hb:lexM a y with
  |true=>
   rw [hb] at hc
   rw [if_pos rfl]
   simp only [go_sem,lp88_0,hll,hlt,hs,hx,hc]
   refine ⟨i+1,by simp only [go_sem,z3,z4,z5,zdl,zaq]<;>rfl,?_,?_,fun x en s hq=> ?_⟩
   ·omega
   ·omega
   ·rw [show i+(atM y (l.drop (i+1))+1)=i+1+atM y (l.drop (i+1)) by omega];exact hq
  |false=>
   rw [hb] at hc
   rw [if_neg (by simp),Nat.add_zero]
   simp only [go_sem,lp88_0,hll,hlt,hs,hx,hc]
 ·have e:l.drop i=[]:=List.drop_eq_nil_of_le (by omega)
  have hlt:((i:Int)<(l.length:Int))=False:=eF (by omega)
  rw [e,show atM y []=0 from rfl,Nat.add_zero]
  simp only [go_sem,lp88_0,hll,hlt]
theorem zhv {α:Type} (f:α→AV)(nl:Bool)(l:List α)(k:Nat)(h:k≤l.length): ∃n2,sliceAV 1 (sl 1 nl (l.map f)) none (some (J k)) none=some (sl 1 n2 ((l.take k).map f)):=by
 have key: ∀xs:List AV,k≤xs.length→sliceAV 1 (.lst .any 1 xs) none (some (J k)) none=some (.lst .any 1 (xs.take k)):=by
  intro xs hx
  have h0:(0:Int)≤((k:Nat):Int):=by omega
  simp only [sliceAV,natOr,natOf,tagSlice,if_pos h0,Int.toNat_natCast]
  simp [hx]
 cases l with
 |nil=>
  have:k=0:=by simpa using h
  subst this
  cases nl
  ·exact ⟨false,key [] (by simp)⟩
  ·exact ⟨true,rfl⟩
 |cons x r=>
  have e:sl 1 nl ((x::r).map f)=.lst .any 1 ((x::r).map f):=z7z (by simp)
  rw [e,key _ (by simpa using h),←List.map_take]
  exact ⟨false,rfl⟩
theorem zhw {α:Type} (f:α→AV)(nl:Bool)(l:List α)(k:Nat)(h:k≤l.length): ∃n2,sliceAV 1 (sl 1 nl (l.map f)) (some (J k)) none none=some (sl 1 n2 ((l.drop k).map f)):=by
 have key: ∀xs:List AV,k≤xs.length→sliceAV 1 (.lst .any 1 xs) (some (J k)) none none=some (.lst .any 1 (xs.drop k)):=by
  intro xs hx
  have h0:(0:Int)≤((k:Nat):Int):=by omega
  simp only [sliceAV,natOr,natOf,tagSlice,if_pos h0,Int.toNat_natCast]
  rw [List.take_of_length_le (Nat.le_refl _)]
  simp [hx]
 cases l with
 |nil=>
  have:k=0:=by simpa using h
  subst this
  cases nl
  ·exact ⟨false,key [] (by simp)⟩
  ·exact ⟨true,rfl⟩
 |cons x r=>
  have e:sl 1 nl ((x::r).map f)=.lst .any 1 ((x::r).map f):=z7z (by simp)
  rw [e,key _ (by simpa using h),←List.map_drop]
  exact ⟨false,rfl⟩
def pA (o:List AV):AV:=if o.length=0 then .lst .full 1 [] else oA o
theorem pA_ne {o:List AV} (h:o≠[]):pA o=oA o:=by
 unfold pA;rw [if_neg];intro h2;exact h (List.eq_nil_of_length_eq_zero h2)
theorem z9o (o ys:List AV)(s:List (List AV))(h:o.length+ys.length<1000):appendAV 1 (pA o) ys ⟨s,oT o⟩=some (pA (o++ys),⟨s,oT (o++ys)⟩):=by
 cases ys with
 |nil=>
  rw [List.append_nil]
  unfold pA oA oT loc locT
  split<;>rfl
 |cons y r=>
  cases o with
  |nil=>
   have h2: ¬(y::r).length=0:=by simp
   unfold pA oA oT loc locT
   rw [List.nil_append,if_pos (show ([]:List AV).length=0 from rfl),if_neg h2,if_neg h2,if_pos (show ([]:List AV).length=0 from rfl),if_neg h2]
   simp only [appendAV,List.length_nil,Nat.zero_add,List.nil_append]
   rw [if_pos trivial,if_pos (by unfold maxGrow;simp only [List.length_nil,Nat.zero_add] at h;omega)]
  |cons a o=>
   have h1: ¬(a::o).length=0:=by simp
   have h2: ¬(a::o++y::r).length=0:=by simp
   unfold pA oA oT loc locT
   rw [if_neg h1,if_neg h2,if_neg h1,if_neg h2,if_neg h1,if_neg h2]
   simp only [appendAV]
   rw [if_pos trivial,if_pos (by unfold maxGrow;omega)]
   simp;omega
theorem zgd {α:Type} (f:α→AV)(nl:Bool)(l:List α)(st:St):elemsOf 1 st (sl 1 nl (l.map f))=some (l.map f):=by
 cases l with
 |nil=>cases nl<;>rfl
 |cons x r=>rw [z7z (by simp)];simp [elemsOf]
theorem c88 (nl:Bool)(l:List Nat)(hlen:l.length<900)(y:Nat)(st:St):run L 88 [sl 1 nl (l.map tM),tM y] st=some (sl 1 true ((putM y l).map tM),st):=by
 rw [run_pure (fn:=ir88) rfl rfl]
 simp only [ir88,go_sem]
 generalize hg:lim (headed pure (run L) true _ lp88_0 _ _) _ _=o
 obtain ⟨x,en,s,rfl,h2⟩: ∃x en s,o=some (x,en,s)∧_:=by rw [←hg];exact loop88 nl l (by omega) y 0 (by omega) _ _ (by simp only [go_sem,Int.natCast_zero,zdl,zaq]<;>rfl)
 clear hg
 rw [List.drop_zero,Nat.zero_add] at h2
 obtain ⟨rfl,e0,e1,e5,rfl⟩:=h2
 have hle:=znh y l
 have hpe:=zjo y l
 generalize atM y l=k at*
 obtain ⟨n3,ht⟩:=zhv tM nl l k hle
 obtain ⟨n4,hd⟩:=zhw tM nl l k hle
 have a1:=fun S=>z9o [] ((l.take k).map tM) S (by simp;omega)
 have a2:=fun S=>z9o ((l.take k).map tM) [tM y] S (by simp;omega)
 have a3:=fun S=>z9o ((l.take k).map tM++ [tM y]) ((l.drop k).map tM) S (by simp;omega)
 rw [List.nil_append] at a1
 have a1: ∀S,appendAV 1 (.lst .full 1 []) ((l.take k).map tM) ⟨S,[]⟩=some (pA ((l.take k).map tM),⟨S,oT ((l.take k).map tM)⟩):=a1
 have hfin:((l.take k).map tM++ [tM y]++(l.drop k).map tM)=(putM y l).map tM:=by rw [hpe];simp
 rw [hfin] at a3
 have hpn:pA ((putM y l).map tM)=oA ((putM y l).map tM):=pA_ne (by rw [hpe];simp)
 simp only [go_sem,e0,e1,e5,ht,hd,a1,a2,a3,hpn]
attribute [local go_sem] m_ x_ l_ k_ o_ t_ a_ s_ q_ b_ c_ u_ g_ zk z9 zf zm z09 z08 zd zi zh z6 zg z07 z00 z0m z0k zp z0j z4f
theorem z4t (x:Nat): ∀l,(putM x l).Perm (x::l)
 | []=>List.Perm.refl _
 |a::r=>by
  unfold putM
  split
  ·exact ((z4t x r).cons a).trans (List.Perm.swap x a r)
  ·exact List.Perm.refl _
theorem z82 (x:Nat): ∀l:List Nat,l.Pairwise LexLe→(putM x l).Pairwise LexLe
 | [],_=>by simp [putM]
 |a::r,h=>by
  rw [List.pairwise_cons] at h
  unfold putM
  split
  ·rename_i hlt
   rw [List.pairwise_cons]
   refine ⟨fun y hy=> ?_,z82 x r h.2⟩
   rcases List.mem_cons.1 ((z4t x r).mem_iff.1 hy) with rfl|hy
   ·exact zf8 hlt
   ·exact h.1 y hy
  ·rename_i hlt
   have hlt:lexLt (memb a) (memb x)=false:=by simpa [lexM] using hlt
   rw [List.pairwise_cons]
   refine ⟨fun y hy=> ?_,List.pairwise_cons.2 h⟩
   rcases List.mem_cons.1 hy with rfl|hy
   ·exact hlt
   ·exact zh5 hlt (h.1 y hy)
def tidyF (n:Nat) (X o:List Nat):List Nat:=X.foldl (fun o v=>putM (smlN n v) o) o
theorem zgl (n:Nat): ∀X o,o.Pairwise LexLe→(tidyF n X o).Pairwise LexLe∧(tidyF n X o).Perm (o++X.map (smlN n))
 | [],o,h=>⟨h,by rw [List.map_nil,List.append_nil];exact List.Perm.refl _⟩
 |v::r,o,h=>by
  obtain ⟨h1,h2⟩:=zgl n r _ (z82 (smlN n v) o h)
  refine ⟨h1,h2.trans ?_⟩
  rw [List.map_cons]
  exact ((z4t (smlN n v) o).append_right _).trans List.perm_middle.symm
theorem zlf {n:Nat} {X:List Nat} (h: ∀s∈X.map (smlN n),s<256):tidyF n X []=srt (X.map (smlN n)):=by
 obtain ⟨h1,h2⟩:=zgl n X [] List.Pairwise.nil
 rw [List.nil_append] at h2
 exact zdi h h2 h1
theorem loop85 (n:Nat)(hn:n≤8)(nl:Bool)(X:List Nat)(hX: ∀v∈X,v<2^n)(hl:X.length≤100)(i:Nat)(o:List Nat)(hok:i≤X.length∧o.length=i)(env:Env)(st:St)
  (hg:gcAV true 0 0 (canon env [0,1,5,6]) st=([(0,J n),(1,sl 1 nl (X.map tM)),(5,sl 1 true (o.map tM)),(6,J i)],⟨[],[]⟩)):
  ∃x_1 en s,lim (headed pure (run L) true [0,1,5,6] lp85_0 0 0) env st=some (x_1,en,s)∧(x_1=.exit 0∧en.get 5=sl 1 true ((tidyF n (X.drop i) o).map tM)):=by
 refine zb (α:=Nat×List Nat) (fun ⟨i,o⟩=>X.length-i) (fun ⟨i,o⟩=>i≤X.length∧o.length=i) (fun ⟨i,o⟩=>([(0,J n),(1,sl 1 nl (X.map tM)),(5,sl 1 true (o.map tM)),(6,J i)],⟨[],[]⟩)) (fun ⟨i,o⟩ x_1 en s=>x_1=.exit 0∧en.get 5=sl 1 true ((tidyF n (X.drop i) o).map tM)) (fun ⟨i,o⟩ hok=> ?_) ⟨i,o⟩ hok env st hg
 simp only at hok
 obtain ⟨h1,h2⟩:=hok
 dsimp only at h1 h2⊢
 have hll:=zq tM nl X
 by_cases h:i<X.length
 ·have hs:=zj i (by omega)
  have hlt:((i:Int)<(X.length:Int))=True:=eT (by omega)
  have hx:=z0l tM nl X i h
  have hv:=hX X[i] (List.getElem_mem h)
  have hd:X.drop i=X[i]::X.drop (i+1):=List.drop_eq_getElem_cons h
  rw [hd]
  generalize X[i]=v at*
  have h110:=fun st=>zp3 n hn v hv st
  have h88:=fun st=>c88 true o (by omega) (smlN n v) st
  have e:tidyF n (v::X.drop (i+1)) o=tidyF n (X.drop (i+1)) (putM (smlN n v) o):=rfl
  rw [e]
  have hpl:=(z4t (smlN n v) o).length_eq
  generalize putM (smlN n v) o=o2 at*
  simp only [go_sem,lp85_0,hll,hlt,hs,hx,h110,h88]
  refine ⟨(i+1,o2),by simp only [go_sem,z3,z4,z5]<;>rfl,?_,?_,fun x en s hq=> ?_⟩
  ·dsimp only;exact ⟨by omega,by rw [hpl,List.length_cons];omega⟩
  ·dsimp only;omega
  ·exact hq
 ·have e:X.drop i=[]:=List.drop_eq_nil_of_le (by omega)
  have hlt:((i:Int)<(X.length:Int))=False:=eF (by omega)
  rw [e]
  simp only [go_sem,lp85_0,hll,hlt]
  rfl
theorem zel {n:Nat} (hn:n≤8) {X:List Nat} (hX: ∀v∈X,v<2^n∧v≠0∧v≠2^n-1): ∀s∈X.map (smlN n),s<256:=by
 intro x hx
 rw [List.mem_map] at hx
 obtain ⟨v,hv,rfl⟩:=hx
 exact Nat.lt_of_lt_of_le (z1o (hX v hv).1) (Nat.pow_le_pow_right (n:=2) (by decide) hn)
theorem c85 (n:Nat)(hn:n≤8)(nl:Bool)(X:List Nat)(hX: ∀v∈X,v<2^n∧v≠0∧v≠2^n-1)(hl:X.length≤13)(st:St):run L 85 [J n,sl 1 nl (X.map tM)] st=some (sl 1 true ((srt (X.map (smlN n))).map tM),st):=by
 rw [run_pure (fn:=ir85) rfl rfl,←zlf (zel hn hX)]
 simp only [ir85,go_sem]
 generalize hg:lim (headed pure (run L) true _ lp85_0 _ _) _ _=o
 obtain ⟨x,en,s,rfl,h2⟩: ∃x en s,o=some (x,en,s)∧_:=by rw [←hg];exact loop85 n hn nl X (fun v hv=>(hX v hv).1) (by omega) 0 [] ⟨by omega,rfl⟩ _ _ (by simp only [go_sem,Int.natCast_zero,List.map_nil,show sl 1 true []=AV.v (.slice none 0 0) from rfl]<;>rfl)
 clear hg
 rw [List.drop_zero] at h2
 obtain ⟨rfl,e5⟩:=h2
 simp only [go_sem,e5]
theorem c89x (n:Nat)(h2:2≤n)(hn:n≤8)(nl:Bool)(X:List Nat)(hX: ∀v∈X,v<2^n∧v≠0∧v≠2^n-1)(hnd:(X.map (smlN n)).Nodup)(hl:X.length≤13)(i j:Int)(hij:min i j<0∨(X.length:Int)≤max i j)(st:St):
  run L 89 [J n,sl 1 nl (X.map tM),I i,I j] st=some (.tup [E8 0,E8 0,I 2],st):=by
 rw [run_pure (fn:=ir89) rfl rfl]
 have h70:=c70 n h2 hn nl X hX hnd hl
 have hsl:(X.map (smlN n)).length=X.length:=List.length_map ..
 rw [←hsl] at hij
 clear hsl hX hnd
 generalize X.map (smlN n)=ss at*
 have hs0: ∀R T,sameSt ⟨[u8 0]:: [u8 0]::R,T⟩ (.ptr 0 0) (.agg [u8 0])=true:=fun R T=>rfl
 have hs1: ∀R T,sameSt ⟨[u8 0]:: [u8 0]::R,T⟩ (.ptr 1 0) (.agg [u8 0])=true:=fun R T=>rfl
 by_cases he:ss=[]
 ·subst he
  have eA:kA []=.v (.slice none 0 0):=rfl
  have eS:kS []=[]:=rfl
  rw [eA,eS] at h70
  by_cases q1:min i j<0
  ·simp only [ir89,go_sem,hs0,hs1,h70,show pure 70=false from rfl,shStore,shV,shVs,z4j,frzAV,frzT,frzLs,rslsOf,q1,onB2,zjz,onB1,zi7,zib,za5,z7i,z7j,Bool.or_false,Bool.or_true,Bool.true_or,Bool.false_or,show AV.v (.int .u8 0)=u8 0 from rfl]
  ·have q2:(0:Int)≤max i j:=by have:=hij.resolve_left q1;simpa using this
   simp only [ir89,go_sem,hs0,hs1,h70,show pure 70=false from rfl,shStore,shV,shVs,z4j,frzAV,frzT,frzLs,rslsOf,q1,q2,onB2,zjz,onB1,zi7,zib,za5,z7i,z7j,Bool.or_false,Bool.or_true,Bool.true_or,Bool.false_or,show AV.v (.int .u8 0)=u8 0 from rfl]
 ·rw [zbo he,za4 he] at h70
  have hsv:=zay 2 ss
  have hfz:=fun T env=>znf (a:=[u8 0]) (b:=[u8 0]) (cs:=ss.map u8) (by simpa using he) T env
  have hfv:=zhb 2 ss he
  have hll:=zq E8 true ss
  by_cases q1:min i j<0
  ·simp only [ir89,go_sem,hs0,hs1,h70,show pure 70=false from rfl,shStore,shV,shVs,hsv,z4j,frzAV,frzT,frzLs,rslsOf,hfz,frzEnv,frzEnv_get,zks,ze2,zgb,ze3,ze1,frzVs,hfv,hll,q1,onB2,zjz,onB1,zi7,zib,za5,z7i,z7j,Bool.or_false,Bool.or_true,Bool.true_or,Bool.false_or,show AV.v (.int .u8 0)=u8 0 from rfl]
  ·have q2:=hij.resolve_left q1
   simp only [ir89,go_sem,hs0,hs1,h70,show pure 70=false from rfl,shStore,shV,shVs,hsv,z4j,frzAV,frzT,frzLs,rslsOf,hfz,frzEnv,frzEnv_get,zks,ze2,zgb,ze3,ze1,frzVs,hfv,hll,q1,q2,onB2,zjz,onB1,zi7,zib,za5,z7i,z7j,Bool.or_false,Bool.or_true,Bool.true_or,Bool.false_or,show AV.v (.int .u8 0)=u8 0 from rfl]
theorem c24x (n:Nat)(h2:2≤n)(hn:n≤8)(nl:Bool)(X:List Nat)(hX: ∀v∈X,v<2^n∧v≠0∧v≠2^n-1)(hnd:(X.map (smlN n)).Nodup)(hl:X.length≤13)(i j:Int)(hij:min i j<0∨(X.length:Int)≤max i j)(st:St):
  run L 24 [J n,sl 1 nl (X.map tM),I i,I j] st=some (I 2,st):=by
 rw [run_pure (fn:=ir24) rfl rfl]
 have h89:=fun st=>c89x n h2 hn nl X hX hnd hl i j hij st
 simp only [ir24,go_sem,h89]
theorem c90 (n:Int)(nl:Bool)(G:List GS)(hG: ∀p∈G,p.2.length<1000)(hGl:G.length<1000)(i j:Int)(st:St):
  run L 90 [I n,sl 1 nl (G.map gM),I i,I j] st=some (I (if (openG n G).1=0 then (if min i j<0∨(G.length:Int)≤max i j then 2 else 0) else (openG n G).1),st):=by
 rw [run_pure (fn:=ir90) rfl rfl]
 have h48:=fun st=>c48 n nl G hG hGl st
 have hll:=zq gM nl G
 have hw:IntKind.i64.wrap ((G.length:Int)-1)=(G.length:Int)-1:=by rw [z04]<;>omega
 have hi:=fun st=>c98 i 0 ((G.length:Int)-1) st
 have hj:=fun st=>c98 j 0 ((G.length:Int)-1) st
 by_cases he:(openG n G).1=0
 ·rw [he] at h48
  rw [if_pos he]
  by_cases hi2:0≤i∧i≤(G.length:Int)-1
  ·rw [decide_eq_true hi2] at hi
   by_cases hj2:0≤j∧j≤(G.length:Int)-1
   ·rw [decide_eq_true hj2] at hj
    rw [if_neg (by omega)]
    simp only [ir90,go_sem,h48,hll,hw,hi,hj]
   ·rw [decide_eq_false hj2] at hj
    rw [if_pos (by omega)]
    simp only [ir90,go_sem,h48,hll,hw,hi,hj]
  ·rw [decide_eq_false hi2] at hi
   rw [if_pos (by omega)]
   simp only [ir90,go_sem,h48,hll,hw,hi]
 ·rw [if_neg he]
  simp only [ir90,go_sem,h48,he]
attribute [local go_sem] m_ x_ l_ k_ o_ t_ a_ s_ q_ b_ c_ u_ g_ zk z9 zf zm z09 z08 zd zi zh z6 zg z07 z00 z0m z0k zp z0j z4f
def lgG (G:List GS):Bool:=decide (40<G.length)||G.any fun p=>decide (40<p.2.length)
theorem len_gM (p:GS):lenAV (gM p)=some (J p.2.length):=by
 obtain ⟨k,l⟩:=p
 cases l with
 |nil=>cases k<;>rfl
 |cons a r=>rw [zkq k (by simp)];exact zq I true (a::r)
theorem loop14 (nl:Bool)(G:List GS)(hG:G.length≤40)(i:Nat)(hok:i≤G.length)(env:Env)(st:St)
  (hg:gcAV true 0 0 (canon env [0,3]) st=([(0,sl 1 nl (G.map gM)),(3,J i)],⟨[],[]⟩)):
  ∃x_1 en s,lim (headed pure (run L) true [0,3] lp14_0 0 0) env st=some (x_1,en,s)∧(((G.drop i).any (fun p=>decide (40<p.2.length))=true∧x_1=.ret∧en.get 2=B true)∨((G.drop i).any (fun p=>decide (40<p.2.length))=false∧x_1=.exit 0)):=by
 refine zb (α:=Nat) (fun i=>G.length-i) (fun i=>i≤G.length) (fun i=>([(0,sl 1 nl (G.map gM)),(3,J i)],⟨[],[]⟩)) (fun i x_1 en s=>((G.drop i).any (fun p=>decide (40<p.2.length))=true∧x_1=.ret∧en.get 2=B true)∨((G.drop i).any (fun p=>decide (40<p.2.length))=false∧x_1=.exit 0)) (fun i hok=> ?_) i hok env st hg
 have hll:=zq gM nl G
 by_cases h:i<G.length
 ·have hs:=zj i (by omega)
  have hlt:((i:Int)<(G.length:Int))=True:=eT (by omega)
  have hx:=z0l gM nl G i h
  have hd:G.drop i=G[i]::G.drop (i+1):=List.drop_eq_getElem_cons h
  rw [hd,List.any_cons]
  generalize G[i]=p at*
  have hpl:=len_gM p
  by_cases q:40<p.2.length
  ·have q2:((40:Int)<(p.2.length:Int))=True:=eT (by omega)
   rw [decide_eq_true q,Bool.true_or]
   simp only [go_sem,lp14_0,hll,hlt,hs,hx,hpl,q2]
  ·have q2:((40:Int)<(p.2.length:Int))=False:=eF (by omega)
   rw [decide_eq_false q,Bool.false_or]
   simp only [go_sem,lp14_0,hll,hlt,hs,hx,hpl,q2]
   refine ⟨i+1,by simp only [go_sem,z3,z4,z5]<;>rfl,?_,?_,fun x en s hq=> ?_⟩
   ·omega
   ·omega
   ·exact hq
 ·have e:G.drop i=[]:=List.drop_eq_nil_of_le (by omega)
  have hlt:((i:Int)<(G.length:Int))=False:=eF (by omega)
  rw [e,List.any_nil]
  simp only [go_sem,lp14_0,hll,hlt]
theorem c14 (nl:Bool)(G:List GS)(st:St):run L 14 [sl 1 nl (G.map gM)] st=some (B (lgG G),st):=by
 rw [run_pure (fn:=ir14) rfl rfl]
 have hll:=zq gM nl G
 unfold lgG
 by_cases q:40<G.length
 ·have q2:((40:Int)<(G.length:Int))=True:=eT (by omega)
  rw [decide_eq_true q,Bool.true_or]
  simp only [ir14,go_sem,hll,q2]
 ·have q2:((40:Int)<(G.length:Int))=False:=eF (by omega)
  rw [decide_eq_false q,Bool.false_or]
  simp only [ir14,go_sem,hll,q2]
  generalize hg:lim (headed pure (run L) true _ lp14_0 _ _) _ _=o
  obtain ⟨x,en,s,rfl,h2⟩: ∃x en s,o=some (x,en,s)∧_:=by rw [←hg];exact loop14 nl G (by omega) 0 (by omega) _ _ (by simp only [go_sem,Int.natCast_zero]<;>rfl)
  clear hg
  rw [List.drop_zero] at h2
  rcases h2 with ⟨h,rfl,e2⟩ | ⟨h,rfl⟩
  ·rw [h];simp only [go_sem,e2]
  ·rw [h];simp only [go_sem]
theorem lg_ok {G:List GS} (h:lgG G=false):G.length≤40∧∀p∈G,p.2.length≤40:=by
 unfold lgG at h
 rw [Bool.or_eq_false_iff,decide_eq_false_iff_not,List.any_eq_false] at h
 refine ⟨by omega,fun p hp=> ?_⟩
 have:=h.2 p hp
 simpa using this
end Go.Proofs.YtdnmhlfjafjkbaaGreatDoor.Vm
namespace Go.Proofs.YtdnmhlfjafjkbaaGreatDoor.Vm
open Go Go.Ev Go.ChangeShapes Go.WideShapes Go.ChangeAt Go.RowKit
set_option maxRecDepth 100000
set_option maxHeartbeats 4000000
attribute [local go_sem] m_ x_ l_ k_ o_ t_ a_ s_ q_ b_ c_ u_ g_ z47 z0u z5h z21 z42 z0p z5d z1b z2d z0c z38 z20 z41 z0o z5c z24 z45 z0s z5f z1c z2e z0d z39 z1a z2c z0b z36 z23 z44 z0r z33 z66 z19 z81 z25 z46 z0t z5g z26 z0z z0v z5i z1z z40 z0n z5b z22 z43 z0q z5e z37 z27 z2l z8a z88 z89 z5n z3e z3i z3h z3g z3t z3u z4i z5q z8g z10 z49 z35 z1g z3c z3w z3y z63 z64 z62 z3z z2b z1d z58 z34 z2a z1h z0g z2f z1i z3b z85 z5j z1w z17 z1y pubs pub z6s params z2m z0a z1j z2p z3j z3v z8b untips untip z57 wantedAV setElems withO z8c z3p z3m z3l z5s z3o z3k z5r z3n List.replicate_succ List.replicate_zero opAV valAV aval avals ofVal Env.get setD canon gcAV renAll renEnv renStore renCells z6p cutSt okEnv okStore okRefs okRef z4g z8k z69 z8j z8h z8i z8l cellsEq cellEq isShift intOp boolOp z86 z87 z8m bne resAV tupAV z5o zak z74 fins zgc z8e z8f z73 zbv storeAV readCells putCells z65 z32 z18 fieldAddrAV zaf goI List.getElem?_cons_zero List.getElem?_cons_succ List.getElem?_nil Option.bind_some Option.map_some List.length_cons List.length_nil List.all_cons List.all_nil Bool.and_true Bool.true_and Bool.and_false Bool.false_and and_true true_and and_false false_and Bool.false_eq_true List.set_cons_zero List.set_cons_succ List.append_nil List.nil_append List.cons_append List.take_zero List.take_succ_cons List.take_nil List.drop_zero List.drop_succ_cons List.map_cons List.map_nil decide_true decide_false beq_self_eq_true Bool.not_true Bool.not_false or_true true_or or_false false_or Nat.zero_add Nat.add_zero Nat.le_refl Nat.lt_irrefl decide_eq_true_eq eq_self_iff_true not_true_eq_false not_false_eq_true List.getD_cons_zero z3x Nat.zero_le Nat.not_lt_zero Bool.true_beq Bool.false_beq beq_true beq_false ge_iff_le gt_iff_lt keepR keepT ownTop zgi pus Option.map_none z2h z2g z5w z3q z5v Int.cast_ofNat_Int Nat.mul_one Nat.zero_mul Int.toNat_natCast Int.toNat_zero setParts withO2 hasKey z60 z5k z3s z3d z1f z1e z0e z2n setm z6z z77 z6d zbi zc9 zf0 z8r z6k z56 z4a z94 z6v z6j z4q z7a z55 z8w z6l z4y z3f z96 z6w z9n z51 z52 z71 z31 z8o z6i z6h z8p Option.bind_none Bool.not_eq_true' decide_eq_false_iff_not Bool.and_eq_true Bool.or_eq_true Option.some.injEq Int.not_lt Int.not_le
attribute [local go_sem_proc] reduceIte Nat.reduceEqDiff Nat.reduceAdd Nat.reduceSub Nat.reduceLeDiff Nat.reduceLT reduceCtorEq Int.reduceLT Int.reduceLE Int.reduceEq Int.reduceBEq Int.reduceSub Int.reduceAdd Int.reduceMul Int.reduceNeg Int.reduceToNat Nat.reduceMul Nat.reduceBEq
theorem cells3:Tryz.prog.cellsOf 3=1:=by kernel_rfl
theorem zp2:Tryz.prog.cellsOf 28=1:=by kernel_rfl
theorem znr {d:Nat} {t e:TypeId} {a:AV} (ht:Tryz.prog.underlying t=some (.slice e))(he:Tryz.prog.underlying e=some (.int .i64))(hc:Tryz.prog.cellsOf e=1)(h:Sh Tryz.prog (d+2) t [a]):
  ∃(nl:Bool) (zs:List Int),a=sl 1 nl (zs.map I)∧(zs.length:Int)≤maxLen∧∀n∈zs,(Lit.int .i64 n).wf=true:=by
 rcases zgq ht h with rfl| ⟨xs,rfl,hl,hx⟩
 ·exact ⟨true,[],rfl,by simp,by simp⟩
 ·obtain ⟨zs,rfl,h2,h3⟩:=z5m (f:=I) (R:=fun n=>(Lit.int .i64 n).wf=true) xs (fun x hm=>by
   rcases hx x hm with h| ⟨⟨e2,h⟩,_⟩
   ·exact sh_int he h
   ·rw [he] at h;cases h)
  exact ⟨false,zs,by rw [hc,←zgp],by simp at hl;omega,h3⟩
theorem sh_num {a:AV} (h:ShV Tryz.prog 8 3 a): ∃n:Int,a=I n∧(Lit.int .i64 n).wf=true:=by
 unfold ShV at h
 rw [if_neg (by unfold aggB;rw [Tryz.underlying3];simp)] at h
 simp only [Sh,Tryz.underlying3,List.cons.injEq,and_true] at h
 exact h
theorem sh_lists {a:AV} (h:ShV Tryz.prog 8 22 a): ∃(nl:Bool) (G:List GS),a=sl 1 nl (G.map gM)∧(G.length:Int)≤maxLen∧∀p∈G,(p.2.length:Int)≤maxLen∧∀n∈p.2,(Lit.int .i64 n).wf=true:=by
 unfold ShV at h
 rw [if_neg (by unfold aggB;rw [Tryz.underlying22];simp)] at h
 rcases zgq Tryz.underlying22 h with rfl| ⟨xs,rfl,hl,hx⟩
 ·exact ⟨true,[],rfl,by simp,by simp⟩
 ·obtain ⟨G,rfl,h2,h3⟩:=z5m (f:=gM) (R:=fun p=>(p.2.length:Int)≤maxLen∧∀n∈p.2,(Lit.int .i64 n).wf=true) xs (fun x hm=>by
   rcases hx x hm with this| ⟨_,a,cap,rfl⟩
   ·unfold ShV at this
    rw [if_neg (by unfold aggB;rw [Tryz.underlying28];simp)] at this
    obtain ⟨nl,zs,e,h1,h2⟩:=znr Tryz.underlying28 Tryz.underlying3 cells3 this
    obtain ⟨k,hk⟩:=gM_sl nl zs
    exact ⟨(k,zs),e.trans hk.symm,h1,h2⟩
   ·exact ⟨(.odd a cap,[]),rfl,by simp,by simp⟩)
  exact ⟨false,G,by rw [zp2,←zgp],by simp at hl;omega,h3⟩
end Go.Proofs.YtdnmhlfjafjkbaaGreatDoor.Vm
namespace Go.Proofs.YtdnmhlfjafjkbaaGreatDoor.Vm
open Go Go.Ev
set_option maxRecDepth 100000
set_option maxHeartbeats 4000000
attribute [local go_sem] m_ x_ l_ k_ o_ t_ a_ s_ q_ b_ c_ u_ g_ z47 z0u z5h z21 z42 z0p z5d z1b z2d z0c z38 z20 z41 z0o z5c z24 z45 z0s z5f z1c z2e z0d z39 z1a z2c z0b z36 z23 z44 z0r z33 z66 z19 z81 z25 z46 z0t z5g z26 z0z z0v z5i z1z z40 z0n z5b z22 z43 z0q z5e z37 z27 z2l z8a z88 z89 z5n z3e z3i z3h z3g z3t z3u z4i z5q z8g z10 z49 z35 z1g z3c z3w z3y z63 z64 z62 z3z z2b z1d z58 z34 z2a z1h z0g z2f z1i z3b z85 z5j z1w z17 z1y pubs pub z6s params z2m z0a z1j z2p z3j z3v z8b untips untip z57 wantedAV setElems withO z8c z3p z3m z3l z5s z3o z3k z5r z3n List.replicate_succ List.replicate_zero opAV valAV aval avals ofVal Env.get setD canon gcAV renAll renEnv renStore renCells z6p cutSt okEnv okStore okRefs okRef z4g z8k z69 z8j z8h z8i z8l cellsEq cellEq isShift intOp boolOp z86 z87 z8m bne resAV tupAV z5o zak z74 fins zgc z8e z8f z73 zbv storeAV readCells putCells z65 z32 z18 fieldAddrAV zaf goI List.getElem?_cons_zero List.getElem?_cons_succ List.getElem?_nil Option.bind_some Option.map_some List.length_cons List.length_nil List.all_cons List.all_nil Bool.and_true Bool.true_and Bool.and_false Bool.false_and and_true true_and and_false false_and Bool.false_eq_true List.set_cons_zero List.set_cons_succ List.append_nil List.nil_append List.cons_append List.take_zero List.take_succ_cons List.take_nil List.drop_zero List.drop_succ_cons List.map_cons List.map_nil decide_true decide_false beq_self_eq_true Bool.not_true Bool.not_false or_true true_or or_false false_or Nat.zero_add Nat.add_zero Nat.le_refl Nat.lt_irrefl decide_eq_true_eq eq_self_iff_true not_true_eq_false not_false_eq_true List.getD_cons_zero z3x Nat.zero_le Nat.not_lt_zero Bool.true_beq Bool.false_beq beq_true beq_false ge_iff_le gt_iff_lt keepR keepT ownTop zgi pus Option.map_none z2h z2g z5w z3q z5v Int.cast_ofNat_Int Nat.mul_one Nat.zero_mul Int.toNat_natCast Int.toNat_zero setParts withO2 hasKey z60 z5k z3s z3d z1f z1e z0e z2n setm z6z z77 z6d zbi zc9 zf0 z8r z6k z56 z4a z94 z6v z6j z4q z7a z55 z8w z6l z4y z3f z96 z6w z9n z51 z52 z71 z31 z8o z6i z6h z8p Option.bind_none Bool.not_eq_true' decide_eq_false_iff_not Bool.and_eq_true Bool.or_eq_true Option.some.injEq Int.not_lt Int.not_le
attribute [local go_sem_proc] reduceIte Nat.reduceEqDiff Nat.reduceAdd Nat.reduceSub Nat.reduceLeDiff Nat.reduceLT reduceCtorEq Int.reduceLT Int.reduceLE Int.reduceEq Int.reduceBEq Int.reduceSub Int.reduceAdd Int.reduceMul Int.reduceNeg Int.reduceToNat Nat.reduceMul Nat.reduceBEq
section
variable {n:Nat} {U W:List Nat} (hn:n≤8) (hU: ∀u∈U,u≤U.length) (hW: ∀w∈W,w≤U.length) (hWl:W.length=n) (hend: ∀w,w≤U.length→itC U U.length w=0)
include hU hend in
theorem zg8 {x s:Nat} (hx:x≤U.length)(h0:x≠0):itC U (s+1) x≠x:=by
 intro h
 have h2:=zbk (U:=U) (w:=x) (s:=s) h U.length
 have h3:U.length*(s+1)=U.length+U.length*s:=by rw [Nat.mul_succ,Nat.add_comm]
 rw [h3,z0x,hend x hx,z5p] at h2
 exact h0 h2.symm
include hU hend in
theorem zll {w p q x:Nat} (hx:x≤U.length)(h0:x≠0)(h1:itC U p w=x)(h2:itC U q w=x):p=q:=by
 rcases Nat.lt_trichotomy p q with h|h|h
 ·exfalso
  apply zg8 (U:=U) hU hend (s:=q-p-1) hx h0
  rw [show q-p-1+1=q-p by omega,←h1,←z0x,show p+(q-p)=q by omega,h2,h1]
 ·exact h
 ·exfalso
  apply zg8 (U:=U) hU hend (s:=p-q-1) hx h0
  rw [show p-q-1+1=p-q by omega,←h2,←z0x,show q+(p-q)=p by omega,h1,h2]
include hn hU hW hWl hend
theorem sb {k:Nat} (hk:k<U.length)(b:Nat):((outL U W).getD k 0).testBit b=true↔b<n∧∃t,itC U t (W.getD b 0)=k+1:=by
 have hoo:=zg6 U W 0 (List.replicate U.length 0) (by omega) (fun k=>by simp [List.getD_eq_getElem?_getD,List.getElem?_replicate];split<;>simp)
 rw [show outF U 0 W (List.replicate U.length 0)=outL U W from rfl,List.length_replicate] at hoo
 exact z8q hn hU hW hWl hoo.1.symm hend rfl (by rw [hoo.1];exact hk) b
theorem zjt:(outL U W).length=U.length:=by
 have hoo:=zg6 U W 0 (List.replicate U.length 0) (by omega) (fun k=>by simp [List.getD_eq_getElem?_getD,List.getElem?_replicate];split<;>simp)
 rw [show outF U 0 W (List.replicate U.length 0)=outL U W from rfl,List.length_replicate] at hoo
 exact hoo.1
variable (hlack: ∀c,c≤U.length→¬(min c 1+U.count c<3∧c ∉ W))
include hlack
theorem zen {c:Nat} (hc:c≤U.length)(h0:c≠0): ∀(d x t:Nat),x≤U.length→x≠0→itC U t x=c→t+d=U.length→∃a,a<n∧∃s,itC U s (W.getD a 0)=x
 |0,x,t,hx,_,h,e=>by
  have:t=U.length:=by omega
  subst this
  rw [hend x hx] at h
  exact absurd h.symm h0
 |d+1,x,t,hx,hx0,h,e=>by
  by_cases hin:x∈W
  ·obtain ⟨a,ha,he⟩:=List.getElem_of_mem hin
   refine ⟨a,by omega,0,?_⟩
   show W.getD a 0=x
   rw [List.getD_eq_getElem?_getD,List.getElem?_eq_getElem ha,←he];rfl
  ·have hl:=hlack x hx
   have hcnt:0<U.count x:=by
    apply Nat.pos_of_ne_zero;intro hz
    exact hl ⟨by rw [hz];omega,hin⟩
   have hm:=List.count_pos_iff.1 hcnt
   obtain ⟨k,hk,he⟩:=List.getElem_of_mem hm
   have hup:upC U (k+1)=x:=by rw [zap,List.getD_eq_getElem?_getD,List.getElem?_eq_getElem hk,←he];rfl
   obtain ⟨a,ha,s,hs⟩:=zen hc h0 d (k+1) (t+1) (by omega) (by omega) (by
    show itC U t (upC U (k+1))=c
    rw [hup,h]) (by omega)
   exact ⟨a,ha,s+1,by rw [zdw,hs,hup]⟩
theorem zg1 {k:Nat} (hk:k<U.length): ∃a,a<n∧∃s,itC U s (W.getD a 0)=k+1:=
 zen hn hU hW hWl hend hlack (c:=k+1) (by omega) (by omega) U.length (k+1) 0 (by omega) (by omega) rfl (by omega)
theorem two_at {c:Nat} (h:2≤U.count c)(i:Nat): ∃k,k<U.length∧k≠i∧U.getD k 0=c:=by
 apply Classical.byContradiction
 intro hno
 have key: ∀k,k<U.length→U.getD k 0=c→k=i:=fun k hk e=>by
  apply Classical.byContradiction;intro hne
  exact hno ⟨k,hk,hne,e⟩
 have h1:U.count c≤1:=by
  by_cases hi:i<U.length
  ·have hs:U=U.take i++U[i]::U.drop (i+1):=by
    rw [List.getElem_cons_drop,List.take_append_drop]
   have z1:(U.take i).count c=0:=by
    rw [List.count_eq_zero];intro hm
    obtain ⟨k,hk,e⟩:=List.mem_take_iff_getElem.1 hm
    have:=key k (by omega) (by rw [List.getD_eq_getElem?_getD,List.getElem?_eq_getElem (by omega),e];rfl)
    omega
   have z2:(U.drop (i+1)).count c=0:=by
    rw [List.count_eq_zero];intro hm
    obtain ⟨k,hk,e⟩:=List.mem_drop_iff_getElem.1 hm
    have:=key (i+1+k) (by omega) (by rw [List.getD_eq_getElem?_getD,List.getElem?_eq_getElem (by omega),e];rfl)
    omega
   rw [hs,List.count_append,List.count_cons,z1,z2]
   split<;>omega
  ·have:U.count c=0:=by
    rw [List.count_eq_zero];intro hm
    obtain ⟨k,hk,e⟩:=List.getElem_of_mem hm
    have:=key k hk (by rw [List.getD_eq_getElem?_getD,List.getElem?_eq_getElem hk,e];rfl)
    omega
   omega
 omega
theorem zhl {i j d:Nat} (hi:i<U.length)(hj:j<U.length)(hd:itC U (d+1) (i+1)=j+1): ∃b,((outL U W).getD j 0).testBit b=true∧((outL U W).getD i 0).testBit b=false:=by
 apply Classical.byContradiction
 intro hno
 have hsub: ∀b,b<n→(∃t,itC U t (W.getD b 0)=j+1)→∃t,itC U t (W.getD b 0)=i+1:=by
  intro b hb ht
  have h1:=(sb hn hU hW hWl hend hj b).2 ⟨hb,ht⟩
  cases hc:((outL U W).getD i 0).testBit b
  ·exact absurd ⟨b,h1,hc⟩ hno
  ·exact ((sb hn hU hW hWl hend hi b).1 hc).2
 have hjW:j+1 ∉ W:=by
  intro hm
  obtain ⟨b,hb,e⟩:=List.getElem_of_mem hm
  have e2:W.getD b 0=j+1:=by rw [List.getD_eq_getElem?_getD,List.getElem?_eq_getElem hb,e];rfl
  obtain ⟨t,ht⟩:=hsub b (by omega) ⟨0,e2⟩
  rw [e2] at ht
  apply zg8 (U:=U) hU hend (x:=j+1) (s:=t+d) (by omega) (by omega)
  rw [show t+d+1=t+(d+1) by omega,z0x,ht,hd]
 have hc2:2≤U.count (j+1):=by
  apply Nat.le_of_not_lt;intro hlt
  exact hlack (j+1) (by omega) ⟨by omega,hjW⟩
 have hpar:upC U (itC U d (i+1))=j+1:=by rw [←zdw,hd]
 have hp0:itC U d (i+1)≠0:=fun h=>by rw [h] at hpar;simp [upC] at hpar
 have hpl:itC U d (i+1)≤U.length:=zkh hU d (i+1) (by omega)
 obtain ⟨k,hk,hki,hku⟩:=two_at hn hU hW hWl hend hlack hc2 (itC U d (i+1)-1)
 obtain ⟨b,hb,p,hp⟩:=zg1 hn hU hW hWl hend hlack hk
 have hpj:itC U (p+1) (W.getD b 0)=j+1:=by rw [zdw,hp,zap,hku]
 obtain ⟨q,hq⟩:=hsub b hb ⟨p+1,hpj⟩
 have hq2:itC U (q+d+1) (W.getD b 0)=j+1:=by rw [show q+d+1=q+(d+1) by omega,z0x,hq,hd]
 have:=zll hU hend (x:=j+1) (by omega) (by omega) hpj hq2
 have hpq:p=q+d:=by omega
 rw [hpq,z0x,hq] at hp
 omega
theorem zlj {i j:Nat} (hi:i<U.length)(hj:j<U.length)(hne:i≠j):(outL U W).getD i 0≠(outL U W).getD j 0:=by
 intro he
 obtain ⟨a,ha,s,hs⟩:=zg1 hn hU hW hWl hend hlack hi
 have hb:=(sb hn hU hW hWl hend hi a).2 ⟨ha,s,hs⟩
 have hb2:=hb
 rw [he] at hb2
 obtain ⟨_,t,ht⟩:=(sb hn hU hW hWl hend hj a).1 hb2
 rcases Nat.lt_trichotomy s t with h|h|h
 ·obtain ⟨b,h1,h2⟩:=zhl hn hU hW hWl hend hlack hi hj (d:=t-s-1) (by rw [show t-s-1+1=t-s by omega,←hs,←z0x,show s+(t-s)=t by omega,ht])
  rw [he,h1] at h2;cases h2
 ·subst h;rw [hs] at ht;omega
 ·obtain ⟨b,h1,h2⟩:=zhl hn hU hW hWl hend hlack hj hi (d:=s-t-1) (by rw [show s-t-1+1=s-t by omega,←ht,←z0x,show t+(s-t)=s by omega,hs])
  rw [he,h2] at h1;cases h1
variable (h0W:W.getD 0 0=0) (h1n:1≤n)
include h0W h1n
theorem ziz:Lam n (outL U W):=by
 have hl:=zjt hn hU hW hWl hend
 have mem: ∀s∈outL U W,∃k,k<U.length∧s=(outL U W).getD k 0:=by
  intro s hs
  obtain ⟨k,hk,e⟩:=List.getElem_of_mem hs
  exact ⟨k,by omega,by rw [List.getD_eq_getElem?_getD,List.getElem?_eq_getElem hk,←e];rfl⟩
 refine ⟨?_,?_,?_,?_,?_⟩
 ·intro s hs
  obtain ⟨k,hk,rfl⟩:=mem s hs
  apply Nat.lt_pow_two_of_testBit
  intro i hi
  cases hc:((outL U W).getD k 0).testBit i
  ·rfl
  ·have:=((sb hn hU hW hWl hend hk i).1 hc).1;omega
 ·intro s hs h
  obtain ⟨k,hk,rfl⟩:=mem s hs
  obtain ⟨a,ha,t,ht⟩:=zg1 hn hU hW hWl hend hlack hk
  have:=(sb hn hU hW hWl hend hk a).2 ⟨ha,t,ht⟩
  rw [h,Nat.zero_testBit] at this;cases this
 ·intro s hs
  obtain ⟨k,hk,rfl⟩:=mem s hs
  cases hc:((outL U W).getD k 0).testBit 0
  ·rfl
  ·obtain ⟨_,t,ht⟩:=(sb hn hU hW hWl hend hk 0).1 hc
   rw [h0W,z5p] at ht;omega
 ·unfold List.Nodup
  rw [List.pairwise_iff_getElem]
  intro i j hi hj hij he
  apply zlj hn hU hW hWl hend hlack (i:=i) (j:=j) (by omega) (by omega) (by omega)
  rw [List.getD_eq_getElem?_getD,List.getD_eq_getElem?_getD,List.getElem?_eq_getElem hi,List.getElem?_eq_getElem hj]
  exact he
 ·have h8: ∀k,k<U.length→(outL U W).getD k 0<256:=by
   intro k hk
   have:(outL U W).getD k 0<2^n:=by
    apply Nat.lt_pow_two_of_testBit
    intro i hi
    cases hc:((outL U W).getD k 0).testBit i
    ·rfl
    ·have:=((sb hn hU hW hWl hend hk i).1 hc).1;omega
   exact Nat.lt_of_lt_of_le this (Nat.pow_le_pow_right (n:=2) (by decide) hn)
  intro s hs t ht
  obtain ⟨i,hi,rfl⟩:=mem s hs
  obtain ⟨j,hj,rfl⟩:=mem t ht
  rw [zla (h8 i hi) (h8 j hj)]
  by_cases hd: ∀b,((outL U W).getD i 0).testBit b=true→((outL U W).getD j 0).testBit b=false
  ·exact .inl hd
  ·right
   obtain ⟨a,ha⟩:=Classical.not_forall.1 hd
   rw [Classical.not_imp] at ha
   obtain ⟨h1,h2⟩:=ha
   have h2:((outL U W).getD j 0).testBit a=true:=by simpa using h2
   obtain ⟨_,p,hp⟩:=(sb hn hU hW hWl hend hi a).1 h1
   obtain ⟨_,q,hq⟩:=(sb hn hU hW hWl hend hj a).1 h2
   rcases Nat.le_total p q with h|h
   ·left
    exact z9v hn hU hW hWl hl.symm hend rfl (by omega) (by omega) (t:=q-p) (by rw [←hp,←z0x,show p+(q-p)=q by omega,hq])
   ·right
    exact z9v hn hU hW hWl hl.symm hend rfl (by omega) (by omega) (t:=p-q) (by rw [←hq,←z0x,show q+(p-q)=p by omega,hp])
theorem zhr:IsTree (outL U W) n U W:=by
 have hl:=zjt hn hU hW hWl hend
 have hlam:=ziz hn hU hW hWl hend hlack h0W h1n
 refine ⟨hl.symm,hWl,fun k hk=>zlk hn hU hW hWl hl.symm hend rfl hlam hk,fun a ha=> ?_⟩
 have hin:=hW (W.getD a 0) (z16 (by omega))
 by_cases h0:W.getD a 0=0
 ·left
  refine ⟨h0,fun j hj _ hs=> ?_⟩
  obtain ⟨_,t,ht⟩:=(sb hn hU hW hWl hend (by omega) a).1 (zj6 hs)
  rw [h0,z5p] at ht;omega
 ·right
  refine ⟨W.getD a 0-1,by omega,by omega,by simp,?_,fun j hj _ hs=> ?_⟩
  ·exact zo5 ((sb hn hU hW hWl hend (by omega) a).2 ⟨ha,0,by show W.getD a 0=_;omega⟩)
  ·obtain ⟨_,t,ht⟩:=(sb hn hU hW hWl hend (by omega) a).1 (zj6 hs)
   exact zjr (z9v hn hU hW hWl hl.symm hend rfl (by omega) (by omega) (t:=t) (by rw [show W.getD a 0-1+1=W.getD a 0 by omega,ht]))
end
attribute [local go_sem] m_ x_ l_ k_ o_ t_ a_ s_ q_ b_ c_ u_ g_ zk z9 zf zm z09 z08 zd zi zh z6 zg z07
structure Tree (n:Nat) (U W:List Nat):Prop where
 hU: ∀u∈U,u≤U.length
 hW: ∀w∈W,w≤U.length
 hWl:W.length=n
 hend: ∀w,w≤U.length→itC U U.length w=0
 h0:W.getD 0 0=0
 hlack: ∀c,c≤U.length→¬(min c 1+U.count c<3∧c ∉ W)
theorem Tree.is {n:Nat} {U W:List Nat} (h:Tree n U W)(hn:n≤8)(h1:1≤n):IsTree (outL U W) n U W:=zhr hn h.hU h.hW h.hWl h.hend h.hlack h.h0 h1
attribute [local go_sem] m_ x_ l_ k_ o_ t_ a_ s_ q_ b_ c_ u_ g_ zk z9 zf zm z09 z08 zd zi zh z6 zg z07 z00 z0m z0k zp z0j z4f
theorem zmi (n:Nat)(h1n:1≤n)(hn:n≤8)(nl:Bool)(X:List Nat)(hX: ∀v∈X,v<2^n)(hl:X.length≤13)(i:Nat)(hi:i<X.length)(j:Nat)(hok:i<j∧j≤X.length)(env:Env)(st:St)
  (hg:gcAV true 0 0 (canon env [0,1,8,9]) st=([(0,J n),(1,sl 1 nl (X.map tM)),(8,J i),(9,J j)],⟨[],[]⟩)):
  ∃x_1 en s,lim (headed pure (run L) true [0,1,8,9] lp17_0 0 0) env st=some (x_1,en,s)∧((∃d,((X.map (smlN n)).drop j).findIdx? (fun b=> !agN (smlN n X[i]) b)=some d∧x_1=.ret∧en.get 4=J i∧en.get 5=J (j+d)∧en.get 6=I 0)∨(((X.map (smlN n)).drop j).findIdx? (fun b=> !agN (smlN n X[i]) b)=none∧x_1=.exit 2∧en.get 0=J n∧en.get 1=sl 1 nl (X.map tM)∧en.get 8=J i∧s=⟨[],[]⟩)):=by
 refine zb (α:=Nat) (fun j=>X.length-j) (fun j=>i<j∧j≤X.length) (fun j=>([(0,J n),(1,sl 1 nl (X.map tM)),(8,J i),(9,J j)],⟨[],[]⟩)) (fun j x_1 en s=>(∃d,((X.map (smlN n)).drop j).findIdx? (fun b=> !agN (smlN n X[i]) b)=some d∧x_1=.ret∧en.get 4=J i∧en.get 5=J (j+d)∧en.get 6=I 0)∨(((X.map (smlN n)).drop j).findIdx? (fun b=> !agN (smlN n X[i]) b)=none∧x_1=.exit 2∧en.get 0=J n∧en.get 1=sl 1 nl (X.map tM)∧en.get 8=J i∧s=⟨[],[]⟩)) (fun j hok=> ?_) j hok env st hg
 obtain ⟨h1,h2⟩:=hok
 have hll:=zq tM nl X
 by_cases h:j<X.length
 ·have hs:=zj j (by omega)
  have hlt:((j:Int)<(X.length:Int))=True:=eT (by omega)
  have hxi:=z0l tM nl X i hi
  have hxj:=z0l tM nl X j h
  have hvi:=hX X[i] (List.getElem_mem hi)
  have hvj:=hX X[j] (List.getElem_mem h)
  have hd:(X.map (smlN n)).drop j=smlN n X[j]::(X.map (smlN n)).drop (j+1):=by
   rw [List.drop_eq_getElem_cons (by rw [lm_];exact h),List.getElem_map]
  rw [hd,List.findIdx?_cons]
  generalize X[i]=a at*
  generalize X[j]=b at*
  have h72:=fun st=>c72M n h1n hn a b hvi hvj st
  cases hc:agN (smlN n a) (smlN n b) with
  |false=>
   rw [hc] at h72
   simp only [go_sem,lp17_0,hll,hlt,hxi,hxj,h72]
   exact ⟨0,rfl,rfl⟩
  |true=>
   rw [hc] at h72
   simp only [go_sem,lp17_0,hll,hlt,hxi,hxj,h72,hs]
   refine ⟨j+1,by simp only [go_sem,z3,z4,z5]<;>rfl,?_,?_,fun x en s hq=> ?_⟩
   ·omega
   ·omega
   ·rcases hq with ⟨d,h1,rfl,h2,h3,h4⟩ | ⟨h1,hq⟩
    ·left;refine ⟨d+1,by rw [h1];rfl,rfl,h2,?_,h4⟩
     rw [h3,show j+1+d=j+(d+1) by omega]
    ·right;exact ⟨by rw [h1];rfl,hq⟩
 ·have e:(X.map (smlN n)).drop j=[]:=List.drop_eq_nil_of_le (by rw [lm_];omega)
  have hlt:((j:Int)<(X.length:Int))=False:=eF (by omega)
  rw [e]
  simp only [go_sem,lp17_0,hll,hlt]
  exact Or.inr rfl
theorem zmh (n:Nat)(h1n:1≤n)(hn:n≤8)(nl:Bool)(X:List Nat)(hX: ∀v∈X,v<2^n)(hl:X.length≤13)(i:Nat)(hok:i≤X.length)(env:Env)(st:St)
  (hg:gcAV true 0 0 (canon env [0,1,8]) st=([(0,J n),(1,sl 1 nl (X.map tM)),(8,J i)],⟨[],[]⟩)):
  ∃x_1 en s,lim (headed pure (run L) true [0,1,8] lp17_1 0 0) env st=some (x_1,en,s)∧((clP ((X.map (smlN n)).drop i) i=none∧x_1=.exit 0)∨(∃a b,clP ((X.map (smlN n)).drop i) i=some (a,b)∧x_1=.ret∧en.get 4=J a∧en.get 5=J b∧en.get 6=I 0)):=by
 refine zb (α:=Nat) (fun i=>X.length-i) (fun i=>i≤X.length) (fun i=>([(0,J n),(1,sl 1 nl (X.map tM)),(8,J i)],⟨[],[]⟩)) (fun i x_1 en s=>(clP ((X.map (smlN n)).drop i) i=none∧x_1=.exit 0)∨(∃a b,clP ((X.map (smlN n)).drop i) i=some (a,b)∧x_1=.ret∧en.get 4=J a∧en.get 5=J b∧en.get 6=I 0)) (fun i hok=> ?_) i hok env st hg
 have hll:=zq tM nl X
 by_cases h:i<X.length
 ·have hs:=zj i (by omega)
  have hlt:((i:Int)<(X.length:Int))=True:=eT (by omega)
  have hd:(X.map (smlN n)).drop i=smlN n X[i]::(X.map (smlN n)).drop (i+1):=by
   rw [List.drop_eq_getElem_cons (by rw [lm_];exact h),List.getElem_map]
  have hcl:clP (smlN n X[i]::(X.map (smlN n)).drop (i+1)) i=match ((X.map (smlN n)).drop (i+1)).findIdx? (fun b=> !agN (smlN n X[i]) b) with|some j=>some (i,i+1+j)|none=>clP ((X.map (smlN n)).drop (i+1)) (i+1):=rfl
  rw [hd,hcl]
  simp only [go_sem,lp17_1,hll,hlt,hs]
  generalize hg:lim (headed pure (run L) true _ lp17_0 _ _) _ _=o
  obtain ⟨x,en,s,rfl,h2⟩: ∃x en s,o=some (x,en,s)∧_:=by rw [←hg];exact zmi n h1n hn nl X hX hl i h (i+1) ⟨by omega,by omega⟩ _ _ (by simp only [go_sem]<;>rfl)
  clear hg
  rcases h2 with ⟨d,h1,rfl,e4,e5,e6⟩ | ⟨h1,rfl,e0,e1,e8,rfl⟩
  ·rw [h1]
   simp only [go_sem,lp17_1,e4,e5,e6]
   exact ⟨i,i+1+d,rfl,rfl,rfl⟩
  ·rw [h1]
   simp only [go_sem,lp17_1,e0,e1,e8,hs]
   refine ⟨i+1,by simp only [go_sem,z3,z4,z5,e0,e1,e8]<;>rfl,?_,?_,fun x en s hq=> ?_⟩
   ·omega
   ·omega
   ·exact hq
 ·have e:(X.map (smlN n)).drop i=[]:=List.drop_eq_nil_of_le (by rw [lm_];omega)
  have hlt:((i:Int)<(X.length:Int))=False:=eF (by omega)
  rw [e]
  simp only [go_sem,lp17_1,hll,hlt]
  exact Or.inl rfl
def whyG (n:Int) (G:List GS):AV:=if (openG n G).1≠0 then .tup [I 0,I 0,I (openG n G).1] else whyA (clP (openG n G).2 0)
theorem c17 (n:Int)(nl:Bool)(G:List GS)(hG: ∀p∈G,p.2.length<1000)(hGl:G.length<1000)(st:St):
  run L 17 [I n,sl 1 nl (G.map gM)] st=some (whyG n G,st):=by
 rw [run_pure (fn:=ir17) rfl rfl]
 have h48:=fun st=>c48 n nl G hG hGl st
 unfold whyG
 by_cases he:(openG n G).1=0
 ·obtain ⟨m,X,rfl,h2,hm,hl,hXl,e1,e2,hX,e4,hnd⟩:=z2k he
  rw [he] at h48
  rw [he,if_neg (by simp),e4]
  rw [e1] at h48⊢
  simp only [ir17,go_sem,h48]
  generalize hg:lim (headed pure (run L) true _ lp17_1 _ _) _ _=o
  obtain ⟨x,en,s,rfl,h2⟩: ∃x en s,o=some (x,en,s)∧_:=by rw [←hg];exact zmh m (by omega) hm nl X (fun v hv=>(hX v hv).1) (by omega) 0 (by omega) _ _ (by simp only [go_sem,Int.natCast_zero]<;>rfl)
  clear hg
  rw [List.drop_zero] at h2
  rcases h2 with ⟨h2,rfl⟩ | ⟨a,b,h2,rfl,e4,e5,e6⟩
  ·rw [h2]
   simp only [go_sem]
   rfl
  ·rw [h2]
   simp only [go_sem,e4,e5,e6]
   rfl
 ·rw [if_pos he]
  simp only [ir17,go_sem,h48,he]
theorem c16G (n:Int)(nl:Bool)(G:List GS)(hG: ∀p∈G,p.2.length<1000)(hGl:G.length<1000)(st:St):
  run L 16 [I n,sl 1 nl (G.map gM)] st=some (whyG n G,st):=by
 unfold whyG
 by_cases he:(openG n G).1=0
 ·obtain ⟨m,X,rfl,h2,hm,hl,hXl,e1,e2,hX,e4,hnd⟩:=z2k he
  rw [he,if_neg (by simp),e1,e4]
  exact c16 m h2 hm nl X hX hnd (by omega) st
 ·rw [if_pos he]
  exact c16e hG hGl he st
def AbvTo (L:List Nat) (s:Nat) (but:Option Nat) (i r:Nat):Prop:=
 (r=0∧∀j,j<i→some j≠but→¬Sub s (L.getD j 0))∨
 (∃k,r=k+1∧k<i∧some k≠but∧Sub s (L.getD k 0)∧∀j,j<i→some j≠but→Sub s (L.getD j 0)→pc (L.getD k 0)≤pc (L.getD j 0))
theorem AbvTo.skip {L:List Nat} {s:Nat} {but:Option Nat} {i r:Nat} (h:AbvTo L s but i r)(hi:some i≠but→¬Sub s (L.getD i 0)∨(r≠0∧pc (L.getD (r-1) 0)≤pc (L.getD i 0))):AbvTo L s but (i+1) r:=by
 rcases h with ⟨rfl,h⟩ | ⟨k,rfl,h1,h2,h3,h4⟩
 ·left
  refine ⟨rfl,fun j hj hb=> ?_⟩
  by_cases e:j=i
  ·subst e
   rcases hi hb with h| ⟨h,_⟩
   ·exact h
   ·exact absurd rfl h
  ·exact h j (by omega) hb
 ·right
  refine ⟨k,rfl,by omega,h2,h3,fun j hj hb hs=> ?_⟩
  by_cases e:j=i
  ·subst e
   rcases hi hb with h| ⟨_,h⟩
   ·exact absurd hs h
   ·rw [Nat.add_sub_cancel] at h;exact h
  ·exact h4 j (by omega) hb hs
theorem AbvTo.take {L:List Nat} {s:Nat} {but:Option Nat} {i r:Nat} (h:AbvTo L s but i r)(hb:some i≠but)(hs:Sub s (L.getD i 0))(hr:r=0∨pc (L.getD i 0)<pc (L.getD (r-1) 0)):AbvTo L s but (i+1) (i+1):=by
 right
 refine ⟨i,rfl,by omega,hb,hs,fun j hj hjb hjs=> ?_⟩
 by_cases e:j=i
 ·subst e;exact Nat.le_refl _
 ·rcases h with ⟨rfl,h⟩ | ⟨k,rfl,h1,h2,h3,h4⟩
  ·exact absurd hjs (h j (by omega) hjb)
  ·have:=h4 j (by omega) hjb hjs
   rcases hr with hr|hr
   ·omega
   ·rw [Nat.add_sub_cancel] at hr;omega
attribute [local go_sem] m_ x_ l_ k_ o_ t_ a_ s_ q_ b_ c_ u_ g_ zk z9 zf zm z09 z08 zd zi zh z6 zg z07 z00 z0m z0k zp z0j z4f
abbrev nilA:AV:=.v (.slice none 0 0)
attribute [local go_sem] m_ x_ l_ k_ o_ t_ a_ s_ q_ b_ c_ u_ g_ zk z9 zf zm z09 z08 zd zi zh z6 zg z07 z00 z0m z0k zp z0j z4f
theorem znp {O:List Nat} (h:srtB O=true):O.Pairwise LexLe:=by
 unfold srtB at h
 rw [List.all_eq_true] at h
 rw [List.pairwise_iff_getElem]
 have step: ∀j (hj:j+1<O.length),LexLe O[j] O[j+1]:=by
  intro j hj
  have:=h j (List.mem_range.2 (by omega))
  rw [List.getD_eq_getElem?_getD,List.getD_eq_getElem?_getD,List.getElem?_eq_getElem hj,List.getElem?_eq_getElem (show j<O.length by omega)] at this
  unfold LexLe
  simpa using this
 have key: ∀d i (hj:i+d+1<O.length),LexLe O[i] O[i+d+1]:=by
  intro d
  induction d with
  |zero=>intro i hj;exact step i hj
  |succ d ih=>
   intro i hj
   have h1:=ih i (by omega)
   have h2:=step (i+d+1) (by omega)
   exact zh5 h1 h2
 intro i j hi hj hij
 have:=key (j-i-1) i (by omega)
 simp only [show i+(j-i-1)+1=j by omega] at this
 exact this
theorem zo9 (n:Int)(G:List GS):(openG n G).1≠13∧(openG n G).1≠12:=by
 have row: ∀(m:Nat) (l:List Int) (p:Option Int),rowE m p l≠13∧rowE m p l≠12:=by
  intro m l
  induction l with
  |nil=>intro p;unfold rowE;decide
  |cons a r ih=>
   intro p
   unfold rowE
   split
   ·decide
   ·split
    ·decide
    ·exact ih _
 have side: ∀(m:Nat) (l:List Int),sideE m l≠13∧sideE m l≠12:=by
  intro m l
  unfold sideE
  split
  ·decide
  ·exact row m l none
 have key: ∀(m:Nat) (G:List GS) (ss:List Nat),(openS m G ss).1≠13∧(openS m G ss).1≠12:=by
  intro m G
  induction G with
  |nil=>intro ss;unfold openS;dsimp only;decide
  |cons p r ih=>
   intro ss
   unfold openS
   split
   ·exact side m p.2
   ·split
    ·dsimp only;decide
    ·split
     ·dsimp only;decide
     ·exact ih _
 unfold openG
 split
 ·decide
 ·split
  ·decide
  ·exact key _ _ _
attribute [local go_sem] m_ x_ l_ k_ o_ t_ a_ s_ q_ b_ c_ u_ g_ zk z9 zf zm z09 z08 zd zi zh z6 zg z07
def tzW (m:Nat):Nat:=((List.range 14).find? m.testBit).getD 64
theorem znn:((List.range 8192).all fun m=>decide (m=0)||(decide (andN m (2^64-m)=2^tzW m)&&decide (tzW m<14)))=true:=by kernel_rfl
theorem negU (m:Nat)(h0:m≠0)(h:m<8192):IntKind.u64.wrap (-(m:Int))=((2^64-m:Nat):Int):=by
 simp only [IntKind.wrap,IntKind.bits,IntKind.signed]
 simp
 omega
theorem c137w (m:Nat)(h0:m≠0)(h:m<8192)(st:St):run L 137 [U m] st=some (J (tzW m),st):=by
 have ha:=List.all_eq_true.1 znn m (List.mem_range.2 h)
 rw [decide_eq_false h0,Bool.false_or,Bool.and_eq_true,decide_eq_true_eq,decide_eq_true_eq] at ha
 obtain ⟨h1,h2⟩:=ha
 rw [run_pure (fn:=ir137) rfl rfl]
 have q0:((m:Int)=0)=False:=eF (by omega)
 have hn:=negU m h0 h
 have hand:=zn8 m (2^64-m)
 rw [h1] at hand
 generalize tzW m=t at*
 have hn':IntKind.u64.wrap (0-(m:Int))=((2^64-m:Nat):Int):=by rw [Int.zero_sub];exact hn
 simp only [ir137,go_sem,q0,hn',hand]
 clear hand hn hn' h1
 have key: ∀t:Fin 14,(IntKind.u64.wrap (((2^t.val:Nat):Int)*285870213051353865)).fdiv (2^min 58 64)=(([0,1,3,7,15,31,63,62,61,59,55,47,30,60][t.val]! :Nat):Int):=by decide
 have hk:=key ⟨t,h2⟩
 dsimp only at hk
 rw [hk]
 have hi: ∀t:Fin 14,[0,1,3,7,15,31,63,62,61,59,55,47,30,60][t.val]! <64:=by decide
 have hi:=hi ⟨t,h2⟩
 dsimp only at hi
 clear hk hi
 have h14:t=0∨t=1∨t=2∨t=3∨t=4∨t=5∨t=6∨t=7∨t=8∨t=9∨t=10∨t=11∨t=12∨t=13:=by omega
 rcases h14 with rfl|rfl|rfl|rfl|rfl|rfl|rfl|rfl|rfl|rfl|rfl|rfl|rfl|rfl<;>rfl
theorem c108w (m:Nat)(h0:m≠0)(h:m<8192)(st:St):run L 108 [U m] st=some (J (tzW m),st):=by
 rw [run_pure (fn:=ir108) rfl rfl]
 have h137:=fun st=>c137w m h0 h st
 simp only [ir108,go_sem,h137]
def membW (m:Nat):List Int:=((List.range 14).filter m.testBit).map fun (i:Nat)=>(i:Int)
theorem z6x (m:Nat):(membW m).length≤14:=by
 unfold membW;rw [lm_]
 exact Nat.le_trans (List.length_filter_le _ _) (by simp)
theorem z1s {m:Nat} (hm:m<8192)(a:Int):a∈membW m↔∃i:Nat,a=i∧m.testBit i=true:=by
 unfold membW
 rw [List.mem_map]
 constructor
 ·rintro ⟨i,hi,rfl⟩
  rw [List.mem_filter] at hi
  exact ⟨i,rfl,hi.2⟩
 ·rintro ⟨i,rfl,h⟩
  refine ⟨i,List.mem_filter.2 ⟨List.mem_range.2 ?_,h⟩,rfl⟩
  apply Nat.lt_of_not_le;intro h9
  rw [Nat.testBit_lt_two_pow (Nat.lt_of_lt_of_le hm (show 8192≤2^i from Nat.le_trans (by decide) (Nat.pow_le_pow_right (n:=2) (by decide) h9)))] at h
  cases h
theorem zf7 (m:Nat):(membW m).Pairwise (· < ·):=by
 unfold membW
 rw [List.pairwise_map]
 exact ((List.pairwise_lt_range (n:=14)).sublist List.filter_sublist).imp (fun h=>by omega)
theorem znm:((List.range 8192).all fun m=>decide (m=0)||(decide (m&&&(m-1)=m^^^2^tzW m)&&(m.testBit (tzW m)&&decide (m % 2^tzW m=0))))=true:=by kernel_rfl
theorem zie (m:Nat)(h:m<8192)(h0:m≠0):membW m=(tzW m:Int)::membW (m&&&(m-1)):=by
 have ha:=List.all_eq_true.1 znm m (List.mem_range.2 h)
 rw [decide_eq_false h0,Bool.false_or,Bool.and_eq_true,Bool.and_eq_true,decide_eq_true_eq,decide_eq_true_eq] at ha
 obtain ⟨h1,h2,h3⟩:=ha
 have hlt:m&&&(m-1)<8192:=Nat.lt_of_le_of_lt Nat.and_le_left h
 have hbit: ∀i,(m&&&(m-1)).testBit i=true↔m.testBit i=true∧i≠tzW m:=by
  intro i
  rw [h1,Nat.testBit_xor,Nat.testBit_two_pow]
  by_cases e:tzW m=i
  ·rw [decide_eq_true e,←e,h2];simp
  ·rw [decide_eq_false e]
   simp only [Bool.xor_false]
   exact ⟨fun h=>⟨h,fun h2=>e h2.symm⟩,fun h=>h.1⟩
 have hlow: ∀i,m.testBit i=true→tzW m≤i:=by
  intro i hi
  apply Nat.le_of_not_lt;intro hl
  have:=Nat.testBit_mod_two_pow m (tzW m) i
  rw [h3,Nat.zero_testBit,decide_eq_true hl,hi] at this
  cases this
 apply zc5 _ _ (zf7 m)
 ·rw [List.pairwise_cons]
  refine ⟨fun a ha=> ?_,zf7 _⟩
  obtain ⟨i,rfl,hi⟩:=(z1s hlt a).1 ha
  rw [hbit] at hi
  have:=hlow i hi.1
  omega
 ·intro a
  rw [List.mem_cons,z1s h,z1s hlt]
  constructor
  ·rintro ⟨i,rfl,hi⟩
   by_cases e:i=tzW m
   ·left;rw [e]
   ·right;exact ⟨i,rfl,(hbit i).2 ⟨hi,e⟩⟩
  ·rintro (rfl| ⟨i,rfl,hi⟩)
   ·exact ⟨_,rfl,h2⟩
   ·exact ⟨i,rfl,((hbit i).1 hi).1⟩
theorem subUw (m:Nat)(h:m<8192)(h0:m≠0):IntKind.u64.wrap ((m:Int)-1)=((m-1:Nat):Int):=by
 have:=zde (m-1) (by omega)
 rw [←this];congr 1;omega
theorem and_dw (a b:Nat)(ha:a<8192)(hb:b<8192):binAV .and none (.v (.int .u64 (a:Int))) (.v (.int .u64 (b:Int)))=some (.v (.int .u64 ((a&&&b:Nat):Int))):=by
 rw [zn8]
 unfold andN;rw [Nat.mod_eq_of_lt (by omega),Nat.mod_eq_of_lt (by omega)]
theorem zof (m0:Nat)(m:Nat)(o:List Int)(hok:m<8192∧o.length+(membW m).length≤14)(env:Env)(st:St)
  (hg:gcAV true 1 0 (canon env [3,4]) st=([(3,oA (o.map I)),(4,U m)],⟨[[u16 m0]],oT (o.map I)⟩)):
  ∃x_1 en s,lim (headed pure (run L) true [3,4] lp74_0 1 0) env st=some (x_1,en,s)∧(x_1=.exit 0∧en.get 3=oA ((o++membW m).map I)∧s=⟨[[u16 m0]],oT ((o++membW m).map I)⟩):=by
 refine zb (α:=Nat×List Int) (fun ⟨m,o⟩=>m) (fun ⟨m,o⟩=>m<8192∧o.length+(membW m).length≤14) (fun ⟨m,o⟩=>([(3,oA (o.map I)),(4,U m)],⟨[[u16 m0]],oT (o.map I)⟩)) (fun ⟨m,o⟩ x_1 en s=>x_1=.exit 0∧en.get 3=oA ((o++membW m).map I)∧s=⟨[[u16 m0]],oT ((o++membW m).map I)⟩) (fun ⟨m,o⟩ hok=> ?_) ⟨m,o⟩ hok env st hg
 simp only at hok
 obtain ⟨h1,h2⟩:=hok
 dsimp only at h1 h2⊢
 by_cases h:m=0
 ·have e:membW 0=[]:=by decide
  subst h
  rw [e,List.append_nil]
  simp only [go_sem,lp74_0,Int.natCast_zero]
 ·have hne:((m:Int)=0)=False:=eF (by omega)
  have ht:=fun st=>c108w m h h1 st
  have hm:=zie m h1 h
  have hlt:=zl4 m h
  have hs:=subUw m h1 h
  have ha:=and_dw m (m-1) h1 (by omega)
  rw [hm] at h2⊢
  rw [List.length_cons] at h2
  have happ:=fun S=>z9p (o.map I) (J (tzW m)) S (by rw [lm_];omega)
  simp only [go_sem,lp74_0,hne,ht,hs,ha,happ]
  refine ⟨(m&&&(m-1),o++ [(tzW m:Int)]),by simp only [go_sem,z3,z4,z5,zet,z97,List.map_append]<;>rfl,?_,?_,fun x en s hq=> ?_⟩
  ·dsimp only;exact ⟨by omega,by rw [List.length_append,List.length_singleton];omega⟩
  ·dsimp only;exact hlt
  ·simp only [List.append_assoc,List.singleton_append] at hq;exact hq
theorem c74w (m:Nat)(h:m<8192)(st:St):run L 74 [E16 m] st=some (tAV (membW m),st):=by
 rw [run_pure (fn:=ir74) rfl rfl]
 have hl:=z6x m
 have hw:=zde m (by omega)
 simp only [ir74,go_sem,hw]
 generalize hg:lim (headed pure (run L) true _ lp74_0 _ _) _ _=o
 obtain ⟨x,en,s,rfl,h2⟩: ∃x en s,o=some (x,en,s)∧_:=by rw [←hg];exact zof m m [] ⟨h,by simpa using hl⟩ _ _ (by simp only [go_sem,List.map_nil,←zdr,zf4]<;>rfl)
 clear hg
 obtain ⟨rfl,h3,rfl⟩:=h2
 simp only [go_sem,h3]
 rfl
theorem zkc (ss:List Nat)(hss: ∀x∈ss,x<256)(hk:ss.length≤13)(A Z:List Nat)(hAZ:A.length+1+Z.length=ss.length)(a:Nat)(ha:a<256)(j:Nat)(x:Nat)(hok:j≤ss.length∧x=frTo ss a j)(env:Env)(st:St)
  (hg:gcAV true 4 0 (canon env [6,8,9,10,29,30,31,36,37,38]) st=([(6,.rsl 0 0 ss.length ss.length 1 true),(8,.ptr 2 0),(9,J A.length),(10,.ptr 3 0),(29,.rsl 0 0 ss.length ss.length 1 true),(30,J ss.length),(31,J A.length),(36,.rsl 0 0 ss.length ss.length 1 true),(37,J ss.length),(38,J j)],⟨[ss.map u8,(A++x::Z).map u16,[.rsl 1 0 ss.length ss.length 1 true],[u8 a]],[]⟩)):
  ∃x_1 en s,lim (headed pure (run L) true [6,8,9,10,29,30,31,36,37,38] lp18_0 4 0) env st=some (x_1,en,s)∧(x_1=.exit 2∧en.get 6=.rsl 0 0 ss.length ss.length 1 true∧en.get 8=.ptr 2 0∧en.get 29=.rsl 0 0 ss.length ss.length 1 true∧en.get 30=J ss.length∧en.get 31=J A.length∧s=⟨[ss.map u8,(A++frN ss a::Z).map u16,[.rsl 1 0 ss.length ss.length 1 true],[u8 a]],[]⟩):=by
 refine zb (α:=Nat×Nat) (fun ⟨j,x⟩=>ss.length-j) (fun ⟨j,x⟩=>j≤ss.length∧x=frTo ss a j) (fun ⟨j,x⟩=>([(6,.rsl 0 0 ss.length ss.length 1 true),(8,.ptr 2 0),(9,J A.length),(10,.ptr 3 0),(29,.rsl 0 0 ss.length ss.length 1 true),(30,J ss.length),(31,J A.length),(36,.rsl 0 0 ss.length ss.length 1 true),(37,J ss.length),(38,J j)],⟨[ss.map u8,(A++x::Z).map u16,[.rsl 1 0 ss.length ss.length 1 true],[u8 a]],[]⟩)) (fun ⟨j,x⟩ x_1 en s=>x_1=.exit 2∧en.get 6=.rsl 0 0 ss.length ss.length 1 true∧en.get 8=.ptr 2 0∧en.get 29=.rsl 0 0 ss.length ss.length 1 true∧en.get 30=J ss.length∧en.get 31=J A.length∧s=⟨[ss.map u8,(A++frN ss a::Z).map u16,[.rsl 1 0 ss.length ss.length 1 true],[u8 a]],[]⟩) (fun ⟨j,x⟩ hok=> ?_) ⟨j,x⟩ hok env st hg
 simp only at hok
 obtain ⟨h1,h2⟩:=hok
 dsimp only at h1 h2⊢
 by_cases h:j<ss.length
 ·have hs:=zj j (by omega)
  have hlt:((j:Int)<(ss.length:Int))=True:=eT (by omega)
  have hg:=zem ss j h
  have hb:ss.getD j 0<256:=by
   rw [List.getD_eq_getElem?_getD,List.getElem?_eq_getElem h];exact hss _ (List.getElem_mem h)
  have hf:frTo ss a (j+1)=if agN a (ss.getD j 0)=true then frTo ss a j|||2^j else frTo ss a j:=rfl
  have hxl:x<2^13:=by rw [h2];exact Nat.lt_of_lt_of_le (ze4 ss a j) (Nat.pow_le_pow_right (by omega) (by omega))
  rw [←h2] at hf
  have h73:=fun st=>c73 a (ss.getD j 0) ha hb st
  generalize ss.getD j 0=b at*
  have hAl:(A++x::Z).length=ss.length:=by simp;omega
  have hget:((A++x::Z).map u16)[A.length]? =some (u16 x):=by rw [List.getElem?_map];simp
  have hjl:(j+1≤ss.length)=True:=eT (by omega)
  have hAl2:((A.length:Int)<(ss.length:Int))=True:=eT (by omega)
  have hAl3:(A.length+1≤ss.length)=True:=eT (by omega)
  have hjn:((j:Int).toNat<ss.length)=True:=eT (by omega)
  have hp2:2^j<2^13:=Nat.pow_lt_pow_right (by omega) (by omega)
  have hsh:=shl16 j (by omega)
  have hor:=or16 x (2^j) (by omega) (by omega)
  have hset: ∀y,(A++x::Z).set A.length y=A++y::Z:=by intro y;simp
  cases hc:agN a b with
  |true=>
   rw [hc] at h73
   rw [hc,if_pos rfl] at hf
   simp only [go_sem,lp18_0,hlt,hs,hg,h73,hAl,hget,hjl,hAl2,hAl3,hjn,hsh,hor,hset,nn_,lm_]
   refine ⟨(j+1,Nat.lor x (2^j)),by simp only [go_sem,z3,z4,z5,zr,zn,z1q,z06,hset]<;>rfl,?_,?_,fun x en s hq=> ?_⟩
   ·dsimp only;exact ⟨by omega,hf.symm⟩
   ·dsimp only;omega
   ·exact hq
  |false=>
   rw [hc] at h73
   rw [hc,if_neg (by simp)] at hf
   simp only [go_sem,lp18_0,hlt,hs,hg,h73,hjl,hjn,nn_,lm_]
   refine ⟨(j+1,x),by simp only [go_sem,z3,z4,z5,zr,zn,z1q,z06]<;>rfl,?_,?_,fun x en s hq=> ?_⟩
   ·dsimp only;exact ⟨by omega,hf.symm⟩
   ·dsimp only;omega
   ·exact hq
 ·have e:j=ss.length:=by omega
  subst e
  have hlt:((ss.length:Int)<(ss.length:Int))=False:=eF (by omega)
  have e2:frN ss a=x:=by rw [h2];rfl
  rw [e2]
  simp only [go_sem,lp18_0,hlt]
theorem zkb (ss:List Nat)(hss: ∀x∈ss,x<256)(hk:ss.length≤13)(i:Nat)(F:List Nat)(hok:i≤ss.length∧F=(ss.take i).map (frN ss)++List.replicate (ss.length-i) 0)(env:Env)(st:St)
  (hg:gcAV true 3 0 (canon env [6,8,29,30,31]) st=([(6,.rsl 0 0 ss.length ss.length 1 true),(8,.ptr 2 0),(29,.rsl 0 0 ss.length ss.length 1 true),(30,J ss.length),(31,J i)],⟨[ss.map u8,F.map u16,[.rsl 1 0 ss.length ss.length 1 true]],[]⟩)):
  ∃x_1 en s,lim (headed pure (run L) true [6,8,29,30,31] lp18_1 3 0) env st=some (x_1,en,s)∧(x_1=.exit 0∧en.get 6=.rsl 0 0 ss.length ss.length 1 true∧en.get 8=.ptr 2 0∧s=⟨[ss.map u8,(ss.map (frN ss)).map u16,[.rsl 1 0 ss.length ss.length 1 true]],[]⟩):=by
 refine zb (α:=Nat×List Nat) (fun ⟨i,F⟩=>ss.length-i) (fun ⟨i,F⟩=>i≤ss.length∧F=(ss.take i).map (frN ss)++List.replicate (ss.length-i) 0) (fun ⟨i,F⟩=>([(6,.rsl 0 0 ss.length ss.length 1 true),(8,.ptr 2 0),(29,.rsl 0 0 ss.length ss.length 1 true),(30,J ss.length),(31,J i)],⟨[ss.map u8,F.map u16,[.rsl 1 0 ss.length ss.length 1 true]],[]⟩)) (fun ⟨i,F⟩ x_1 en s=>x_1=.exit 0∧en.get 6=.rsl 0 0 ss.length ss.length 1 true∧en.get 8=.ptr 2 0∧s=⟨[ss.map u8,(ss.map (frN ss)).map u16,[.rsl 1 0 ss.length ss.length 1 true]],[]⟩) (fun ⟨i,F⟩ hok=> ?_) ⟨i,F⟩ hok env st hg
 simp only at hok
 obtain ⟨h1,h2⟩:=hok
 dsimp only at h1 h2⊢
 by_cases h:i<ss.length
 ·have hs:=zj i (by omega)
  have hlt:((i:Int)<(ss.length:Int))=True:=eT (by omega)
  have hg:=zem ss i h
  have hb:ss.getD i 0<256:=by
   rw [List.getD_eq_getElem?_getD,List.getElem?_eq_getElem h];exact hss _ (List.getElem_mem h)
  have hsn:=frsnoc ss i h
  have hA:((ss.take i).map (frN ss)).length=i:=by rw [lm_,List.length_take];omega
  have hF:F=(ss.take i).map (frN ss)++0::List.replicate (ss.length-(i+1)) 0:=by
   rw [h2,show ss.length-i=(ss.length-(i+1))+1 by omega,List.replicate_succ]
  have hil:(i+1≤ss.length)=True:=eT (by omega)
  have hin:((i:Int).toNat<ss.length)=True:=eT (by omega)
  generalize ss.getD i 0=a at*
  generalize (ss.take i).map (frN ss)=A at*
  have hZ:(List.replicate (ss.length-(i+1)) 0).length=ss.length-(i+1):=by simp
  generalize hZe:List.replicate (ss.length-(i+1)) 0=Z at*
  subst hF
  subst hA
  simp only [go_sem,lp18_1,hlt,hs,hg,hil,hin,nn_,lm_]
  generalize hg:lim (headed pure (run L) true _ lp18_0 _ _) _ _=o
  obtain ⟨x,en,s,rfl,h2⟩: ∃x en s,o=some (x,en,s)∧_:=by rw [←hg];exact zkc ss hss hk A Z (by omega) a hb 0 0 ⟨by omega,rfl⟩ _ _ (by simp only [go_sem,zr,zn,z1q,z06,Int.natCast_zero]<;>rfl)
  clear hg
  obtain ⟨rfl,e6,e8,e29,e30,e31,rfl⟩:=h2
  simp only [go_sem,lp18_1,e6,e8,e29,e30,e31,hs]
  refine ⟨(A.length+1,A++frN ss a::Z),by simp only [go_sem,z3,z4,z5,e6,e8,e29,e30,e31,zr,zn,z1q,z06]<;>rfl,?_,?_,fun x en s hq=> ?_⟩
  ·dsimp only;exact ⟨by omega,by rw [hZe];exact hsn⟩
  ·dsimp only;omega
  ·exact hq
 ·have e:i=ss.length:=by omega
  subst e
  rw [List.take_length,Nat.sub_self,List.replicate_zero,List.append_nil] at h2
  subst h2
  have hlt:((ss.length:Int)<(ss.length:Int))=False:=eF (by omega)
  simp only [go_sem,lp18_1,hlt]
def stepB (F:List Nat) (best:List Int) (m:Nat):List Int:=
 if (membW m).length<best.length then best
 else if (membW m).any (fun i=> !wiN m (F.getD i.toNat 0))=true then best
 else if best.length<(membW m).length then membW m
 else if lexLt (membW m) best=true then membW m else best
def mostG (F:List Nat) (k:Nat):List Int:=(List.range' 0 (2^k)).foldl (stepB F) []
theorem zj7 (F:List Nat)(best:List Int)(m:Nat)(h:best.length≤14):(stepB F best m).length≤14:=by
 have:=z6x m
 unfold stepB;split
 ·exact h
 ·split
  ·exact h
  ·split
   ·exact this
   ·split
    ·exact this
    ·exact h
theorem zka (S0:List AV)(hS1: ∀n,okRefs n S0=true)(hS2: ∀n T acc,renCells n T acc S0=(S0,acc))(F:List Nat)(hF: ∀f∈F,f<65536)(hk:F.length≤13)(m:Nat)(best:List Int)(hok:m≤2^F.length∧best.length≤14)(env:Env)(st:St)
  (hg:gcAV true 3 0 (canon env [8,13,60,61]) st=([(8,.ptr 2 0),(13,tAV best),(60,J (2^F.length)),(61,J m)],⟨[S0,F.map u16,[.rsl 1 0 F.length F.length 1 true]],[]⟩)):
  ∃x_1 en s,lim (headed pure (run L) true [8,13,60,61] lp18_2 3 0) env st=some (x_1,en,s)∧(x_1=.exit 4∧en.get 13=tAV ((List.range' m (2^F.length-m)).foldl (stepB F) best)):=by
 refine zb (α:=Nat×List Int) (fun ⟨m,best⟩=>2^F.length-m) (fun ⟨m,best⟩=>m≤2^F.length∧best.length≤14) (fun ⟨m,best⟩=>([(8,.ptr 2 0),(13,tAV best),(60,J (2^F.length)),(61,J m)],⟨[S0,F.map u16,[.rsl 1 0 F.length F.length 1 true]],[]⟩)) (fun ⟨m,best⟩ x_1 en s=>x_1=.exit 4∧en.get 13=tAV ((List.range' m (2^F.length-m)).foldl (stepB F) best)) (fun ⟨m,best⟩ hok=> ?_) ⟨m,best⟩ hok env st hg
 simp only at hok
 obtain ⟨h1,h2⟩:=hok
 dsimp only at h1 h2⊢
 have hN:2^F.length≤8192:=Nat.le_trans (Nat.pow_le_pow_right (by omega) hk) (by decide)
 have hmr:m<2^F.length→∀a∈membW m,0≤a∧a<(F.length:Int):=by
  intro hm a ha
  obtain ⟨i,rfl,hi⟩:=(z1s (by omega) a).1 ha
  have:i<F.length:=by
   apply Nat.lt_of_not_le;intro h9
   rw [zg0 hm i h9] at hi;cases hi
  omega
 generalize 2^F.length=N at*
 by_cases h:m<N
 ·have hs:=zj m (by omega)
  have hlt:((m:Int)<(N:Int))=True:=eT (by omega)
  have hr:List.range' m (N-m)=m::List.range' (m+1) (N-(m+1)):=by
   rw [show N-m=(N-(m+1))+1 by omega,List.range'_succ]
  rw [hr,List.foldl_cons]
  have hml:=z6x m
  have hmr:=hmr h
  have hw:=zgj m (by omega)
  have h74:=fun st=>c74w m (by omega) st
  have hsl:=zj7 F best m h2
  have he:stepB F best m=if (membW m).length<best.length then best else if (membW m).any (fun i=> !wiN m (F.getD i.toNat 0))=true then best else if best.length<(membW m).length then membW m else if lexLt (membW m) best=true then membW m else best:=rfl
  have h75:=c75 ⟨[S0,F.map u16,[.rsl 1 0 F.length F.length 1 true],[u16 m]],[]⟩ 76 rfl [.ptr 3 0,.ptr 2 0] (tAV (membW m)) (membW m) (by omega) (zq I true _) (fun i h=>z0l I true _ i h) (fun i=> !wiN m (F.getD i.toNat 0)) (fun x hx=>c76 S0 F hF m (by omega) x (hmr x hx))
  have hlo:lenAV (tAV (membW m))=some (J (membW m).length):=zq I true _
  have hlb:lenAV (tAV best)=some (J best.length):=zq I true _
  have h42:=fun st=>c42 true true (membW m) best (by omega) st
  have h42': ∀st,run L 42 [tAV (membW m),tAV best] st=some (I (cmpN (membW m) best),st):=h42
  have hcl:=zgf (membW m) best
  generalize membW m=own at*
  rw [he] at hsl⊢
  by_cases p1:own.length<best.length
  ·have q1:((own.length:Int)<(best.length:Int))=True:=eT (by omega)
   rw [if_pos p1]
   simp only [go_sem,lp18_2,hlt,hs,hw,h74,hlo,hlb,q1]
   refine ⟨(m+1,best),by simp only [go_sem,z3,z4,z5,hS1,hS2,z1q,z06,zt]<;>rfl,?_,?_,fun x en s hq=> ?_⟩
   ·dsimp only;exact ⟨by omega,h2⟩
   ·dsimp only;omega
   ·exact hq
  ·have q1:((own.length:Int)<(best.length:Int))=False:=eF (by omega)
   rw [if_neg p1] at hsl⊢
   cases p2:own.any (fun i=> !wiN m (F.getD i.toNat 0)) with
   |true=>
    rw [p2] at h75
    rw [if_pos rfl]
    simp only [go_sem,lp18_2,hlt,hs,hw,h74,hlo,hlb,q1,h75]
    refine ⟨(m+1,best),by simp only [go_sem,z3,z4,z5,hS1,hS2,z1q,z06,zt]<;>rfl,?_,?_,fun x en s hq=> ?_⟩
    ·dsimp only;exact ⟨by omega,h2⟩
    ·dsimp only;omega
    ·exact hq
   |false=>
    rw [p2] at h75 hsl
    rw [if_neg (by simp)] at hsl⊢
    by_cases p3:best.length<own.length
    ·have q3:((best.length:Int)<(own.length:Int))=True:=eT (by omega)
     rw [if_pos p3] at hsl⊢
     simp only [go_sem,lp18_2,hlt,hs,hw,h74,hlo,hlb,q1,h75,q3]
     refine ⟨(m+1,own),by simp only [go_sem,z3,z4,z5,hS1,hS2,z1q,z06,zt]<;>rfl,?_,?_,fun x en s hq=> ?_⟩
     ·dsimp only;exact ⟨by omega,hsl⟩
     ·dsimp only;omega
     ·exact hq
    ·have q3:((best.length:Int)<(own.length:Int))=False:=eF (by omega)
     rw [if_neg p3] at hsl⊢
     cases p4:lexLt own best with
     |true=>
      rw [p4] at hcl hsl
      rw [if_pos rfl] at hsl⊢
      have q4:(cmpN own best<0)=True:=eT (of_decide_eq_true hcl)
      simp only [go_sem,lp18_2,hlt,hs,hw,h74,hlo,hlb,q1,h75,q3,h42',q4]
      refine ⟨(m+1,own),by simp only [go_sem,z3,z4,z5,hS1,hS2,z1q,z06,zt]<;>rfl,?_,?_,fun x en s hq=> ?_⟩
      ·dsimp only;exact ⟨by omega,hsl⟩
      ·dsimp only;omega
      ·exact hq
     |false=>
      rw [p4] at hcl hsl
      rw [if_neg (by simp)] at hsl⊢
      have q4:(cmpN own best<0)=False:=eF (of_decide_eq_false hcl)
      simp only [go_sem,lp18_2,hlt,hs,hw,h74,hlo,hlb,q1,h75,q3,h42',q4]
      refine ⟨(m+1,best),by simp only [go_sem,z3,z4,z5,hS1,hS2,z1q,z06,zt]<;>rfl,?_,?_,fun x en s hq=> ?_⟩
      ·dsimp only;exact ⟨by omega,hsl⟩
      ·dsimp only;omega
      ·exact hq
 ·have hr:N-m=0:=by omega
  have hlt:((m:Int)<(N:Int))=False:=eF (by omega)
  rw [hr]
  simp only [go_sem,lp18_2,hlt]
  rfl
def mostW (ss:List Nat):List Int:=mostG (ss.map (frN ss)) ss.length
theorem c18w (n:Nat)(h2:2≤n)(hn:n≤8)(nl:Bool)(X:List Nat)(hX: ∀v∈X,v<2^n∧v≠0∧v≠2^n-1)(hnd:(X.map (smlN n)).Nodup)(hl:X.length≤13)(st:St):
  run L 18 [J n,sl 1 nl (X.map tM)] st=some (.tup [tAV (mostW (X.map (smlN n))),I 0],st):=by
 by_cases h0:X=[]
 ·subst h0
  exact c18z n h2 hn nl st
 rw [run_pure (fn:=ir18) rfl rfl]
 have h70:=c70 n h2 hn nl X hX hnd (by omega)
 have hss: ∀x∈X.map (smlN n),x<256:=by
  intro x hx
  rw [List.mem_map] at hx
  obtain ⟨v,hv,rfl⟩:=hx
  exact Nat.lt_of_lt_of_le (z1o (hX v hv).1) (Nat.pow_le_pow_right (n:=2) (by decide) hn)
 have hk:(X.map (smlN n)).length≤13:=by rw [lm_];exact hl
 have hne:X.map (smlN n)≠[]:=by simpa using h0
 have hXl:X.length=(X.map (smlN n)).length:=by rw [lm_]
 have hm:mostW (X.map (smlN n))=mostG ((X.map (smlN n)).map (frN (X.map (smlN n)))) (X.map (smlN n)).length:=rfl
 rw [hm]
 rw [zbo hne,za4 hne] at h70
 generalize X.map (smlN n)=ss at*
 have hsv:=zay 0 ss
 have hmk: ∀S T,makeAV 1 true [.v (.int .u16 0)] ⟨S,T⟩ (J ss.length) (J ss.length)=some (.rsl S.length 0 ss.length ss.length 1 true,⟨S++ [(List.replicate ss.length 0).map u16],T⟩):=by
  intro S T
  simp only [makeAV,natOf]
  have:ss.length≤maxGrow:=by unfold maxGrow;omega
  simp [this]
 have hsh:=shl_i ss.length (by omega)
 have hF: ∀f∈ss.map (frN ss),f<65536:=by
  intro f hf
  rw [List.mem_map] at hf
  obtain ⟨a,_,rfl⟩:=hf
  exact Nat.lt_of_lt_of_le (ze4 ss a ss.length) (Nat.le_trans (Nat.pow_le_pow_right (by omega) hk) (by decide))
 have hFl:(ss.map (frN ss)).length=ss.length:=by simp
 simp only [ir18,go_sem,h70,show pure 70=false from rfl,shStore,shV,shVs,hsv,hmk,lm_]
 generalize hg:lim (headed pure (run L) true _ lp18_1 _ _) _ _=o
 obtain ⟨x,en,s,rfl,h2⟩: ∃x en s,o=some (x,en,s)∧_:=by rw [←hg];exact zkb ss hss hk 0 (List.replicate ss.length 0) ⟨by omega,by simp⟩ _ _ (by simp only [go_sem,zr,zn,z1q,z06,Int.natCast_zero]<;>rfl)
 clear hg
 obtain ⟨rfl,e6,e8,rfl⟩:=h2
 simp only [go_sem,e6,e8,hsh]
 generalize hFe:ss.map (frN ss)=F at*
 rw [←hFl]
 generalize hg:lim (headed pure (run L) true _ lp18_2 _ _) _ _=o
 obtain ⟨x,en,s,rfl,h2⟩: ∃x en s,o=some (x,en,s)∧_:=by rw [←hg];exact zka (ss.map u8) (fun n=>zr n ss) (fun n T acc=>zn n T acc ss) F hF (by omega) 0 [] ⟨Nat.zero_le _,by simp⟩ _ _ (by simp only [go_sem,e8,zr,zn,z1q,z06,Int.natCast_zero,hFl,show AV.v (.slice none 0 0)=tAV [] from rfl,zt]<;>rfl)
 clear hg
 obtain ⟨rfl,e13⟩:=h2
 simp only [go_sem,e13,z73,fins,mostG,zox,Nat.sub_zero]
theorem zor (p:List Int)(x y:List Int):lexLt (p++x) (p++y)=lexLt x y:=by
 induction p with
 |nil=>rfl
 |cons a p ih=>
  show (decide (a<a)||(decide (a=a)&&lexLt (p++x) (p++y)))=_
  rw [ih];simp
def highW (i m:Nat):List Int:=((List.range' i (14-i)).filter m.testBit).map fun (j:Nat)=>(j:Int)
theorem z5l (i m:Nat)(hi:i≤14):membW m=membW (m % 2^i)++highW i m:=by
 have hr:List.range 14=List.range i++List.range' i (14-i):=by
  rw [List.range_eq_range',List.range_eq_range',show (14:Nat)=i+(14-i) by omega,←List.range'_append_1]
  simp
 have h1:(List.range i).filter m.testBit=(List.range i).filter (m % 2^i).testBit:=by
  apply List.filter_congr
  intro j hj
  rw [Nat.testBit_mod_two_pow,decide_eq_true (List.mem_range.1 hj),Bool.true_and]
 have h2:(List.range' i (14-i)).filter (m % 2^i).testBit=[]:=by
  rw [List.filter_eq_nil_iff]
  intro j hj
  rw [List.mem_range'_1] at hj
  rw [Nat.testBit_mod_two_pow,decide_eq_false (by omega)];simp
 unfold membW highW
 rw [hr,List.filter_append,List.filter_append,h1,h2,List.append_nil,List.map_append]
theorem zh9 {i m:Nat} {a:Int}:a∈highW i m↔∃j:Nat,a=j∧i≤j∧j<14∧m.testBit j=true:=by
 unfold highW
 rw [List.mem_map]
 constructor
 ·rintro ⟨j,hj,rfl⟩
  rw [List.mem_filter,List.mem_range'_1] at hj
  exact ⟨j,rfl,by omega,by omega,hj.2⟩
 ·rintro ⟨j,rfl,h1,h2,h3⟩
  exact ⟨j,by rw [List.mem_filter,List.mem_range'_1];exact ⟨by omega,h3⟩,rfl⟩
theorem zkj {i m:Nat} (hm:m<8192)(h:m≠m % 2^i):highW i m≠[]:=by
 obtain ⟨j,hj⟩: ∃j,m.testBit j≠(m % 2^i).testBit j:=by
  apply Classical.byContradiction;intro hno
  apply h
  apply Nat.eq_of_testBit_eq
  intro j
  apply Classical.byContradiction;intro h2
  exact hno ⟨j,h2⟩
 rw [Nat.testBit_mod_two_pow] at hj
 have hij:i≤j:=by
  apply Nat.le_of_not_lt;intro hl
  rw [decide_eq_true hl,Bool.true_and] at hj
  exact hj rfl
 rw [decide_eq_false (by omega),Bool.false_and] at hj
 have hb:m.testBit j=true:=by simpa using hj
 have h14:j<14:=by
  apply Nat.lt_of_not_le;intro h9
  rw [Nat.testBit_lt_two_pow (Nat.lt_of_lt_of_le hm (show 8192≤2^j from Nat.le_trans (by decide) (Nat.pow_le_pow_right (n:=2) (by decide) h9)))] at hb
  cases hb
 intro e
 have:(j:Int)∈highW i m:=zh9.2 ⟨j,rfl,hij,h14,hb⟩
 rw [e] at this;cases this
theorem zki {i m:Nat} (hi:i<14)(h:m.testBit i=true): ∃r,highW i m=(i:Int)::r:=by
 refine ⟨highW (i+1) m,?_⟩
 unfold highW
 rw [show 14-i=(14-(i+1))+1 by omega,List.range'_succ,List.filter_cons,if_pos h];rfl
theorem zoq {i m l:Nat} (hi:i<14)(hm:m<8192)(he:m % 2^i=l % 2^i)(hl:l.testBit i=true)(hmi:m.testBit i=false)(hne:m≠m % 2^i):lexLt (membW m) (membW l)=false:=by
 rw [z5l i m (by omega),z5l i l (by omega),he,zor]
 obtain ⟨r,hr⟩:=zki hi hl
 rw [hr]
 cases hh:highW i m with
 |nil=>exact absurd hh (zkj hm hne)
 |cons a s=>
  obtain ⟨j,rfl,h1,h2,h3⟩:=zh9.1 (show a∈highW i m by rw [hh];simp)
  have hji:j≠i:=by rintro rfl;rw [hmi] at h3;cases h3
  show (decide ((j:Int)<(i:Int))||(decide ((j:Int)=(i:Int))&&lexLt s r))=false
  rw [decide_eq_false (by omega),decide_eq_false (by omega)];rfl
theorem zh6 {i m:Nat} (hi:i≤14)(hm:m<8192)(hne:m≠m % 2^i):(membW (m % 2^i)).length<(membW m).length:=by
 rw [z5l i m hi,List.length_append]
 have:=List.length_pos_iff.2 (zkj hm hne)
 omega
theorem z6u {b i:Nat} (hb:b<2^i):(b|||2^i) % 2^i=b∧(b|||2^i).testBit i=true∧b|||2^i<2^(i+1):=by
 have hp:2^i<2^(i+1):=Nat.pow_lt_pow_right (by omega) (by omega)
 refine ⟨?_,?_,Nat.or_lt_two_pow (by omega) hp⟩
 ·apply Nat.eq_of_testBit_eq;intro j
  rw [Nat.testBit_mod_two_pow,Nat.testBit_or,Nat.testBit_two_pow]
  by_cases h:j<i
  ·rw [decide_eq_true h,decide_eq_false (by omega)];simp
  ·rw [decide_eq_false h,Nat.testBit_lt_two_pow (Nat.lt_of_lt_of_le hb (Nat.pow_le_pow_right (by omega) (by omega)))];rfl
 ·rw [Nat.testBit_or,Nat.testBit_two_pow];simp
theorem zm5 {b i:Nat} (hb:b<2^i)(hi:i<14):membW (b|||2^i)=membW b++ [(i:Int)]:=by
 obtain ⟨h1,h2,h3⟩:=z6u hb
 rw [z5l i _ (by omega),h1]
 congr 1
 unfold highW
 rw [show 14-i=(14-(i+1))+1 by omega,List.range'_succ,List.filter_cons,if_pos h2]
 have:(List.range' (i+1) (14-(i+1))).filter (b|||2^i).testBit=[]:=by
  rw [List.filter_eq_nil_iff]
  intro j hj
  rw [List.mem_range'_1] at hj
  rw [Nat.testBit_lt_two_pow (Nat.lt_of_lt_of_le h3 (Nat.pow_le_pow_right (by omega) (by omega)))];simp
 rw [this];rfl
def GoodW (ss:List Nat) (m:Nat):Prop:=m<2^ss.length∧∀i j,m.testBit i=true→m.testBit j=true→agN (ss.getD i 0) (ss.getD j 0)=true
def okM (ss:List Nat) (b i:Nat):Bool:=(membW b).all fun a=>agN (ss.getD a.toNat 0) (ss.getD i 0)
def loopM (ss:List Nat):Nat→Nat→Nat→Nat
 |0,_,best=>best
 |d+1,b,best=>loopM ss d b (if okM ss b (ss.length-(d+1))=true then (if (membW best).length<(membW (loopM ss d (b|||2^(ss.length-(d+1))) (b|||2^(ss.length-(d+1))))).length then loopM ss d (b|||2^(ss.length-(d+1))) (b|||2^(ss.length-(d+1))) else best) else best)
theorem zh4 {m k i:Nat} (hm:m<2^k)(h:m.testBit i=true):i<k:=by
 apply Nat.lt_of_not_le;intro h9
 rw [Nat.testBit_lt_two_pow (Nat.lt_of_lt_of_le hm (Nat.pow_le_pow_right (by omega) h9))] at h;cases h
theorem zjx {ss:List Nat} {b i:Nat} (hb:b<8192):okM ss b i=true↔∀j,b.testBit j=true→agN (ss.getD j 0) (ss.getD i 0)=true:=by
 unfold okM
 rw [List.all_eq_true]
 constructor
 ·intro h j hj
  have:=h (j:Int) ((z1s hb _).2 ⟨j,rfl,hj⟩)
  simpa using this
 ·intro h a ha
  obtain ⟨j,rfl,hj⟩:=(z1s hb a).1 ha
  simpa using h j hj
section
variable {ss:List Nat} (hk:ss.length≤13) (h8: ∀s∈ss,s<256)
include hk h8
theorem p13 {d:Nat}:2^(ss.length-d)≤8192:=Nat.le_trans (Nat.pow_le_pow_right (by omega) (show ss.length-d≤13 by omega)) (by decide)
theorem zow {b i:Nat} (hb:GoodW ss b)(hi:i<ss.length)(hbi:b<2^i)(ho:okM ss b i=true):GoodW ss (b|||2^i):=by
 obtain ⟨h1,h2,h3⟩:=z6u hbi
 refine ⟨Nat.lt_of_lt_of_le h3 (Nat.pow_le_pow_right (by omega) (by omega)),fun x y hx hy=> ?_⟩
 have hb8:b<8192:=Nat.lt_of_lt_of_le hb.1 (by have:=p13 (d:=0) hk h8;simpa using this)
 rw [zjx hb8] at ho
 rw [Nat.testBit_or,Nat.testBit_two_pow,Bool.or_eq_true,decide_eq_true_eq] at hx hy
 have hs:agN (ss.getD i 0) (ss.getD i 0)=true:=zn9 (h8 _ (z16 hi))
 rcases hx with hx|hx
 ·rcases hy with hy|hy
  ·exact hb.2 x y hx hy
  ·subst hy;exact ho x hx
 ·rcases hy with hy|hy
  ·subst hx;rw [zho];exact ho y hy
  ·subst hx;subst hy;exact hs
theorem z4w: ∀(d b best:Nat),d≤ss.length→b<2^(ss.length-d)→GoodW ss b→
  (∀m,GoodW ss m→m % 2^(ss.length-d)=b→m≠b→(membW m).length=(membW best).length→lexLt (membW m) (membW best)=false)→
  (loopM ss d b best=best∨(GoodW ss (loopM ss d b best)∧loopM ss d b best % 2^(ss.length-d)=b∧(membW best).length<(membW (loopM ss d b best)).length))∧
  (∀m,GoodW ss m→m % 2^(ss.length-d)=b→m≠b→(membW m).length<(membW (loopM ss d b best)).length∨((membW m).length=(membW (loopM ss d b best)).length∧lexLt (membW m) (membW (loopM ss d b best))=false))
 |0,b,best,_,hb,_,hP=>by
  refine ⟨.inl rfl,fun m hm he hne=> ?_⟩
  rw [Nat.sub_zero,Nat.mod_eq_of_lt hm.1] at he
  exact absurd he hne
 |d+1,b,best,hd,hb,hg,hP=>by
  have hi:ss.length-(d+1)<ss.length:=by omega
  have hdi:ss.length-d=ss.length-(d+1)+1:=by omega
  have p0:=p13 (d:=0) hk h8
  rw [Nat.sub_zero] at p0
  have e:loopM ss (d+1) b best=loopM ss d b (if okM ss b (ss.length-(d+1))=true then (if (membW best).length<(membW (loopM ss d (b|||2^(ss.length-(d+1))) (b|||2^(ss.length-(d+1))))).length then loopM ss d (b|||2^(ss.length-(d+1))) (b|||2^(ss.length-(d+1))) else best) else best):=rfl
  rw [e]
  generalize ss.length-(d+1)=i at*
  have hbi1:b<2^(ss.length-d):=by rw [hdi];exact Nat.lt_of_lt_of_le hb (Nat.pow_le_pow_right (by omega) (by omega))
  have split: ∀m,m % 2^i=b→(m.testBit i=true∧m % 2^(ss.length-d)=b|||2^i)∨(m.testBit i=false∧m % 2^(ss.length-d)=b):=by
   intro m hm
   rw [hdi]
   cases hc:m.testBit i
   ·right
    refine ⟨rfl,?_⟩
    apply Nat.eq_of_testBit_eq;intro j
    have:=congrArg (fun x=>x.testBit j) hm
    simp only [Nat.testBit_mod_two_pow] at this⊢
    by_cases hj:j=i
    ·subst hj;rw [hc,←this];simp
    ·rw [←this];by_cases h2:j<i
     ·rw [decide_eq_true h2,decide_eq_true (by omega)]
     ·rw [decide_eq_false h2,decide_eq_false (by omega)]
   ·left
    refine ⟨rfl,?_⟩
    apply Nat.eq_of_testBit_eq;intro j
    have:=congrArg (fun x=>x.testBit j) hm
    simp only [Nat.testBit_mod_two_pow] at this
    rw [Nat.testBit_mod_two_pow,Nat.testBit_or,Nat.testBit_two_pow,←this]
    by_cases hj:j=i
    ·subst hj;rw [hc];simp
    ·by_cases h2:j<i
     ·rw [decide_eq_true h2,decide_eq_true (by omega),decide_eq_false (by omega)];simp
     ·rw [decide_eq_false h2,decide_eq_false (by omega),decide_eq_false (by omega)];simp
  have back: ∀m,m % 2^(ss.length-d)=b→m % 2^i=b:=by
   intro m hm
   have:m % 2^(ss.length-d) % 2^i=b % 2^i:=by rw [hm]
   rw [Nat.mod_mod_of_dvd _ (Nat.pow_dvd_pow 2 (by omega)),Nat.mod_eq_of_lt hb] at this
   exact this
  have m8: ∀m,GoodW ss m→m<8192:=fun m hm=>Nat.lt_of_lt_of_le hm.1 p0
  by_cases ho:okM ss b i=true
  ·rw [if_pos ho]
   obtain ⟨o1,o2,o3⟩:=z6u hb
   have hg':=zow hk h8 hg hi hb ho
   have hb':b|||2^i<2^(ss.length-d):=by rw [hdi];exact o3
   have ih:=z4w d (b|||2^i) (b|||2^i) (by omega) hb' hg' (fun m hm he hne hl=>by
    have:=zh6 (i:=ss.length-d) (m:=m) (by omega) (m8 m hm) (by rw [he];exact hne)
    rw [he] at this;omega)
   have hlp:lexLt (membW (b|||2^i)) (membW (b|||2^i))=false:=z28 _
   generalize loopM ss d (b|||2^i) (b|||2^i)=l at*
   obtain ⟨ih1,ih2⟩:=ih
   have hlg:GoodW ss l∧l % 2^(ss.length-d)=b|||2^i:=by
    rcases ih1 with h| ⟨h1,h2,_⟩
    ·rw [h];exact ⟨hg',Nat.mod_eq_of_lt hb'⟩
    ·exact ⟨h1,h2⟩
   have hlb: ∀m,GoodW ss m→m % 2^(ss.length-d)=b|||2^i→(membW m).length<(membW l).length∨((membW m).length=(membW l).length∧lexLt (membW m) (membW l)=false):=by
    intro m hm he
    by_cases hne:m=b|||2^i
    ·subst hne
     rcases ih1 with h| ⟨_,_,h3⟩
     ·rw [h];exact .inr ⟨rfl,hlp⟩
     ·exact .inl h3
    ·exact ih2 m hm he hne
   have hli:l % 2^i=b∧l.testBit i=true:=by
    have h1:l % 2^(ss.length-d) % 2^i=(b|||2^i) % 2^i:=by rw [hlg.2]
    rw [Nat.mod_mod_of_dvd _ (Nat.pow_dvd_pow 2 (by omega)),o1] at h1
    have h2:(l % 2^(ss.length-d)).testBit i=true:=by rw [hlg.2];exact o2
    rw [Nat.testBit_mod_two_pow,decide_eq_true (by omega),Bool.true_and] at h2
    exact ⟨h1,h2⟩
   have hlne:l≠b:=by
    intro h
    have:=hli.2
    rw [h,Nat.testBit_lt_two_pow hb] at this;cases this
   by_cases hlen:(membW best).length<(membW l).length
   ·rw [if_pos hlen]
    have ih2:=z4w d b l (by omega) hbi1 hg (fun m hm he hne _=>by
     have hm0:=back m he
     have hmb:m.testBit i=false:=by
      have:=congrArg (fun x=>x.testBit i) he
      simp only [Nat.testBit_mod_two_pow,decide_eq_true (show i<ss.length-d by omega),Bool.true_and] at this
      rw [this,Nat.testBit_lt_two_pow hb]
     exact zoq (by omega) (m8 m hm) (by rw [hm0,hli.1]) hli.2 hmb (by rw [hm0];exact hne))
    generalize loopM ss d b l=r at*
    obtain ⟨j1,j2⟩:=ih2
    refine ⟨?_,?_⟩
    ·right
     rcases j1 with h| ⟨h1,h2,h3⟩
     ·rw [h];exact ⟨hlg.1,hli.1,hlen⟩
     ·exact ⟨h1,back r h2,by omega⟩
    ·intro m hm he hne
     rcases split m he with ⟨hc,h2⟩ | ⟨hc,h2⟩
     ·have h3:=hlb m hm h2
      rcases j1 with h| ⟨_,_,h4⟩
      ·rw [h];exact h3
      ·left;rcases h3 with h3| ⟨h3,_⟩ <;>omega
     ·exact j2 m hm h2 hne
   ·rw [if_neg hlen]
    have ih2:=z4w d b best (by omega) hbi1 hg (fun m hm he hne hl=>hP m hm (back m he) hne hl)
    generalize loopM ss d b best=r at*
    obtain ⟨j1,j2⟩:=ih2
    refine ⟨?_,?_⟩
    ·rcases j1 with h| ⟨h1,h2,h3⟩
     ·exact .inl h
     ·exact .inr ⟨h1,back r h2,h3⟩
    ·intro m hm he hne
     rcases split m he with ⟨hc,h2⟩ | ⟨hc,h2⟩
     ·have h3:=hlb m hm h2
      rcases j1 with h| ⟨_,_,h4⟩
      ·rw [h]
       by_cases h5:(membW m).length=(membW best).length
       ·exact .inr ⟨h5,hP m hm he hne h5⟩
       ·left;rcases h3 with h3| ⟨h3,_⟩ <;>omega
      ·left;rcases h3 with h3| ⟨h3,_⟩ <;>omega
     ·exact j2 m hm h2 hne
  ·rw [if_neg ho]
   have ih2:=z4w d b best (by omega) hbi1 hg (fun m hm he hne hl=>hP m hm (back m he) hne hl)
   generalize loopM ss d b best=r at*
   obtain ⟨j1,j2⟩:=ih2
   refine ⟨?_,?_⟩
   ·rcases j1 with h| ⟨h1,h2,h3⟩
    ·exact .inl h
    ·exact .inr ⟨h1,back r h2,h3⟩
   ·intro m hm he hne
    rcases split m he with ⟨hc,h2⟩ | ⟨hc,h2⟩
    ·exfalso
     apply ho
     rw [zjx (m8 b hg)]
     intro j hj
     have hjm:m.testBit j=true:=by
      have:=congrArg (fun x=>x.testBit j) he
      simp only [Nat.testBit_mod_two_pow] at this
      rw [hj,Bool.and_eq_true] at this
      exact this.2
     exact hm.2 j i hjm hc
    ·exact j2 m hm h2 hne
def BestW (ss:List Nat) (l:List Int):Prop:=(∃m,GoodW ss m∧l=membW m)∧∀m,GoodW ss m→(membW m).length<l.length∨((membW m).length=l.length∧lexLt (membW m) l=false)
omit hk h8 in
theorem BestW.uniq {l k:List Int} (h1:BestW ss l)(h2:BestW ss k):l=k:=by
 obtain ⟨⟨a,ga,rfl⟩,ha⟩:=h1
 obtain ⟨⟨b,gb,rfl⟩,hb⟩:=h2
 rcases ha b gb with h| ⟨h,h3⟩
 ·rcases hb a ga with h2| ⟨h2,_⟩ <;>omega
 ·rcases hb a ga with h2| ⟨_,h4⟩
  ·omega
  ·exact z9d _ _ h4 h3
omit hk h8 in
theorem zbr:GoodW ss 0:=⟨Nat.two_pow_pos _,fun i j h _=>by rw [Nat.zero_testBit] at h;cases h⟩
theorem zig:BestW ss (membW (loopM ss ss.length 0 0)):=by
 have p0:=p13 (d:=0) hk h8
 rw [Nat.sub_zero] at p0
 have h:=z4w hk h8 ss.length 0 0 (Nat.le_refl _) (by rw [Nat.sub_self];decide) zbr (fun m hm _ hne hl=>by
  have:=zh6 (i:=0) (m:=m) (by omega) (Nat.lt_of_lt_of_le hm.1 p0) (by rw [Nat.pow_zero,Nat.mod_one];exact hne)
  rw [Nat.pow_zero,Nat.mod_one] at this;omega)
 rw [Nat.sub_self,Nat.pow_zero] at h
 obtain ⟨h1,h2⟩:=h
 refine ⟨?_,fun m hm=> ?_⟩
 ·rcases h1 with h| ⟨h,_,_⟩
  ·exact ⟨0,zbr,by rw [h]⟩
  ·exact ⟨_,h,rfl⟩
 ·by_cases hne:m=0
  ·subst hne
   rcases h1 with h| ⟨_,_,h⟩
   ·rw [h];exact .inr ⟨rfl,z28 _⟩
   ·exact .inl h
  ·exact h2 m hm (Nat.mod_one m) hne
theorem zn7 {m:Nat} (hm:m<2^ss.length):((membW m).any (fun i=> !wiN m ((ss.map (frN ss)).getD i.toNat 0))=true)↔¬GoodW ss m:=by
 have p0:=p13 (d:=0) hk h8
 rw [Nat.sub_zero] at p0
 have key: ∀i,m.testBit i=true→(wiN m ((ss.map (frN ss)).getD i 0)=true↔∀j,m.testBit j=true→agN (ss.getD i 0) (ss.getD j 0)=true):=by
  intro i hi
  have hik:=zh4 hm hi
  have hg:(ss.map (frN ss)).getD i 0=frN ss (ss.getD i 0):=by simp [List.getD_eq_getElem?_getD,hik]
  have hf:frN ss (ss.getD i 0)<65536:=Nat.lt_of_lt_of_le (ze4 ss _ ss.length) (Nat.le_trans p0 (by decide))
  rw [hg,znj (by omega) hf]
  constructor
  ·intro h j hj
   have:=h j hj
   unfold frN at this
   rw [ze5,Bool.and_eq_true] at this
   exact this.2
  ·intro h j hj
   unfold frN
   rw [ze5,decide_eq_true (zh4 hm hj),h j hj];rfl
 rw [List.any_eq_true]
 constructor
 ·rintro ⟨a,ha,hb⟩ hgd
  obtain ⟨i,rfl,hi⟩:=(z1s (by omega) a).1 ha
  rw [Int.toNat_natCast,Bool.not_eq_true',←Bool.not_eq_true,key i hi] at hb
  exact hb (fun j hj=>hgd.2 i j hi hj)
 ·intro hn
  apply Classical.byContradiction;intro hno
  apply hn
  refine ⟨hm,fun i j hi hj=> ?_⟩
  have: ¬((!wiN m ((ss.map (frN ss)).getD i 0))=true):=fun h=>hno ⟨(i:Int),(z1s (by omega) _).2 ⟨i,rfl,hi⟩,by simpa using h⟩
  rw [Bool.not_eq_true',Bool.not_eq_false,key i hi] at this
  exact this j hj
theorem zd6: ∀(k s:Nat) (best:List Int),s+k=2^ss.length→
  (s=0∧best=[]∨(∃m,GoodW ss m∧best=membW m)∧∀m,m<s→GoodW ss m→(membW m).length<best.length∨((membW m).length=best.length∧lexLt (membW m) best=false))→
  BestW ss ((List.range' s k).foldl (stepB (ss.map (frN ss))) best)∨k=0∧s=0
 |0,s,best,hs,h=>by
  rcases h with ⟨h,_⟩ | ⟨h1,h2⟩
  ·exact .inr ⟨rfl,h⟩
  ·exact .inl ⟨h1,fun m hm=>h2 m (by have:=hm.1;omega) hm⟩
 |k+1,s,best,hs,h=>by
  rw [List.range'_succ,List.foldl_cons]
  have hsl:s<2^ss.length:=by omega
  have hag:=zn7 hk h8 hsl
  have he:stepB (ss.map (frN ss)) best s=if (membW s).length<best.length then best else if (membW s).any (fun i=> !wiN s ((ss.map (frN ss)).getD i.toNat 0))=true then best else if best.length<(membW s).length then membW s else if lexLt (membW s) best=true then membW s else best:=rfl
  have hnext:(∃m,GoodW ss m∧stepB (ss.map (frN ss)) best s=membW m)∧∀m,m<s+1→GoodW ss m→(membW m).length<(stepB (ss.map (frN ss)) best s).length∨((membW m).length=(stepB (ss.map (frN ss)) best s).length∧lexLt (membW m) (stepB (ss.map (frN ss)) best s)=false):=by
   rcases h with ⟨h0,hb⟩ | ⟨⟨mb,gb,hb⟩,h2⟩
   ·subst h0;subst hb
    have e0:membW 0=[]:=by decide
    have:stepB (ss.map (frN ss)) [] 0=[]:=by
     rw [he,e0];simp [lexLt]
    rw [this]
    refine ⟨⟨0,zbr,e0.symm⟩,fun m hm _=> ?_⟩
    have:m=0:=by omega
    subst this
    rw [e0];exact .inr ⟨rfl,rfl⟩
   ·rw [he]
    by_cases c1:(membW s).length<best.length
    ·rw [if_pos c1]
     refine ⟨⟨mb,gb,hb⟩,fun m hm hg=> ?_⟩
     by_cases e:m=s
     ·subst e;exact .inl c1
     ·exact h2 m (by omega) hg
    ·rw [if_neg c1]
     by_cases c2:(membW s).any (fun i=> !wiN s ((ss.map (frN ss)).getD i.toNat 0))=true
     ·rw [if_pos c2]
      refine ⟨⟨mb,gb,hb⟩,fun m hm hg=> ?_⟩
      by_cases e:m=s
      ·subst e;exact absurd hg (hag.1 c2)
      ·exact h2 m (by omega) hg
     ·rw [if_neg c2]
      have gs:GoodW ss s:=by
       apply Classical.byContradiction;intro hn;exact c2 (hag.2 hn)
      by_cases c3:best.length<(membW s).length
      ·rw [if_pos c3]
       refine ⟨⟨s,gs,rfl⟩,fun m hm hg=> ?_⟩
       by_cases e:m=s
       ·subst e;exact .inr ⟨rfl,z28 _⟩
       ·left;rcases h2 m (by omega) hg with h| ⟨h,_⟩ <;>omega
      ·rw [if_neg c3]
       by_cases c4:lexLt (membW s) best=true
       ·rw [if_pos c4]
        refine ⟨⟨s,gs,rfl⟩,fun m hm hg=> ?_⟩
        by_cases e:m=s
        ·subst e;exact .inr ⟨rfl,z28 _⟩
        ·rcases h2 m (by omega) hg with h| ⟨h,h3⟩
         ·left;omega
         ·right;exact ⟨by omega,zh5 (zf8 c4) h3⟩
       ·rw [if_neg c4]
        refine ⟨⟨mb,gb,hb⟩,fun m hm hg=> ?_⟩
        by_cases e:m=s
        ·subst e;exact .inr ⟨by omega,by simpa using c4⟩
        ·exact h2 m (by omega) hg
  rcases zd6 k (s+1) _ (by omega) (.inr hnext) with h| ⟨h1,h2⟩
  ·exact .inl h
  ·omega
theorem zic:BestW ss (mostW ss):=by
 have hl:(ss.map (frN ss)).length=ss.length:=by simp
 unfold mostW mostG
 rcases zd6 hk h8 (2^ss.length) 0 [] (by omega) (.inl ⟨rfl,rfl⟩) with h| ⟨h,_⟩
 ·exact h
 ·have:=Nat.two_pow_pos ss.length;omega
theorem zk2:mostW ss=membW (loopM ss ss.length 0 0):=(zic hk h8).uniq (zig hk h8)
end
attribute [local go_sem] m_ x_ l_ k_ o_ t_ a_ s_ q_ b_ c_ u_ g_ zk z9 zf zm z09 z08 zd zi zh z6 zg z07 z00 z0m z0k zp z0j z4f
def okL (ss:List Nat) (l:List Int) (i:Nat):Bool:=l.all fun a=>agN (ss.getD a.toNat 0) (ss.getD i 0)
theorem zm8 (n:Nat)(h1n:1≤n)(hn:n≤8)(nl:Bool)(X:List Nat)(hX: ∀v∈X,v<2^n)(hl:X.length≤13)(b:List Int)(hb: ∀a∈b,0≤a∧a<(X.length:Int))(hbl:b.length≤14)(i:Nat)(hi:i<X.length)(best:List Int)(j:Nat)(t:Bool)(hok:j≤b.length)(env:Env)(st:St)
  (hg:gcAV true 0 0 (canon env [0,1,2,9,10,11,12]) st=([(0,J n),(1,sl 1 nl (X.map tM)),(2,tAV b),(9,tAV best),(10,J i),(11,B t),(12,J j)],⟨[],[]⟩)):
  ∃x_1 en s,lim (headed pure (run L) true [0,1,2,9,10,11,12] lp78_0 0 0) env st=some (x_1,en,s)∧(x_1=.exit 2∧en.get 0=J n∧en.get 1=sl 1 nl (X.map tM)∧en.get 2=tAV b∧en.get 9=tAV best∧en.get 10=J i∧en.get 11=B (t&&okL (X.map (smlN n)) (b.drop j) i)∧s=⟨[],[]⟩):=by
 refine zb (α:=Nat×Bool) (fun ⟨j,t⟩=>b.length-j) (fun ⟨j,t⟩=>j≤b.length) (fun ⟨j,t⟩=>([(0,J n),(1,sl 1 nl (X.map tM)),(2,tAV b),(9,tAV best),(10,J i),(11,B t),(12,J j)],⟨[],[]⟩)) (fun ⟨j,t⟩ x_1 en s=>x_1=.exit 2∧en.get 0=J n∧en.get 1=sl 1 nl (X.map tM)∧en.get 2=tAV b∧en.get 9=tAV best∧en.get 10=J i∧en.get 11=B (t&&okL (X.map (smlN n)) (b.drop j) i)∧s=⟨[],[]⟩) (fun ⟨j,t⟩ hok=> ?_) ⟨j,t⟩ hok env st hg
 simp only at hok
 dsimp only
 have hlb:lenAV (tAV b)=some (J b.length):=zq I true b
 by_cases h:j<b.length
 ·have hs:=zj j (by omega)
  have hlt:((j:Int)<(b.length:Int))=True:=eT (by omega)
  have hx:indexSAV 1 (tAV b) (.v (.int .i64 (j:Int)))=some (.eptr (I b[j]) 0):=zl true b j h
  have hr:=hb b[j] (List.getElem_mem h)
  have hd:b.drop j=b[j]::b.drop (j+1):=List.drop_eq_getElem_cons h
  rw [hd]
  generalize b[j]=a at*
  obtain ⟨a,rfl⟩:=Int.eq_ofNat_of_zero_le hr.1
  have hxa:=z0l tM nl X a (by omega)
  have hxi:=z0l tM nl X i hi
  have ga:(X.map (smlN n)).getD a 0=smlN n (X[a]'(by omega)):=by simp [List.getD_eq_getElem?_getD,show a<X.length by omega]
  have gi:(X.map (smlN n)).getD i 0=smlN n X[i]:=by simp [List.getD_eq_getElem?_getD,hi]
  have hva:=hX (X[a]'(by omega)) (List.getElem_mem _)
  have hvi:=hX X[i] (List.getElem_mem hi)
  have hok:okL (X.map (smlN n)) ((a:Int)::b.drop (j+1)) i=(agN ((X.map (smlN n)).getD a 0) ((X.map (smlN n)).getD i 0)&&okL (X.map (smlN n)) (b.drop (j+1)) i):=rfl
  rw [hok,ga,gi]
  have h72:=fun st=>c72M n h1n hn (X[a]'(by omega)) X[i] hva hvi st
  generalize agN (smlN n (X[a]'(by omega))) (smlN n X[i])=z at*
  generalize X[a]'(by omega)=va at*
  generalize X[i]=vi at*
  cases t with
  |false=>
   rw [Bool.false_and]
   simp only [go_sem,lp78_0,hlb,hlt,hs]
   refine ⟨(j+1,false),by simp only [go_sem,z3,z4,z5,zt]<;>rfl,?_,?_,fun x en s hq=> ?_⟩
   ·dsimp only;omega
   ·dsimp only;omega
   ·dsimp only at hq;rw [Bool.false_and] at hq;exact hq
  |true=>
   rw [Bool.true_and]
   simp only [go_sem,lp78_0,hlb,hlt,hs,hx,hxa,hxi,h72]
   refine ⟨(j+1,z),by simp only [go_sem,z3,z4,z5,zt]<;>rfl,?_,?_,fun x en s hq=> ?_⟩
   ·dsimp only;omega
   ·dsimp only;omega
   ·exact hq
 ·have hlt:((j:Int)<(b.length:Int))=False:=eF (by omega)
  have e:b.drop j=[]:=List.drop_eq_nil_of_le (by omega)
  rw [e,show okL (X.map (smlN n)) [] i=true from rfl,Bool.and_true]
  simp only [go_sem,lp78_0,hlb,hlt]
theorem zm7 (n:Nat)(h1n:1≤n)(hn:n≤8)(nl:Bool)(X:List Nat)(hX: ∀v∈X,v<2^n)(hl:X.length≤13)(D:Nat)(hD:D≤X.length)(hrec: ∀d b,d<D→b<2^(X.length-d)→∀st,run L 78 [J n,sl 1 nl (X.map tM),tAV (membW b),J (X.length-d:Nat)] st=some (tAV (membW (loopM (X.map (smlN n)) d b b)),st))(b:Nat)(hb:b<2^(X.length-D))(d:Nat)(best:Nat)(hok:d≤D)(env:Env)(st:St)
  (hg:gcAV true 0 0 (canon env [0,1,2,9,10]) st=([(0,J n),(1,sl 1 nl (X.map tM)),(2,tAV (membW b)),(9,tAV (membW best)),(10,J (X.length-d:Nat))],⟨[],[]⟩)):
  ∃x_1 en s,lim (headed pure (run L) true [0,1,2,9,10] lp78_1 0 0) env st=some (x_1,en,s)∧(x_1=.exit 0∧en.get 9=tAV (membW (loopM (X.map (smlN n)) d b best))):=by
 refine zb (α:=Nat×Nat) (fun ⟨d,best⟩=>d) (fun ⟨d,best⟩=>d≤D) (fun ⟨d,best⟩=>([(0,J n),(1,sl 1 nl (X.map tM)),(2,tAV (membW b)),(9,tAV (membW best)),(10,J (X.length-d:Nat))],⟨[],[]⟩)) (fun ⟨d,best⟩ x_1 en s=>x_1=.exit 0∧en.get 9=tAV (membW (loopM (X.map (smlN n)) d b best))) (fun ⟨d,best⟩ hok=> ?_) ⟨d,best⟩ hok env st hg
 simp only at hok
 dsimp only
 have hll:=zq tM nl X
 cases d with
 |zero=>
  have hlt:(((X.length-0:Nat):Int)<(X.length:Int))=False:=eF (by omega)
  simp only [go_sem,lp78_1,hll,hlt]
  rfl
 |succ d=>
  have hp:2^(X.length-D)≤2^(X.length-(d+1)):=Nat.pow_le_pow_right (by omega) (by omega)
  have hp13:2^(X.length-D)≤8192:=Nat.le_trans (Nat.pow_le_pow_right (by omega) (show X.length-D≤13 by omega)) (by decide)
  have hi:X.length-(d+1)<X.length:=by omega
  have hdi:X.length-d=X.length-(d+1)+1:=by omega
  have hle:(X.map (smlN n)).length=X.length:=List.length_map ..
  have hbr: ∀a∈membW b,0≤a∧a<(X.length:Int):=by
   intro a ha
   obtain ⟨j,rfl,hj⟩:=(z1s (by omega) a).1 ha
   have:=zh4 hb hj
   omega
  have hbl:=z6x b
  have hlm:loopM (X.map (smlN n)) (d+1) b best=loopM (X.map (smlN n)) d b (if okM (X.map (smlN n)) b (X.length-(d+1))=true then (if (membW best).length<(membW (loopM (X.map (smlN n)) d (b|||2^(X.length-(d+1))) (b|||2^(X.length-(d+1))))).length then loopM (X.map (smlN n)) d (b|||2^(X.length-(d+1))) (b|||2^(X.length-(d+1))) else best) else best):=by
   rw [←hle];rfl
  have hs:IntKind.i64.wrap (((X.length-(d+1):Nat):Int)+1)=((X.length-d:Nat):Int):=by rw [z04]<;>omega
  have hlt:(((X.length-(d+1):Nat):Int)<(X.length:Int))=True:=eT (by omega)
  have hr:=hrec d (b|||2^(X.length-(d+1))) (by omega) (by rw [hdi];exact (z6u (by omega)).2.2)
  rw [zm5 (by omega) (by omega)] at hr
  have hok:okM (X.map (smlN n)) b (X.length-(d+1))=okL (X.map (smlN n)) (membW b) (X.length-(d+1)):=rfl
  rw [hlm,hok]
  generalize hie:X.length-(d+1)=i at*
  generalize loopM (X.map (smlN n)) d (b|||2^i) (b|||2^i)=l at*
  have hlo: ∀m,lenAV (tAV (membW m))=some (J (membW m).length):=fun m=>zq I true _
  have hl1:=hlo l
  have hl2:=hlo best
  have a1: ∀S,appendAV 1 (.lst .full 1 []) ((membW b).map I) ⟨S,[]⟩=some (pA ((membW b).map I),⟨S,oT ((membW b).map I)⟩):=fun S=>z9o [] ((membW b).map I) S (by simp;omega)
  have a2:=fun S=>z9o ((membW b).map I) [J i] S (by simp;omega)
  have hpo:pA ((membW b).map I++ [J i])=oA ((membW b).map I++ [J i]):=pA_ne (by simp)
  rw [hpo] at a2
  have hr2: ∀st,run L 78 [J n,sl 1 nl (X.map tM),oA ((membW b).map I++ [J i]),J (X.length-d:Nat)] st=some (tAV (membW l),st):=fun st=>
   (zdk (fn:=ir78) rfl rfl st (by
    simp only [pubs,List.map_cons,List.map_nil,z6s,z08,z07]
    unfold tAV
    rw [List.map_append,List.map_cons,List.map_nil])).trans (hr st)
  have hel: ∀st,elemsOf 1 st (tAV (membW b))=some ((membW b).map I):=fun st=>zgd I true (membW b) st
  simp only [go_sem,lp78_1,hll,hlt]
  generalize hg:lim (headed pure (run L) true _ lp78_0 _ _) _ _=o
  obtain ⟨x,en,s,rfl,h2⟩: ∃x en s,o=some (x,en,s)∧_:=by rw [←hg];exact zm8 n h1n hn nl X hX hl (membW b) hbr hbl i hi (membW best) 0 true (by omega) _ _ (by simp only [go_sem,zt,Int.natCast_zero]<;>rfl)
  clear hg
  rw [List.drop_zero,Bool.true_and] at h2
  obtain ⟨rfl,e0,e1,e2,e9,e10,e11,rfl⟩:=h2
  cases hk:okL (X.map (smlN n)) (membW b) i with
  |false=>
   rw [hk] at e11
   rw [if_neg (by simp)]
   simp only [go_sem,lp78_1,e0,e1,e2,e9,e10,e11,hs]
   refine ⟨(d,best),by simp only [go_sem,z3,z4,z5,e0,e1,e2,e9,zt]<;>rfl,?_,?_,fun x en s hq=> ?_⟩
   ·dsimp only;omega
   ·dsimp only;omega
   ·exact hq
  |true=>
   rw [hk] at e11
   rw [if_pos rfl]
   by_cases q:(membW best).length<(membW l).length
   ·have q2:(((membW best).length:Int)<((membW l).length:Int))=True:=eT (by omega)
    rw [if_pos q]
    simp only [go_sem,lp78_1,e0,e1,e2,e9,e10,e11,hs,hel,a1,a2,hr2,hl1,hl2,q2]
    refine ⟨(d,l),by simp only [go_sem,z3,z4,z5,e0,e1,e2,zt]<;>rfl,?_,?_,fun x en s hq=> ?_⟩
    ·dsimp only;omega
    ·dsimp only;omega
    ·exact hq
   ·have q2:(((membW best).length:Int)<((membW l).length:Int))=False:=eF (by omega)
    rw [if_neg q]
    simp only [go_sem,lp78_1,e0,e1,e2,e9,e10,e11,hs,hel,a1,a2,hr2,hl1,hl2,q2]
    refine ⟨(d,best),by simp only [go_sem,z3,z4,z5,e0,e1,e2,e9,zt]<;>rfl,?_,?_,fun x en s hq=> ?_⟩
    ·dsimp only;omega
    ·dsimp only;omega
    ·exact hq
theorem c78 (n:Nat)(h1n:1≤n)(hn:n≤8)(nl:Bool)(X:List Nat)(hX: ∀v∈X,v<2^n)(hl:X.length≤13): ∀D b,D≤X.length→b<2^(X.length-D)→∀st,run L 78 [J n,sl 1 nl (X.map tM),tAV (membW b),J (X.length-D:Nat)] st=some (tAV (membW (loopM (X.map (smlN n)) D b b)),st):=by
 intro D
 induction D using Nat.strongRecOn with
 |ind D ih=>
  intro b hD hb st
  rw [run_pure (fn:=ir78) rfl rfl]
  simp only [ir78,go_sem]
  generalize hg:lim (headed pure (run L) true _ lp78_1 _ _) _ _=o
  obtain ⟨x,en,s,rfl,h2⟩: ∃x en s,o=some (x,en,s)∧_:=by rw [←hg];exact zm7 n h1n hn nl X hX hl D hD (fun d b' hd hb' st=>ih d hd b' (by omega) hb' st) b hb D b (Nat.le_refl _) _ _ (by simp only [go_sem,zt]<;>rfl)
  clear hg
  obtain ⟨rfl,e9⟩:=h2
  simp only [go_sem,e9,zox]
def mostA (n:Int) (G:List GS):AV:=if (openG n G).1≠0 then .tup [nilA,I (openG n G).1] else .tup [tAV (mostW (openG n G).2),I 0]
theorem c19 (n:Int)(nl:Bool)(G:List GS)(hG: ∀p∈G,p.2.length<1000)(hGl:G.length<1000)(st:St):
  run L 19 [I n,sl 1 nl (G.map gM)] st=some (mostA n G,st):=by
 rw [run_pure (fn:=ir19) rfl rfl]
 have h48:=fun st=>c48 n nl G hG hGl st
 unfold mostA
 by_cases he:(openG n G).1=0
 ·obtain ⟨m,X,rfl,h2,hm,hl,hXl,e1,e2,hX,e4,hnd⟩:=z2k he
  rw [he] at h48
  rw [he,if_neg (by simp),e4]
  rw [e1] at h48⊢
  have h78:=c78 m (by omega) hm nl X (fun v hv=>(hX v hv).1) (by omega) X.length 0 (Nat.le_refl _) (by rw [Nat.sub_self];decide)
  rw [Nat.sub_self,show tAV (membW 0)=nilA from rfl] at h78
  have hme:=zk2 (ss:=X.map (smlN m)) (by rw [lm_];omega) (zel hm hX)
  rw [lm_] at hme
  rw [←hme] at h78
  rw [show J 0=I 0 from rfl] at h78
  simp only [ir19,go_sem,h48,h78,zox]
 ·rw [if_pos he]
  simp only [ir19,go_sem,h48,he]
theorem c18G (n:Int)(nl:Bool)(G:List GS)(hG: ∀p∈G,p.2.length<1000)(hGl:G.length<1000)(st:St):
  run L 18 [I n,sl 1 nl (G.map gM)] st=some (mostA n G,st):=by
 unfold mostA
 by_cases he:(openG n G).1=0
 ·obtain ⟨m,X,rfl,h2,hm,hl,hXl,e1,e2,hX,e4,hnd⟩:=z2k he
  rw [he,if_neg (by simp),e1,e4]
  exact c18w m h2 hm nl X hX hnd (by omega) st
 ·rw [if_pos he]
  exact c18e hG hGl he st
attribute [local go_sem] m_ x_ l_ k_ o_ t_ a_ s_ q_ b_ c_ u_ g_ zk z9 zf zm z09 z08 zd zi zh z6 zg z07 z00 z0m z0k zp z0j z4f
def loopA (n:Nat):Nat→Nat→List Nat
 |0,_=> []
 |d+1,b=>(b|||2^(n-(d+1)))::(loopA n d (b|||2^(n-(d+1)))++loopA n d b)
def allN (n d b:Nat):List Nat:=(if b=0 then [] else [b])++loopA n d b
theorem z9a (n:Nat): ∀d b,(loopA n d b).length+1=2^d
 |0,_=>rfl
 |d+1,b=>by
  have h1:=z9a n d (b|||2^(n-(d+1)))
  have h2:=z9a n d b
  show ((b|||2^(n-(d+1)))::(loopA n d (b|||2^(n-(d+1)))++loopA n d b)).length+1=_
  rw [List.length_cons,List.length_append,Nat.pow_succ];omega
theorem zg9 {b a:Nat} (hb:b<2^a)(ha:a≤8):memb (b|||2^a)=memb b++ [(a:Int)]:=by
 obtain ⟨h1,h2,h3⟩:=z6u hb
 have hp:2^a≤2^8:=Nat.pow_le_pow_right (by omega) ha
 have hp2:2^(a+1)≤2^9:=Nat.pow_le_pow_right (by omega) (by omega)
 apply zc5 _ _ (z98 _)
 ·rw [List.pairwise_append]
  refine ⟨z98 _,by simp,?_⟩
  intro x hx y hy
  rw [List.mem_singleton] at hy
  subst hy
  obtain ⟨i,rfl,hi⟩:=(z1r (by omega) x).1 hx
  have:=zh4 hb hi
  omega
 ·intro x
  rw [List.mem_append,List.mem_singleton,z1r (by omega),z1r (by omega)]
  constructor
  ·rintro ⟨i,rfl,hi⟩
   rw [Nat.testBit_or,Nat.testBit_two_pow,Bool.or_eq_true,decide_eq_true_eq] at hi
   rcases hi with hi|hi
   ·exact .inl ⟨i,rfl,hi⟩
   ·right;rw [hi]
  ·rintro (⟨i,rfl,hi⟩ |rfl)
   ·exact ⟨i,rfl,by rw [Nat.testBit_or,hi];rfl⟩
   ·exact ⟨a,rfl,h2⟩
theorem loop86 (n:Nat)(hn:n≤8)(D:Nat)(hD:D<n)(b:Nat)(hb:b<2^(n-D))(hrec: ∀d b,d<D→b<2^(n-d)→b.testBit (n-d-1)=true→∀st,run L 86 [J n,tAV (memb b)] st=some (sl 1 true ((allN n d b).map tM),st))(d:Nat)(o:List Nat)(hok:d≤D∧o.length+2^d≤2^D+1)(env:Env)(st:St)
  (hg:gcAV true 0 0 (canon env [0,1,5,7]) st=([(0,J n),(1,tAV (memb b)),(5,oA (o.map tM)),(7,J (n-d:Nat))],⟨[],oT (o.map tM)⟩)):
  ∃x_1 en s,lim (headed pure (run L) true [0,1,5,7] lp86_0 0 0) env st=some (x_1,en,s)∧(x_1=.exit 0∧en.get 5=oA ((o++loopA n d b).map tM)∧s=⟨[],oT ((o++loopA n d b).map tM)⟩):=by
 refine zb (α:=Nat×List Nat) (fun ⟨d,o⟩=>d) (fun ⟨d,o⟩=>d≤D∧o.length+2^d≤2^D+1) (fun ⟨d,o⟩=>([(0,J n),(1,tAV (memb b)),(5,oA (o.map tM)),(7,J (n-d:Nat))],⟨[],oT (o.map tM)⟩)) (fun ⟨d,o⟩ x_1 en s=>x_1=.exit 0∧en.get 5=oA ((o++loopA n d b).map tM)∧s=⟨[],oT ((o++loopA n d b).map tM)⟩) (fun ⟨d,o⟩ hok=> ?_) ⟨d,o⟩ hok env st hg
 simp only at hok
 obtain ⟨h1,h2⟩:=hok
 dsimp only at h1 h2⊢
 cases d with
 |zero=>
  have hlt:(((n-0:Nat):Int)<(n:Int))=False:=eF (by omega)
  rw [show loopA n 0 b=[] from rfl,List.append_nil]
  simp only [go_sem,lp86_0,hlt]
 |succ d=>
  have hpD:2^D≤2^8:=Nat.pow_le_pow_right (by omega) (by omega)
  have hp:2^(n-D)≤2^(n-(d+1)):=Nat.pow_le_pow_right (by omega) (by omega)
  have hdi:n-d=n-(d+1)+1:=by omega
  have hs:IntKind.i64.wrap (((n-(d+1):Nat):Int)+1)=((n-d:Nat):Int):=by rw [z04]<;>omega
  have hlt:(((n-(d+1):Nat):Int)<(n:Int))=True:=eT (by omega)
  have hr:=hrec d (b|||2^(n-(d+1))) (by omega) (by rw [hdi];exact (z6u (by omega)).2.2) (by rw [hdi,Nat.add_sub_cancel];exact (z6u (by omega)).2.1)
  have hmo:=zg9 (b:=b) (a:=n-(d+1)) (by omega) (by omega)
  have hla:loopA n (d+1) b=(b|||2^(n-(d+1)))::(loopA n d (b|||2^(n-(d+1)))++loopA n d b):=rfl
  have hne:b|||2^(n-(d+1))≠0:=by
   intro h
   have:=(z6u (b:=b) (i:=n-(d+1)) (by omega)).2.1
   rw [h,Nat.zero_testBit] at this;cases this
  have hal:allN n d (b|||2^(n-(d+1)))=(b|||2^(n-(d+1)))::loopA n d (b|||2^(n-(d+1))):=by unfold allN;rw [if_neg hne];rfl
  have hll:=z9a n d (b|||2^(n-(d+1)))
  rw [hal] at hr
  rw [hla]
  rw [hmo] at hr
  have hpd:2^(d+1)=2^d*2:=Nat.pow_succ 2 d
  generalize b|||2^(n-(d+1))=c at*
  generalize hae:n-(d+1)=a at*
  generalize hye:c::loopA n d c=ys at*
  have hyl:ys.length=2^d:=by rw [←hye,List.length_cons];exact hll
  have hyn:ys≠[]:=by rw [←hye];simp
  have hae2:c::(loopA n d c++loopA n d b)=ys++loopA n d b:=by rw [←hye];rfl
  rw [hae2]
  clear hae2 hye hla hal hmo
  have hml:=z14 b
  have hr2: ∀(T:Nat) st,run L 86 [J n,.lst (.own T ((memb b).length+1)) 1 ((memb b).map I++ [J a])] st=some (sl 1 true (ys.map tM),st):=fun T st=>
   (zdk (fn:=ir86) rfl rfl st (by
    simp only [pubs,List.map_cons,List.map_nil,z07]
    unfold tAV
    rw [List.map_append,List.map_cons,List.map_nil,z7z (by simp)];rfl)).trans (hr st)
  have hel: ∀st,elemsOf 1 st (tAV (memb b))=some ((memb b).map I):=fun st=>zgd I true (memb b) st
  have hcp: ∀S,∃x st1,appendAV 1 (.lst .full 1 []) ((memb b).map I) ⟨S,oT (o.map tM)⟩=some (x,st1)∧appendAV 1 x [J a] st1=some (.lst (.own (oT (o.map tM)).length ((memb b).length+1)) 1 ((memb b).map I++ [J a]),⟨S,oT (o.map tM)++ [(memb b).length+1]⟩):=by
   intro S
   by_cases hb0:memb b=[]
   ·rw [hb0]
    exact ⟨_,_,rfl,rfl⟩
   ·have h1:=zfm (z:=1) (xs:=(memb b).map I) (by simpa using hb0) (by unfold maxGrow;simp;omega) ⟨S,oT (o.map tM)⟩
    have h2:=zhk (z:=1) (xs:=(memb b).map I) (J a) S (oT (o.map tM)) (by unfold maxGrow;simp;omega)
    simp only [lm_] at h1 h2
    exact ⟨_,_,h1,h2⟩
  obtain ⟨x,st1,hc1,hc2⟩:=hcp []
  have hmore:=zc7 (z:=1) (k:=0) (xs:=o.map tM) (ys:=ys.map tM) (by simpa using hyn) [] [(memb b).length+1] (by unfold maxGrow;simp;omega) (fun _=> .inl rfl)
  have hmore:appendAV 1 (oA (o.map tM)) (ys.map tM) ⟨[],oT (o.map tM)++ [(memb b).length+1]⟩=some (locN 1 0 (o.map tM) (ys.map tM) [(memb b).length+1],⟨[],locNT 0 (o.map tM) (ys.map tM) [(memb b).length+1]⟩):=hmore
  have hren:=zjm (z:=1) (k:=0) (xs:=o.map tM) (ys:=ys.map tM) [(memb b).length+1]
  have hln:(o.map tM++ys.map tM).length≠0:=by simp;intro _;exact hyn
  have hown:=zop (z:=1) (k:=0) (xs:=o.map tM++ys.map tM) hln
  have htow:=zmm (k:=0) (xs:=o.map tM++ys.map tM) hln
  have hown:AV.lst (.own 0 (o.map tM++ys.map tM).length) 1 (o.map tM++ys.map tM)=oA ((o++ys).map tM):=by rw [List.map_append];exact hown
  have htow: [(o.map tM++ys.map tM).length]=oT ((o++ys).map tM):=by rw [List.map_append];exact htow
  simp only [go_sem,lp86_0,hlt,hs,hel,hc1,hc2,hr2,hmore]
  refine ⟨(d,o++ys),by simp only [go_sem,z3,z4,z5,zt,zi8,hren,hown,htow]<;>rfl,?_,?_,fun x en s hq=> ?_⟩
  ·dsimp only;exact ⟨by omega,by rw [List.length_append];omega⟩
  ·dsimp only;omega
  ·rw [List.append_assoc] at hq;exact hq
theorem zod (n:Nat)(hn:n≤8)(D:Nat)(hD:D<n)(b:Nat)(hb:b<2^(n-D))(hrec: ∀d b,d<D→b<2^(n-d)→b.testBit (n-d-1)=true→∀st,run L 86 [J n,tAV (memb b)] st=some (sl 1 true ((allN n d b).map tM),st))(d:Nat)(o:List Nat)(hok:d≤D∧o.length+2^d≤2^D+1∧o≠[])(env:Env)(st:St)
  (hg:gcAV true 0 1 (canon env [0,1,5,7]) st=([(0,J n),(1,tAV (memb b)),(5,oA (o.map tM)),(7,J (n-d:Nat))],⟨[],oT (o.map tM)⟩)):
  ∃x_1 en s,lim (headed pure (run L) true [0,1,5,7] lp86_0 0 1) env st=some (x_1,en,s)∧(x_1=.exit 0∧en.get 5=oA ((o++loopA n d b).map tM)∧s=⟨[],oT ((o++loopA n d b).map tM)⟩):=by
 refine zb (α:=Nat×List Nat) (fun ⟨d,o⟩=>d) (fun ⟨d,o⟩=>d≤D∧o.length+2^d≤2^D+1∧o≠[]) (fun ⟨d,o⟩=>([(0,J n),(1,tAV (memb b)),(5,oA (o.map tM)),(7,J (n-d:Nat))],⟨[],oT (o.map tM)⟩)) (fun ⟨d,o⟩ x_1 en s=>x_1=.exit 0∧en.get 5=oA ((o++loopA n d b).map tM)∧s=⟨[],oT ((o++loopA n d b).map tM)⟩) (fun ⟨d,o⟩ hok=> ?_) ⟨d,o⟩ hok env st hg
 simp only at hok
 obtain ⟨h1,h2,ho0⟩:=hok
 dsimp only at h1 h2 ho0⊢
 cases d with
 |zero=>
  have hlt:(((n-0:Nat):Int)<(n:Int))=False:=eF (by omega)
  rw [show loopA n 0 b=[] from rfl,List.append_nil]
  simp only [go_sem,lp86_0,hlt]
 |succ d=>
  have hpD:2^D≤2^8:=Nat.pow_le_pow_right (by omega) (by omega)
  have hp:2^(n-D)≤2^(n-(d+1)):=Nat.pow_le_pow_right (by omega) (by omega)
  have hdi:n-d=n-(d+1)+1:=by omega
  have hs:IntKind.i64.wrap (((n-(d+1):Nat):Int)+1)=((n-d:Nat):Int):=by rw [z04]<;>omega
  have hlt:(((n-(d+1):Nat):Int)<(n:Int))=True:=eT (by omega)
  have hr:=hrec d (b|||2^(n-(d+1))) (by omega) (by rw [hdi];exact (z6u (by omega)).2.2) (by rw [hdi,Nat.add_sub_cancel];exact (z6u (by omega)).2.1)
  have hmo:=zg9 (b:=b) (a:=n-(d+1)) (by omega) (by omega)
  have hla:loopA n (d+1) b=(b|||2^(n-(d+1)))::(loopA n d (b|||2^(n-(d+1)))++loopA n d b):=rfl
  have hne:b|||2^(n-(d+1))≠0:=by
   intro h
   have:=(z6u (b:=b) (i:=n-(d+1)) (by omega)).2.1
   rw [h,Nat.zero_testBit] at this;cases this
  have hal:allN n d (b|||2^(n-(d+1)))=(b|||2^(n-(d+1)))::loopA n d (b|||2^(n-(d+1))):=by unfold allN;rw [if_neg hne];rfl
  have hll:=z9a n d (b|||2^(n-(d+1)))
  rw [hal] at hr
  rw [hla]
  rw [hmo] at hr
  have hpd:2^(d+1)=2^d*2:=Nat.pow_succ 2 d
  generalize b|||2^(n-(d+1))=c at*
  generalize hae:n-(d+1)=a at*
  generalize hye:c::loopA n d c=ys at*
  have hyl:ys.length=2^d:=by rw [←hye,List.length_cons];exact hll
  have hyn:ys≠[]:=by rw [←hye];simp
  have hae2:c::(loopA n d c++loopA n d b)=ys++loopA n d b:=by rw [←hye];rfl
  rw [hae2]
  clear hae2 hye hla hal hmo
  have hml:=z14 b
  have hr2: ∀(T:Nat) st,run L 86 [J n,.lst (.own T ((memb b).length+1)) 1 ((memb b).map I++ [J a])] st=some (sl 1 true (ys.map tM),st):=fun T st=>
   (zdk (fn:=ir86) rfl rfl st (by
    simp only [pubs,List.map_cons,List.map_nil,z07]
    unfold tAV
    rw [List.map_append,List.map_cons,List.map_nil,z7z (by simp)];rfl)).trans (hr st)
  have hel: ∀st,elemsOf 1 st (tAV (memb b))=some ((memb b).map I):=fun st=>zgd I true (memb b) st
  have hcp: ∀S,∃x st1,appendAV 1 (.lst .full 1 []) ((memb b).map I) ⟨S,oT (o.map tM)⟩=some (x,st1)∧appendAV 1 x [J a] st1=some (.lst (.own (oT (o.map tM)).length ((memb b).length+1)) 1 ((memb b).map I++ [J a]),⟨S,oT (o.map tM)++ [(memb b).length+1]⟩):=by
   intro S
   by_cases hb0:memb b=[]
   ·rw [hb0]
    exact ⟨_,_,rfl,rfl⟩
   ·have h1:=zfm (z:=1) (xs:=(memb b).map I) (by simpa using hb0) (by unfold maxGrow;simp;omega) ⟨S,oT (o.map tM)⟩
    have h2:=zhk (z:=1) (xs:=(memb b).map I) (J a) S (oT (o.map tM)) (by unfold maxGrow;simp;omega)
    simp only [lm_] at h1 h2
    exact ⟨_,_,h1,h2⟩
  obtain ⟨x,st1,hc1,hc2⟩:=hcp []
  have hmore:=zc7 (z:=1) (k:=0) (xs:=o.map tM) (ys:=ys.map tM) (by simpa using hyn) [] [(memb b).length+1] (by unfold maxGrow;simp;omega) (fun _=> .inl rfl)
  have hmore:appendAV 1 (oA (o.map tM)) (ys.map tM) ⟨[],oT (o.map tM)++ [(memb b).length+1]⟩=some (locN 1 0 (o.map tM) (ys.map tM) [(memb b).length+1],⟨[],locNT 0 (o.map tM) (ys.map tM) [(memb b).length+1]⟩):=hmore
  have hol:(o.map tM).length≠0:=by simpa using ho0
  have hN:locN 1 0 (o.map tM) (ys.map tM) [(memb b).length+1]=oA ((o++ys).map tM):=by
   unfold locN oA loc
   rw [if_neg hol,if_neg (by simp [ho0])]
   simp
  have hNT:locNT 0 (o.map tM) (ys.map tM) [(memb b).length+1]=oT ((o++ys).map tM)++ [(memb b).length+1]:=by
   unfold locNT oT locT
   rw [if_neg hol,if_neg (by simp [ho0])]
   simp
  rw [hN,hNT] at hmore
  have hle1:(oT ((o++ys).map tM)).length≤1:=by unfold oT locT;split<;>simp
  have hren1:=fun T acc=>zjl hle1 T acc
  have hle2:(oT ((o++ys).map tM)).length=1:=by unfold oT locT;rw [if_neg (by simp [ho0])];rfl
  have htk:(oT ((o++ys).map tM)++ [(memb b).length+1]).take 1=oT ((o++ys).map tM):=by
   rw [List.take_append_of_le_length (by omega),List.take_of_length_le (by omega)]
  simp only [go_sem,lp86_0,hlt,hs,hel,hc1,hc2,hr2,hmore]
  refine ⟨(d,o++ys),by simp only [go_sem,z3,z4,z5,zt,zk,hren1,htk]<;>rfl,?_,?_,fun x en s hq=> ?_⟩
  ·dsimp only;exact ⟨by omega,by rw [List.length_append];omega,by simp [ho0]⟩
  ·dsimp only;omega
  ·rw [List.append_assoc] at hq;exact hq
attribute [local go_sem] m_ x_ l_ k_ o_ t_ a_ s_ q_ b_ c_ u_ g_ zk z9 zf zm z09 z08 zd zi zh z6 zg z07 z00 z0m z0k zp z0j z4f
theorem zj3 {b a:Nat} (h:b<2^(a+1))(ht:b.testBit a=true):b=(b % 2^a)|||2^a:=by
 apply Nat.eq_of_testBit_eq;intro j
 rw [Nat.testBit_or,Nat.testBit_mod_two_pow,Nat.testBit_two_pow]
 by_cases h1:j<a
 ·rw [decide_eq_true h1,decide_eq_false (by omega)];simp
 ·by_cases h2:a=j
  ·subst h2;rw [ht];simp
  ·rw [decide_eq_false h1,decide_eq_false h2,Nat.testBit_lt_two_pow (Nat.lt_of_lt_of_le h (Nat.pow_le_pow_right (by omega) (by omega)))];rfl
theorem c86 (n:Nat)(hn:n≤8): ∀D b,D<n→b<2^(n-D)→(b=0∧D=n-1∨b.testBit (n-D-1)=true)→∀st,run L 86 [J n,tAV (memb b)] st=some (sl 1 true ((allN n D b).map tM),st):=by
 intro D
 induction D using Nat.strongRecOn with
 |ind D ih=>
  intro b hD hb hc st
  rw [run_pure (fn:=ir86) rfl rfl]
  have hrec:=fun d b' (hd:d<D) (hb':b'<2^(n-d)) (ht:b'.testBit (n-d-1)=true)=>ih d hd b' (by omega) hb' (.inr ht)
  have hlb:lenAV (tAV (memb b))=some (J (memb b).length):=zq I true (memb b)
  have hpD:2^(n-D)≤2^8:=Nat.pow_le_pow_right (by omega) (by omega)
  by_cases h0:b=0
  ·have hD1:D=n-1:=by
    rcases hc with ⟨_,h⟩ |h
    ·exact h
    ·rw [h0,Nat.zero_testBit] at h;cases h
   subst h0
   have e0:memb 0=[]:=by decide
   have q:(((memb 0).length:Int)>0)=False:=eF (by rw [e0];simp)
   have q:((0:Int)<((memb 0).length:Int))=False:=q
   have hnd:AV.v (.int .i64 1)=J (n-D):=by rw [show n-D=1 by omega];rfl
   simp only [ir86,go_sem,hlb,q]
   rw [hnd]
   generalize hg:lim (headed pure (run L) true _ lp86_0 _ _) _ _=o
   obtain ⟨x,en,s,rfl,h2⟩: ∃x en s,o=some (x,en,s)∧_:=by rw [←hg];exact loop86 n hn D hD 0 hb hrec D [] ⟨Nat.le_refl _,by simp⟩ _ _ (by simp only [go_sem,zt,List.map_nil,show oA []=nilA from rfl,zf4]<;>rfl)
   clear hg
   obtain ⟨rfl,e5,rfl⟩:=h2
   rw [List.nil_append] at e5
   rw [show allN n D 0=loopA n D 0 from rfl]
   simp only [go_sem,e5]
  ·have ht:b.testBit (n-D-1)=true:=by
    rcases hc with ⟨h,_⟩ |h
    ·exact absurd h h0
    ·exact h
   have hsp:=zj3 (b:=b) (a:=n-D-1) (by rw [show n-D-1+1=n-D by omega];exact hb) ht
   have hmo:=zg9 (b:=b % 2^(n-D-1)) (a:=n-D-1) (Nat.mod_lt _ (Nat.two_pow_pos _)) (by omega)
   rw [←hsp] at hmo
   have hpos:0<(memb b).length:=by rw [hmo];simp
   have q:((0:Int)<((memb b).length:Int))=True:=eT (by omega)
   have hml:=z14 b
   have hw:IntKind.i64.wrap (((memb b).length:Int)-1)=(((memb b).length-1:Nat):Int):=by rw [z04]<;>omega
   have hlast:indexSAV 1 (tAV (memb b)) (.v (.int .i64 (((memb b).length-1:Nat):Int)))=some (.eptr (I ((memb b)[(memb b).length-1]'(by omega))) 0):=zl true (memb b) ((memb b).length-1) (by omega)
   have hge:(memb b)[(memb b).length-1]'(by omega)=((n-D-1:Nat):Int):=by
    have:(memb b)[(memb b).length-1]? =some ((n-D-1:Nat):Int):=by rw [hmo];simp
    rw [List.getElem?_eq_getElem (by omega)] at this
    simpa using this
   rw [hge] at hlast
   have hw2:IntKind.i64.wrap (((n-D-1:Nat):Int)+1)=((n-D:Nat):Int):=by rw [z04]<;>omega
   have happ: ∀S,appendAV 1 nilA [tAV (memb b)] ⟨S,[]⟩=some (oA [tM b],⟨S,oT [tM b]⟩):=fun S=>z9p [] (tM b) S (by simp)
   have he:allN n D b=[b]++loopA n D b:=by unfold allN;rw [if_neg h0]
   have hpo:1≤2^D:=Nat.two_pow_pos D
   simp only [ir86,go_sem,hlb,q,hw,hlast,hw2,happ]
   rw [show (oT [tM b]).length=1 from rfl]
   have hr1: ∀T acc,ren1 1 T acc (oA [tM b])=(oA [tM b],acc):=fun T acc=>zjl (by simp [oT,locT]) T acc
   generalize hg:lim (headed pure (run L) true _ lp86_0 _ _) _ _=o
   obtain ⟨x,en,s,rfl,h2⟩: ∃x en s,o=some (x,en,s)∧_:=by rw [←hg];exact zod n hn D hD b hb hrec D [b] ⟨Nat.le_refl _,by simp;omega,by simp⟩ _ _ (by simp only [go_sem,zt,List.map_nil,List.map_cons,hr1,show (oT [tM b]).take 1=oT [tM b] from rfl]<;>rfl)
   clear hg
   obtain ⟨rfl,e5,rfl⟩:=h2
   rw [he]
   simp only [go_sem,e5]
def nodB:List Nat→Bool
 | []=>true
 |a::r=> !r.contains a&&nodB r
theorem zh1: ∀l:List Nat,nodB l=true→l.Nodup
 | [],_=>List.nodup_nil
 |a::r,h=>by
  unfold nodB at h
  rw [Bool.and_eq_true,Bool.not_eq_true'] at h
  rw [List.nodup_cons]
  refine ⟨fun hm=> ?_,zh1 r h.2⟩
  have:r.contains a=true:=by simpa using hm
  rw [this] at h;cases h.1
theorem all_eq:((List.range 9).all fun n=>decide (n<2)||(srtB (loopA n (n-1) 0)&&(nodB (loopA n (n-1) 0)&&(((loopA n (n-1) 0).all fun v=>(evs (2^(n-1)-1)).contains v)&&((evs (2^(n-1)-1)).all fun v=>(loopA n (n-1) 0).contains v)))))=true:=by kernel_rfl
theorem evs_nd (k:Nat):(evs k).Nodup:=by
 unfold evs List.Nodup
 rw [List.pairwise_map]
 exact (List.nodup_range (n:=k)).imp (fun h=>by omega)
theorem zp7 {n:Nat} (h2:2≤n)(hn:n≤8):loopA n (n-1) 0=srt (evs (2^(n-1)-1)):=by
 have h:=List.all_eq_true.1 all_eq n (List.mem_range.2 (by omega))
 rw [decide_eq_false (by omega),Bool.false_or,Bool.and_eq_true,Bool.and_eq_true,Bool.and_eq_true] at h
 obtain ⟨a1,a2,a3,a4⟩:=h
 refine zdi (zfk hn) ?_ (znp a1)
 rw [List.perm_ext_iff_of_nodup (zh1 _ a2) (evs_nd _)]
 intro v
 rw [List.all_eq_true] at a3 a4
 constructor
 ·intro hv;simpa using a3 v hv
 ·intro hv;simpa using a4 v hv
def fillPut (l:List Nat) (v:Nat):List Nat:=if l.any (bars v)=true then l else putM v l
theorem zgn {n v:Nat} (h:v.testBit 0=false):smlN n v=v:=by unfold smlN;rw [if_neg (by rw [h];simp)]
theorem zme (n:Nat)(h1n:1≤n)(hn:n≤8)(l:List Nat)(hl: ∀v∈l,v<2^n∧v.testBit 0=false)(hll9:l.length<900)(S:List Nat)(i:Nat)(hi:i<S.length)(v:Nat)(hSi:S[i]=v)(hv:v<2^n∧v.testBit 0=false)(k:Nat)(t:Bool)(hok:k≤l.length)(env:Env)(st:St)
  (hg:gcAV true 0 0 (canon env [0,9,10,11,12,13]) st=([(0,J n),(9,sl 1 true (l.map tM)),(10,sl 1 true (S.map tM)),(11,J i),(12,B t),(13,J k)],⟨[],[]⟩)):
  ∃x_1 en s,lim (headed pure (run L) true [0,9,10,11,12,13] lp21_0 0 0) env st=some (x_1,en,s)∧(x_1=.exit 2∧en.get 0=J n∧en.get 9=sl 1 true (l.map tM)∧en.get 10=sl 1 true (S.map tM)∧en.get 11=J i∧en.get 12=B (t&& !(l.drop k).any (bars v))∧s=⟨[],[]⟩):=by
 refine zb (α:=Nat×Bool) (fun ⟨k,t⟩=>l.length-k) (fun ⟨k,t⟩=>k≤l.length) (fun ⟨k,t⟩=>([(0,J n),(9,sl 1 true (l.map tM)),(10,sl 1 true (S.map tM)),(11,J i),(12,B t),(13,J k)],⟨[],[]⟩)) (fun ⟨k,t⟩ x_1 en s=>x_1=.exit 2∧en.get 0=J n∧en.get 9=sl 1 true (l.map tM)∧en.get 10=sl 1 true (S.map tM)∧en.get 11=J i∧en.get 12=B (t&& !(l.drop k).any (bars v))∧s=⟨[],[]⟩) (fun ⟨k,t⟩ hok=> ?_) ⟨k,t⟩ hok env st hg
 simp only at hok
 dsimp only
 have hll:=zq tM true l
 by_cases h:k<l.length
 ·have h2n:2^n≤256:=Nat.pow_le_pow_right (n:=2) (by decide) hn
  have hs:=zj k (by omega)
  have hlt:((k:Int)<(l.length:Int))=True:=eT (by omega)
  have hx:=z0l tM true S i hi
  rw [hSi] at hx
  have hy:=z0l tM true l k h
  have hw:=hl l[k] (List.getElem_mem h)
  have hd:l.drop k=l[k]::l.drop (k+1):=List.drop_eq_getElem_cons h
  rw [hd,List.any_cons]
  generalize l[k]=w at*
  have h87:=fun st=>c87M v w (by omega) (by omega) st
  have h72:=fun st=>c72M n h1n hn v w hv.1 hw.1 st
  rw [zgn hv.2,zgn hw.2] at h72
  have hba:bars v w=(decide (w=v)|| !agN w v):=rfl
  rw [zho] at hba
  rw [hba]
  cases t with
  |false=>
   rw [Bool.false_and]
   simp only [go_sem,lp21_0,hll,hlt,hs]
   refine ⟨(k+1,false),by simp only [go_sem,z3,z4,z5]<;>rfl,?_,?_,fun x en s hq=> ?_⟩
   ·dsimp only;omega
   ·dsimp only;omega
   ·dsimp only at hq;rw [Bool.false_and] at hq;exact hq
  |true=>
   rw [Bool.true_and]
   by_cases p:v=w
   ·rw [decide_eq_true p] at h87
    rw [decide_eq_true p.symm,Bool.true_or,Bool.true_or,Bool.not_true]
    simp only [go_sem,lp21_0,hll,hlt,hs,hx,hy,h87]
    refine ⟨(k+1,false),by simp only [go_sem,z3,z4,z5]<;>rfl,?_,?_,fun x en s hq=> ?_⟩
    ·dsimp only;omega
    ·dsimp only;omega
    ·dsimp only at hq;rw [Bool.false_and] at hq;exact hq
   ·rw [decide_eq_false p] at h87
    rw [decide_eq_false (fun e=>p e.symm),Bool.false_or]
    cases hz:agN v w with
    |true=>
     rw [hz] at h72
     rw [Bool.not_true,Bool.false_or]
     simp only [go_sem,lp21_0,hll,hlt,hs,hx,hy,h87,h72]
     refine ⟨(k+1,true),by simp only [go_sem,z3,z4,z5]<;>rfl,?_,?_,fun x en s hq=> ?_⟩
     ·dsimp only;omega
     ·dsimp only;omega
     ·dsimp only at hq;rw [Bool.true_and] at hq;exact hq
    |false=>
     rw [hz] at h72
     rw [Bool.not_false,Bool.true_or,Bool.not_true]
     simp only [go_sem,lp21_0,hll,hlt,hs,hx,hy,h87,h72]
     refine ⟨(k+1,false),by simp only [go_sem,z3,z4,z5]<;>rfl,?_,?_,fun x en s hq=> ?_⟩
     ·dsimp only;omega
     ·dsimp only;omega
     ·dsimp only at hq;rw [Bool.false_and] at hq;exact hq
 ·have hlt:((k:Int)<(l.length:Int))=False:=eF (by omega)
  have e:l.drop k=[]:=List.drop_eq_nil_of_le (by omega)
  rw [e,List.any_nil,Bool.not_false,Bool.and_true]
  simp only [go_sem,lp21_0,hll,hlt]
theorem zmd (n:Nat)(h1n:1≤n)(hn:n≤8)(S:List Nat)(hS: ∀v∈S,v<2^n∧v.testBit 0=false)(hSl:S.length≤200)(i:Nat)(l:List Nat)(hok:i≤S.length∧l.length≤100+i∧∀v∈l,v<2^n∧v.testBit 0=false)(env:Env)(st:St)
  (hg:gcAV true 0 0 (canon env [0,9,10,11]) st=([(0,J n),(9,sl 1 true (l.map tM)),(10,sl 1 true (S.map tM)),(11,J i)],⟨[],[]⟩)):
  ∃x_1 en s,lim (headed pure (run L) true [0,9,10,11] lp21_1 0 0) env st=some (x_1,en,s)∧(x_1=.exit 0∧en.get 9=sl 1 true (((S.drop i).foldl fillPut l).map tM)):=by
 refine zb (α:=Nat×List Nat) (fun ⟨i,l⟩=>S.length-i) (fun ⟨i,l⟩=>i≤S.length∧l.length≤100+i∧∀v∈l,v<2^n∧v.testBit 0=false) (fun ⟨i,l⟩=>([(0,J n),(9,sl 1 true (l.map tM)),(10,sl 1 true (S.map tM)),(11,J i)],⟨[],[]⟩)) (fun ⟨i,l⟩ x_1 en s=>x_1=.exit 0∧en.get 9=sl 1 true (((S.drop i).foldl fillPut l).map tM)) (fun ⟨i,l⟩ hok=> ?_) ⟨i,l⟩ hok env st hg
 simp only at hok
 obtain ⟨h1,hlen,h3⟩:=hok
 dsimp only at h1 hlen h3⊢
 have hll:=zq tM true S
 by_cases h:i<S.length
 ·have hs:=zj i (by omega)
  have hlt:((i:Int)<(S.length:Int))=True:=eT (by omega)
  have hv:=hS S[i] (List.getElem_mem h)
  have hx:=z0l tM true S i h
  have hd:S.drop i=S[i]::S.drop (i+1):=List.drop_eq_getElem_cons h
  rw [hd,List.foldl_cons]
  have hfp:fillPut l S[i]=if l.any (bars S[i])=true then l else putM S[i] l:=rfl
  rw [hfp]
  have h88:=fun st=>c88 true l (by omega) S[i] st
  have hpm:=z4t S[i] l
  have hpl:=hpm.length_eq
  simp only [go_sem,lp21_1,hll,hlt]
  generalize hg:lim (headed pure (run L) true _ lp21_0 _ _) _ _=o
  obtain ⟨x,en,s,rfl,h2⟩: ∃x en s,o=some (x,en,s)∧_:=by rw [←hg];exact zme n h1n hn l h3 (by omega) S i h S[i] rfl hv 0 true (by omega) _ _ (by simp only [go_sem,Int.natCast_zero]<;>rfl)
  clear hg
  rw [List.drop_zero,Bool.true_and] at h2
  obtain ⟨rfl,e0,e9,e10,e11,e12,rfl⟩:=h2
  cases hz:l.any (bars S[i]) with
  |true=>
   rw [hz,Bool.not_true] at e12
   rw [if_pos rfl]
   simp only [go_sem,lp21_1,e0,e9,e10,e11,e12,hs]
   refine ⟨(i+1,l),by simp only [go_sem,z3,z4,z5,e0,e9,e10,e11]<;>rfl,?_,?_,fun x en s hq=> ?_⟩
   ·dsimp only;exact ⟨by omega,by omega,h3⟩
   ·dsimp only;omega
   ·exact hq
  |false=>
   rw [hz,Bool.not_false] at e12
   rw [if_neg (by simp)]
   simp only [go_sem,lp21_1,e0,e9,e10,e11,e12,hx,h88,hs]
   refine ⟨(i+1,putM S[i] l),by simp only [go_sem,z3,z4,z5,e0,e10,e11]<;>rfl,?_,?_,fun x en s hq=> ?_⟩
   ·dsimp only
    refine ⟨by omega,by rw [hpl,List.length_cons];omega,fun w hw=> ?_⟩
    rcases List.mem_cons.1 (hpm.mem_iff.1 hw) with rfl|hw
    ·exact hv
    ·exact h3 w hw
   ·dsimp only;omega
   ·exact hq
 ·have hlt:((i:Int)<(S.length:Int))=False:=eF (by omega)
  have e:S.drop i=[]:=List.drop_eq_nil_of_le (by omega)
  rw [e]
  simp only [go_sem,lp21_1,hll,hlt]
  rfl
theorem zl2: ∀(S a b:List Nat),a.Perm b→a.Pairwise LexLe→(S.foldl fillPut a).Perm (S.foldl fillStep b)∧(S.foldl fillPut a).Pairwise LexLe
 | [],a,b,h,hs=>⟨h,hs⟩
 |v::S,a,b,h,hs=>by
  rw [List.foldl_cons,List.foldl_cons]
  have hany:a.any (bars v)=b.any (bars v):=by
   rw [Bool.eq_iff_iff,List.any_eq_true,List.any_eq_true]
   exact ⟨fun ⟨x,hx,h1⟩=>⟨x,h.mem_iff.1 hx,h1⟩,fun ⟨x,hx,h1⟩=>⟨x,h.mem_iff.2 hx,h1⟩⟩
  apply zl2 S
  ·unfold fillPut fillStep
   rw [hany]
   split
   ·exact h
   ·exact (z4t v a).trans ((h.cons v).trans (List.perm_append_singleton v b).symm)
  ·unfold fillPut
   split
   ·exact hs
   ·exact z82 v a hs
attribute [local go_sem] m_ x_ l_ k_ o_ t_ a_ s_ q_ b_ c_ u_ g_ zk z9 zf zm z09 z08 zd zi zh z6 zg z07 z00 z0m z0k zp z0j z4f
def fillA (n:Int) (G:List GS):AV:=if (openG n G).1≠0 then .tup [.v (.slice none 0 0),I (openG n G).1] else if clP (openG n G).2 0=none then .tup [sl 1 true ((srt (fillL n.toNat (srt (openG n G).2))).map tM),I 0] else .tup [.v (.slice none 0 0),I 12]
theorem ziu {n:Nat} (hn:n≤8)(ss:List Nat)(hs: ∀s∈ss,s<256)(hl:ss.length≤13):(srt (fillL n (srt ss))).length<1000:=by
 have h1: ∀s∈fillL n (srt ss),s<256:=z5y _ (zaa _) _ (zaa _)
 rw [z4l h1]
 unfold fillL
 have h2:=z75 (srt (evs (2^(n-1)-1))) (srt ss)
 rw [z4l (zfk hn),ze8,z4l hs] at h2
 have hp:2^(n-1)≤2^7:=Nat.pow_le_pow_right (by omega) (by omega)
 omega
theorem c20G (n:Int)(nl:Bool)(G:List GS)(hG: ∀p∈G,p.2.length<1000)(hGl:G.length<1000)(st:St):
  run L 20 [I n,sl 1 nl (G.map gM)] st=some (fillA n G,st):=by
 unfold fillA
 by_cases he:(openG n G).1=0
 ·obtain ⟨m,X,rfl,h2,hm,hl,hXl,e1,e2,hX,e4,hnd⟩:=z2k he
  rw [he,if_neg (by simp),e1,e4]
  by_cases hc:clP (X.map (smlN m)) 0=none
  ·rw [if_pos hc]
   exact c20 m h2 hm nl X hX hnd (by omega) hc st
  ·rw [if_neg hc]
   exact c20n m h2 hm nl X hX hnd (by omega) hc st
 ·rw [if_pos he]
  exact c20e hG hGl he st
theorem c21 (n:Int)(nl:Bool)(G:List GS)(hG: ∀p∈G,p.2.length<1000)(hGl:G.length<1000)(st:St):
  run L 21 [I n,sl 1 nl (G.map gM)] st=some (fillA n G,st):=by
 rw [run_pure (fn:=ir21) rfl rfl]
 have h17:=fun st=>c17 n nl G hG hGl st
 unfold fillA
 unfold whyG at h17
 by_cases he:(openG n G).1=0
 ·obtain ⟨m,X,rfl,h2,hm,hl,hXl,e1,e2,hX,e4,hnd⟩:=z2k he
  rw [he,if_neg (by simp),e4] at h17
  rw [he,if_neg (by simp),e4]
  rw [e1] at h17⊢
  cases hc:clP (X.map (smlN m)) 0 with
  |some p=>
   rw [hc] at h17
   rw [if_neg (by simp)]
   simp only [ir21,go_sem,h17,whyA]
  |none=>
   rw [hc] at h17
   rw [if_pos rfl,Int.toNat_natCast]
   have h85:=fun st=>c85 m hm nl X hX (by omega) st
   have h86:=fun st=>c86 m hm (m-1) 0 (by omega) (Nat.two_pow_pos _) (.inl ⟨rfl,rfl⟩) st
   have ha:allN m (m-1) 0=srt (evs (2^(m-1)-1)):=(List.nil_append _).trans (zp7 h2 hm)
   rw [ha,show memb 0=[] from by decide,show tAV []=AV.v (.slice none 0 0) from rfl] at h86
   have hss:=zel hm hX
   have hS: ∀v∈srt (evs (2^(m-1)-1)),v<2^m∧v.testBit 0=false:=by
    intro v hv
    have:=(zoz (by omega)).1 ((z7d (zfk hm)).mem_iff.1 hv)
    exact ⟨this.1,this.2.2⟩
   have hSl:(srt (evs (2^(m-1)-1))).length≤200:=by
    rw [z4l (zfk hm),ze8]
    have hp:2^(m-1)≤2^7:=Nat.pow_le_pow_right (by omega) (by omega)
    omega
   have hl0:(srt (X.map (smlN m))).length≤100+0:=by rw [z4l hss,lm_];omega
   have hl1: ∀v∈srt (X.map (smlN m)),v<2^m∧v.testBit 0=false:=by
    intro v hv
    obtain ⟨w,hw,rfl⟩:=List.mem_map.1 ((z7d hss).mem_iff.1 hv)
    exact ⟨z1o (hX w hw).1,zax (by omega)⟩
   obtain ⟨f1,f2⟩:=zl2 (srt (evs (2^(m-1)-1))) (srt (X.map (smlN m))) (srt (X.map (smlN m))) (List.Perm.refl _) (zci _)
   have f3:(srt (evs (2^(m-1)-1))).foldl fillPut (srt (X.map (smlN m)))=srt (fillL m (srt (X.map (smlN m)))):=zdi (z5y _ (zaa _) _ (zaa _)) f1 f2
   simp only [ir21,go_sem,h17,whyA,h85,h86]
   generalize hg:lim (headed pure (run L) true _ lp21_1 _ _) _ _=o
   obtain ⟨x,en,s,rfl,h2⟩: ∃x en s,o=some (x,en,s)∧_:=by rw [←hg];exact zmd m (by omega) hm (srt (evs (2^(m-1)-1))) hS hSl 0 (srt (X.map (smlN m))) ⟨by omega,hl0,hl1⟩ _ _ (by simp only [go_sem,Int.natCast_zero]<;>rfl)
   clear hg
   rw [List.drop_zero] at h2
   obtain ⟨rfl,e9⟩:=h2
   rw [f3] at e9
   simp only [go_sem,e9]
 ·rw [if_pos he] at h17
  rw [if_pos he]
  have h13:=(zo9 n G).1
  simp only [ir21,go_sem,h17,he,h13]
def provA (n:Int) (G:List GS) (i j:Int):Int:=if (openG n G).1=0 then (if min i j<0∨(G.length:Int)≤max i j then 2 else if agN ((openG n G).2.getD i.toNat 0) ((openG n G).2.getD j.toNat 0)=true then 14 else 0) else (openG n G).1
theorem c24G (n:Int)(nl:Bool)(G:List GS)(hG: ∀p∈G,p.2.length<1000)(hGl:G.length<1000)(i j:Int)(st:St):
  run L 24 [I n,sl 1 nl (G.map gM),I i,I j] st=some (I (provA n G i j),st):=by
 unfold provA
 by_cases he:(openG n G).1=0
 ·obtain ⟨m,X,rfl,h2,hm,hl,hXl,e1,e2,hX,e4,hnd⟩:=z2k he
  rw [if_pos he,e4,e1]
  by_cases hij:min i j<0∨(G.length:Int)≤max i j
  ·rw [if_pos hij]
   exact c24x m h2 hm nl X hX hnd (by omega) i j (by omega) st
  ·rw [if_neg hij]
   obtain ⟨a,rfl⟩:=Int.eq_ofNat_of_zero_le (show 0≤i by omega)
   obtain ⟨b,rfl⟩:=Int.eq_ofNat_of_zero_le (show 0≤j by omega)
   exact c24 m h2 hm nl X hX hnd (by omega) a b (by omega) (by omega) st
 ·rw [if_neg he]
  exact c24e hG hGl he i j st
theorem c25 (n:Int)(nl:Bool)(G:List GS)(hG: ∀p∈G,p.2.length<1000)(hGl:G.length<1000)(i j:Int)(st:St):
  run L 25 [I n,sl 1 nl (G.map gM),I i,I j] st=some (I (provA n G i j),st):=by
 rw [run_pure (fn:=ir25) rfl rfl]
 have h90:=fun st=>c90 n nl G hG hGl i j st
 unfold provA
 by_cases he:(openG n G).1=0
 ·rw [if_pos he] at h90⊢
  by_cases hij:min i j<0∨(G.length:Int)≤max i j
  ·rw [if_pos hij] at h90⊢
   simp only [ir25,go_sem,h90]
  ·rw [if_neg hij] at h90⊢
   obtain ⟨a,rfl⟩:=Int.eq_ofNat_of_zero_le (show 0≤i by omega)
   obtain ⟨b,rfl⟩:=Int.eq_ofNat_of_zero_le (show 0≤j by omega)
   obtain ⟨m,X,rfl,h2,hm,hl,hXl,e1,e2,hX,e4,hnd⟩:=z2k he
   have hi:a<X.length:=by omega
   have hj:b<X.length:=by omega
   have gi:(X.map (smlN m)).getD a 0=smlN m X[a]:=by simp [List.getD_eq_getElem?_getD,hi]
   have gj:(X.map (smlN m)).getD b 0=smlN m X[b]:=by simp [List.getD_eq_getElem?_getD,hj]
   have hxi:=z0l tM nl X a hi
   have hxj:=z0l tM nl X b hj
   have hai:=(hX X[a] (List.getElem_mem hi)).1
   have haj:=(hX X[b] (List.getElem_mem hj)).1
   rw [e4,Int.toNat_natCast,Int.toNat_natCast,gi,gj]
   rw [e1] at h90⊢
   generalize X[a]=v at*
   generalize X[b]=w at*
   have h72:=fun st=>c72M m (by omega) hm v w hai haj st
   cases hag:agN (smlN m v) (smlN m w) with
   |true=>
    rw [hag] at h72
    rw [if_pos rfl]
    simp only [ir25,go_sem,h90,hxi,hxj,h72]
   |false=>
    rw [hag] at h72
    rw [if_neg (by simp)]
    simp only [ir25,go_sem,h90,hxi,hxj,h72]
 ·rw [if_neg he] at h90⊢
  simp only [ir25,go_sem,h90,he]
theorem c3 (n:Int)(nl:Bool)(G:List GS)(i j:Int):run L 3 [I n,sl 1 nl (G.map gM),I i,I j] ⟨[],[]⟩=some (B true,⟨[],[]⟩):=by
 rw [run_pure (fn:=ir3) rfl rfl]
 have h14:=fun st=>c14 nl G st
 cases hlg:lgG G with
 |true=>
  rw [hlg] at h14
  simp only [ir3,go_sem,h14,c15]
 |false=>
  rw [hlg] at h14
  obtain ⟨hGl,hGa⟩:=lg_ok hlg
  have hG: ∀p∈G,p.2.length<1000:=fun p hp=>by have:=hGa p hp;omega
  have hGl2:G.length<1000:=by omega
  have h16:=fun st=>c16G n nl G hG hGl2 st
  have h17:=fun st=>c17 n nl G hG hGl2 st
  have h18:=fun st=>c18G n nl G hG hGl2 st
  have h19:=fun st=>c19 n nl G hG hGl2 st
  have h20:=fun st=>c20G n nl G hG hGl2 st
  have h21:=fun st=>c21 n nl G hG hGl2 st
  have h24:=fun st=>c24G n nl G hG hGl2 i j st
  have h25:=fun st=>c25 n nl G hG hGl2 i j st
  have hw: ∃a b e,whyG n G=.tup [I a,I b,I e]:=by
   unfold whyG
   split
   ·exact ⟨_,_,_,rfl⟩
   ·unfold whyA
    split
    ·exact ⟨_,_,_,rfl⟩
    ·exact ⟨_,_,_,rfl⟩
  have hm: ∃(M:List Int) (e:Int),M.length<1000∧mostA n G=.tup [tAV M,I e]:=by
   unfold mostA
   by_cases he:(openG n G).1=0
   ·rw [if_neg (by rw [he];simp)]
    obtain ⟨m,X,rfl,h2,hm,hl,hXl,e1,e2,hX,e4,hnd⟩:=z2k he
    refine ⟨_,_,?_,rfl⟩
    rw [e4,zk2 (by rw [lm_];omega) (zel hm hX)]
    exact Nat.lt_of_le_of_lt (z6x _) (by omega)
   ·rw [if_pos he]
    exact ⟨[],_,by simp,rfl⟩
  have hf: ∃(F:List Nat) (e:Int),F.length<1000∧fillA n G=.tup [sl 1 true (F.map tM),I e]:=by
   unfold fillA
   by_cases he:(openG n G).1=0
   ·obtain ⟨m,X,rfl,h2,hm,hl,hXl,e1,e2,hX,e4,hnd⟩:=z2k he
    rw [if_neg (by rw [he];simp),e4]
    by_cases hc:clP (X.map (smlN m)) 0=none
    ·rw [if_pos hc]
     exact ⟨_,_,ziu (by omega) _ (zel hm hX) (by rw [lm_];omega),rfl⟩
    ·rw [if_neg hc]
     exact ⟨[],_,by simp,rfl⟩
   ·rw [if_pos he]
    exact ⟨[],_,by simp,rfl⟩
  obtain ⟨wa,wb,we,hw⟩:=hw
  obtain ⟨M,me,hM,hm⟩:=hm
  obtain ⟨F,fe,hF,hf⟩:=hf
  rw [hw] at h16 h17
  rw [hm] at h18 h19
  rw [hf] at h20 h21
  have g1:=fun st=>c22 true true M M (by omega) st
  have g2:=fun st=>c23M true true F F (by omega) st
  rw [decide_eq_true rfl] at g1 g2
  have g1: ∀st,run L 22 [tAV M,tAV M] st=some (B true,st):=g1
  simp only [ir3,go_sem,h14,h16,h17,h18,h19,h20,h21,h24,h25,g1,g2,c15]
end Go.Proofs.YtdnmhlfjafjkbaaGreatDoor.Vm
