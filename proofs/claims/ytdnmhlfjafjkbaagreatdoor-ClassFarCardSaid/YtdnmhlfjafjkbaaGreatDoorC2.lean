/- What is proved: what each function of this program computes, as equations on the evaluator. No condition. -/
import Derived.Test.YtdnmhlfjafjkbaaGreatDoorC1
import Derived.KernelRfl
set_option linter.all false
namespace Go.Proofs.YtdnmhlfjafjkbaaGreatDoor.Vm
open Go Go.Ev
set_option maxRecDepth 100000
set_option maxHeartbeats 4000000
attribute [local go_sem] m_ x_ l_ k_ o_ t_ a_ s_ q_ b_ c_ u_ g_ z4b z0s z5p z20 z46 z0n z5l z18 z2d z0c z38 z1z z45 z0m z5k z23 z49 z0q z5n z19 z2e z0d z39 z16 z2c z0b z35 z22 z48 z0p z30 z6i z15 z85 z24 z4a z0r z5o z25 z1o z0t z5q z1y z44 z0l z5j z21 z47 z0o z5m z37 z1b z36 z6t z8f z8g z5y z3g z3j z3i z3h z3x z3y z6d z61 z8m z0w z4c z34 z1d z3b z40 z42 z6f z6g z6e z43 z2b z1a z5i z31 z2a z1f z0g z2f z1h z3a z87 z5r z1w z12 z1x pubs pub z8z params z2j z07 z17 z2l z3k z3z z6u untips untip z5e wantedAV setElems withO z8h z3q z3n z3m z63 z3p z3l z62 z3o List.replicate_succ List.replicate_zero opAV valAV aval avals ofVal Env.get setD canon gcAV renAll renEnv renStore renCells z0y cutSt okEnv okStore okRefs okRef z0f z8q z6l z8p z8n z8o z8r cellsEq cellEq isShift intOp boolOp z89 z8c z8s bne resAV tupAV z5z zbp z6x fins zh3 z6w z8l z8k zbq storeAV readCells putCells z6h z2z z14 fieldAddrAV za6 goI List.getElem?_cons_zero List.getElem?_cons_succ List.getElem?_nil Option.bind_some Option.map_some List.length_cons List.length_nil List.all_cons List.all_nil Bool.and_true Bool.true_and Bool.and_false Bool.false_and and_true true_and and_false false_and Bool.false_eq_true List.set_cons_zero List.set_cons_succ List.append_nil List.nil_append List.cons_append List.take_zero List.take_succ_cons List.take_nil List.drop_zero List.drop_succ_cons List.map_cons List.map_nil decide_true decide_false beq_self_eq_true Bool.not_true Bool.not_false or_true true_or or_false false_or Nat.zero_add Nat.add_zero Nat.le_refl Nat.lt_irrefl decide_eq_true_eq eq_self_iff_true not_true_eq_false not_false_eq_true List.getD_cons_zero z41 Nat.zero_le Nat.not_lt_zero Bool.true_beq Bool.false_beq beq_true beq_false ge_iff_le gt_iff_lt keepR keepT ownTop zh8 pus Option.map_none z2h z2g z65 z3r z64 Int.cast_ofNat_Int Nat.mul_one Nat.zero_mul Int.toNat_natCast Int.toNat_zero setParts withO2 hasKey z6c z5u z3w z3c z1c z0k z02 z2s setm z55 z7u z6y zca zcx zfb z9a z75 z6k z4q z9c z7h z73 z5g z7w z6j z9b z7a z60 z4j z9e z7j z9k z67 z68 z7r z4e z98 z72 z71 z99 Option.bind_none Bool.not_eq_true' decide_eq_false_iff_not Bool.and_eq_true Bool.or_eq_true Option.some.injEq Int.not_lt Int.not_le
attribute [local go_sem_proc] reduceIte Nat.reduceEqDiff Nat.reduceAdd Nat.reduceSub Nat.reduceLeDiff Nat.reduceLT reduceCtorEq Int.reduceLT Int.reduceLE Int.reduceEq Int.reduceBEq Int.reduceSub Int.reduceAdd Int.reduceMul Int.reduceNeg Int.reduceToNat Nat.reduceMul Nat.reduceBEq
attribute [local go_sem] m_ x_ l_ k_ o_ t_ a_ s_ q_ b_ c_ u_ g_ zi z9 zf zn z03 z04 ze zk zm z8 zh z06
theorem z6a (p:GS)(R:AV→Prop)(h1:R (.v (.slice none 0 0)))(h2: ∀xs,R (.lst .any 1 xs))(h3: ∀a c,R (.v (.slice (some a) 0 c))):R (gM p):=by
 unfold gM
 split
 ·unfold gK;split
  ·exact h1
  ·exact h2 _
  ·exact h3 _ _
 ·exact h2 _
theorem z0x (p:GS):(gM p).shaped=true:=z6a p (fun a=>a.shaped=true) rfl (fun _=>rfl) (fun _ _=>rfl)
theorem z1v (p:GS):(gM p).cells=[gM p]:=z6a p (fun a=>a.cells=[a]) rfl (fun _=>rfl) (fun _ _=>rfl)
theorem z1u (p:GS):Ev.isAgg (gM p)=false:=z6a p (fun a=>Ev.isAgg a=false) rfl (fun _=>rfl) (fun _ _=>rfl)
theorem z01 (p:GS):storable (gM p)=true:=z6a p (fun a=>storable a=true) rfl (fun _=>rfl) (fun _ _=>rfl)
theorem z1t (n:Nat)(p:GS):okRef n (gM p)=true:=z6a p (fun a=>okRef n a=true) rfl (fun _=>rfl) (fun _ _=>rfl)
theorem z7e (p:GS):pub (gM p)=gM p:=z6a p (fun a=>pub a=a) rfl (fun xs=>z8z 1 false xs) (fun _ _=>rfl)
attribute [local go_sem] m_ x_ l_ k_ o_ t_ a_ s_ q_ b_ c_ u_ g_ z0x z1v z1u z01 z1t z7e
def rowAt (n:Nat) (l:List Int) (i:Nat):Int:=rowE n (if i=0 then none else l[i-1]?) (l.drop i)
theorem z26 (n:Nat)(l:List Int)(i:Nat)(h:i<l.length):rowAt n l i=if l[i]<0∨(n:Int)≤l[i] then 2 else if prevB (if i=0 then none else l[i-1]?) l[i]=true then 7 else rowAt n l (i+1):=by
 unfold rowAt
 rw [List.drop_eq_getElem_cons h]
 show (if _ then _ else if _ then _ else rowE n (some l[i]) (l.drop (i+1)))=_
 rw [if_neg (show ¬i+1=0 by omega),Nat.add_sub_cancel,List.getElem?_eq_getElem h]
theorem z33 (n:Nat)(l:List Int)(i:Nat)(h: ¬i<l.length):rowAt n l i=0:=by
 unfold rowAt
 rw [List.drop_eq_nil_of_le (by omega)]
 cases (if i=0 then none else l[i-1]?)<;>rfl
theorem zgn (n:Nat)(l:List Int)(hlen:l.length<1000)(nl:Bool)(G:List GS)(f:Int)(k:Nat)(i:Nat)(hok:i≤l.length)(env:Env)(st:St)
  (hg:gcAV true 0 0 (canon env [0,6,7,9,27,28,29,36,37,38]) st=([(0,J n),(6,.v (.int .u8 f)),(7,.v (.slice none 0 0)),(9,tAV l),(27,sl 1 nl (G.map gM)),(28,J G.length),(29,J k),(36,tAV l),(37,J l.length),(38,J i)],⟨[],[]⟩)):
  ∃x_1 en s,lim (headed pure (run L) true [0,6,7,9,27,28,29,36,37,38] lp70_0 0 0) env st=some (x_1,en,s)∧(s=⟨[],[]⟩∧((rowAt n l i=0∧x_1=.exit 3∧en.get 0=J n∧en.get 6=.v (.int .u8 f)∧en.get 7=.v (.slice none 0 0)∧en.get 9=tAV l∧en.get 27=sl 1 nl (G.map gM)∧en.get 28=J G.length∧en.get 29=J k∧en.get 3000000=.any)∨(rowAt n l i≠0∧x_1=.ret∧en.get 4=.v (.slice none 0 0)∧en.get 5=I (rowAt n l i)))):=by
 refine zd (α:=Nat) (fun i=>l.length-i) (fun i=>i≤l.length) (fun i=>([(0,J n),(6,.v (.int .u8 f)),(7,.v (.slice none 0 0)),(9,tAV l),(27,sl 1 nl (G.map gM)),(28,J G.length),(29,J k),(36,tAV l),(37,J l.length),(38,J i)],⟨[],[]⟩)) (fun i x_1 en s=>s=⟨[],[]⟩∧((rowAt n l i=0∧x_1=.exit 3∧en.get 0=J n∧en.get 6=.v (.int .u8 f)∧en.get 7=.v (.slice none 0 0)∧en.get 9=tAV l∧en.get 27=sl 1 nl (G.map gM)∧en.get 28=J G.length∧en.get 29=J k∧en.get 3000000=.any)∨(rowAt n l i≠0∧x_1=.ret∧en.get 4=.v (.slice none 0 0)∧en.get 5=I (rowAt n l i)))) (fun i hok=> ?_) i hok env st hg
 by_cases h:i<l.length
 ·have hs:=zo i (by omega)
  have hx:indexSAV 1 (tAV l) (.v (.int .i64 (i:Int)))=some (.eptr (I l[i]) 0):=zc true l i h
  have hlt:((i:Int)<(l.length:Int))=True:=eT (by omega)
  have hst:=z26 n l i h
  rw [hst]
  by_cases q1:l[i]<0
  ·rw [if_pos (.inl q1)]
   simp only [go_sem,lp70_0,hlt,hs,hx,q1]
   decide
  ·by_cases q2:(n:Int)≤l[i]
   ·rw [if_pos (.inr q2)]
    simp only [go_sem,lp70_0,hlt,hs,hx,q1,q2]
    decide
   ·rw [if_neg (not_or.2 ⟨q1,q2⟩)]
    by_cases h0:0<i
    ·have q3:((0:Int)<(i:Int))=True:=eT (by omega)
     have hm:IntKind.i64.wrap ((i:Int)-1)=((i-1:Nat):Int):=by
      rw [←w64 (i-1) (by omega)];congr 1;omega
     have hx2:indexSAV 1 (tAV l) (.v (.int .i64 ((i-1:Nat):Int)))=some (.eptr (I (l[i-1]'(by omega))) 0):=zc true l (i-1) (by omega)
     rw [if_neg (show ¬i=0 by omega),List.getElem?_eq_getElem (show i-1<l.length by omega)]
     generalize l[i-1]'(by omega)=b at*
     generalize l[i]=a at*
     have hpb:prevB (some b) a=decide (a≤b):=rfl
     rw [hpb]
     by_cases q4:a≤b
     ·rw [if_pos (by simpa using q4)]
      simp only [go_sem,lp70_0,hlt,hs,hx,q1,q2,q3,hm,hx2,q4]
      decide
     ·rw [if_neg (by simpa using q4)]
      simp only [go_sem,lp70_0,hlt,hs,hx,q1,q2,q3,hm,hx2,q4]
      refine ⟨i+1,by simp only [go_sem,z0,z3,z4,zu]<;>rfl,?_,?_,fun x en s hq=> ?_⟩
      ·omega
      ·omega
      ·exact hq
    ·have q3:((0:Int)<(i:Int))=False:=eF (by omega)
     rw [if_pos (show i=0 by omega)]
     generalize l[i]=a at*
     have hpb:prevB none a=false:=rfl
     rw [hpb,if_neg (by simp)]
     simp only [go_sem,lp70_0,hlt,hs,hx,q1,q2,q3]
     refine ⟨i+1,by simp only [go_sem,z0,z3,z4,zu]<;>rfl,?_,?_,fun x en s hq=> ?_⟩
     ·omega
     ·omega
     ·exact hq
 ·have hlt:((i:Int)<(l.length:Int))=False:=eF (by omega)
  rw [z33 n l i h]
  simp only [go_sem,lp70_0,hlt]
theorem zgo (n:Nat)(l:List Int)(hlen:l.length<1000)(nl:Bool)(G:List GS)(f:Int)(ss:List Nat)(k:Nat)(i:Nat)(hok:i≤l.length)(env:Env)(st:St)
  (hg:gcAV true 1 0 (canon env [0,6,7,9,27,28,29,36,37,38]) st=([(0,J n),(6,.v (.int .u8 f)),(7,.rsl 0 0 ss.length ss.length 1 true),(9,tAV l),(27,sl 1 nl (G.map gM)),(28,J G.length),(29,J k),(36,tAV l),(37,J l.length),(38,J i)],⟨[ss.map u8],[]⟩)):
  ∃x_1 en s,lim (headed pure (run L) true [0,6,7,9,27,28,29,36,37,38] lp70_0 1 0) env st=some (x_1,en,s)∧(s=⟨[ss.map u8],[]⟩∧((rowAt n l i=0∧x_1=.exit 3∧en.get 0=J n∧en.get 6=.v (.int .u8 f)∧en.get 7=.rsl 0 0 ss.length ss.length 1 true∧en.get 9=tAV l∧en.get 27=sl 1 nl (G.map gM)∧en.get 28=J G.length∧en.get 29=J k∧en.get 3000000=.any)∨(rowAt n l i≠0∧x_1=.ret∧en.get 4=.v (.slice none 0 0)∧en.get 5=I (rowAt n l i)))):=by
 refine zd (α:=Nat) (fun i=>l.length-i) (fun i=>i≤l.length) (fun i=>([(0,J n),(6,.v (.int .u8 f)),(7,.rsl 0 0 ss.length ss.length 1 true),(9,tAV l),(27,sl 1 nl (G.map gM)),(28,J G.length),(29,J k),(36,tAV l),(37,J l.length),(38,J i)],⟨[ss.map u8],[]⟩)) (fun i x_1 en s=>s=⟨[ss.map u8],[]⟩∧((rowAt n l i=0∧x_1=.exit 3∧en.get 0=J n∧en.get 6=.v (.int .u8 f)∧en.get 7=.rsl 0 0 ss.length ss.length 1 true∧en.get 9=tAV l∧en.get 27=sl 1 nl (G.map gM)∧en.get 28=J G.length∧en.get 29=J k∧en.get 3000000=.any)∨(rowAt n l i≠0∧x_1=.ret∧en.get 4=.v (.slice none 0 0)∧en.get 5=I (rowAt n l i)))) (fun i hok=> ?_) i hok env st hg
 by_cases h:i<l.length
 ·have hs:=zo i (by omega)
  have hx:indexSAV 1 (tAV l) (.v (.int .i64 (i:Int)))=some (.eptr (I l[i]) 0):=zc true l i h
  have hlt:((i:Int)<(l.length:Int))=True:=eT (by omega)
  have hst:=z26 n l i h
  rw [hst]
  by_cases q1:l[i]<0
  ·rw [if_pos (.inl q1)]
   simp only [go_sem,lp70_0,hlt,hs,hx,q1]
   decide
  ·by_cases q2:(n:Int)≤l[i]
   ·rw [if_pos (.inr q2)]
    simp only [go_sem,lp70_0,hlt,hs,hx,q1,q2]
    decide
   ·rw [if_neg (not_or.2 ⟨q1,q2⟩)]
    by_cases h0:0<i
    ·have q3:((0:Int)<(i:Int))=True:=eT (by omega)
     have hm:IntKind.i64.wrap ((i:Int)-1)=((i-1:Nat):Int):=by
      rw [←w64 (i-1) (by omega)];congr 1;omega
     have hx2:indexSAV 1 (tAV l) (.v (.int .i64 ((i-1:Nat):Int)))=some (.eptr (I (l[i-1]'(by omega))) 0):=zc true l (i-1) (by omega)
     rw [if_neg (show ¬i=0 by omega),List.getElem?_eq_getElem (show i-1<l.length by omega)]
     generalize l[i-1]'(by omega)=b at*
     generalize l[i]=a at*
     have hpb:prevB (some b) a=decide (a≤b):=rfl
     rw [hpb]
     by_cases q4:a≤b
     ·rw [if_pos (by simpa using q4)]
      simp only [go_sem,lp70_0,hlt,hs,hx,q1,q2,q3,hm,hx2,q4]
      decide
     ·rw [if_neg (by simpa using q4)]
      simp only [go_sem,lp70_0,hlt,hs,hx,q1,q2,q3,hm,hx2,q4]
      refine ⟨i+1,by simp only [go_sem,z0,z3,z4,zp,zg,zu]<;>rfl,?_,?_,fun x en s hq=> ?_⟩
      ·omega
      ·omega
      ·exact hq
    ·have q3:((0:Int)<(i:Int))=False:=eF (by omega)
     rw [if_pos (show i=0 by omega)]
     generalize l[i]=a at*
     have hpb:prevB none a=false:=rfl
     rw [hpb,if_neg (by simp)]
     simp only [go_sem,lp70_0,hlt,hs,hx,q1,q2,q3]
     refine ⟨i+1,by simp only [go_sem,z0,z3,z4,zp,zg,zu]<;>rfl,?_,?_,fun x en s hq=> ?_⟩
     ·omega
     ·omega
     ·exact hq
 ·have hlt:((i:Int)<(l.length:Int))=False:=eF (by omega)
  rw [z33 n l i h]
  simp only [go_sem,lp70_0,hlt]
theorem zi5 {n v:Nat} (hv:v<2^n)(hn:n≤8):maskL (memb v)=v:=by
 have h2n:2^n≤256:=Nat.pow_le_pow_right (n:=2) (by decide) hn
 apply Nat.eq_of_testBit_eq
 intro i
 rw [z5x _ (fun a ha=>(z8b hn hv a ha).1),Bool.eq_iff_iff,decide_eq_true_eq,z1k (by omega)]
 constructor
 ·rintro ⟨k,e,h⟩
  have:i=k:=by omega
  subst this;exact h
 ·intro h;exact ⟨i,rfl,h⟩
theorem zib (n:Nat)(h1n:1≤n)(hn:n≤8)(nl:Bool)(G:List GS)(hG: ∀p∈G,p.2.length<1000)(hl:G.length≤13)(i:Nat)(ss:List Nat)(hok:i≤G.length∧ss.length≤i∧∀x∈ss,x<2^n)(env:Env)(st:St)
  (hg:gcAV true 0 0 (canon env [0,6,7,27,28,29,3000000]) st=([(0,J n),(6,u8 (2^n-1)),(7,kA ss),(27,sl 1 nl (G.map gM)),(28,J G.length),(29,J i),(3000000,.any)],⟨kS ss,[]⟩)):
  ∃x_1 en s,lim (headed pure (run L) true [0,6,7,27,28,29,3000000] lp70_1 0 0) env st=some (x_1,en,s)∧(((openS n (G.drop i) ss).1=0∧x_1=.exit 1∧en.get 7=kA (openS n (G.drop i) ss).2∧s=⟨kS (openS n (G.drop i) ss).2,[]⟩)∨((openS n (G.drop i) ss).1≠0∧x_1=.ret∧en.get 4=.v (.slice none 0 0)∧en.get 5=I (openS n (G.drop i) ss).1∧∃N:List (List Nat),N.length≤2∧s=⟨N.map (fun l=>l.map u8),[]⟩)):=by
 refine zd (α:=Nat×List Nat) (fun ⟨i,ss⟩=>G.length-i) (fun ⟨i,ss⟩=>i≤G.length∧ss.length≤i∧∀x∈ss,x<2^n) (fun ⟨i,ss⟩=>([(0,J n),(6,u8 (2^n-1)),(7,kA ss),(27,sl 1 nl (G.map gM)),(28,J G.length),(29,J i),(3000000,.any)],⟨kS ss,[]⟩)) (fun ⟨i,ss⟩ x_1 en s=>((openS n (G.drop i) ss).1=0∧x_1=.exit 1∧en.get 7=kA (openS n (G.drop i) ss).2∧s=⟨kS (openS n (G.drop i) ss).2,[]⟩)∨((openS n (G.drop i) ss).1≠0∧x_1=.ret∧en.get 4=.v (.slice none 0 0)∧en.get 5=I (openS n (G.drop i) ss).1∧∃N:List (List Nat),N.length≤2∧s=⟨N.map (fun l=>l.map u8),[]⟩)) (fun ⟨i,ss⟩ hok=> ?_) ⟨i,ss⟩ hok env st hg
 simp only at hok
 obtain ⟨h1,h2,h3⟩:=hok
 dsimp only at h1 h2 h3⊢
 by_cases h:i<G.length
 ·have hs:=zo i (by omega)
  have hx:=z0h gM nl G i h
  have hlt:((i:Int)<(G.length:Int))=True:=eT (by omega)
  have hgl:=hG G[i] (List.getElem_mem h)
  have hd:G.drop i=G[i]::G.drop (i+1):=List.drop_eq_getElem_cons h
  rw [hd]
  generalize G[i]=p at*
  obtain ⟨b,l⟩:=p
  dsimp only at hgl
  have h2n:2^n≤256:=Nat.pow_le_pow_right (n:=2) (by decide) hn
  have hp:0<2^n:=Nat.two_pow_pos n
  have hos:openS n ((b,l)::G.drop (i+1)) ss=if sideE n l≠0 then (sideE n l,ss) else if smlN n (maskL l)=0 then (5,ss) else if smlN n (maskL l)∈ss then (6,ss) else openS n (G.drop (i+1)) (ss++ [smlN n (maskL l)]):=rfl
  rw [hos]
  have hll0:l=[]→lenAV (gM (b,l))=some (I 0):=by rintro rfl;cases b<;>rfl
  have hmask:l≠[]→sideE n l=0→∃v,v<2^n∧l=memb v:=by
   intro hne he
   unfold sideE at he
   rw [if_neg hne] at he
   exact ⟨maskL l,z8e (z8x l none he).1,(z53 hn he).symm⟩
  clear hos hd
  by_cases he:ss=[]
  ·subst he
   have eA:kA []=.v (.slice none 0 0):=rfl
   have eS:kS []=[]:=rfl
   rw [eA,eS]
   by_cases hne:l=[]
   ·have hll:=hll0 hne
    rw [if_pos (by unfold sideE;rw [if_pos hne];decide)]
    have hse:sideE n l=4:=by unfold sideE;rw [if_pos hne]
    rw [hse]
    simp only [go_sem,lp70_1,hlt,hx,hll]
    exact ⟨by decide,[],by simp,rfl⟩
   ·have hl0:((l.length:Int)=0)=False:=eF (by have:=List.length_pos_iff.2 hne;omega)
    have hgm:=ziy b hne
    rw [hgm] at hx
    have hll:lenAV (tAV l)=some (J l.length):=zj I true l
    have hse:sideE n l=rowAt n l 0:=by unfold sideE rowAt;rw [if_neg hne,if_pos rfl,List.drop_zero]
    rw [hse]
    simp only [go_sem,lp70_1,hlt,hx,hll,hl0]
    generalize hg:lim (headed pure (run L) true _ lp70_0 _ _) _ _=o
    obtain ⟨x,en,s,rfl,h2⟩: ∃x en s,o=some (x,en,s)∧_:=by rw [←hg];exact zgn n l (by omega) nl G ((2^n-1:Nat):Int) i 0 (by omega) _ _ (by simp only [go_sem,Int.natCast_zero,zu]<;>rfl)
    clear hg
    obtain ⟨rfl,⟨er,rfl,e0,e6,e7,e9,e27,e28,e29,e30⟩ | ⟨er,rfl,e4,e5⟩⟩:=h2
    ·rw [if_neg (by simpa using er)]
     obtain ⟨v,hv,rfl⟩:=hmask hne (hse.trans er)
     have h105:=fun st=>c105 v (by omega) st
     have h106: ∀st,run L 106 [E8 v,I 0] st=some (B (v.testBit 0),st):=fun st=>c106 v (by omega) st
     have hmv:maskL (memb v)=v:=zi5 hv (by omega)
     rw [hmv]
     have hxo:=xor8 v (2^n-1) (by omega) (by omega)
     have hsl:=z6r hv
     have hsd:smlN n v=if v.testBit 0=true then v^^^(2^n-1) else v:=rfl
     have h122:=fun st=>c122 true [] (by simp) (smlN n v) st
     rw [show sl 1 true (([]:List Nat).map E8)=AV.v (.slice none 0 0) from rfl] at h122
     have hfr:=fun st=>ziz (smlN n v) st
     have happ:=zfo (smlN n v) [[u8 (smlN n v)]] []
     clear hse hx hll hne hmask
     cases hb:v.testBit 0 with
     |true=>
      rw [hb] at h106
      rw [hb,if_pos rfl] at hsd
      rw [←hsd] at hxo
      generalize smlN n v=w at*
      by_cases hz:w=0
      ·rw [if_pos hz]
       have hz:((w:Int)=0)=True:=eT (by omega)
       simp only [go_sem,lp70_1,e0,e6,e7,e9,e27,e28,e29,h105,h106,hxo,hz]
       exact ⟨by decide,[[w]],by simp,rfl⟩
      ·rw [if_neg hz]
       have hz:((w:Int)=0)=False:=eF (by omega)
       have hni:w ∉ ([]:List Nat):=by simp
       rw [if_neg hni]
       rw [decide_eq_false hni] at h122
       simp only [go_sem,lp70_1,e0,e6,e7,e9,e27,e28,e29,h105,h106,hxo,hz,hfr,h122,z1j,happ,hs]
       refine ⟨(i+1,[w]),by simp only [go_sem,z0,z3,z4,e0,e6,e7,e27,e28,e29,e30,zfm,zfl,compact,compactW,refsEnv,refsV,refsL,refsStore,refsAt,mapEnv,mapL,mapLs,newName,posOf,mapStore,pickStore,namesOk,z1i,z2u,List.contains_nil,List.contains_cons,Option.getD_some,hasKey]<;>rfl,?_,?_,fun x en s hq=> ?_⟩
       ·dsimp only;exact ⟨by omega,by simp,by intro x hx;rw [List.mem_singleton] at hx;omega⟩
       ·dsimp only;omega
       ·exact hq
     |false=>
      rw [hb] at h106
      rw [hb,if_neg (by simp)] at hsd
      generalize smlN n v=w at*
      subst hsd
      by_cases hz:w=0
      ·rw [if_pos hz]
       have hz:((w:Int)=0)=True:=eT (by omega)
       simp only [go_sem,lp70_1,e0,e6,e7,e9,e27,e28,e29,h105,h106,hz]
       exact ⟨by decide,[[w]],by simp,rfl⟩
      ·rw [if_neg hz]
       have hz:((w:Int)=0)=False:=eF (by omega)
       have hni:w ∉ ([]:List Nat):=by simp
       rw [if_neg hni]
       rw [decide_eq_false hni] at h122
       simp only [go_sem,lp70_1,e0,e6,e7,e9,e27,e28,e29,h105,h106,hz,hfr,h122,z1j,happ,hs]
       refine ⟨(i+1,[w]),by simp only [go_sem,z0,z3,z4,e0,e6,e7,e27,e28,e29,e30,zfm,zfl,compact,compactW,refsEnv,refsV,refsL,refsStore,refsAt,mapEnv,mapL,mapLs,newName,posOf,mapStore,pickStore,namesOk,z1i,z2u,List.contains_nil,List.contains_cons,Option.getD_some,hasKey]<;>rfl,?_,?_,fun x en s hq=> ?_⟩
       ·dsimp only;exact ⟨by omega,by simp,by intro x hx;rw [List.mem_singleton] at hx;omega⟩
       ·dsimp only;omega
       ·exact hq
    ·rw [if_pos (by simpa using er)]
     simp only [go_sem,lp70_1,e4,e5]
     exact ⟨er,[],by simp,rfl⟩
  ·have eA:=zck he
   have eS:=zci he
   have hpos:1≤ss.length:=List.length_pos_iff.2 he
   rw [eA,eS]
   by_cases hne:l=[]
   ·have hll:=hll0 hne
    rw [if_pos (by unfold sideE;rw [if_pos hne];decide)]
    have hse:sideE n l=4:=by unfold sideE;rw [if_pos hne]
    rw [hse]
    simp only [go_sem,lp70_1,hlt,hx,hll]
    exact ⟨by decide,[ss],by simp,rfl⟩
   ·have hl0:((l.length:Int)=0)=False:=eF (by have:=List.length_pos_iff.2 hne;omega)
    have hgm:=ziy b hne
    rw [hgm] at hx
    have hll:lenAV (tAV l)=some (J l.length):=zj I true l
    have hse:sideE n l=rowAt n l 0:=by unfold sideE rowAt;rw [if_neg hne,if_pos rfl,List.drop_zero]
    rw [hse]
    simp only [go_sem,lp70_1,hlt,hx,hll,hl0]
    generalize hg:lim (headed pure (run L) true _ lp70_0 _ _) _ _=o
    obtain ⟨x,en,s,rfl,h2⟩: ∃x en s,o=some (x,en,s)∧_:=by rw [←hg];exact zgo n l (by omega) nl G ((2^n-1:Nat):Int) ss i 0 (by omega) _ _ (by simp only [go_sem,Int.natCast_zero,zp,zg,zu]<;>rfl)
    clear hg
    obtain ⟨rfl,⟨er,rfl,e0,e6,e7,e9,e27,e28,e29,e30⟩ | ⟨er,rfl,e4,e5⟩⟩:=h2
    ·rw [if_neg (by simpa using er)]
     obtain ⟨v,hv,rfl⟩:=hmask hne (hse.trans er)
     have h105:=fun st=>c105 v (by omega) st
     have h106: ∀st,run L 106 [E8 v,I 0] st=some (B (v.testBit 0),st):=fun st=>c106 v (by omega) st
     have hmv:maskL (memb v)=v:=zi5 hv (by omega)
     rw [hmv]
     have hxo:=xor8 v (2^n-1) (by omega) (by omega)
     have hsl:=z6r hv
     have hsd:smlN n v=if v.testBit 0=true then v^^^(2^n-1) else v:=rfl
     have h122:=fun st=>c122 true ss (by omega) (smlN n v) st
     obtain ⟨S2,hfr⟩:=zlu he (smlN n v) [u8 (smlN n v)] []
     have happ:=zit [u8 (smlN n v)] ss (smlN n v) [] hpos (by omega)
     clear hse hx hll hne hmask
     cases hb:v.testBit 0 with
     |true=>
      rw [hb] at h106
      rw [hb,if_pos rfl] at hsd
      rw [←hsd] at hxo
      generalize smlN n v=w at*
      by_cases hz:w=0
      ·rw [if_pos hz]
       have hz:((w:Int)=0)=True:=eT (by omega)
       simp only [go_sem,lp70_1,e0,e6,e7,e9,e27,e28,e29,h105,h106,hxo,hz]
       exact ⟨by decide,[ss,[w]],by simp,rfl⟩
      ·rw [if_neg hz]
       have hz:((w:Int)=0)=False:=eF (by omega)
       by_cases hni:w∈ss
       ·rw [if_pos hni]
        rw [decide_eq_true hni] at h122
        simp only [go_sem,lp70_1,e0,e6,e7,e9,e27,e28,e29,h105,h106,hxo,hz,hfr,h122,z1j]
        exact ⟨by decide,[ss,[w]],by simp,rfl⟩
       ·rw [if_neg hni]
        rw [decide_eq_false hni] at h122
        simp only [go_sem,lp70_1,e0,e6,e7,e9,e27,e28,e29,h105,h106,hxo,hz,hfr,h122,z1j,happ,hs]
        refine ⟨(i+1,ss++ [w]),by simp only [go_sem,z0,z3,z4,e0,e6,e7,e27,e28,e29,e30,zcj,zch,zc5,zcf,zp,zg,compact,compactW,refsEnv,refsV,refsL,refsStore,refsAt,mapEnv,mapL,mapLs,newName,posOf,mapStore,pickStore,namesOk,z1i,z2u,List.contains_nil,List.contains_cons,Option.getD_some,hasKey]<;>rfl,?_,?_,fun x en s hq=> ?_⟩
        ·dsimp only;exact ⟨by omega,by rw [List.length_append,List.length_singleton];omega,by intro x hx;rcases List.mem_append.1 hx with hx|hx;exact h3 x hx;rw [List.mem_singleton] at hx;omega⟩
        ·dsimp only;omega
        ·exact hq
     |false=>
      rw [hb] at h106
      rw [hb,if_neg (by simp)] at hsd
      generalize smlN n v=w at*
      subst hsd
      by_cases hz:w=0
      ·rw [if_pos hz]
       have hz:((w:Int)=0)=True:=eT (by omega)
       simp only [go_sem,lp70_1,e0,e6,e7,e9,e27,e28,e29,h105,h106,hz]
       exact ⟨by decide,[ss,[w]],by simp,rfl⟩
      ·rw [if_neg hz]
       have hz:((w:Int)=0)=False:=eF (by omega)
       by_cases hni:w∈ss
       ·rw [if_pos hni]
        rw [decide_eq_true hni] at h122
        simp only [go_sem,lp70_1,e0,e6,e7,e9,e27,e28,e29,h105,h106,hz,hfr,h122,z1j]
        exact ⟨by decide,[ss,[w]],by simp,rfl⟩
       ·rw [if_neg hni]
        rw [decide_eq_false hni] at h122
        simp only [go_sem,lp70_1,e0,e6,e7,e9,e27,e28,e29,h105,h106,hz,hfr,h122,z1j,happ,hs]
        refine ⟨(i+1,ss++ [w]),by simp only [go_sem,z0,z3,z4,e0,e6,e7,e27,e28,e29,e30,zcj,zch,zc5,zcf,zp,zg,compact,compactW,refsEnv,refsV,refsL,refsStore,refsAt,mapEnv,mapL,mapLs,newName,posOf,mapStore,pickStore,namesOk,z1i,z2u,List.contains_nil,List.contains_cons,Option.getD_some,hasKey]<;>rfl,?_,?_,fun x en s hq=> ?_⟩
        ·dsimp only;exact ⟨by omega,by rw [List.length_append,List.length_singleton];omega,by intro x hx;rcases List.mem_append.1 hx with hx|hx;exact h3 x hx;rw [List.mem_singleton] at hx;omega⟩
        ·dsimp only;omega
        ·exact hq
    ·rw [if_pos (by simpa using er)]
     simp only [go_sem,lp70_1,e4,e5]
     exact ⟨er,[ss],by simp,rfl⟩
 ·have e:G.drop i=[]:=List.drop_eq_nil_of_le (by omega)
  have hlt:((i:Int)<(G.length:Int))=False:=eF (by omega)
  rw [e,show openS n [] ss=(0,ss) from rfl]
  simp only [go_sem,lp70_1,hlt]
theorem c70G (n:Int)(nl:Bool)(G:List GS)(hG: ∀p∈G,p.2.length<1000)(hGl:G.length<1000):
  ((openG n G).1=0∧run L 70 [I n,sl 1 nl (G.map gM)] ⟨[],[]⟩=some (.tup [kA (openG n G).2,I 0],⟨kS (openG n G).2,[]⟩))∨
  ((openG n G).1≠0∧∃N:List (List Nat),N.length≤2∧run L 70 [I n,sl 1 nl (G.map gM)] ⟨[],[]⟩=some (.tup [.v (.slice none 0 0),I (openG n G).1],⟨N.map (fun l=>l.map u8),[]⟩)):=by
 rw [z32 (fn:=ir70) rfl rfl]
 unfold openG
 by_cases q1:n<2
 ·rw [if_pos (.inl q1)]
  right
  refine ⟨by decide,[],by simp,?_⟩
  simp only [ir70,go_sem,q1]
 ·by_cases q2:8<n
  ·rw [if_pos (.inr q2)]
   right
   refine ⟨by decide,[],by simp,?_⟩
   simp only [ir70,go_sem,q1,q2]
  ·rw [if_neg (not_or.2 ⟨q1,q2⟩)]
   obtain ⟨m,rfl⟩:=Int.eq_ofNat_of_zero_le (show 0≤n by omega)
   by_cases q3:13<G.length
   ·rw [if_pos q3]
    right
    refine ⟨by decide,[],by simp,?_⟩
    have q3:((13:Int)<(G.length:Int))=True:=eT (by omega)
    simp only [ir70,go_sem,lm_,q1,q2,q3]
   ·rw [if_neg q3]
    have q3:((13:Int)<(G.length:Int))=False:=eF (by omega)
    obtain ⟨r,hsh,hsu⟩:=shl8n m (by omega)
    have hto:((m:Int)).toNat=m:=rfl
    rw [hto]
    simp only [ir70,go_sem,lm_,q1,q2,q3,hsh,hsu]
    generalize hg:lim (headed pure (run L) true _ lp70_1 _ _) _ _=o
    obtain ⟨x,en,s,rfl,h2⟩: ∃x en s,o=some (x,en,s)∧_:=by rw [←hg];exact zib m (by omega) (by omega) nl G hG (by omega) 0 [] ⟨by omega,by simp,by simp⟩ _ _ (by simp only [go_sem,Int.natCast_zero,kA,kS,compact,compactW,refsEnv,refsV,refsL,refsStore,refsAt,mapEnv,mapL,mapLs,newName,posOf,mapStore,pickStore,namesOk,z1i,z2u,List.contains_nil,List.contains_cons,Option.getD_some,hasKey]<;>rfl)
    clear hg
    rw [List.drop_zero] at h2
    rcases h2 with ⟨h0,rfl,e7,rfl⟩ | ⟨h0,rfl,e4,e5,N,hN,rfl⟩
    ·left
     refine ⟨h0,?_⟩
     simp only [go_sem,e7]
    ·right
     refine ⟨h0,N,hN,?_⟩
     simp only [go_sem,e4,e5]
attribute [local go_sem] m_ x_ l_ k_ o_ t_ a_ s_ q_ b_ c_ u_ g_ zi z9 zf zn z03 z04 ze zk zm z8 zh z06
theorem c98 (a lo hi:Int)(st:St):run L 98 [I a,I lo,I hi] st=some (B (decide (lo≤a∧a≤hi)),st):=by
 rw [run_pure (fn:=ir98) rfl rfl]
 by_cases h1:lo≤a
 ·by_cases h2:a≤hi<;>simp only [ir98,go_sem,h1,h2]
 ·simp only [ir98,go_sem,h1]
theorem zmx (nl:Bool)(l:List Int)(hlen:l.length<1000000)(a:Int)(i:Nat)(hok:i≤l.length)(env:Env)(st:St)
  (hg:gcAV true 0 0 (canon env [0,1,5]) st=([(0,sl 1 nl (l.map I)),(1,I a),(5,J i)],⟨[],[]⟩)):
  ∃x_1 en s,lim (headed pure (run L) true [0,1,5] lp100_0 0 0) env st=some (x_1,en,s)∧(if a∈l.drop i then x_1=.ret∧en.get 4=B true else x_1=.exit 0):=by
 refine zd (α:=Nat) (fun i=>l.length-i) (fun i=>i≤l.length) (fun i=>([(0,sl 1 nl (l.map I)),(1,I a),(5,J i)],⟨[],[]⟩)) (fun i x_1 en s=>if a∈l.drop i then x_1=.ret∧en.get 4=B true else x_1=.exit 0) (fun i hok=> ?_) i hok env st hg
 by_cases h:i<l.length
 ·have hx:=zc nl l i h
  have hs:=zo i (by omega)
  have hd:l.drop i=l[i]::l.drop (i+1):=List.drop_eq_getElem_cons h
  have hlt:((i:Int)<(l.length:Int))=True:=eT (by omega)
  rw [hd]
  generalize l[i]=b at*
  by_cases p:b=a
  ·simp only [go_sem,lp100_0,hx,hlt,p,lm_]
   rw [if_pos (by simp)];trivial
  ·simp only [go_sem,lp100_0,hx,hlt,p,hs,lm_]
   refine ⟨i+1,by simp only [go_sem,z0,z3,z4]<;>rfl,?_,?_,fun x en s hq=> ?_⟩
   ·omega
   ·omega
   ·simp only [List.mem_cons,show ¬a=b from fun e=>p e.symm,false_or];exact hq
 ·have hd:l.drop i=[]:=List.drop_eq_nil_of_le (by omega)
  have hlt:((i:Int)<(l.length:Int))=False:=eF (by omega)
  simp only [go_sem,lp100_0,hlt,lm_]
  rw [hd];simp
theorem c100 (nl:Bool)(l:List Int)(hlen:l.length<1000000)(a:Int)(st:St):run L 100 [sl 1 nl (l.map I),I a] st=some (B (decide (a∈l)),st):=by
 rw [run_pure (fn:=ir100) rfl rfl]
 simp only [ir100,go_sem]
 generalize hg:lim (headed pure (run L) true _ lp100_0 _ _) _ _=o
 obtain ⟨x,en,s,rfl,h2⟩: ∃x en s,o=some (x,en,s)∧_:=by rw [←hg];exact zmx nl l hlen a 0 (by omega) _ _ (by simp only [go_sem,Int.natCast_zero]<;>rfl)
 clear hg
 rw [List.drop_zero] at h2
 by_cases h:a∈l
 ·rw [if_pos h] at h2
  obtain ⟨rfl,h3⟩:=h2
  simp only [go_sem,h3,h]
 ·rw [if_neg h] at h2
  subst h2
  simp only [go_sem,h]
def othF (n:Nat) (l:List Int) (i:Nat):List Int:=((List.range' i (n-i)).filter fun (a:Nat)=> !decide ((a:Int)∈l)).map fun (a:Nat)=>(a:Int)
theorem zk5 (n:Nat)(l:List Int)(i:Nat)(h:i<n):othF n l i=if (i:Int)∈l then othF n l (i+1) else (i:Int)::othF n l (i+1):=by
 unfold othF
 rw [show n-i=(n-(i+1))+1 by omega,List.range'_succ,List.filter_cons]
 by_cases p:(i:Int)∈l
 ·rw [if_pos p,if_neg (by simp [p])]
 ·rw [if_neg p,if_pos (by simp [p])];rfl
theorem zmj (n:Nat)(l:List Int)(i:Nat)(h: ¬i<n):othF n l i=[]:=by
 unfold othF
 rw [show n-i=0 by omega];rfl
theorem zmr (n:Nat)(hn:n≤8)(nl:Bool)(l:List Int)(hlen:l.length<1000000)(i:Nat)(o:List Int)(hok:i≤n∧o.length≤i)(env:Env)(st:St)
  (hg:gcAV true 0 0 (canon env [0,1,5,6]) st=([(0,J n),(1,sl 1 nl (l.map I)),(5,oA (o.map I)),(6,J i)],⟨[],oT (o.map I)⟩)):
  ∃x_1 en s,lim (headed pure (run L) true [0,1,5,6] lp125_0 0 0) env st=some (x_1,en,s)∧(x_1=.exit 0∧en.get 5=oA ((o++othF n l i).map I)∧s=⟨[],oT ((o++othF n l i).map I)⟩):=by
 refine zd (α:=Nat×List Int) (fun ⟨i,o⟩=>n-i) (fun ⟨i,o⟩=>i≤n∧o.length≤i) (fun ⟨i,o⟩=>([(0,J n),(1,sl 1 nl (l.map I)),(5,oA (o.map I)),(6,J i)],⟨[],oT (o.map I)⟩)) (fun ⟨i,o⟩ x_1 en s=>x_1=.exit 0∧en.get 5=oA ((o++othF n l i).map I)∧s=⟨[],oT ((o++othF n l i).map I)⟩) (fun ⟨i,o⟩ hok=> ?_) ⟨i,o⟩ hok env st hg
 simp only at hok
 obtain ⟨h1,h2⟩:=hok
 dsimp only at h1 h2⊢
 by_cases h:i<n
 ·have hs:=zo i (by omega)
  have hlt:((i:Int)<(n:Int))=True:=eT (by omega)
  have h100:=fun st=>c100 nl l hlen (i:Int) st
  rw [zk5 n l i h]
  by_cases p:(i:Int)∈l
  ·rw [decide_eq_true p] at h100
   rw [if_pos p]
   simp only [go_sem,lp125_0,hlt,hs,h100]
   refine ⟨(i+1,o),by simp only [go_sem,z0,z3,z4,z9z,z4h]<;>rfl,?_,?_,fun x en s hq=> ?_⟩
   ·dsimp only;omega
   ·dsimp only;omega
   ·exact hq
  ·rw [decide_eq_false p] at h100
   rw [if_neg p]
   have happ:=fun S=>z7x (o.map I) (J i) S (by rw [lm_];omega)
   simp only [go_sem,lp125_0,hlt,hs,h100,happ]
   refine ⟨(i+1,o++ [(i:Int)]),by simp only [go_sem,z0,z3,z4,z9z,z4h,List.map_append]<;>rfl,?_,?_,fun x en s hq=> ?_⟩
   ·dsimp only;rw [List.length_append,List.length_singleton];omega
   ·dsimp only;omega
   ·simp only [List.append_assoc,List.singleton_append] at hq;exact hq
 ·have hlt:((i:Int)<(n:Int))=False:=eF (by omega)
  rw [zmj n l i h,List.append_nil]
  simp only [go_sem,lp125_0,hlt]
theorem c125 (n:Nat)(hn:n≤8)(nl:Bool)(l:List Int)(hlen:l.length<1000000)(st:St):run L 125 [J n,sl 1 nl (l.map I)] st=some (tAV (othF n l 0),st):=by
 rw [run_pure (fn:=ir125) rfl rfl]
 simp only [ir125,go_sem]
 generalize hg:lim (headed pure (run L) true _ lp125_0 _ _) _ _=o
 obtain ⟨x,en,s,rfl,h2⟩: ∃x en s,o=some (x,en,s)∧_:=by rw [←hg];exact zmr n hn nl l hlen 0 [] ⟨by omega,by simp⟩ _ _ (by simp only [go_sem,Int.natCast_zero,List.map_nil,zc9,zfd]<;>rfl)
 clear hg
 rw [List.nil_append] at h2
 obtain ⟨rfl,h3,rfl⟩:=h2
 simp only [go_sem,h3]
 rfl
theorem c110 (n:Nat)(hn:n≤8)(nl:Bool)(l:List Int)(hlen:l.length<1000000)(st:St):run L 110 [J n,sl 1 nl (l.map I)] st=some (if (0:Int)∈l then tAV (othF n l 0) else sl 1 nl (l.map I),st):=by
 rw [run_pure (fn:=ir110) rfl rfl]
 have h100:=fun st=>c100 nl l hlen 0 st
 have h125:=fun st=>c125 n hn nl l hlen st
 by_cases p:(0:Int)∈l
 ·rw [decide_eq_true p] at h100
  rw [if_pos p]
  simp only [ir110,go_sem,h100,h125]
  unfold tAV
  simp only [go_sem]
 ·rw [decide_eq_false p] at h100
  rw [if_neg p]
  simp only [ir110,go_sem,h100]
theorem loop87 (n1 n2:Bool)(xs ys:List Int)(hl:xs.length=ys.length)(hlen:xs.length<1000000)(i:Nat)(hok:i≤xs.length)(env:Env)(st:St)
  (hg:gcAV true 0 0 (canon env [0,1,5]) st=([(0,sl 1 n1 (xs.map I)),(1,sl 1 n2 (ys.map I)),(5,I i)],⟨[],[]⟩)):
  ∃x_1 en s,lim (headed pure (run L) true [0,1,5] lp87_0 0 0) env st=some (x_1,en,s)∧(if xs.drop i=ys.drop i then x_1=.exit 0 else x_1=.ret∧en.get 4=B false):=by
 refine zd (α:=Nat) (fun i=>xs.length-i) (fun i=>i≤xs.length) (fun i=>([(0,sl 1 n1 (xs.map I)),(1,sl 1 n2 (ys.map I)),(5,I i)],⟨[],[]⟩)) (fun i x_1 en s=>if xs.drop i=ys.drop i then x_1=.exit 0 else x_1=.ret∧en.get 4=B false) (fun i hok=> ?_) i hok env st hg
 by_cases h:i<xs.length
 ·have hx:=zc n1 xs i h
  have hy:=zc n2 ys i (by omega)
  have hs:=zo i (by omega)
  have hd:xs.drop i=xs[i]::xs.drop (i+1):=List.drop_eq_getElem_cons h
  have hd2:ys.drop i=ys[i]::ys.drop (i+1):=List.drop_eq_getElem_cons (by omega)
  have hlt:((i:Int)<(xs.length:Int))=True:=eT (by omega)
  rw [hd,hd2]
  generalize xs[i]=a at*
  generalize ys[i]'(by omega)=b at*
  by_cases p:a=b
  ·simp only [go_sem,lp87_0,hx,hy,hlt,p,hs,lm_]
   refine ⟨i+1,by simp only [go_sem,z0,z3,z4]<;>rfl,?_,?_,fun x en s hq=> ?_⟩
   ·omega
   ·omega
   ·simp only [List.cons.injEq,p,true_and];exact hq
  ·simp only [go_sem,lp87_0,hx,hy,hlt,p,lm_]
   rw [if_neg (by simp [p])];trivial
 ·have hd:xs.drop i=[]:=List.drop_eq_nil_of_le (by omega)
  have hd2:ys.drop i=[]:=List.drop_eq_nil_of_le (by omega)
  have hlt:((i:Int)<(xs.length:Int))=False:=eF (by omega)
  simp only [go_sem,lp87_0,hlt,lm_]
  rw [hd,hd2];simp
theorem c87 (n1 n2:Bool)(xs ys:List Int)(hlen:xs.length<1000000)(st:St):run L 87 [sl 1 n1 (xs.map I),sl 1 n2 (ys.map I)] st=some (B (decide (xs=ys)),st):=by
 rw [run_pure (fn:=ir87) rfl rfl]
 by_cases hl:xs.length=ys.length
 ·simp only [ir87,go_sem,lm_,hl]
  generalize hg:lim (headed pure (run L) true _ lp87_0 _ _) _ _=o
  obtain ⟨x,en,s,rfl,h2⟩: ∃x en s,o=some (x,en,s)∧_:=by rw [←hg];exact loop87 n1 n2 xs ys hl hlen 0 (by omega) _ _ (by simp only [go_sem]<;>rfl)
  clear hg
  simp only [List.drop_zero] at h2
  by_cases h:xs=ys
  ·rw [if_pos h] at h2
   subst h2
   simp only [go_sem,h]
  ·rw [if_neg h] at h2
   obtain ⟨rfl,h3⟩:=h2
   simp only [go_sem,h3,h]
 ·have hl2:((xs.length:Int)=(ys.length:Int))=False:=eF (by omega)
  have hne: ¬xs=ys:=fun h=>hl (by rw [h])
  simp only [ir87,go_sem,lm_,hl2,hne]
attribute [local go_sem] m_ x_ l_ k_ o_ t_ a_ s_ q_ b_ c_ u_ g_ zi z9 zf zn z03 z04 ze zk zm z8 zh z06 z0x z1v z1u z01 z1t z7e
theorem zk8 (n:Nat)(l:List Int):(othF n l 0).Pairwise (· < ·):=by
 unfold othF
 rw [List.pairwise_map]
 exact ((List.pairwise_lt_range' (s:=0) (n:=n-0)).sublist List.filter_sublist).imp (fun h=>by omega)
theorem zk7 (n:Nat)(l:List Int)(a:Int):a∈othF n l 0↔∃i:Nat,a=i∧i<n∧(i:Int) ∉ l:=by
 unfold othF
 rw [List.mem_map]
 constructor
 ·rintro ⟨i,hi,rfl⟩
  rw [List.mem_filter,List.mem_range'_1] at hi
  exact ⟨i,rfl,by omega,by simpa using hi.2⟩
 ·rintro ⟨i,rfl,h1,h2⟩
  exact ⟨i,by rw [List.mem_filter,List.mem_range'_1];exact ⟨by omega,by simpa using h2⟩,rfl⟩
theorem z9f {v:Nat} (hv:v<512)(i:Nat):(i:Int)∈memb v↔v.testBit i=true:=by
 rw [z1k hv]
 constructor
 ·rintro ⟨k,e,h⟩
  have:i=k:=by omega
  subst this;exact h
 ·intro h;exact ⟨i,rfl,h⟩
theorem z2w {n v:Nat} (hv:v<2^n)(i:Nat):(v^^^(2^n-1)).testBit i=(decide (i<n)&& !v.testBit i):=by
 rw [Nat.testBit_xor,z9j]
 by_cases h:i<n
 ·rw [decide_eq_true h];cases v.testBit i<;>rfl
 ·rw [decide_eq_false h,zee hv i (by omega)];rfl
theorem zjh {n v:Nat} (hv:v<2^n):v^^^(2^n-1)<2^n:=by
 have:=Nat.two_pow_pos n
 exact Nat.xor_lt_two_pow hv (by omega)
theorem zk6 {n v:Nat} (hn:n≤8)(hv:v<2^n):othF n (memb v) 0=memb (v^^^(2^n-1)):=by
 have h2n:2^n≤256:=Nat.pow_le_pow_right (n:=2) (by decide) hn
 have hx:=zjh hv
 apply zcu _ _ (zk8 n _) (z9g _)
 intro a
 rw [zk7,z1k (by omega)]
 constructor
 ·rintro ⟨i,rfl,h1,h2⟩
  refine ⟨i,rfl,?_⟩
  rw [z9f (by omega)] at h2
  rw [z2w hv,decide_eq_true h1];simpa using h2
 ·rintro ⟨i,rfl,h⟩
  rw [z2w hv,Bool.and_eq_true,decide_eq_true_eq] at h
  refine ⟨i,rfl,h.1,?_⟩
  rw [z9f (by omega)];simpa using h.2
theorem c110M (n:Nat)(hn:n≤8)(v:Nat)(hv:v<2^n)(st:St):run L 110 [J n,tM v] st=some (tM (smlN n v),st):=by
 have h2n:2^n≤256:=Nat.pow_le_pow_right (n:=2) (by decide) hn
 have hm:=z2q v
 have h:=c110 n hn true (memb v) (by omega) st
 rw [zk6 hn hv] at h
 have hb:(0:Int)∈memb v↔v.testBit 0=true:=z9f (v:=v) (by omega) 0
 unfold smlN
 by_cases p:v.testBit 0=true
 ·rw [if_pos (hb.2 p)] at h
  rw [if_pos p];exact h
 ·rw [if_neg (fun q=>p (hb.1 q))] at h
  rw [if_neg p];exact h
theorem c87M (a b:Nat)(ha:a<512)(hb:b<512)(st:St):run L 87 [tM a,tM b] st=some (B (decide (a=b)),st):=by
 have hm:=z2q a
 have h:=c87 true true (memb a) (memb b) (by omega) st
 have e:decide (memb a=memb b)=decide (a=b):=by
  rw [Bool.eq_iff_iff,decide_eq_true_eq,decide_eq_true_eq]
  exact ⟨zcc ha hb,fun h=>by rw [h]⟩
 rw [e] at h
 exact h
attribute [local go_sem] m_ x_ l_ k_ o_ t_ a_ s_ q_ b_ c_ u_ g_ zi z9 zf zn z03 z04 ze zk zm z8 zh z06 z0x z1v z1u z01 z1t z7e
theorem zmh: ∀n:Fin 9,pc (2^n.val-1)=n.val:=by decide
theorem zkx {n v:Nat} (hn:n≤8)(hv:v<2^n):(memb v).length=n↔v=2^n-1:=by
 have h2n:2^n≤256:=Nat.pow_le_pow_right (n:=2) (by decide) hn
 have hp:=Nat.two_pow_pos n
 have hf:pc (2^n-1)=n:=zmh ⟨n,by omega⟩
 constructor
 ·intro h
  have hs:Sub v (2^n-1):=fun i hi=>by
   rw [z9j,decide_eq_true_eq]
   apply Nat.lt_of_not_le;intro h9
   rw [zee hv i h9] at hi;cases hi
  apply zf9 (by omega) (by omega) hs
  rw [hf];exact Nat.le_of_eq h.symm
 ·intro h
  subst h;exact hf
theorem zjo {n v:Nat} (h1:1≤n)(h0:v≠0):smlN n v=0↔v=2^n-1:=by
 constructor
 ·intro h
  apply Classical.byContradiction;intro hne
  exact zhh h0 hne h
 ·rintro rfl
  unfold smlN
  rw [if_pos (by rw [z9j];simp;omega),Nat.xor_self]
theorem zkm (n:Nat)(h1n:1≤n)(hn:n≤8)(nl:Bool)(G:List GS)(l:List Int)(hlen:l.length<1000)(k:Nat)(i:Nat)(hok:i≤l.length)(env:Env)(st:St)
  (hg:gcAV true 0 0 (canon env [0,1,5,6,7]) st=([(0,J n),(1,sl 1 nl (G.map gM)),(5,J k),(6,tAV l),(7,J i)],⟨[],[]⟩)):
  ∃x_1 en s,lim (headed pure (run L) true [0,1,5,6,7] lp48_0 0 0) env st=some (x_1,en,s)∧((rowAt n l i=0∧x_1=.exit 2∧en.get 0=J n∧en.get 1=sl 1 nl (G.map gM)∧en.get 5=J k∧en.get 6=tAV l∧s=⟨[],[]⟩)∨(rowAt n l i≠0∧x_1=.ret∧en.get 4=I (rowAt n l i))):=by
 refine zd (α:=Nat) (fun i=>l.length-i) (fun i=>i≤l.length) (fun i=>([(0,J n),(1,sl 1 nl (G.map gM)),(5,J k),(6,tAV l),(7,J i)],⟨[],[]⟩)) (fun i x_1 en s=>(rowAt n l i=0∧x_1=.exit 2∧en.get 0=J n∧en.get 1=sl 1 nl (G.map gM)∧en.get 5=J k∧en.get 6=tAV l∧s=⟨[],[]⟩)∨(rowAt n l i≠0∧x_1=.ret∧en.get 4=I (rowAt n l i))) (fun i hok=> ?_) i hok env st hg
 have hll:lenAV (tAV l)=some (J l.length):=zj I true l
 by_cases h:i<l.length
 ·have hs:=zo i (by omega)
  have hx:indexSAV 1 (tAV l) (.v (.int .i64 (i:Int)))=some (.eptr (I l[i]) 0):=zc true l i h
  have hlt:((i:Int)<(l.length:Int))=True:=eT (by omega)
  have hst:=z26 n l i h
  have hn1:IntKind.i64.wrap ((n:Int)-1)=(n:Int)-1:=by rw [z2x]<;>omega
  have h98:=fun a st=>c98 a 0 ((n:Int)-1) st
  rw [hst]
  by_cases q1:l[i]<0∨(n:Int)≤l[i]
  ·rw [if_pos q1]
   have h98:=fun st=>h98 l[i] st
   rw [decide_eq_false (by omega)] at h98
   simp only [go_sem,lp48_0,hll,hlt,hs,hx,hn1,h98]
   decide
  ·rw [if_neg q1]
   have h98:=fun st=>h98 l[i] st
   rw [decide_eq_true (by omega)] at h98
   by_cases h0:0<i
   ·have q3:((0:Int)<(i:Int))=True:=eT (by omega)
    have hm:IntKind.i64.wrap ((i:Int)-1)=((i-1:Nat):Int):=by
     rw [←w64 (i-1) (by omega)];congr 1;omega
    have hx2:indexSAV 1 (tAV l) (.v (.int .i64 ((i-1:Nat):Int)))=some (.eptr (I (l[i-1]'(by omega))) 0):=zc true l (i-1) (by omega)
    rw [if_neg (show ¬i=0 by omega),List.getElem?_eq_getElem (show i-1<l.length by omega)]
    generalize l[i-1]'(by omega)=b at*
    generalize l[i]=a at*
    have hpb:prevB (some b) a=decide (a≤b):=rfl
    rw [hpb]
    by_cases q4:a≤b
    ·rw [if_pos (by simpa using q4)]
     simp only [go_sem,lp48_0,hll,hlt,hs,hx,hn1,h98,q3,hm,hx2,q4]
     decide
    ·rw [if_neg (by simpa using q4)]
     simp only [go_sem,lp48_0,hll,hlt,hs,hx,hn1,h98,q3,hm,hx2,q4]
     refine ⟨i+1,by simp only [go_sem,z0,z3,z4,zu]<;>rfl,?_,?_,fun x en s hq=> ?_⟩
     ·omega
     ·omega
     ·exact hq
   ·have q3:((0:Int)<(i:Int))=False:=eF (by omega)
    rw [if_pos (show i=0 by omega)]
    generalize l[i]=a at*
    have hpb:prevB none a=false:=rfl
    rw [hpb,if_neg (by simp)]
    simp only [go_sem,lp48_0,hll,hlt,hs,hx,hn1,h98,q3]
    refine ⟨i+1,by simp only [go_sem,z0,z3,z4,zu]<;>rfl,?_,?_,fun x en s hq=> ?_⟩
    ·omega
    ·omega
    ·exact hq
 ·have hlt:((i:Int)<(l.length:Int))=False:=eF (by omega)
  rw [z33 n l i h]
  simp only [go_sem,lp48_0,hll,hlt]
theorem z2i (n:Nat)(tips:List Nat)(v:Nat)(acc:List (Nat×Nat)):ren1 n tips acc (tM v)=(tM v,acc):=zu _ _ _ _
theorem z0j (n v:Nat):okRef n (tM v)=true:=zh _ _
theorem zjm {G:List GS} {X:List Nat} {i:Nat} (h:(G.take i).map gM=X.map tM)(hX:X.length=i) {j:Nat} (hj:j<i)(hg:j<G.length):gM G[j]=tM (X[j]'(by omega)):=by
 have e:=congrArg (fun l:List AV=>l[j]?) h
 simp only [List.getElem?_map,List.getElem?_take,if_pos hj] at e
 rw [List.getElem?_eq_getElem hg,List.getElem?_eq_getElem (show j<X.length by omega)] at e
 simpa using e
theorem zkl (n:Nat)(h1n:1≤n)(hn:n≤8)(nl:Bool)(G:List GS)(hGl:G.length≤13)(v:Nat)(hv:v<2^n)(X:List Nat)(hX: ∀x∈X,x<2^n)(i:Nat)(hi:i<G.length)(hXl:X.length=i)(hGX:(G.take i).map gM=X.map tM)(j:Nat)(hok:j≤i)(env:Env)(st:St)
  (hg:gcAV true 0 0 (canon env [0,1,5,6,8]) st=([(0,J n),(1,sl 1 nl (G.map gM)),(5,J i),(6,tM v),(8,J j)],⟨[],[]⟩)):
  ∃x_1 en s,lim (headed pure (run L) true [0,1,5,6,8] lp48_1 0 0) env st=some (x_1,en,s)∧(if smlN n v∈(X.map (smlN n)).drop j then x_1=.ret∧en.get 4=I 6 else (x_1=.exit 4∧en.get 0=J n∧en.get 1=sl 1 nl (G.map gM)∧en.get 5=J i∧s=⟨[],[]⟩)):=by
 refine zd (α:=Nat) (fun j=>i-j) (fun j=>j≤i) (fun j=>([(0,J n),(1,sl 1 nl (G.map gM)),(5,J i),(6,tM v),(8,J j)],⟨[],[]⟩)) (fun j x_1 en s=>if smlN n v∈(X.map (smlN n)).drop j then x_1=.ret∧en.get 4=I 6 else (x_1=.exit 4∧en.get 0=J n∧en.get 1=sl 1 nl (G.map gM)∧en.get 5=J i∧s=⟨[],[]⟩)) (fun j hok=> ?_) j hok env st hg
 by_cases h:j<i
 ·have hs:=zo j (by omega)
  have hlt:((j:Int)<(i:Int))=True:=eT (by omega)
  have hx:=z0h gM nl G j (by omega)
  have hget:=zjm hGX hXl h (by omega)
  rw [hget] at hx
  have h2n:2^n≤256:=Nat.pow_le_pow_right (n:=2) (by decide) hn
  have hxl:=hX (X[j]'(by omega)) (List.getElem_mem _)
  have hd:(X.map (smlN n)).drop j=smlN n (X[j]'(by omega))::(X.map (smlN n)).drop (j+1):=by
   rw [List.drop_eq_getElem_cons (by rw [lm_];omega),List.getElem_map]
  rw [hd]
  generalize X[j]'(by omega)=x at*
  have ha:=fun st=>c110M n hn v hv st
  have hb:=fun st=>c110M n hn x hxl st
  have l1:=z6r hv
  have l2:=z6r hxl
  have hc:=fun st=>c87M (smlN n v) (smlN n x) (by omega) (by omega) st
  by_cases p:smlN n v=smlN n x
  ·rw [decide_eq_true p] at hc
   have hin:(smlN n v∈smlN n x::(X.map (smlN n)).drop (j+1))=True:=eT (by rw [p];exact List.mem_cons_self)
   simp only [go_sem,lp48_1,hlt,hx,ha,hb,hc,hin]
  ·rw [decide_eq_false p] at hc
   have e:(smlN n v∈smlN n x::(X.map (smlN n)).drop (j+1))=(smlN n v∈(X.map (smlN n)).drop (j+1)):=by
    rw [List.mem_cons];exact propext ⟨fun h=>h.resolve_left p,fun h=> .inr h⟩
   simp only [e]
   simp only [go_sem,lp48_1,hlt,hx,ha,hb,hc,hs]
   refine ⟨j+1,by simp only [go_sem,z0,z3,z4,z2i,z0j]<;>rfl,?_,?_,fun x en s hq=> ?_⟩
   ·omega
   ·omega
   ·exact hq
 ·have e:(X.map (smlN n)).drop j=[]:=List.drop_eq_nil_of_le (by rw [lm_];omega)
  have hlt:((j:Int)<(i:Int))=False:=eF (by omega)
  have hin:(smlN n v∈([]:List Nat))=False:=eF (by simp)
  rw [e]
  simp only [go_sem,lp48_1,hlt,hin]
theorem zkk (n:Nat)(h1n:1≤n)(hn:n≤8)(nl:Bool)(G:List GS)(hG: ∀p∈G,p.2.length<1000)(hGl:G.length≤13)(i:Nat)(X:List Nat)(hok:i≤G.length∧X.length=i∧(∀x∈X,x<2^n)∧(G.take i).map gM=X.map tM)(env:Env)(st:St)
  (hg:gcAV true 0 0 (canon env [0,1,5]) st=([(0,J n),(1,sl 1 nl (G.map gM)),(5,J i)],⟨[],[]⟩)):
  ∃x_1 en s,lim (headed pure (run L) true [0,1,5] lp48_2 0 0) env st=some (x_1,en,s)∧(((openS n (G.drop i) (X.map (smlN n))).1=0∧x_1=.exit 0)∨((openS n (G.drop i) (X.map (smlN n))).1≠0∧x_1=.ret∧en.get 4=I (openS n (G.drop i) (X.map (smlN n))).1)):=by
 refine zd (α:=Nat×List Nat) (fun ⟨i,X⟩=>G.length-i) (fun ⟨i,X⟩=>i≤G.length∧X.length=i∧(∀x∈X,x<2^n)∧(G.take i).map gM=X.map tM) (fun ⟨i,X⟩=>([(0,J n),(1,sl 1 nl (G.map gM)),(5,J i)],⟨[],[]⟩)) (fun ⟨i,X⟩ x_1 en s=>((openS n (G.drop i) (X.map (smlN n))).1=0∧x_1=.exit 0)∨((openS n (G.drop i) (X.map (smlN n))).1≠0∧x_1=.ret∧en.get 4=I (openS n (G.drop i) (X.map (smlN n))).1)) (fun ⟨i,X⟩ hok=> ?_) ⟨i,X⟩ hok env st hg
 simp only at hok
 obtain ⟨h1,hXl,h3,h4⟩:=hok
 dsimp only at h1 hXl h3 h4⊢
 have hGn:lenAV (sl 1 nl (G.map gM))=some (J G.length):=zj gM nl G
 by_cases h:i<G.length
 ·have hs:=zo i (by omega)
  have hlt:((i:Int)<(G.length:Int))=True:=eT (by omega)
  have hx:=z0h gM nl G i h
  have hgl:=hG G[i] (List.getElem_mem h)
  have hd:G.drop i=G[i]::G.drop (i+1):=List.drop_eq_getElem_cons h
  have hT:(G.take (i+1)).map gM=X.map tM++ [gM G[i]]:=by
   rw [List.take_succ,List.getElem?_eq_getElem h,List.map_append,h4];rfl
  rw [hd]
  generalize G[i]=p at*
  obtain ⟨b,l⟩:=p
  dsimp only at hgl
  have h2n:2^n≤256:=Nat.pow_le_pow_right (n:=2) (by decide) hn
  have hos:openS n ((b,l)::G.drop (i+1)) (X.map (smlN n))=if sideE n l≠0 then (sideE n l,X.map (smlN n)) else if smlN n (maskL l)=0 then (5,X.map (smlN n)) else if smlN n (maskL l)∈X.map (smlN n) then (6,X.map (smlN n)) else openS n (G.drop (i+1)) (X.map (smlN n)++ [smlN n (maskL l)]):=rfl
  rw [hos]
  by_cases hne:l=[]
  ·have hse:sideE n l=4:=by unfold sideE;rw [if_pos hne]
   rw [hse,if_pos (by decide)]
   subst hne
   have hll0:lenAV (gM (b,[]))=some (I 0):=by cases b<;>rfl
   simp only [go_sem,lp48_2,hGn,hlt,hx,hll0]
   decide
  ·have hgm:=ziy b hne
   rw [hgm] at hx hT
   have hll:lenAV (tAV l)=some (J l.length):=zj I true l
   have hl0:((l.length:Int)=0)=False:=eF (by have:=List.length_pos_iff.2 hne;omega)
   have hse:sideE n l=rowAt n l 0:=by unfold sideE rowAt;rw [if_neg hne,if_pos rfl,List.drop_zero]
   rw [hse]
   simp only [go_sem,lp48_2,hGn,hlt,hx,hll,hl0]
   generalize hg:lim (headed pure (run L) true _ lp48_0 _ _) _ _=o
   obtain ⟨x,en,s,rfl,h2⟩: ∃x en s,o=some (x,en,s)∧_:=by rw [←hg];exact zkm n h1n hn nl G l (by omega) i 0 (by omega) _ _ (by simp only [go_sem,Int.natCast_zero,zu]<;>rfl)
   clear hg
   rcases h2 with ⟨er,rfl,e0,e1,e5,e6,rfl⟩ | ⟨er,rfl,e4⟩
   ·rw [if_neg (by simpa using er)]
    have hrow:rowE n none l=0:=by
     have e:=hse.trans er
     unfold sideE at e
     rwa [if_neg hne] at e
    have hl2:=z53 hn hrow
    have hvl:=z8e (z8x l none hrow).1
    have hv0:=zi6 (fun a ha=>((z8x l none hrow).1 a ha).1) hne
    have hlf:=zkx hn hvl
    have hz:=zjo (n:=n) h1n hv0
    rw [hl2] at hlf
    generalize maskL l=v at*
    have htm:tAV l=tM v:=by unfold tM;rw [hl2]
    rw [htm] at e6 hll hT
    by_cases hf:v=2^n-1
    ·rw [if_pos (hz.2 hf)]
     have q:((l.length:Int)=(n:Int))=True:=eT (by rw [hlf.2 hf])
     simp only [go_sem,lp48_2,e0,e1,e5,e6,hll,q]
     decide
    ·rw [if_neg (fun e=>hf (hz.1 e))]
     have q:((l.length:Int)=(n:Int))=False:=eF (fun e=>hf (hlf.1 (by omega)))
     simp only [go_sem,lp48_2,e0,e1,e5,e6,hll,q]
     generalize hg:lim (headed pure (run L) true _ lp48_1 _ _) _ _=o
     obtain ⟨x,en,s,rfl,h2⟩: ∃x en s,o=some (x,en,s)∧_:=by rw [←hg];exact zkl n h1n hn nl G hGl v hvl X h3 i h hXl h4 0 (by omega) _ _ (by simp only [go_sem,Int.natCast_zero,z2i,z0j,e0,e1,e5,e6]<;>rfl)
     clear hg
     rw [List.drop_zero] at h2
     by_cases hin:smlN n v∈X.map (smlN n)
     ·rw [if_pos hin] at h2⊢
      obtain ⟨rfl,e4⟩:=h2
      simp only [go_sem,lp48_2,e4]
      decide
     ·rw [if_neg hin] at h2⊢
      obtain ⟨rfl,e0,e1,e5,rfl⟩:=h2
      simp only [go_sem,lp48_2,e0,e1,e5,hs]
      refine ⟨(i+1,X++ [v]),by simp only [go_sem,z0,z3,z4,e0,e1,e5]<;>rfl,?_,?_,fun x en s hq=> ?_⟩
      ·dsimp only
       refine ⟨by omega,by rw [List.length_append,List.length_singleton];omega,?_,?_⟩
       ·intro x hx
        rcases List.mem_append.1 hx with hx|hx
        ·exact h3 x hx
        ·rw [List.mem_singleton] at hx;subst hx;exact hvl
       ·rw [hT,List.map_append];rfl
      ·dsimp only;omega
      ·rw [List.map_append] at hq;exact hq
   ·rw [if_pos (by simpa using er)]
    simp only [go_sem,lp48_2,e4]
    exact er
 ·have e:G.drop i=[]:=List.drop_eq_nil_of_le (by omega)
  have hlt:((i:Int)<(G.length:Int))=False:=eF (by omega)
  rw [e,show openS n [] (X.map (smlN n))=(0,X.map (smlN n)) from rfl]
  simp only [go_sem,lp48_2,hGn,hlt]
theorem c48 (n:Int)(nl:Bool)(G:List GS)(hG: ∀p∈G,p.2.length<1000)(hGl:G.length<1000)(st:St):run L 48 [I n,sl 1 nl (G.map gM)] st=some (I (openG n G).1,st):=by
 rw [run_pure (fn:=ir48) rfl rfl]
 have h98:=fun st=>c98 n 2 8 st
 have hGn:lenAV (sl 1 nl (G.map gM))=some (J G.length):=zj gM nl G
 unfold openG
 by_cases q1:n<2∨8<n
 ·rw [if_pos q1]
  rw [decide_eq_false (by omega)] at h98
  simp only [ir48,go_sem,h98]
 ·rw [if_neg q1]
  rw [decide_eq_true (by omega)] at h98
  obtain ⟨m,rfl⟩:=Int.eq_ofNat_of_zero_le (show 0≤n by omega)
  by_cases q3:13<G.length
  ·rw [if_pos q3]
   have q3:((13:Int)<(G.length:Int))=True:=eT (by omega)
   simp only [ir48,go_sem,h98,hGn,q3]
  ·rw [if_neg q3]
   have q3:((13:Int)<(G.length:Int))=False:=eF (by omega)
   have hto:((m:Int)).toNat=m:=rfl
   rw [hto]
   simp only [ir48,go_sem,h98,hGn,q3]
   generalize hg:lim (headed pure (run L) true _ lp48_2 _ _) _ _=o
   obtain ⟨x,en,s,rfl,h2⟩: ∃x en s,o=some (x,en,s)∧_:=by rw [←hg];exact zkk m (by omega) (by omega) nl G hG (by omega) 0 [] ⟨by omega,rfl,by simp,rfl⟩ _ _ (by simp only [go_sem,Int.natCast_zero]<;>rfl)
   clear hg
   rw [List.drop_zero,List.map_nil] at h2
   rcases h2 with ⟨h0,rfl⟩ | ⟨h0,rfl,e4⟩
   ·simp only [go_sem,h0]
   ·simp only [go_sem,e4]
attribute [local go_sem] m_ x_ l_ k_ o_ t_ a_ s_ q_ b_ c_ u_ g_ zi z9 zf zn z03 z04 ze zk zm z8 zh z06 z0x z1v z1u z01 z1t z7e
theorem z9p (k:Nat): ∀N:List (List Nat),shStore k (N.map fun l=>l.map u8)=N.map fun l=>l.map u8
 | []=>rfl
 |l::r=>by simp only [List.map_cons,shStore,z8v,z9p k r]
section
variable {n:Int} {nl:Bool} {G:List GS} (hG: ∀p∈G,p.2.length<1000) (hGl:G.length<1000) (he:(openG n G).1≠0)
include hG hGl he
theorem c70e: ∃N:List (List Nat),N.length≤2∧run L 70 [I n,sl 1 nl (G.map gM)] ⟨[],[]⟩=some (.tup [.v (.slice none 0 0),I (openG n G).1],⟨N.map (fun l=>l.map u8),[]⟩):=by
 rcases c70G n nl G hG hGl with ⟨h,_⟩ | ⟨_,h⟩
 ·exact absurd h he
 ·exact h
theorem c32e (a b:Int)(st:St):run L 32 [I n,sl 1 nl (G.map gM),I a,I b] st=some (.tup [I 0,I (openG n G).1],st):=by
 rw [run_pure (fn:=ir32) rfl rfl]
 obtain ⟨N,hN,h70⟩:=c70e (nl:=nl) hG hGl he
 simp only [ir32,go_sem,h70,show pure 70=false from rfl,z9p,shV,shVs,he]
theorem c36e (nf:Bool)(f:List Int)(st:St):run L 36 [I n,sl 1 nl (G.map gM),sl 1 nf (f.map I)] st=some (.tup [I 0,I (openG n G).1],st):=by
 rw [run_pure (fn:=ir36) rfl rfl]
 obtain ⟨N,hN,h70⟩:=c70e (nl:=nl) hG hGl he
 simp only [ir36,go_sem,h70,show pure 70=false from rfl,z9p,shV,shVs,he]
end
attribute [local go_sem] m_ x_ l_ k_ o_ t_ a_ s_ q_ b_ c_ u_ g_ zi z9 zf zn z03 z04 ze zk zm z8 zh z06 z0x z1v z1u z01 z1t z7e
theorem zmw (n1 n2:Bool)(xs ys:List Int)(hlen:xs.length<1000000)(i:Nat)(hok:i≤xs.length∧i≤ys.length)(env:Env)(st:St)
  (hg:gcAV true 0 0 (canon env [0,1,5]) st=([(0,sl 1 n1 (xs.map I)),(1,sl 1 n2 (ys.map I)),(5,I i)],⟨[],[]⟩)):
  ∃x_1 en s,lim (headed pure (run L) true [0,1,5] lp101_0 0 0) env st=some (x_1,en,s)∧((x_1=.exit 0∧en.get 0=sl 1 n1 (xs.map I)∧en.get 1=sl 1 n2 (ys.map I)∧lexLt (xs.drop i) (ys.drop i)=decide (xs.length<ys.length))∨(x_1=.ret∧en.get 4=B (lexLt (xs.drop i) (ys.drop i)))):=by
 refine zd (α:=Nat) (fun i=>xs.length-i) (fun i=>i≤xs.length∧i≤ys.length) (fun i=>([(0,sl 1 n1 (xs.map I)),(1,sl 1 n2 (ys.map I)),(5,I i)],⟨[],[]⟩)) (fun i x_1 en s=>(x_1=.exit 0∧en.get 0=sl 1 n1 (xs.map I)∧en.get 1=sl 1 n2 (ys.map I)∧lexLt (xs.drop i) (ys.drop i)=decide (xs.length<ys.length))∨(x_1=.ret∧en.get 4=B (lexLt (xs.drop i) (ys.drop i)))) (fun i hok=> ?_) i hok env st hg
 obtain ⟨hok1,hok2⟩:=hok
 by_cases h:i<xs.length
 ·have hx:=zc n1 xs i h
  have hs:=zo i (by omega)
  have hd:xs.drop i=xs[i]::xs.drop (i+1):=List.drop_eq_getElem_cons h
  have hlt:((i:Int)<(xs.length:Int))=True:=eT (by omega)
  rw [hd]
  by_cases h2:i<ys.length
  ·have hy:=zc n2 ys i h2
   have hd2:ys.drop i=ys[i]::ys.drop (i+1):=List.drop_eq_getElem_cons h2
   have hlt2:((i:Int)<(ys.length:Int))=True:=eT (by omega)
   rw [hd2]
   generalize xs[i]=a at*
   generalize ys[i]=b at*
   have hcn:lexLt (a::xs.drop (i+1)) (b::ys.drop (i+1))=(decide (a<b)||(decide (a=b)&&lexLt (xs.drop (i+1)) (ys.drop (i+1)))):=rfl
   rw [hcn]
   by_cases p:a=b
   ·subst p
    have q:((a:Int)=a)=True:=eT rfl
    have e:(decide (a<a)||(decide (a=a)&&lexLt (xs.drop (i+1)) (ys.drop (i+1))))=lexLt (xs.drop (i+1)) (ys.drop (i+1)):=by simp
    rw [e]
    simp only [go_sem,lp101_0,hx,hy,hlt,hlt2,hs,lm_]
    refine ⟨i+1,by simp only [go_sem,z0,z3,z4]<;>rfl,?_,?_,fun x en s hq=> ?_⟩
    ·omega
    ·omega
    ·exact hq
   ·rw [decide_eq_false p,Bool.false_and,Bool.or_false]
    by_cases p1:a<b
    ·rw [decide_eq_true p1]
     simp only [go_sem,lp101_0,hx,hy,hlt,hlt2,p,p1,lm_]
    ·rw [decide_eq_false p1]
     simp only [go_sem,lp101_0,hx,hy,hlt,hlt2,p,p1,lm_]
  ·have hd2:ys.drop i=[]:=List.drop_eq_nil_of_le (by omega)
   have hlt2:((i:Int)<(ys.length:Int))=False:=eF (by omega)
   have hc:xs.length<ys.length↔False:=⟨fun h=>by omega,fun h=>h.elim⟩
   rw [hd2]
   generalize xs[i]=a at*
   have hcn:lexLt (a::xs.drop (i+1)) []=false:=rfl
   rw [hcn]
   simp only [hc]
   simp only [go_sem,lp101_0,hx,hlt,hlt2,lm_]
 ·have hd:xs.drop i=[]:=List.drop_eq_nil_of_le (by omega)
  have hlt:((i:Int)<(xs.length:Int))=False:=eF (by omega)
  have hi:i=xs.length:=by omega
  have hcn:lexLt [] (ys.drop i)=decide (xs.length<ys.length):=by
   by_cases h2:i<ys.length
   ·rw [List.drop_eq_getElem_cons h2,decide_eq_true (by omega)];rfl
   ·rw [List.drop_eq_nil_of_le (by omega),decide_eq_false (by omega)];rfl
  rw [hd,hcn]
  simp only [go_sem,lp101_0,hlt,lm_]
theorem c101 (n1 n2:Bool)(xs ys:List Int)(hlen:xs.length<1000000)(st:St):run L 101 [sl 1 n1 (xs.map I),sl 1 n2 (ys.map I)] st=some (B (lexLt xs ys),st):=by
 rw [run_pure (fn:=ir101) rfl rfl]
 simp only [ir101,go_sem]
 generalize hg:lim (headed pure (run L) true _ lp101_0 _ _) _ _=o
 obtain ⟨x,en,s,rfl,h2⟩: ∃x en s,o=some (x,en,s)∧_:=by rw [←hg];exact zmw n1 n2 xs ys hlen 0 ⟨by omega,by omega⟩ _ _ (by simp only [go_sem,Int.natCast_zero]<;>rfl)
 clear hg
 simp only [List.drop_zero] at h2
 rcases h2 with ⟨rfl,e0,e1,h5⟩ | ⟨rfl,h3⟩
 ·rw [h5]
  by_cases p:xs.length<ys.length
  ·have q:((xs.length:Int)<(ys.length:Int))=True:=eT (by omega)
   simp only [go_sem,e0,e1,q,lm_,p]
  ·have q:((xs.length:Int)<(ys.length:Int))=False:=eF (by omega)
   simp only [go_sem,e0,e1,q,lm_,p]
 ·simp only [go_sem,h3]
def lexM (a b:Nat):Bool:=lexLt (memb a) (memb b)
def pA (o:List AV):AV:=if o.length=0 then .lst .full 1 [] else oA o
theorem pA_ne {o:List AV} (h:o≠[]):pA o=oA o:=by
 unfold pA;rw [if_neg];intro h2;exact h (List.eq_nil_of_length_eq_zero h2)
theorem zg3 (o ys:List AV)(s:List (List AV))(h:o.length+ys.length<1000):appendAV 1 (pA o) ys ⟨s,oT o⟩=some (pA (o++ys),⟨s,oT (o++ys)⟩):=by
 cases ys with
 |nil=>
  rw [List.append_nil]
  unfold pA oA oT loc locT
  split<;>rfl
 |cons y r=>
  cases o with
  |nil=>
   have h2: ¬(y::r).length=0:=by simp
   unfold pA oA oT loc locT
   rw [List.nil_append,if_pos (show ([]:List AV).length=0 from rfl),if_neg h2,if_neg h2,if_pos (show ([]:List AV).length=0 from rfl),if_neg h2]
   simp only [appendAV,List.length_nil,Nat.zero_add,List.nil_append]
   rw [if_pos trivial,if_pos (by unfold maxGrow;simp only [List.length_nil,Nat.zero_add] at h;omega)]
  |cons a o=>
   have h1: ¬(a::o).length=0:=by simp
   have h2: ¬(a::o++y::r).length=0:=by simp
   unfold pA oA oT loc locT
   rw [if_neg h1,if_neg h2,if_neg h1,if_neg h2,if_neg h1,if_neg h2]
   simp only [appendAV]
   rw [if_pos trivial,if_pos (by unfold maxGrow;omega)]
   simp;omega
attribute [local go_sem] m_ x_ l_ k_ o_ t_ a_ s_ q_ b_ c_ u_ g_ zi z9 zf zn z03 z04 ze zk zm z8 zh z06 z0x z1v z1u z01 z1t z7e
def lgG (G:List GS):Bool:=decide (40<G.length)||G.any fun p=>decide (40<p.2.length)
theorem len_gM (p:GS):lenAV (gM p)=some (J p.2.length):=by
 obtain ⟨k,l⟩:=p
 cases l with
 |nil=>cases k<;>rfl
 |cons a r=>rw [ziy k (by simp)];exact zj I true (a::r)
theorem loop14 (nl:Bool)(G:List GS)(hG:G.length≤40)(i:Nat)(hok:i≤G.length)(env:Env)(st:St)
  (hg:gcAV true 0 0 (canon env [0,3]) st=([(0,sl 1 nl (G.map gM)),(3,J i)],⟨[],[]⟩)):
  ∃x_1 en s,lim (headed pure (run L) true [0,3] lp14_0 0 0) env st=some (x_1,en,s)∧(((G.drop i).any (fun p=>decide (40<p.2.length))=true∧x_1=.ret∧en.get 2=B true)∨((G.drop i).any (fun p=>decide (40<p.2.length))=false∧x_1=.exit 0)):=by
 refine zd (α:=Nat) (fun i=>G.length-i) (fun i=>i≤G.length) (fun i=>([(0,sl 1 nl (G.map gM)),(3,J i)],⟨[],[]⟩)) (fun i x_1 en s=>((G.drop i).any (fun p=>decide (40<p.2.length))=true∧x_1=.ret∧en.get 2=B true)∨((G.drop i).any (fun p=>decide (40<p.2.length))=false∧x_1=.exit 0)) (fun i hok=> ?_) i hok env st hg
 have hll:=zj gM nl G
 by_cases h:i<G.length
 ·have hs:=zo i (by omega)
  have hlt:((i:Int)<(G.length:Int))=True:=eT (by omega)
  have hx:=z0h gM nl G i h
  have hd:G.drop i=G[i]::G.drop (i+1):=List.drop_eq_getElem_cons h
  rw [hd,List.any_cons]
  generalize G[i]=p at*
  have hpl:=len_gM p
  by_cases q:40<p.2.length
  ·have q2:((40:Int)<(p.2.length:Int))=True:=eT (by omega)
   rw [decide_eq_true q,Bool.true_or]
   simp only [go_sem,lp14_0,hll,hlt,hs,hx,hpl,q2]
  ·have q2:((40:Int)<(p.2.length:Int))=False:=eF (by omega)
   rw [decide_eq_false q,Bool.false_or]
   simp only [go_sem,lp14_0,hll,hlt,hs,hx,hpl,q2]
   refine ⟨i+1,by simp only [go_sem,z0,z3,z4]<;>rfl,?_,?_,fun x en s hq=> ?_⟩
   ·omega
   ·omega
   ·exact hq
 ·have e:G.drop i=[]:=List.drop_eq_nil_of_le (by omega)
  have hlt:((i:Int)<(G.length:Int))=False:=eF (by omega)
  rw [e,List.any_nil]
  simp only [go_sem,lp14_0,hll,hlt]
theorem c14 (nl:Bool)(G:List GS)(st:St):run L 14 [sl 1 nl (G.map gM)] st=some (B (lgG G),st):=by
 rw [run_pure (fn:=ir14) rfl rfl]
 have hll:=zj gM nl G
 unfold lgG
 by_cases q:40<G.length
 ·have q2:((40:Int)<(G.length:Int))=True:=eT (by omega)
  rw [decide_eq_true q,Bool.true_or]
  simp only [ir14,go_sem,hll,q2]
 ·have q2:((40:Int)<(G.length:Int))=False:=eF (by omega)
  rw [decide_eq_false q,Bool.false_or]
  simp only [ir14,go_sem,hll,q2]
  generalize hg:lim (headed pure (run L) true _ lp14_0 _ _) _ _=o
  obtain ⟨x,en,s,rfl,h2⟩: ∃x en s,o=some (x,en,s)∧_:=by rw [←hg];exact loop14 nl G (by omega) 0 (by omega) _ _ (by simp only [go_sem,Int.natCast_zero]<;>rfl)
  clear hg
  rw [List.drop_zero] at h2
  rcases h2 with ⟨h,rfl,e2⟩ | ⟨h,rfl⟩
  ·rw [h];simp only [go_sem,e2]
  ·rw [h];simp only [go_sem]
theorem lg_ok {G:List GS} (h:lgG G=false):G.length≤40∧∀p∈G,p.2.length≤40:=by
 unfold lgG at h
 rw [Bool.or_eq_false_iff,decide_eq_false_iff_not,List.any_eq_false] at h
 refine ⟨by omega,fun p hp=> ?_⟩
 have:=h.2 p hp
 simpa using this
end Go.Proofs.YtdnmhlfjafjkbaaGreatDoor.Vm
namespace Go.Proofs.YtdnmhlfjafjkbaaGreatDoor.Vm
open Go Go.Ev Go.ChangeShapes Go.WideShapes Go.ChangeAt Go.RowKit
set_option maxRecDepth 100000
set_option maxHeartbeats 4000000
attribute [local go_sem] m_ x_ l_ k_ o_ t_ a_ s_ q_ b_ c_ u_ g_ z4b z0s z5p z20 z46 z0n z5l z18 z2d z0c z38 z1z z45 z0m z5k z23 z49 z0q z5n z19 z2e z0d z39 z16 z2c z0b z35 z22 z48 z0p z30 z6i z15 z85 z24 z4a z0r z5o z25 z1o z0t z5q z1y z44 z0l z5j z21 z47 z0o z5m z37 z1b z36 z6t z8f z8g z5y z3g z3j z3i z3h z3x z3y z6d z61 z8m z0w z4c z34 z1d z3b z40 z42 z6f z6g z6e z43 z2b z1a z5i z31 z2a z1f z0g z2f z1h z3a z87 z5r z1w z12 z1x pubs pub z8z params z2j z07 z17 z2l z3k z3z z6u untips untip z5e wantedAV setElems withO z8h z3q z3n z3m z63 z3p z3l z62 z3o List.replicate_succ List.replicate_zero opAV valAV aval avals ofVal Env.get setD canon gcAV renAll renEnv renStore renCells z0y cutSt okEnv okStore okRefs okRef z0f z8q z6l z8p z8n z8o z8r cellsEq cellEq isShift intOp boolOp z89 z8c z8s bne resAV tupAV z5z zbp z6x fins zh3 z6w z8l z8k zbq storeAV readCells putCells z6h z2z z14 fieldAddrAV za6 goI List.getElem?_cons_zero List.getElem?_cons_succ List.getElem?_nil Option.bind_some Option.map_some List.length_cons List.length_nil List.all_cons List.all_nil Bool.and_true Bool.true_and Bool.and_false Bool.false_and and_true true_and and_false false_and Bool.false_eq_true List.set_cons_zero List.set_cons_succ List.append_nil List.nil_append List.cons_append List.take_zero List.take_succ_cons List.take_nil List.drop_zero List.drop_succ_cons List.map_cons List.map_nil decide_true decide_false beq_self_eq_true Bool.not_true Bool.not_false or_true true_or or_false false_or Nat.zero_add Nat.add_zero Nat.le_refl Nat.lt_irrefl decide_eq_true_eq eq_self_iff_true not_true_eq_false not_false_eq_true List.getD_cons_zero z41 Nat.zero_le Nat.not_lt_zero Bool.true_beq Bool.false_beq beq_true beq_false ge_iff_le gt_iff_lt keepR keepT ownTop zh8 pus Option.map_none z2h z2g z65 z3r z64 Int.cast_ofNat_Int Nat.mul_one Nat.zero_mul Int.toNat_natCast Int.toNat_zero setParts withO2 hasKey z6c z5u z3w z3c z1c z0k z02 z2s setm z55 z7u z6y zca zcx zfb z9a z75 z6k z4q z9c z7h z73 z5g z7w z6j z9b z7a z60 z4j z9e z7j z9k z67 z68 z7r z4e z98 z72 z71 z99 Option.bind_none Bool.not_eq_true' decide_eq_false_iff_not Bool.and_eq_true Bool.or_eq_true Option.some.injEq Int.not_lt Int.not_le
attribute [local go_sem_proc] reduceIte Nat.reduceEqDiff Nat.reduceAdd Nat.reduceSub Nat.reduceLeDiff Nat.reduceLT reduceCtorEq Int.reduceLT Int.reduceLE Int.reduceEq Int.reduceBEq Int.reduceSub Int.reduceAdd Int.reduceMul Int.reduceNeg Int.reduceToNat Nat.reduceMul Nat.reduceBEq
theorem zfy:Tryz.prog.cellsOf 3=1:=by kernel_rfl
theorem zjb:Tryz.prog.cellsOf 28=1:=by kernel_rfl
theorem zna:Tryz.prog.cellsOf 38=2:=by kernel_rfl
theorem zc2 {d:Nat} {t e:TypeId} {a:AV} (ht:Tryz.prog.underlying t=some (.slice e))(he:Tryz.prog.underlying e=some (.int .i64))(hc:Tryz.prog.cellsOf e=1)(h:Sh Tryz.prog (d+2) t [a]):
  ∃(nl:Bool) (zs:List Int),a=sl 1 nl (zs.map I)∧(zs.length:Int)≤maxLen∧∀n∈zs,(Lit.int .i64 n).wf=true:=by
 rcases zf0 ht h with rfl| ⟨xs,rfl,hl,hx⟩
 ·exact ⟨true,[],rfl,by simp,by simp⟩
 ·obtain ⟨zs,rfl,h2,h3⟩:=z4i (f:=I) (R:=fun n=>(Lit.int .i64 n).wf=true) xs (fun x hm=>by
   rcases hx x hm with h| ⟨⟨e2,h⟩,_⟩
   ·exact sh_int he h
   ·rw [he] at h;cases h)
  exact ⟨false,zs,by rw [hc,←zez],by simp at hl;omega,h3⟩
theorem sh_num {a:AV} (h:ShV Tryz.prog 8 3 a): ∃n:Int,a=I n∧(Lit.int .i64 n).wf=true:=by
 unfold ShV at h
 rw [if_neg (by unfold aggB;rw [Tryz.underlying3];simp)] at h
 simp only [Sh,Tryz.underlying3,List.cons.injEq,and_true] at h
 exact h
theorem sh_list {a:AV} (h:ShV Tryz.prog 8 28 a): ∃(nl:Bool) (zs:List Int),a=sl 1 nl (zs.map I)∧(zs.length:Int)≤maxLen∧∀n∈zs,(Lit.int .i64 n).wf=true:=by
 unfold ShV at h
 rw [if_neg (by unfold aggB;rw [Tryz.underlying28];simp)] at h
 exact zc2 Tryz.underlying28 Tryz.underlying3 zfy h
theorem sh_lists {a:AV} (h:ShV Tryz.prog 8 22 a): ∃(nl:Bool) (G:List GS),a=sl 1 nl (G.map gM)∧(G.length:Int)≤maxLen∧∀p∈G,(p.2.length:Int)≤maxLen∧∀n∈p.2,(Lit.int .i64 n).wf=true:=by
 unfold ShV at h
 rw [if_neg (by unfold aggB;rw [Tryz.underlying22];simp)] at h
 rcases zf0 Tryz.underlying22 h with rfl| ⟨xs,rfl,hl,hx⟩
 ·exact ⟨true,[],rfl,by simp,by simp⟩
 ·obtain ⟨G,rfl,h2,h3⟩:=z4i (f:=gM) (R:=fun p=>(p.2.length:Int)≤maxLen∧∀n∈p.2,(Lit.int .i64 n).wf=true) xs (fun x hm=>by
   rcases hx x hm with this| ⟨_,a,cap,rfl⟩
   ·unfold ShV at this
    rw [if_neg (by unfold aggB;rw [Tryz.underlying28];simp)] at this
    obtain ⟨nl,zs,e,h1,h2⟩:=zc2 Tryz.underlying28 Tryz.underlying3 zfy this
    obtain ⟨k,hk⟩:=gM_sl nl zs
    exact ⟨(k,zs),e.trans hk.symm,h1,h2⟩
   ·exact ⟨(.odd a cap,[]),rfl,by simp,by simp⟩)
  exact ⟨false,G,by rw [zjb,←zez],by simp at hl;omega,h3⟩
theorem sh_tree {a:AV} (h:ShV Tryz.prog 8 38 a): ∃(nu nw:Bool) (us ws:List Int),a=.agg [sl 1 nu (us.map I),sl 1 nw (ws.map I)]∧(us.length:Int)≤maxLen∧(ws.length:Int)≤maxLen:=by
 unfold ShV at h
 rw [if_pos (by unfold aggB;rw [Tryz.underlying38])] at h
 obtain ⟨cs,rfl,hs⟩:=h
 unfold Sh at hs
 simp only [Tryz.underlying38,zna] at hs
 obtain ⟨h1,h2⟩:=hs
 have f0:=h2 0 _ rfl
 have f1:=h2 1 _ rfl
 simp only [List.getElem_toArray,List.getElem_cons_zero,List.getElem_cons_succ,zjb] at f0 f1
 match cs,h1 with
 | [x,y],_=>
  simp only [List.drop_zero,List.take_succ_cons,List.take_zero,List.drop_succ_cons] at f0 f1
  obtain ⟨nu,us,rfl,hu,_⟩:=zc2 Tryz.underlying28 Tryz.underlying3 zfy f0
  obtain ⟨nw,ws,rfl,hw,_⟩:=zc2 Tryz.underlying28 Tryz.underlying3 zfy f1
  exact ⟨nu,nw,us,ws,rfl,hu,hw⟩
end Go.Proofs.YtdnmhlfjafjkbaaGreatDoor.Vm
namespace Go.Proofs.YtdnmhlfjafjkbaaGreatDoor.Vm
open Go Go.Ev
set_option maxRecDepth 100000
set_option maxHeartbeats 4000000
attribute [local go_sem] m_ x_ l_ k_ o_ t_ a_ s_ q_ b_ c_ u_ g_ z4b z0s z5p z20 z46 z0n z5l z18 z2d z0c z38 z1z z45 z0m z5k z23 z49 z0q z5n z19 z2e z0d z39 z16 z2c z0b z35 z22 z48 z0p z30 z6i z15 z85 z24 z4a z0r z5o z25 z1o z0t z5q z1y z44 z0l z5j z21 z47 z0o z5m z37 z1b z36 z6t z8f z8g z5y z3g z3j z3i z3h z3x z3y z6d z61 z8m z0w z4c z34 z1d z3b z40 z42 z6f z6g z6e z43 z2b z1a z5i z31 z2a z1f z0g z2f z1h z3a z87 z5r z1w z12 z1x pubs pub z8z params z2j z07 z17 z2l z3k z3z z6u untips untip z5e wantedAV setElems withO z8h z3q z3n z3m z63 z3p z3l z62 z3o List.replicate_succ List.replicate_zero opAV valAV aval avals ofVal Env.get setD canon gcAV renAll renEnv renStore renCells z0y cutSt okEnv okStore okRefs okRef z0f z8q z6l z8p z8n z8o z8r cellsEq cellEq isShift intOp boolOp z89 z8c z8s bne resAV tupAV z5z zbp z6x fins zh3 z6w z8l z8k zbq storeAV readCells putCells z6h z2z z14 fieldAddrAV za6 goI List.getElem?_cons_zero List.getElem?_cons_succ List.getElem?_nil Option.bind_some Option.map_some List.length_cons List.length_nil List.all_cons List.all_nil Bool.and_true Bool.true_and Bool.and_false Bool.false_and and_true true_and and_false false_and Bool.false_eq_true List.set_cons_zero List.set_cons_succ List.append_nil List.nil_append List.cons_append List.take_zero List.take_succ_cons List.take_nil List.drop_zero List.drop_succ_cons List.map_cons List.map_nil decide_true decide_false beq_self_eq_true Bool.not_true Bool.not_false or_true true_or or_false false_or Nat.zero_add Nat.add_zero Nat.le_refl Nat.lt_irrefl decide_eq_true_eq eq_self_iff_true not_true_eq_false not_false_eq_true List.getD_cons_zero z41 Nat.zero_le Nat.not_lt_zero Bool.true_beq Bool.false_beq beq_true beq_false ge_iff_le gt_iff_lt keepR keepT ownTop zh8 pus Option.map_none z2h z2g z65 z3r z64 Int.cast_ofNat_Int Nat.mul_one Nat.zero_mul Int.toNat_natCast Int.toNat_zero setParts withO2 hasKey z6c z5u z3w z3c z1c z0k z02 z2s setm z55 z7u z6y zca zcx zfb z9a z75 z6k z4q z9c z7h z73 z5g z7w z6j z9b z7a z60 z4j z9e z7j z9k z67 z68 z7r z4e z98 z72 z71 z99 Option.bind_none Bool.not_eq_true' decide_eq_false_iff_not Bool.and_eq_true Bool.or_eq_true Option.some.injEq Int.not_lt Int.not_le
attribute [local go_sem_proc] reduceIte Nat.reduceEqDiff Nat.reduceAdd Nat.reduceSub Nat.reduceLeDiff Nat.reduceLT reduceCtorEq Int.reduceLT Int.reduceLE Int.reduceEq Int.reduceBEq Int.reduceSub Int.reduceAdd Int.reduceMul Int.reduceNeg Int.reduceToNat Nat.reduceMul Nat.reduceBEq
section
variable {n:Nat} {U W:List Nat} (hn:n≤8) (hU: ∀u∈U,u≤U.length) (hW: ∀w∈W,w≤U.length) (hWl:W.length=n) (hend: ∀w,w≤U.length→itC U U.length w=0)
include hU hend in
theorem zep {x s:Nat} (hx:x≤U.length)(h0:x≠0):itC U (s+1) x≠x:=by
 intro h
 have h2:=z7k (U:=U) (w:=x) (s:=s) h U.length
 have h3:U.length*(s+1)=U.length+U.length*s:=by rw [Nat.mul_succ,Nat.add_comm]
 rw [h3,z00,hend x hx,zq] at h2
 exact h0 h2.symm
include hU hend in
theorem zjr {w p q x:Nat} (hx:x≤U.length)(h0:x≠0)(h1:itC U p w=x)(h2:itC U q w=x):p=q:=by
 rcases Nat.lt_trichotomy p q with h|h|h
 ·exfalso
  apply zep (U:=U) hU hend (s:=q-p-1) hx h0
  rw [show q-p-1+1=q-p by omega,←h1,←z00,show p+(q-p)=q by omega,h2,h1]
 ·exact h
 ·exfalso
  apply zep (U:=U) hU hend (s:=p-q-1) hx h0
  rw [show p-q-1+1=p-q by omega,←h2,←z00,show q+(p-q)=p by omega,h1,h2]
include hn hU hW hWl hend
theorem sb {k:Nat} (hk:k<U.length)(b:Nat):((outL U W).getD k 0).testBit b=true↔b<n∧∃t,itC U t (W.getD b 0)=k+1:=by
 have hoo:=z86 U W 0 (List.replicate U.length 0) (by omega) (fun k=>by simp [List.getD_eq_getElem?_getD,List.getElem?_replicate];split<;>simp)
 rw [show outF U 0 W (List.replicate U.length 0)=outL U W from rfl,List.length_replicate] at hoo
 exact z74 hn hU hW hWl hoo.1.symm hend rfl (by rw [hoo.1];exact hk) b
theorem zc7:(outL U W).length=U.length:=by
 have hoo:=z86 U W 0 (List.replicate U.length 0) (by omega) (fun k=>by simp [List.getD_eq_getElem?_getD,List.getElem?_replicate];split<;>simp)
 rw [show outF U 0 W (List.replicate U.length 0)=outL U W from rfl,List.length_replicate] at hoo
 exact hoo.1
variable (hlack: ∀c,c≤U.length→¬(min c 1+U.count c<3∧c ∉ W))
include hlack
theorem zd4 {c:Nat} (hc:c≤U.length)(h0:c≠0): ∀(d x t:Nat),x≤U.length→x≠0→itC U t x=c→t+d=U.length→∃a,a<n∧∃s,itC U s (W.getD a 0)=x
 |0,x,t,hx,_,h,e=>by
  have:t=U.length:=by omega
  subst this
  rw [hend x hx] at h
  exact absurd h.symm h0
 |d+1,x,t,hx,hx0,h,e=>by
  by_cases hin:x∈W
  ·obtain ⟨a,ha,he⟩:=List.getElem_of_mem hin
   refine ⟨a,by omega,0,?_⟩
   show W.getD a 0=x
   rw [List.getD_eq_getElem?_getD,List.getElem?_eq_getElem ha,←he];rfl
  ·have hl:=hlack x hx
   have hcnt:0<U.count x:=by
    apply Nat.pos_of_ne_zero;intro hz
    exact hl ⟨by rw [hz];omega,hin⟩
   have hm:=List.count_pos_iff.1 hcnt
   obtain ⟨k,hk,he⟩:=List.getElem_of_mem hm
   have hup:upC U (k+1)=x:=by rw [z4d,List.getD_eq_getElem?_getD,List.getElem?_eq_getElem hk,←he];rfl
   obtain ⟨a,ha,s,hs⟩:=zd4 hc h0 d (k+1) (t+1) (by omega) (by omega) (by
    show itC U t (upC U (k+1))=c
    rw [hup,h]) (by omega)
   exact ⟨a,ha,s+1,by rw [z7o,hs,hup]⟩
theorem zeg {k:Nat} (hk:k<U.length): ∃a,a<n∧∃s,itC U s (W.getD a 0)=k+1:=
 zd4 hn hU hW hWl hend hlack (c:=k+1) (by omega) (by omega) U.length (k+1) 0 (by omega) (by omega) rfl (by omega)
theorem two_at {c:Nat} (h:2≤U.count c)(i:Nat): ∃k,k<U.length∧k≠i∧U.getD k 0=c:=by
 apply Classical.byContradiction
 intro hno
 have key: ∀k,k<U.length→U.getD k 0=c→k=i:=fun k hk e=>by
  apply Classical.byContradiction;intro hne
  exact hno ⟨k,hk,hne,e⟩
 have h1:U.count c≤1:=by
  by_cases hi:i<U.length
  ·have hs:U=U.take i++U[i]::U.drop (i+1):=by
    rw [List.getElem_cons_drop,List.take_append_drop]
   have z1:(U.take i).count c=0:=by
    rw [List.count_eq_zero];intro hm
    obtain ⟨k,hk,e⟩:=List.mem_take_iff_getElem.1 hm
    have:=key k (by omega) (by rw [List.getD_eq_getElem?_getD,List.getElem?_eq_getElem (by omega),e];rfl)
    omega
   have z2:(U.drop (i+1)).count c=0:=by
    rw [List.count_eq_zero];intro hm
    obtain ⟨k,hk,e⟩:=List.mem_drop_iff_getElem.1 hm
    have:=key (i+1+k) (by omega) (by rw [List.getD_eq_getElem?_getD,List.getElem?_eq_getElem (by omega),e];rfl)
    omega
   rw [hs,List.count_append,List.count_cons,z1,z2]
   split<;>omega
  ·have:U.count c=0:=by
    rw [List.count_eq_zero];intro hm
    obtain ⟨k,hk,e⟩:=List.getElem_of_mem hm
    have:=key k hk (by rw [List.getD_eq_getElem?_getD,List.getElem?_eq_getElem hk,e];rfl)
    omega
   omega
 omega
theorem zfz {i j d:Nat} (hi:i<U.length)(hj:j<U.length)(hd:itC U (d+1) (i+1)=j+1): ∃b,((outL U W).getD j 0).testBit b=true∧((outL U W).getD i 0).testBit b=false:=by
 apply Classical.byContradiction
 intro hno
 have hsub: ∀b,b<n→(∃t,itC U t (W.getD b 0)=j+1)→∃t,itC U t (W.getD b 0)=i+1:=by
  intro b hb ht
  have h1:=(sb hn hU hW hWl hend hj b).2 ⟨hb,ht⟩
  cases hc:((outL U W).getD i 0).testBit b
  ·exact absurd ⟨b,h1,hc⟩ hno
  ·exact ((sb hn hU hW hWl hend hi b).1 hc).2
 have hjW:j+1 ∉ W:=by
  intro hm
  obtain ⟨b,hb,e⟩:=List.getElem_of_mem hm
  have e2:W.getD b 0=j+1:=by rw [List.getD_eq_getElem?_getD,List.getElem?_eq_getElem hb,e];rfl
  obtain ⟨t,ht⟩:=hsub b (by omega) ⟨0,e2⟩
  rw [e2] at ht
  apply zep (U:=U) hU hend (x:=j+1) (s:=t+d) (by omega) (by omega)
  rw [show t+d+1=t+(d+1) by omega,z00,ht,hd]
 have hc2:2≤U.count (j+1):=by
  apply Nat.le_of_not_lt;intro hlt
  exact hlack (j+1) (by omega) ⟨by omega,hjW⟩
 have hpar:upC U (itC U d (i+1))=j+1:=by rw [←z7o,hd]
 have hp0:itC U d (i+1)≠0:=fun h=>by rw [h] at hpar;simp [upC] at hpar
 have hpl:itC U d (i+1)≤U.length:=ziq hU d (i+1) (by omega)
 obtain ⟨k,hk,hki,hku⟩:=two_at hn hU hW hWl hend hlack hc2 (itC U d (i+1)-1)
 obtain ⟨b,hb,p,hp⟩:=zeg hn hU hW hWl hend hlack hk
 have hpj:itC U (p+1) (W.getD b 0)=j+1:=by rw [z7o,hp,z4d,hku]
 obtain ⟨q,hq⟩:=hsub b hb ⟨p+1,hpj⟩
 have hq2:itC U (q+d+1) (W.getD b 0)=j+1:=by rw [show q+d+1=q+(d+1) by omega,z00,hq,hd]
 have:=zjr hU hend (x:=j+1) (by omega) (by omega) hpj hq2
 have hpq:p=q+d:=by omega
 rw [hpq,z00,hq] at hp
 omega
theorem zjp {i j:Nat} (hi:i<U.length)(hj:j<U.length)(hne:i≠j):(outL U W).getD i 0≠(outL U W).getD j 0:=by
 intro he
 obtain ⟨a,ha,s,hs⟩:=zeg hn hU hW hWl hend hlack hi
 have hb:=(sb hn hU hW hWl hend hi a).2 ⟨ha,s,hs⟩
 have hb2:=hb
 rw [he] at hb2
 obtain ⟨_,t,ht⟩:=(sb hn hU hW hWl hend hj a).1 hb2
 rcases Nat.lt_trichotomy s t with h|h|h
 ·obtain ⟨b,h1,h2⟩:=zfz hn hU hW hWl hend hlack hi hj (d:=t-s-1) (by rw [show t-s-1+1=t-s by omega,←hs,←z00,show s+(t-s)=t by omega,ht])
  rw [he,h1] at h2;cases h2
 ·subst h;rw [hs] at ht;omega
 ·obtain ⟨b,h1,h2⟩:=zfz hn hU hW hWl hend hlack hj hi (d:=s-t-1) (by rw [show s-t-1+1=s-t by omega,←ht,←z00,show t+(s-t)=s by omega,hs])
  rw [he,h2] at h1;cases h1
variable (h0W:W.getD 0 0=0) (h1n:1≤n)
include h0W h1n
theorem zd2:Lam n (outL U W):=by
 have hl:=zc7 hn hU hW hWl hend
 have mem: ∀s∈outL U W,∃k,k<U.length∧s=(outL U W).getD k 0:=by
  intro s hs
  obtain ⟨k,hk,e⟩:=List.getElem_of_mem hs
  exact ⟨k,by omega,by rw [List.getD_eq_getElem?_getD,List.getElem?_eq_getElem hk,←e];rfl⟩
 refine ⟨?_,?_,?_,?_,?_⟩
 ·intro s hs
  obtain ⟨k,hk,rfl⟩:=mem s hs
  apply Nat.lt_pow_two_of_testBit
  intro i hi
  cases hc:((outL U W).getD k 0).testBit i
  ·rfl
  ·have:=((sb hn hU hW hWl hend hk i).1 hc).1;omega
 ·intro s hs h
  obtain ⟨k,hk,rfl⟩:=mem s hs
  obtain ⟨a,ha,t,ht⟩:=zeg hn hU hW hWl hend hlack hk
  have:=(sb hn hU hW hWl hend hk a).2 ⟨ha,t,ht⟩
  rw [h,Nat.zero_testBit] at this;cases this
 ·intro s hs
  obtain ⟨k,hk,rfl⟩:=mem s hs
  cases hc:((outL U W).getD k 0).testBit 0
  ·rfl
  ·obtain ⟨_,t,ht⟩:=(sb hn hU hW hWl hend hk 0).1 hc
   rw [h0W,zq] at ht;omega
 ·unfold List.Nodup
  rw [List.pairwise_iff_getElem]
  intro i j hi hj hij he
  apply zjp hn hU hW hWl hend hlack (i:=i) (j:=j) (by omega) (by omega) (by omega)
  rw [List.getD_eq_getElem?_getD,List.getD_eq_getElem?_getD,List.getElem?_eq_getElem hi,List.getElem?_eq_getElem hj]
  exact he
 ·have h8: ∀k,k<U.length→(outL U W).getD k 0<256:=by
   intro k hk
   have:(outL U W).getD k 0<2^n:=by
    apply Nat.lt_pow_two_of_testBit
    intro i hi
    cases hc:((outL U W).getD k 0).testBit i
    ·rfl
    ·have:=((sb hn hU hW hWl hend hk i).1 hc).1;omega
   exact Nat.lt_of_lt_of_le this (Nat.pow_le_pow_right (n:=2) (by decide) hn)
  intro s hs t ht
  obtain ⟨i,hi,rfl⟩:=mem s hs
  obtain ⟨j,hj,rfl⟩:=mem t ht
  rw [zlx (h8 i hi) (h8 j hj)]
  by_cases hd: ∀b,((outL U W).getD i 0).testBit b=true→((outL U W).getD j 0).testBit b=false
  ·exact .inl hd
  ·right
   obtain ⟨a,ha⟩:=Classical.not_forall.1 hd
   rw [Classical.not_imp] at ha
   obtain ⟨h1,h2⟩:=ha
   have h2:((outL U W).getD j 0).testBit a=true:=by simpa using h2
   obtain ⟨_,p,hp⟩:=(sb hn hU hW hWl hend hi a).1 h1
   obtain ⟨_,q,hq⟩:=(sb hn hU hW hWl hend hj a).1 h2
   rcases Nat.le_total p q with h|h
   ·left
    exact z83 hn hU hW hWl hl.symm hend rfl (by omega) (by omega) (t:=q-p) (by rw [←hp,←z00,show p+(q-p)=q by omega,hq])
   ·right
    exact z83 hn hU hW hWl hl.symm hend rfl (by omega) (by omega) (t:=p-q) (by rw [←hq,←z00,show q+(p-q)=p by omega,hp])
theorem zg5:IsTree (outL U W) n U W:=by
 have hl:=zc7 hn hU hW hWl hend
 have hlam:=zd2 hn hU hW hWl hend hlack h0W h1n
 refine ⟨hl.symm,hWl,fun k hk=>zjq hn hU hW hWl hl.symm hend rfl hlam hk,fun a ha=> ?_⟩
 have hin:=hW (W.getD a 0) (zr (by omega))
 by_cases h0:W.getD a 0=0
 ·left
  refine ⟨h0,fun j hj _ hs=> ?_⟩
  obtain ⟨_,t,ht⟩:=(sb hn hU hW hWl hend (by omega) a).1 (zc1 hs)
  rw [h0,zq] at ht;omega
 ·right
  refine ⟨W.getD a 0-1,by omega,by omega,by simp,?_,fun j hj _ hs=> ?_⟩
  ·exact zel ((sb hn hU hW hWl hend (by omega) a).2 ⟨ha,0,by show W.getD a 0=_;omega⟩)
  ·obtain ⟨_,t,ht⟩:=(sb hn hU hW hWl hend (by omega) a).1 (zc1 hs)
   exact zem (z83 hn hU hW hWl hl.symm hend rfl (by omega) (by omega) (t:=t) (by rw [show W.getD a 0-1+1=W.getD a 0 by omega,ht]))
end
attribute [local go_sem] m_ x_ l_ k_ o_ t_ a_ s_ q_ b_ c_ u_ g_ zi z9 zf zn z03 z04 ze zk zm z8 zh z06
theorem zew {m:Nat} {A:List Int} (h:A.any (badC m)=false): ∀a∈A,0≤a∧a≤(m:Int):=by
 intro a ha
 rw [List.any_eq_false] at h
 have:=h a ha
 simp only [badC,Bool.or_eq_true,decide_eq_true_eq,not_or] at this
 omega
theorem c96V (n:Int)(nu nw:Bool)(us ws:List Int)(hu:us.length<500)(hw:ws.length<500)(st:St):
  run L 96 [I n,.agg [sl 1 nu (us.map I),sl 1 nw (ws.map I)]] st=some (readA (readV n us ws),st):=by
 have hlU:=zj I nu us
 have hlW:=zj I nw ws
 unfold readV
 by_cases q1:n<2
 ·rw [if_pos (.inl q1),run_pure (fn:=ir96) rfl rfl]
  simp only [ir96,go_sem,q1,readA]
 by_cases q2:8<n
 ·rw [if_pos (.inr q2),run_pure (fn:=ir96) rfl rfl]
  simp only [ir96,go_sem,hlU,q1,q2,readA]
 rw [if_neg (not_or.2 ⟨q1,q2⟩)]
 by_cases q3:13<us.length
 ·rw [if_pos q3,run_pure (fn:=ir96) rfl rfl]
  have q3:((13:Int)<(us.length:Int))=True:=eT (by omega)
  simp only [ir96,go_sem,hlU,q1,q2,q3,readA]
 rw [if_neg q3]
 by_cases q4:(ws.length:Int)≠n
 ·rw [if_pos q4,run_pure (fn:=ir96) rfl rfl]
  have q3:((13:Int)<(us.length:Int))=False:=eF (by omega)
  simp only [ir96,go_sem,hlU,hlW,q1,q2,q3,q4,readA]
 rw [if_neg q4]
 by_cases q5:(us++ws).any (badC us.length)=true
 ·rw [if_pos q5,run_pure (fn:=ir96) rfl rfl]
  have q3:((13:Int)<(us.length:Int))=False:=eF (by omega)
  have q4:((ws.length:Int)=n)=True:=eT (by omega)
  have h111: ∀st,run L 111 [.lst .full 1 [sl 1 nu (us.map I),sl 1 nw (ws.map I)]] st=some (sl 1 false ((us++ws).map I),st):=fun st=>
   (zf2 (fn:=ir111) rfl rfl st (by rfl)).trans (c111 nu nw us ws (by omega) (by omega) (by omega) st)
  have hpx:=fun n=>z0f 1 nu (us.map I) n
  have hpy:=fun n=>z0f 1 nw (ws.map I) n
  have hrx:=fun n T acc=>z0y 1 nu (us.map I) n T acc
  have hry:=fun n T acc=>z0y 1 nw (ws.map I) n T acc
  have hl96:=zj I false (us++ws)
  simp only [ir96,go_sem,hlU,hlW,q1,q2,q3,q4,h111,hl96,readA]
  generalize hg:lim (headed pure (run L) true _ lp96_0 _ _) _ _=o
  obtain ⟨x,en,s,rfl,h2⟩: ∃x en s,o=some (x,en,s)∧_:=by rw [←hg];exact zfh (sl 1 nu (us.map I)) (sl 1 nw (ws.map I)) hpx hrx hpy hry us.length false (us++ws) (by rw [List.length_append];omega) 0 (by omega) _ _ (by simp only [go_sem,Int.natCast_zero]<;>rfl)
  clear hg
  rw [List.drop_zero,if_pos q5] at h2
  obtain ⟨rfl,e4,e5⟩:=h2
  simp only [go_sem,e4,e5]
 ·rw [if_neg q5]
  have hb:=zew (Bool.eq_false_iff.2 q5)
  obtain ⟨m,rfl⟩:=Int.eq_ofNat_of_zero_le (show 0≤n by omega)
  have e1:=z3d (A:=us) (fun a ha=>(hb a (by simp [ha])).1)
  have e2:=z3d (A:=ws) (fun a ha=>(hb a (by simp [ha])).1)
  rw [←e1,←e2]
  refine c96N m (by omega) (by omega) nu nw _ _ (fun u hu=> ?_) (fun u hu=> ?_) (by rw [lm_];omega) (by rw [lm_];omega) st
  ·rw [List.mem_map] at hu
   obtain ⟨a,ha,rfl⟩:=hu
   have:=hb a (by simp [ha])
   rw [lm_];omega
  ·rw [List.mem_map] at hu
   obtain ⟨a,ha,rfl⟩:=hu
   have:=hb a (by simp [ha])
   rw [lm_];omega
theorem zjz (n:Int)(us ws:List Int):(∀s∈(readV n us ws).2,s<256)∧(readV n us ws).2.length≤13:=by
 unfold readV
 split
 ·exact ⟨by simp,by simp⟩
 ·split
  ·exact ⟨by simp,by simp⟩
  ·split
   ·exact ⟨by simp,by simp⟩
   ·split
    ·exact ⟨by simp,by simp⟩
    ·rename_i h1 h2 h3 h4
     obtain ⟨m,rfl⟩:=Int.eq_ofNat_of_zero_le (show 0≤n by omega)
     refine ⟨zk1 (n:=m) (by omega) (by rw [lm_];omega),?_⟩
     have:=zhu (U:=us.map Int.toNat) (W:=ws.map Int.toNat) (by rw [lm_];omega)
     rw [lm_] at this
     omega
theorem c30V (n:Int)(nu nw:Bool)(us ws:List Int)(hu:us.length<500)(hw:ws.length<500)(st:St):
  run L 30 [I n,.agg [sl 1 nu (us.map I),sl 1 nw (ws.map I)]] st=some (I (readV n us ws).1,st):=by
 rw [run_pure (fn:=ir30) rfl rfl]
 have h96:=fun st=>c96V n nu nw us ws hu hw st
 generalize readV n us ws=r at*
 obtain ⟨e,O⟩:=r
 unfold readA at h96
 dsimp only at h96⊢
 simp only [ir30,go_sem,h96]
structure Tree (n:Nat) (U W:List Nat):Prop where
 hU: ∀u∈U,u≤U.length
 hW: ∀w∈W,w≤U.length
 hWl:W.length=n
 hend: ∀w,w≤U.length→itC U U.length w=0
 h0:W.getD 0 0=0
 hlack: ∀c,c≤U.length→¬(min c 1+U.count c<3∧c ∉ W)
theorem zk0 {n:Nat} {U W:List Nat} (hU: ∀u∈U,u≤U.length)(hW: ∀w∈W,w≤U.length)(hWl:W.length=n)(h:(readN U W).1=0):Tree n U W∧readN U W=(0,outL U W)∧srtB (outL U W)=true:=by
 unfold readN at h⊢
 split at h
 ·cases h
 ·rename_i h1
  split at h
  ·cases h
  ·rename_i h2
   split at h
   ·cases h
   ·rename_i h3
    split at h
    ·rename_i h4
     rw [if_neg h1,if_neg h2,if_neg h3,if_pos h4]
     refine ⟨⟨hU,hW,hWl,?_,by simpa using h2,?_⟩,rfl,h4⟩
     ·intro w hw
      by_cases hw0:w=0
      ·rw [hw0,zq]
      ·have hlc:lostC U=false:=by simpa using h1
       unfold lostC at hlc
       rw [List.any_eq_false] at hlc
       have:=hlc (w-1) (List.mem_range.2 (by omega))
       simp only [decide_eq_true_eq,Classical.not_not] at this
       rw [show w-1+1=w by omega] at this
       exact this
     ·rintro c hc ⟨h5,h6⟩
      apply h3
      rw [z7n]
      exact ⟨c,by rw [z57];omega,by rw [z7m hU hc];exact h5,by rw [Nat.zero_add];exact h6⟩
    ·cases h
theorem zc6 {n:Int} {us ws:List Int} (h:(readV n us ws).1=0): ∃(m:Nat) (U W:List Nat),n=m∧2≤m∧m≤8∧us.map I=U.map J∧ws.map I=W.map J∧us.length=U.length∧U.length≤13∧Tree m U W∧readV n us ws=(0,outL U W)∧readN U W=(0,outL U W)∧srtB (outL U W)=true:=by
 unfold readV at h⊢
 split at h
 ·cases h
 ·rename_i h1
  rw [if_neg h1]
  split at h
  ·cases h
  ·rename_i h2
   rw [if_neg h2]
   split at h
   ·cases h
   ·rename_i h3
    rw [if_neg h3]
    split at h
    ·cases h
    ·rename_i h4
     rw [if_neg h4]
     have hb:=zew (Bool.eq_false_iff.2 h4)
     obtain ⟨m,rfl⟩:=Int.eq_ofNat_of_zero_le (show 0≤n by omega)
     have e1:=z3d (A:=us) (fun a ha=>(hb a (by simp [ha])).1)
     have e2:=z3d (A:=ws) (fun a ha=>(hb a (by simp [ha])).1)
     obtain ⟨t1,t2,t3⟩:=zk0 (n:=m) (fun u hu=>by
      rw [List.mem_map] at hu
      obtain ⟨a,ha,rfl⟩:=hu
      have:=hb a (by simp [ha])
      rw [lm_];omega) (fun u hu=>by
      rw [List.mem_map] at hu
      obtain ⟨a,ha,rfl⟩:=hu
      have:=hb a (by simp [ha])
      rw [lm_];omega) (by rw [lm_];omega) h
     exact ⟨m,_,_,rfl,by omega,by omega,e1.symm,e2.symm,by simp,by rw [lm_];omega,t1,t2,t2,t3⟩
theorem Tree.lam {n:Nat} {U W:List Nat} (h:Tree n U W)(hn:n≤8)(h1:1≤n):Lam n (outL U W):=zd2 hn h.hU h.hW h.hWl h.hend h.hlack h.h0 h1
theorem Tree.is {n:Nat} {U W:List Nat} (h:Tree n U W)(hn:n≤8)(h1:1≤n):IsTree (outL U W) n U W:=zg5 hn h.hU h.hW h.hWl h.hend h.hlack h.h0 h1
def farA (n:Int) (us ws:List Int) (a b:Int):AV:=
 if (readV n us ws).1≠0 then .tup [I 0,I (readV n us ws).1] else if min a b<0∨n≤max a b then .tup [I 0,I 2] else .tup [J ((readV n us ws).2.countP (xorN a.toNat b.toNat)),I 0]
theorem c34V (n:Int)(nu nw:Bool)(us ws:List Int)(hu:us.length<500)(hw:ws.length<500)(a b:Int)(st:St):
  run L 34 [I n,.agg [sl 1 nu (us.map I),sl 1 nw (ws.map I)],I a,I b] st=some (farA n us ws a b,st):=by
 unfold farA
 by_cases he:(readV n us ws).1≠0
 ·rw [if_pos he,run_pure (fn:=ir34) rfl rfl]
  have h30:=fun st=>c30V n nu nw us ws hu hw st
  simp only [ir34,go_sem,h30,he]
 ·rw [if_neg he]
  have he:(readV n us ws).1=0:=by simpa using he
  obtain ⟨m,U,W,rfl,h2,hm,e1,e2,e3,hUl,ht,e4,e6,e5⟩:=zc6 he
  have hr:(readN U W).1=0:=by rw [e6]
  rw [e1,e2,e4]
  by_cases hab:min a b<0∨(m:Int)≤max a b
  ·rw [if_pos hab]
   exact c34x m h2 hm nu nw U W ht.hU ht.hW hUl ht.hWl hr a b hab st
  ·rw [if_neg hab]
   obtain ⟨x,rfl⟩:=Int.eq_ofNat_of_zero_le (show 0≤a by omega)
   obtain ⟨y,rfl⟩:=Int.eq_ofNat_of_zero_le (show 0≤b by omega)
   have h:=c34 m h2 hm nu nw U W ht.hU ht.hW hUl ht.hWl ht.hend hr x y (by omega) (by omega) st
   rw [zld hm (ht.lam hm (by omega)) (ht.is hm (by omega)) (a:=x) (b:=y) (by omega) (by omega)] at h
   exact h
attribute [local go_sem] m_ x_ l_ k_ o_ t_ a_ s_ q_ b_ c_ u_ g_ zi z9 zf zn z03 z04 ze zk zm z8 zh z06
def undF (U:List Nat) (c:Nat):Nat→Nat→Bool
 |0,w=>decide (w=c)
 |f+1,w=>if w=c then true else if w=0 then false else undF U c f (upC U w)
theorem z70 (U:List Nat)(c:Nat): ∀f w,undF U c f w=true↔∃t,t≤f∧itC U t w=c
 |0,w=>by
  unfold undF
  rw [decide_eq_true_eq]
  constructor
  ·intro h;exact ⟨0,Nat.le_refl _,h⟩
  ·rintro ⟨t,h,e⟩
   have:t=0:=by omega
   subst this;exact e
 |f+1,w=>by
  have ih:=z70 U c f (upC U w)
  unfold undF
  by_cases h:w=c
  ·rw [if_pos h]
   exact ⟨fun _=>⟨0,by omega,h⟩,fun _=>rfl⟩
  ·rw [if_neg h]
   by_cases h0:w=0
   ·rw [if_pos h0]
    constructor
    ·intro h;cases h
    ·rintro ⟨t,_,e⟩
     subst h0
     rw [zq] at e
     exact absurd e h
   ·rw [if_neg h0,ih]
    constructor
    ·rintro ⟨t,h1,e⟩;exact ⟨t+1,by omega,e⟩
    ·rintro ⟨t,h1,e⟩
     cases t with
     |zero=>exact absurd e h
     |succ t=>exact ⟨t,by omega,e⟩
theorem c99 (nu nw:Bool)(U W:List Nat)(hU: ∀u∈U,u≤U.length)(hl:U.length≤13)(c:Nat): ∀f w,f≤20→w≤U.length→∀st,run L 99 [.agg [sl 1 nu (U.map J),sl 1 nw (W.map J)],J w,J c,J f] st=some (B (undF U c f w),st)
 |0,w,_,hw,st=>by
  rw [run_pure (fn:=ir99) rfl rfl]
  unfold undF
  by_cases h:w=c
  ·have q:((w:Int)=(c:Int))=True:=eT (by omega)
   rw [decide_eq_true h]
   simp only [ir99,go_sem,q]
  ·have q:((w:Int)=(c:Int))=False:=eF (by omega)
   rw [decide_eq_false h]
   by_cases h0:w=0
   ·have q0:((w:Int)=0)=True:=eT (by omega)
    simp only [ir99,go_sem,q,q0]
   ·have q0:((w:Int)=0)=False:=eF (by omega)
    simp only [ir99,go_sem,q,q0,Int.natCast_zero]
 |f+1,w,hf,hw,st=>by
  rw [run_pure (fn:=ir99) rfl rfl]
  unfold undF
  by_cases h:w=c
  ·have q:((w:Int)=(c:Int))=True:=eT (by omega)
   rw [if_pos h]
   simp only [ir99,go_sem,q]
  ·have q:((w:Int)=(c:Int))=False:=eF (by omega)
   rw [if_neg h]
   by_cases h0:w=0
   ·have q0:((w:Int)=0)=True:=eT (by omega)
    rw [if_pos h0]
    simp only [ir99,go_sem,q,q0]
   ·have q0:((w:Int)=0)=False:=eF (by omega)
    have q1:(((f+1:Nat):Int)=0)=False:=eF (by omega)
    rw [if_neg h0]
    have hm:IntKind.i64.wrap ((w:Int)-1)=((w-1:Nat):Int):=by
     rw [←w64 (w-1) (by omega)];congr 1;omega
    have hm2:IntKind.i64.wrap (((f+1:Nat):Int)-1)=(f:Int):=by
     rw [z2x]<;>omega
    have hx:=z0h J nu U (w-1) (by omega)
    have hup:upC U w=U[w-1]'(by omega):=by
     unfold upC;rw [if_neg h0,List.getD_eq_getElem?_getD,List.getElem?_eq_getElem (by omega)];rfl
    have hle:=hU (U[w-1]'(by omega)) (List.getElem_mem _)
    rw [hup]
    generalize U[w-1]'(by omega)=u at*
    have ih:=c99 nu nw U W hU hl c f u (by omega) hle
    simp only [ir99,go_sem,q,q0,q1,hm,hm2,hx,ih]
def belF (U W:List Nat) (c i:Nat):List Int:=((List.range' i (W.length-i)).filter fun a=>undF U c U.length (W.getD a 0)).map fun (a:Nat)=>(a:Int)
theorem zlk (U W:List Nat)(c i:Nat)(h:i<W.length):belF U W c i=if undF U c U.length (W.getD i 0)=true then (i:Int)::belF U W c (i+1) else belF U W c (i+1):=by
 unfold belF
 rw [show W.length-i=(W.length-(i+1))+1 by omega,List.range'_succ,List.filter_cons]
 split<;>rfl
theorem znd (U W:List Nat)(c i:Nat)(h: ¬i<W.length):belF U W c i=[]:=by
 unfold belF
 rw [show W.length-i=0 by omega];rfl
theorem loop97 (nu nw:Bool)(U W:List Nat)(hU: ∀u∈U,u≤U.length)(hW: ∀w∈W,w≤U.length)(hl:U.length≤13)(hWl:W.length≤8)(c:Nat)(i:Nat)(o:List Int)(hok:i≤W.length∧o.length≤i)(env:Env)(st:St)
  (hg:gcAV true 1 0 (canon env [1,2,5,6]) st=([(1,J c),(2,.ptr 0 0),(5,oA (o.map I)),(6,J i)],⟨[[sl 1 nu (U.map J),sl 1 nw (W.map J)]],oT (o.map I)⟩)):
  ∃x_1 en s,lim (headed pure (run L) true [1,2,5,6] lp97_0 1 0) env st=some (x_1,en,s)∧(x_1=.exit 0∧en.get 5=oA ((o++belF U W c i).map I)∧∃S,s=⟨S,oT ((o++belF U W c i).map I)⟩):=by
 refine zd (α:=Nat×List Int) (fun ⟨i,o⟩=>W.length-i) (fun ⟨i,o⟩=>i≤W.length∧o.length≤i) (fun ⟨i,o⟩=>([(1,J c),(2,.ptr 0 0),(5,oA (o.map I)),(6,J i)],⟨[[sl 1 nu (U.map J),sl 1 nw (W.map J)]],oT (o.map I)⟩)) (fun ⟨i,o⟩ x_1 en s=>x_1=.exit 0∧en.get 5=oA ((o++belF U W c i).map I)∧∃S,s=⟨S,oT ((o++belF U W c i).map I)⟩) (fun ⟨i,o⟩ hok=> ?_) ⟨i,o⟩ hok env st hg
 simp only at hok
 obtain ⟨h1,h2⟩:=hok
 dsimp only at h1 h2⊢
 have hlU:=zj J nu U
 have hlW:=zj J nw W
 by_cases h:i<W.length
 ·have hs:=zo i (by omega)
  have hlt:((i:Int)<(W.length:Int))=True:=eT (by omega)
  have hx:=z0h J nw W i h
  have hg:W.getD i 0=W[i]:=by rw [List.getD_eq_getElem?_getD,List.getElem?_eq_getElem h];rfl
  have hw:=hW W[i] (List.getElem_mem h)
  rw [zlk U W c i h,hg]
  generalize W[i]=w at*
  have h99:=c99 nu nw U W hU hl c U.length w (by omega) hw
  cases hb:undF U c U.length w with
  |true=>
   rw [hb] at h99
   rw [if_pos rfl]
   have happ:=fun S=>z7x (o.map I) (J i) S (by rw [lm_];omega)
   simp only [go_sem,lp97_0,hlU,hlW,hlt,hs,hx,h99,happ]
   refine ⟨(i+1,o++ [(i:Int)]),by simp only [go_sem,z0,z3,z4,z9z,z4h,List.map_append]<;>rfl,?_,?_,fun x en s hq=> ?_⟩
   ·dsimp only;rw [List.length_append,List.length_singleton];omega
   ·dsimp only;omega
   ·simp only [List.append_assoc,List.singleton_append] at hq;exact hq
  |false=>
   rw [hb] at h99
   rw [if_neg (by simp)]
   simp only [go_sem,lp97_0,hlU,hlW,hlt,hs,hx,h99]
   refine ⟨(i+1,o),by simp only [go_sem,z0,z3,z4,z9z,z4h]<;>rfl,?_,?_,fun x en s hq=> ?_⟩
   ·dsimp only;omega
   ·dsimp only;omega
   ·exact hq
 ·have hlt:((i:Int)<(W.length:Int))=False:=eF (by omega)
  rw [znd U W c i h,List.append_nil]
  simp only [go_sem,lp97_0,hlU,hlW,hlt]
  exact ⟨_,rfl⟩
theorem c97 (nu nw:Bool)(U W:List Nat)(hU: ∀u∈U,u≤U.length)(hW: ∀w∈W,w≤U.length)(hl:U.length≤13)(hWl:W.length≤8)(c:Nat)(st:St):run L 97 [.agg [sl 1 nu (U.map J),sl 1 nw (W.map J)],J c] st=some (tAV (belF U W c 0),st):=by
 rw [run_pure (fn:=ir97) rfl rfl]
 simp only [ir97,go_sem]
 generalize hg:lim (headed pure (run L) true _ lp97_0 _ _) _ _=o
 obtain ⟨x,en,s,rfl,h2⟩: ∃x en s,o=some (x,en,s)∧_:=by rw [←hg];exact loop97 nu nw U W hU hW hl hWl c 0 [] ⟨by omega,by simp⟩ _ _ (by simp only [go_sem,Int.natCast_zero,List.map_nil,zc9,zfd]<;>rfl)
 clear hg
 rw [List.nil_append] at h2
 obtain ⟨rfl,h3,S,rfl⟩:=h2
 simp only [go_sem,h3]
 rfl
theorem zll {n:Nat} (hn:n≤8) {U W:List Nat} (hU: ∀u∈U,u≤U.length)(hW: ∀w∈W,w≤U.length)(hWl:W.length=n)(hend: ∀w,w≤U.length→itC U U.length w=0) {k:Nat} (hk:k<U.length):belF U W (k+1) 0=memb ((outL U W).getD k 0):=by
 have h8:(outL U W).getD k 0<512:=by
  have:(outL U W).getD k 0<2^8:=by
   apply Nat.lt_pow_two_of_testBit
   intro i hi
   cases hc:((outL U W).getD k 0).testBit i
   ·rfl
   ·have:=((sb hn hU hW hWl hend hk i).1 hc).1;omega
  omega
 apply zcu
 ·unfold belF
  rw [List.pairwise_map]
  exact ((List.pairwise_lt_range' (s:=0) (n:=W.length-0)).sublist List.filter_sublist).imp (fun h=>by omega)
 ·exact z9g _
 ·intro a
  rw [z1k h8]
  unfold belF
  rw [List.mem_map]
  constructor
  ·rintro ⟨i,hi,rfl⟩
   rw [List.mem_filter,List.mem_range'_1,z70] at hi
   obtain ⟨hi,t,_,ht⟩:=hi
   exact ⟨i,rfl,(sb hn hU hW hWl hend hk i).2 ⟨by omega,t,ht⟩⟩
  ·rintro ⟨i,rfl,hi⟩
   obtain ⟨h1,t,ht⟩:=(sb hn hU hW hWl hend hk i).1 hi
   refine ⟨i,?_,rfl⟩
   rw [List.mem_filter,List.mem_range'_1,z70]
   refine ⟨by omega,t,?_,ht⟩
   apply Nat.le_of_not_lt;intro hlt
   have hw:=hend (W.getD i 0) (hW _ (zr (by omega)))
   rw [show t=U.length+(t-U.length) by omega,z00,hw,zq] at ht
   omega
theorem c97M {n:Nat} (hn:n≤8)(nu nw:Bool) {U W:List Nat} (hU: ∀u∈U,u≤U.length)(hW: ∀w∈W,w≤U.length)(hl:U.length≤13)(hWl:W.length=n)(hend: ∀w,w≤U.length→itC U U.length w=0) {k:Nat} (hk:k<U.length)(st:St):
  run L 97 [.agg [sl 1 nu (U.map J),sl 1 nw (W.map J)],J (k+1:Nat)] st=some (tM ((outL U W).getD k 0),st):=by
 have h:=c97 nu nw U W hU hW hl (by omega) (k+1) st
 rw [zll hn hU hW hWl hend hk] at h
 exact h
theorem zn4 (g:Tag)(A:List Int)(i:Nat)(h:i<A.length):indexSAV 1 (.lst g 1 (A.map I)) (.v (.int .i64 (i:Int)))=some (.eptr (I A[i]) 0):=by
 have e:(A.map I)[i]? =some (I A[i]):=by simp [h]
 simp only [indexSAV,natOf,Int.toNat_natCast,e]
 simp
theorem zku (nu nw:Bool)(us ws:List Int)(hus:us.length≤40)(A:List Int)(hA:A.length<1000)(i:Nat)(hok:i≤A.length)(env:Env)(st:St)
  (hg:gcAV true 1 1 (canon env [3,5,6]) st=([(3,.ptr 0 0),(5,.lst (.own 0 A.length) 1 (A.map I)),(6,J i)],⟨[[sl 1 nu (us.map I),sl 1 nw (ws.map I)]],[A.length]⟩)):
  ∃x_1 en s,lim (headed pure (run L) true [3,5,6] lp31_0 1 1) env st=some (x_1,en,s)∧(((A.drop i).any (badC us.length)=true∧x_1=.ret∧en.get 4=I 2)∨((A.drop i).any (badC us.length)=false∧x_1=.exit 0∧en.get 3=.ptr 0 0∧s=⟨[[sl 1 nu (us.map I),sl 1 nw (ws.map I)]],[A.length]⟩)):=by
 refine zd (α:=Nat) (fun i=>A.length-i) (fun i=>i≤A.length) (fun i=>([(3,.ptr 0 0),(5,.lst (.own 0 A.length) 1 (A.map I)),(6,J i)],⟨[[sl 1 nu (us.map I),sl 1 nw (ws.map I)]],[A.length]⟩)) (fun i x_1 en s=>((A.drop i).any (badC us.length)=true∧x_1=.ret∧en.get 4=I 2)∨((A.drop i).any (badC us.length)=false∧x_1=.exit 0∧en.get 3=.ptr 0 0∧s=⟨[[sl 1 nu (us.map I),sl 1 nw (ws.map I)]],[A.length]⟩)) (fun i hok=> ?_) i hok env st hg
 have hlU:=zj I nu us
 by_cases h:i<A.length
 ·have hx:=zn4 (.own 0 A.length) A i h
  have hs:=zo i (by omega)
  have hd:A.drop i=A[i]::A.drop (i+1):=List.drop_eq_getElem_cons h
  have hlt:((i:Int)<(A.length:Int))=True:=eT (by omega)
  rw [hd,List.any_cons]
  generalize A[i]=a at*
  have h98:=fun st=>c98 a 0 (us.length:Int) st
  by_cases p:0≤a∧a≤(us.length:Int)
  ·have e:badC us.length a=false:=by unfold badC;rw [decide_eq_false (by omega),decide_eq_false (by omega)];rfl
   rw [decide_eq_true p] at h98
   rw [e,Bool.false_or]
   simp only [go_sem,lp31_0,hlU,hlt,hs,hx,h98,lm_]
   refine ⟨i+1,by simp only [go_sem,z0,z3,z4]<;>rfl,?_,?_,fun x en s hq=> ?_⟩
   ·omega
   ·omega
   ·exact hq
  ·have e:badC us.length a=true:=by
    unfold badC
    by_cases h0:a<0
    ·rw [decide_eq_true h0];rfl
    ·rw [decide_eq_true (show (us.length:Int)<a by omega),Bool.or_true]
   rw [decide_eq_false p] at h98
   rw [e,Bool.true_or]
   simp only [go_sem,lp31_0,hlU,hlt,hx,h98,lm_]
 ·have hd:A.drop i=[]:=List.drop_eq_nil_of_le (by omega)
  have hlt:((i:Int)<(A.length:Int))=False:=eF (by omega)
  rw [hd,List.any_nil]
  simp only [go_sem,lp31_0,hlU,hlt,lm_]
def lostR (U:List Nat) (i:Nat):Bool:=(List.range' i (U.length+1-i)).any fun c=> !undF U 0 U.length c
theorem zgk (U:List Nat)(i:Nat)(h:i≤U.length):lostR U i=(!undF U 0 U.length i||lostR U (i+1)):=by
 unfold lostR
 rw [show U.length+1-i=(U.length+1-(i+1))+1 by omega,List.range'_succ,List.any_cons]
theorem zi9 (U:List Nat)(i:Nat)(h: ¬i≤U.length):lostR U i=false:=by
 unfold lostR
 rw [show U.length+1-i=0 by omega];rfl
theorem zkt (nu nw:Bool)(U W:List Nat)(hU: ∀u∈U,u≤U.length)(hl:U.length≤13)(k:Nat)(i:Nat)(hok:i≤U.length+1)(env:Env)(st:St)
  (hg:gcAV true 1 1 (canon env [3,7]) st=([(3,.ptr 0 0),(7,J i)],⟨[[sl 1 nu (U.map J),sl 1 nw (W.map J)]],[k]⟩)):
  ∃x_1 en s,lim (headed pure (run L) true [3,7] lp31_1 1 1) env st=some (x_1,en,s)∧((lostR U i=true∧x_1=.ret∧en.get 4=I 12)∨(lostR U i=false∧x_1=.exit 2∧en.get 3=.ptr 0 0∧s=⟨[[sl 1 nu (U.map J),sl 1 nw (W.map J)]],[k]⟩)):=by
 refine zd (α:=Nat) (fun i=>U.length+1-i) (fun i=>i≤U.length+1) (fun i=>([(3,.ptr 0 0),(7,J i)],⟨[[sl 1 nu (U.map J),sl 1 nw (W.map J)]],[k]⟩)) (fun i x_1 en s=>(lostR U i=true∧x_1=.ret∧en.get 4=I 12)∨(lostR U i=false∧x_1=.exit 2∧en.get 3=.ptr 0 0∧s=⟨[[sl 1 nu (U.map J),sl 1 nw (W.map J)]],[k]⟩)) (fun i hok=> ?_) i hok env st hg
 have hlU:=zj J nu U
 by_cases h:i≤U.length
 ·have hs:=zo i (by omega)
  have hlt:((i:Int)≤(U.length:Int))=True:=eT (by omega)
  have h99:=c99 nu nw U W hU hl 0 U.length i (by omega) h
  rw [zgk U i h]
  rw [show J 0=I 0 from rfl] at h99
  cases hb:undF U 0 U.length i with
  |true=>
   rw [hb] at h99
   rw [Bool.not_true,Bool.false_or]
   simp only [go_sem,lp31_1,hlU,hlt,hs,h99]
   refine ⟨i+1,by simp only [go_sem,z0,z3,z4]<;>rfl,?_,?_,fun x en s hq=> ?_⟩
   ·omega
   ·omega
   ·exact hq
  |false=>
   rw [hb] at h99
   rw [Bool.not_false,Bool.true_or]
   simp only [go_sem,lp31_1,hlU,hlt,h99]
 ·have hlt:((i:Int)≤(U.length:Int))=False:=eF (by omega)
  rw [zi9 U i h]
  simp only [go_sem,lp31_1,hlU,hlt]
theorem zks (nu nw:Bool)(U W:List Nat)(hl:U.length≤13)(k c:Nat)(i:Nat)(q:Nat)(hok:i≤U.length∧q≤i+1)(env:Env)(st:St)
  (hg:gcAV true 1 1 (canon env [3,8,9,10]) st=([(3,.ptr 0 0),(8,J c),(9,J q),(10,J i)],⟨[[sl 1 nu (U.map J),sl 1 nw (W.map J)]],[k]⟩)):
  ∃x_1 en s,lim (headed pure (run L) true [3,8,9,10] lp31_2 1 1) env st=some (x_1,en,s)∧(x_1=.exit 6∧en.get 3=.ptr 0 0∧en.get 8=J c∧en.get 9=J (q+(U.drop i).count c)∧s=⟨[[sl 1 nu (U.map J),sl 1 nw (W.map J)]],[k]⟩):=by
 refine zd (α:=Nat×Nat) (fun ⟨i,q⟩=>U.length-i) (fun ⟨i,q⟩=>i≤U.length∧q≤i+1) (fun ⟨i,q⟩=>([(3,.ptr 0 0),(8,J c),(9,J q),(10,J i)],⟨[[sl 1 nu (U.map J),sl 1 nw (W.map J)]],[k]⟩)) (fun ⟨i,q⟩ x_1 en s=>x_1=.exit 6∧en.get 3=.ptr 0 0∧en.get 8=J c∧en.get 9=J (q+(U.drop i).count c)∧s=⟨[[sl 1 nu (U.map J),sl 1 nw (W.map J)]],[k]⟩) (fun ⟨i,q⟩ hok=> ?_) ⟨i,q⟩ hok env st hg
 simp only at hok
 obtain ⟨h1,h2⟩:=hok
 dsimp only at h1 h2⊢
 have hlU:=zj J nu U
 by_cases h:i<U.length
 ·have hs:=zo i (by omega)
  have hsq:=zo q (by omega)
  have hlt:((i:Int)<(U.length:Int))=True:=eT (by omega)
  have hx:=z0h J nu U i h
  have hd:U.drop i=U[i]::U.drop (i+1):=List.drop_eq_getElem_cons h
  rw [hd,List.count_cons]
  generalize U[i]=u at*
  by_cases p:u=c
  ·have e:((u:Int)=(c:Int))=True:=eT (by omega)
   rw [if_pos (by simpa using p),show q+((U.drop (i+1)).count c+1)=(q+1)+(U.drop (i+1)).count c by omega]
   simp only [go_sem,lp31_2,hlU,hlt,hs,hsq,hx,e]
   refine ⟨(i+1,q+1),by simp only [go_sem,z0,z3,z4]<;>rfl,?_,?_,fun x en s hq=> ?_⟩
   ·dsimp only;omega
   ·dsimp only;omega
   ·exact hq
  ·have e:((u:Int)=(c:Int))=False:=eF (by omega)
   rw [if_neg (by simpa using p),Nat.add_zero]
   simp only [go_sem,lp31_2,hlU,hlt,hs,hx,e]
   refine ⟨(i+1,q),by simp only [go_sem,z0,z3,z4]<;>rfl,?_,?_,fun x en s hq=> ?_⟩
   ·dsimp only;omega
   ·dsimp only;omega
   ·exact hq
 ·have e:U.drop i=[]:=List.drop_eq_nil_of_le (by omega)
  have hlt:((i:Int)<(U.length:Int))=False:=eF (by omega)
  rw [e,List.count_nil,Nat.add_zero]
  simp only [go_sem,lp31_2,hlU,hlt]
def lackR (U W:List Nat) (i:Nat):Bool:=(List.range' i (U.length+1-i)).any fun c=>lackB W c (min c 1+U.count c)
theorem zgr (U W:List Nat)(i:Nat)(h:i≤U.length):lackR U W i=(lackB W i (min i 1+U.count i)||lackR U W (i+1)):=by
 unfold lackR
 rw [show U.length+1-i=(U.length+1-(i+1))+1 by omega,List.range'_succ,List.any_cons]
theorem zio (U W:List Nat)(i:Nat)(h: ¬i≤U.length):lackR U W i=false:=by
 unfold lackR
 rw [show U.length+1-i=0 by omega];rfl
theorem memJ (W:List Nat)(c:Nat):((c:Int)∈W.map fun (x:Nat)=>(x:Int))↔c∈W:=by
 rw [List.mem_map]
 constructor
 ·rintro ⟨x,hx,e⟩
  have:x=c:=by omega
  subst this;exact hx
 ·intro h;exact ⟨c,h,rfl⟩
theorem zkr (nu nw:Bool)(U W:List Nat)(hl:U.length≤13)(hWl:W.length≤8)(k:Nat)(i:Nat)(hok:i≤U.length+1)(env:Env)(st:St)
  (hg:gcAV true 1 1 (canon env [3,8]) st=([(3,.ptr 0 0),(8,J i)],⟨[[sl 1 nu (U.map J),sl 1 nw (W.map J)]],[k]⟩)):
  ∃x_1 en s,lim (headed pure (run L) true [3,8] lp31_3 1 1) env st=some (x_1,en,s)∧((lackR U W i=true∧x_1=.ret∧en.get 4=I 4)∨(lackR U W i=false∧x_1=.exit 4∧en.get 3=.ptr 0 0∧s=⟨[[sl 1 nu (U.map J),sl 1 nw (W.map J)]],[k]⟩)):=by
 refine zd (α:=Nat) (fun i=>U.length+1-i) (fun i=>i≤U.length+1) (fun i=>([(3,.ptr 0 0),(8,J i)],⟨[[sl 1 nu (U.map J),sl 1 nw (W.map J)]],[k]⟩)) (fun i x_1 en s=>(lackR U W i=true∧x_1=.ret∧en.get 4=I 4)∨(lackR U W i=false∧x_1=.exit 4∧en.get 3=.ptr 0 0∧s=⟨[[sl 1 nu (U.map J),sl 1 nw (W.map J)]],[k]⟩)) (fun i hok=> ?_) i hok env st hg
 have hlU:=zj J nu U
 by_cases h:i≤U.length
 ·have hs:=zo i (by omega)
  have hlt:((i:Int)≤(U.length:Int))=True:=eT (by omega)
  have hmin:min (i:Int) 1=((min i 1:Nat):Int):=by omega
  have h100:=fun st=>c100 nw (W.map fun (x:Nat)=>(x:Int)) (by rw [lm_];omega) (i:Int) st
  rw [mapJ] at h100
  rw [zgr U W i h]
  simp only [go_sem,lp31_3,hlU,hlt,hmin]
  generalize hg:lim (headed pure (run L) true _ lp31_2 _ _) _ _=o
  obtain ⟨x,en,s,rfl,h2⟩: ∃x en s,o=some (x,en,s)∧_:=by rw [←hg];exact zks nu nw U W hl k i 0 (min i 1) ⟨by omega,by omega⟩ _ _ (by simp only [go_sem,Int.natCast_zero]<;>rfl)
  clear hg
  rw [List.drop_zero] at h2
  obtain ⟨rfl,e3,e8,e9,rfl⟩:=h2
  have hcl:=List.count_le_length (l:=U) (a:=i)
  have hlb:lackB W i (min i 1+U.count i)=(decide (min i 1+U.count i<3)&&decide (i ∉ W)):=rfl
  rw [hlb]
  generalize min i 1+U.count i=z at*
  by_cases p:z<3
  ·have p2:((z:Int)<3)=True:=eT (by omega)
   rw [decide_eq_true p,Bool.true_and]
   by_cases hin:i∈W
   ·rw [decide_eq_true ((memJ W i).2 hin)] at h100
    rw [decide_eq_false (fun h=>h hin),Bool.false_or]
    simp only [go_sem,lp31_3,hlU,e3,e8,e9,p2,h100,hs]
    refine ⟨i+1,by simp only [go_sem,z0,z3,z4,e3,e8]<;>rfl,?_,?_,fun x en s hq=> ?_⟩
    ·omega
    ·omega
    ·exact hq
   ·rw [decide_eq_false (fun h=>hin ((memJ W i).1 h))] at h100
    rw [decide_eq_true hin,Bool.true_or]
    simp only [go_sem,lp31_3,hlU,e3,e8,e9,p2,h100]
  ·have p2:((z:Int)<3)=False:=eF (by omega)
   rw [decide_eq_false p,Bool.false_and,Bool.false_or]
   simp only [go_sem,lp31_3,hlU,e3,e8,e9,p2,hs]
   refine ⟨i+1,by simp only [go_sem,z0,z3,z4,e3,e8]<;>rfl,?_,?_,fun x en s hq=> ?_⟩
   ·omega
   ·omega
   ·exact hq
 ·have hlt:((i:Int)≤(U.length:Int))=False:=eF (by omega)
  rw [zio U W i h]
  simp only [go_sem,lp31_3,hlU,hlt]
def ordR (L:List Nat) (m i:Nat):Bool:=(List.range' i (m+1-i)).any fun k=> !lexM (L.getD (k-2) 0) (L.getD (k-1) 0)
theorem zhx (L:List Nat)(m i:Nat)(h:i≤m):ordR L m i=(!lexM (L.getD (i-2) 0) (L.getD (i-1) 0)||ordR L m (i+1)):=by
 unfold ordR
 rw [show m+1-i=(m+1-(i+1))+1 by omega,List.range'_succ,List.any_cons]
theorem zk9 (L:List Nat)(m i:Nat)(h: ¬i≤m):ordR L m i=false:=by
 unfold ordR
 rw [show m+1-i=0 by omega];rfl
theorem zkq (n:Nat)(hn:n≤8)(nu nw:Bool)(U W:List Nat)(hU: ∀u∈U,u≤U.length)(hW: ∀w∈W,w≤U.length)(hl:U.length≤13)(hWl:W.length=n)(hend: ∀w,w≤U.length→itC U U.length w=0)(k:Nat)(i:Nat)(hok:2≤i∧i≤U.length+2)(env:Env)(st:St)
  (hg:gcAV true 1 1 (canon env [3,11]) st=([(3,.ptr 0 0),(11,J i)],⟨[[sl 1 nu (U.map J),sl 1 nw (W.map J)]],[k]⟩)):
  ∃x_1 en s,lim (headed pure (run L) true [3,11] lp31_4 1 1) env st=some (x_1,en,s)∧((ordR (outL U W) U.length i=true∧x_1=.ret∧en.get 4=I 7)∨(ordR (outL U W) U.length i=false∧x_1=.exit 8)):=by
 refine zd (α:=Nat) (fun i=>U.length+2-i) (fun i=>2≤i∧i≤U.length+2) (fun i=>([(3,.ptr 0 0),(11,J i)],⟨[[sl 1 nu (U.map J),sl 1 nw (W.map J)]],[k]⟩)) (fun i x_1 en s=>(ordR (outL U W) U.length i=true∧x_1=.ret∧en.get 4=I 7)∨(ordR (outL U W) U.length i=false∧x_1=.exit 8)) (fun i hok=> ?_) i hok env st hg
 obtain ⟨h1,h2⟩:=hok
 have hlU:=zj J nu U
 by_cases h:i≤U.length
 ·have hs:=zo i (by omega)
  have hlt:((i:Int)≤(U.length:Int))=True:=eT (by omega)
  have hm:IntKind.i64.wrap ((i:Int)-1)=((i-1:Nat):Int):=by
   rw [←w64 (i-1) (by omega)];congr 1;omega
  have ha:=fun st=>c97M hn nu nw hU hW hl hWl hend (k:=i-2) (by omega) st
  have hb:=fun st=>c97M hn nu nw hU hW hl hWl hend (k:=i-1) (by omega) st
  rw [show i-2+1=i-1 by omega] at ha
  rw [show i-1+1=i by omega] at hb
  rw [zhx _ _ i h]
  generalize (outL U W).getD (i-2) 0=a at*
  generalize (outL U W).getD (i-1) 0=b at*
  have hma:=z2q a
  have hc: ∀st,run L 101 [tM a,tM b] st=some (B (lexM a b),st):=fun st=>c101 true true (memb a) (memb b) (by omega) st
  cases hx:lexM a b with
  |true=>
   rw [hx] at hc
   rw [Bool.not_true,Bool.false_or]
   simp only [go_sem,lp31_4,hlU,hlt,hs,hm,ha,hb,hc]
   refine ⟨i+1,by simp only [go_sem,z0,z3,z4]<;>rfl,?_,?_,fun x en s hq=> ?_⟩
   ·omega
   ·omega
   ·exact hq
  |false=>
   rw [hx] at hc
   rw [Bool.not_false,Bool.true_or]
   simp only [go_sem,lp31_4,hlU,hlt,hm,ha,hb,hc]
 ·have hlt:((i:Int)≤(U.length:Int))=False:=eF (by omega)
  rw [zk9 _ _ i h]
  simp only [go_sem,lp31_4,hlU,hlt]
attribute [local go_sem] m_ x_ l_ k_ o_ t_ a_ s_ q_ b_ c_ u_ g_ zi z9 zf zn z03 z04 ze zk zm z8 zh z06
theorem zn2 (U:List Nat) {t m c:Nat} (h:itC U t c=0)(hm:t≤m):itC U m c=0:=by
 rw [show m=t+(m-t) by omega,z00,h,zq]
theorem zmo (U:List Nat):lostR U 1=lostC U:=by
 rw [Bool.eq_iff_iff]
 unfold lostR lostC
 rw [List.any_eq_true,List.any_eq_true]
 constructor
 ·rintro ⟨c,hc,h⟩
  rw [List.mem_range'_1] at hc
  refine ⟨c-1,List.mem_range.2 (by omega),?_⟩
  rw [decide_eq_true_eq,show c-1+1=c by omega]
  intro h0
  rw [Bool.not_eq_true',←Bool.not_eq_true] at h
  exact h ((z70 U 0 U.length c).2 ⟨U.length,Nat.le_refl _,h0⟩)
 ·rintro ⟨c,hc,h⟩
  have hc:=List.mem_range.1 hc
  rw [decide_eq_true_eq] at h
  refine ⟨c+1,by rw [List.mem_range'_1];omega,?_⟩
  rw [Bool.not_eq_true',←Bool.not_eq_true,z70]
  rintro ⟨t,ht,e⟩
  exact h (zn2 U e ht)
theorem zn0 {U:List Nat} (hU: ∀u∈U,u≤U.length)(W:List Nat):lackR U W 0=lackF W 0 (laneL U):=by
 rw [Bool.eq_iff_iff,z7n]
 unfold lackR
 rw [List.any_eq_true]
 constructor
 ·rintro ⟨c,hc,h⟩
  rw [List.mem_range'_1] at hc
  unfold lackB at h
  rw [Bool.and_eq_true,decide_eq_true_eq,decide_eq_true_eq] at h
  exact ⟨c,by rw [z57];omega,by rw [z7m hU (by omega)];exact h.1,by rw [Nat.zero_add];exact h.2⟩
 ·rintro ⟨c,hc,h1,h2⟩
  rw [z57] at hc
  rw [z7m hU (by omega)] at h1
  rw [Nat.zero_add] at h2
  refine ⟨c,by rw [List.mem_range'_1];omega,?_⟩
  unfold lackB
  rw [Bool.and_eq_true,decide_eq_true_eq,decide_eq_true_eq]
  exact ⟨h1,h2⟩
theorem zmz {a b:Nat} (ha:a<512)(hb:b<512)(hne:a≠b):lexM a b= !lexM b a:=by
 unfold lexM
 cases h1:lexLt (memb a) (memb b)
 ·cases h2:lexLt (memb b) (memb a)
  ·exact absurd (zcc ha hb (za5 _ _ h1 h2)) hne
  ·rfl
 ·rw [zil h1];rfl
theorem ord_eq {L:List Nat} (h8: ∀s∈L,s<512)(hnd:L.Nodup):ordR L L.length 2= !srtB L:=by
 have key: ∀j,j+1<L.length→lexM (L.getD j 0) (L.getD (j+1) 0)= !lexM (L.getD (j+1) 0) (L.getD j 0):=by
  intro j hj
  apply zmz (h8 _ (zr (by omega))) (h8 _ (zr hj))
  intro e
  have:=zcb hnd (by omega) hj e
  omega
 rw [Bool.eq_iff_iff,Bool.not_eq_true',←Bool.not_eq_true]
 unfold ordR srtB
 rw [List.any_eq_true,List.all_eq_true]
 constructor
 ·rintro ⟨k,hk,h⟩ hall
  rw [List.mem_range'_1] at hk
  have h1:=hall (k-2) (List.mem_range.2 (by omega))
  have h2:=key (k-2) (by omega)
  rw [show k-2+1=k-1 by omega] at h1 h2
  rw [h2] at h
  unfold lexM at h
  rw [h1] at h;cases h
 ·intro hno
  apply Classical.byContradiction
  intro hex
  apply hno
  intro j hj
  have hj:=List.mem_range.1 hj
  cases hc:(!lexLt (memb (L.getD (j+1) 0)) (memb (L.getD j 0)))
  ·exfalso
   apply hex
   refine ⟨j+2,by rw [List.mem_range'_1];omega,?_⟩
   rw [show j+2-2=j by omega,show j+2-1=j+1 by omega,key j (by omega)]
   unfold lexM
   rw [hc];rfl
  ·rfl
theorem c31 (n:Int)(nu nw:Bool)(us ws:List Int)(hu:us.length≤40)(hw:ws.length≤40)(st:St):
  run L 31 [I n,.agg [sl 1 nu (us.map I),sl 1 nw (ws.map I)]] st=some (I (readV n us ws).1,st):=by
 rw [run_pure (fn:=ir31) rfl rfl]
 have hlU:=zj I nu us
 have hlW:=zj I nw ws
 have h98:=fun st=>c98 n 2 8 st
 unfold readV
 by_cases q1:n<2∨8<n
 ·rw [if_pos q1]
  rw [decide_eq_false (by omega)] at h98
  simp only [ir31,go_sem,h98]
 rw [if_neg q1]
 rw [decide_eq_true (by omega)] at h98
 by_cases q3:13<us.length
 ·rw [if_pos q3]
  have q3:((13:Int)<(us.length:Int))=True:=eT (by omega)
  simp only [ir31,go_sem,h98,hlU,q3]
 rw [if_neg q3]
 have q3:((13:Int)<(us.length:Int))=False:=eF (by omega)
 by_cases q4:(ws.length:Int)≠n
 ·rw [if_pos q4]
  simp only [ir31,go_sem,h98,hlU,hlW,q3,q4]
 rw [if_neg q4]
 have q4:((ws.length:Int)=n)=True:=eT (by omega)
 have hne:us++ws≠[]:=by
  intro h
  have:=congrArg List.length h
  rw [List.length_append,List.length_nil] at this
  omega
 have hAl:((us++ws).map I).length≠0:=by simpa using hne
 have a1: ∀S,appendAV 1 (.lst .full 1 []) (us.map I) ⟨S,[]⟩=some (pA (us.map I),⟨S,oT (us.map I)⟩):=fun S=>zg3 [] (us.map I) S (by simp;omega)
 have a2:=fun S=>zg3 (us.map I) (ws.map I) S (by simp;omega)
 rw [←List.map_append] at a2
 have hpo:pA ((us++ws).map I)=.lst (.own 0 (us++ws).length) 1 ((us++ws).map I):=by
  rw [pA_ne (by simpa using hne)]
  unfold oA loc
  rw [if_neg hAl,lm_]
 have hto:oT ((us++ws).map I)=[(us++ws).length]:=by
  unfold oT locT
  rw [if_neg hAl,lm_]
 rw [hpo,hto] at a2
 have hAlen:(us++ws).length<1000:=by rw [List.length_append];omega
 have hbad:=fun h=> @zew us.length (us++ws) h
 generalize hA:us++ws=A at*
 simp only [ir31,go_sem,h98,hlU,hlW,q3,q4,a1,a2]
 generalize hg:lim (headed pure (run L) true _ lp31_0 _ _) _ _=o
 obtain ⟨x,en,s,rfl,h2⟩: ∃x en s,o=some (x,en,s)∧_:=by rw [←hg];exact zku nu nw us ws (by omega) A hAlen 0 (by omega) _ _ (by simp only [go_sem,Int.natCast_zero]<;>rfl)
 clear hg
 rw [List.drop_zero] at h2
 rcases h2 with ⟨hb,rfl,e4⟩ | ⟨hb,rfl,e3,rfl⟩
 ·rw [if_pos hb]
  simp only [go_sem,e4]
 ·rw [if_neg (by rw [hb];simp)]
  have hgd:=hbad hb
  obtain ⟨m,rfl⟩:=Int.eq_ofNat_of_zero_le (show 0≤n by omega)
  have e1:=z3d (A:=us) (fun a ha=>(hgd a (by rw [←hA];simp [ha])).1)
  have e2:=z3d (A:=ws) (fun a ha=>(hgd a (by rw [←hA];simp [ha])).1)
  have hU: ∀u∈us.map Int.toNat,u≤(us.map Int.toNat).length:=by
   intro u hu
   rw [List.mem_map] at hu
   obtain ⟨a,ha,rfl⟩:=hu
   have:=hgd a (by rw [←hA];simp [ha])
   rw [lm_];omega
  have hW: ∀u∈ws.map Int.toNat,u≤(us.map Int.toNat).length:=by
   intro u hu
   rw [List.mem_map] at hu
   obtain ⟨a,ha,rfl⟩:=hu
   have:=hgd a (by rw [←hA];simp [ha])
   rw [lm_];omega
  have hUl:(us.map Int.toNat).length≤13:=by rw [lm_];omega
  have hWl:(ws.map Int.toNat).length=m:=by rw [lm_];omega
  rw [←e1,←e2]
  clear hlU hlW e1 e2 hgd hbad hA hne hAl q3 q4 a1 a2 hpo hto
  generalize us.map Int.toNat=U at*
  generalize ws.map Int.toNat=W at*
  simp only [go_sem,e3]
  generalize hg:lim (headed pure (run L) true _ lp31_1 _ _) _ _=o
  obtain ⟨x,en,s,rfl,h2⟩: ∃x en s,o=some (x,en,s)∧_:=by rw [←hg];exact zkt nu nw U W hU hUl A.length 1 (by omega) _ _ (by simp only [go_sem,e3,show ((1:Nat):Int)=1 from rfl]<;>rfl)
  clear hg
  clear e3
  unfold readN
  rw [zmo] at h2
  rcases h2 with ⟨hlo,rfl,e4⟩ | ⟨hlo,rfl,e3,rfl⟩
  ·rw [hlo,if_pos rfl]
   simp only [go_sem,e4]
  rw [hlo,if_neg (by simp)]
  have hend: ∀w,w≤U.length→itC U U.length w=0:=by
   intro w hw
   by_cases hw0:w=0
   ·rw [hw0,zq]
   ·unfold lostC at hlo
    rw [List.any_eq_false] at hlo
    have:=hlo (w-1) (List.mem_range.2 (by omega))
    simp only [decide_eq_true_eq,Classical.not_not] at this
    rw [show w-1+1=w by omega] at this
    exact this
  have h0:=z0h J nw W 0 (by omega)
  have hw0:W.getD 0 0=W[0]'(by omega):=by rw [List.getD_eq_getElem?_getD,List.getElem?_eq_getElem (by omega)];rfl
  have h0':indexSAV 1 (sl 1 nw (W.map J)) (.v (.int .i64 0))=some (.eptr (J (W[0]'(by omega))) 0):=h0
  have hw00:=hw0
  rw [hw0]
  clear h0 hw0
  generalize W[0]'(by omega)=w0 at*
  by_cases hz:w0≠0
  ·have z1:((w0:Int)=0)=False:=eF (by omega)
   rw [if_pos hz]
   simp only [go_sem,e3,h0',z1]
  rw [if_neg hz]
  have hz:w0=0:=by simpa using hz
  have z1:((w0:Int)=0)=True:=eT (by omega)
  simp only [go_sem,e3,h0',z1]
  generalize hg:lim (headed pure (run L) true _ lp31_3 _ _) _ _=o
  obtain ⟨x,en,s,rfl,h2⟩: ∃x en s,o=some (x,en,s)∧_:=by rw [←hg];exact zkr nu nw U W hUl (by omega) A.length 0 (by omega) _ _ (by simp only [go_sem,e3,Int.natCast_zero]<;>rfl)
  clear hg
  clear e3
  have hle:=zn0 hU W
  rw [hle] at h2
  rcases h2 with ⟨hla,rfl,e4⟩ | ⟨hla,rfl,e3,rfl⟩
  ·rw [hla,if_pos rfl]
   simp only [go_sem,e4]
  rw [hla,if_neg (by simp)]
  have ht:Tree m U W:=⟨hU,hW,hWl,hend,by rw [hw00,hz],by
   rintro c hc ⟨h5,h6⟩
   have:lackF W 0 (laneL U)=true:=by
    rw [z7n]
    exact ⟨c,by rw [z57];omega,by rw [z7m hU hc];exact h5,by rw [Nat.zero_add];exact h6⟩
   rw [hla] at this;cases this⟩
  have hlam:=ht.lam (by omega) (by omega)
  have hol:=zc7 (by omega) hU hW hWl hend (n:=m)
  have hoe:=ord_eq (L:=outL U W) (fun s hs=>by have:=hlam.lt8 (by omega) hs;omega) hlam.nd
  rw [hol] at hoe
  simp only [go_sem,e3]
  generalize hg:lim (headed pure (run L) true _ lp31_4 _ _) _ _=o
  obtain ⟨x,en,s,rfl,h2⟩: ∃x en s,o=some (x,en,s)∧_:=by rw [←hg];exact zkq m (by omega) nu nw U W hU hW hUl hWl hend A.length 2 ⟨by omega,by omega⟩ _ _ (by simp only [go_sem,e3,show ((2:Nat):Int)=2 from rfl]<;>rfl)
  clear hg
  rw [hoe] at h2
  cases hso:srtB (outL U W) with
  |true=>
   rw [hso] at h2
   rw [if_pos rfl]
   rcases h2 with ⟨h,_⟩ | ⟨_,rfl⟩
   ·cases h
   ·simp only [go_sem]
  |false=>
   rw [hso] at h2
   rw [if_neg (by simp)]
   rcases h2 with ⟨_,rfl,e4⟩ | ⟨h,_⟩
   ·simp only [go_sem,e4]
   ·cases h
attribute [local go_sem] m_ x_ l_ k_ o_ t_ a_ s_ q_ b_ c_ u_ g_ zi z9 zf zn z03 z04 ze zk zm z8 zh z06 z0x z1v z1u z01 z1t z7e
theorem zhj (v:Nat):(tM v).shaped=true:=ze _
theorem zli (v:Nat):(tM v).cells=[tM v]:=zk _
theorem zef (v:Nat):storable (tM v)=true:=z8 _
theorem loop29 (n:Nat)(hn:n≤8)(nu nw:Bool)(U W:List Nat)(hU: ∀u∈U,u≤U.length)(hW: ∀w∈W,w≤U.length)(hl:U.length≤13)(hWl:W.length=n)(hend: ∀w,w≤U.length→itC U U.length w=0)(i:Nat)(o:List Nat)(hok:i≤U.length∧o.length=i)(env:Env)(st:St)
  (hg:gcAV true 1 0 (canon env [3,7,8]) st=([(3,.ptr 0 0),(7,oA (o.map tM)),(8,J (i+1:Nat))],⟨[[sl 1 nu (U.map J),sl 1 nw (W.map J)]],oT (o.map tM)⟩)):
  ∃x_1 en s,lim (headed pure (run L) true [3,7,8] lp29_0 1 0) env st=some (x_1,en,s)∧(x_1=.exit 0∧en.get 7=oA ((o++(outL U W).drop i).map tM)∧∃S,s=⟨S,oT ((o++(outL U W).drop i).map tM)⟩):=by
 refine zd (α:=Nat×List Nat) (fun ⟨i,o⟩=>U.length-i) (fun ⟨i,o⟩=>i≤U.length∧o.length=i) (fun ⟨i,o⟩=>([(3,.ptr 0 0),(7,oA (o.map tM)),(8,J (i+1:Nat))],⟨[[sl 1 nu (U.map J),sl 1 nw (W.map J)]],oT (o.map tM)⟩)) (fun ⟨i,o⟩ x_1 en s=>x_1=.exit 0∧en.get 7=oA ((o++(outL U W).drop i).map tM)∧∃S,s=⟨S,oT ((o++(outL U W).drop i).map tM)⟩) (fun ⟨i,o⟩ hok=> ?_) ⟨i,o⟩ hok env st hg
 simp only at hok
 obtain ⟨h1,h2⟩:=hok
 dsimp only at h1 h2⊢
 have hlU:=zj J nu U
 have hol:=zc7 hn hU hW hWl hend
 by_cases h:i<U.length
 ·have hs:=zo (i+1) (by omega)
  have hlt:(((i+1:Nat):Int)≤(U.length:Int))=True:=eT (by omega)
  have ha:=fun st=>c97M hn nu nw hU hW hl hWl hend h st
  have hd:(outL U W).drop i=(outL U W).getD i 0::(outL U W).drop (i+1):=by
   rw [List.drop_eq_getElem_cons (by omega),List.getD_eq_getElem?_getD,List.getElem?_eq_getElem (by omega)];rfl
  rw [hd]
  generalize (outL U W).getD i 0=a at*
  have happ:=fun S=>z7x (o.map tM) (tM a) S (by rw [lm_];omega)
  simp only [go_sem,lp29_0,hlU,hlt,hs,ha,happ,zhj,zli,zef,z0j]
  refine ⟨(i+1,o++ [a]),by simp only [go_sem,z0,z3,z4,z9z,z4h,List.map_append]<;>rfl,?_,?_,fun x en s hq=> ?_⟩
  ·dsimp only;rw [List.length_append,List.length_singleton];omega
  ·dsimp only;omega
  ·simp only [List.append_assoc,List.singleton_append] at hq;exact hq
 ·have hlt:(((i+1:Nat):Int)≤(U.length:Int))=False:=eF (by omega)
  have e:(outL U W).drop i=[]:=List.drop_eq_nil_of_le (by omega)
  rw [e,List.append_nil]
  simp only [go_sem,lp29_0,hlU,hlt]
  exact ⟨_,rfl⟩
theorem c29 (n:Int)(nu nw:Bool)(us ws:List Int)(hu:us.length≤40)(hw:ws.length≤40)(st:St):
  run L 29 [I n,.agg [sl 1 nu (us.map I),sl 1 nw (ws.map I)]] st=some (.tup [if (readV n us ws).1=0 then sl 1 true ((readV n us ws).2.map tM) else .v (.slice none 0 0),I (readV n us ws).1],st):=by
 rw [run_pure (fn:=ir29) rfl rfl]
 have h31:=fun st=>c31 n nu nw us ws hu hw st
 by_cases he:(readV n us ws).1=0
 ·obtain ⟨m,U,W,rfl,h2,hm,e1,e2,e3,hUl,ht,e4,e6,e5⟩:=zc6 he
  rw [he] at h31
  rw [he,if_pos rfl,e4]
  rw [e1,e2] at h31⊢
  simp only [ir29,go_sem,h31]
  generalize hg:lim (headed pure (run L) true _ lp29_0 _ _) _ _=o
  obtain ⟨x,en,s,rfl,h2⟩: ∃x en s,o=some (x,en,s)∧_:=by rw [←hg];exact loop29 m hm nu nw U W ht.hU ht.hW hUl ht.hWl ht.hend 0 [] ⟨by omega,rfl⟩ _ _ (by simp only [go_sem,List.map_nil,zc9,zfd,show ((0+1:Nat):Int)=1 from rfl]<;>rfl)
  clear hg
  rw [List.drop_zero,List.nil_append] at h2
  obtain ⟨rfl,e7,S,rfl⟩:=h2
  simp only [go_sem,e7]
 ·rw [if_neg he]
  simp only [ir29,go_sem,h31,he]
theorem zlj (v a:Nat)(hv:v<512)(st:St):run L 100 [tM v,J a] st=some (B (v.testBit a),st):=by
 have hm:=z2q v
 have h:=c100 true (memb v) (by omega) (a:Int) st
 have e:decide ((a:Int)∈memb v)=v.testBit a:=by
  rw [Bool.eq_iff_iff,decide_eq_true_eq,z9f hv]
 rw [e] at h
 exact h
theorem zmu (nl:Bool)(X:List Nat)(hX: ∀v∈X,v<512)(hl:X.length≤100)(a b:Nat)(i:Nat)(k:Nat)(hok:i≤X.length∧k≤i)(env:Env)(st:St)
  (hg:gcAV true 0 0 (canon env [0,1,2,7,8]) st=([(0,sl 1 nl (X.map tM)),(1,J a),(2,J b),(7,J k),(8,J i)],⟨[],[]⟩)):
  ∃x_1 en s,lim (headed pure (run L) true [0,1,2,7,8] lp103_0 0 0) env st=some (x_1,en,s)∧(x_1=.exit 0∧en.get 7=J (k+(X.drop i).countP (xorN a b))):=by
 refine zd (α:=Nat×Nat) (fun ⟨i,k⟩=>X.length-i) (fun ⟨i,k⟩=>i≤X.length∧k≤i) (fun ⟨i,k⟩=>([(0,sl 1 nl (X.map tM)),(1,J a),(2,J b),(7,J k),(8,J i)],⟨[],[]⟩)) (fun ⟨i,k⟩ x_1 en s=>x_1=.exit 0∧en.get 7=J (k+(X.drop i).countP (xorN a b))) (fun ⟨i,k⟩ hok=> ?_) ⟨i,k⟩ hok env st hg
 simp only at hok
 obtain ⟨h1,h2⟩:=hok
 dsimp only at h1 h2⊢
 have hll:=zj tM nl X
 by_cases h:i<X.length
 ·have hs:=zo i (by omega)
  have hk1:=zo k (by omega)
  have hlt:((i:Int)<(X.length:Int))=True:=eT (by omega)
  have hx:=z0h tM nl X i h
  have hv:=hX X[i] (List.getElem_mem h)
  have hd:X.drop i=X[i]::X.drop (i+1):=List.drop_eq_getElem_cons h
  rw [hd,List.countP_cons]
  generalize X[i]=s at*
  have h1a:=fun st=>zlj s a hv st
  have h1b:=fun st=>zlj s b hv st
  have hxo:xorN a b s=(s.testBit a !=s.testBit b):=rfl
  rw [hxo]
  by_cases e:s.testBit a=s.testBit b
  ·have e2:(s.testBit a !=s.testBit b)=false:=by simpa using e
   rw [e2,if_neg (by simp),Nat.add_zero]
   rw [e] at h1a
   cases hb:s.testBit b<;>rw [hb] at h1a h1b
   all_goals
    simp only [go_sem,lp103_0,hll,hlt,hs,hx,h1a,h1b]
    refine ⟨(i+1,k),by simp only [go_sem,z0,z3,z4]<;>rfl,?_,?_,fun x en s hq=> ?_⟩
    ·dsimp only;omega
    ·dsimp only;omega
    ·exact hq
  ·have e2:(s.testBit a !=s.testBit b)=true:=by simpa using e
   rw [e2,if_pos rfl]
   have e3:k+((X.drop (i+1)).countP (xorN a b)+1)=(k+1)+(X.drop (i+1)).countP (xorN a b):=by omega
   rw [e3]
   cases ha:s.testBit a<;>cases hb:s.testBit b<;>rw [ha,hb] at e<;>rw [ha] at h1a<;>rw [hb] at h1b
   ·exact absurd rfl e
   ·simp only [go_sem,lp103_0,hll,hlt,hs,hk1,hx,h1a,h1b]
    refine ⟨(i+1,k+1),by simp only [go_sem,z0,z3,z4]<;>rfl,?_,?_,fun x en s hq=> ?_⟩
    ·dsimp only;omega
    ·dsimp only;omega
    ·exact hq
   ·simp only [go_sem,lp103_0,hll,hlt,hs,hk1,hx,h1a,h1b]
    refine ⟨(i+1,k+1),by simp only [go_sem,z0,z3,z4]<;>rfl,?_,?_,fun x en s hq=> ?_⟩
    ·dsimp only;omega
    ·dsimp only;omega
    ·exact hq
   ·exact absurd rfl e
 ·have e:X.drop i=[]:=List.drop_eq_nil_of_le (by omega)
  have hlt:((i:Int)<(X.length:Int))=False:=eF (by omega)
  rw [e]
  simp only [go_sem,lp103_0,hll,hlt]
  rfl
theorem c103 (nl:Bool)(X:List Nat)(hX: ∀v∈X,v<512)(hl:X.length≤100)(a b:Nat)(st:St):run L 103 [sl 1 nl (X.map tM),J a,J b] st=some (J (X.countP (xorN a b)),st):=by
 rw [run_pure (fn:=ir103) rfl rfl]
 simp only [ir103,go_sem]
 generalize hg:lim (headed pure (run L) true _ lp103_0 _ _) _ _=o
 obtain ⟨x,en,s,rfl,h2⟩: ∃x en s,o=some (x,en,s)∧_:=by rw [←hg];exact zmu nl X hX hl a b 0 0 ⟨by omega,by omega⟩ _ _ (by simp only [go_sem,Int.natCast_zero]<;>rfl)
 clear hg
 rw [List.drop_zero,Nat.zero_add] at h2
 obtain ⟨rfl,e7⟩:=h2
 simp only [go_sem,e7]
theorem zjg {n v a b:Nat} (hv:v<2^n)(ha:a<n)(hb:b<n):xorN a b (smlN n v)=xorN a b v:=by
 unfold smlN
 split
 ·unfold xorN
  rw [z2w hv,z2w hv,decide_eq_true ha,decide_eq_true hb,Bool.true_and,Bool.true_and]
  cases v.testBit a<;>cases v.testBit b<;>rfl
 ·rfl
theorem zh4 {n:Nat} {X:List Nat} (hX: ∀v∈X,v<2^n) {a b:Nat} (ha:a<n)(hb:b<n):(X.map (smlN n)).countP (xorN a b)=X.countP (xorN a b):=by
 rw [List.countP_map]
 apply List.countP_congr
 intro v hv
 show xorN a b (smlN n v)=true↔_
 rw [zjg (hX v hv) ha hb]
theorem c33 (n:Int)(nl:Bool)(G:List GS)(hG: ∀p∈G,p.2.length<1000)(hGl:G.length<1000)(a b:Int)(st:St):
  run L 33 [I n,sl 1 nl (G.map gM),I a,I b] st=some (if (openG n G).1≠0 then .tup [I 0,I (openG n G).1] else if min a b<0∨n≤max a b then .tup [I 0,I 2] else .tup [J ((openG n G).2.countP (xorN a.toNat b.toNat)),I 0],st):=by
 rw [run_pure (fn:=ir33) rfl rfl]
 have h48:=fun st=>c48 n nl G hG hGl st
 by_cases he:(openG n G).1=0
 ·obtain ⟨m,X,rfl,h2,hm,hl,hXl,e1,e2,hX,e4,hnd⟩:=z9d he
  rw [he] at h48
  rw [he,if_neg (by simp),e4]
  have hw:IntKind.i64.wrap ((m:Int)-1)=(m:Int)-1:=by rw [z2x]<;>omega
  have hi:=fun st=>c98 a 0 ((m:Int)-1) st
  have hj:=fun st=>c98 b 0 ((m:Int)-1) st
  rw [e1] at h48⊢
  by_cases hi2:0≤a∧a≤(m:Int)-1
  ·rw [decide_eq_true hi2] at hi
   by_cases hj2:0≤b∧b≤(m:Int)-1
   ·rw [decide_eq_true hj2] at hj
    rw [if_neg (by omega)]
    obtain ⟨x,rfl⟩:=Int.eq_ofNat_of_zero_le hi2.1
    obtain ⟨y,rfl⟩:=Int.eq_ofNat_of_zero_le hj2.1
    have h2m:2^m≤256:=Nat.pow_le_pow_right (n:=2) (by decide) hm
    have h103:=fun st=>c103 nl X (fun v hv=>by have:=(hX v hv).1;omega) (by omega) x y st
    have hcs:=zh4 (fun v hv=>(hX v hv).1) (a:=x) (b:=y) (by omega) (by omega)
    simp only [Int.toNat_natCast]
    rw [hcs]
    simp only [ir33,go_sem,h48,hw,hi,hj,h103]
   ·rw [decide_eq_false hj2] at hj
    rw [if_pos (by omega)]
    simp only [ir33,go_sem,h48,hw,hi,hj]
  ·rw [decide_eq_false hi2] at hi
   rw [if_pos (by omega)]
   simp only [ir33,go_sem,h48,hw,hi]
 ·rw [if_pos he]
  simp only [ir33,go_sem,h48,he]
theorem c35 (n:Int)(nu nw:Bool)(us ws:List Int)(hu:us.length≤40)(hw:ws.length≤40)(a b:Int)(st:St):
  run L 35 [I n,.agg [sl 1 nu (us.map I),sl 1 nw (ws.map I)],I a,I b] st=some (farA n us ws a b,st):=by
 rw [run_pure (fn:=ir35) rfl rfl]
 have h29:=fun st=>c29 n nu nw us ws hu hw st
 obtain ⟨hlt,hle⟩:=zjz n us ws
 unfold farA
 by_cases he:(readV n us ws).1=0
 ·obtain ⟨m,U,W,rfl,h2,hm,_⟩:=zc6 he
  rw [he,if_pos rfl] at h29
  rw [he,if_neg (by simp)]
  generalize (readV m us ws).2=O at*
  have hw:IntKind.i64.wrap ((m:Int)-1)=(m:Int)-1:=by rw [z2x]<;>omega
  have hi:=fun st=>c98 a 0 ((m:Int)-1) st
  have hj:=fun st=>c98 b 0 ((m:Int)-1) st
  by_cases hi2:0≤a∧a≤(m:Int)-1
  ·rw [decide_eq_true hi2] at hi
   by_cases hj2:0≤b∧b≤(m:Int)-1
   ·rw [decide_eq_true hj2] at hj
    rw [if_neg (by omega)]
    obtain ⟨x,rfl⟩:=Int.eq_ofNat_of_zero_le hi2.1
    obtain ⟨y,rfl⟩:=Int.eq_ofNat_of_zero_le hj2.1
    have h103:=fun st=>c103 true O (fun v hv=>by have:=hlt v hv;omega) (by omega) x y st
    simp only [ir35,go_sem,h29,hw,hi,hj,h103,Int.toNat_natCast]
   ·rw [decide_eq_false hj2] at hj
    rw [if_pos (by omega)]
    simp only [ir35,go_sem,h29,hw,hi,hj]
  ·rw [decide_eq_false hi2] at hi
   rw [if_pos (by omega)]
   simp only [ir35,go_sem,h29,hw,hi]
 ·rw [if_neg he] at h29
  rw [if_pos he]
  simp only [ir35,go_sem,h29,he]
attribute [local go_sem] m_ x_ l_ k_ o_ t_ a_ s_ q_ b_ c_ u_ g_ zi z9 zf zn z03 z04 ze zk zm z8 zh z06 z0x z1v z1u z01 z1t z7e
theorem zgp (n:Nat)(l:List Int)(hlen:l.length<1000)(nf:Bool)(i:Nat)(hok:i≤l.length∧rowAt n l i≠0)(env:Env)(st:St)
  (hg:gcAV true 0 0 (canon env [0,2,8,31,32,33]) st=([(0,J n),(2,sl 1 nf (l.map I)),(8,.v (.slice none 0 0)),(31,sl 1 nf (l.map I)),(32,J l.length),(33,J i)],⟨[],[]⟩)):
  ∃x_1 en s,lim (headed pure (run L) true [0,2,8,31,32,33] lp36_0 0 0) env st=some (x_1,en,s)∧(x_1=.ret∧en.get 6=I 0∧en.get 7=I (rowAt n l i)):=by
 refine zd (α:=Nat) (fun i=>l.length-i) (fun i=>i≤l.length∧rowAt n l i≠0) (fun i=>([(0,J n),(2,sl 1 nf (l.map I)),(8,.v (.slice none 0 0)),(31,sl 1 nf (l.map I)),(32,J l.length),(33,J i)],⟨[],[]⟩)) (fun i x_1 en s=>x_1=.ret∧en.get 6=I 0∧en.get 7=I (rowAt n l i)) (fun i hok=> ?_) i hok env st hg
 obtain ⟨h1,h2⟩:=hok
 by_cases h:i<l.length
 ·have hs:=zo i (by omega)
  have hx:indexSAV 1 (sl 1 nf (l.map I)) (.v (.int .i64 (i:Int)))=some (.eptr (I l[i]) 0):=zc nf l i h
  have hlt:((i:Int)<(l.length:Int))=True:=eT (by omega)
  have hst:=z26 n l i h
  rw [hst] at h2⊢
  by_cases q1:l[i]<0
  ·rw [if_pos (.inl q1)]
   simp only [go_sem,lp36_0,hlt,hs,hx,q1]
  ·by_cases q2:(n:Int)≤l[i]
   ·rw [if_pos (.inr q2)]
    simp only [go_sem,lp36_0,hlt,hs,hx,q1,q2]
   ·rw [if_neg (not_or.2 ⟨q1,q2⟩)] at h2⊢
    by_cases h0:0<i
    ·have q3:((0:Int)<(i:Int))=True:=eT (by omega)
     have hm:IntKind.i64.wrap ((i:Int)-1)=((i-1:Nat):Int):=by
      rw [←w64 (i-1) (by omega)];congr 1;omega
     have hx2:indexSAV 1 (sl 1 nf (l.map I)) (.v (.int .i64 ((i-1:Nat):Int)))=some (.eptr (I (l[i-1]'(by omega))) 0):=zc nf l (i-1) (by omega)
     rw [if_neg (show ¬i=0 by omega),List.getElem?_eq_getElem (show i-1<l.length by omega)] at h2⊢
     generalize l[i-1]'(by omega)=b at*
     generalize l[i]=a at*
     have hpb:prevB (some b) a=decide (a≤b):=rfl
     rw [hpb] at h2⊢
     by_cases q4:a≤b
     ·rw [if_pos (by simpa using q4)]
      simp only [go_sem,lp36_0,hlt,hs,hx,q1,q2,q3,hm,hx2,q4]
     ·rw [if_neg (by simpa using q4)] at h2⊢
      simp only [go_sem,lp36_0,hlt,hs,hx,q1,q2,q3,hm,hx2,q4]
      refine ⟨i+1,by simp only [go_sem,z0,z3,z4]<;>rfl,?_,?_,fun x en s hq=> ?_⟩
      ·exact ⟨by omega,h2⟩
      ·omega
      ·exact hq
    ·have q3:((0:Int)<(i:Int))=False:=eF (by omega)
     rw [if_pos (show i=0 by omega)] at h2⊢
     generalize l[i]=a at*
     have hpb:prevB none a=false:=rfl
     rw [hpb,if_neg (by simp)] at h2⊢
     simp only [go_sem,lp36_0,hlt,hs,hx,q1,q2,q3]
     refine ⟨i+1,by simp only [go_sem,z0,z3,z4]<;>rfl,?_,?_,fun x en s hq=> ?_⟩
     ·exact ⟨by omega,h2⟩
     ·omega
     ·exact hq
 ·exact absurd (z33 n l i h) h2
theorem zgq (n:Nat)(l:List Int)(hlen:l.length<1000)(nf:Bool)(ss:List Nat)(i:Nat)(hok:i≤l.length∧rowAt n l i≠0)(env:Env)(st:St)
  (hg:gcAV true 1 0 (canon env [0,2,8,31,32,33]) st=([(0,J n),(2,sl 1 nf (l.map I)),(8,.rsl 0 0 ss.length ss.length 1 true),(31,sl 1 nf (l.map I)),(32,J l.length),(33,J i)],⟨[ss.map u8],[]⟩)):
  ∃x_1 en s,lim (headed pure (run L) true [0,2,8,31,32,33] lp36_0 1 0) env st=some (x_1,en,s)∧(x_1=.ret∧en.get 6=I 0∧en.get 7=I (rowAt n l i)):=by
 refine zd (α:=Nat) (fun i=>l.length-i) (fun i=>i≤l.length∧rowAt n l i≠0) (fun i=>([(0,J n),(2,sl 1 nf (l.map I)),(8,.rsl 0 0 ss.length ss.length 1 true),(31,sl 1 nf (l.map I)),(32,J l.length),(33,J i)],⟨[ss.map u8],[]⟩)) (fun i x_1 en s=>x_1=.ret∧en.get 6=I 0∧en.get 7=I (rowAt n l i)) (fun i hok=> ?_) i hok env st hg
 obtain ⟨h1,h2⟩:=hok
 by_cases h:i<l.length
 ·have hs:=zo i (by omega)
  have hx:indexSAV 1 (sl 1 nf (l.map I)) (.v (.int .i64 (i:Int)))=some (.eptr (I l[i]) 0):=zc nf l i h
  have hlt:((i:Int)<(l.length:Int))=True:=eT (by omega)
  have hst:=z26 n l i h
  rw [hst] at h2⊢
  by_cases q1:l[i]<0
  ·rw [if_pos (.inl q1)]
   simp only [go_sem,lp36_0,hlt,hs,hx,q1]
  ·by_cases q2:(n:Int)≤l[i]
   ·rw [if_pos (.inr q2)]
    simp only [go_sem,lp36_0,hlt,hs,hx,q1,q2]
   ·rw [if_neg (not_or.2 ⟨q1,q2⟩)] at h2⊢
    by_cases h0:0<i
    ·have q3:((0:Int)<(i:Int))=True:=eT (by omega)
     have hm:IntKind.i64.wrap ((i:Int)-1)=((i-1:Nat):Int):=by
      rw [←w64 (i-1) (by omega)];congr 1;omega
     have hx2:indexSAV 1 (sl 1 nf (l.map I)) (.v (.int .i64 ((i-1:Nat):Int)))=some (.eptr (I (l[i-1]'(by omega))) 0):=zc nf l (i-1) (by omega)
     rw [if_neg (show ¬i=0 by omega),List.getElem?_eq_getElem (show i-1<l.length by omega)] at h2⊢
     generalize l[i-1]'(by omega)=b at*
     generalize l[i]=a at*
     have hpb:prevB (some b) a=decide (a≤b):=rfl
     rw [hpb] at h2⊢
     by_cases q4:a≤b
     ·rw [if_pos (by simpa using q4)]
      simp only [go_sem,lp36_0,hlt,hs,hx,q1,q2,q3,hm,hx2,q4]
     ·rw [if_neg (by simpa using q4)] at h2⊢
      simp only [go_sem,lp36_0,hlt,hs,hx,q1,q2,q3,hm,hx2,q4]
      refine ⟨i+1,by simp only [go_sem,z0,z3,z4,zp,zg]<;>rfl,?_,?_,fun x en s hq=> ?_⟩
      ·exact ⟨by omega,h2⟩
      ·omega
      ·exact hq
    ·have q3:((0:Int)<(i:Int))=False:=eF (by omega)
     rw [if_pos (show i=0 by omega)] at h2⊢
     generalize l[i]=a at*
     have hpb:prevB none a=false:=rfl
     rw [hpb,if_neg (by simp)] at h2⊢
     simp only [go_sem,lp36_0,hlt,hs,hx,q1,q2,q3]
     refine ⟨i+1,by simp only [go_sem,z0,z3,z4,zp,zg]<;>rfl,?_,?_,fun x en s hq=> ?_⟩
     ·exact ⟨by omega,h2⟩
     ·omega
     ·exact hq
 ·exact absurd (z33 n l i h) h2
theorem c36s (n:Nat)(h2:2≤n)(hn:n≤8)(nl:Bool)(X:List Nat)(hX: ∀v∈X,v<2^n∧v≠0∧v≠2^n-1)(hnd:(X.map (smlN n)).Nodup)(hl:X.length≤13)(nf:Bool)(f:List Int)(hf:f.length<1000)(h4:f.length≠4)(st:St):
  run L 36 [J n,sl 1 nl (X.map tM),sl 1 nf (f.map I)] st=some (.tup [I 0,I 5],st):=by
 rw [run_pure (fn:=ir36) rfl rfl]
 have h70:=c70 n h2 hn nl X hX hnd hl
 have hlf:=zj I nf f
 have q:((f.length:Int)=4)=False:=eF (by omega)
 generalize X.map (smlN n)=ss at*
 by_cases he:ss=[]
 ·subst he
  have eA:kA []=.v (.slice none 0 0):=rfl
  have eS:kS []=[]:=rfl
  rw [eA,eS] at h70
  simp only [ir36,go_sem,h70,show pure 70=false from rfl,shStore,shV,shVs,hlf,q]
 ·rw [zck he,zci he] at h70
  have hsv:=z8v 0 ss
  simp only [ir36,go_sem,h70,show pure 70=false from rfl,shStore,shV,shVs,hsv,hlf,q]
theorem c36r (n:Nat)(h2:2≤n)(hn:n≤8)(nl:Bool)(X:List Nat)(hX: ∀v∈X,v<2^n∧v≠0∧v≠2^n-1)(hnd:(X.map (smlN n)).Nodup)(hl:X.length≤13)(nf:Bool)(f:List Int)(h4:f.length=4)(hr:rowAt n f 0≠0)(st:St):
  run L 36 [J n,sl 1 nl (X.map tM),sl 1 nf (f.map I)] st=some (.tup [I 0,I (rowAt n f 0)],st):=by
 rw [run_pure (fn:=ir36) rfl rfl]
 have h70:=c70 n h2 hn nl X hX hnd hl
 have hlf:lenAV (sl 1 nf (f.map I))=some (J 4):=by rw [←h4];exact zj I nf f
 have hlf':lenAV (sl 1 nf (f.map I))=some (I 4):=hlf
 generalize X.map (smlN n)=ss at*
 by_cases he:ss=[]
 ·subst he
  have eA:kA []=.v (.slice none 0 0):=rfl
  have eS:kS []=[]:=rfl
  rw [eA,eS] at h70
  simp only [ir36,go_sem,h70,show pure 70=false from rfl,shStore,shV,shVs,hlf']
  generalize hg:lim (headed pure (run L) true _ lp36_0 _ _) _ _=o
  obtain ⟨x,en,s,rfl,h2⟩: ∃x en s,o=some (x,en,s)∧_:=by rw [←hg];exact zgp n f (by omega) nf 0 ⟨by omega,hr⟩ _ _ (by simp only [go_sem,Int.natCast_zero,h4,show ((4:Nat):Int)=4 from rfl]<;>rfl)
  clear hg
  obtain ⟨rfl,e6,e7⟩:=h2
  simp only [go_sem,e6,e7]
 ·rw [zck he,zci he] at h70
  have hsv:=z8v 0 ss
  simp only [ir36,go_sem,h70,show pure 70=false from rfl,shStore,shV,shVs,hsv,hlf',zp,zg]
  generalize hg:lim (headed pure (run L) true _ lp36_0 _ _) _ _=o
  obtain ⟨x,en,s,rfl,h2⟩: ∃x en s,o=some (x,en,s)∧_:=by rw [←hg];exact zgq n f (by omega) nf ss 0 ⟨by omega,hr⟩ _ _ (by simp only [go_sem,Int.natCast_zero,h4,show ((4:Nat):Int)=4 from rfl,zp,zg]<;>rfl)
  clear hg
  obtain ⟨rfl,e6,e7⟩:=h2
  simp only [go_sem,e6,e7]
def fourA (n:Int) (G:List GS) (f:List Int):AV:=
 if (openG n G).1≠0 then .tup [I 0,I (openG n G).1] else if f.length≠4 then .tup [I 0,I 5] else if rowAt n.toNat f 0≠0 then .tup [I 0,I (rowAt n.toNat f 0)] else pairA (runF (maskL f) (openG n G).2 0)
theorem zf3 {n:Nat} {f:List Int}:rowAt n f 0=rowE n none f:=by unfold rowAt;rw [if_pos rfl,List.drop_zero]
theorem sl_tM {nf:Bool} {f:List Int} (h:f≠[]):sl 1 nf (f.map I)=tAV f:=by
 have h2:f.map I≠[]:=by simpa using h
 unfold tAV
 rw [zar h2,zar h2]
theorem c36G (n:Int)(nl:Bool)(G:List GS)(hG: ∀p∈G,p.2.length<1000)(hGl:G.length<1000)(nf:Bool)(f:List Int)(hf:f.length<1000)(st:St):
  run L 36 [I n,sl 1 nl (G.map gM),sl 1 nf (f.map I)] st=some (fourA n G f,st):=by
 unfold fourA
 by_cases he:(openG n G).1=0
 ·obtain ⟨m,X,rfl,h2,hm,hl,hXl,e1,e2,hX,e4,hnd⟩:=z9d he
  rw [he,if_neg (by simp),e1,e4]
  by_cases h4:f.length=4
  ·rw [if_neg (by simpa using h4)]
   rw [Int.toNat_natCast]
   by_cases hr:rowAt m f 0=0
   ·rw [if_neg (by simpa using hr)]
    rw [zf3] at hr
    have hne:f≠[]:=by rintro rfl;simp at h4
    have hmm:=z53 hm hr
    have hml:=z8e (z8x f none hr).1
    rw [sl_tM hne]
    have htm:tAV f=tM (maskL f):=by unfold tM;rw [hmm]
    rw [htm]
    exact c36 m h2 hm nl X hX hnd (by omega) (maskL f) hml (by rw [hmm];exact h4) st
   ·rw [if_pos hr]
    exact c36r m h2 hm nl X hX hnd (by omega) nf f h4 hr st
  ·rw [if_pos h4]
   exact c36s m h2 hm nl X hX hnd (by omega) nf f hf h4 st
 ·rw [if_pos he]
  exact c36e hG hGl he nf f st
theorem zfi (n:Nat)(h1n:1≤n)(hn:n≤8)(X:AV)(hX1: ∀n,okRef n X=true)(hX2: ∀n T acc,ren1 n T acc X=(X,acc))(l:List Int)(hlen:l.length<1000)(nf:Bool)(i:Nat)(e:Int)(hok:i≤l.length)(env:Env)(st:St)
  (hg:gcAV true 0 0 (canon env [0,1,2,8,9]) st=([(0,J n),(1,X),(2,sl 1 nf (l.map I)),(8,I e),(9,J i)],⟨[],[]⟩)):
  ∃x_1 en s,lim (headed pure (run L) true [0,1,2,8,9] lp37_0 0 0) env st=some (x_1,en,s)∧(x_1=.exit 0∧en.get 1=X∧en.get 2=sl 1 nf (l.map I)∧en.get 8=I (if e=0 then rowAt n l i else e)∧s=⟨[],[]⟩):=by
 refine zd (α:=Nat×Int) (fun ⟨i,e⟩=>l.length-i) (fun ⟨i,e⟩=>i≤l.length) (fun ⟨i,e⟩=>([(0,J n),(1,X),(2,sl 1 nf (l.map I)),(8,I e),(9,J i)],⟨[],[]⟩)) (fun ⟨i,e⟩ x_1 en s=>x_1=.exit 0∧en.get 1=X∧en.get 2=sl 1 nf (l.map I)∧en.get 8=I (if e=0 then rowAt n l i else e)∧s=⟨[],[]⟩) (fun ⟨i,e⟩ hok=> ?_) ⟨i,e⟩ hok env st hg
 simp only at hok
 dsimp only
 have hll:=zj I nf l
 by_cases h:i<l.length
 ·have hlt:((i:Int)<(l.length:Int))=True:=eT (by omega)
  by_cases he:e=0
  ·subst he
   rw [if_pos rfl]
   have hs:=zo i (by omega)
   have hx:indexSAV 1 (sl 1 nf (l.map I)) (.v (.int .i64 (i:Int)))=some (.eptr (I l[i]) 0):=zc nf l i h
   have hst:=z26 n l i h
   have hn1:IntKind.i64.wrap ((n:Int)-1)=(n:Int)-1:=by rw [z2x]<;>omega
   have h98:=fun a st=>c98 a 0 ((n:Int)-1) st
   rw [hst]
   by_cases q1:l[i]<0∨(n:Int)≤l[i]
   ·rw [if_pos q1]
    have h98:=fun st=>h98 l[i] st
    rw [decide_eq_false (by omega)] at h98
    simp only [go_sem,lp37_0,hll,hlt,hs,hx,hn1,h98]
    refine ⟨(i+1,2),by simp only [go_sem,z0,z3,z4,hX1,hX2]<;>rfl,?_,?_,fun x en s hq=> ?_⟩
    ·dsimp only;omega
    ·dsimp only;omega
    ·dsimp only at hq;rw [if_neg (by decide)] at hq;exact hq
   ·rw [if_neg q1]
    have h98:=fun st=>h98 l[i] st
    rw [decide_eq_true (by omega)] at h98
    by_cases h0:0<i
    ·have q3:((0:Int)<(i:Int))=True:=eT (by omega)
     have hm:IntKind.i64.wrap ((i:Int)-1)=((i-1:Nat):Int):=by
      rw [←w64 (i-1) (by omega)];congr 1;omega
     have hx2:indexSAV 1 (sl 1 nf (l.map I)) (.v (.int .i64 ((i-1:Nat):Int)))=some (.eptr (I (l[i-1]'(by omega))) 0):=zc nf l (i-1) (by omega)
     rw [if_neg (show ¬i=0 by omega),List.getElem?_eq_getElem (show i-1<l.length by omega)]
     generalize l[i-1]'(by omega)=b at*
     generalize l[i]=a at*
     have hpb:prevB (some b) a=decide (a≤b):=rfl
     rw [hpb]
     by_cases q4:a≤b
     ·rw [if_pos (by simpa using q4)]
      simp only [go_sem,lp37_0,hll,hlt,hs,hx,hn1,h98,q3,hm,hx2,q4]
      refine ⟨(i+1,7),by simp only [go_sem,z0,z3,z4,hX1,hX2]<;>rfl,?_,?_,fun x en s hq=> ?_⟩
      ·dsimp only;omega
      ·dsimp only;omega
      ·dsimp only at hq;rw [if_neg (by decide)] at hq;exact hq
     ·rw [if_neg (by simpa using q4)]
      simp only [go_sem,lp37_0,hll,hlt,hs,hx,hn1,h98,q3,hm,hx2,q4]
      refine ⟨(i+1,0),by simp only [go_sem,z0,z3,z4,hX1,hX2]<;>rfl,?_,?_,fun x en s hq=> ?_⟩
      ·dsimp only;omega
      ·dsimp only;omega
      ·dsimp only at hq;rw [if_pos rfl] at hq;exact hq
    ·have q3:((0:Int)<(i:Int))=False:=eF (by omega)
     rw [if_pos (show i=0 by omega)]
     generalize l[i]=a at*
     have hpb:prevB none a=false:=rfl
     rw [hpb,if_neg (by simp)]
     simp only [go_sem,lp37_0,hll,hlt,hs,hx,hn1,h98,q3]
     refine ⟨(i+1,0),by simp only [go_sem,z0,z3,z4,hX1,hX2]<;>rfl,?_,?_,fun x en s hq=> ?_⟩
     ·dsimp only;omega
     ·dsimp only;omega
     ·dsimp only at hq;rw [if_pos rfl] at hq;exact hq
  ·rw [if_neg he]
   simp only [go_sem,lp37_0,hll,hlt,he]
 ·have hlt:((i:Int)<(l.length:Int))=False:=eF (by omega)
  have e2:(if e=0 then rowAt n l i else e)=e:=by
   rw [z33 n l i h];split
   ·rename_i h;exact h.symm
   ·rfl
  rw [e2]
  simp only [go_sem,lp37_0,hll,hlt]
def fAt (four k:Nat):Nat:=((memb four).getD k 0).toNat
def wC (four v k:Nat):Bool:=v.testBit (fAt four k)==v.testBit (fAt four 0)
def wF (four v:Nat):Nat→Nat→Nat→Nat×Nat
 |0,w,m=>(w,m)
 |j+1,w,m=>if wC four v (3-j)=true then wF four v j (3-j) (m+1) else wF four v j w m
def wR (four v:Nat):Option Nat:=if (wF four v 3 0 0).2=1 then some (wF four v 3 0 0).1 else none
theorem wR_all:((List.range 256).all fun four=>decide ((memb four).length≠4)||(List.range 256).all fun p=>decide (p&&&four≠p)||decide (wR four p=qN four p))=true:=by kernel_rfl
theorem zjj {four v p:Nat} (h: ∀k,k<4→wC four v k=wC four p k):wF four v 3 0 0=wF four p 3 0 0:=by
 simp only [wF,h 1 (by omega),h 2 (by omega),h 3 (by omega),show 3-2=1 from rfl,show 3-1=2 from rfl,show 3-0=3 from rfl]
theorem f_bit {four k:Nat} (hf:four<256)(hk:k<(memb four).length):four.testBit (fAt four k)=true:=by
 have hm:(memb four)[k]∈memb four:=List.getElem_mem hk
 obtain ⟨i,e,hi⟩:=(z1k (by omega) _).1 hm
 unfold fAt
 rw [List.getD_eq_getElem?_getD,List.getElem?_eq_getElem hk]
 show four.testBit ((memb four)[k]).toNat=true
 rw [e];exact hi
theorem wR_eq {n four v:Nat} (hn:n≤8)(hf:four<2^n)(h4:(memb four).length=4)(hv:v<2^n):wR four v=qN four (smlN n v):=by
 have h2n:2^n≤256:=Nat.pow_le_pow_right (n:=2) (by decide) hn
 have hbit: ∀k,k<4→four.testBit (fAt four k)=true:=fun k hk=>f_bit (by omega) (by omega)
 have hlt: ∀k,k<4→fAt four k<n:=by
  intro k hk
  apply Nat.lt_of_not_le;intro h9
  have:=hbit k hk
  rw [zee hf _ h9] at this;cases this
 have hs:(smlN n v&&&four)&&&four=smlN n v&&&four:=by rw [Nat.and_assoc,Nat.and_self]
 have hp:smlN n v&&&four<256:=Nat.lt_of_le_of_lt Nat.and_le_right (by omega)
 have hc: ∀k,k<4→wC four v k=wC four (smlN n v&&&four) k:=by
  intro k hk
  unfold wC
  rw [Nat.testBit_and,Nat.testBit_and,hbit k hk,hbit 0 (by omega),Bool.and_true,Bool.and_true]
  unfold smlN
  split
  ·rw [z2w hv,z2w hv,decide_eq_true (hlt k hk),decide_eq_true (hlt 0 (by omega)),Bool.true_and,Bool.true_and]
   cases v.testBit (fAt four k)<;>cases v.testBit (fAt four 0)<;>rfl
  ·rfl
 have h1:wR four v=wR four (smlN n v&&&four):=by
  unfold wR;rw [zjj hc]
 have h:=List.all_eq_true.1 wR_all four (List.mem_range.2 (by omega))
 rw [decide_eq_false (by simp [h4]),Bool.false_or] at h
 have h:=List.all_eq_true.1 h _ (List.mem_range.2 hp)
 rw [decide_eq_false (by simp [hs]),Bool.false_or,decide_eq_true_eq] at h
 rw [h1,h]
 unfold qN
 rw [hs]
theorem f_idx {four k:Nat} (h4:(memb four).length=4)(hf:four<256)(hk:k<4):indexSAV 1 (tM four) (.v (.int .i64 (k:Int)))=some (.eptr (J (fAt four k)) 0):=by
 have h:=zc true (memb four) k (by omega)
 have hm:(memb four)[k]'(by omega)∈memb four:=List.getElem_mem _
 obtain ⟨i,e,hi⟩:=(z1k (by omega) _).1 hm
 have e2:(memb four)[k]'(by omega)=((fAt four k:Nat):Int):=by
  unfold fAt
  rw [List.getD_eq_getElem?_getD,List.getElem?_eq_getElem (by omega)]
  show _=((((memb four)[k]).toNat:Nat):Int)
  rw [e];rfl
 rw [e2] at h
 exact h
theorem zko (n:Nat)(hn:n≤8)(nl:Bool)(X:List Nat)(hl:X.length≤13)(four:Nat)(hf:four<256)(h4:(memb four).length=4)(i:Nat)(hi:i<X.length)(v:Nat)(hv:X[i]=v)(hv8:v<512)(found:Nat)(j:Nat)(w:Nat)(m:Nat)(hok:j≤3∧m≤3-j)(env:Env)(st:St)
  (hg:gcAV true 0 0 (canon env [1,2,10,11,12,13,14]) st=([(1,sl 1 nl (X.map tM)),(2,tM four),(10,J found),(11,J i),(12,J w),(13,J m),(14,J (4-j:Nat))],⟨[],[]⟩)):
  ∃x_1 en s,lim (headed pure (run L) true [1,2,10,11,12,13,14] lp37_1 0 0) env st=some (x_1,en,s)∧(x_1=.exit 4∧en.get 1=sl 1 nl (X.map tM)∧en.get 2=tM four∧en.get 10=J found∧en.get 11=J i∧en.get 12=J (wF four v j w m).1∧en.get 13=J (wF four v j w m).2∧s=⟨[],[]⟩):=by
 refine zd (α:=Nat×Nat×Nat) (fun ⟨j,w,m⟩=>j) (fun ⟨j,w,m⟩=>j≤3∧m≤3-j) (fun ⟨j,w,m⟩=>([(1,sl 1 nl (X.map tM)),(2,tM four),(10,J found),(11,J i),(12,J w),(13,J m),(14,J (4-j:Nat))],⟨[],[]⟩)) (fun ⟨j,w,m⟩ x_1 en s=>x_1=.exit 4∧en.get 1=sl 1 nl (X.map tM)∧en.get 2=tM four∧en.get 10=J found∧en.get 11=J i∧en.get 12=J (wF four v j w m).1∧en.get 13=J (wF four v j w m).2∧s=⟨[],[]⟩) (fun ⟨j,w,m⟩ hok=> ?_) ⟨j,w,m⟩ hok env st hg
 simp only at hok
 obtain ⟨h1,h2⟩:=hok
 dsimp only at h1 h2⊢
 cases j with
 |zero=>
  have hlt:(((4-0:Nat):Int)<4)=False:=eF (by omega)
  simp only [go_sem,lp37_1,hlt]
  exact ⟨rfl,rfl⟩
 |succ j=>
  have e0:4-(j+1)=3-j:=by omega
  rw [e0]
  have hs:IntKind.i64.wrap (((3-j:Nat):Int)+1)=((4-j:Nat):Int):=by rw [z2x]<;>omega
  have hsm:=zo m (by omega)
  have hlt:(((3-j:Nat):Int)<4)=True:=eT (by omega)
  have hx:=z0h tM nl X i hi
  rw [hv] at hx
  have hfk:=f_idx (k:=3-j) h4 hf (by omega)
  have hf0:indexSAV 1 (tM four) (.v (.int .i64 0))=some (.eptr (J (fAt four 0)) 0):=f_idx (k:=0) h4 hf (by omega)
  have ha:=fun st=>zlj v (fAt four (3-j)) hv8 st
  have hb:=fun st=>zlj v (fAt four 0) hv8 st
  have hwc:wC four v (3-j)=(v.testBit (fAt four (3-j))==v.testBit (fAt four 0)):=rfl
  have hwf:wF four v (j+1) w m=if wC four v (3-j)=true then wF four v j (3-j) (m+1) else wF four v j w m:=rfl
  rw [hwf,hwc]
  cases e1:v.testBit (fAt four (3-j))<;>cases e2:v.testBit (fAt four 0)<;>rw [e1] at ha<;>rw [e2] at hb
  ·rw [if_pos (by decide)]
   simp only [go_sem,lp37_1,hlt,hs,hsm,hx,hfk,hf0,ha,hb]
   refine ⟨(j,3-j,m+1),by simp only [go_sem,z0,z3,z4,z2i,z0j]<;>rfl,?_,?_,fun x en s hq=> ?_⟩
   ·dsimp only;omega
   ·dsimp only;omega
   ·exact hq
  ·rw [if_neg (by decide)]
   simp only [go_sem,lp37_1,hlt,hs,hsm,hx,hfk,hf0,ha,hb]
   refine ⟨(j,w,m),by simp only [go_sem,z0,z3,z4,z2i,z0j]<;>rfl,?_,?_,fun x en s hq=> ?_⟩
   ·dsimp only;omega
   ·dsimp only;omega
   ·exact hq
  ·rw [if_neg (by decide)]
   simp only [go_sem,lp37_1,hlt,hs,hsm,hx,hfk,hf0,ha,hb]
   refine ⟨(j,w,m),by simp only [go_sem,z0,z3,z4,z2i,z0j]<;>rfl,?_,?_,fun x en s hq=> ?_⟩
   ·dsimp only;omega
   ·dsimp only;omega
   ·exact hq
  ·rw [if_pos (by decide)]
   simp only [go_sem,lp37_1,hlt,hs,hsm,hx,hfk,hf0,ha,hb]
   refine ⟨(j,3-j,m+1),by simp only [go_sem,z0,z3,z4,z2i,z0j]<;>rfl,?_,?_,fun x en s hq=> ?_⟩
   ·dsimp only;omega
   ·dsimp only;omega
   ·exact hq
theorem zkn (n:Nat)(hn:n≤8)(nl:Bool)(X:List Nat)(hX: ∀v∈X,v<2^n)(hl:X.length≤13)(four:Nat)(hf:four<2^n)(h4:(memb four).length=4)(i:Nat)(found:Nat)(hok:i≤X.length)(env:Env)(st:St)
  (hg:gcAV true 0 0 (canon env [1,2,10,11]) st=([(1,sl 1 nl (X.map tM)),(2,tM four),(10,J found),(11,J i)],⟨[],[]⟩)):
  ∃x_1 en s,lim (headed pure (run L) true [1,2,10,11] lp37_2 0 0) env st=some (x_1,en,s)∧((runF four ((X.map (smlN n)).drop i) found=none∧x_1=.ret∧en.get 6=I 0∧en.get 7=I 12)∨(∃k,runF four ((X.map (smlN n)).drop i) found=some k∧x_1=.exit 2∧en.get 10=J k)):=by
 refine zd (α:=Nat×Nat) (fun ⟨i,found⟩=>X.length-i) (fun ⟨i,found⟩=>i≤X.length) (fun ⟨i,found⟩=>([(1,sl 1 nl (X.map tM)),(2,tM four),(10,J found),(11,J i)],⟨[],[]⟩)) (fun ⟨i,found⟩ x_1 en s=>(runF four ((X.map (smlN n)).drop i) found=none∧x_1=.ret∧en.get 6=I 0∧en.get 7=I 12)∨(∃k,runF four ((X.map (smlN n)).drop i) found=some k∧x_1=.exit 2∧en.get 10=J k)) (fun ⟨i,found⟩ hok=> ?_) ⟨i,found⟩ hok env st hg
 simp only at hok
 dsimp only
 have hll:=zj tM nl X
 by_cases h:i<X.length
 ·have h2n:2^n≤256:=Nat.pow_le_pow_right (n:=2) (by decide) hn
  have hs:=zo i (by omega)
  have hlt:((i:Int)<(X.length:Int))=True:=eT (by omega)
  have hv:=hX X[i] (List.getElem_mem h)
  have hd:(X.map (smlN n)).drop i=smlN n X[i]::(X.map (smlN n)).drop (i+1):=by
   rw [List.drop_eq_getElem_cons (by rw [lm_];exact h),List.getElem_map]
  have hrf: ∀s r,runF four (s::r) found=match qN four s with|none=>runF four r found|some k=>if found≠0∧found≠k then none else runF four r k:=fun _ _=>rfl
  have hwe:=wR_eq hn hf h4 hv
  rw [hd,hrf,←hwe]
  simp only [go_sem,lp37_2,hll,hlt]
  generalize hg:lim (headed pure (run L) true _ lp37_1 _ _) _ _=o
  obtain ⟨x,en,s,rfl,h2⟩: ∃x en s,o=some (x,en,s)∧_:=by rw [←hg];exact zko n hn nl X hl four (by omega) h4 i h X[i] rfl (by omega) found 3 0 0 ⟨by omega,by omega⟩ _ _ (by simp only [go_sem,z2i,z0j,Int.natCast_zero,show ((4-3:Nat):Int)=1 from rfl]<;>rfl)
  clear hg
  obtain ⟨rfl,e1,e2,e10,e11,e12,e13,rfl⟩:=h2
  have hwr:wR four X[i]=if (wF four X[i] 3 0 0).2=1 then some (wF four X[i] 3 0 0).1 else none:=rfl
  rw [hwr]
  generalize wF four X[i] 3 0 0=r at*
  obtain ⟨w,m⟩:=r
  dsimp only at e12 e13⊢
  by_cases p:m=1
  ·have p2:((m:Int)=1)=True:=eT (by omega)
   rw [if_pos p]
   dsimp only
   by_cases f0:found=0
   ·have f1:((found:Int)=0)=True:=eT (by omega)
    rw [if_neg (by omega)]
    simp only [go_sem,lp37_2,e1,e2,e10,e11,e12,e13,p2,f1,hs]
    refine ⟨(i+1,w),by simp only [go_sem,z0,z3,z4,e1,e2,e11,z2i,z0j]<;>rfl,?_,?_,fun x en s hq=> ?_⟩
    ·dsimp only;omega
    ·dsimp only;omega
    ·exact hq
   ·have f1:((found:Int)=0)=False:=eF (by omega)
    by_cases f2:found=w
    ·have f3:((found:Int)=(w:Int))=True:=eT (by omega)
     rw [if_neg (by omega)]
     simp only [go_sem,lp37_2,e1,e2,e10,e11,e12,e13,p2,f1,f3,hs]
     refine ⟨(i+1,w),by simp only [go_sem,z0,z3,z4,e1,e2,e11,z2i,z0j]<;>rfl,?_,?_,fun x en s hq=> ?_⟩
     ·dsimp only;omega
     ·dsimp only;omega
     ·exact hq
    ·have f3:((found:Int)=(w:Int))=False:=eF (by omega)
     rw [if_pos ⟨f0,f2⟩]
     simp only [go_sem,lp37_2,e1,e2,e10,e11,e12,e13,p2,f1,f3]
  ·have p2:((m:Int)=1)=False:=eF (by omega)
   rw [if_neg p]
   dsimp only
   simp only [go_sem,lp37_2,e1,e2,e10,e11,e12,e13,p2,hs]
   refine ⟨(i+1,found),by simp only [go_sem,z0,z3,z4,e1,e2,e10,e11,z2i,z0j]<;>rfl,?_,?_,fun x en s hq=> ?_⟩
   ·dsimp only;omega
   ·dsimp only;omega
   ·exact hq
 ·have hlt:((i:Int)<(X.length:Int))=False:=eF (by omega)
  have e:(X.map (smlN n)).drop i=[]:=List.drop_eq_nil_of_le (by rw [lm_];omega)
  rw [e,show runF four [] found=some found from rfl]
  simp only [go_sem,lp37_2,hll,hlt]
  exact ⟨found,rfl,rfl⟩
theorem zie (n:Int)(X:AV)(l:List Int)(nf:Bool)(e:Int)(he:e≠0)(i:Nat)(hok:True)(env:Env)(st:St)
  (hg:gcAV true 0 0 (canon env [0,1,2,8,9]) st=([(0,I n),(1,X),(2,sl 1 nf (l.map I)),(8,I e),(9,J i)],⟨[],[]⟩)):
  ∃x_1 en s,lim (headed pure (run L) true [0,1,2,8,9] lp37_0 0 0) env st=some (x_1,en,s)∧(x_1=.exit 0∧en.get 8=I e):=by
 refine zd (α:=Nat) (fun i=>i) (fun i=>True) (fun i=>([(0,I n),(1,X),(2,sl 1 nf (l.map I)),(8,I e),(9,J i)],⟨[],[]⟩)) (fun i x_1 en s=>x_1=.exit 0∧en.get 8=I e) (fun i hok=> ?_) i hok env st hg
 have hll:=zj I nf l
 by_cases h:i<l.length
 ·have hlt:((i:Int)<(l.length:Int))=True:=eT (by omega)
  simp only [go_sem,lp37_0,hll,hlt,he]
 ·have hlt:((i:Int)<(l.length:Int))=False:=eF (by omega)
  simp only [go_sem,lp37_0,hll,hlt]
theorem c37 (n:Int)(nl:Bool)(G:List GS)(hG: ∀p∈G,p.2.length<1000)(hGl:G.length<1000)(nf:Bool)(f:List Int)(hf:f.length<1000)(st:St):
  run L 37 [I n,sl 1 nl (G.map gM),sl 1 nf (f.map I)] st=some (fourA n G f,st):=by
 rw [run_pure (fn:=ir37) rfl rfl]
 have h48:=fun st=>c48 n nl G hG hGl st
 have hlf:=zj I nf f
 unfold fourA
 by_cases he:(openG n G).1=0
 ·obtain ⟨m,X,rfl,h2,hm,hl,hXl,e1,e2,hX,e4,hnd⟩:=z9d he
  rw [he] at h48
  rw [he,if_neg (by simp),e4]
  rw [e1] at h48⊢
  have hX1:=fun n=>z0f 1 nl (X.map tM) n
  have hX2:=fun n T acc=>z0y 1 nl (X.map tM) n T acc
  by_cases h4:f.length=4
  ·have q:((f.length:Int)=4)=True:=eT (by omega)
   rw [if_neg (by simpa using h4),Int.toNat_natCast]
   simp only [ir37,go_sem,h48,hlf,q]
   generalize hg:lim (headed pure (run L) true _ lp37_0 _ _) _ _=o
   obtain ⟨x,en,s,rfl,h2⟩: ∃x en s,o=some (x,en,s)∧_:=by rw [←hg];exact zfi m (by omega) hm (sl 1 nl (X.map tM)) hX1 hX2 f hf nf 0 0 (by omega) _ _ (by simp only [go_sem,Int.natCast_zero]<;>rfl)
   clear hg
   rw [if_pos rfl] at h2
   obtain ⟨rfl,g1,g2,g8,rfl⟩:=h2
   by_cases hr:rowAt m f 0=0
   ·rw [if_neg (by simpa using hr)]
    rw [hr] at g8
    rw [zf3] at hr
    have hne:f≠[]:=by rintro rfl;simp at h4
    have hmm:=z53 hm hr
    have hml:=z8e (z8x f none hr).1
    rw [sl_tM hne] at g2
    have htm:tAV f=tM (maskL f):=by unfold tM;rw [hmm]
    rw [htm] at g2
    simp only [go_sem,g1,g2,g8]
    generalize hg:lim (headed pure (run L) true _ lp37_2 _ _) _ _=o
    obtain ⟨x,en,s,rfl,h2⟩: ∃x en s,o=some (x,en,s)∧_:=by rw [←hg];exact zkn m hm nl X (fun v hv=>(hX v hv).1) (by omega) (maskL f) hml (by rw [hmm];exact h4) 0 0 (by omega) _ _ (by simp only [go_sem,g1,g2,z2i,z0j,Int.natCast_zero]<;>rfl)
    clear hg
    rw [List.drop_zero] at h2
    rcases h2 with ⟨h2,rfl,e6,e7⟩ | ⟨k,h2,rfl,e10⟩
    ·rw [h2]
     simp only [go_sem,e6,e7]
     rfl
    ·rw [h2]
     simp only [go_sem,e10]
     rfl
   ·rw [if_pos hr]
    simp only [go_sem,g1,g2,g8,hr]
  ·have q:((f.length:Int)=4)=False:=eF (by omega)
   rw [if_pos h4]
   simp only [ir37,go_sem,h48,hlf,q]
   generalize hg:lim (headed pure (run L) true _ lp37_0 _ _) _ _=o
   obtain ⟨x,en,s,rfl,h2⟩: ∃x en s,o=some (x,en,s)∧_:=by rw [←hg];exact zfi m (by omega) hm (sl 1 nl (X.map tM)) hX1 hX2 f hf nf 0 5 (by omega) _ _ (by simp only [go_sem,Int.natCast_zero]<;>rfl)
   clear hg
   rw [if_neg (by decide)] at h2
   obtain ⟨rfl,g1,g2,g8,rfl⟩:=h2
   simp only [go_sem,g8]
 ·rw [if_pos he]
  have hX2:=fun n T acc=>z0y 1 nl (G.map gM) n T acc
  simp only [ir37,go_sem,h48,he]
  generalize hg:lim (headed pure (run L) true _ lp37_0 _ _) _ _=o
  obtain ⟨x,en,s,rfl,h2⟩: ∃x en s,o=some (x,en,s)∧_:=by rw [←hg];exact zie n (sl 1 nl (G.map gM)) f nf (openG n G).1 he 0 trivial _ _ (by simp only [go_sem,Int.natCast_zero]<;>rfl)
  clear hg
  obtain ⟨rfl,e8⟩:=h2
  simp only [go_sem,e8,he]
attribute [local go_sem] m_ x_ l_ k_ o_ t_ a_ s_ q_ b_ c_ u_ g_ zi z9 zf zn z03 z04 ze zk zm z8 zh z06 z0x z1v z1u z01 z1t z7e
def partA (n:Int) (G:List GS) (a b:Int):AV:=if (openG n G).1≠0 then .tup [I 0,I (openG n G).1] else if min a b<0∨n≤max a b then .tup [I 0,I 2] else .tup [J ((openG n G).2.countP (xorN a.toNat b.toNat)),I 0]
theorem c32G (n:Int)(nl:Bool)(G:List GS)(hG: ∀p∈G,p.2.length<1000)(hGl:G.length<1000)(a b:Int)(st:St):
  run L 32 [I n,sl 1 nl (G.map gM),I a,I b] st=some (partA n G a b,st):=by
 unfold partA
 by_cases he:(openG n G).1=0
 ·obtain ⟨m,X,rfl,h2,hm,hl,hXl,e1,e2,hX,e4,hnd⟩:=z9d he
  rw [he,if_neg (by simp),e1,e4]
  by_cases hab:min a b<0∨(m:Int)≤max a b
  ·rw [if_pos hab]
   exact c32x m h2 hm nl X hX hnd (by omega) a b hab st
  ·rw [if_neg hab]
   obtain ⟨x,rfl⟩:=Int.eq_ofNat_of_zero_le (show 0≤a by omega)
   obtain ⟨y,rfl⟩:=Int.eq_ofNat_of_zero_le (show 0≤b by omega)
   exact c32 m h2 hm nl X hX hnd (by omega) x y (by omega) (by omega) st
 ·rw [if_pos he]
  exact c32e hG hGl he a b st
theorem zle (n:Int)(us ws:List Int)(a b:Int): ∃x e,farA n us ws a b=.tup [I x,I e]:=by
 unfold farA
 split
 ·exact ⟨_,_,rfl⟩
 ·split
  ·exact ⟨_,_,rfl⟩
  ·exact ⟨_,_,rfl⟩
theorem zhw (n:Int)(G:List GS)(a b:Int): ∃x e,partA n G a b=.tup [I x,I e]:=by
 unfold partA
 split
 ·exact ⟨_,_,rfl⟩
 ·split
  ·exact ⟨_,_,rfl⟩
  ·exact ⟨_,_,rfl⟩
theorem zj1 (n:Int)(G:List GS)(f:List Int): ∃x e,fourA n G f=.tup [I x,I e]:=by
 unfold fourA
 split
 ·exact ⟨_,_,rfl⟩
 ·split
  ·exact ⟨_,_,rfl⟩
  ·split
   ·exact ⟨_,_,rfl⟩
   ·cases runF (maskL f) (openG n G).2 0 with
    |none=>exact ⟨_,_,rfl⟩
    |some k=>exact ⟨_,_,rfl⟩
theorem c5 (n:Int)(nl:Bool)(G:List GS)(nu nw:Bool)(us ws:List Int)(x y:Int)(nf:Bool)(f:List Int):
  run L 5 [I n,sl 1 nl (G.map gM),.agg [sl 1 nu (us.map I),sl 1 nw (ws.map I)],I x,I y,sl 1 nf (f.map I)] ⟨[],[]⟩=some (B true,⟨[],[]⟩):=by
 rw [run_pure (fn:=ir5) rfl rfl]
 have h14:=fun st=>c14 nl G st
 have hlu:=zj I nu us
 have hlw:=zj I nw ws
 have hlf:=zj I nf f
 cases hlg:lgG G with
 |true=>
  rw [hlg] at h14
  simp only [ir5,go_sem,h14,c15]
 |false=>
  rw [hlg] at h14
  by_cases q1:40<us.length
  ·have q1:((40:Int)<(us.length:Int))=True:=eT (by omega)
   simp only [ir5,go_sem,h14,hlu,q1,c15]
  have p1:((40:Int)<(us.length:Int))=False:=eF (by omega)
  by_cases q2:40<ws.length
  ·have q2:((40:Int)<(ws.length:Int))=True:=eT (by omega)
   simp only [ir5,go_sem,h14,hlu,hlw,p1,q2,c15]
  have p2:((40:Int)<(ws.length:Int))=False:=eF (by omega)
  by_cases q3:40<f.length
  ·have q3:((40:Int)<(f.length:Int))=True:=eT (by omega)
   simp only [ir5,go_sem,h14,hlu,hlw,hlf,p1,p2,q3,c15]
  have p3:((40:Int)<(f.length:Int))=False:=eF (by omega)
  obtain ⟨hGl,hGa⟩:=lg_ok hlg
  have hG: ∀p∈G,p.2.length<1000:=fun p hp=>by have:=hGa p hp;omega
  have hGl2:G.length<1000:=by omega
  have h32:=fun st=>c32G n nl G hG hGl2 x y st
  have h33: ∀st,run L 33 [I n,sl 1 nl (G.map gM),I x,I y] st=some (partA n G x y,st):=fun st=>c33 n nl G hG hGl2 x y st
  have h34:=fun st=>c34V n nu nw us ws (by omega) (by omega) x y st
  have h35:=fun st=>c35 n nu nw us ws (by omega) (by omega) x y st
  have h36:=fun st=>c36G n nl G hG hGl2 nf f (by omega) st
  have h37:=fun st=>c37 n nl G hG hGl2 nf f (by omega) st
  obtain ⟨a1,b1,r1⟩:=zhw n G x y
  obtain ⟨a2,b2,r2⟩:=zle n us ws x y
  obtain ⟨a3,b3,r3⟩:=zj1 n G f
  rw [r1] at h32 h33
  rw [r2] at h34 h35
  rw [r3] at h36 h37
  clear r1 r2 r3
  simp only [ir5,go_sem,h14,hlu,hlw,hlf,p1,p2,p3,h32,h33,h34,h35,h36,h37,c15]
end Go.Proofs.YtdnmhlfjafjkbaaGreatDoor.Vm
