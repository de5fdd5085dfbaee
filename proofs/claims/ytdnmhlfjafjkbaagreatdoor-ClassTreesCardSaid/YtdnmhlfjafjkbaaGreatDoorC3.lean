/- What is proved: what each function of this program computes, as equations on the evaluator. No condition. -/
import Derived.Test.YtdnmhlfjafjkbaaGreatDoorC2
import Derived.Test.YtdnmhlfjafjkbaaGreatDoorT0
set_option linter.all false
namespace Go.Proofs.YtdnmhlfjafjkbaaGreatDoor.Vm
open Go Go.Ev
set_option maxRecDepth 100000
set_option maxHeartbeats 4000000
attribute [local go_sem] m_ x_ l_ k_ o_ t_ a_ s_ q_ b_ c_ u_ g_ z49 z0s z5g z23 z44 z0n z5c z1b z2e z0b z3a z22 z43 z0m z5b z26 z47 z0q z5e z1c z2f z0c z3b z1a z2d z0a z37 z25 z46 z0p z34 z61 z19 z7p z27 z48 z0r z5f z28 z1u z0t z5h z21 z42 z0l z5a z24 z45 z0o z5d z39 z29 z38 z7x z7v z7w z5l z3g z3k z3j z3i z3v z3w z4j z5n z83 z0z z4b z36 z1f z3e z3y z40 z5y z5z z5x z41 z2c z1d z57 z35 z2b z1g z0e z2g z1h z3d z7s z5i z1y z17 z20 pubs pub z4h params z2m z07 z1i z2p z3l z3x z7y untips untip z56 wantedAV setElems withO z7z z3r z3o z3n z5p z3q z3m z5o z3p List.replicate_succ List.replicate_zero opAV valAV aval avals ofVal Env.get setD canon gcAV renAll renEnv renStore renCells z1m cutSt okEnv okStore okRefs okRef z0k z87 z64 z86 z84 z85 z88 cellsEq cellEq isShift intOp boolOp z7t z7u z89 bne resAV tupAV z5m zbr z6x fins zg9 z6w z82 z81 zbs storeAV readCells putCells z60 z33 z18 fieldAddrAV za6 goI List.getElem?_cons_zero List.getElem?_cons_succ List.getElem?_nil Option.bind_some Option.map_some List.length_cons List.length_nil List.all_cons List.all_nil Bool.and_true Bool.true_and Bool.and_false Bool.false_and and_true true_and and_false false_and Bool.false_eq_true List.set_cons_zero List.set_cons_succ List.append_nil List.nil_append List.cons_append List.take_zero List.take_succ_cons List.take_nil List.drop_zero List.drop_succ_cons List.map_cons List.map_nil decide_true decide_false beq_self_eq_true Bool.not_true Bool.not_false or_true true_or or_false false_or Nat.zero_add Nat.add_zero Nat.le_refl Nat.lt_irrefl decide_eq_true_eq eq_self_iff_true not_true_eq_false not_false_eq_true List.getD_cons_zero z3z Nat.zero_le Nat.not_lt_zero Bool.true_beq Bool.false_beq beq_true beq_false ge_iff_le gt_iff_lt keepR keepT ownTop zgf pus Option.map_none z2i z2h z5s z3s z5r Int.cast_ofNat_Int Nat.mul_one Nat.zero_mul Int.toNat_natCast Int.toNat_zero setParts withO2 hasKey z5v z5j z3u z3f z1e z0w zy z2n setm z4v z6z z69 zbe zc3 zex z8g z6g z55 z4c z8v z6p z6f z4q z72 z54 z8l z6h z4x z3h z8x z6q z9g z50 z51 z6u z31 z8c z6e z6d z8d Option.bind_none Bool.not_eq_true' decide_eq_false_iff_not Bool.and_eq_true Bool.or_eq_true Option.some.injEq Int.not_lt Int.not_le
attribute [local go_sem_proc] reduceIte Nat.reduceEqDiff Nat.reduceAdd Nat.reduceSub Nat.reduceLeDiff Nat.reduceLT reduceCtorEq Int.reduceLT Int.reduceLE Int.reduceEq Int.reduceBEq Int.reduceSub Int.reduceAdd Int.reduceMul Int.reduceNeg Int.reduceToNat Nat.reduceMul Nat.reduceBEq
attribute [local go_sem] m_ x_ l_ k_ o_ t_ a_ s_ q_ b_ c_ u_ g_ zl za zg zm z0g z0f ze zi zj z6 zh z0h
theorem c98 (a lo hi:Int)(st:St):run L 98 [I a,I lo,I hi] st=some (B (decide (lo≤a∧a≤hi)),st):=by
 rw [run_pure (fn:=ir98) rfl rfl]
 by_cases h1:lo≤a
 ·by_cases h2:a≤hi<;>simp only [ir98,go_sem,h1,h2]
 ·simp only [ir98,go_sem,h1]
theorem zp1 (nl:Bool)(l:List Int)(hlen:l.length<1000000)(a:Int)(i:Nat)(hok:i≤l.length)(env:Env)(st:St)
  (hg:gcAV true 0 0 (canon env [0,1,5]) st=([(0,sl 1 nl (l.map I)),(1,I a),(5,J i)],⟨[],[]⟩)):
  ∃x_1 en s,lim (headed pure (run L) true [0,1,5] lp100_0 0 0) env st=some (x_1,en,s)∧(if a∈l.drop i then x_1=.ret∧en.get 4=B true else x_1=.exit 0):=by
 refine z7 (α:=Nat) (fun i=>l.length-i) (fun i=>i≤l.length) (fun i=>([(0,sl 1 nl (l.map I)),(1,I a),(5,J i)],⟨[],[]⟩)) (fun i x_1 en s=>if a∈l.drop i then x_1=.ret∧en.get 4=B true else x_1=.exit 0) (fun i hok=> ?_) i hok env st hg
 by_cases h:i<l.length
 ·have hx:=zk nl l i h
  have hs:=zd i (by omega)
  have hd:l.drop i=l[i]::l.drop (i+1):=List.drop_eq_getElem_cons h
  have hlt:((i:Int)<(l.length:Int))=True:=eT (by omega)
  rw [hd]
  generalize l[i]=b at*
  by_cases p:b=a
  ·simp only [go_sem,lp100_0,hx,hlt,p,lm_]
   rw [if_pos (by simp)];trivial
  ·simp only [go_sem,lp100_0,hx,hlt,p,hs,lm_]
   refine ⟨i+1,by simp only [go_sem,z3,z4,z5]<;>rfl,?_,?_,fun x en s hq=> ?_⟩
   ·omega
   ·omega
   ·simp only [List.mem_cons,show ¬a=b from fun e=>p e.symm,false_or];exact hq
 ·have hd:l.drop i=[]:=List.drop_eq_nil_of_le (by omega)
  have hlt:((i:Int)<(l.length:Int))=False:=eF (by omega)
  simp only [go_sem,lp100_0,hlt,lm_]
  rw [hd];simp
theorem c100 (nl:Bool)(l:List Int)(hlen:l.length<1000000)(a:Int)(st:St):run L 100 [sl 1 nl (l.map I),I a] st=some (B (decide (a∈l)),st):=by
 rw [run_pure (fn:=ir100) rfl rfl]
 simp only [ir100,go_sem]
 generalize hg:lim (headed pure (run L) true _ lp100_0 _ _) _ _=o
 obtain ⟨x,en,s,rfl,h2⟩: ∃x en s,o=some (x,en,s)∧_:=by rw [←hg];exact zp1 nl l hlen a 0 (by omega) _ _ (by simp only [go_sem,Int.natCast_zero]<;>rfl)
 clear hg
 rw [List.drop_zero] at h2
 by_cases h:a∈l
 ·rw [if_pos h] at h2
  obtain ⟨rfl,h3⟩:=h2
  simp only [go_sem,h3,h]
 ·rw [if_neg h] at h2
  subst h2
  simp only [go_sem,h]
def othF (n:Nat) (l:List Int) (i:Nat):List Int:=((List.range' i (n-i)).filter fun (a:Nat)=> !decide ((a:Int)∈l)).map fun (a:Nat)=>(a:Int)
theorem zm3 (n:Nat)(l:List Int)(i:Nat)(h:i<n):othF n l i=if (i:Int)∈l then othF n l (i+1) else (i:Int)::othF n l (i+1):=by
 unfold othF
 rw [show n-i=(n-(i+1))+1 by omega,List.range'_succ,List.filter_cons]
 by_cases p:(i:Int)∈l
 ·rw [if_pos p,if_neg (by simp [p])]
 ·rw [if_neg p,if_pos (by simp [p])];rfl
theorem zok (n:Nat)(l:List Int)(i:Nat)(h: ¬i<n):othF n l i=[]:=by
 unfold othF
 rw [show n-i=0 by omega];rfl
theorem zgy (n:Nat)(l:List Int)(i:Nat):(othF n l i).length≤n-i:=by
 unfold othF
 rw [lm_]
 exact Nat.le_trans (List.length_filter_le _ _) (by simp)
theorem zoy (n:Nat)(hn:n≤8)(nl:Bool)(l:List Int)(hlen:l.length<1000000)(i:Nat)(o:List Int)(hok:i≤n∧o.length≤i)(env:Env)(st:St)
  (hg:gcAV true 0 0 (canon env [0,1,5,6]) st=([(0,J n),(1,sl 1 nl (l.map I)),(5,oA (o.map I)),(6,J i)],⟨[],oT (o.map I)⟩)):
  ∃x_1 en s,lim (headed pure (run L) true [0,1,5,6] lp125_0 0 0) env st=some (x_1,en,s)∧(x_1=.exit 0∧en.get 5=oA ((o++othF n l i).map I)∧s=⟨[],oT ((o++othF n l i).map I)⟩):=by
 refine z7 (α:=Nat×List Int) (fun ⟨i,o⟩=>n-i) (fun ⟨i,o⟩=>i≤n∧o.length≤i) (fun ⟨i,o⟩=>([(0,J n),(1,sl 1 nl (l.map I)),(5,oA (o.map I)),(6,J i)],⟨[],oT (o.map I)⟩)) (fun ⟨i,o⟩ x_1 en s=>x_1=.exit 0∧en.get 5=oA ((o++othF n l i).map I)∧s=⟨[],oT ((o++othF n l i).map I)⟩) (fun ⟨i,o⟩ hok=> ?_) ⟨i,o⟩ hok env st hg
 simp only at hok
 obtain ⟨h1,h2⟩:=hok
 dsimp only at h1 h2⊢
 by_cases h:i<n
 ·have hs:=zd i (by omega)
  have hlt:((i:Int)<(n:Int))=True:=eT (by omega)
  have h100:=fun st=>c100 nl l hlen (i:Int) st
  rw [zm3 n l i h]
  by_cases p:(i:Int)∈l
  ·rw [decide_eq_true p] at h100
   rw [if_pos p]
   simp only [go_sem,lp125_0,hlt,hs,h100]
   refine ⟨(i+1,o),by simp only [go_sem,z3,z4,z5,z8m,z2u]<;>rfl,?_,?_,fun x en s hq=> ?_⟩
   ·dsimp only;omega
   ·dsimp only;omega
   ·exact hq
  ·rw [decide_eq_false p] at h100
   rw [if_neg p]
   have happ:=fun S=>z65 (o.map I) (J i) S (by rw [lm_];omega)
   simp only [go_sem,lp125_0,hlt,hs,h100,happ]
   refine ⟨(i+1,o++ [(i:Int)]),by simp only [go_sem,z3,z4,z5,z8m,z2u,List.map_append]<;>rfl,?_,?_,fun x en s hq=> ?_⟩
   ·dsimp only;rw [List.length_append,List.length_singleton];omega
   ·dsimp only;omega
   ·simp only [List.append_assoc,List.singleton_append] at hq;exact hq
 ·have hlt:((i:Int)<(n:Int))=False:=eF (by omega)
  rw [zok n l i h,List.append_nil]
  simp only [go_sem,lp125_0,hlt]
theorem c125 (n:Nat)(hn:n≤8)(nl:Bool)(l:List Int)(hlen:l.length<1000000)(st:St):run L 125 [J n,sl 1 nl (l.map I)] st=some (tAV (othF n l 0),st):=by
 rw [run_pure (fn:=ir125) rfl rfl]
 simp only [ir125,go_sem]
 generalize hg:lim (headed pure (run L) true _ lp125_0 _ _) _ _=o
 obtain ⟨x,en,s,rfl,h2⟩: ∃x en s,o=some (x,en,s)∧_:=by rw [←hg];exact zoy n hn nl l hlen 0 [] ⟨by omega,by simp⟩ _ _ (by simp only [go_sem,Int.natCast_zero,List.map_nil,zbc,zbd]<;>rfl)
 clear hg
 rw [List.nil_append] at h2
 obtain ⟨rfl,h3,rfl⟩:=h2
 simp only [go_sem,h3]
 rfl
theorem c110 (n:Nat)(hn:n≤8)(nl:Bool)(l:List Int)(hlen:l.length<1000000)(st:St):run L 110 [J n,sl 1 nl (l.map I)] st=some (if (0:Int)∈l then tAV (othF n l 0) else sl 1 nl (l.map I),st):=by
 rw [run_pure (fn:=ir110) rfl rfl]
 have h100:=fun st=>c100 nl l hlen 0 st
 have h125:=fun st=>c125 n hn nl l hlen st
 by_cases p:(0:Int)∈l
 ·rw [decide_eq_true p] at h100
  rw [if_pos p]
  simp only [ir110,go_sem,h100,h125]
  unfold tAV
  simp only [go_sem]
 ·rw [decide_eq_false p] at h100
  rw [if_neg p]
  simp only [ir110,go_sem,h100]
theorem loop87 (n1 n2:Bool)(xs ys:List Int)(hl:xs.length=ys.length)(hlen:xs.length<1000000)(i:Nat)(hok:i≤xs.length)(env:Env)(st:St)
  (hg:gcAV true 0 0 (canon env [0,1,5]) st=([(0,sl 1 n1 (xs.map I)),(1,sl 1 n2 (ys.map I)),(5,I i)],⟨[],[]⟩)):
  ∃x_1 en s,lim (headed pure (run L) true [0,1,5] lp87_0 0 0) env st=some (x_1,en,s)∧(if xs.drop i=ys.drop i then x_1=.exit 0 else x_1=.ret∧en.get 4=B false):=by
 refine z7 (α:=Nat) (fun i=>xs.length-i) (fun i=>i≤xs.length) (fun i=>([(0,sl 1 n1 (xs.map I)),(1,sl 1 n2 (ys.map I)),(5,I i)],⟨[],[]⟩)) (fun i x_1 en s=>if xs.drop i=ys.drop i then x_1=.exit 0 else x_1=.ret∧en.get 4=B false) (fun i hok=> ?_) i hok env st hg
 by_cases h:i<xs.length
 ·have hx:=zk n1 xs i h
  have hy:=zk n2 ys i (by omega)
  have hs:=zd i (by omega)
  have hd:xs.drop i=xs[i]::xs.drop (i+1):=List.drop_eq_getElem_cons h
  have hd2:ys.drop i=ys[i]::ys.drop (i+1):=List.drop_eq_getElem_cons (by omega)
  have hlt:((i:Int)<(xs.length:Int))=True:=eT (by omega)
  rw [hd,hd2]
  generalize xs[i]=a at*
  generalize ys[i]'(by omega)=b at*
  by_cases p:a=b
  ·simp only [go_sem,lp87_0,hx,hy,hlt,p,hs,lm_]
   refine ⟨i+1,by simp only [go_sem,z3,z4,z5]<;>rfl,?_,?_,fun x en s hq=> ?_⟩
   ·omega
   ·omega
   ·simp only [List.cons.injEq,p,true_and];exact hq
  ·simp only [go_sem,lp87_0,hx,hy,hlt,p,lm_]
   rw [if_neg (by simp [p])];trivial
 ·have hd:xs.drop i=[]:=List.drop_eq_nil_of_le (by omega)
  have hd2:ys.drop i=[]:=List.drop_eq_nil_of_le (by omega)
  have hlt:((i:Int)<(xs.length:Int))=False:=eF (by omega)
  simp only [go_sem,lp87_0,hlt,lm_]
  rw [hd,hd2];simp
theorem c87 (n1 n2:Bool)(xs ys:List Int)(hlen:xs.length<1000000)(st:St):run L 87 [sl 1 n1 (xs.map I),sl 1 n2 (ys.map I)] st=some (B (decide (xs=ys)),st):=by
 rw [run_pure (fn:=ir87) rfl rfl]
 by_cases hl:xs.length=ys.length
 ·simp only [ir87,go_sem,lm_,hl]
  generalize hg:lim (headed pure (run L) true _ lp87_0 _ _) _ _=o
  obtain ⟨x,en,s,rfl,h2⟩: ∃x en s,o=some (x,en,s)∧_:=by rw [←hg];exact loop87 n1 n2 xs ys hl hlen 0 (by omega) _ _ (by simp only [go_sem]<;>rfl)
  clear hg
  simp only [List.drop_zero] at h2
  by_cases h:xs=ys
  ·rw [if_pos h] at h2
   subst h2
   simp only [go_sem,h]
  ·rw [if_neg h] at h2
   obtain ⟨rfl,h3⟩:=h2
   simp only [go_sem,h3,h]
 ·have hl2:((xs.length:Int)=(ys.length:Int))=False:=eF (by omega)
  have hne: ¬xs=ys:=fun h=>hl (by rw [h])
  simp only [ir87,go_sem,lm_,hl2,hne]
def apartL (l k:List Int):Bool:=l.all fun a=> !decide (a∈k)
theorem zox (n1 n2:Bool)(l k:List Int)(hlen:l.length<1000000)(hlk:k.length<1000000)(i:Nat)(hok:i≤l.length)(env:Env)(st:St)
  (hg:gcAV true 0 0 (canon env [0,1,5]) st=([(0,sl 1 n1 (l.map I)),(1,sl 1 n2 (k.map I)),(5,I i)],⟨[],[]⟩)):
  ∃x_1 en s,lim (headed pure (run L) true [0,1,5] lp126_0 0 0) env st=some (x_1,en,s)∧(if apartL (l.drop i) k=true then x_1=.exit 0 else x_1=.ret∧en.get 4=B false):=by
 refine z7 (α:=Nat) (fun i=>l.length-i) (fun i=>i≤l.length) (fun i=>([(0,sl 1 n1 (l.map I)),(1,sl 1 n2 (k.map I)),(5,I i)],⟨[],[]⟩)) (fun i x_1 en s=>if apartL (l.drop i) k=true then x_1=.exit 0 else x_1=.ret∧en.get 4=B false) (fun i hok=> ?_) i hok env st hg
 by_cases h:i<l.length
 ·have hx:=zk n1 l i h
  have hs:=zd i (by omega)
  have hd:l.drop i=l[i]::l.drop (i+1):=List.drop_eq_getElem_cons h
  have hlt:((i:Int)<(l.length:Int))=True:=eT (by omega)
  rw [hd]
  generalize l[i]=a at*
  have h100:=fun st=>c100 n2 k hlk a st
  have e:apartL (a::l.drop (i+1)) k=(!decide (a∈k)&&apartL (l.drop (i+1)) k):=rfl
  rw [e]
  by_cases p:a∈k
  ·rw [decide_eq_true p] at h100⊢
   simp only [go_sem,lp126_0,hx,hlt,h100,lm_]
   try (rw [if_neg (by simp)];trivial)
  ·rw [decide_eq_false p] at h100⊢
   simp only [go_sem,lp126_0,hx,hlt,h100,hs,lm_]
   refine ⟨i+1,by simp only [go_sem,z3,z4,z5]<;>rfl,?_,?_,fun x en s hq=> ?_⟩
   ·omega
   ·omega
   ·simpa using hq
 ·have hd:l.drop i=[]:=List.drop_eq_nil_of_le (by omega)
  have hlt:((i:Int)<(l.length:Int))=False:=eF (by omega)
  simp only [go_sem,lp126_0,hlt,lm_]
  rw [hd,show apartL [] k=true from rfl,if_pos rfl];trivial
theorem c126 (n1 n2:Bool)(l k:List Int)(hlen:l.length<1000000)(hlk:k.length<1000000)(st:St):run L 126 [sl 1 n1 (l.map I),sl 1 n2 (k.map I)] st=some (B (apartL l k),st):=by
 rw [run_pure (fn:=ir126) rfl rfl]
 simp only [ir126,go_sem]
 generalize hg:lim (headed pure (run L) true _ lp126_0 _ _) _ _=o
 obtain ⟨x,en,s,rfl,h2⟩: ∃x en s,o=some (x,en,s)∧_:=by rw [←hg];exact zox n1 n2 l k hlen hlk 0 (by omega) _ _ (by simp only [go_sem,Int.natCast_zero]<;>rfl)
 clear hg
 rw [List.drop_zero] at h2
 cases h:apartL l k with
 |true=>
  rw [h,if_pos rfl] at h2
  subst h2
  simp only [go_sem]
 |false=>
  rw [h,if_neg (by simp)] at h2
  obtain ⟨rfl,h3⟩:=h2
  simp only [go_sem,h3]
def agreeL (n:Nat) (a b:List Int):Bool:=apartL a b||apartL a (othF n b 0)||apartL (othF n a 0) b||apartL (othF n a 0) (othF n b 0)
theorem c72 (n:Nat)(hn:n≤8)(n1 n2:Bool)(a b:List Int)(hla:a.length<1000000)(hlb:b.length<1000000)(st:St):run L 72 [J n,sl 1 n1 (a.map I),sl 1 n2 (b.map I)] st=some (B (agreeL n a b),st):=by
 rw [run_pure (fn:=ir72) rfl rfl]
 have ha:=fun st=>c125 n hn n1 a hla st
 have hb:=fun st=>c125 n hn n2 b hlb st
 have la:=zgy n a 0
 have lb:=zgy n b 0
 have h1:=fun st=>c126 n1 n2 a b hla hlb st
 have h2:=fun st=>c126 n1 true a (othF n b 0) hla (by omega) st
 have h3:=fun st=>c126 true n2 (othF n a 0) b (by omega) hlb st
 have h4:=fun st=>c126 true true (othF n a 0) (othF n b 0) (by omega) (by omega) st
 unfold agreeL
 generalize othF n a 0=oa at*
 generalize othF n b 0=ob at*
 unfold tAV at ha hb
 cases e1:apartL a b<;>rw [e1] at h1
 ·cases e2:apartL a ob<;>rw [e2] at h2
  ·cases e3:apartL oa b<;>rw [e3] at h3
   ·cases e4:apartL oa ob<;>rw [e4] at h4<;>simp only [ir72,go_sem,ha,hb,h1,h2,h3,h4,Bool.or_false,Bool.or_true]
   ·simp only [ir72,go_sem,ha,hb,h1,h2,h3,Bool.or_false,Bool.or_true,Bool.true_or]
  ·simp only [ir72,go_sem,ha,hb,h1,h2,Bool.or_false,Bool.or_true,Bool.true_or]
 ·simp only [ir72,go_sem,ha,hb,h1,Bool.or_false,Bool.or_true,Bool.true_or]
attribute [local go_sem] m_ x_ l_ k_ o_ t_ a_ s_ q_ b_ c_ u_ g_ zl za zg zm z0g z0f ze zi zj z6 zh z0h z0u z1t z1r zx z1o z6n
theorem zm5 (n:Nat)(l:List Int):(othF n l 0).Pairwise (· < ·):=by
 unfold othF
 rw [List.pairwise_map]
 exact ((List.pairwise_lt_range' (s:=0) (n:=n-0)).sublist List.filter_sublist).imp (fun h=>by omega)
theorem zm4 (n:Nat)(l:List Int)(a:Int):a∈othF n l 0↔∃i:Nat,a=i∧i<n∧(i:Int) ∉ l:=by
 unfold othF
 rw [List.mem_map]
 constructor
 ·rintro ⟨i,hi,rfl⟩
  rw [List.mem_filter,List.mem_range'_1] at hi
  exact ⟨i,rfl,by omega,by simpa using hi.2⟩
 ·rintro ⟨i,rfl,h1,h2⟩
  exact ⟨i,by rw [List.mem_filter,List.mem_range'_1];exact ⟨by omega,by simpa using h2⟩,rfl⟩
theorem z2v {v:Nat} (hv:v<512)(i:Nat):(i:Int)∈memb v↔v.testBit i=true:=by
 rw [z1p hv]
 constructor
 ·rintro ⟨k,e,h⟩
  have:i=k:=by omega
  subst this;exact h
 ·intro h;exact ⟨i,rfl,h⟩
theorem z4o {n v:Nat} (hv:v<2^n)(i:Nat):(v^^^(2^n-1)).testBit i=(decide (i<n)&& !v.testBit i):=by
 rw [Nat.testBit_xor,z9a]
 by_cases h:i<n
 ·rw [decide_eq_true h];cases v.testBit i<;>rfl
 ·rw [decide_eq_false h,zhv hv i (by omega)];rfl
theorem zda {n v:Nat} (hv:v<2^n):v^^^(2^n-1)<2^n:=by
 have:=Nat.two_pow_pos n
 exact Nat.xor_lt_two_pow hv (by omega)
theorem zdp {n v:Nat} (hn:n≤8)(hv:v<2^n):othF n (memb v) 0=memb (v^^^(2^n-1)):=by
 have h2n:2^n≤256:=Nat.pow_le_pow_right (n:=2) (by decide) hn
 have hx:=zda hv
 apply ze9 _ _ (zm5 n _) (z8z _)
 intro a
 rw [zm4,z1p (by omega)]
 constructor
 ·rintro ⟨i,rfl,h1,h2⟩
  refine ⟨i,rfl,?_⟩
  rw [z2v (by omega)] at h2
  rw [z4o hv,decide_eq_true h1];simpa using h2
 ·rintro ⟨i,rfl,h⟩
  rw [z4o hv,Bool.and_eq_true,decide_eq_true_eq] at h
  refine ⟨i,rfl,h.1,?_⟩
  rw [z2v (by omega)];simpa using h.2
theorem zph (n:Nat)(hn:n≤8)(v:Nat)(hv:v<2^n)(st:St):run L 110 [J n,tM v] st=some (tM (smlN n v),st):=by
 have h2n:2^n≤256:=Nat.pow_le_pow_right (n:=2) (by decide) hn
 have hm:=z03 v
 have h:=c110 n hn true (memb v) (by omega) st
 rw [zdp hn hv] at h
 have hb:(0:Int)∈memb v↔v.testBit 0=true:=z2v (v:=v) (by omega) 0
 unfold smlN
 by_cases p:v.testBit 0=true
 ·rw [if_pos (hb.2 p)] at h
  rw [if_pos p];exact h
 ·rw [if_neg (fun q=>p (hb.1 q))] at h
  rw [if_neg p];exact h
theorem c87M (a b:Nat)(ha:a<512)(hb:b<512)(st:St):run L 87 [tM a,tM b] st=some (B (decide (a=b)),st):=by
 have hm:=z03 a
 have h:=c87 true true (memb a) (memb b) (by omega) st
 have e:decide (memb a=memb b)=decide (a=b):=by
  rw [Bool.eq_iff_iff,decide_eq_true_eq,decide_eq_true_eq]
  exact ⟨zds ha hb,fun h=>by rw [h]⟩
 rw [e] at h
 exact h
theorem z7h {a b:Nat} (ha:a<512)(hb:b<512):apartL (memb a) (memb b)=decide (a&&&b=0):=by
 rw [Bool.eq_iff_iff,decide_eq_true_eq,zam]
 unfold apartL
 rw [List.all_eq_true]
 constructor
 ·intro h i hi
  have:=h (i:Int) ((z2v ha i).2 hi)
  rw [Bool.not_eq_true',decide_eq_false_iff_not,z2v hb] at this
  simpa using this
 ·intro h x hx
  obtain ⟨i,rfl,hi⟩:=(z1p ha x).1 hx
  have:=h i hi
  rw [Bool.not_eq_true',decide_eq_false_iff_not,z2v hb]
  simpa using this
def ag4 (n a b:Nat):Bool:=decide (a&&&b=0)||decide (a&&&(b^^^(2^n-1))=0)||decide ((a^^^(2^n-1))&&&b=0)||decide ((a^^^(2^n-1))&&&(b^^^(2^n-1))=0)
theorem zec {n v:Nat}:(v^^^(2^n-1))^^^(2^n-1)=v:=by rw [Nat.xor_assoc,Nat.xor_self,Nat.xor_zero]
theorem ag4_l (n a b:Nat):ag4 n (a^^^(2^n-1)) b=ag4 n a b:=by
 unfold ag4
 rw [zec]
 cases decide (a&&&b=0)<;>cases decide (a&&&(b^^^(2^n-1))=0)<;>cases decide ((a^^^(2^n-1))&&&b=0)<;>cases decide ((a^^^(2^n-1))&&&(b^^^(2^n-1))=0)<;>rfl
theorem ag4_r (n a b:Nat):ag4 n a (b^^^(2^n-1))=ag4 n a b:=by
 unfold ag4
 rw [zec]
 cases decide (a&&&b=0)<;>cases decide (a&&&(b^^^(2^n-1))=0)<;>cases decide ((a^^^(2^n-1))&&&b=0)<;>cases decide ((a^^^(2^n-1))&&&(b^^^(2^n-1))=0)<;>rfl
theorem zpm (n a b:Nat):ag4 n (smlN n a) (smlN n b)=ag4 n a b:=by
 unfold smlN
 split<;>split<;>simp only [ag4_l,ag4_r]
theorem zfr {n a b:Nat} (ha:a<2^n)(hb:b<2^n):a&&&(b^^^(2^n-1))=0↔Sub a b:=by
 rw [zam]
 constructor
 ·intro h i hi
  have:=h i hi
  rw [z4o hb] at this
  have hin:i<n:=by
   apply Nat.lt_of_not_le;intro h9
   rw [zhv ha i h9] at hi;cases hi
  rw [decide_eq_true hin] at this
  simpa using this
 ·intro h i hi
  rw [z4o hb,h i hi];simp
theorem znt {n a b:Nat} (h1:1≤n)(hn:n≤8)(ha:a<2^n)(hb:b<2^n)(ha0:a.testBit 0=false)(hb0:b.testBit 0=false):ag4 n a b=agN a b:=by
 have h2n:2^n≤256:=Nat.pow_le_pow_right (n:=2) (by decide) hn
 rw [Bool.eq_iff_iff,zld (by omega) (by omega)]
 unfold ag4
 simp only [Bool.or_eq_true,decide_eq_true_eq]
 rw [zfr ha hb,Nat.and_comm (a^^^(2^n-1)) b,zfr hb ha,zam]
 constructor
 ·rintro (((h|h)|h)|h)
  ·exact .inl h
  ·exact .inr (.inl h)
  ·exact .inr (.inr h)
  ·have hc:=congrArg (fun x=>x.testBit 0) h
   simp only [Nat.testBit_and,z4o ha,z4o hb,ha0,hb0,Nat.zero_testBit] at hc
   rw [decide_eq_true (show 0<n by omega)] at hc
   cases hc
 ·rintro (h|h|h)
  ·exact .inl (.inl (.inl h))
  ·exact .inl (.inl (.inr h))
  ·exact .inl (.inr h)
theorem zap {n v:Nat} (h1:1≤n):(smlN n v).testBit 0=false:=by
 unfold smlN
 split
 ·rename_i h
  rw [Nat.testBit_xor,z9a,h,decide_eq_true (show 0<n by omega)];rfl
 ·rename_i h;simpa using h
theorem zlc {n a b:Nat} (h1:1≤n)(hn:n≤8)(ha:a<2^n)(hb:b<2^n):agreeL n (memb a) (memb b)=agN (smlN n a) (smlN n b):=by
 have h2n:2^n≤256:=Nat.pow_le_pow_right (n:=2) (by decide) hn
 have hx:=zda ha
 have hy:=zda hb
 have e:agreeL n (memb a) (memb b)=ag4 n a b:=by
  unfold agreeL ag4
  rw [zdp hn ha,zdp hn hb,z7h (by omega) (by omega),z7h (by omega) (by omega),z7h (by omega) (by omega),z7h (by omega) (by omega)]
 rw [e,←zpm,znt h1 hn (z32 ha) (z32 hb) (zap h1) (zap h1)]
theorem c72M (n:Nat)(h1:1≤n)(hn:n≤8)(a b:Nat)(ha:a<2^n)(hb:b<2^n)(st:St):run L 72 [J n,tM a,tM b] st=some (B (agN (smlN n a) (smlN n b)),st):=by
 have hla:=z03 a
 have hlb:=z03 b
 have h:=c72 n hn true true (memb a) (memb b) (by omega) (by omega) st
 rw [zlc h1 hn ha hb] at h
 exact h
attribute [local go_sem] m_ x_ l_ k_ o_ t_ a_ s_ q_ b_ c_ u_ g_ zl za zg zm z0g z0f ze zi zj z6 zh z0h z0u z1t z1r zx z1o z6n
theorem zoj: ∀n:Fin 9,pc (2^n.val-1)=n.val:=by decide
theorem zn2 {n v:Nat} (hn:n≤8)(hv:v<2^n):(memb v).length=n↔v=2^n-1:=by
 have h2n:2^n≤256:=Nat.pow_le_pow_right (n:=2) (by decide) hn
 have hp:=Nat.two_pow_pos n
 have hf:pc (2^n-1)=n:=zoj ⟨n,by omega⟩
 constructor
 ·intro h
  have hs:Sub v (2^n-1):=fun i hi=>by
   rw [z9a,decide_eq_true_eq]
   apply Nat.lt_of_not_le;intro h9
   rw [zhv hv i h9] at hi;cases hi
  apply zeu (by omega) (by omega) hs
  rw [hf];exact Nat.le_of_eq h.symm
 ·intro h
  subst h;exact hf
theorem zlm {n v:Nat} (h1:1≤n)(h0:v≠0):smlN n v=0↔v=2^n-1:=by
 constructor
 ·intro h
  apply Classical.byContradiction;intro hne
  exact zfy h0 hne h
 ·rintro rfl
  unfold smlN
  rw [if_pos (by rw [z9a];simp;omega),Nat.xor_self]
theorem zmn (n:Nat)(h1n:1≤n)(hn:n≤8)(nl:Bool)(G:List GS)(l:List Int)(hlen:l.length<1000)(k:Nat)(i:Nat)(hok:i≤l.length)(env:Env)(st:St)
  (hg:gcAV true 0 0 (canon env [0,1,5,6,7]) st=([(0,J n),(1,sl 1 nl (G.map gM)),(5,J k),(6,tAV l),(7,J i)],⟨[],[]⟩)):
  ∃x_1 en s,lim (headed pure (run L) true [0,1,5,6,7] lp48_0 0 0) env st=some (x_1,en,s)∧((rowAt n l i=0∧x_1=.exit 2∧en.get 0=J n∧en.get 1=sl 1 nl (G.map gM)∧en.get 5=J k∧en.get 6=tAV l∧s=⟨[],[]⟩)∨(rowAt n l i≠0∧x_1=.ret∧en.get 4=I (rowAt n l i))):=by
 refine z7 (α:=Nat) (fun i=>l.length-i) (fun i=>i≤l.length) (fun i=>([(0,J n),(1,sl 1 nl (G.map gM)),(5,J k),(6,tAV l),(7,J i)],⟨[],[]⟩)) (fun i x_1 en s=>(rowAt n l i=0∧x_1=.exit 2∧en.get 0=J n∧en.get 1=sl 1 nl (G.map gM)∧en.get 5=J k∧en.get 6=tAV l∧s=⟨[],[]⟩)∨(rowAt n l i≠0∧x_1=.ret∧en.get 4=I (rowAt n l i))) (fun i hok=> ?_) i hok env st hg
 have hll:lenAV (tAV l)=some (J l.length):=zn I true l
 by_cases h:i<l.length
 ·have hs:=zd i (by omega)
  have hx:indexSAV 1 (tAV l) (.v (.int .i64 (i:Int)))=some (.eptr (I l[i]) 0):=zk true l i h
  have hlt:((i:Int)<(l.length:Int))=True:=eT (by omega)
  have hst:=z9q n l i h
  have hn1:IntKind.i64.wrap ((n:Int)-1)=(n:Int)-1:=by rw [z06]<;>omega
  have h98:=fun a st=>c98 a 0 ((n:Int)-1) st
  rw [hst]
  by_cases q1:l[i]<0∨(n:Int)≤l[i]
  ·rw [if_pos q1]
   have h98:=fun st=>h98 l[i] st
   rw [decide_eq_false (by omega)] at h98
   simp only [go_sem,lp48_0,hll,hlt,hs,hx,hn1,h98]
   decide
  ·rw [if_neg q1]
   have h98:=fun st=>h98 l[i] st
   rw [decide_eq_true (by omega)] at h98
   by_cases h0:0<i
   ·have q3:((0:Int)<(i:Int))=True:=eT (by omega)
    have hm:IntKind.i64.wrap ((i:Int)-1)=((i-1:Nat):Int):=by
     rw [←w64 (i-1) (by omega)];congr 1;omega
    have hx2:indexSAV 1 (tAV l) (.v (.int .i64 ((i-1:Nat):Int)))=some (.eptr (I (l[i-1]'(by omega))) 0):=zk true l (i-1) (by omega)
    rw [if_neg (show ¬i=0 by omega),List.getElem?_eq_getElem (show i-1<l.length by omega)]
    generalize l[i-1]'(by omega)=b at*
    generalize l[i]=a at*
    have hpb:prevB (some b) a=decide (a≤b):=rfl
    rw [hpb]
    by_cases q4:a≤b
    ·rw [if_pos (by simpa using q4)]
     simp only [go_sem,lp48_0,hll,hlt,hs,hx,hn1,h98,q3,hm,hx2,q4]
     decide
    ·rw [if_neg (by simpa using q4)]
     simp only [go_sem,lp48_0,hll,hlt,hs,hx,hn1,h98,q3,hm,hx2,q4]
     refine ⟨i+1,by simp only [go_sem,z3,z4,z5,z1w]<;>rfl,?_,?_,fun x en s hq=> ?_⟩
     ·omega
     ·omega
     ·exact hq
   ·have q3:((0:Int)<(i:Int))=False:=eF (by omega)
    rw [if_pos (show i=0 by omega)]
    generalize l[i]=a at*
    have hpb:prevB none a=false:=rfl
    rw [hpb,if_neg (by simp)]
    simp only [go_sem,lp48_0,hll,hlt,hs,hx,hn1,h98,q3]
    refine ⟨i+1,by simp only [go_sem,z3,z4,z5,z1w]<;>rfl,?_,?_,fun x en s hq=> ?_⟩
    ·omega
    ·omega
    ·exact hq
 ·have hlt:((i:Int)<(l.length:Int))=False:=eF (by omega)
  rw [zax n l i h]
  simp only [go_sem,lp48_0,hll,hlt]
theorem zdf (n:Nat)(tips:List Nat)(v:Nat)(acc:List (Nat×Nat)):ren1 n tips acc (tM v)=(tM v,acc):=z1w _ _ _ _
theorem z8y (n v:Nat):okRef n (tM v)=true:=zh _ _
theorem zlk {G:List GS} {X:List Nat} {i:Nat} (h:(G.take i).map gM=X.map tM)(hX:X.length=i) {j:Nat} (hj:j<i)(hg:j<G.length):gM G[j]=tM (X[j]'(by omega)):=by
 have e:=congrArg (fun l:List AV=>l[j]?) h
 simp only [List.getElem?_map,List.getElem?_take,if_pos hj] at e
 rw [List.getElem?_eq_getElem hg,List.getElem?_eq_getElem (show j<X.length by omega)] at e
 simpa using e
theorem zmm (n:Nat)(h1n:1≤n)(hn:n≤8)(nl:Bool)(G:List GS)(hGl:G.length≤13)(v:Nat)(hv:v<2^n)(X:List Nat)(hX: ∀x∈X,x<2^n)(i:Nat)(hi:i<G.length)(hXl:X.length=i)(hGX:(G.take i).map gM=X.map tM)(j:Nat)(hok:j≤i)(env:Env)(st:St)
  (hg:gcAV true 0 0 (canon env [0,1,5,6,8]) st=([(0,J n),(1,sl 1 nl (G.map gM)),(5,J i),(6,tM v),(8,J j)],⟨[],[]⟩)):
  ∃x_1 en s,lim (headed pure (run L) true [0,1,5,6,8] lp48_1 0 0) env st=some (x_1,en,s)∧(if smlN n v∈(X.map (smlN n)).drop j then x_1=.ret∧en.get 4=I 6 else (x_1=.exit 4∧en.get 0=J n∧en.get 1=sl 1 nl (G.map gM)∧en.get 5=J i∧s=⟨[],[]⟩)):=by
 refine z7 (α:=Nat) (fun j=>i-j) (fun j=>j≤i) (fun j=>([(0,J n),(1,sl 1 nl (G.map gM)),(5,J i),(6,tM v),(8,J j)],⟨[],[]⟩)) (fun j x_1 en s=>if smlN n v∈(X.map (smlN n)).drop j then x_1=.ret∧en.get 4=I 6 else (x_1=.exit 4∧en.get 0=J n∧en.get 1=sl 1 nl (G.map gM)∧en.get 5=J i∧s=⟨[],[]⟩)) (fun j hok=> ?_) j hok env st hg
 by_cases h:j<i
 ·have hs:=zd j (by omega)
  have hlt:((j:Int)<(i:Int))=True:=eT (by omega)
  have hx:=z08 gM nl G j (by omega)
  have hget:=zlk hGX hXl h (by omega)
  rw [hget] at hx
  have h2n:2^n≤256:=Nat.pow_le_pow_right (n:=2) (by decide) hn
  have hxl:=hX (X[j]'(by omega)) (List.getElem_mem _)
  have hd:(X.map (smlN n)).drop j=smlN n (X[j]'(by omega))::(X.map (smlN n)).drop (j+1):=by
   rw [List.drop_eq_getElem_cons (by rw [lm_];omega),List.getElem_map]
  rw [hd]
  generalize X[j]'(by omega)=x at*
  have ha:=fun st=>zph n hn v hv st
  have hb:=fun st=>zph n hn x hxl st
  have l1:=z32 hv
  have l2:=z32 hxl
  have hc:=fun st=>c87M (smlN n v) (smlN n x) (by omega) (by omega) st
  by_cases p:smlN n v=smlN n x
  ·rw [decide_eq_true p] at hc
   have hin:(smlN n v∈smlN n x::(X.map (smlN n)).drop (j+1))=True:=eT (by rw [p];exact List.mem_cons_self)
   simp only [go_sem,lp48_1,hlt,hx,ha,hb,hc,hin]
  ·rw [decide_eq_false p] at hc
   have e:(smlN n v∈smlN n x::(X.map (smlN n)).drop (j+1))=(smlN n v∈(X.map (smlN n)).drop (j+1)):=by
    rw [List.mem_cons];exact propext ⟨fun h=>h.resolve_left p,fun h=> .inr h⟩
   simp only [e]
   simp only [go_sem,lp48_1,hlt,hx,ha,hb,hc,hs]
   refine ⟨j+1,by simp only [go_sem,z3,z4,z5,zdf,z8y]<;>rfl,?_,?_,fun x en s hq=> ?_⟩
   ·omega
   ·omega
   ·exact hq
 ·have e:(X.map (smlN n)).drop j=[]:=List.drop_eq_nil_of_le (by rw [lm_];omega)
  have hlt:((j:Int)<(i:Int))=False:=eF (by omega)
  have hin:(smlN n v∈([]:List Nat))=False:=eF (by simp)
  rw [e]
  simp only [go_sem,lp48_1,hlt,hin]
theorem zml (n:Nat)(h1n:1≤n)(hn:n≤8)(nl:Bool)(G:List GS)(hG: ∀p∈G,p.2.length<1000)(hGl:G.length≤13)(i:Nat)(X:List Nat)(hok:i≤G.length∧X.length=i∧(∀x∈X,x<2^n)∧(G.take i).map gM=X.map tM)(env:Env)(st:St)
  (hg:gcAV true 0 0 (canon env [0,1,5]) st=([(0,J n),(1,sl 1 nl (G.map gM)),(5,J i)],⟨[],[]⟩)):
  ∃x_1 en s,lim (headed pure (run L) true [0,1,5] lp48_2 0 0) env st=some (x_1,en,s)∧(((openS n (G.drop i) (X.map (smlN n))).1=0∧x_1=.exit 0)∨((openS n (G.drop i) (X.map (smlN n))).1≠0∧x_1=.ret∧en.get 4=I (openS n (G.drop i) (X.map (smlN n))).1)):=by
 refine z7 (α:=Nat×List Nat) (fun ⟨i,X⟩=>G.length-i) (fun ⟨i,X⟩=>i≤G.length∧X.length=i∧(∀x∈X,x<2^n)∧(G.take i).map gM=X.map tM) (fun ⟨i,X⟩=>([(0,J n),(1,sl 1 nl (G.map gM)),(5,J i)],⟨[],[]⟩)) (fun ⟨i,X⟩ x_1 en s=>((openS n (G.drop i) (X.map (smlN n))).1=0∧x_1=.exit 0)∨((openS n (G.drop i) (X.map (smlN n))).1≠0∧x_1=.ret∧en.get 4=I (openS n (G.drop i) (X.map (smlN n))).1)) (fun ⟨i,X⟩ hok=> ?_) ⟨i,X⟩ hok env st hg
 simp only at hok
 obtain ⟨h1,hXl,h3,h4⟩:=hok
 dsimp only at h1 hXl h3 h4⊢
 have hGn:lenAV (sl 1 nl (G.map gM))=some (J G.length):=zn gM nl G
 by_cases h:i<G.length
 ·have hs:=zd i (by omega)
  have hlt:((i:Int)<(G.length:Int))=True:=eT (by omega)
  have hx:=z08 gM nl G i h
  have hgl:=hG G[i] (List.getElem_mem h)
  have hd:G.drop i=G[i]::G.drop (i+1):=List.drop_eq_getElem_cons h
  have hT:(G.take (i+1)).map gM=X.map tM++ [gM G[i]]:=by
   rw [List.take_succ,List.getElem?_eq_getElem h,List.map_append,h4];rfl
  rw [hd]
  generalize G[i]=p at*
  obtain ⟨b,l⟩:=p
  dsimp only at hgl
  have h2n:2^n≤256:=Nat.pow_le_pow_right (n:=2) (by decide) hn
  have hos:openS n ((b,l)::G.drop (i+1)) (X.map (smlN n))=if sideE n l≠0 then (sideE n l,X.map (smlN n)) else if smlN n (maskL l)=0 then (5,X.map (smlN n)) else if smlN n (maskL l)∈X.map (smlN n) then (6,X.map (smlN n)) else openS n (G.drop (i+1)) (X.map (smlN n)++ [smlN n (maskL l)]):=rfl
  rw [hos]
  by_cases hne:l=[]
  ·have hse:sideE n l=4:=by unfold sideE;rw [if_pos hne]
   rw [hse,if_pos (by decide)]
   subst hne
   have hll0:lenAV (gM (b,[]))=some (I 0):=by cases b<;>rfl
   simp only [go_sem,lp48_2,hGn,hlt,hx,hll0]
   decide
  ·have hgm:=zks b hne
   rw [hgm] at hx hT
   have hll:lenAV (tAV l)=some (J l.length):=zn I true l
   have hl0:((l.length:Int)=0)=False:=eF (by have:=List.length_pos_iff.2 hne;omega)
   have hse:sideE n l=rowAt n l 0:=by unfold sideE rowAt;rw [if_neg hne,if_pos rfl,List.drop_zero]
   rw [hse]
   simp only [go_sem,lp48_2,hGn,hlt,hx,hll,hl0]
   generalize hg:lim (headed pure (run L) true _ lp48_0 _ _) _ _=o
   obtain ⟨x,en,s,rfl,h2⟩: ∃x en s,o=some (x,en,s)∧_:=by rw [←hg];exact zmn n h1n hn nl G l (by omega) i 0 (by omega) _ _ (by simp only [go_sem,Int.natCast_zero,z1w]<;>rfl)
   clear hg
   rcases h2 with ⟨er,rfl,e0,e1,e5,e6,rfl⟩ | ⟨er,rfl,e4⟩
   ·rw [if_neg (by simpa using er)]
    have hrow:rowE n none l=0:=by
     have e:=hse.trans er
     unfold sideE at e
     rwa [if_neg hne] at e
    have hl2:=zbf hn hrow
    have hvl:=zdt (zcc l none hrow).1
    have hv0:=zk1 (fun a ha=>((zcc l none hrow).1 a ha).1) hne
    have hlf:=zn2 hn hvl
    have hz:=zlm (n:=n) h1n hv0
    rw [hl2] at hlf
    generalize maskL l=v at*
    have htm:tAV l=tM v:=by unfold tM;rw [hl2]
    rw [htm] at e6 hll hT
    by_cases hf:v=2^n-1
    ·rw [if_pos (hz.2 hf)]
     have q:((l.length:Int)=(n:Int))=True:=eT (by rw [hlf.2 hf])
     simp only [go_sem,lp48_2,e0,e1,e5,e6,hll,q]
     decide
    ·rw [if_neg (fun e=>hf (hz.1 e))]
     have q:((l.length:Int)=(n:Int))=False:=eF (fun e=>hf (hlf.1 (by omega)))
     simp only [go_sem,lp48_2,e0,e1,e5,e6,hll,q]
     generalize hg:lim (headed pure (run L) true _ lp48_1 _ _) _ _=o
     obtain ⟨x,en,s,rfl,h2⟩: ∃x en s,o=some (x,en,s)∧_:=by rw [←hg];exact zmm n h1n hn nl G hGl v hvl X h3 i h hXl h4 0 (by omega) _ _ (by simp only [go_sem,Int.natCast_zero,zdf,z8y,e0,e1,e5,e6]<;>rfl)
     clear hg
     rw [List.drop_zero] at h2
     by_cases hin:smlN n v∈X.map (smlN n)
     ·rw [if_pos hin] at h2⊢
      obtain ⟨rfl,e4⟩:=h2
      simp only [go_sem,lp48_2,e4]
      decide
     ·rw [if_neg hin] at h2⊢
      obtain ⟨rfl,e0,e1,e5,rfl⟩:=h2
      simp only [go_sem,lp48_2,e0,e1,e5,hs]
      refine ⟨(i+1,X++ [v]),by simp only [go_sem,z3,z4,z5,e0,e1,e5]<;>rfl,?_,?_,fun x en s hq=> ?_⟩
      ·dsimp only
       refine ⟨by omega,by rw [List.length_append,List.length_singleton];omega,?_,?_⟩
       ·intro x hx
        rcases List.mem_append.1 hx with hx|hx
        ·exact h3 x hx
        ·rw [List.mem_singleton] at hx;subst hx;exact hvl
       ·rw [hT,List.map_append];rfl
      ·dsimp only;omega
      ·rw [List.map_append] at hq;exact hq
   ·rw [if_pos (by simpa using er)]
    simp only [go_sem,lp48_2,e4]
    exact er
 ·have e:G.drop i=[]:=List.drop_eq_nil_of_le (by omega)
  have hlt:((i:Int)<(G.length:Int))=False:=eF (by omega)
  rw [e,show openS n [] (X.map (smlN n))=(0,X.map (smlN n)) from rfl]
  simp only [go_sem,lp48_2,hGn,hlt]
theorem c48 (n:Int)(nl:Bool)(G:List GS)(hG: ∀p∈G,p.2.length<1000)(hGl:G.length<1000)(st:St):run L 48 [I n,sl 1 nl (G.map gM)] st=some (I (openG n G).1,st):=by
 rw [run_pure (fn:=ir48) rfl rfl]
 have h98:=fun st=>c98 n 2 8 st
 have hGn:lenAV (sl 1 nl (G.map gM))=some (J G.length):=zn gM nl G
 unfold openG
 by_cases q1:n<2∨8<n
 ·rw [if_pos q1]
  rw [decide_eq_false (by omega)] at h98
  simp only [ir48,go_sem,h98]
 ·rw [if_neg q1]
  rw [decide_eq_true (by omega)] at h98
  obtain ⟨m,rfl⟩:=Int.eq_ofNat_of_zero_le (show 0≤n by omega)
  by_cases q3:13<G.length
  ·rw [if_pos q3]
   have q3:((13:Int)<(G.length:Int))=True:=eT (by omega)
   simp only [ir48,go_sem,h98,hGn,q3]
  ·rw [if_neg q3]
   have q3:((13:Int)<(G.length:Int))=False:=eF (by omega)
   have hto:((m:Int)).toNat=m:=rfl
   rw [hto]
   simp only [ir48,go_sem,h98,hGn,q3]
   generalize hg:lim (headed pure (run L) true _ lp48_2 _ _) _ _=o
   obtain ⟨x,en,s,rfl,h2⟩: ∃x en s,o=some (x,en,s)∧_:=by rw [←hg];exact zml m (by omega) (by omega) nl G hG (by omega) 0 [] ⟨by omega,rfl,by simp,rfl⟩ _ _ (by simp only [go_sem,Int.natCast_zero]<;>rfl)
   clear hg
   rw [List.drop_zero,List.map_nil] at h2
   rcases h2 with ⟨h0,rfl⟩ | ⟨h0,rfl,e4⟩
   ·simp only [go_sem,h0]
   ·simp only [go_sem,e4]
attribute [local go_sem] m_ x_ l_ k_ o_ t_ a_ s_ q_ b_ c_ u_ g_ zl za zg zm z0g z0f ze zi zj z6 zh z0h z0u z1t z1r zx z1o z6n
theorem zek (k:Nat): ∀N:List (List Nat),shStore k (N.map fun l=>l.map u8)=N.map fun l=>l.map u8
 | []=>rfl
 |l::r=>by simp only [List.map_cons,shStore,za1,zek k r]
section
variable {n:Int} {nl:Bool} {G:List GS} (hG: ∀p∈G,p.2.length<1000) (hGl:G.length<1000) (he:(openG n G).1≠0)
include hG hGl he
theorem c70e: ∃N:List (List Nat),N.length≤2∧run L 70 [I n,sl 1 nl (G.map gM)] ⟨[],[]⟩=some (.tup [.v (.slice none 0 0),I (openG n G).1],⟨N.map (fun l=>l.map u8),[]⟩):=by
 rcases c70G n nl G hG hGl with ⟨h,_⟩ | ⟨_,h⟩
 ·exact absurd h he
 ·exact h
theorem c79e: ∃N:List (List Nat),N.length≤2∧run L 79 [I n,sl 1 nl (G.map gM)] ⟨[],[]⟩=some (.tup [.v (.slice none 0 0),I (openG n G).1],⟨N.map (fun l=>l.map u8),[]⟩):=by
 rw [zc (fn:=ir79) rfl rfl]
 obtain ⟨N,hN,h70⟩:=c70e (nl:=nl) hG hGl he
 refine ⟨N,hN,?_⟩
 simp only [ir79,go_sem,h70,show pure 70=false from rfl,zek,shV,shVs,he]
theorem c26er (st:St):run L 26 [I n,sl 1 nl (G.map gM)] st=some (.tup [.agg [.v (.slice none 0 0),.v (.slice none 0 0)],I (openG n G).1],st):=by
 rw [run_pure (fn:=ir26) rfl rfl]
 obtain ⟨N,hN,h79⟩:=c79e (nl:=nl) hG hGl he
 match N,hN with
 | [],_=>simp only [ir26,go_sem,h79,show pure 79=false from rfl,shStore,shV,shVs,he]
 | [a],_=>
  have ha:=za1 1 a
  simp only [ir26,go_sem,h79,show pure 79=false from rfl,shStore,shV,shVs,ha,he]
 | [a,b],_=>
  have ha:=za1 1 a
  have hb:=za1 1 b
  simp only [ir26,go_sem,h79,show pure 79=false from rfl,shStore,shV,shVs,ha,hb,he]
end
attribute [local go_sem] m_ x_ l_ k_ o_ t_ a_ s_ q_ b_ c_ u_ g_ zl za zg zm z0g z0f ze zi zj z6 zh z0h z0u z1t z1r zx z1o z6n
theorem zp0 (n1 n2:Bool)(xs ys:List Int)(hlen:xs.length<1000000)(i:Nat)(hok:i≤xs.length∧i≤ys.length)(env:Env)(st:St)
  (hg:gcAV true 0 0 (canon env [0,1,5]) st=([(0,sl 1 n1 (xs.map I)),(1,sl 1 n2 (ys.map I)),(5,I i)],⟨[],[]⟩)):
  ∃x_1 en s,lim (headed pure (run L) true [0,1,5] lp101_0 0 0) env st=some (x_1,en,s)∧((x_1=.exit 0∧en.get 0=sl 1 n1 (xs.map I)∧en.get 1=sl 1 n2 (ys.map I)∧lexLt (xs.drop i) (ys.drop i)=decide (xs.length<ys.length))∨(x_1=.ret∧en.get 4=B (lexLt (xs.drop i) (ys.drop i)))):=by
 refine z7 (α:=Nat) (fun i=>xs.length-i) (fun i=>i≤xs.length∧i≤ys.length) (fun i=>([(0,sl 1 n1 (xs.map I)),(1,sl 1 n2 (ys.map I)),(5,I i)],⟨[],[]⟩)) (fun i x_1 en s=>(x_1=.exit 0∧en.get 0=sl 1 n1 (xs.map I)∧en.get 1=sl 1 n2 (ys.map I)∧lexLt (xs.drop i) (ys.drop i)=decide (xs.length<ys.length))∨(x_1=.ret∧en.get 4=B (lexLt (xs.drop i) (ys.drop i)))) (fun i hok=> ?_) i hok env st hg
 obtain ⟨hok1,hok2⟩:=hok
 by_cases h:i<xs.length
 ·have hx:=zk n1 xs i h
  have hs:=zd i (by omega)
  have hd:xs.drop i=xs[i]::xs.drop (i+1):=List.drop_eq_getElem_cons h
  have hlt:((i:Int)<(xs.length:Int))=True:=eT (by omega)
  rw [hd]
  by_cases h2:i<ys.length
  ·have hy:=zk n2 ys i h2
   have hd2:ys.drop i=ys[i]::ys.drop (i+1):=List.drop_eq_getElem_cons h2
   have hlt2:((i:Int)<(ys.length:Int))=True:=eT (by omega)
   rw [hd2]
   generalize xs[i]=a at*
   generalize ys[i]=b at*
   have hcn:lexLt (a::xs.drop (i+1)) (b::ys.drop (i+1))=(decide (a<b)||(decide (a=b)&&lexLt (xs.drop (i+1)) (ys.drop (i+1)))):=rfl
   rw [hcn]
   by_cases p:a=b
   ·subst p
    have q:((a:Int)=a)=True:=eT rfl
    have e:(decide (a<a)||(decide (a=a)&&lexLt (xs.drop (i+1)) (ys.drop (i+1))))=lexLt (xs.drop (i+1)) (ys.drop (i+1)):=by simp
    rw [e]
    simp only [go_sem,lp101_0,hx,hy,hlt,hlt2,hs,lm_]
    refine ⟨i+1,by simp only [go_sem,z3,z4,z5]<;>rfl,?_,?_,fun x en s hq=> ?_⟩
    ·omega
    ·omega
    ·exact hq
   ·rw [decide_eq_false p,Bool.false_and,Bool.or_false]
    by_cases p1:a<b
    ·rw [decide_eq_true p1]
     simp only [go_sem,lp101_0,hx,hy,hlt,hlt2,p,p1,lm_]
    ·rw [decide_eq_false p1]
     simp only [go_sem,lp101_0,hx,hy,hlt,hlt2,p,p1,lm_]
  ·have hd2:ys.drop i=[]:=List.drop_eq_nil_of_le (by omega)
   have hlt2:((i:Int)<(ys.length:Int))=False:=eF (by omega)
   have hc:xs.length<ys.length↔False:=⟨fun h=>by omega,fun h=>h.elim⟩
   rw [hd2]
   generalize xs[i]=a at*
   have hcn:lexLt (a::xs.drop (i+1)) []=false:=rfl
   rw [hcn]
   simp only [hc]
   simp only [go_sem,lp101_0,hx,hlt,hlt2,lm_]
 ·have hd:xs.drop i=[]:=List.drop_eq_nil_of_le (by omega)
  have hlt:((i:Int)<(xs.length:Int))=False:=eF (by omega)
  have hi:i=xs.length:=by omega
  have hcn:lexLt [] (ys.drop i)=decide (xs.length<ys.length):=by
   by_cases h2:i<ys.length
   ·rw [List.drop_eq_getElem_cons h2,decide_eq_true (by omega)];rfl
   ·rw [List.drop_eq_nil_of_le (by omega),decide_eq_false (by omega)];rfl
  rw [hd,hcn]
  simp only [go_sem,lp101_0,hlt,lm_]
theorem c101 (n1 n2:Bool)(xs ys:List Int)(hlen:xs.length<1000000)(st:St):run L 101 [sl 1 n1 (xs.map I),sl 1 n2 (ys.map I)] st=some (B (lexLt xs ys),st):=by
 rw [run_pure (fn:=ir101) rfl rfl]
 simp only [ir101,go_sem]
 generalize hg:lim (headed pure (run L) true _ lp101_0 _ _) _ _=o
 obtain ⟨x,en,s,rfl,h2⟩: ∃x en s,o=some (x,en,s)∧_:=by rw [←hg];exact zp0 n1 n2 xs ys hlen 0 ⟨by omega,by omega⟩ _ _ (by simp only [go_sem,Int.natCast_zero]<;>rfl)
 clear hg
 simp only [List.drop_zero] at h2
 rcases h2 with ⟨rfl,e0,e1,h5⟩ | ⟨rfl,h3⟩
 ·rw [h5]
  by_cases p:xs.length<ys.length
  ·have q:((xs.length:Int)<(ys.length:Int))=True:=eT (by omega)
   simp only [go_sem,e0,e1,q,lm_,p]
  ·have q:((xs.length:Int)<(ys.length:Int))=False:=eF (by omega)
   simp only [go_sem,e0,e1,q,lm_,p]
 ·simp only [go_sem,h3]
def lexM (a b:Nat):Bool:=lexLt (memb a) (memb b)
def atM (x:Nat):List Nat→Nat
 | []=>0
 |a::r=>if lexM a x=true then atM x r+1 else 0
def putM (x:Nat):List Nat→List Nat
 | []=> [x]
 |a::r=>if lexM a x=true then a::putM x r else x::a::r
theorem znz (x:Nat): ∀l,atM x l≤l.length
 | []=>Nat.le_refl _
 |a::r=>by
  have:=znz x r
  unfold atM
  split
  ·rw [List.length_cons];omega
  ·exact Nat.zero_le _
theorem zjp (x:Nat): ∀l,putM x l=l.take (atM x l)++x::l.drop (atM x l)
 | []=>rfl
 |a::r=>by
  unfold putM atM
  split
  ·rw [zjp x r];rfl
  ·rfl
theorem znq (x:Nat)(l:List Nat)(i:Nat)(h:i<l.length):atM x (l.drop i)=if lexM l[i] x=true then atM x (l.drop (i+1))+1 else 0:=by
 rw [List.drop_eq_getElem_cons h];rfl
theorem loop88 (nl:Bool)(l:List Nat)(hlen:l.length<1000)(y:Nat)(i:Nat)(hok:i≤l.length)(env:Env)(st:St)
  (hg:gcAV true 0 0 (canon env [0,1,5]) st=([(0,sl 1 nl (l.map tM)),(1,tM y),(5,J i)],⟨[],[]⟩)):
  ∃x_1 en s,lim (headed pure (run L) true [0,1,5] lp88_0 0 0) env st=some (x_1,en,s)∧(x_1=.exit 0∧en.get 0=sl 1 nl (l.map tM)∧en.get 1=tM y∧en.get 5=J (i+atM y (l.drop i))∧s=⟨[],[]⟩):=by
 refine z7 (α:=Nat) (fun i=>l.length-i) (fun i=>i≤l.length) (fun i=>([(0,sl 1 nl (l.map tM)),(1,tM y),(5,J i)],⟨[],[]⟩)) (fun i x_1 en s=>x_1=.exit 0∧en.get 0=sl 1 nl (l.map tM)∧en.get 1=tM y∧en.get 5=J (i+atM y (l.drop i))∧s=⟨[],[]⟩) (fun i hok=> ?_) i hok env st hg
 have hll:=zn tM nl l
 by_cases h:i<l.length
 ·have hs:=zd i (by omega)
  have hlt:((i:Int)<(l.length:Int))=True:=eT (by omega)
  have hx:=z08 tM nl l i h
  have hst:=znq y l i h
  rw [hst]
  generalize l[i]=a at*
  have hm:=z03 a
  have hc: ∀st,run L 101 [tM a,tM y] st=some (B (lexM a y),st):=fun st=>c101 true true (memb a) (memb y) (by omega) st
  cases hb:lexM a y with
  |true=>
   rw [hb] at hc
   rw [if_pos rfl]
   simp only [go_sem,lp88_0,hll,hlt,hs,hx,hc]
   refine ⟨i+1,by simp only [go_sem,z3,z4,z5,zdf,z8y]<;>rfl,?_,?_,fun x en s hq=> ?_⟩
   ·omega
   ·omega
   ·rw [show i+(atM y (l.drop (i+1))+1)=i+1+atM y (l.drop (i+1)) by omega];exact hq
  |false=>
   rw [hb] at hc
   rw [if_neg (by simp),Nat.add_zero]
   simp only [go_sem,lp88_0,hll,hlt,hs,hx,hc]
 ·have e:l.drop i=[]:=List.drop_eq_nil_of_le (by omega)
  have hlt:((i:Int)<(l.length:Int))=False:=eF (by omega)
  rw [e,show atM y []=0 from rfl,Nat.add_zero]
  simp only [go_sem,lp88_0,hll,hlt]
theorem zhy {α:Type} (f:α→AV)(nl:Bool)(l:List α)(k:Nat)(h:k≤l.length): ∃n2,sliceAV 1 (sl 1 nl (l.map f)) none (some (J k)) none=some (sl 1 n2 ((l.take k).map f)):=by
 have key: ∀xs:List AV,k≤xs.length→sliceAV 1 (.lst .any 1 xs) none (some (J k)) none=some (.lst .any 1 (xs.take k)):=by
  intro xs hx
  have h0:(0:Int)≤((k:Nat):Int):=by omega
  simp only [sliceAV,natOr,natOf,tagSlice,if_pos h0,Int.toNat_natCast]
  simp [hx]
 cases l with
 |nil=>
  have:k=0:=by simpa using h
  subst this
  cases nl
  ·exact ⟨false,key [] (by simp)⟩
  ·exact ⟨true,rfl⟩
 |cons x r=>
  have e:sl 1 nl ((x::r).map f)=.lst .any 1 ((x::r).map f):=zac (by simp)
  rw [e,key _ (by simpa using h),←List.map_take]
  exact ⟨false,rfl⟩
theorem zhz {α:Type} (f:α→AV)(nl:Bool)(l:List α)(k:Nat)(h:k≤l.length): ∃n2,sliceAV 1 (sl 1 nl (l.map f)) (some (J k)) none none=some (sl 1 n2 ((l.drop k).map f)):=by
 have key: ∀xs:List AV,k≤xs.length→sliceAV 1 (.lst .any 1 xs) (some (J k)) none none=some (.lst .any 1 (xs.drop k)):=by
  intro xs hx
  have h0:(0:Int)≤((k:Nat):Int):=by omega
  simp only [sliceAV,natOr,natOf,tagSlice,if_pos h0,Int.toNat_natCast]
  rw [List.take_of_length_le (Nat.le_refl _)]
  simp [hx]
 cases l with
 |nil=>
  have:k=0:=by simpa using h
  subst this
  cases nl
  ·exact ⟨false,key [] (by simp)⟩
  ·exact ⟨true,rfl⟩
 |cons x r=>
  have e:sl 1 nl ((x::r).map f)=.lst .any 1 ((x::r).map f):=zac (by simp)
  rw [e,key _ (by simpa using h),←List.map_drop]
  exact ⟨false,rfl⟩
def pA (o:List AV):AV:=if o.length=0 then .lst .full 1 [] else oA o
theorem pA_ne {o:List AV} (h:o≠[]):pA o=oA o:=by
 unfold pA;rw [if_neg];intro h2;exact h (List.eq_nil_of_length_eq_zero h2)
theorem z9h (o ys:List AV)(s:List (List AV))(h:o.length+ys.length<1000):appendAV 1 (pA o) ys ⟨s,oT o⟩=some (pA (o++ys),⟨s,oT (o++ys)⟩):=by
 cases ys with
 |nil=>
  rw [List.append_nil]
  unfold pA oA oT loc locT
  split<;>rfl
 |cons y r=>
  cases o with
  |nil=>
   have h2: ¬(y::r).length=0:=by simp
   unfold pA oA oT loc locT
   rw [List.nil_append,if_pos (show ([]:List AV).length=0 from rfl),if_neg h2,if_neg h2,if_pos (show ([]:List AV).length=0 from rfl),if_neg h2]
   simp only [appendAV,List.length_nil,Nat.zero_add,List.nil_append]
   rw [if_pos trivial,if_pos (by unfold maxGrow;simp only [List.length_nil,Nat.zero_add] at h;omega)]
  |cons a o=>
   have h1: ¬(a::o).length=0:=by simp
   have h2: ¬(a::o++y::r).length=0:=by simp
   unfold pA oA oT loc locT
   rw [if_neg h1,if_neg h2,if_neg h1,if_neg h2,if_neg h1,if_neg h2]
   simp only [appendAV]
   rw [if_pos trivial,if_pos (by unfold maxGrow;omega)]
   simp;omega
theorem c88 (nl:Bool)(l:List Nat)(hlen:l.length<900)(y:Nat)(st:St):run L 88 [sl 1 nl (l.map tM),tM y] st=some (sl 1 true ((putM y l).map tM),st):=by
 rw [run_pure (fn:=ir88) rfl rfl]
 simp only [ir88,go_sem]
 generalize hg:lim (headed pure (run L) true _ lp88_0 _ _) _ _=o
 obtain ⟨x,en,s,rfl,h2⟩: ∃x en s,o=some (x,en,s)∧_:=by rw [←hg];exact loop88 nl l (by omega) y 0 (by omega) _ _ (by simp only [go_sem,Int.natCast_zero,zdf,z8y]<;>rfl)
 clear hg
 rw [List.drop_zero,Nat.zero_add] at h2
 obtain ⟨rfl,e0,e1,e5,rfl⟩:=h2
 have hle:=znz y l
 have hpe:=zjp y l
 generalize atM y l=k at*
 obtain ⟨n3,ht⟩:=zhy tM nl l k hle
 obtain ⟨n4,hd⟩:=zhz tM nl l k hle
 have a1:=fun S=>z9h [] ((l.take k).map tM) S (by simp;omega)
 have a2:=fun S=>z9h ((l.take k).map tM) [tM y] S (by simp;omega)
 have a3:=fun S=>z9h ((l.take k).map tM++ [tM y]) ((l.drop k).map tM) S (by simp;omega)
 rw [List.nil_append] at a1
 have a1: ∀S,appendAV 1 (.lst .full 1 []) ((l.take k).map tM) ⟨S,[]⟩=some (pA ((l.take k).map tM),⟨S,oT ((l.take k).map tM)⟩):=a1
 have hfin:((l.take k).map tM++ [tM y]++(l.drop k).map tM)=(putM y l).map tM:=by rw [hpe];simp
 rw [hfin] at a3
 have hpn:pA ((putM y l).map tM)=oA ((putM y l).map tM):=pA_ne (by rw [hpe];simp)
 simp only [go_sem,e0,e1,e5,ht,hd,a1,a2,a3,hpn]
attribute [local go_sem] m_ x_ l_ k_ o_ t_ a_ s_ q_ b_ c_ u_ g_ zl za zg zm z0g z0f ze zi zj z6 zh z0h z0u z1t z1r zx z1o z6n
theorem z8p (x:Nat): ∀l,(putM x l).Perm (x::l)
 | []=>List.Perm.refl _
 |a::r=>by
  unfold putM
  split
  ·exact ((z8p x r).cons a).trans (List.Perm.swap x a r)
  ·exact List.Perm.refl _
theorem zb4 (x:Nat): ∀l:List Nat,l.Pairwise LexLe→(putM x l).Pairwise LexLe
 | [],_=>by simp [putM]
 |a::r,h=>by
  rw [List.pairwise_cons] at h
  unfold putM
  split
  ·rename_i hlt
   rw [List.pairwise_cons]
   refine ⟨fun y hy=> ?_,zb4 x r h.2⟩
   rcases List.mem_cons.1 ((z8p x r).mem_iff.1 hy) with rfl|hy
   ·exact zf3 hlt
   ·exact h.1 y hy
  ·rename_i hlt
   have hlt:lexLt (memb a) (memb x)=false:=by simpa [lexM] using hlt
   rw [List.pairwise_cons]
   refine ⟨fun y hy=> ?_,List.pairwise_cons.2 h⟩
   rcases List.mem_cons.1 hy with rfl|hy
   ·exact hlt
   ·exact zke hlt (h.1 y hy)
def tidyF (n:Nat) (X o:List Nat):List Nat:=X.foldl (fun o v=>putM (smlN n v) o) o
theorem zgh (n:Nat): ∀X o,o.Pairwise LexLe→(tidyF n X o).Pairwise LexLe∧(tidyF n X o).Perm (o++X.map (smlN n))
 | [],o,h=>⟨h,by rw [List.map_nil,List.append_nil];exact List.Perm.refl _⟩
 |v::r,o,h=>by
  obtain ⟨h1,h2⟩:=zgh n r _ (zb4 (smlN n v) o h)
  refine ⟨h1,h2.trans ?_⟩
  rw [List.map_cons]
  exact ((z8p (smlN n v) o).append_right _).trans List.perm_middle.symm
theorem zlj {n:Nat} {X:List Nat} (h: ∀s∈X.map (smlN n),s<256):tidyF n X []=srt (X.map (smlN n)):=by
 obtain ⟨h1,h2⟩:=zgh n X [] List.Pairwise.nil
 rw [List.nil_append] at h2
 exact zgj h h2 h1
theorem loop85 (n:Nat)(hn:n≤8)(nl:Bool)(X:List Nat)(hX: ∀v∈X,v<2^n)(hl:X.length≤100)(i:Nat)(o:List Nat)(hok:i≤X.length∧o.length=i)(env:Env)(st:St)
  (hg:gcAV true 0 0 (canon env [0,1,5,6]) st=([(0,J n),(1,sl 1 nl (X.map tM)),(5,sl 1 true (o.map tM)),(6,J i)],⟨[],[]⟩)):
  ∃x_1 en s,lim (headed pure (run L) true [0,1,5,6] lp85_0 0 0) env st=some (x_1,en,s)∧(x_1=.exit 0∧en.get 5=sl 1 true ((tidyF n (X.drop i) o).map tM)):=by
 refine z7 (α:=Nat×List Nat) (fun ⟨i,o⟩=>X.length-i) (fun ⟨i,o⟩=>i≤X.length∧o.length=i) (fun ⟨i,o⟩=>([(0,J n),(1,sl 1 nl (X.map tM)),(5,sl 1 true (o.map tM)),(6,J i)],⟨[],[]⟩)) (fun ⟨i,o⟩ x_1 en s=>x_1=.exit 0∧en.get 5=sl 1 true ((tidyF n (X.drop i) o).map tM)) (fun ⟨i,o⟩ hok=> ?_) ⟨i,o⟩ hok env st hg
 simp only at hok
 obtain ⟨h1,h2⟩:=hok
 dsimp only at h1 h2⊢
 have hll:=zn tM nl X
 by_cases h:i<X.length
 ·have hs:=zd i (by omega)
  have hlt:((i:Int)<(X.length:Int))=True:=eT (by omega)
  have hx:=z08 tM nl X i h
  have hv:=hX X[i] (List.getElem_mem h)
  have hd:X.drop i=X[i]::X.drop (i+1):=List.drop_eq_getElem_cons h
  rw [hd]
  generalize X[i]=v at*
  have h110:=fun st=>zph n hn v hv st
  have h88:=fun st=>c88 true o (by omega) (smlN n v) st
  have e:tidyF n (v::X.drop (i+1)) o=tidyF n (X.drop (i+1)) (putM (smlN n v) o):=rfl
  rw [e]
  have hpl:=(z8p (smlN n v) o).length_eq
  generalize putM (smlN n v) o=o2 at*
  simp only [go_sem,lp85_0,hll,hlt,hs,hx,h110,h88]
  refine ⟨(i+1,o2),by simp only [go_sem,z3,z4,z5]<;>rfl,?_,?_,fun x en s hq=> ?_⟩
  ·dsimp only;exact ⟨by omega,by rw [hpl,List.length_cons];omega⟩
  ·dsimp only;omega
  ·exact hq
 ·have e:X.drop i=[]:=List.drop_eq_nil_of_le (by omega)
  have hlt:((i:Int)<(X.length:Int))=False:=eF (by omega)
  rw [e]
  simp only [go_sem,lp85_0,hll,hlt]
  rfl
theorem zj9 {n:Nat} (hn:n≤8) {X:List Nat} (hX: ∀v∈X,v<2^n∧v≠0∧v≠2^n-1): ∀s∈X.map (smlN n),s<256:=by
 intro x hx
 rw [List.mem_map] at hx
 obtain ⟨v,hv,rfl⟩:=hx
 exact Nat.lt_of_lt_of_le (z32 (hX v hv).1) (Nat.pow_le_pow_right (n:=2) (by decide) hn)
theorem c85 (n:Nat)(hn:n≤8)(nl:Bool)(X:List Nat)(hX: ∀v∈X,v<2^n∧v≠0∧v≠2^n-1)(hl:X.length≤13)(st:St):run L 85 [J n,sl 1 nl (X.map tM)] st=some (sl 1 true ((srt (X.map (smlN n))).map tM),st):=by
 rw [run_pure (fn:=ir85) rfl rfl,←zlj (zj9 hn hX)]
 simp only [ir85,go_sem]
 generalize hg:lim (headed pure (run L) true _ lp85_0 _ _) _ _=o
 obtain ⟨x,en,s,rfl,h2⟩: ∃x en s,o=some (x,en,s)∧_:=by rw [←hg];exact loop85 n hn nl X (fun v hv=>(hX v hv).1) (by omega) 0 [] ⟨by omega,rfl⟩ _ _ (by simp only [go_sem,Int.natCast_zero,List.map_nil,show sl 1 true []=AV.v (.slice none 0 0) from rfl]<;>rfl)
 clear hg
 rw [List.drop_zero] at h2
 obtain ⟨rfl,e5⟩:=h2
 simp only [go_sem,e5]
attribute [local go_sem] m_ x_ l_ k_ o_ t_ a_ s_ q_ b_ c_ u_ g_ zl za zg zm z0g z0f ze zi zj z6 zh z0h z0u z1t z1r zx z1o z6n
def lgG (G:List GS):Bool:=decide (40<G.length)||G.any fun p=>decide (40<p.2.length)
theorem len_gM (p:GS):lenAV (gM p)=some (J p.2.length):=by
 obtain ⟨k,l⟩:=p
 cases l with
 |nil=>cases k<;>rfl
 |cons a r=>rw [zks k (by simp)];exact zn I true (a::r)
theorem loop14 (nl:Bool)(G:List GS)(hG:G.length≤40)(i:Nat)(hok:i≤G.length)(env:Env)(st:St)
  (hg:gcAV true 0 0 (canon env [0,3]) st=([(0,sl 1 nl (G.map gM)),(3,J i)],⟨[],[]⟩)):
  ∃x_1 en s,lim (headed pure (run L) true [0,3] lp14_0 0 0) env st=some (x_1,en,s)∧(((G.drop i).any (fun p=>decide (40<p.2.length))=true∧x_1=.ret∧en.get 2=B true)∨((G.drop i).any (fun p=>decide (40<p.2.length))=false∧x_1=.exit 0)):=by
 refine z7 (α:=Nat) (fun i=>G.length-i) (fun i=>i≤G.length) (fun i=>([(0,sl 1 nl (G.map gM)),(3,J i)],⟨[],[]⟩)) (fun i x_1 en s=>((G.drop i).any (fun p=>decide (40<p.2.length))=true∧x_1=.ret∧en.get 2=B true)∨((G.drop i).any (fun p=>decide (40<p.2.length))=false∧x_1=.exit 0)) (fun i hok=> ?_) i hok env st hg
 have hll:=zn gM nl G
 by_cases h:i<G.length
 ·have hs:=zd i (by omega)
  have hlt:((i:Int)<(G.length:Int))=True:=eT (by omega)
  have hx:=z08 gM nl G i h
  have hd:G.drop i=G[i]::G.drop (i+1):=List.drop_eq_getElem_cons h
  rw [hd,List.any_cons]
  generalize G[i]=p at*
  have hpl:=len_gM p
  by_cases q:40<p.2.length
  ·have q2:((40:Int)<(p.2.length:Int))=True:=eT (by omega)
   rw [decide_eq_true q,Bool.true_or]
   simp only [go_sem,lp14_0,hll,hlt,hs,hx,hpl,q2]
  ·have q2:((40:Int)<(p.2.length:Int))=False:=eF (by omega)
   rw [decide_eq_false q,Bool.false_or]
   simp only [go_sem,lp14_0,hll,hlt,hs,hx,hpl,q2]
   refine ⟨i+1,by simp only [go_sem,z3,z4,z5]<;>rfl,?_,?_,fun x en s hq=> ?_⟩
   ·omega
   ·omega
   ·exact hq
 ·have e:G.drop i=[]:=List.drop_eq_nil_of_le (by omega)
  have hlt:((i:Int)<(G.length:Int))=False:=eF (by omega)
  rw [e,List.any_nil]
  simp only [go_sem,lp14_0,hll,hlt]
theorem c14 (nl:Bool)(G:List GS)(st:St):run L 14 [sl 1 nl (G.map gM)] st=some (B (lgG G),st):=by
 rw [run_pure (fn:=ir14) rfl rfl]
 have hll:=zn gM nl G
 unfold lgG
 by_cases q:40<G.length
 ·have q2:((40:Int)<(G.length:Int))=True:=eT (by omega)
  rw [decide_eq_true q,Bool.true_or]
  simp only [ir14,go_sem,hll,q2]
 ·have q2:((40:Int)<(G.length:Int))=False:=eF (by omega)
  rw [decide_eq_false q,Bool.false_or]
  simp only [ir14,go_sem,hll,q2]
  generalize hg:lim (headed pure (run L) true _ lp14_0 _ _) _ _=o
  obtain ⟨x,en,s,rfl,h2⟩: ∃x en s,o=some (x,en,s)∧_:=by rw [←hg];exact loop14 nl G (by omega) 0 (by omega) _ _ (by simp only [go_sem,Int.natCast_zero]<;>rfl)
  clear hg
  rw [List.drop_zero] at h2
  rcases h2 with ⟨h,rfl,e2⟩ | ⟨h,rfl⟩
  ·rw [h];simp only [go_sem,e2]
  ·rw [h];simp only [go_sem]
theorem lg_ok {G:List GS} (h:lgG G=false):G.length≤40∧∀p∈G,p.2.length≤40:=by
 unfold lgG at h
 rw [Bool.or_eq_false_iff,decide_eq_false_iff_not,List.any_eq_false] at h
 refine ⟨by omega,fun p hp=> ?_⟩
 have:=h.2 p hp
 simpa using this
end Go.Proofs.YtdnmhlfjafjkbaaGreatDoor.Vm
namespace Go.Proofs.YtdnmhlfjafjkbaaGreatDoor.Vm
open Go Go.Ev Go.ChangeShapes Go.WideShapes Go.ChangeAt Go.RowKit
set_option maxRecDepth 100000
set_option maxHeartbeats 4000000
attribute [local go_sem] m_ x_ l_ k_ o_ t_ a_ s_ q_ b_ c_ u_ g_ z49 z0s z5g z23 z44 z0n z5c z1b z2e z0b z3a z22 z43 z0m z5b z26 z47 z0q z5e z1c z2f z0c z3b z1a z2d z0a z37 z25 z46 z0p z34 z61 z19 z7p z27 z48 z0r z5f z28 z1u z0t z5h z21 z42 z0l z5a z24 z45 z0o z5d z39 z29 z38 z7x z7v z7w z5l z3g z3k z3j z3i z3v z3w z4j z5n z83 z0z z4b z36 z1f z3e z3y z40 z5y z5z z5x z41 z2c z1d z57 z35 z2b z1g z0e z2g z1h z3d z7s z5i z1y z17 z20 pubs pub z4h params z2m z07 z1i z2p z3l z3x z7y untips untip z56 wantedAV setElems withO z7z z3r z3o z3n z5p z3q z3m z5o z3p List.replicate_succ List.replicate_zero opAV valAV aval avals ofVal Env.get setD canon gcAV renAll renEnv renStore renCells z1m cutSt okEnv okStore okRefs okRef z0k z87 z64 z86 z84 z85 z88 cellsEq cellEq isShift intOp boolOp z7t z7u z89 bne resAV tupAV z5m zbr z6x fins zg9 z6w z82 z81 zbs storeAV readCells putCells z60 z33 z18 fieldAddrAV za6 goI List.getElem?_cons_zero List.getElem?_cons_succ List.getElem?_nil Option.bind_some Option.map_some List.length_cons List.length_nil List.all_cons List.all_nil Bool.and_true Bool.true_and Bool.and_false Bool.false_and and_true true_and and_false false_and Bool.false_eq_true List.set_cons_zero List.set_cons_succ List.append_nil List.nil_append List.cons_append List.take_zero List.take_succ_cons List.take_nil List.drop_zero List.drop_succ_cons List.map_cons List.map_nil decide_true decide_false beq_self_eq_true Bool.not_true Bool.not_false or_true true_or or_false false_or Nat.zero_add Nat.add_zero Nat.le_refl Nat.lt_irrefl decide_eq_true_eq eq_self_iff_true not_true_eq_false not_false_eq_true List.getD_cons_zero z3z Nat.zero_le Nat.not_lt_zero Bool.true_beq Bool.false_beq beq_true beq_false ge_iff_le gt_iff_lt keepR keepT ownTop zgf pus Option.map_none z2i z2h z5s z3s z5r Int.cast_ofNat_Int Nat.mul_one Nat.zero_mul Int.toNat_natCast Int.toNat_zero setParts withO2 hasKey z5v z5j z3u z3f z1e z0w zy z2n setm z4v z6z z69 zbe zc3 zex z8g z6g z55 z4c z8v z6p z6f z4q z72 z54 z8l z6h z4x z3h z8x z6q z9g z50 z51 z6u z31 z8c z6e z6d z8d Option.bind_none Bool.not_eq_true' decide_eq_false_iff_not Bool.and_eq_true Bool.or_eq_true Option.some.injEq Int.not_lt Int.not_le
attribute [local go_sem_proc] reduceIte Nat.reduceEqDiff Nat.reduceAdd Nat.reduceSub Nat.reduceLeDiff Nat.reduceLT reduceCtorEq Int.reduceLT Int.reduceLE Int.reduceEq Int.reduceBEq Int.reduceSub Int.reduceAdd Int.reduceMul Int.reduceNeg Int.reduceToNat Nat.reduceMul Nat.reduceBEq
theorem zl2:Tryz.prog.cellsOf 3=1:=by kernel_rfl
theorem zl3:Tryz.prog.cellsOf 28=1:=by kernel_rfl
theorem zpg:Tryz.prog.cellsOf 38=2:=by kernel_rfl
theorem zg0 {d:Nat} {t e:TypeId} {a:AV} (ht:Tryz.prog.underlying t=some (.slice e))(he:Tryz.prog.underlying e=some (.int .i64))(hc:Tryz.prog.cellsOf e=1)(h:Sh Tryz.prog (d+2) t [a]):
  ∃(nl:Bool) (zs:List Int),a=sl 1 nl (zs.map I)∧(zs.length:Int)≤maxLen∧∀n∈zs,(Lit.int .i64 n).wf=true:=by
 rcases zgn ht h with rfl| ⟨xs,rfl,hl,hx⟩
 ·exact ⟨true,[],rfl,by simp,by simp⟩
 ·obtain ⟨zs,rfl,h2,h3⟩:=z5k (f:=I) (R:=fun n=>(Lit.int .i64 n).wf=true) xs (fun x hm=>by
   rcases hx x hm with h| ⟨⟨e2,h⟩,_⟩
   ·exact sh_int he h
   ·rw [he] at h;cases h)
  exact ⟨false,zs,by rw [hc,←zgm],by simp at hl;omega,h3⟩
theorem sh_num {a:AV} (h:ShV Tryz.prog 8 3 a): ∃n:Int,a=I n∧(Lit.int .i64 n).wf=true:=by
 unfold ShV at h
 rw [if_neg (by unfold aggB;rw [Tryz.underlying3];simp)] at h
 simp only [Sh,Tryz.underlying3,List.cons.injEq,and_true] at h
 exact h
theorem sh_lists {a:AV} (h:ShV Tryz.prog 8 22 a): ∃(nl:Bool) (G:List GS),a=sl 1 nl (G.map gM)∧(G.length:Int)≤maxLen∧∀p∈G,(p.2.length:Int)≤maxLen∧∀n∈p.2,(Lit.int .i64 n).wf=true:=by
 unfold ShV at h
 rw [if_neg (by unfold aggB;rw [Tryz.underlying22];simp)] at h
 rcases zgn Tryz.underlying22 h with rfl| ⟨xs,rfl,hl,hx⟩
 ·exact ⟨true,[],rfl,by simp,by simp⟩
 ·obtain ⟨G,rfl,h2,h3⟩:=z5k (f:=gM) (R:=fun p=>(p.2.length:Int)≤maxLen∧∀n∈p.2,(Lit.int .i64 n).wf=true) xs (fun x hm=>by
   rcases hx x hm with this| ⟨_,a,cap,rfl⟩
   ·unfold ShV at this
    rw [if_neg (by unfold aggB;rw [Tryz.underlying28];simp)] at this
    obtain ⟨nl,zs,e,h1,h2⟩:=zg0 Tryz.underlying28 Tryz.underlying3 zl2 this
    obtain ⟨k,hk⟩:=gM_sl nl zs
    exact ⟨(k,zs),e.trans hk.symm,h1,h2⟩
   ·exact ⟨(.odd a cap,[]),rfl,by simp,by simp⟩)
  exact ⟨false,G,by rw [zl3,←zgm],by simp at hl;omega,h3⟩
theorem sh_tree {a:AV} (h:ShV Tryz.prog 8 38 a): ∃(nu nw:Bool) (us ws:List Int),a=.agg [sl 1 nu (us.map I),sl 1 nw (ws.map I)]∧(us.length:Int)≤maxLen∧(ws.length:Int)≤maxLen:=by
 unfold ShV at h
 rw [if_pos (by unfold aggB;rw [Tryz.underlying38])] at h
 obtain ⟨cs,rfl,hs⟩:=h
 unfold Sh at hs
 simp only [Tryz.underlying38,zpg] at hs
 obtain ⟨h1,h2⟩:=hs
 have f0:=h2 0 _ rfl
 have f1:=h2 1 _ rfl
 simp only [List.getElem_toArray,List.getElem_cons_zero,List.getElem_cons_succ,zl3] at f0 f1
 match cs,h1 with
 | [x,y],_=>
  simp only [List.drop_zero,List.take_succ_cons,List.take_zero,List.drop_succ_cons] at f0 f1
  obtain ⟨nu,us,rfl,hu,_⟩:=zg0 Tryz.underlying28 Tryz.underlying3 zl2 f0
  obtain ⟨nw,ws,rfl,hw,_⟩:=zg0 Tryz.underlying28 Tryz.underlying3 zl2 f1
  exact ⟨nu,nw,us,ws,rfl,hu,hw⟩
end Go.Proofs.YtdnmhlfjafjkbaaGreatDoor.Vm
namespace Go.Proofs.YtdnmhlfjafjkbaaGreatDoor.Vm
open Go Go.Ev
set_option maxRecDepth 100000
set_option maxHeartbeats 4000000
attribute [local go_sem] m_ x_ l_ k_ o_ t_ a_ s_ q_ b_ c_ u_ g_ z49 z0s z5g z23 z44 z0n z5c z1b z2e z0b z3a z22 z43 z0m z5b z26 z47 z0q z5e z1c z2f z0c z3b z1a z2d z0a z37 z25 z46 z0p z34 z61 z19 z7p z27 z48 z0r z5f z28 z1u z0t z5h z21 z42 z0l z5a z24 z45 z0o z5d z39 z29 z38 z7x z7v z7w z5l z3g z3k z3j z3i z3v z3w z4j z5n z83 z0z z4b z36 z1f z3e z3y z40 z5y z5z z5x z41 z2c z1d z57 z35 z2b z1g z0e z2g z1h z3d z7s z5i z1y z17 z20 pubs pub z4h params z2m z07 z1i z2p z3l z3x z7y untips untip z56 wantedAV setElems withO z7z z3r z3o z3n z5p z3q z3m z5o z3p List.replicate_succ List.replicate_zero opAV valAV aval avals ofVal Env.get setD canon gcAV renAll renEnv renStore renCells z1m cutSt okEnv okStore okRefs okRef z0k z87 z64 z86 z84 z85 z88 cellsEq cellEq isShift intOp boolOp z7t z7u z89 bne resAV tupAV z5m zbr z6x fins zg9 z6w z82 z81 zbs storeAV readCells putCells z60 z33 z18 fieldAddrAV za6 goI List.getElem?_cons_zero List.getElem?_cons_succ List.getElem?_nil Option.bind_some Option.map_some List.length_cons List.length_nil List.all_cons List.all_nil Bool.and_true Bool.true_and Bool.and_false Bool.false_and and_true true_and and_false false_and Bool.false_eq_true List.set_cons_zero List.set_cons_succ List.append_nil List.nil_append List.cons_append List.take_zero List.take_succ_cons List.take_nil List.drop_zero List.drop_succ_cons List.map_cons List.map_nil decide_true decide_false beq_self_eq_true Bool.not_true Bool.not_false or_true true_or or_false false_or Nat.zero_add Nat.add_zero Nat.le_refl Nat.lt_irrefl decide_eq_true_eq eq_self_iff_true not_true_eq_false not_false_eq_true List.getD_cons_zero z3z Nat.zero_le Nat.not_lt_zero Bool.true_beq Bool.false_beq beq_true beq_false ge_iff_le gt_iff_lt keepR keepT ownTop zgf pus Option.map_none z2i z2h z5s z3s z5r Int.cast_ofNat_Int Nat.mul_one Nat.zero_mul Int.toNat_natCast Int.toNat_zero setParts withO2 hasKey z5v z5j z3u z3f z1e z0w zy z2n setm z4v z6z z69 zbe zc3 zex z8g z6g z55 z4c z8v z6p z6f z4q z72 z54 z8l z6h z4x z3h z8x z6q z9g z50 z51 z6u z31 z8c z6e z6d z8d Option.bind_none Bool.not_eq_true' decide_eq_false_iff_not Bool.and_eq_true Bool.or_eq_true Option.some.injEq Int.not_lt Int.not_le
attribute [local go_sem_proc] reduceIte Nat.reduceEqDiff Nat.reduceAdd Nat.reduceSub Nat.reduceLeDiff Nat.reduceLT reduceCtorEq Int.reduceLT Int.reduceLE Int.reduceEq Int.reduceBEq Int.reduceSub Int.reduceAdd Int.reduceMul Int.reduceNeg Int.reduceToNat Nat.reduceMul Nat.reduceBEq
section
variable {n:Nat} {U W:List Nat} (hn:n≤8) (hU: ∀u∈U,u≤U.length) (hW: ∀w∈W,w≤U.length) (hWl:W.length=n) (hend: ∀w,w≤U.length→itC U U.length w=0)
include hU hend in
theorem zg7 {x s:Nat} (hx:x≤U.length)(h0:x≠0):itC U (s+1) x≠x:=by
 intro h
 have h2:=zbh (U:=U) (w:=x) (s:=s) h U.length
 have h3:U.length*(s+1)=U.length+U.length*s:=by rw [Nat.mul_succ,Nat.add_comm]
 rw [h3,z0d,hend x hx,z12] at h2
 exact h0 h2.symm
include hU hend in
theorem zlp {w p q x:Nat} (hx:x≤U.length)(h0:x≠0)(h1:itC U p w=x)(h2:itC U q w=x):p=q:=by
 rcases Nat.lt_trichotomy p q with h|h|h
 ·exfalso
  apply zg7 (U:=U) hU hend (s:=q-p-1) hx h0
  rw [show q-p-1+1=q-p by omega,←h1,←z0d,show p+(q-p)=q by omega,h2,h1]
 ·exact h
 ·exfalso
  apply zg7 (U:=U) hU hend (s:=p-q-1) hx h0
  rw [show p-q-1+1=p-q by omega,←h2,←z0d,show q+(p-q)=p by omega,h1,h2]
include hn hU hW hWl hend
theorem sb {k:Nat} (hk:k<U.length)(b:Nat):((outL U W).getD k 0).testBit b=true↔b<n∧∃t,itC U t (W.getD b 0)=k+1:=by
 have hoo:=z9s U W 0 (List.replicate U.length 0) (by omega) (fun k=>by simp [List.getD_eq_getElem?_getD,List.getElem?_replicate];split<;>simp)
 rw [show outF U 0 W (List.replicate U.length 0)=outL U W from rfl,List.length_replicate] at hoo
 exact z8f hn hU hW hWl hoo.1.symm hend rfl (by rw [hoo.1];exact hk) b
theorem zdo:(outL U W).length=U.length:=by
 have hoo:=z9s U W 0 (List.replicate U.length 0) (by omega) (fun k=>by simp [List.getD_eq_getElem?_getD,List.getElem?_replicate];split<;>simp)
 rw [show outF U 0 W (List.replicate U.length 0)=outL U W from rfl,List.length_replicate] at hoo
 exact hoo.1
variable (hlack: ∀c,c≤U.length→¬(min c 1+U.count c<3∧c ∉ W))
include hlack
theorem zei {c:Nat} (hc:c≤U.length)(h0:c≠0): ∀(d x t:Nat),x≤U.length→x≠0→itC U t x=c→t+d=U.length→∃a,a<n∧∃s,itC U s (W.getD a 0)=x
 |0,x,t,hx,_,h,e=>by
  have:t=U.length:=by omega
  subst this
  rw [hend x hx] at h
  exact absurd h.symm h0
 |d+1,x,t,hx,hx0,h,e=>by
  by_cases hin:x∈W
  ·obtain ⟨a,ha,he⟩:=List.getElem_of_mem hin
   refine ⟨a,by omega,0,?_⟩
   show W.getD a 0=x
   rw [List.getD_eq_getElem?_getD,List.getElem?_eq_getElem ha,←he];rfl
  ·have hl:=hlack x hx
   have hcnt:0<U.count x:=by
    apply Nat.pos_of_ne_zero;intro hz
    exact hl ⟨by rw [hz];omega,hin⟩
   have hm:=List.count_pos_iff.1 hcnt
   obtain ⟨k,hk,he⟩:=List.getElem_of_mem hm
   have hup:upC U (k+1)=x:=by rw [zag,List.getD_eq_getElem?_getD,List.getElem?_eq_getElem hk,←he];rfl
   obtain ⟨a,ha,s,hs⟩:=zei hc h0 d (k+1) (t+1) (by omega) (by omega) (by
    show itC U t (upC U (k+1))=c
    rw [hup,h]) (by omega)
   exact ⟨a,ha,s+1,by rw [zaj,hs,hup]⟩
theorem zfz {k:Nat} (hk:k<U.length): ∃a,a<n∧∃s,itC U s (W.getD a 0)=k+1:=
 zei hn hU hW hWl hend hlack (c:=k+1) (by omega) (by omega) U.length (k+1) 0 (by omega) (by omega) rfl (by omega)
theorem two_at {c:Nat} (h:2≤U.count c)(i:Nat): ∃k,k<U.length∧k≠i∧U.getD k 0=c:=by
 apply Classical.byContradiction
 intro hno
 have key: ∀k,k<U.length→U.getD k 0=c→k=i:=fun k hk e=>by
  apply Classical.byContradiction;intro hne
  exact hno ⟨k,hk,hne,e⟩
 have h1:U.count c≤1:=by
  by_cases hi:i<U.length
  ·have hs:U=U.take i++U[i]::U.drop (i+1):=by
    rw [List.getElem_cons_drop,List.take_append_drop]
   have z1:(U.take i).count c=0:=by
    rw [List.count_eq_zero];intro hm
    obtain ⟨k,hk,e⟩:=List.mem_take_iff_getElem.1 hm
    have:=key k (by omega) (by rw [List.getD_eq_getElem?_getD,List.getElem?_eq_getElem (by omega),e];rfl)
    omega
   have z2:(U.drop (i+1)).count c=0:=by
    rw [List.count_eq_zero];intro hm
    obtain ⟨k,hk,e⟩:=List.mem_drop_iff_getElem.1 hm
    have:=key (i+1+k) (by omega) (by rw [List.getD_eq_getElem?_getD,List.getElem?_eq_getElem (by omega),e];rfl)
    omega
   rw [hs,List.count_append,List.count_cons,z1,z2]
   split<;>omega
  ·have:U.count c=0:=by
    rw [List.count_eq_zero];intro hm
    obtain ⟨k,hk,e⟩:=List.getElem_of_mem hm
    have:=key k hk (by rw [List.getD_eq_getElem?_getD,List.getElem?_eq_getElem hk,e];rfl)
    omega
   omega
 omega
theorem zho {i j d:Nat} (hi:i<U.length)(hj:j<U.length)(hd:itC U (d+1) (i+1)=j+1): ∃b,((outL U W).getD j 0).testBit b=true∧((outL U W).getD i 0).testBit b=false:=by
 apply Classical.byContradiction
 intro hno
 have hsub: ∀b,b<n→(∃t,itC U t (W.getD b 0)=j+1)→∃t,itC U t (W.getD b 0)=i+1:=by
  intro b hb ht
  have h1:=(sb hn hU hW hWl hend hj b).2 ⟨hb,ht⟩
  cases hc:((outL U W).getD i 0).testBit b
  ·exact absurd ⟨b,h1,hc⟩ hno
  ·exact ((sb hn hU hW hWl hend hi b).1 hc).2
 have hjW:j+1 ∉ W:=by
  intro hm
  obtain ⟨b,hb,e⟩:=List.getElem_of_mem hm
  have e2:W.getD b 0=j+1:=by rw [List.getD_eq_getElem?_getD,List.getElem?_eq_getElem hb,e];rfl
  obtain ⟨t,ht⟩:=hsub b (by omega) ⟨0,e2⟩
  rw [e2] at ht
  apply zg7 (U:=U) hU hend (x:=j+1) (s:=t+d) (by omega) (by omega)
  rw [show t+d+1=t+(d+1) by omega,z0d,ht,hd]
 have hc2:2≤U.count (j+1):=by
  apply Nat.le_of_not_lt;intro hlt
  exact hlack (j+1) (by omega) ⟨by omega,hjW⟩
 have hpar:upC U (itC U d (i+1))=j+1:=by rw [←zaj,hd]
 have hp0:itC U d (i+1)≠0:=fun h=>by rw [h] at hpar;simp [upC] at hpar
 have hpl:itC U d (i+1)≤U.length:=zkj hU d (i+1) (by omega)
 obtain ⟨k,hk,hki,hku⟩:=two_at hn hU hW hWl hend hlack hc2 (itC U d (i+1)-1)
 obtain ⟨b,hb,p,hp⟩:=zfz hn hU hW hWl hend hlack hk
 have hpj:itC U (p+1) (W.getD b 0)=j+1:=by rw [zaj,hp,zag,hku]
 obtain ⟨q,hq⟩:=hsub b hb ⟨p+1,hpj⟩
 have hq2:itC U (q+d+1) (W.getD b 0)=j+1:=by rw [show q+d+1=q+(d+1) by omega,z0d,hq,hd]
 have:=zlp hU hend (x:=j+1) (by omega) (by omega) hpj hq2
 have hpq:p=q+d:=by omega
 rw [hpq,z0d,hq] at hp
 omega
theorem zln {i j:Nat} (hi:i<U.length)(hj:j<U.length)(hne:i≠j):(outL U W).getD i 0≠(outL U W).getD j 0:=by
 intro he
 obtain ⟨a,ha,s,hs⟩:=zfz hn hU hW hWl hend hlack hi
 have hb:=(sb hn hU hW hWl hend hi a).2 ⟨ha,s,hs⟩
 have hb2:=hb
 rw [he] at hb2
 obtain ⟨_,t,ht⟩:=(sb hn hU hW hWl hend hj a).1 hb2
 rcases Nat.lt_trichotomy s t with h|h|h
 ·obtain ⟨b,h1,h2⟩:=zho hn hU hW hWl hend hlack hi hj (d:=t-s-1) (by rw [show t-s-1+1=t-s by omega,←hs,←z0d,show s+(t-s)=t by omega,ht])
  rw [he,h1] at h2;cases h2
 ·subst h;rw [hs] at ht;omega
 ·obtain ⟨b,h1,h2⟩:=zho hn hU hW hWl hend hlack hj hi (d:=s-t-1) (by rw [show s-t-1+1=s-t by omega,←ht,←z0d,show t+(s-t)=s by omega,hs])
  rw [he,h2] at h1;cases h1
variable (h0W:W.getD 0 0=0) (h1n:1≤n)
include h0W h1n
theorem zef:Lam n (outL U W):=by
 have hl:=zdo hn hU hW hWl hend
 have mem: ∀s∈outL U W,∃k,k<U.length∧s=(outL U W).getD k 0:=by
  intro s hs
  obtain ⟨k,hk,e⟩:=List.getElem_of_mem hs
  exact ⟨k,by omega,by rw [List.getD_eq_getElem?_getD,List.getElem?_eq_getElem hk,←e];rfl⟩
 refine ⟨?_,?_,?_,?_,?_⟩
 ·intro s hs
  obtain ⟨k,hk,rfl⟩:=mem s hs
  apply Nat.lt_pow_two_of_testBit
  intro i hi
  cases hc:((outL U W).getD k 0).testBit i
  ·rfl
  ·have:=((sb hn hU hW hWl hend hk i).1 hc).1;omega
 ·intro s hs h
  obtain ⟨k,hk,rfl⟩:=mem s hs
  obtain ⟨a,ha,t,ht⟩:=zfz hn hU hW hWl hend hlack hk
  have:=(sb hn hU hW hWl hend hk a).2 ⟨ha,t,ht⟩
  rw [h,Nat.zero_testBit] at this;cases this
 ·intro s hs
  obtain ⟨k,hk,rfl⟩:=mem s hs
  cases hc:((outL U W).getD k 0).testBit 0
  ·rfl
  ·obtain ⟨_,t,ht⟩:=(sb hn hU hW hWl hend hk 0).1 hc
   rw [h0W,z12] at ht;omega
 ·unfold List.Nodup
  rw [List.pairwise_iff_getElem]
  intro i j hi hj hij he
  apply zln hn hU hW hWl hend hlack (i:=i) (j:=j) (by omega) (by omega) (by omega)
  rw [List.getD_eq_getElem?_getD,List.getD_eq_getElem?_getD,List.getElem?_eq_getElem hi,List.getElem?_eq_getElem hj]
  exact he
 ·have h8: ∀k,k<U.length→(outL U W).getD k 0<256:=by
   intro k hk
   have:(outL U W).getD k 0<2^n:=by
    apply Nat.lt_pow_two_of_testBit
    intro i hi
    cases hc:((outL U W).getD k 0).testBit i
    ·rfl
    ·have:=((sb hn hU hW hWl hend hk i).1 hc).1;omega
   exact Nat.lt_of_lt_of_le this (Nat.pow_le_pow_right (n:=2) (by decide) hn)
  intro s hs t ht
  obtain ⟨i,hi,rfl⟩:=mem s hs
  obtain ⟨j,hj,rfl⟩:=mem t ht
  rw [zld (h8 i hi) (h8 j hj)]
  by_cases hd: ∀b,((outL U W).getD i 0).testBit b=true→((outL U W).getD j 0).testBit b=false
  ·exact .inl hd
  ·right
   obtain ⟨a,ha⟩:=Classical.not_forall.1 hd
   rw [Classical.not_imp] at ha
   obtain ⟨h1,h2⟩:=ha
   have h2:((outL U W).getD j 0).testBit a=true:=by simpa using h2
   obtain ⟨_,p,hp⟩:=(sb hn hU hW hWl hend hi a).1 h1
   obtain ⟨_,q,hq⟩:=(sb hn hU hW hWl hend hj a).1 h2
   rcases Nat.le_total p q with h|h
   ·left
    exact z9o hn hU hW hWl hl.symm hend rfl (by omega) (by omega) (t:=q-p) (by rw [←hp,←z0d,show p+(q-p)=q by omega,hq])
   ·right
    exact z9o hn hU hW hWl hl.symm hend rfl (by omega) (by omega) (t:=p-q) (by rw [←hq,←z0d,show q+(p-q)=p by omega,hp])
theorem zhs:IsTree (outL U W) n U W:=by
 have hl:=zdo hn hU hW hWl hend
 have hlam:=zef hn hU hW hWl hend hlack h0W h1n
 refine ⟨hl.symm,hWl,fun k hk=>zlo hn hU hW hWl hl.symm hend rfl hlam hk,fun a ha=> ?_⟩
 have hin:=hW (W.getD a 0) (zw (by omega))
 by_cases h0:W.getD a 0=0
 ·left
  refine ⟨h0,fun j hj _ hs=> ?_⟩
  obtain ⟨_,t,ht⟩:=(sb hn hU hW hWl hend (by omega) a).1 (zdd hs)
  rw [h0,z12] at ht;omega
 ·right
  refine ⟨W.getD a 0-1,by omega,by omega,by simp,?_,fun j hj _ hs=> ?_⟩
  ·exact zjr ((sb hn hU hW hWl hend (by omega) a).2 ⟨ha,0,by show W.getD a 0=_;omega⟩)
  ·obtain ⟨_,t,ht⟩:=(sb hn hU hW hWl hend (by omega) a).1 (zdd hs)
   exact zdn (z9o hn hU hW hWl hl.symm hend rfl (by omega) (by omega) (t:=t) (by rw [show W.getD a 0-1+1=W.getD a 0 by omega,ht]))
end
attribute [local go_sem] m_ x_ l_ k_ o_ t_ a_ s_ q_ b_ c_ u_ g_ zl za zg zm z0g z0f ze zi zj z6 zh z0h
theorem zge {m:Nat} {A:List Int} (h:A.any (badC m)=false): ∀a∈A,0≤a∧a≤(m:Int):=by
 intro a ha
 rw [List.any_eq_false] at h
 have:=h a ha
 simp only [badC,Bool.or_eq_true,decide_eq_true_eq,not_or] at this
 omega
theorem c96V (n:Int)(nu nw:Bool)(us ws:List Int)(hu:us.length<500)(hw:ws.length<500)(st:St):
  run L 96 [I n,.agg [sl 1 nu (us.map I),sl 1 nw (ws.map I)]] st=some (readA (readV n us ws),st):=by
 have hlU:=zn I nu us
 have hlW:=zn I nw ws
 unfold readV
 by_cases q1:n<2
 ·rw [if_pos (.inl q1),run_pure (fn:=ir96) rfl rfl]
  simp only [ir96,go_sem,q1,readA]
 by_cases q2:8<n
 ·rw [if_pos (.inr q2),run_pure (fn:=ir96) rfl rfl]
  simp only [ir96,go_sem,hlU,q1,q2,readA]
 rw [if_neg (not_or.2 ⟨q1,q2⟩)]
 by_cases q3:13<us.length
 ·rw [if_pos q3,run_pure (fn:=ir96) rfl rfl]
  have q3:((13:Int)<(us.length:Int))=True:=eT (by omega)
  simp only [ir96,go_sem,hlU,q1,q2,q3,readA]
 rw [if_neg q3]
 by_cases q4:(ws.length:Int)≠n
 ·rw [if_pos q4,run_pure (fn:=ir96) rfl rfl]
  have q3:((13:Int)<(us.length:Int))=False:=eF (by omega)
  simp only [ir96,go_sem,hlU,hlW,q1,q2,q3,q4,readA]
 rw [if_neg q4]
 by_cases q5:(us++ws).any (badC us.length)=true
 ·rw [if_pos q5,run_pure (fn:=ir96) rfl rfl]
  have q3:((13:Int)<(us.length:Int))=False:=eF (by omega)
  have q4:((ws.length:Int)=n)=True:=eT (by omega)
  have h111: ∀st,run L 111 [.lst .full 1 [sl 1 nu (us.map I),sl 1 nw (ws.map I)]] st=some (sl 1 false ((us++ws).map I),st):=fun st=>
   (zah (fn:=ir111) rfl rfl st (by rfl)).trans (c111 nu nw us ws (by omega) (by omega) (by omega) st)
  have hpx:=fun n=>z0k 1 nu (us.map I) n
  have hpy:=fun n=>z0k 1 nw (ws.map I) n
  have hrx:=fun n T acc=>z1m 1 nu (us.map I) n T acc
  have hry:=fun n T acc=>z1m 1 nw (ws.map I) n T acc
  have hl96:=zn I false (us++ws)
  simp only [ir96,go_sem,hlU,hlW,q1,q2,q3,q4,h111,hl96,readA]
  generalize hg:lim (headed pure (run L) true _ lp96_0 _ _) _ _=o
  obtain ⟨x,en,s,rfl,h2⟩: ∃x en s,o=some (x,en,s)∧_:=by rw [←hg];exact zh6 (sl 1 nu (us.map I)) (sl 1 nw (ws.map I)) hpx hrx hpy hry us.length false (us++ws) (by rw [List.length_append];omega) 0 (by omega) _ _ (by simp only [go_sem,Int.natCast_zero]<;>rfl)
  clear hg
  rw [List.drop_zero,if_pos q5] at h2
  obtain ⟨rfl,e4,e5⟩:=h2
  simp only [go_sem,e4,e5]
 ·rw [if_neg q5]
  have hb:=zge (Bool.eq_false_iff.2 q5)
  obtain ⟨m,rfl⟩:=Int.eq_ofNat_of_zero_le (show 0≤n by omega)
  have e1:=z4t (A:=us) (fun a ha=>(hb a (by simp [ha])).1)
  have e2:=z4t (A:=ws) (fun a ha=>(hb a (by simp [ha])).1)
  rw [←e1,←e2]
  refine c96N m (by omega) (by omega) nu nw _ _ (fun u hu=> ?_) (fun u hu=> ?_) (by rw [lm_];omega) (by rw [lm_];omega) st
  ·rw [List.mem_map] at hu
   obtain ⟨a,ha,rfl⟩:=hu
   have:=hb a (by simp [ha])
   rw [lm_];omega
  ·rw [List.mem_map] at hu
   obtain ⟨a,ha,rfl⟩:=hu
   have:=hb a (by simp [ha])
   rw [lm_];omega
theorem zgt (n:Int)(us ws:List Int):(∀s∈(readV n us ws).2,s<256)∧(readV n us ws).2.length≤13:=by
 unfold readV
 split
 ·exact ⟨by simp,by simp⟩
 ·split
  ·exact ⟨by simp,by simp⟩
  ·split
   ·exact ⟨by simp,by simp⟩
   ·split
    ·exact ⟨by simp,by simp⟩
    ·rename_i h1 h2 h3 h4
     obtain ⟨m,rfl⟩:=Int.eq_ofNat_of_zero_le (show 0≤n by omega)
     refine ⟨zlz (n:=m) (by omega) (by rw [lm_];omega),?_⟩
     have:=zjo (U:=us.map Int.toNat) (W:=ws.map Int.toNat) (by rw [lm_];omega)
     rw [lm_] at this
     omega
theorem c28V (n:Int)(nu nw:Bool)(us ws:List Int)(hu:us.length<500)(hw:ws.length<500)(st:St):
  run L 28 [I n,.agg [sl 1 nu (us.map I),sl 1 nw (ws.map I)]] st=some (sidesA (readV n us ws),st):=by
 rw [run_pure (fn:=ir28) rfl rfl]
 have h96:=fun st=>c96V n nu nw us ws hu hw st
 obtain ⟨hlt,hle⟩:=zgt n us ws
 generalize readV n us ws=r at*
 obtain ⟨e,O⟩:=r
 dsimp only at hlt hle
 have h84:=fun st=>c84 false O hlt (by omega) st
 unfold readA at h96
 unfold sidesA
 dsimp only at h96⊢
 by_cases he:e=0
 ·subst he
  rw [if_pos rfl] at h96⊢
  simp only [ir28,go_sem,h96,h84]
 ·rw [if_neg he] at h96⊢
  have q:(e=0)=False:=eF he
  simp only [ir28,go_sem,h96,q]
theorem c30V (n:Int)(nu nw:Bool)(us ws:List Int)(hu:us.length<500)(hw:ws.length<500)(st:St):
  run L 30 [I n,.agg [sl 1 nu (us.map I),sl 1 nw (ws.map I)]] st=some (I (readV n us ws).1,st):=by
 rw [run_pure (fn:=ir30) rfl rfl]
 have h96:=fun st=>c96V n nu nw us ws hu hw st
 generalize readV n us ws=r at*
 obtain ⟨e,O⟩:=r
 unfold readA at h96
 dsimp only at h96⊢
 simp only [ir30,go_sem,h96]
structure Tree (n:Nat) (U W:List Nat):Prop where
 hU: ∀u∈U,u≤U.length
 hW: ∀w∈W,w≤U.length
 hWl:W.length=n
 hend: ∀w,w≤U.length→itC U U.length w=0
 h0:W.getD 0 0=0
 hlack: ∀c,c≤U.length→¬(min c 1+U.count c<3∧c ∉ W)
theorem zly {n:Nat} {U W:List Nat} (hU: ∀u∈U,u≤U.length)(hW: ∀w∈W,w≤U.length)(hWl:W.length=n)(h:(readN U W).1=0):Tree n U W∧readN U W=(0,outL U W)∧srtB (outL U W)=true:=by
 unfold readN at h⊢
 split at h
 ·cases h
 ·rename_i h1
  split at h
  ·cases h
  ·rename_i h2
   split at h
   ·cases h
   ·rename_i h3
    split at h
    ·rename_i h4
     rw [if_neg h1,if_neg h2,if_neg h3,if_pos h4]
     refine ⟨⟨hU,hW,hWl,?_,by simpa using h2,?_⟩,rfl,h4⟩
     ·intro w hw
      by_cases hw0:w=0
      ·rw [hw0,z12]
      ·have hlc:lostC U=false:=by simpa using h1
       unfold lostC at hlc
       rw [List.any_eq_false] at hlc
       have:=hlc (w-1) (List.mem_range.2 (by omega))
       simp only [decide_eq_true_eq,Classical.not_not] at this
       rw [show w-1+1=w by omega] at this
       exact this
     ·rintro c hc ⟨h5,h6⟩
      apply h3
      rw [z95]
      exact ⟨c,by rw [z6t];omega,by rw [z94 hU hc];exact h5,by rw [Nat.zero_add];exact h6⟩
    ·cases h
theorem zgs {n:Int} {us ws:List Int} (h:(readV n us ws).1=0): ∃(m:Nat) (U W:List Nat),n=m∧2≤m∧m≤8∧us.map I=U.map J∧ws.map I=W.map J∧us.length=U.length∧U.length≤13∧Tree m U W∧readV n us ws=(0,outL U W)∧readN U W=(0,outL U W)∧srtB (outL U W)=true:=by
 unfold readV at h⊢
 split at h
 ·cases h
 ·rename_i h1
  rw [if_neg h1]
  split at h
  ·cases h
  ·rename_i h2
   rw [if_neg h2]
   split at h
   ·cases h
   ·rename_i h3
    rw [if_neg h3]
    split at h
    ·cases h
    ·rename_i h4
     rw [if_neg h4]
     have hb:=zge (Bool.eq_false_iff.2 h4)
     obtain ⟨m,rfl⟩:=Int.eq_ofNat_of_zero_le (show 0≤n by omega)
     have e1:=z4t (A:=us) (fun a ha=>(hb a (by simp [ha])).1)
     have e2:=z4t (A:=ws) (fun a ha=>(hb a (by simp [ha])).1)
     obtain ⟨t1,t2,t3⟩:=zly (n:=m) (fun u hu=>by
      rw [List.mem_map] at hu
      obtain ⟨a,ha,rfl⟩:=hu
      have:=hb a (by simp [ha])
      rw [lm_];omega) (fun u hu=>by
      rw [List.mem_map] at hu
      obtain ⟨a,ha,rfl⟩:=hu
      have:=hb a (by simp [ha])
      rw [lm_];omega) (by rw [lm_];omega) h
     exact ⟨m,_,_,rfl,by omega,by omega,e1.symm,e2.symm,by simp,by rw [lm_];omega,t1,t2,t2,t3⟩
theorem Tree.lam {n:Nat} {U W:List Nat} (h:Tree n U W)(hn:n≤8)(h1:1≤n):Lam n (outL U W):=zef hn h.hU h.hW h.hWl h.hend h.hlack h.h0 h1
theorem Tree.is {n:Nat} {U W:List Nat} (h:Tree n U W)(hn:n≤8)(h1:1≤n):IsTree (outL U W) n U W:=zhs hn h.hU h.hW h.hWl h.hend h.hlack h.h0 h1
attribute [local go_sem] m_ x_ l_ k_ o_ t_ a_ s_ q_ b_ c_ u_ g_ zl za zg zm z0g z0f ze zi zj z6 zh z0h
def undF (U:List Nat) (c:Nat):Nat→Nat→Bool
 |0,w=>decide (w=c)
 |f+1,w=>if w=c then true else if w=0 then false else undF U c f (upC U w)
theorem z8b (U:List Nat)(c:Nat): ∀f w,undF U c f w=true↔∃t,t≤f∧itC U t w=c
 |0,w=>by
  unfold undF
  rw [decide_eq_true_eq]
  constructor
  ·intro h;exact ⟨0,Nat.le_refl _,h⟩
  ·rintro ⟨t,h,e⟩
   have:t=0:=by omega
   subst this;exact e
 |f+1,w=>by
  have ih:=z8b U c f (upC U w)
  unfold undF
  by_cases h:w=c
  ·rw [if_pos h]
   exact ⟨fun _=>⟨0,by omega,h⟩,fun _=>rfl⟩
  ·rw [if_neg h]
   by_cases h0:w=0
   ·rw [if_pos h0]
    constructor
    ·intro h;cases h
    ·rintro ⟨t,_,e⟩
     subst h0
     rw [z12] at e
     exact absurd e h
   ·rw [if_neg h0,ih]
    constructor
    ·rintro ⟨t,h1,e⟩;exact ⟨t+1,by omega,e⟩
    ·rintro ⟨t,h1,e⟩
     cases t with
     |zero=>exact absurd e h
     |succ t=>exact ⟨t,by omega,e⟩
theorem c99 (nu nw:Bool)(U W:List Nat)(hU: ∀u∈U,u≤U.length)(hl:U.length≤13)(c:Nat): ∀f w,f≤20→w≤U.length→∀st,run L 99 [.agg [sl 1 nu (U.map J),sl 1 nw (W.map J)],J w,J c,J f] st=some (B (undF U c f w),st)
 |0,w,_,hw,st=>by
  rw [run_pure (fn:=ir99) rfl rfl]
  unfold undF
  by_cases h:w=c
  ·have q:((w:Int)=(c:Int))=True:=eT (by omega)
   rw [decide_eq_true h]
   simp only [ir99,go_sem,q]
  ·have q:((w:Int)=(c:Int))=False:=eF (by omega)
   rw [decide_eq_false h]
   by_cases h0:w=0
   ·have q0:((w:Int)=0)=True:=eT (by omega)
    simp only [ir99,go_sem,q,q0]
   ·have q0:((w:Int)=0)=False:=eF (by omega)
    simp only [ir99,go_sem,q,q0,Int.natCast_zero]
 |f+1,w,hf,hw,st=>by
  rw [run_pure (fn:=ir99) rfl rfl]
  unfold undF
  by_cases h:w=c
  ·have q:((w:Int)=(c:Int))=True:=eT (by omega)
   rw [if_pos h]
   simp only [ir99,go_sem,q]
  ·have q:((w:Int)=(c:Int))=False:=eF (by omega)
   rw [if_neg h]
   by_cases h0:w=0
   ·have q0:((w:Int)=0)=True:=eT (by omega)
    rw [if_pos h0]
    simp only [ir99,go_sem,q,q0]
   ·have q0:((w:Int)=0)=False:=eF (by omega)
    have q1:(((f+1:Nat):Int)=0)=False:=eF (by omega)
    rw [if_neg h0]
    have hm:IntKind.i64.wrap ((w:Int)-1)=((w-1:Nat):Int):=by
     rw [←w64 (w-1) (by omega)];congr 1;omega
    have hm2:IntKind.i64.wrap (((f+1:Nat):Int)-1)=(f:Int):=by
     rw [z06]<;>omega
    have hx:=z08 J nu U (w-1) (by omega)
    have hup:upC U w=U[w-1]'(by omega):=by
     unfold upC;rw [if_neg h0,List.getD_eq_getElem?_getD,List.getElem?_eq_getElem (by omega)];rfl
    have hle:=hU (U[w-1]'(by omega)) (List.getElem_mem _)
    rw [hup]
    generalize U[w-1]'(by omega)=u at*
    have ih:=c99 nu nw U W hU hl c f u (by omega) hle
    simp only [ir99,go_sem,q,q0,q1,hm,hm2,hx,ih]
def belF (U W:List Nat) (c i:Nat):List Int:=((List.range' i (W.length-i)).filter fun a=>undF U c U.length (W.getD a 0)).map fun (a:Nat)=>(a:Int)
theorem zno (U W:List Nat)(c i:Nat)(h:i<W.length):belF U W c i=if undF U c U.length (W.getD i 0)=true then (i:Int)::belF U W c (i+1) else belF U W c (i+1):=by
 unfold belF
 rw [show W.length-i=(W.length-(i+1))+1 by omega,List.range'_succ,List.filter_cons]
 split<;>rfl
theorem zpi (U W:List Nat)(c i:Nat)(h: ¬i<W.length):belF U W c i=[]:=by
 unfold belF
 rw [show W.length-i=0 by omega];rfl
theorem loop97 (nu nw:Bool)(U W:List Nat)(hU: ∀u∈U,u≤U.length)(hW: ∀w∈W,w≤U.length)(hl:U.length≤13)(hWl:W.length≤8)(c:Nat)(i:Nat)(o:List Int)(hok:i≤W.length∧o.length≤i)(env:Env)(st:St)
  (hg:gcAV true 1 0 (canon env [1,2,5,6]) st=([(1,J c),(2,.ptr 0 0),(5,oA (o.map I)),(6,J i)],⟨[[sl 1 nu (U.map J),sl 1 nw (W.map J)]],oT (o.map I)⟩)):
  ∃x_1 en s,lim (headed pure (run L) true [1,2,5,6] lp97_0 1 0) env st=some (x_1,en,s)∧(x_1=.exit 0∧en.get 5=oA ((o++belF U W c i).map I)∧∃S,s=⟨S,oT ((o++belF U W c i).map I)⟩):=by
 refine z7 (α:=Nat×List Int) (fun ⟨i,o⟩=>W.length-i) (fun ⟨i,o⟩=>i≤W.length∧o.length≤i) (fun ⟨i,o⟩=>([(1,J c),(2,.ptr 0 0),(5,oA (o.map I)),(6,J i)],⟨[[sl 1 nu (U.map J),sl 1 nw (W.map J)]],oT (o.map I)⟩)) (fun ⟨i,o⟩ x_1 en s=>x_1=.exit 0∧en.get 5=oA ((o++belF U W c i).map I)∧∃S,s=⟨S,oT ((o++belF U W c i).map I)⟩) (fun ⟨i,o⟩ hok=> ?_) ⟨i,o⟩ hok env st hg
 simp only at hok
 obtain ⟨h1,h2⟩:=hok
 dsimp only at h1 h2⊢
 have hlU:=zn J nu U
 have hlW:=zn J nw W
 by_cases h:i<W.length
 ·have hs:=zd i (by omega)
  have hlt:((i:Int)<(W.length:Int))=True:=eT (by omega)
  have hx:=z08 J nw W i h
  have hg:W.getD i 0=W[i]:=by rw [List.getD_eq_getElem?_getD,List.getElem?_eq_getElem h];rfl
  have hw:=hW W[i] (List.getElem_mem h)
  rw [zno U W c i h,hg]
  generalize W[i]=w at*
  have h99:=c99 nu nw U W hU hl c U.length w (by omega) hw
  cases hb:undF U c U.length w with
  |true=>
   rw [hb] at h99
   rw [if_pos rfl]
   have happ:=fun S=>z65 (o.map I) (J i) S (by rw [lm_];omega)
   simp only [go_sem,lp97_0,hlU,hlW,hlt,hs,hx,h99,happ]
   refine ⟨(i+1,o++ [(i:Int)]),by simp only [go_sem,z3,z4,z5,z8m,z2u,List.map_append]<;>rfl,?_,?_,fun x en s hq=> ?_⟩
   ·dsimp only;rw [List.length_append,List.length_singleton];omega
   ·dsimp only;omega
   ·simp only [List.append_assoc,List.singleton_append] at hq;exact hq
  |false=>
   rw [hb] at h99
   rw [if_neg (by simp)]
   simp only [go_sem,lp97_0,hlU,hlW,hlt,hs,hx,h99]
   refine ⟨(i+1,o),by simp only [go_sem,z3,z4,z5,z8m,z2u]<;>rfl,?_,?_,fun x en s hq=> ?_⟩
   ·dsimp only;omega
   ·dsimp only;omega
   ·exact hq
 ·have hlt:((i:Int)<(W.length:Int))=False:=eF (by omega)
  rw [zpi U W c i h,List.append_nil]
  simp only [go_sem,lp97_0,hlU,hlW,hlt]
  exact ⟨_,rfl⟩
theorem c97 (nu nw:Bool)(U W:List Nat)(hU: ∀u∈U,u≤U.length)(hW: ∀w∈W,w≤U.length)(hl:U.length≤13)(hWl:W.length≤8)(c:Nat)(st:St):run L 97 [.agg [sl 1 nu (U.map J),sl 1 nw (W.map J)],J c] st=some (tAV (belF U W c 0),st):=by
 rw [run_pure (fn:=ir97) rfl rfl]
 simp only [ir97,go_sem]
 generalize hg:lim (headed pure (run L) true _ lp97_0 _ _) _ _=o
 obtain ⟨x,en,s,rfl,h2⟩: ∃x en s,o=some (x,en,s)∧_:=by rw [←hg];exact loop97 nu nw U W hU hW hl hWl c 0 [] ⟨by omega,by simp⟩ _ _ (by simp only [go_sem,Int.natCast_zero,List.map_nil,zbc,zbd]<;>rfl)
 clear hg
 rw [List.nil_append] at h2
 obtain ⟨rfl,h3,S,rfl⟩:=h2
 simp only [go_sem,h3]
 rfl
theorem znp {n:Nat} (hn:n≤8) {U W:List Nat} (hU: ∀u∈U,u≤U.length)(hW: ∀w∈W,w≤U.length)(hWl:W.length=n)(hend: ∀w,w≤U.length→itC U U.length w=0) {k:Nat} (hk:k<U.length):belF U W (k+1) 0=memb ((outL U W).getD k 0):=by
 have h8:(outL U W).getD k 0<512:=by
  have:(outL U W).getD k 0<2^8:=by
   apply Nat.lt_pow_two_of_testBit
   intro i hi
   cases hc:((outL U W).getD k 0).testBit i
   ·rfl
   ·have:=((sb hn hU hW hWl hend hk i).1 hc).1;omega
  omega
 apply ze9
 ·unfold belF
  rw [List.pairwise_map]
  exact ((List.pairwise_lt_range' (s:=0) (n:=W.length-0)).sublist List.filter_sublist).imp (fun h=>by omega)
 ·exact z8z _
 ·intro a
  rw [z1p h8]
  unfold belF
  rw [List.mem_map]
  constructor
  ·rintro ⟨i,hi,rfl⟩
   rw [List.mem_filter,List.mem_range'_1,z8b] at hi
   obtain ⟨hi,t,_,ht⟩:=hi
   exact ⟨i,rfl,(sb hn hU hW hWl hend hk i).2 ⟨by omega,t,ht⟩⟩
  ·rintro ⟨i,rfl,hi⟩
   obtain ⟨h1,t,ht⟩:=(sb hn hU hW hWl hend hk i).1 hi
   refine ⟨i,?_,rfl⟩
   rw [List.mem_filter,List.mem_range'_1,z8b]
   refine ⟨by omega,t,?_,ht⟩
   apply Nat.le_of_not_lt;intro hlt
   have hw:=hend (W.getD i 0) (hW _ (zw (by omega)))
   rw [show t=U.length+(t-U.length) by omega,z0d,hw,z12] at ht
   omega
theorem c97M {n:Nat} (hn:n≤8)(nu nw:Bool) {U W:List Nat} (hU: ∀u∈U,u≤U.length)(hW: ∀w∈W,w≤U.length)(hl:U.length≤13)(hWl:W.length=n)(hend: ∀w,w≤U.length→itC U U.length w=0) {k:Nat} (hk:k<U.length)(st:St):
  run L 97 [.agg [sl 1 nu (U.map J),sl 1 nw (W.map J)],J (k+1:Nat)] st=some (tM ((outL U W).getD k 0),st):=by
 have h:=c97 nu nw U W hU hW hl (by omega) (k+1) st
 rw [znp hn hU hW hWl hend hk] at h
 exact h
theorem zpa (g:Tag)(A:List Int)(i:Nat)(h:i<A.length):indexSAV 1 (.lst g 1 (A.map I)) (.v (.int .i64 (i:Int)))=some (.eptr (I A[i]) 0):=by
 have e:(A.map I)[i]? =some (I A[i]):=by simp [h]
 simp only [indexSAV,natOf,Int.toNat_natCast,e]
 simp
theorem zms (nu nw:Bool)(us ws:List Int)(hus:us.length≤40)(A:List Int)(hA:A.length<1000)(i:Nat)(hok:i≤A.length)(env:Env)(st:St)
  (hg:gcAV true 1 1 (canon env [3,5,6]) st=([(3,.ptr 0 0),(5,.lst (.own 0 A.length) 1 (A.map I)),(6,J i)],⟨[[sl 1 nu (us.map I),sl 1 nw (ws.map I)]],[A.length]⟩)):
  ∃x_1 en s,lim (headed pure (run L) true [3,5,6] lp31_0 1 1) env st=some (x_1,en,s)∧(((A.drop i).any (badC us.length)=true∧x_1=.ret∧en.get 4=I 2)∨((A.drop i).any (badC us.length)=false∧x_1=.exit 0∧en.get 3=.ptr 0 0∧s=⟨[[sl 1 nu (us.map I),sl 1 nw (ws.map I)]],[A.length]⟩)):=by
 refine z7 (α:=Nat) (fun i=>A.length-i) (fun i=>i≤A.length) (fun i=>([(3,.ptr 0 0),(5,.lst (.own 0 A.length) 1 (A.map I)),(6,J i)],⟨[[sl 1 nu (us.map I),sl 1 nw (ws.map I)]],[A.length]⟩)) (fun i x_1 en s=>((A.drop i).any (badC us.length)=true∧x_1=.ret∧en.get 4=I 2)∨((A.drop i).any (badC us.length)=false∧x_1=.exit 0∧en.get 3=.ptr 0 0∧s=⟨[[sl 1 nu (us.map I),sl 1 nw (ws.map I)]],[A.length]⟩)) (fun i hok=> ?_) i hok env st hg
 have hlU:=zn I nu us
 by_cases h:i<A.length
 ·have hx:=zpa (.own 0 A.length) A i h
  have hs:=zd i (by omega)
  have hd:A.drop i=A[i]::A.drop (i+1):=List.drop_eq_getElem_cons h
  have hlt:((i:Int)<(A.length:Int))=True:=eT (by omega)
  rw [hd,List.any_cons]
  generalize A[i]=a at*
  have h98:=fun st=>c98 a 0 (us.length:Int) st
  by_cases p:0≤a∧a≤(us.length:Int)
  ·have e:badC us.length a=false:=by unfold badC;rw [decide_eq_false (by omega),decide_eq_false (by omega)];rfl
   rw [decide_eq_true p] at h98
   rw [e,Bool.false_or]
   simp only [go_sem,lp31_0,hlU,hlt,hs,hx,h98,lm_]
   refine ⟨i+1,by simp only [go_sem,z3,z4,z5]<;>rfl,?_,?_,fun x en s hq=> ?_⟩
   ·omega
   ·omega
   ·exact hq
  ·have e:badC us.length a=true:=by
    unfold badC
    by_cases h0:a<0
    ·rw [decide_eq_true h0];rfl
    ·rw [decide_eq_true (show (us.length:Int)<a by omega),Bool.or_true]
   rw [decide_eq_false p] at h98
   rw [e,Bool.true_or]
   simp only [go_sem,lp31_0,hlU,hlt,hx,h98,lm_]
 ·have hd:A.drop i=[]:=List.drop_eq_nil_of_le (by omega)
  have hlt:((i:Int)<(A.length:Int))=False:=eF (by omega)
  rw [hd,List.any_nil]
  simp only [go_sem,lp31_0,hlU,hlt,lm_]
def lostR (U:List Nat) (i:Nat):Bool:=(List.range' i (U.length+1-i)).any fun c=> !undF U 0 U.length c
theorem zid (U:List Nat)(i:Nat)(h:i≤U.length):lostR U i=(!undF U 0 U.length i||lostR U (i+1)):=by
 unfold lostR
 rw [show U.length+1-i=(U.length+1-(i+1))+1 by omega,List.range'_succ,List.any_cons]
theorem zk4 (U:List Nat)(i:Nat)(h: ¬i≤U.length):lostR U i=false:=by
 unfold lostR
 rw [show U.length+1-i=0 by omega];rfl
theorem zmr (nu nw:Bool)(U W:List Nat)(hU: ∀u∈U,u≤U.length)(hl:U.length≤13)(k:Nat)(i:Nat)(hok:i≤U.length+1)(env:Env)(st:St)
  (hg:gcAV true 1 1 (canon env [3,7]) st=([(3,.ptr 0 0),(7,J i)],⟨[[sl 1 nu (U.map J),sl 1 nw (W.map J)]],[k]⟩)):
  ∃x_1 en s,lim (headed pure (run L) true [3,7] lp31_1 1 1) env st=some (x_1,en,s)∧((lostR U i=true∧x_1=.ret∧en.get 4=I 12)∨(lostR U i=false∧x_1=.exit 2∧en.get 3=.ptr 0 0∧s=⟨[[sl 1 nu (U.map J),sl 1 nw (W.map J)]],[k]⟩)):=by
 refine z7 (α:=Nat) (fun i=>U.length+1-i) (fun i=>i≤U.length+1) (fun i=>([(3,.ptr 0 0),(7,J i)],⟨[[sl 1 nu (U.map J),sl 1 nw (W.map J)]],[k]⟩)) (fun i x_1 en s=>(lostR U i=true∧x_1=.ret∧en.get 4=I 12)∨(lostR U i=false∧x_1=.exit 2∧en.get 3=.ptr 0 0∧s=⟨[[sl 1 nu (U.map J),sl 1 nw (W.map J)]],[k]⟩)) (fun i hok=> ?_) i hok env st hg
 have hlU:=zn J nu U
 by_cases h:i≤U.length
 ·have hs:=zd i (by omega)
  have hlt:((i:Int)≤(U.length:Int))=True:=eT (by omega)
  have h99:=c99 nu nw U W hU hl 0 U.length i (by omega) h
  rw [zid U i h]
  rw [show J 0=I 0 from rfl] at h99
  cases hb:undF U 0 U.length i with
  |true=>
   rw [hb] at h99
   rw [Bool.not_true,Bool.false_or]
   simp only [go_sem,lp31_1,hlU,hlt,hs,h99]
   refine ⟨i+1,by simp only [go_sem,z3,z4,z5]<;>rfl,?_,?_,fun x en s hq=> ?_⟩
   ·omega
   ·omega
   ·exact hq
  |false=>
   rw [hb] at h99
   rw [Bool.not_false,Bool.true_or]
   simp only [go_sem,lp31_1,hlU,hlt,h99]
 ·have hlt:((i:Int)≤(U.length:Int))=False:=eF (by omega)
  rw [zk4 U i h]
  simp only [go_sem,lp31_1,hlU,hlt]
theorem zmq (nu nw:Bool)(U W:List Nat)(hl:U.length≤13)(k c:Nat)(i:Nat)(q:Nat)(hok:i≤U.length∧q≤i+1)(env:Env)(st:St)
  (hg:gcAV true 1 1 (canon env [3,8,9,10]) st=([(3,.ptr 0 0),(8,J c),(9,J q),(10,J i)],⟨[[sl 1 nu (U.map J),sl 1 nw (W.map J)]],[k]⟩)):
  ∃x_1 en s,lim (headed pure (run L) true [3,8,9,10] lp31_2 1 1) env st=some (x_1,en,s)∧(x_1=.exit 6∧en.get 3=.ptr 0 0∧en.get 8=J c∧en.get 9=J (q+(U.drop i).count c)∧s=⟨[[sl 1 nu (U.map J),sl 1 nw (W.map J)]],[k]⟩):=by
 refine z7 (α:=Nat×Nat) (fun ⟨i,q⟩=>U.length-i) (fun ⟨i,q⟩=>i≤U.length∧q≤i+1) (fun ⟨i,q⟩=>([(3,.ptr 0 0),(8,J c),(9,J q),(10,J i)],⟨[[sl 1 nu (U.map J),sl 1 nw (W.map J)]],[k]⟩)) (fun ⟨i,q⟩ x_1 en s=>x_1=.exit 6∧en.get 3=.ptr 0 0∧en.get 8=J c∧en.get 9=J (q+(U.drop i).count c)∧s=⟨[[sl 1 nu (U.map J),sl 1 nw (W.map J)]],[k]⟩) (fun ⟨i,q⟩ hok=> ?_) ⟨i,q⟩ hok env st hg
 simp only at hok
 obtain ⟨h1,h2⟩:=hok
 dsimp only at h1 h2⊢
 have hlU:=zn J nu U
 by_cases h:i<U.length
 ·have hs:=zd i (by omega)
  have hsq:=zd q (by omega)
  have hlt:((i:Int)<(U.length:Int))=True:=eT (by omega)
  have hx:=z08 J nu U i h
  have hd:U.drop i=U[i]::U.drop (i+1):=List.drop_eq_getElem_cons h
  rw [hd,List.count_cons]
  generalize U[i]=u at*
  by_cases p:u=c
  ·have e:((u:Int)=(c:Int))=True:=eT (by omega)
   rw [if_pos (by simpa using p),show q+((U.drop (i+1)).count c+1)=(q+1)+(U.drop (i+1)).count c by omega]
   simp only [go_sem,lp31_2,hlU,hlt,hs,hsq,hx,e]
   refine ⟨(i+1,q+1),by simp only [go_sem,z3,z4,z5]<;>rfl,?_,?_,fun x en s hq=> ?_⟩
   ·dsimp only;omega
   ·dsimp only;omega
   ·exact hq
  ·have e:((u:Int)=(c:Int))=False:=eF (by omega)
   rw [if_neg (by simpa using p),Nat.add_zero]
   simp only [go_sem,lp31_2,hlU,hlt,hs,hx,e]
   refine ⟨(i+1,q),by simp only [go_sem,z3,z4,z5]<;>rfl,?_,?_,fun x en s hq=> ?_⟩
   ·dsimp only;omega
   ·dsimp only;omega
   ·exact hq
 ·have e:U.drop i=[]:=List.drop_eq_nil_of_le (by omega)
  have hlt:((i:Int)<(U.length:Int))=False:=eF (by omega)
  rw [e,List.count_nil,Nat.add_zero]
  simp only [go_sem,lp31_2,hlU,hlt]
def lackR (U W:List Nat) (i:Nat):Bool:=(List.range' i (U.length+1-i)).any fun c=>lackB W c (min c 1+U.count c)
theorem zii (U W:List Nat)(i:Nat)(h:i≤U.length):lackR U W i=(lackB W i (min i 1+U.count i)||lackR U W (i+1)):=by
 unfold lackR
 rw [show U.length+1-i=(U.length+1-(i+1))+1 by omega,List.range'_succ,List.any_cons]
theorem zkh (U W:List Nat)(i:Nat)(h: ¬i≤U.length):lackR U W i=false:=by
 unfold lackR
 rw [show U.length+1-i=0 by omega];rfl
theorem memJ (W:List Nat)(c:Nat):((c:Int)∈W.map fun (x:Nat)=>(x:Int))↔c∈W:=by
 rw [List.mem_map]
 constructor
 ·rintro ⟨x,hx,e⟩
  have:x=c:=by omega
  subst this;exact hx
 ·intro h;exact ⟨c,h,rfl⟩
theorem zmp (nu nw:Bool)(U W:List Nat)(hl:U.length≤13)(hWl:W.length≤8)(k:Nat)(i:Nat)(hok:i≤U.length+1)(env:Env)(st:St)
  (hg:gcAV true 1 1 (canon env [3,8]) st=([(3,.ptr 0 0),(8,J i)],⟨[[sl 1 nu (U.map J),sl 1 nw (W.map J)]],[k]⟩)):
  ∃x_1 en s,lim (headed pure (run L) true [3,8] lp31_3 1 1) env st=some (x_1,en,s)∧((lackR U W i=true∧x_1=.ret∧en.get 4=I 4)∨(lackR U W i=false∧x_1=.exit 4∧en.get 3=.ptr 0 0∧s=⟨[[sl 1 nu (U.map J),sl 1 nw (W.map J)]],[k]⟩)):=by
 refine z7 (α:=Nat) (fun i=>U.length+1-i) (fun i=>i≤U.length+1) (fun i=>([(3,.ptr 0 0),(8,J i)],⟨[[sl 1 nu (U.map J),sl 1 nw (W.map J)]],[k]⟩)) (fun i x_1 en s=>(lackR U W i=true∧x_1=.ret∧en.get 4=I 4)∨(lackR U W i=false∧x_1=.exit 4∧en.get 3=.ptr 0 0∧s=⟨[[sl 1 nu (U.map J),sl 1 nw (W.map J)]],[k]⟩)) (fun i hok=> ?_) i hok env st hg
 have hlU:=zn J nu U
 by_cases h:i≤U.length
 ·have hs:=zd i (by omega)
  have hlt:((i:Int)≤(U.length:Int))=True:=eT (by omega)
  have hmin:min (i:Int) 1=((min i 1:Nat):Int):=by omega
  have h100:=fun st=>c100 nw (W.map fun (x:Nat)=>(x:Int)) (by rw [lm_];omega) (i:Int) st
  rw [mapJ] at h100
  rw [zii U W i h]
  simp only [go_sem,lp31_3,hlU,hlt,hmin]
  generalize hg:lim (headed pure (run L) true _ lp31_2 _ _) _ _=o
  obtain ⟨x,en,s,rfl,h2⟩: ∃x en s,o=some (x,en,s)∧_:=by rw [←hg];exact zmq nu nw U W hl k i 0 (min i 1) ⟨by omega,by omega⟩ _ _ (by simp only [go_sem,Int.natCast_zero]<;>rfl)
  clear hg
  rw [List.drop_zero] at h2
  obtain ⟨rfl,e3,e8,e9,rfl⟩:=h2
  have hcl:=List.count_le_length (l:=U) (a:=i)
  have hlb:lackB W i (min i 1+U.count i)=(decide (min i 1+U.count i<3)&&decide (i ∉ W)):=rfl
  rw [hlb]
  generalize min i 1+U.count i=z at*
  by_cases p:z<3
  ·have p2:((z:Int)<3)=True:=eT (by omega)
   rw [decide_eq_true p,Bool.true_and]
   by_cases hin:i∈W
   ·rw [decide_eq_true ((memJ W i).2 hin)] at h100
    rw [decide_eq_false (fun h=>h hin),Bool.false_or]
    simp only [go_sem,lp31_3,hlU,e3,e8,e9,p2,h100,hs]
    refine ⟨i+1,by simp only [go_sem,z3,z4,z5,e3,e8]<;>rfl,?_,?_,fun x en s hq=> ?_⟩
    ·omega
    ·omega
    ·exact hq
   ·rw [decide_eq_false (fun h=>hin ((memJ W i).1 h))] at h100
    rw [decide_eq_true hin,Bool.true_or]
    simp only [go_sem,lp31_3,hlU,e3,e8,e9,p2,h100]
  ·have p2:((z:Int)<3)=False:=eF (by omega)
   rw [decide_eq_false p,Bool.false_and,Bool.false_or]
   simp only [go_sem,lp31_3,hlU,e3,e8,e9,p2,hs]
   refine ⟨i+1,by simp only [go_sem,z3,z4,z5,e3,e8]<;>rfl,?_,?_,fun x en s hq=> ?_⟩
   ·omega
   ·omega
   ·exact hq
 ·have hlt:((i:Int)≤(U.length:Int))=False:=eF (by omega)
  rw [zkh U W i h]
  simp only [go_sem,lp31_3,hlU,hlt]
def ordR (L:List Nat) (m i:Nat):Bool:=(List.range' i (m+1-i)).any fun k=> !lexM (L.getD (k-2) 0) (L.getD (k-1) 0)
theorem zjt (L:List Nat)(m i:Nat)(h:i≤m):ordR L m i=(!lexM (L.getD (i-2) 0) (L.getD (i-1) 0)||ordR L m (i+1)):=by
 unfold ordR
 rw [show m+1-i=(m+1-(i+1))+1 by omega,List.range'_succ,List.any_cons]
theorem zm6 (L:List Nat)(m i:Nat)(h: ¬i≤m):ordR L m i=false:=by
 unfold ordR
 rw [show m+1-i=0 by omega];rfl
theorem zmo (n:Nat)(hn:n≤8)(nu nw:Bool)(U W:List Nat)(hU: ∀u∈U,u≤U.length)(hW: ∀w∈W,w≤U.length)(hl:U.length≤13)(hWl:W.length=n)(hend: ∀w,w≤U.length→itC U U.length w=0)(k:Nat)(i:Nat)(hok:2≤i∧i≤U.length+2)(env:Env)(st:St)
  (hg:gcAV true 1 1 (canon env [3,11]) st=([(3,.ptr 0 0),(11,J i)],⟨[[sl 1 nu (U.map J),sl 1 nw (W.map J)]],[k]⟩)):
  ∃x_1 en s,lim (headed pure (run L) true [3,11] lp31_4 1 1) env st=some (x_1,en,s)∧((ordR (outL U W) U.length i=true∧x_1=.ret∧en.get 4=I 7)∨(ordR (outL U W) U.length i=false∧x_1=.exit 8)):=by
 refine z7 (α:=Nat) (fun i=>U.length+2-i) (fun i=>2≤i∧i≤U.length+2) (fun i=>([(3,.ptr 0 0),(11,J i)],⟨[[sl 1 nu (U.map J),sl 1 nw (W.map J)]],[k]⟩)) (fun i x_1 en s=>(ordR (outL U W) U.length i=true∧x_1=.ret∧en.get 4=I 7)∨(ordR (outL U W) U.length i=false∧x_1=.exit 8)) (fun i hok=> ?_) i hok env st hg
 obtain ⟨h1,h2⟩:=hok
 have hlU:=zn J nu U
 by_cases h:i≤U.length
 ·have hs:=zd i (by omega)
  have hlt:((i:Int)≤(U.length:Int))=True:=eT (by omega)
  have hm:IntKind.i64.wrap ((i:Int)-1)=((i-1:Nat):Int):=by
   rw [←w64 (i-1) (by omega)];congr 1;omega
  have ha:=fun st=>c97M hn nu nw hU hW hl hWl hend (k:=i-2) (by omega) st
  have hb:=fun st=>c97M hn nu nw hU hW hl hWl hend (k:=i-1) (by omega) st
  rw [show i-2+1=i-1 by omega] at ha
  rw [show i-1+1=i by omega] at hb
  rw [zjt _ _ i h]
  generalize (outL U W).getD (i-2) 0=a at*
  generalize (outL U W).getD (i-1) 0=b at*
  have hma:=z03 a
  have hc: ∀st,run L 101 [tM a,tM b] st=some (B (lexM a b),st):=fun st=>c101 true true (memb a) (memb b) (by omega) st
  cases hx:lexM a b with
  |true=>
   rw [hx] at hc
   rw [Bool.not_true,Bool.false_or]
   simp only [go_sem,lp31_4,hlU,hlt,hs,hm,ha,hb,hc]
   refine ⟨i+1,by simp only [go_sem,z3,z4,z5]<;>rfl,?_,?_,fun x en s hq=> ?_⟩
   ·omega
   ·omega
   ·exact hq
  |false=>
   rw [hx] at hc
   rw [Bool.not_false,Bool.true_or]
   simp only [go_sem,lp31_4,hlU,hlt,hm,ha,hb,hc]
 ·have hlt:((i:Int)≤(U.length:Int))=False:=eF (by omega)
  rw [zm6 _ _ i h]
  simp only [go_sem,lp31_4,hlU,hlt]
attribute [local go_sem] m_ x_ l_ k_ o_ t_ a_ s_ q_ b_ c_ u_ g_ zl za zg zm z0g z0f ze zi zj z6 zh z0h
theorem zp6 (U:List Nat) {t m c:Nat} (h:itC U t c=0)(hm:t≤m):itC U m c=0:=by
 rw [show m=t+(m-t) by omega,z0d,h,z12]
theorem zos (U:List Nat):lostR U 1=lostC U:=by
 rw [Bool.eq_iff_iff]
 unfold lostR lostC
 rw [List.any_eq_true,List.any_eq_true]
 constructor
 ·rintro ⟨c,hc,h⟩
  rw [List.mem_range'_1] at hc
  refine ⟨c-1,List.mem_range.2 (by omega),?_⟩
  rw [decide_eq_true_eq,show c-1+1=c by omega]
  intro h0
  rw [Bool.not_eq_true',←Bool.not_eq_true] at h
  exact h ((z8b U 0 U.length c).2 ⟨U.length,Nat.le_refl _,h0⟩)
 ·rintro ⟨c,hc,h⟩
  have hc:=List.mem_range.1 hc
  rw [decide_eq_true_eq] at h
  refine ⟨c+1,by rw [List.mem_range'_1];omega,?_⟩
  rw [Bool.not_eq_true',←Bool.not_eq_true,z8b]
  rintro ⟨t,ht,e⟩
  exact h (zp6 U e ht)
theorem zp4 {U:List Nat} (hU: ∀u∈U,u≤U.length)(W:List Nat):lackR U W 0=lackF W 0 (laneL U):=by
 rw [Bool.eq_iff_iff,z95]
 unfold lackR
 rw [List.any_eq_true]
 constructor
 ·rintro ⟨c,hc,h⟩
  rw [List.mem_range'_1] at hc
  unfold lackB at h
  rw [Bool.and_eq_true,decide_eq_true_eq,decide_eq_true_eq] at h
  exact ⟨c,by rw [z6t];omega,by rw [z94 hU (by omega)];exact h.1,by rw [Nat.zero_add];exact h.2⟩
 ·rintro ⟨c,hc,h1,h2⟩
  rw [z6t] at hc
  rw [z94 hU (by omega)] at h1
  rw [Nat.zero_add] at h2
  refine ⟨c,by rw [List.mem_range'_1];omega,?_⟩
  unfold lackB
  rw [Bool.and_eq_true,decide_eq_true_eq,decide_eq_true_eq]
  exact ⟨h1,h2⟩
theorem zp3 {a b:Nat} (ha:a<512)(hb:b<512)(hne:a≠b):lexM a b= !lexM b a:=by
 unfold lexM
 cases h1:lexLt (memb a) (memb b)
 ·cases h2:lexLt (memb b) (memb a)
  ·exact absurd (zds ha hb (z93 _ _ h1 h2)) hne
  ·rfl
 ·rw [zf3 h1];rfl
theorem ord_eq {L:List Nat} (h8: ∀s∈L,s<512)(hnd:L.Nodup):ordR L L.length 2= !srtB L:=by
 have key: ∀j,j+1<L.length→lexM (L.getD j 0) (L.getD (j+1) 0)= !lexM (L.getD (j+1) 0) (L.getD j 0):=by
  intro j hj
  apply zp3 (h8 _ (zw (by omega))) (h8 _ (zw hj))
  intro e
  have:=zdr hnd (by omega) hj e
  omega
 rw [Bool.eq_iff_iff,Bool.not_eq_true',←Bool.not_eq_true]
 unfold ordR srtB
 rw [List.any_eq_true,List.all_eq_true]
 constructor
 ·rintro ⟨k,hk,h⟩ hall
  rw [List.mem_range'_1] at hk
  have h1:=hall (k-2) (List.mem_range.2 (by omega))
  have h2:=key (k-2) (by omega)
  rw [show k-2+1=k-1 by omega] at h1 h2
  rw [h2] at h
  unfold lexM at h
  rw [h1] at h;cases h
 ·intro hno
  apply Classical.byContradiction
  intro hex
  apply hno
  intro j hj
  have hj:=List.mem_range.1 hj
  cases hc:(!lexLt (memb (L.getD (j+1) 0)) (memb (L.getD j 0)))
  ·exfalso
   apply hex
   refine ⟨j+2,by rw [List.mem_range'_1];omega,?_⟩
   rw [show j+2-2=j by omega,show j+2-1=j+1 by omega,key j (by omega)]
   unfold lexM
   rw [hc];rfl
  ·rfl
theorem c31 (n:Int)(nu nw:Bool)(us ws:List Int)(hu:us.length≤40)(hw:ws.length≤40)(st:St):
  run L 31 [I n,.agg [sl 1 nu (us.map I),sl 1 nw (ws.map I)]] st=some (I (readV n us ws).1,st):=by
 rw [run_pure (fn:=ir31) rfl rfl]
 have hlU:=zn I nu us
 have hlW:=zn I nw ws
 have h98:=fun st=>c98 n 2 8 st
 unfold readV
 by_cases q1:n<2∨8<n
 ·rw [if_pos q1]
  rw [decide_eq_false (by omega)] at h98
  simp only [ir31,go_sem,h98]
 rw [if_neg q1]
 rw [decide_eq_true (by omega)] at h98
 by_cases q3:13<us.length
 ·rw [if_pos q3]
  have q3:((13:Int)<(us.length:Int))=True:=eT (by omega)
  simp only [ir31,go_sem,h98,hlU,q3]
 rw [if_neg q3]
 have q3:((13:Int)<(us.length:Int))=False:=eF (by omega)
 by_cases q4:(ws.length:Int)≠n
 ·rw [if_pos q4]
  simp only [ir31,go_sem,h98,hlU,hlW,q3,q4]
 rw [if_neg q4]
 have q4:((ws.length:Int)=n)=True:=eT (by omega)
 have hne:us++ws≠[]:=by
  intro h
  have:=congrArg List.length h
  rw [List.length_append,List.length_nil] at this
  omega
 have hAl:((us++ws).map I).length≠0:=by simpa using hne
 have a1: ∀S,appendAV 1 (.lst .full 1 []) (us.map I) ⟨S,[]⟩=some (pA (us.map I),⟨S,oT (us.map I)⟩):=fun S=>z9h [] (us.map I) S (by simp;omega)
 have a2:=fun S=>z9h (us.map I) (ws.map I) S (by simp;omega)
 rw [←List.map_append] at a2
 have hpo:pA ((us++ws).map I)=.lst (.own 0 (us++ws).length) 1 ((us++ws).map I):=by
  rw [pA_ne (by simpa using hne)]
  unfold oA loc
  rw [if_neg hAl,lm_]
 have hto:oT ((us++ws).map I)=[(us++ws).length]:=by
  unfold oT locT
  rw [if_neg hAl,lm_]
 rw [hpo,hto] at a2
 have hAlen:(us++ws).length<1000:=by rw [List.length_append];omega
 have hbad:=fun h=> @zge us.length (us++ws) h
 generalize hA:us++ws=A at*
 simp only [ir31,go_sem,h98,hlU,hlW,q3,q4,a1,a2]
 generalize hg:lim (headed pure (run L) true _ lp31_0 _ _) _ _=o
 obtain ⟨x,en,s,rfl,h2⟩: ∃x en s,o=some (x,en,s)∧_:=by rw [←hg];exact zms nu nw us ws (by omega) A hAlen 0 (by omega) _ _ (by simp only [go_sem,Int.natCast_zero]<;>rfl)
 clear hg
 rw [List.drop_zero] at h2
 rcases h2 with ⟨hb,rfl,e4⟩ | ⟨hb,rfl,e3,rfl⟩
 ·rw [if_pos hb]
  simp only [go_sem,e4]
 ·rw [if_neg (by rw [hb];simp)]
  have hgd:=hbad hb
  obtain ⟨m,rfl⟩:=Int.eq_ofNat_of_zero_le (show 0≤n by omega)
  have e1:=z4t (A:=us) (fun a ha=>(hgd a (by rw [←hA];simp [ha])).1)
  have e2:=z4t (A:=ws) (fun a ha=>(hgd a (by rw [←hA];simp [ha])).1)
  have hU: ∀u∈us.map Int.toNat,u≤(us.map Int.toNat).length:=by
   intro u hu
   rw [List.mem_map] at hu
   obtain ⟨a,ha,rfl⟩:=hu
   have:=hgd a (by rw [←hA];simp [ha])
   rw [lm_];omega
  have hW: ∀u∈ws.map Int.toNat,u≤(us.map Int.toNat).length:=by
   intro u hu
   rw [List.mem_map] at hu
   obtain ⟨a,ha,rfl⟩:=hu
   have:=hgd a (by rw [←hA];simp [ha])
   rw [lm_];omega
  have hUl:(us.map Int.toNat).length≤13:=by rw [lm_];omega
  have hWl:(ws.map Int.toNat).length=m:=by rw [lm_];omega
  rw [←e1,←e2]
  clear hlU hlW e1 e2 hgd hbad hA hne hAl q3 q4 a1 a2 hpo hto
  generalize us.map Int.toNat=U at*
  generalize ws.map Int.toNat=W at*
  simp only [go_sem,e3]
  generalize hg:lim (headed pure (run L) true _ lp31_1 _ _) _ _=o
  obtain ⟨x,en,s,rfl,h2⟩: ∃x en s,o=some (x,en,s)∧_:=by rw [←hg];exact zmr nu nw U W hU hUl A.length 1 (by omega) _ _ (by simp only [go_sem,e3,show ((1:Nat):Int)=1 from rfl]<;>rfl)
  clear hg
  clear e3
  unfold readN
  rw [zos] at h2
  rcases h2 with ⟨hlo,rfl,e4⟩ | ⟨hlo,rfl,e3,rfl⟩
  ·rw [hlo,if_pos rfl]
   simp only [go_sem,e4]
  rw [hlo,if_neg (by simp)]
  have hend: ∀w,w≤U.length→itC U U.length w=0:=by
   intro w hw
   by_cases hw0:w=0
   ·rw [hw0,z12]
   ·unfold lostC at hlo
    rw [List.any_eq_false] at hlo
    have:=hlo (w-1) (List.mem_range.2 (by omega))
    simp only [decide_eq_true_eq,Classical.not_not] at this
    rw [show w-1+1=w by omega] at this
    exact this
  have h0:=z08 J nw W 0 (by omega)
  have hw0:W.getD 0 0=W[0]'(by omega):=by rw [List.getD_eq_getElem?_getD,List.getElem?_eq_getElem (by omega)];rfl
  have h0':indexSAV 1 (sl 1 nw (W.map J)) (.v (.int .i64 0))=some (.eptr (J (W[0]'(by omega))) 0):=h0
  have hw00:=hw0
  rw [hw0]
  clear h0 hw0
  generalize W[0]'(by omega)=w0 at*
  by_cases hz:w0≠0
  ·have z1:((w0:Int)=0)=False:=eF (by omega)
   rw [if_pos hz]
   simp only [go_sem,e3,h0',z1]
  rw [if_neg hz]
  have hz:w0=0:=by simpa using hz
  have z1:((w0:Int)=0)=True:=eT (by omega)
  simp only [go_sem,e3,h0',z1]
  generalize hg:lim (headed pure (run L) true _ lp31_3 _ _) _ _=o
  obtain ⟨x,en,s,rfl,h2⟩: ∃x en s,o=some (x,en,s)∧_:=by rw [←hg];exact zmp nu nw U W hUl (by omega) A.length 0 (by omega) _ _ (by simp only [go_sem,e3,Int.natCast_zero]<;>rfl)
  clear hg
  clear e3
  have hle:=zp4 hU W
  rw [hle] at h2
  rcases h2 with ⟨hla,rfl,e4⟩ | ⟨hla,rfl,e3,rfl⟩
  ·rw [hla,if_pos rfl]
   simp only [go_sem,e4]
  rw [hla,if_neg (by simp)]
  have ht:Tree m U W:=⟨hU,hW,hWl,hend,by rw [hw00,hz],by
   rintro c hc ⟨h5,h6⟩
   have:lackF W 0 (laneL U)=true:=by
    rw [z95]
    exact ⟨c,by rw [z6t];omega,by rw [z94 hU hc];exact h5,by rw [Nat.zero_add];exact h6⟩
   rw [hla] at this;cases this⟩
  have hlam:=ht.lam (by omega) (by omega)
  have hol:=zdo (by omega) hU hW hWl hend (n:=m)
  have hoe:=ord_eq (L:=outL U W) (fun s hs=>by have:=hlam.lt8 (by omega) hs;omega) hlam.nd
  rw [hol] at hoe
  simp only [go_sem,e3]
  generalize hg:lim (headed pure (run L) true _ lp31_4 _ _) _ _=o
  obtain ⟨x,en,s,rfl,h2⟩: ∃x en s,o=some (x,en,s)∧_:=by rw [←hg];exact zmo m (by omega) nu nw U W hU hW hUl hWl hend A.length 2 ⟨by omega,by omega⟩ _ _ (by simp only [go_sem,e3,show ((2:Nat):Int)=2 from rfl]<;>rfl)
  clear hg
  rw [hoe] at h2
  cases hso:srtB (outL U W) with
  |true=>
   rw [hso] at h2
   rw [if_pos rfl]
   rcases h2 with ⟨h,_⟩ | ⟨_,rfl⟩
   ·cases h
   ·simp only [go_sem]
  |false=>
   rw [hso] at h2
   rw [if_neg (by simp)]
   rcases h2 with ⟨_,rfl,e4⟩ | ⟨h,_⟩
   ·simp only [go_sem,e4]
   ·cases h
attribute [local go_sem] m_ x_ l_ k_ o_ t_ a_ s_ q_ b_ c_ u_ g_ zl za zg zm z0g z0f ze zi zj z6 zh z0h z0u z1t z1r zx z1o z6n
theorem zjb (v:Nat):(tM v).shaped=true:=ze _
theorem znn (v:Nat):(tM v).cells=[tM v]:=zi _
theorem zfw (v:Nat):storable (tM v)=true:=z6 _
theorem loop29 (n:Nat)(hn:n≤8)(nu nw:Bool)(U W:List Nat)(hU: ∀u∈U,u≤U.length)(hW: ∀w∈W,w≤U.length)(hl:U.length≤13)(hWl:W.length=n)(hend: ∀w,w≤U.length→itC U U.length w=0)(i:Nat)(o:List Nat)(hok:i≤U.length∧o.length=i)(env:Env)(st:St)
  (hg:gcAV true 1 0 (canon env [3,7,8]) st=([(3,.ptr 0 0),(7,oA (o.map tM)),(8,J (i+1:Nat))],⟨[[sl 1 nu (U.map J),sl 1 nw (W.map J)]],oT (o.map tM)⟩)):
  ∃x_1 en s,lim (headed pure (run L) true [3,7,8] lp29_0 1 0) env st=some (x_1,en,s)∧(x_1=.exit 0∧en.get 7=oA ((o++(outL U W).drop i).map tM)∧∃S,s=⟨S,oT ((o++(outL U W).drop i).map tM)⟩):=by
 refine z7 (α:=Nat×List Nat) (fun ⟨i,o⟩=>U.length-i) (fun ⟨i,o⟩=>i≤U.length∧o.length=i) (fun ⟨i,o⟩=>([(3,.ptr 0 0),(7,oA (o.map tM)),(8,J (i+1:Nat))],⟨[[sl 1 nu (U.map J),sl 1 nw (W.map J)]],oT (o.map tM)⟩)) (fun ⟨i,o⟩ x_1 en s=>x_1=.exit 0∧en.get 7=oA ((o++(outL U W).drop i).map tM)∧∃S,s=⟨S,oT ((o++(outL U W).drop i).map tM)⟩) (fun ⟨i,o⟩ hok=> ?_) ⟨i,o⟩ hok env st hg
 simp only at hok
 obtain ⟨h1,h2⟩:=hok
 dsimp only at h1 h2⊢
 have hlU:=zn J nu U
 have hol:=zdo hn hU hW hWl hend
 by_cases h:i<U.length
 ·have hs:=zd (i+1) (by omega)
  have hlt:(((i+1:Nat):Int)≤(U.length:Int))=True:=eT (by omega)
  have ha:=fun st=>c97M hn nu nw hU hW hl hWl hend h st
  have hd:(outL U W).drop i=(outL U W).getD i 0::(outL U W).drop (i+1):=by
   rw [List.drop_eq_getElem_cons (by omega),List.getD_eq_getElem?_getD,List.getElem?_eq_getElem (by omega)];rfl
  rw [hd]
  generalize (outL U W).getD i 0=a at*
  have happ:=fun S=>z65 (o.map tM) (tM a) S (by rw [lm_];omega)
  simp only [go_sem,lp29_0,hlU,hlt,hs,ha,happ,zjb,znn,zfw,z8y]
  refine ⟨(i+1,o++ [a]),by simp only [go_sem,z3,z4,z5,z8m,z2u,List.map_append]<;>rfl,?_,?_,fun x en s hq=> ?_⟩
  ·dsimp only;rw [List.length_append,List.length_singleton];omega
  ·dsimp only;omega
  ·simp only [List.append_assoc,List.singleton_append] at hq;exact hq
 ·have hlt:(((i+1:Nat):Int)≤(U.length:Int))=False:=eF (by omega)
  have e:(outL U W).drop i=[]:=List.drop_eq_nil_of_le (by omega)
  rw [e,List.append_nil]
  simp only [go_sem,lp29_0,hlU,hlt]
  exact ⟨_,rfl⟩
theorem c29 (n:Int)(nu nw:Bool)(us ws:List Int)(hu:us.length≤40)(hw:ws.length≤40)(st:St):
  run L 29 [I n,.agg [sl 1 nu (us.map I),sl 1 nw (ws.map I)]] st=some (.tup [if (readV n us ws).1=0 then sl 1 true ((readV n us ws).2.map tM) else .v (.slice none 0 0),I (readV n us ws).1],st):=by
 rw [run_pure (fn:=ir29) rfl rfl]
 have h31:=fun st=>c31 n nu nw us ws hu hw st
 by_cases he:(readV n us ws).1=0
 ·obtain ⟨m,U,W,rfl,h2,hm,e1,e2,e3,hUl,ht,e4,e6,e5⟩:=zgs he
  rw [he] at h31
  rw [he,if_pos rfl,e4]
  rw [e1,e2] at h31⊢
  simp only [ir29,go_sem,h31]
  generalize hg:lim (headed pure (run L) true _ lp29_0 _ _) _ _=o
  obtain ⟨x,en,s,rfl,h2⟩: ∃x en s,o=some (x,en,s)∧_:=by rw [←hg];exact loop29 m hm nu nw U W ht.hU ht.hW hUl ht.hWl ht.hend 0 [] ⟨by omega,rfl⟩ _ _ (by simp only [go_sem,List.map_nil,zbc,zbd,show ((0+1:Nat):Int)=1 from rfl]<;>rfl)
  clear hg
  rw [List.drop_zero,List.nil_append] at h2
  obtain ⟨rfl,e7,S,rfl⟩:=h2
  simp only [go_sem,e7]
 ·rw [if_neg he]
  simp only [ir29,go_sem,h31,he]
attribute [local go_sem] m_ x_ l_ k_ o_ t_ a_ s_ q_ b_ c_ u_ g_ zl za zg zm z0g z0f ze zi zj z6 zh z0h z0u z1t z1r zx z1o z6n
theorem zmy (n:Nat)(h1n:1≤n)(hn:n≤8)(nl:Bool)(X:List Nat)(hX: ∀v∈X,v<2^n)(hl:X.length≤13)(i:Nat)(hi:i<X.length)(j:Nat)(hok:i<j∧j≤X.length)(env:Env)(st:St)
  (hg:gcAV true 0 0 (canon env [0,1,8,9]) st=([(0,J n),(1,sl 1 nl (X.map tM)),(8,J i),(9,J j)],⟨[],[]⟩)):
  ∃x_1 en s,lim (headed pure (run L) true [0,1,8,9] lp17_0 0 0) env st=some (x_1,en,s)∧((∃d,((X.map (smlN n)).drop j).findIdx? (fun b=> !agN (smlN n X[i]) b)=some d∧x_1=.ret∧en.get 4=J i∧en.get 5=J (j+d)∧en.get 6=I 0)∨(((X.map (smlN n)).drop j).findIdx? (fun b=> !agN (smlN n X[i]) b)=none∧x_1=.exit 2∧en.get 0=J n∧en.get 1=sl 1 nl (X.map tM)∧en.get 8=J i∧s=⟨[],[]⟩)):=by
 refine z7 (α:=Nat) (fun j=>X.length-j) (fun j=>i<j∧j≤X.length) (fun j=>([(0,J n),(1,sl 1 nl (X.map tM)),(8,J i),(9,J j)],⟨[],[]⟩)) (fun j x_1 en s=>(∃d,((X.map (smlN n)).drop j).findIdx? (fun b=> !agN (smlN n X[i]) b)=some d∧x_1=.ret∧en.get 4=J i∧en.get 5=J (j+d)∧en.get 6=I 0)∨(((X.map (smlN n)).drop j).findIdx? (fun b=> !agN (smlN n X[i]) b)=none∧x_1=.exit 2∧en.get 0=J n∧en.get 1=sl 1 nl (X.map tM)∧en.get 8=J i∧s=⟨[],[]⟩)) (fun j hok=> ?_) j hok env st hg
 obtain ⟨h1,h2⟩:=hok
 have hll:=zn tM nl X
 by_cases h:j<X.length
 ·have hs:=zd j (by omega)
  have hlt:((j:Int)<(X.length:Int))=True:=eT (by omega)
  have hxi:=z08 tM nl X i hi
  have hxj:=z08 tM nl X j h
  have hvi:=hX X[i] (List.getElem_mem hi)
  have hvj:=hX X[j] (List.getElem_mem h)
  have hd:(X.map (smlN n)).drop j=smlN n X[j]::(X.map (smlN n)).drop (j+1):=by
   rw [List.drop_eq_getElem_cons (by rw [lm_];exact h),List.getElem_map]
  rw [hd,List.findIdx?_cons]
  generalize X[i]=a at*
  generalize X[j]=b at*
  have h72:=fun st=>c72M n h1n hn a b hvi hvj st
  cases hc:agN (smlN n a) (smlN n b) with
  |false=>
   rw [hc] at h72
   simp only [go_sem,lp17_0,hll,hlt,hxi,hxj,h72]
   exact ⟨0,rfl,rfl⟩
  |true=>
   rw [hc] at h72
   simp only [go_sem,lp17_0,hll,hlt,hxi,hxj,h72,hs]
   refine ⟨j+1,by simp only [go_sem,z3,z4,z5]<;>rfl,?_,?_,fun x en s hq=> ?_⟩
   ·omega
   ·omega
   ·rcases hq with ⟨d,h1,rfl,h2,h3,h4⟩ | ⟨h1,hq⟩
    ·left;refine ⟨d+1,by rw [h1];rfl,rfl,h2,?_,h4⟩
     rw [h3,show j+1+d=j+(d+1) by omega]
    ·right;exact ⟨by rw [h1];rfl,hq⟩
 ·have e:(X.map (smlN n)).drop j=[]:=List.drop_eq_nil_of_le (by rw [lm_];omega)
  have hlt:((j:Int)<(X.length:Int))=False:=eF (by omega)
  rw [e]
  simp only [go_sem,lp17_0,hll,hlt]
  exact Or.inr rfl
theorem zmx (n:Nat)(h1n:1≤n)(hn:n≤8)(nl:Bool)(X:List Nat)(hX: ∀v∈X,v<2^n)(hl:X.length≤13)(i:Nat)(hok:i≤X.length)(env:Env)(st:St)
  (hg:gcAV true 0 0 (canon env [0,1,8]) st=([(0,J n),(1,sl 1 nl (X.map tM)),(8,J i)],⟨[],[]⟩)):
  ∃x_1 en s,lim (headed pure (run L) true [0,1,8] lp17_1 0 0) env st=some (x_1,en,s)∧((clP ((X.map (smlN n)).drop i) i=none∧x_1=.exit 0)∨(∃a b,clP ((X.map (smlN n)).drop i) i=some (a,b)∧x_1=.ret∧en.get 4=J a∧en.get 5=J b∧en.get 6=I 0)):=by
 refine z7 (α:=Nat) (fun i=>X.length-i) (fun i=>i≤X.length) (fun i=>([(0,J n),(1,sl 1 nl (X.map tM)),(8,J i)],⟨[],[]⟩)) (fun i x_1 en s=>(clP ((X.map (smlN n)).drop i) i=none∧x_1=.exit 0)∨(∃a b,clP ((X.map (smlN n)).drop i) i=some (a,b)∧x_1=.ret∧en.get 4=J a∧en.get 5=J b∧en.get 6=I 0)) (fun i hok=> ?_) i hok env st hg
 have hll:=zn tM nl X
 by_cases h:i<X.length
 ·have hs:=zd i (by omega)
  have hlt:((i:Int)<(X.length:Int))=True:=eT (by omega)
  have hd:(X.map (smlN n)).drop i=smlN n X[i]::(X.map (smlN n)).drop (i+1):=by
   rw [List.drop_eq_getElem_cons (by rw [lm_];exact h),List.getElem_map]
  have hcl:clP (smlN n X[i]::(X.map (smlN n)).drop (i+1)) i=match ((X.map (smlN n)).drop (i+1)).findIdx? (fun b=> !agN (smlN n X[i]) b) with|some j=>some (i,i+1+j)|none=>clP ((X.map (smlN n)).drop (i+1)) (i+1):=rfl
  rw [hd,hcl]
  simp only [go_sem,lp17_1,hll,hlt,hs]
  generalize hg:lim (headed pure (run L) true _ lp17_0 _ _) _ _=o
  obtain ⟨x,en,s,rfl,h2⟩: ∃x en s,o=some (x,en,s)∧_:=by rw [←hg];exact zmy n h1n hn nl X hX hl i h (i+1) ⟨by omega,by omega⟩ _ _ (by simp only [go_sem]<;>rfl)
  clear hg
  rcases h2 with ⟨d,h1,rfl,e4,e5,e6⟩ | ⟨h1,rfl,e0,e1,e8,rfl⟩
  ·rw [h1]
   simp only [go_sem,lp17_1,e4,e5,e6]
   exact ⟨i,i+1+d,rfl,rfl,rfl⟩
  ·rw [h1]
   simp only [go_sem,lp17_1,e0,e1,e8,hs]
   refine ⟨i+1,by simp only [go_sem,z3,z4,z5,e0,e1,e8]<;>rfl,?_,?_,fun x en s hq=> ?_⟩
   ·omega
   ·omega
   ·exact hq
 ·have e:(X.map (smlN n)).drop i=[]:=List.drop_eq_nil_of_le (by rw [lm_];omega)
  have hlt:((i:Int)<(X.length:Int))=False:=eF (by omega)
  rw [e]
  simp only [go_sem,lp17_1,hll,hlt]
  exact Or.inl rfl
def whyG (n:Int) (G:List GS):AV:=if (openG n G).1≠0 then .tup [I 0,I 0,I (openG n G).1] else whyA (clP (openG n G).2 0)
theorem c17 (n:Int)(nl:Bool)(G:List GS)(hG: ∀p∈G,p.2.length<1000)(hGl:G.length<1000)(st:St):
  run L 17 [I n,sl 1 nl (G.map gM)] st=some (whyG n G,st):=by
 rw [run_pure (fn:=ir17) rfl rfl]
 have h48:=fun st=>c48 n nl G hG hGl st
 unfold whyG
 by_cases he:(openG n G).1=0
 ·obtain ⟨m,X,rfl,h2,hm,hl,hXl,e1,e2,hX,e4,hnd⟩:=zh0 he
  rw [he] at h48
  rw [he,if_neg (by simp),e4]
  rw [e1] at h48⊢
  simp only [ir17,go_sem,h48]
  generalize hg:lim (headed pure (run L) true _ lp17_1 _ _) _ _=o
  obtain ⟨x,en,s,rfl,h2⟩: ∃x en s,o=some (x,en,s)∧_:=by rw [←hg];exact zmx m (by omega) hm nl X (fun v hv=>(hX v hv).1) (by omega) 0 (by omega) _ _ (by simp only [go_sem,Int.natCast_zero]<;>rfl)
  clear hg
  rw [List.drop_zero] at h2
  rcases h2 with ⟨h2,rfl⟩ | ⟨a,b,h2,rfl,e4,e5,e6⟩
  ·rw [h2]
   simp only [go_sem]
   rfl
  ·rw [h2]
   simp only [go_sem,e4,e5,e6]
   rfl
 ·rw [if_pos he]
  simp only [ir17,go_sem,h48,he]
def withL (l k:List Int):Bool:=l.all fun a=>decide (a∈k)
theorem zow (n1 n2:Bool)(l k:List Int)(hlen:l.length<1000000)(hlk:k.length<1000000)(i:Nat)(hok:i≤l.length)(env:Env)(st:St)
  (hg:gcAV true 0 0 (canon env [0,1,5]) st=([(0,sl 1 n1 (l.map I)),(1,sl 1 n2 (k.map I)),(5,I i)],⟨[],[]⟩)):
  ∃x_1 en s,lim (headed pure (run L) true [0,1,5] lp133_0 0 0) env st=some (x_1,en,s)∧((withL (l.drop i) k=true∧x_1=.exit 0)∨(withL (l.drop i) k=false∧x_1=.ret∧en.get 4=B false)):=by
 refine z7 (α:=Nat) (fun i=>l.length-i) (fun i=>i≤l.length) (fun i=>([(0,sl 1 n1 (l.map I)),(1,sl 1 n2 (k.map I)),(5,I i)],⟨[],[]⟩)) (fun i x_1 en s=>(withL (l.drop i) k=true∧x_1=.exit 0)∨(withL (l.drop i) k=false∧x_1=.ret∧en.get 4=B false)) (fun i hok=> ?_) i hok env st hg
 by_cases h:i<l.length
 ·have hx:=zk n1 l i h
  have hs:=zd i (by omega)
  have hd:l.drop i=l[i]::l.drop (i+1):=List.drop_eq_getElem_cons h
  have hlt:((i:Int)<(l.length:Int))=True:=eT (by omega)
  rw [hd]
  generalize l[i]=a at*
  have h100:=fun st=>c100 n2 k hlk a st
  have e:withL (a::l.drop (i+1)) k=(decide (a∈k)&&withL (l.drop (i+1)) k):=rfl
  rw [e]
  by_cases p:a∈k
  ·rw [decide_eq_true p] at h100⊢
   rw [Bool.true_and]
   simp only [go_sem,lp133_0,hx,hlt,h100,hs,lm_]
   refine ⟨i+1,by simp only [go_sem,z3,z4,z5]<;>rfl,?_,?_,fun x en s hq=> ?_⟩
   ·omega
   ·omega
   ·exact hq
  ·rw [decide_eq_false p] at h100⊢
   rw [Bool.false_and]
   simp only [go_sem,lp133_0,hx,hlt,h100,lm_]
 ·have hd:l.drop i=[]:=List.drop_eq_nil_of_le (by omega)
  have hlt:((i:Int)<(l.length:Int))=False:=eF (by omega)
  rw [hd,show withL [] k=true from rfl]
  simp only [go_sem,lp133_0,hlt,lm_]
theorem c133 (n1 n2:Bool)(l k:List Int)(hlen:l.length<1000000)(hlk:k.length<1000000)(st:St):run L 133 [sl 1 n1 (l.map I),sl 1 n2 (k.map I)] st=some (B (withL l k),st):=by
 rw [run_pure (fn:=ir133) rfl rfl]
 simp only [ir133,go_sem]
 generalize hg:lim (headed pure (run L) true _ lp133_0 _ _) _ _=o
 obtain ⟨x,en,s,rfl,h2⟩: ∃x en s,o=some (x,en,s)∧_:=by rw [←hg];exact zow n1 n2 l k hlen hlk 0 (by omega) _ _ (by simp only [go_sem,Int.natCast_zero]<;>rfl)
 clear hg
 rw [List.drop_zero] at h2
 rcases h2 with ⟨h,rfl⟩ | ⟨h,rfl,e4⟩
 ·rw [h];simp only [go_sem]
 ·rw [h];simp only [go_sem,e4]
theorem ziy {a b:Nat} (ha:a<512)(hb:b<512):withL (memb a) (memb b)=true↔Sub a b:=by
 unfold withL
 rw [List.all_eq_true]
 constructor
 ·intro h i hi
  have:=h (i:Int) ((z2v ha i).2 hi)
  rw [decide_eq_true_eq,z2v hb] at this
  exact this
 ·intro h x hx
  obtain ⟨i,rfl,hi⟩:=(z1p ha x).1 hx
  rw [decide_eq_true_eq,z2v hb]
  exact h i hi
def AbvTo (L:List Nat) (s:Nat) (but:Option Nat) (i r:Nat):Prop:=
 (r=0∧∀j,j<i→some j≠but→¬Sub s (L.getD j 0))∨
 (∃k,r=k+1∧k<i∧some k≠but∧Sub s (L.getD k 0)∧∀j,j<i→some j≠but→Sub s (L.getD j 0)→pc (L.getD k 0)≤pc (L.getD j 0))
def butN (but:Option Nat):Nat:=match but with|none=>0|some k=>k+1
theorem zl7 (but:Option Nat)(i:Nat):(i+1=butN but)↔some i=but:=by
 cases but with
 |none=>simp [butN]
 |some k=>simp [butN]
theorem AbvTo.skip {L:List Nat} {s:Nat} {but:Option Nat} {i r:Nat} (h:AbvTo L s but i r)(hi:some i≠but→¬Sub s (L.getD i 0)∨(r≠0∧pc (L.getD (r-1) 0)≤pc (L.getD i 0))):AbvTo L s but (i+1) r:=by
 rcases h with ⟨rfl,h⟩ | ⟨k,rfl,h1,h2,h3,h4⟩
 ·left
  refine ⟨rfl,fun j hj hb=> ?_⟩
  by_cases e:j=i
  ·subst e
   rcases hi hb with h| ⟨h,_⟩
   ·exact h
   ·exact absurd rfl h
  ·exact h j (by omega) hb
 ·right
  refine ⟨k,rfl,by omega,h2,h3,fun j hj hb hs=> ?_⟩
  by_cases e:j=i
  ·subst e
   rcases hi hb with h| ⟨_,h⟩
   ·exact absurd hs h
   ·rw [Nat.add_sub_cancel] at h;exact h
  ·exact h4 j (by omega) hb hs
theorem AbvTo.take {L:List Nat} {s:Nat} {but:Option Nat} {i r:Nat} (h:AbvTo L s but i r)(hb:some i≠but)(hs:Sub s (L.getD i 0))(hr:r=0∨pc (L.getD i 0)<pc (L.getD (r-1) 0)):AbvTo L s but (i+1) (i+1):=by
 right
 refine ⟨i,rfl,by omega,hb,hs,fun j hj hjb hjs=> ?_⟩
 by_cases e:j=i
 ·subst e;exact Nat.le_refl _
 ·rcases h with ⟨rfl,h⟩ | ⟨k,rfl,h1,h2,h3,h4⟩
  ·exact absurd hjs (h j (by omega) hjb)
  ·have:=h4 j (by omega) hjb hjs
   rcases hr with hr|hr
   ·omega
   ·rw [Nat.add_sub_cancel] at hr;omega
theorem loop95 (L0:List Nat)(hL: ∀s∈L0,s<256)(hl:L0.length≤13)(nl:Bool)(some':List Int)(v:Nat)(hv:v<512)(hsv:some'=memb v)(nv:Bool)(but:Option Nat)(i:Nat)(r:Nat)(hok:i≤L0.length∧AbvTo L0 v but i r)(env:Env)(st:St)
  (hg:gcAV true 0 0 (canon env [0,1,2,7,8]) st=([(0,sl 1 nl (L0.map tM)),(1,sl 1 nv (some'.map I)),(2,J (butN but)),(7,J r),(8,J i)],⟨[],[]⟩)):
  ∃x_1 en s,lim (headed pure (run L) true [0,1,2,7,8] lp95_0 0 0) env st=some (x_1,en,s)∧(x_1=.exit 0∧∃r',AbvTo L0 v but L0.length r'∧en.get 7=J r'):=by
 refine z7 (α:=Nat×Nat) (fun ⟨i,r⟩=>L0.length-i) (fun ⟨i,r⟩=>i≤L0.length∧AbvTo L0 v but i r) (fun ⟨i,r⟩=>([(0,sl 1 nl (L0.map tM)),(1,sl 1 nv (some'.map I)),(2,J (butN but)),(7,J r),(8,J i)],⟨[],[]⟩)) (fun ⟨i,r⟩ x_1 en s=>x_1=.exit 0∧∃r',AbvTo L0 v but L0.length r'∧en.get 7=J r') (fun ⟨i,r⟩ hok=> ?_) ⟨i,r⟩ hok env st hg
 simp only at hok
 obtain ⟨h1,h2⟩:=hok
 dsimp only at h1 h2⊢
 have hll:=zn tM nl L0
 by_cases h:i<L0.length
 ·have hs:=zd i (by omega)
  have hlt:((i:Int)<(L0.length:Int))=True:=eT (by omega)
  have hx:=z08 tM nl L0 i h
  have h8:=hL L0[i] (List.getElem_mem h)
  have hg:L0.getD i 0=L0[i]:=by rw [List.getD_eq_getElem?_getD,List.getElem?_eq_getElem h];rfl
  have hrl:r≤i:=by
   rcases h2 with ⟨h,_⟩ | ⟨k,h,h3,_⟩
   ·omega
   ·omega
  by_cases hb:some i=but
  ·have q:(((i+1:Nat):Int)=((butN but:Nat):Int))=True:=eT (by rw [(zl7 but i).2 hb])
   simp only [go_sem,lp95_0,hll,hlt,hs,q]
   refine ⟨(i+1,r),by simp only [go_sem,z3,z4,z5]<;>rfl,?_,?_,fun x en s hq=> ?_⟩
   ·dsimp only;exact ⟨by omega,h2.skip (fun h=>absurd hb h)⟩
   ·dsimp only;omega
   ·exact hq
  ·have q:(((i+1:Nat):Int)=((butN but:Nat):Int))=False:=eF (fun h=>hb ((zl7 but i).1 (by omega)))
   have hml:=z03 L0[i]
   have hmv:=z03 v
   have h133: ∀st,run L 133 [sl 1 nv (some'.map I),tM L0[i]] st=some (B (withL some' (memb L0[i])),st):=fun st=>c133 nv true some' (memb L0[i]) (by rw [hsv];omega) (by omega) st
   have hwi:withL some' (memb L0[i])=true↔Sub v (L0.getD i 0):=by rw [hg,hsv];exact ziy hv (by omega)
   have hlen1:lenAV (tM L0[i])=some (J (pc (L0.getD i 0))):=by rw [hg];exact zn I true (memb L0[i])
   generalize hLi:L0[i]=a at*
   cases hw:withL some' (memb a) with
   |false=>
    rw [hw] at h133 hwi
    have hns: ¬Sub v (L0.getD i 0):=fun h=>by have:=hwi.2 h;cases this
    simp only [go_sem,lp95_0,hll,hlt,hs,q,hx,h133]
    refine ⟨(i+1,r),by simp only [go_sem,z3,z4,z5]<;>rfl,?_,?_,fun x en s hq=> ?_⟩
    ·dsimp only;exact ⟨by omega,h2.skip (fun _=> .inl hns)⟩
    ·dsimp only;omega
    ·exact hq
   |true=>
    rw [hw] at h133 hwi
    have hsub:=hwi.1 rfl
    by_cases hr0:r=0
    ·have q0:((r:Int)=0)=True:=eT (by omega)
     simp only [go_sem,lp95_0,hll,hlt,hs,q,hx,h133,q0]
     refine ⟨(i+1,i+1),by simp only [go_sem,z3,z4,z5]<;>rfl,?_,?_,fun x en s hq=> ?_⟩
     ·dsimp only;exact ⟨by omega,h2.take hb hsub (.inl hr0)⟩
     ·dsimp only;omega
     ·exact hq
    ·have q0:((r:Int)=0)=False:=eF (by omega)
     have hm:IntKind.i64.wrap ((r:Int)-1)=((r-1:Nat):Int):=by
      rw [←w64 (r-1) (by omega)];congr 1;omega
     have hx2:=z08 tM nl L0 (r-1) (by omega)
     have hg2:L0.getD (r-1) 0=L0[r-1]'(by omega):=by rw [List.getD_eq_getElem?_getD,List.getElem?_eq_getElem (by omega)];rfl
     have hlen2:lenAV (tM (L0[r-1]'(by omega)))=some (J (pc (L0.getD (r-1) 0))):=by rw [hg2];exact zn I true _
     by_cases hlt2:pc (L0.getD i 0)<pc (L0.getD (r-1) 0)
     ·have q1:((pc (L0.getD i 0):Int)<(pc (L0.getD (r-1) 0):Int))=True:=eT (by omega)
      simp only [go_sem,lp95_0,hll,hlt,hs,q,hx,h133,q0,hm,hx2,hlen1,hlen2,q1]
      refine ⟨(i+1,i+1),by simp only [go_sem,z3,z4,z5]<;>rfl,?_,?_,fun x en s hq=> ?_⟩
      ·dsimp only;exact ⟨by omega,h2.take hb hsub (.inr hlt2)⟩
      ·dsimp only;omega
      ·exact hq
     ·have q1:((pc (L0.getD i 0):Int)<(pc (L0.getD (r-1) 0):Int))=False:=eF (by omega)
      simp only [go_sem,lp95_0,hll,hlt,hs,q,hx,h133,q0,hm,hx2,hlen1,hlen2,q1]
      refine ⟨(i+1,r),by simp only [go_sem,z3,z4,z5]<;>rfl,?_,?_,fun x en s hq=> ?_⟩
      ·dsimp only;exact ⟨by omega,h2.skip (fun _=> .inr ⟨hr0,by omega⟩)⟩
      ·dsimp only;omega
      ·exact hq
 ·have hi:i=L0.length:=by omega
  subst hi
  have hlt:((L0.length:Int)<(L0.length:Int))=False:=eF (by omega)
  simp only [go_sem,lp95_0,hll,hlt]
  exact ⟨r,h2,rfl⟩
theorem c95 (L0:List Nat)(hL: ∀s∈L0,s<256)(hl:L0.length≤13)(nl:Bool)(some':List Int)(v:Nat)(hv:v<512)(hsv:some'=memb v)(nv:Bool)(but:Option Nat):
  ∃r,Abv L0 v but r∧∀st,run L 95 [sl 1 nl (L0.map tM),sl 1 nv (some'.map I),J (butN but)] st=some (J r,st):=by
 have key: ∃r,Abv L0 v but r∧run L 95 [sl 1 nl (L0.map tM),sl 1 nv (some'.map I),J (butN but)] ⟨[],[]⟩=some (J r,⟨[],[]⟩):=by
  rw [run_pure (fn:=ir95) rfl rfl]
  simp only [ir95,go_sem]
  generalize hg:lim (headed pure (run L) true _ lp95_0 _ _) _ _=o
  obtain ⟨x,en,s,rfl,h2⟩: ∃x en s,o=some (x,en,s)∧_:=by rw [←hg];exact loop95 L0 hL hl nl some' v hv hsv nv but 0 0 ⟨by omega,.inl ⟨rfl,fun j hj=>by omega⟩⟩ _ _ (by simp only [go_sem,Int.natCast_zero]<;>rfl)
  clear hg
  obtain ⟨rfl,r,h3,e7⟩:=h2
  exact ⟨r,h3,by simp only [go_sem,e7]⟩
 obtain ⟨r,h1,h2⟩:=key
 exact ⟨r,h1,fun st=>z16 (fn:=ir95) rfl rfl h2 st⟩
attribute [local go_sem] m_ x_ l_ k_ o_ t_ a_ s_ q_ b_ c_ u_ g_ zl za zg zm z0g z0f ze zi zj z6 zh z0h z0u z1t z1r zx z1o z6n
abbrev nilA:AV:=.v (.slice none 0 0)
def o1A (o:List AV):AV:=if o.length=0 then nilA else .lst (.own 1 o.length) 1 o
def o1T (m:Nat) (o:List AV):List Nat:=if o.length=0 then [m] else [m,o.length]
def o1Acc (o:List AV):List (Nat×Nat):=if o.length=0 then [] else [(1,o.length)]
theorem zh1 (n:Nat)(o:List AV):okRef n (o1A o)=true:=by unfold o1A;split<;>rfl
theorem zao (o:List AV):storable (o1A o)=true:=by unfold o1A;split<;>rfl
theorem zej (o:List AV):(o1A o).shaped=true:=by unfold o1A;split<;>rfl
theorem zhn (o:List AV):(o1A o).cells=[o1A o]:=by unfold o1A;split<;>rfl
theorem zog (m:Nat)(o:List AV):ren1 1 (o1T m o) [] (o1A o)=(o1A o,o1Acc o):=by
 unfold o1A o1T o1Acc
 split
 ·rfl
 ·simp [ren1]
theorem zjm (T:List Nat)(acc:List (Nat×Nat))(k:Nat)(xs:List AV):ren1 1 T acc (.lst (.own 0 k) 1 xs)=(.lst (.own 0 k) 1 xs,acc):=by simp [ren1]
theorem zma (m:Nat)(o:List AV):(o1T m o).take 1=[m]:=by unfold o1T;split<;>rfl
theorem zmb (m:Nat)(o:List AV):m::(o1Acc o).map (fun x=>x.2)=o1T m o:=by unfold o1T o1Acc;split<;>rfl
theorem fin_o1 (st:St)(o:List AV):fin st (o1A o)=sl 1 true o:=by
 unfold o1A
 split
 ·next h=>rw [List.eq_nil_of_length_eq_zero h];rfl
 ·next h=>rw [z6w,zac (fun e=>h (by rw [e];rfl))]
theorem zla (m:Nat)(o:List AV)(y:AV)(s:List (List AV))(h:o.length<1000):appendAV 1 (o1A o) [y] ⟨s,o1T m o⟩=some (o1A (o++ [y]),⟨s,o1T m (o++ [y])⟩):=by
 have h2: ¬(o++ [y]).length=0:=by simp
 unfold o1A o1T
 rw [if_neg h2,if_neg h2]
 split
 ·next h0=>
  have:o=[]:=List.eq_nil_of_length_eq_zero h0
  subst this;rfl
 ·next h0=>
  simp only [appendAV]
  rw [if_pos trivial,if_pos (by unfold maxGrow;simp;omega)]
  simp
theorem zh4: ∀a:Fin 9,memb (2^a.val)=[(a.val:Int)]:=by decide
theorem zmt (n:Nat)(L0:List Nat)(hL: ∀s∈L0,s<256)(hl:L0.length≤13)(i:Nat)(us:List Nat)(hok:i≤L0.length∧us.length=i∧∀k,k<i→Abv L0 (L0.getD k 0) (some k) (us.getD k 0))(env:Env)(st:St)
  (hg:gcAV true 2 0 (canon env [0,4,9,10,11]) st=([(0,J n),(4,.ptr 0 0),(9,sl 1 true (L0.map tM)),(10,.ptr 1 0),(11,J i)],⟨[[nilA,nilA],[oA (us.map J),nilA]],oT (us.map J)⟩)):
  ∃x_1 en s,lim (headed pure (run L) true [0,4,9,10,11] lp27_0 2 0) env st=some (x_1,en,s)∧(x_1=.exit 0∧en.get 0=J n∧en.get 4=.ptr 0 0∧en.get 9=sl 1 true (L0.map tM)∧en.get 10=.ptr 1 0∧∃us':List Nat,us'.length=L0.length∧(∀k,k<L0.length→Abv L0 (L0.getD k 0) (some k) (us'.getD k 0))∧s=⟨[[nilA,nilA],[oA (us'.map J),nilA]],oT (us'.map J)⟩):=by
 refine z7 (α:=Nat×List Nat) (fun ⟨i,us⟩=>L0.length-i) (fun ⟨i,us⟩=>i≤L0.length∧us.length=i∧∀k,k<i→Abv L0 (L0.getD k 0) (some k) (us.getD k 0)) (fun ⟨i,us⟩=>([(0,J n),(4,.ptr 0 0),(9,sl 1 true (L0.map tM)),(10,.ptr 1 0),(11,J i)],⟨[[nilA,nilA],[oA (us.map J),nilA]],oT (us.map J)⟩)) (fun ⟨i,us⟩ x_1 en s=>x_1=.exit 0∧en.get 0=J n∧en.get 4=.ptr 0 0∧en.get 9=sl 1 true (L0.map tM)∧en.get 10=.ptr 1 0∧∃us':List Nat,us'.length=L0.length∧(∀k,k<L0.length→Abv L0 (L0.getD k 0) (some k) (us'.getD k 0))∧s=⟨[[nilA,nilA],[oA (us'.map J),nilA]],oT (us'.map J)⟩) (fun ⟨i,us⟩ hok=> ?_) ⟨i,us⟩ hok env st hg
 simp only at hok
 obtain ⟨h1,h2,h3⟩:=hok
 dsimp only at h1 h2 h3⊢
 have hll:=zn tM true L0
 by_cases h:i<L0.length
 ·have hs:=zd i (by omega)
  have hlt:((i:Int)<(L0.length:Int))=True:=eT (by omega)
  have hx:=z08 tM true L0 i h
  have hg:L0.getD i 0=L0[i]:=by rw [List.getD_eq_getElem?_getD,List.getElem?_eq_getElem h];rfl
  have h8:=hL L0[i] (List.getElem_mem h)
  obtain ⟨r,hr,h95⟩:=c95 L0 hL hl true (memb L0[i]) L0[i] (by omega) rfl true (some i)
  have h95: ∀st,run L 95 [sl 1 true (L0.map tM),tM L0[i],J (i+1:Nat)] st=some (J r,st):=h95
  rw [←hg] at hr
  generalize L0[i]=a at*
  have happ:=fun S=>z65 (us.map J) (J r) S (by rw [lm_];omega)
  simp only [go_sem,lp27_0,hll,hlt,hs,hx,h95,happ,za,zg,zm,zl]
  refine ⟨(i+1,us++ [r]),by simp only [go_sem,z3,z4,z5,z8m,z2u,List.map_append,zl]<;>rfl,?_,?_,fun x en s hq=> ?_⟩
  ·dsimp only
   refine ⟨by omega,by rw [List.length_append,List.length_singleton];omega,fun k hk=> ?_⟩
   by_cases e:k=i
   ·subst e
    have:(us++ [r]).getD k 0=r:=by rw [←h2];simp [List.getD_eq_getElem?_getD]
    rw [this];exact hr
   ·have:(us++ [r]).getD k 0=us.getD k 0:=by
     rw [List.getD_eq_getElem?_getD,List.getD_eq_getElem?_getD,List.getElem?_append_left (by omega)]
    rw [this];exact h3 k (by omega)
  ·dsimp only;omega
  ·exact hq
 ·have hi:i=L0.length:=by omega
  subst hi
  have hlt:((L0.length:Int)<(L0.length:Int))=False:=eF (by omega)
  simp only [go_sem,lp27_0,hll,hlt]
  exact ⟨us,h2,h3,rfl⟩
theorem zka (n:Nat)(hn:n≤8)(L0:List Nat)(hL: ∀s∈L0,s<256)(hl:L0.length≤13)(i:Nat)(ws:List Nat)(hok:i≤n∧ws.length=i∧∀k,k<i→Abv L0 (2^k) none (ws.getD k 0))(env:Env)(st:St)
  (hg:gcAV true 2 0 (canon env [0,4,9,10,12]) st=([(0,J n),(4,.ptr 0 0),(9,sl 1 true (L0.map tM)),(10,.ptr 1 0),(12,J i)],⟨[[nilA,nilA],[nilA,oA (ws.map J)]],oT (ws.map J)⟩)):
  ∃x_1 en s,lim (headed pure (run L) true [0,4,9,10,12] lp27_1 2 0) env st=some (x_1,en,s)∧(x_1=.exit 2∧en.get 4=.ptr 0 0∧en.get 10=.ptr 1 0∧∃ws':List Nat,ws'.length=n∧(∀k,k<n→Abv L0 (2^k) none (ws'.getD k 0))∧s=⟨[[nilA,nilA],[nilA,oA (ws'.map J)]],oT (ws'.map J)⟩):=by
 refine z7 (α:=Nat×List Nat) (fun ⟨i,ws⟩=>n-i) (fun ⟨i,ws⟩=>i≤n∧ws.length=i∧∀k,k<i→Abv L0 (2^k) none (ws.getD k 0)) (fun ⟨i,ws⟩=>([(0,J n),(4,.ptr 0 0),(9,sl 1 true (L0.map tM)),(10,.ptr 1 0),(12,J i)],⟨[[nilA,nilA],[nilA,oA (ws.map J)]],oT (ws.map J)⟩)) (fun ⟨i,ws⟩ x_1 en s=>x_1=.exit 2∧en.get 4=.ptr 0 0∧en.get 10=.ptr 1 0∧∃ws':List Nat,ws'.length=n∧(∀k,k<n→Abv L0 (2^k) none (ws'.getD k 0))∧s=⟨[[nilA,nilA],[nilA,oA (ws'.map J)]],oT (ws'.map J)⟩) (fun ⟨i,ws⟩ hok=> ?_) ⟨i,ws⟩ hok env st hg
 simp only at hok
 obtain ⟨h1,h2,h3⟩:=hok
 dsimp only at h1 h2 h3⊢
 by_cases h:i<n
 ·have hs:=zd i (by omega)
  have hlt:((i:Int)<(n:Int))=True:=eT (by omega)
  have hm1:=zh4 ⟨i,by omega⟩
  dsimp only at hm1
  have hp9:2^i<512:=Nat.lt_of_lt_of_le (Nat.pow_lt_pow_right (by omega) (show i<9 by omega)) (by decide)
  obtain ⟨r,hr,h95⟩:=c95 L0 hL hl true [(i:Int)] (2^i) hp9 hm1.symm true none
  have h95: ∀st,run L 95 [sl 1 true (L0.map tM),.lst .full 1 [J i],I 0] st=some (J r,st):=fun st=>
   (zah (fn:=ir95) rfl rfl st (by simp only [pubs,List.map_cons,List.map_nil,z4h];rfl)).trans (h95 st)
  have happ:=fun S=>z65 (ws.map J) (J r) S (by rw [lm_];omega)
  simp only [go_sem,lp27_1,hlt,hs,h95,happ,za,zg,zm,zl]
  refine ⟨(i+1,ws++ [r]),by simp only [go_sem,z3,z4,z5,z8m,z2u,List.map_append,zl]<;>rfl,?_,?_,fun x en s hq=> ?_⟩
  ·dsimp only
   refine ⟨by omega,by rw [List.length_append,List.length_singleton];omega,fun k hk=> ?_⟩
   by_cases e:k=i
   ·subst e
    have:(ws++ [r]).getD k 0=r:=by rw [←h2];simp [List.getD_eq_getElem?_getD]
    rw [this];exact hr
   ·have:(ws++ [r]).getD k 0=ws.getD k 0:=by
     rw [List.getD_eq_getElem?_getD,List.getD_eq_getElem?_getD,List.getElem?_append_left (by omega)]
    rw [this];exact h3 k (by omega)
  ·dsimp only;omega
  ·exact hq
 ·have hi:i=n:=by omega
  subst hi
  have hlt:((i:Int)<(i:Int))=False:=eF (by omega)
  simp only [go_sem,lp27_1,hlt]
  exact ⟨ws,h2,h3,rfl⟩
theorem zk9 (n:Nat)(hn:n≤8)(L0:List Nat)(hL: ∀s∈L0,s<256)(hl:L0.length≤13)(us:List Nat)(i:Nat)(ws:List Nat)(hok:i≤n∧ws.length=i∧∀k,k<i→Abv L0 (2^k) none (ws.getD k 0))(env:Env)(st:St)
  (hg:gcAV true 2 1 (canon env [0,4,9,10,12]) st=([(0,J n),(4,.ptr 0 0),(9,sl 1 true (L0.map tM)),(10,.ptr 1 0),(12,J i)],⟨[[nilA,nilA],[.lst (.own 0 us.length) 1 (us.map J),o1A (ws.map J)]],o1T us.length (ws.map J)⟩)):
  ∃x_1 en s,lim (headed pure (run L) true [0,4,9,10,12] lp27_1 2 1) env st=some (x_1,en,s)∧(x_1=.exit 2∧en.get 4=.ptr 0 0∧en.get 10=.ptr 1 0∧∃ws':List Nat,ws'.length=n∧(∀k,k<n→Abv L0 (2^k) none (ws'.getD k 0))∧s=⟨[[nilA,nilA],[.lst (.own 0 us.length) 1 (us.map J),o1A (ws'.map J)]],o1T us.length (ws'.map J)⟩):=by
 refine z7 (α:=Nat×List Nat) (fun ⟨i,ws⟩=>n-i) (fun ⟨i,ws⟩=>i≤n∧ws.length=i∧∀k,k<i→Abv L0 (2^k) none (ws.getD k 0)) (fun ⟨i,ws⟩=>([(0,J n),(4,.ptr 0 0),(9,sl 1 true (L0.map tM)),(10,.ptr 1 0),(12,J i)],⟨[[nilA,nilA],[.lst (.own 0 us.length) 1 (us.map J),o1A (ws.map J)]],o1T us.length (ws.map J)⟩)) (fun ⟨i,ws⟩ x_1 en s=>x_1=.exit 2∧en.get 4=.ptr 0 0∧en.get 10=.ptr 1 0∧∃ws':List Nat,ws'.length=n∧(∀k,k<n→Abv L0 (2^k) none (ws'.getD k 0))∧s=⟨[[nilA,nilA],[.lst (.own 0 us.length) 1 (us.map J),o1A (ws'.map J)]],o1T us.length (ws'.map J)⟩) (fun ⟨i,ws⟩ hok=> ?_) ⟨i,ws⟩ hok env st hg
 simp only at hok
 obtain ⟨h1,h2,h3⟩:=hok
 dsimp only at h1 h2 h3⊢
 by_cases h:i<n
 ·have hs:=zd i (by omega)
  have hlt:((i:Int)<(n:Int))=True:=eT (by omega)
  have hm1:=zh4 ⟨i,by omega⟩
  dsimp only at hm1
  have hp9:2^i<512:=Nat.lt_of_lt_of_le (Nat.pow_lt_pow_right (by omega) (show i<9 by omega)) (by decide)
  obtain ⟨r,hr,h95⟩:=c95 L0 hL hl true [(i:Int)] (2^i) hp9 hm1.symm true none
  have h95: ∀st,run L 95 [sl 1 true (L0.map tM),.lst .full 1 [J i],I 0] st=some (J r,st):=fun st=>
   (zah (fn:=ir95) rfl rfl st (by simp only [pubs,List.map_cons,List.map_nil,z4h];rfl)).trans (h95 st)
  have happ:=fun S=>zla us.length (ws.map J) (J r) S (by rw [lm_];omega)
  simp only [go_sem,lp27_1,hlt,hs,h95,happ,zao,zej,zhn,zh1]
  refine ⟨(i+1,ws++ [r]),by simp only [go_sem,z3,z4,z5,zog,zjm,zma,zmb,List.map_append,zh1,List.singleton_append]<;>rfl,?_,?_,fun x en s hq=> ?_⟩
  ·dsimp only
   refine ⟨by omega,by rw [List.length_append,List.length_singleton];omega,fun k hk=> ?_⟩
   by_cases e:k=i
   ·subst e
    have:(ws++ [r]).getD k 0=r:=by rw [←h2];simp [List.getD_eq_getElem?_getD]
    rw [this];exact hr
   ·have:(ws++ [r]).getD k 0=ws.getD k 0:=by
     rw [List.getD_eq_getElem?_getD,List.getD_eq_getElem?_getD,List.getElem?_append_left (by omega)]
    rw [this];exact h3 k (by omega)
  ·dsimp only;omega
  ·exact hq
 ·have hi:i=n:=by omega
  subst hi
  have hlt:((i:Int)<(i:Int))=False:=eF (by omega)
  simp only [go_sem,lp27_1,hlt]
  exact ⟨ws,h2,h3,rfl⟩
theorem zn9 (n:Nat)(h2:2≤n)(hn:n≤8)(nl:Bool)(G:List GS)(hG: ∀p∈G,p.2.length<1000)(hGl:G.length<1000)(X:List Nat)(hX: ∀v∈X,v<2^n∧v≠0∧v≠2^n-1)(hXl:X.length≤13)(e1:G.map gM=X.map tM)(he:(openG n G).1=0)(e4:(openG n G).2=X.map (smlN n))(hc:clP (X.map (smlN n)) 0=none):
  ∃Us W,IsTree (srt (X.map (smlN n))) n Us W∧run L 27 [J n,sl 1 nl (G.map gM)] ⟨[],[]⟩=some (.tup [.agg [sl 1 true (Us.map J),sl 1 true (W.map J)],I 0],⟨[],[]⟩):=by
 rw [run_pure (fn:=ir27) rfl rfl]
 have h17:=fun st=>c17 n nl G hG hGl st
 unfold whyG at h17
 rw [he,if_neg (by simp),e4,hc] at h17
 rw [show whyA none=.tup [I 0,I 0,I 13] from rfl] at h17
 have h85:=fun st=>c85 n hn nl X hX hXl st
 have hss:=zj9 hn hX
 have hL:=zj8 (X.map (smlN n))
 have hll:=z9m hss
 rw [lm_] at hll
 rw [e1] at h17⊢
 generalize srt (X.map (smlN n))=L0 at*
 simp only [ir27,go_sem,h17,h85]
 generalize hg:lim (headed pure (run L) true _ lp27_0 _ _) _ _=o
 obtain ⟨x,en,s,rfl,h2⟩: ∃x en s,o=some (x,en,s)∧_:=by rw [←hg];exact zmt n L0 hL (by omega) 0 [] ⟨by omega,rfl,fun k hk=>by omega⟩ _ _ (by simp only [go_sem,Int.natCast_zero,List.map_nil,show oA []=nilA from rfl,zbd]<;>rfl)
 clear hg
 obtain ⟨rfl,e0,e4',e9,e10,us,hul,hup,rfl⟩:=h2
 by_cases hu0:us=[]
 ·subst hu0
  simp only [go_sem,e0,e4',e9,e10,show oA (List.map J [])=nilA from rfl,show oT (List.map J [])=[] from rfl]
  generalize hg:lim (headed pure (run L) true _ lp27_1 _ _) _ _=o
  obtain ⟨x,en,s,rfl,h2⟩: ∃x en s,o=some (x,en,s)∧_:=by rw [←hg];exact zka n hn L0 hL (by omega) 0 [] ⟨by omega,rfl,fun k hk=>by omega⟩ _ _ (by simp only [go_sem,e0,e4',e9,e10,Int.natCast_zero,List.map_nil,show oA []=nilA from rfl,zbd]<;>rfl)
  clear hg
  obtain ⟨rfl,f4,f10,ws,hwl,hwp,rfl⟩:=h2
  refine ⟨[],ws,⟨hul,hwl,hup,hwp⟩,?_⟩
  simp only [go_sem,f4,f10]
  rfl
 ·have hne: ¬(us.map J).length=0:=by simpa using hu0
  have ho:oA (us.map J)=.lst (.own 0 us.length) 1 (us.map J):=by unfold oA loc;rw [if_neg hne,lm_]
  have hT:oT (us.map J)=[us.length]:=by unfold oT locT;rw [if_neg hne,lm_]
  have hsl:AV.lst .any 1 (us.map J)=sl 1 true (us.map J):=(zac (by simpa using hu0)).symm
  simp only [go_sem,e0,e4',e9,e10,ho,hT]
  generalize hg:lim (headed pure (run L) true _ lp27_1 _ _) _ _=o
  obtain ⟨x,en,s,rfl,h2⟩: ∃x en s,o=some (x,en,s)∧_:=by rw [←hg];exact zk9 n hn L0 hL (by omega) us 0 [] ⟨by omega,rfl,fun k hk=>by omega⟩ _ _ (by simp only [go_sem,e0,e4',e9,e10,Int.natCast_zero,List.map_nil,zjm,show o1A []=nilA from rfl,show ∀m,o1T m []=[m] from fun _=>rfl]<;>rfl)
  clear hg
  obtain ⟨rfl,f4,f10,ws,hwl,hwp,rfl⟩:=h2
  refine ⟨us,ws,⟨hul,hwl,hup,hwp⟩,?_⟩
  simp only [go_sem,f4,f10,fin_o1,zao,zhn,zej,hsl]
attribute [local go_sem] m_ x_ l_ k_ o_ t_ a_ s_ q_ b_ c_ u_ g_ zl za zg zm z0g z0f ze zi zj z6 zh z0h z0u z1t z1r zx z1o z6n
theorem zo4 {O:List Nat} (h:srtB O=true):O.Pairwise LexLe:=by
 unfold srtB at h
 rw [List.all_eq_true] at h
 rw [List.pairwise_iff_getElem]
 have step: ∀j (hj:j+1<O.length),LexLe O[j] O[j+1]:=by
  intro j hj
  have:=h j (List.mem_range.2 (by omega))
  rw [List.getD_eq_getElem?_getD,List.getD_eq_getElem?_getD,List.getElem?_eq_getElem hj,List.getElem?_eq_getElem (show j<O.length by omega)] at this
  unfold LexLe
  simpa using this
 have key: ∀d i (hj:i+d+1<O.length),LexLe O[i] O[i+d+1]:=by
  intro d
  induction d with
  |zero=>intro i hj;exact step i hj
  |succ d ih=>
   intro i hj
   have h1:=ih i (by omega)
   have h2:=step (i+d+1) (by omega)
   exact zke h1 h2
 intro i j hi hj hij
 have:=key (j-i-1) i (by omega)
 simp only [show i+(j-i-1)+1=j by omega] at this
 exact this
theorem c27e (n:Int)(nl:Bool)(G:List GS)(hG: ∀p∈G,p.2.length<1000)(hGl:G.length<1000)(he:(openG n G).1≠0)(h12:(openG n G).1≠13)(st:St):
  run L 27 [I n,sl 1 nl (G.map gM)] st=some (.tup [.agg [nilA,nilA],I (openG n G).1],st):=by
 rw [run_pure (fn:=ir27) rfl rfl]
 have h17:=fun st=>c17 n nl G hG hGl st
 unfold whyG at h17
 rw [if_pos he] at h17
 simp only [ir27,go_sem,h17,he,h12]
theorem c27x (n:Int)(nl:Bool)(G:List GS)(hG: ∀p∈G,p.2.length<1000)(hGl:G.length<1000)(he:(openG n G).1=0)(hc:clP (openG n G).2 0≠none)(st:St):
  run L 27 [I n,sl 1 nl (G.map gM)] st=some (.tup [.agg [nilA,nilA],I 12],st):=by
 rw [run_pure (fn:=ir27) rfl rfl]
 have h17:=fun st=>c17 n nl G hG hGl st
 unfold whyG at h17
 rw [he,if_neg (by simp)] at h17
 cases h:clP (openG n G).2 0 with
 |none=>exact absurd h hc
 |some p=>
  obtain ⟨a,b⟩:=p
  rw [h,show whyA (some (a,b))=.tup [J a,J b,I 0] from rfl] at h17
  simp only [ir27,go_sem,h17]
theorem zom (n:Int)(G:List GS):(openG n G).1≠13∧(openG n G).1≠12:=by
 have row: ∀(m:Nat) (l:List Int) (p:Option Int),rowE m p l≠13∧rowE m p l≠12:=by
  intro m l
  induction l with
  |nil=>intro p;unfold rowE;decide
  |cons a r ih=>
   intro p
   unfold rowE
   split
   ·decide
   ·split
    ·decide
    ·exact ih _
 have side: ∀(m:Nat) (l:List Int),sideE m l≠13∧sideE m l≠12:=by
  intro m l
  unfold sideE
  split
  ·decide
  ·exact row m l none
 have key: ∀(m:Nat) (G:List GS) (ss:List Nat),(openS m G ss).1≠13∧(openS m G ss).1≠12:=by
  intro m G
  induction G with
  |nil=>intro ss;unfold openS;dsimp only;decide
  |cons p r ih=>
   intro ss
   unfold openS
   split
   ·exact side m p.2
   ·split
    ·dsimp only;decide
    ·split
     ·dsimp only;decide
     ·exact ih _
 unfold openG
 split
 ·decide
 ·split
  ·decide
  ·exact key _ _ _
theorem c4 (n:Int)(nl:Bool)(G:List GS)(nu nw:Bool)(us ws:List Int):
  run L 4 [I n,sl 1 nl (G.map gM),.agg [sl 1 nu (us.map I),sl 1 nw (ws.map I)]] ⟨[],[]⟩=some (B true,⟨[],[]⟩):=by
 rw [run_pure (fn:=ir4) rfl rfl]
 have h14:=fun st=>c14 nl G st
 have hlu:=zn I nu us
 have hlw:=zn I nw ws
 cases hlg:lgG G with
 |true=>
  rw [hlg] at h14
  simp only [ir4,go_sem,h14,c15]
 |false=>
  rw [hlg] at h14
  by_cases q1:40<us.length
  ·have q1:((40:Int)<(us.length:Int))=True:=eT (by omega)
   simp only [ir4,go_sem,h14,hlu,q1,c15]
  have p1:((40:Int)<(us.length:Int))=False:=eF (by omega)
  by_cases q2:40<ws.length
  ·have q2:((40:Int)<(ws.length:Int))=True:=eT (by omega)
   simp only [ir4,go_sem,h14,hlu,hlw,p1,q2,c15]
  have p2:((40:Int)<(ws.length:Int))=False:=eF (by omega)
  obtain ⟨hGl,hGa⟩:=lg_ok hlg
  have hG: ∀p∈G,p.2.length<1000:=fun p hp=>by have:=hGa p hp;omega
  have hGl2:G.length<1000:=by omega
  have h28:=fun st=>c28V n nu nw us ws (by omega) (by omega) st
  have h29:=fun st=>c29 n nu nw us ws (by omega) (by omega) st
  have h30:=fun st=>c30V n nu nw us ws (by omega) (by omega) st
  have h31:=fun st=>c31 n nu nw us ws (by omega) (by omega) st
  obtain ⟨hlt8,hle13⟩:=zgt n us ws
  have h23: ∃A B0:AV,(∀st,run L 28 [I n,.agg [sl 1 nu (us.map I),sl 1 nw (ws.map I)]] st=some (.tup [A,I (readV n us ws).1],st))∧(∀st,run L 29 [I n,.agg [sl 1 nu (us.map I),sl 1 nw (ws.map I)]] st=some (.tup [B0,I (readV n us ws).1],st))∧(∀st,run L 23 [A,B0] st=some (B true,st))∧pub A=A∧pub B0=B0:=by
   unfold sidesA at h28
   by_cases he:(readV n us ws).1=0
   ·obtain ⟨m,U,W,rfl,h2,hm,e1,e2,e3,hUl,ht,e4,e6,e5⟩:=zgs he
    rw [if_pos he] at h28 h29
    refine ⟨_,_,h28,h29,fun st=> ?_,z4h _ _ _,z4h _ _ _⟩
    have hs:=zo4 e5
    have e7:(readV m us ws).2=outL U W:=by rw [e4]
    rw [←e7] at hs
    have hu:=zgj hlt8 (List.Perm.refl _) hs
    rw [←hu]
    have:=c23M true true (readV m us ws).2 (readV m us ws).2 (by omega) st
    rw [decide_eq_true rfl] at this
    exact this
   ·rw [if_neg he] at h28 h29
    exact ⟨_,_,h28,h29,fun st=>c23M true true [] [] (by simp) st,rfl,rfl⟩
  obtain ⟨A,B0,h28,h29,h23,hpA,hpB⟩:=h23
  have hne:=zom n G
  have htr: ∃(b1 b2 c1 c2:Bool) (A1 A2:List Int) (e:Int),A1.length<1000∧A2.length<1000∧run L 26 [I n,sl 1 nl (G.map gM)] ⟨[],[]⟩=some (.tup [.agg [sl 1 b1 (A1.map I),sl 1 b2 (A2.map I)],I e],⟨[],[]⟩)∧run L 27 [I n,sl 1 nl (G.map gM)] ⟨[],[]⟩=some (.tup [.agg [sl 1 c1 (A1.map I),sl 1 c2 (A2.map I)],I e],⟨[],[]⟩):=by
   by_cases he:(openG n G).1=0
   ·obtain ⟨m,X,rfl,h2,hm,hl,hXl,e1,e2,hX,e4,hnd⟩:=zh0 he
    by_cases hc:clP (X.map (smlN m)) 0=none
    ·obtain ⟨Us,W,ht,h27⟩:=zn9 m h2 hm nl G hG hGl2 X hX (by omega) e1 he e4 hc
     have h26:=c26 m h2 hm nl X hX hnd (by omega) hc ⟨[],[]⟩
     have hS:Sides m (X.map (smlN m)):=⟨fun s hs=>by
       rw [List.mem_map] at hs;obtain ⟨v,hv,rfl⟩:=hs;exact z32 (hX v hv).1,
      fun s hs=>by
       rw [List.mem_map] at hs;obtain ⟨v,hv,rfl⟩:=hs;exact zfy (hX v hv).2.1 (hX v hv).2.2,
      fun s hs=>by
       rw [List.mem_map] at hs;obtain ⟨v,hv,rfl⟩:=hs;exact zap (by omega),hnd⟩
     have hlam:=(hS.lam hm hc).srt hm
     have htree:=zkm hm hlam
     obtain ⟨u1,u2⟩:=zp7 hm hlam ht htree
     rw [←e1] at h26
     have hul:=ht.ul
     have hal:=ht.al
     rw [z9m (zj9 hm hX),lm_] at hul
     unfold treeA at h26
     rw [←u1,←u2,←mapJ,←mapJ] at h26
     rw [←mapJ,←mapJ] at h27
     exact ⟨false,false,true,true,_,_,0,by rw [lm_];omega,by rw [lm_];omega,h26,h27⟩
    ·have h26:=c26x m h2 hm nl X hX hnd (by omega) hc ⟨[],[]⟩
     have h27:=c27x m nl G hG hGl2 he (by rw [e4];exact hc) ⟨[],[]⟩
     rw [←e1] at h26
     exact ⟨true,true,true,true,[],[],12,by simp,by simp,h26,h27⟩
   ·have h26:=c26er (nl:=nl) hG hGl2 he ⟨[],[]⟩
    have h27:=c27e n nl G hG hGl2 he hne.1 ⟨[],[]⟩
    exact ⟨true,true,true,true,[],[],_,by simp,by simp,h26,h27⟩
  obtain ⟨b1,b2,c1,c2,A1,A2,e,hA1,hA2,h26,h27⟩:=htr
  have h26:=fun st=>z16 (fn:=ir26) rfl rfl h26 st
  have h27:=fun st=>z16 (fn:=ir27) rfl rfl h27 st
  have g1:=fun st=>c22 b1 c1 A1 A1 (by omega) st
  have g2:=fun st=>c22 b2 c2 A2 A2 (by omega) st
  rw [decide_eq_true rfl] at g1 g2
  simp only [ir4,go_sem,h14,hlu,hlw,p1,p2,h26,h27,h28,h29,h30,h31,h23,g1,g2,hpA,hpB,c15]
end Go.Proofs.YtdnmhlfjafjkbaaGreatDoor.Vm
