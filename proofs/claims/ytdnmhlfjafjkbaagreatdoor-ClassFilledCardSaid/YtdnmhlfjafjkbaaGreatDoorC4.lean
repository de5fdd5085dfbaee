/- What is proved: what each function of this program computes, as equations on the evaluator. No condition. -/
import Derived.Test.YtdnmhlfjafjkbaaGreatDoorC3
import Derived.KernelRfl
import Derived.Test.YtdnmhlfjafjkbaaGreatDoorT0
set_option linter.all false
namespace Go.Proofs.YtdnmhlfjafjkbaaGreatDoor.Vm
open Go Go.Ev
set_option maxRecDepth 100000
set_option maxHeartbeats 4000000
attribute [local go_sem] m_ x_ l_ k_ o_ t_ a_ s_ q_ b_ c_ u_ g_ z3x z0p z4z z1s z3s z0k z4v z15 z25 z08 z30 z1r z3r z0j z4u z1v z3v z0n z4x z16 z26 z09 z31 z14 z24 z06 z2y z1u z3u z0m z2v z5i z13 z70 z1w z3w z0o z4y z1x z0w z0q z50 z1q z3q z0i z4t z1t z3t z0l z4w z2z z1z z2c z7a z78 z79 z56 z35 z38 z37 z36 z3j z3k z4b z58 z7k z0s z3y z2x z1b z33 z3m z3o z5f z5g z5e z3p z23 z17 z4s z2w z22 z1d z0e z28 z1e z32 z73 z53 z1o z11 z1p pubs pub z5y params z2g z07 z1g z2l z39 z3l z6f untips untip z4r wantedAV setElems withO z7b z3f z3c z3b z5a z3e z3a z59 z3d List.replicate_succ List.replicate_zero opAV valAV aval avals ofVal Env.get setD canon gcAV renAll renEnv renStore renCells z6e cutSt okEnv okStore okRefs okRef z4a z7o z5j z7n z7l z7m z7p cellsEq cellEq isShift intOp boolOp z74 z75 z7q bne resAV tupAV z57 za2 z6j fins zep z7f z7g z7e za3 storeAV readCells putCells z5h z2u z12 fieldAddrAV z94 goI List.getElem?_cons_zero List.getElem?_cons_succ List.getElem?_nil Option.bind_some Option.map_some List.length_cons List.length_nil List.all_cons List.all_nil Bool.and_true Bool.true_and Bool.and_false Bool.false_and and_true true_and and_false false_and Bool.false_eq_true List.set_cons_zero List.set_cons_succ List.append_nil List.nil_append List.cons_append List.take_zero List.take_succ_cons List.take_nil List.drop_zero List.drop_succ_cons List.map_cons List.map_nil decide_true decide_false beq_self_eq_true Bool.not_true Bool.not_false or_true true_or or_false false_or Nat.zero_add Nat.add_zero Nat.le_refl Nat.lt_irrefl decide_eq_true_eq eq_self_iff_true not_true_eq_false not_false_eq_true List.getD_cons_zero z3n Nat.zero_le Nat.not_lt_zero Bool.true_beq Bool.false_beq beq_true beq_false ge_iff_le gt_iff_lt keepR keepT ownTop zf5 pus Option.map_none z2a z29 z5c z3g z5b Int.cast_ofNat_Int Nat.mul_one Nat.zero_mul Int.toNat_natCast Int.toNat_zero setParts withO2 hasKey z5d z54 z3i z34 z1a z19 z0a z20 setm z4n z68 z5p z9m z9r zc0 z7w z5u z4l z2t z80 z5z z5t z4c z69 z4k z7x z5v z4h z2r z82 z60 z8b z4i z4j z65 z2q z7t z5s z5r z7u Option.bind_none Bool.not_eq_true' decide_eq_false_iff_not Bool.and_eq_true Bool.or_eq_true Option.some.injEq Int.not_lt Int.not_le
attribute [local go_sem_proc] reduceIte Nat.reduceEqDiff Nat.reduceAdd Nat.reduceSub Nat.reduceLeDiff Nat.reduceLT reduceCtorEq Int.reduceLT Int.reduceLE Int.reduceEq Int.reduceBEq Int.reduceSub Int.reduceAdd Int.reduceMul Int.reduceNeg Int.reduceToNat Nat.reduceMul Nat.reduceBEq
attribute [local go_sem] m_ x_ l_ k_ o_ t_ a_ s_ q_ b_ c_ u_ g_ z00 zo zx z01 z41 z2o zg zk zm z9 zl z49
theorem z8w {α:Type} (A L:List α) {p:Nat} (hp:A.length=p)(k:Nat):(A++L)[p+k]? =L[k]? :=by
 subst hp;rw [List.getElem?_append_right (by omega)];simp
theorem z1n {α:Type} (A L:List α) {p:Nat} (hp:A.length=p):(A++L)[p]? =L[0]? :=z8w A L hp 0
theorem zbw {α:Type} (A L:List α) {p:Nat} (hp:A.length=p)(k:Nat)(v:α):(A++L).set (p+k) v=A++L.set k v:=by
 subst hp;rw [List.set_append_right _ _ (by omega)];simp
theorem z40 {α:Type} (A L:List α) {p:Nat} (hp:A.length=p)(v:α):(A++L).set p v=A++L.set 0 v:=zbw A L hp 0 v
theorem z8g {α:Type} (A L:List α) {p:Nat} (hp:A.length=p):(A++L).length=p+L.length:=by rw [List.length_append,hp]
theorem zd4 {α:Type} (A L:List α) {p:Nat} (hp:A.length=p)(k:Nat):(A++L).take (p+k)=A++L.take k:=by
 subst hp;rw [List.take_append,List.take_of_length_le (by omega),Nat.add_sub_cancel_left]
structure Calm (A:List (List AV)):Prop where
 ok: ∀n,okStore n A=true
 ren: ∀n T acc,renStore n T acc A=(A,acc)
theorem Calm.okApp {A:List (List AV)} (h:Calm A)(n:Nat)(L:List (List AV)):okStore n (A++L)=okStore n L:=by
 have key: ∀(B:List (List AV)),okStore n (B++L)=(okStore n B&&okStore n L):=by
  intro B
  induction B with
  |nil=>rfl
  |cons b r ih=>simp only [List.cons_append,okStore,ih,Bool.and_assoc]
 rw [key,h.ok,Bool.true_and]
theorem Calm.renApp {A:List (List AV)} (h:Calm A)(n:Nat)(T:List Nat)(acc:List (Nat×Nat))(L:List (List AV)):renStore n T acc (A++L)=(A++(renStore n T acc L).1,(renStore n T acc L).2):=by
 have key: ∀(B:List (List AV)) (acc:List (Nat×Nat)),renStore n T acc (B++L)=((renStore n T acc B).1++(renStore n T (renStore n T acc B).2 L).1,(renStore n T (renStore n T acc B).2 L).2):=by
  intro B
  induction B with
  |nil=>intro acc;rfl
  |cons b r ih=>intro acc;simp only [List.cons_append,renStore,ih]
 rw [key,h.ren]
theorem PL.calm {X:List (List AV)} (h:PL X):Calm X:=⟨znd h,zjh h⟩
theorem Calm.cons {A:List (List AV)} (h:Calm A) {C:List AV} (hC1: ∀n,okRefs n C=true)(hC2: ∀n T acc,renCells n T acc C=(C,acc)):Calm (C::A):=
 ⟨fun n=>by simp only [okStore,hC1,h.ok,Bool.and_self],fun n T acc=>by simp only [renStore,hC2,h.ren]⟩
theorem stb0 (st0:St)(R C:AV)(n:Nat)(hn:n<20)(lo hi:Nat)(i:Nat)(hok:i=20)(env:Env)(st:St)
  (hg:gcAV false lo hi (canon env [0,1,2,6,7,8]) st=([(0,R),(1,J n),(2,C),(6,I 20),(7,I 0),(8,J i)],st0)):
  ∃x_1 en s,lim (headed pure (run L) false [0,1,2,6,7,8] lp132_0 lo hi) env st=some (x_1,en,s)∧(x_1=.exit 0∧s=st0∧en.get 0=R∧en.get 1=J n∧en.get 2=C∧en.get 6=I 20∧en.get 7=I 0):=by
 refine z7 (α:=Nat) (fun i=>i) (fun i=>i=20) (fun i=>([(0,R),(1,J n),(2,C),(6,I 20),(7,I 0),(8,J i)],st0)) (fun i x_1 en s=>x_1=.exit 0∧s=st0∧en.get 0=R∧en.get 1=J n∧en.get 2=C∧en.get 6=I 20∧en.get 7=I 0) (fun i hok=> ?_) i hok env st hg
 subst hok
 have hlt:((20:Int)≤(n:Int))=False:=eF (by omega)
 simp only [go_sem,lp132_0,hlt]
theorem stb2 (st0:St)(R C:AV)(n:Nat)(hn:n<20)(lo hi:Nat)(i:Nat)(hok:i=20)(env:Env)(st:St)
  (hg:gcAV false lo hi (canon env [0,1,2,6]) st=([(0,R),(1,J n),(2,C),(6,J i)],st0)):
  ∃x_1 en s,lim (headed pure (run L) false [0,1,2,6] lp132_2 lo hi) env st=some (x_1,en,s)∧(x_1=.exit 2∧s=st0):=by
 refine z7 (α:=Nat) (fun i=>i) (fun i=>i=20) (fun i=>([(0,R),(1,J n),(2,C),(6,J i)],st0)) (fun i x_1 en s=>x_1=.exit 2∧s=st0) (fun i hok=> ?_) i hok env st hg
 subst hok
 have hlt:((20:Int)<(n:Int))=False:=eF (by omega)
 simp only [go_sem,lp132_2,hlt]
theorem c91 (m:Nat) [NeZero m] (S0:List (List AV))(T:List Nat)(l:Nat)(hl:l<S0.length)(hm:m<20)(ag:Bool)(k:Nat)(hk:pure k=false)(caps:List AV)(c:Fin m→Fin m→Int)(lt:Fin m→Fin m→Bool)(hlt: ∀x y,lt x y=decide (c x y<0))(hc: ∀x y X E,run L k (fK x::fK y::caps) ⟨put S0 l X E,T⟩=some (I (c x y),⟨put S0 l X E,T⟩))(d:Array (Fin m))(hsz:d.size=m):
  run L 91 [.rsl l 0 m m 1 ag,.fn (.func k) [] caps] ⟨put S0 l (Dm fK d) [],T⟩=some (.tup [],⟨put S0 l (Dm fK (Go.Sort.insertionSort lt d 0 m)) [],T⟩):=by
 have h171:run L 171 [.rsl l 0 m m 1 ag,I 0,J m,.fn (.func k) [] caps] ⟨put S0 l (Dm fK d) [],T⟩=some (.tup [],⟨put S0 l (Dm fK (Go.Sort.insertionSort lt d 0 m)) [],T⟩):=
  insk m S0 T l hl m (by omega) ag k hk caps c lt hlt hc [] 0 m (by omega) (Nat.le_refl _) d hsz
 have h132:run L 132 [.rsl l 0 m m 1 ag,J m,.fn (.func k) [] caps] ⟨put S0 l (Dm fK d) [],T⟩=some (.tup [],⟨put S0 l (Dm fK (Go.Sort.insertionSort lt d 0 m)) [],T⟩):=by
  rw [z6 (fn:=ir132) rfl rfl]
  simp only [ir132,go_sem]
  generalize hg:lim (headed pure (run L) false _ lp132_0 _ _) _ _=o
  obtain ⟨x,en,s,rfl,h2⟩: ∃x en s,o=some (x,en,s)∧_:=by rw [←hg];exact stb0 _ (.rsl l 0 m m 1 ag) (.fn (.func k) [] caps) m hm _ _ 20 rfl _ _ (by simp only [go_sem]<;>rfl)
  clear hg
  obtain ⟨rfl,rfl,e0,e1,e2,e6,e7⟩:=h2
  simp only [go_sem,e0,e1,e2,e6,e7,h171]
  generalize hg:lim (headed pure (run L) false _ lp132_2 _ _) _ _=o
  obtain ⟨x,en,s,rfl,h2⟩: ∃x en s,o=some (x,en,s)∧_:=by rw [←hg];exact stb2 _ (.rsl l 0 m m 1 ag) (.fn (.func k) [] caps) m hm _ _ 20 rfl _ _ (by simp only [go_sem,e0,e1,e2,e6,e7]<;>rfl)
  clear hg
  obtain ⟨rfl,rfl⟩:=h2
  simp only [go_sem]
 rw [z6 (fn:=ir91) rfl rfl]
 simp only [ir91,go_sem,h132]
def stepA (i:Nat) (UA:List Nat×List Nat) (a:Int):List Nat×List Nat:=(UA.1.set i (UA.2.getD a.toNat 0),UA.2.set a.toNat (i+1))
def stepI (L:List Nat) (UA:List Nat×List Nat) (i:Nat):List Nat×List Nat:=(memb (L.getD i 0)).foldl (stepA i) UA
def growN (L:List Nat) (n:Nat) (order:List Nat):List Nat×List Nat:=order.foldl (stepI L) (List.replicate L.length 0,List.replicate n 0)
theorem zhh (i:Nat)(UA:List Nat×List Nat)(a:Int):(stepA i UA a).1.length=UA.1.length∧(stepA i UA a).2.length=UA.2.length:=by
 unfold stepA;simp
theorem z9a (i:Nat): ∀(l:List Int) (UA:List Nat×List Nat),(l.foldl (stepA i) UA).1.length=UA.1.length∧(l.foldl (stepA i) UA).2.length=UA.2.length
 | [],UA=>⟨rfl,rfl⟩
 |a::r,UA=>by
  rw [List.foldl_cons]
  have h1:=z9a i r (stepA i UA a)
  have h2:=zhh i UA a
  exact ⟨h1.1.trans h2.1,h1.2.trans h2.2⟩
theorem getJ (o:List Nat)(a:Nat)(h:a<o.length):(o.map J)[a]? =some (J (o.getD a 0)):=by
 rw [getm J o 0 a,if_pos h]
theorem z9l (n:Nat)(xs:List Nat):okRefs n (xs.map J)=true:=z4e J n (fun _=>rfl) xs
theorem z5w (n:Nat)(tips:List Nat)(acc:List (Nat×Nat))(xs:List Nat):renCells n tips acc (xs.map J)=(xs.map J,acc):=z1y J n tips (fun _ _=>rfl) xs acc
theorem setJ (xs:List Nat)(i v:Nat):(xs.map J).set i (J v)=(xs.set i v).map J:=by rw [List.map_set]
def isP (l:Nat):AV→Bool
 | .ptr l' _=>l'==l
 |_=>false
def notP (l:Nat):AV→Bool
 | .ptr l' _=>l' !=l
 |_=>true
theorem onB1 (env:Env)(t:Tmp)(l o:Nat):onB env [t] (.ptr l o)=isP l (env.get t):=by
 show ([t].any fun t=>match env.get t with| .ptr l' _=>l'==l|_=>false)=_
 rw [List.any_cons,List.any_nil,Bool.or_false];rfl
theorem onB_e (env:Env)(ts:List Tmp)(e:AV)(o:Nat):onB env ts (.eptr e o)=true:=rfl
theorem offB1 (env:Env)(t:Tmp)(l o:Nat):offB env [t] (.ptr l o)=notP l (env.get t):=by
 show ([t].all fun t=>match env.get t with| .ptr l' _=>l' !=l|_=>true)=_
 rw [List.all_cons,List.all_nil,Bool.and_true];rfl
theorem zmy (l l' o:Nat):isP l (.ptr l' o)=(l'==l):=rfl
theorem zk3 (l l' o:Nat):notP l (.ptr l' o)=(l' !=l):=rfl
theorem zkg (A:List (List AV))(hA:Calm A)(p:Nat)(hp:A.length=p)(h2p:2≤p)(m n:Nat)(hm:m≤13)(hn:n≤8)(D:List AV)(hD1:okRefs (p+5) D=true)(hD2: ∀n T acc,renCells n T acc D=(D,acc))(o:List Nat)(ho:o.length=m)(j i:Nat)(hi:i<m)(l:List Int)(hlr: ∀a∈l,0≤a∧a<(n:Int))(hl9:l.length≤9)(q:Nat)(U:List Nat)(W:List Nat)(hok:q≤l.length∧U.length=m∧W.length=n)(env:Env)(st:St)
  (hg:gcAV true (p+5) 0 (canon env [4,6,10,12,47,48,49,57,58,59]) st=([(4,.ptr 0 0),(6,.ptr p 0),(10,.ptr (p+4) 0),(12,J i),(47,.rsl (p+1) 0 m m 1 false),(48,J m),(49,J j),(57,tAV l),(58,J l.length),(59,J q)],⟨A++ [D,o.map J,U.map J,W.map J,[.rsl (p+2) 0 m m 1 false,.rsl (p+3) 0 n n 1 false]],[]⟩)):
  ∃x_1 en s,lim (headed pure (run L) true [4,6,10,12,47,48,49,57,58,59] lp26_1 (p+5) 0) env st=some (x_1,en,s)∧(x_1=.exit 4∧en.get 4=.ptr 0 0∧en.get 6=.ptr p 0∧en.get 10=.ptr (p+4) 0∧en.get 47=.rsl (p+1) 0 m m 1 false∧en.get 48=J m∧en.get 49=J j∧s=⟨A++ [D,o.map J,((l.drop q).foldl (stepA i) (U,W)).1.map J,((l.drop q).foldl (stepA i) (U,W)).2.map J,[.rsl (p+2) 0 m m 1 false,.rsl (p+3) 0 n n 1 false]],[]⟩):=by
 refine z7 (α:=Nat×List Nat×List Nat) (fun ⟨q,U,W⟩=>l.length-q) (fun ⟨q,U,W⟩=>q≤l.length∧U.length=m∧W.length=n) (fun ⟨q,U,W⟩=>([(4,.ptr 0 0),(6,.ptr p 0),(10,.ptr (p+4) 0),(12,J i),(47,.rsl (p+1) 0 m m 1 false),(48,J m),(49,J j),(57,tAV l),(58,J l.length),(59,J q)],⟨A++ [D,o.map J,U.map J,W.map J,[.rsl (p+2) 0 m m 1 false,.rsl (p+3) 0 n n 1 false]],[]⟩)) (fun ⟨q,U,W⟩ x_1 en s=>x_1=.exit 4∧en.get 4=.ptr 0 0∧en.get 6=.ptr p 0∧en.get 10=.ptr (p+4) 0∧en.get 47=.rsl (p+1) 0 m m 1 false∧en.get 48=J m∧en.get 49=J j∧s=⟨A++ [D,o.map J,((l.drop q).foldl (stepA i) (U,W)).1.map J,((l.drop q).foldl (stepA i) (U,W)).2.map J,[.rsl (p+2) 0 m m 1 false,.rsl (p+3) 0 n n 1 false]],[]⟩) (fun ⟨q,U,W⟩ hok=> ?_) ⟨q,U,W⟩ hok env st hg
 simp only at hok
 obtain ⟨h1,hU,hW⟩:=hok
 dsimp only at h1 hU hW⊢
 by_cases h:q<l.length
 ·have hs:=zb q (by omega)
  have hlt:((q:Int)<(l.length:Int))=True:=eT (by omega)
  have hx:indexSAV 1 (tAV l) (.v (.int .i64 (q:Int)))=some (.eptr (I l[q]) 0):=z0y true l q h
  have hd:l.drop q=l[q]::l.drop (q+1):=List.drop_eq_getElem_cons h
  have hb:=hlr l[q] (List.getElem_mem h)
  rw [hd,List.foldl_cons]
  generalize l[q]=a at*
  obtain ⟨a,rfl⟩:=Int.eq_ofNat_of_zero_le hb.1
  have hsa:stepA i (U,W) (a:Int)=(U.set i (W.getD a 0),W.set a (i+1)):=by unfold stepA;rw [Int.toNat_natCast]
  rw [hsa]
  have b1:((a:Int)<(n:Int))=True:=eT (by omega)
  have b2:(a+1≤n)=True:=eT (by omega)
  have b3:((i:Int)<(m:Int))=True:=eT (by omega)
  have b4:(i+1≤m)=True:=eT (by omega)
  have hg:=getJ W a (by omega)
  have hi1:=zb i (by omega)
  have g:=fun L k=>z8w A L hp k
  have s':=fun L k v=>zbw A L hp k v
  have hu:=setJ U i (W.getD a 0)
  have hw:=setJ W a (i+1)
  have hUl:(U.map J).length=m:=by rw [lm_,hU]
  have hWl:(W.map J).length=n:=by rw [lm_,hW]
  generalize W.getD a 0=v at*
  have n3:(p+4==p+2)=false:=by simp
  have n4:(p+4==p+3)=false:=by simp
  have pt:=fun L k=>zd4 A L hp k
  have l0:(0<p+5)=True:=eT (by omega)
  have l1:(p<p+5)=True:=eT (by omega)
  have l2:(p+1<p+5)=True:=eT (by omega)
  have l3:(p+2<p+5)=True:=eT (by omega)
  have l4:(p+3<p+5)=True:=eT (by omega)
  have l5:(p+4<p+5)=True:=eT (by omega)
  simp only [go_sem,lp26_1,hlt,hx,hs,b1,b2,b3,b4,hg,hi1,g,s',hUl,hWl,hu,hw,onB1,onB_e,offB1,zmy,zk3,n3,n4,nn_,hU,hW,lm_]
  refine ⟨(q+1,U.set i v,W.set a (i+1)),by simp only [go_sem,z3,z4,z5,hA.okApp,hA.renApp,pt,z9l,z5w,hD1,hD2,z8e,l0,l1,l2,l3,l4,l5]<;>rfl,?_,?_,fun x en s hq=> ?_⟩
  ·dsimp only;exact ⟨by omega,by rw [List.length_set,hU],by rw [List.length_set,hW]⟩
  ·dsimp only;omega
  ·exact hq
 ·have hd:l.drop q=[]:=List.drop_eq_nil_of_le (by omega)
  have hlt:((q:Int)<(l.length:Int))=False:=eF (by omega)
  rw [hd]
  simp only [go_sem,lp26_1,hlt]
  rfl
attribute [local go_sem] m_ x_ l_ k_ o_ t_ a_ s_ q_ b_ c_ u_ g_ z00 zo zx z01 z41 z2o zg zk zm z9 zl z49
theorem zhg (L:List Nat)(UA:List Nat×List Nat)(i:Nat):(stepI L UA i).1.length=UA.1.length∧(stepI L UA i).2.length=UA.2.length:=z9a i _ UA
theorem zkf (A:List (List AV))(hA:Calm A)(p:Nat)(hp:A.length=p)(h2p:2≤p)(ss:List Nat)(hA1: ∀L,(A++L)[1]? =some (ss.map u8))(n:Nat)(hm:ss.length≤13)(hn:n≤8)(hss: ∀s∈ss,s<2^n)(od:List Nat)(ho:od.length=ss.length)(hor: ∀x∈od,x<ss.length)(j:Nat)(U:List Nat)(W:List Nat)(hok:j≤od.length∧U.length=ss.length∧W.length=n)(env:Env)(st:St)
  (hg:gcAV true (p+5) 0 (canon env [4,6,10,47,48,49]) st=([(4,.ptr 0 0),(6,.ptr p 0),(10,.ptr (p+4) 0),(47,.rsl (p+1) 0 ss.length ss.length 1 false),(48,J ss.length),(49,J j)],⟨A++ [[.rsl 1 0 ss.length ss.length 1 true],od.map J,U.map J,W.map J,[.rsl (p+2) 0 ss.length ss.length 1 false,.rsl (p+3) 0 n n 1 false]],[]⟩)):
  ∃x_1 en s,lim (headed pure (run L) true [4,6,10,47,48,49] lp26_2 (p+5) 0) env st=some (x_1,en,s)∧(x_1=.exit 2∧en.get 4=.ptr 0 0∧en.get 10=.ptr (p+4) 0∧s=⟨A++ [[.rsl 1 0 ss.length ss.length 1 true],od.map J,((od.drop j).foldl (stepI ss) (U,W)).1.map J,((od.drop j).foldl (stepI ss) (U,W)).2.map J,[.rsl (p+2) 0 ss.length ss.length 1 false,.rsl (p+3) 0 n n 1 false]],[]⟩):=by
 refine z7 (α:=Nat×List Nat×List Nat) (fun ⟨j,U,W⟩=>od.length-j) (fun ⟨j,U,W⟩=>j≤od.length∧U.length=ss.length∧W.length=n) (fun ⟨j,U,W⟩=>([(4,.ptr 0 0),(6,.ptr p 0),(10,.ptr (p+4) 0),(47,.rsl (p+1) 0 ss.length ss.length 1 false),(48,J ss.length),(49,J j)],⟨A++ [[.rsl 1 0 ss.length ss.length 1 true],od.map J,U.map J,W.map J,[.rsl (p+2) 0 ss.length ss.length 1 false,.rsl (p+3) 0 n n 1 false]],[]⟩)) (fun ⟨j,U,W⟩ x_1 en s=>x_1=.exit 2∧en.get 4=.ptr 0 0∧en.get 10=.ptr (p+4) 0∧s=⟨A++ [[.rsl 1 0 ss.length ss.length 1 true],od.map J,((od.drop j).foldl (stepI ss) (U,W)).1.map J,((od.drop j).foldl (stepI ss) (U,W)).2.map J,[.rsl (p+2) 0 ss.length ss.length 1 false,.rsl (p+3) 0 n n 1 false]],[]⟩) (fun ⟨j,U,W⟩ hok=> ?_) ⟨j,U,W⟩ hok env st hg
 simp only at hok
 obtain ⟨h1,hU,hW⟩:=hok
 dsimp only at h1 hU hW⊢
 have h2n:2^n≤256:=Nat.pow_le_pow_right (n:=2) (by decide) hn
 have pt:=fun L k=>zd4 A L hp k
 have l0:(0<p+5)=True:=eT (by omega)
 have l0':(1<p+5)=True:=eT (by omega)
 have l1:(p<p+5)=True:=eT (by omega)
 have l2:(p+1<p+5)=True:=eT (by omega)
 have l3:(p+2<p+5)=True:=eT (by omega)
 have l4:(p+3<p+5)=True:=eT (by omega)
 have l5:(p+4<p+5)=True:=eT (by omega)
 by_cases h:j<od.length
 ·have hs:=zb j (by omega)
  have hlt:((j:Int)<(ss.length:Int))=True:=eT (by omega)
  have hil:(j+1≤ss.length)=True:=eT (by omega)
  have hd:od.drop j=od.getD j 0::od.drop (j+1):=by
   rw [List.drop_eq_getElem_cons h];simp [List.getD_eq_getElem?_getD,h]
  have hb:od.getD j 0<ss.length:=by
   rw [List.getD_eq_getElem?_getD,List.getElem?_eq_getElem h];exact hor _ (List.getElem_mem h)
  have hgj:=getJ od j h
  have hol:(od.map J).length=ss.length:=by rw [lm_,ho]
  rw [hd,List.foldl_cons]
  generalize od.getD j 0=i at*
  have g:=fun L k=>z8w A L hp k
  have g0:=fun L=>z1n A L hp
  have hb1:((i:Int)<(ss.length:Int))=True:=eT (by omega)
  have hb2:(i+1≤ss.length)=True:=eT (by omega)
  have hg8:=zfp ss i hb
  have hmem:ss.getD i 0∈ss:=z89 hb
  have hsi:stepI ss (U,W) i=(memb (ss.getD i 0)).foldl (stepA i) (U,W):=rfl
  have hl2:=z9a i (memb (ss.getD i 0)) (U,W)
  rw [hsi]
  have hv:=hss _ hmem
  generalize ss.getD i 0=v at*
  have h94:=fun st=>c94 v (by omega) st
  have hll:lenAV (tAV (memb v))=some (J (memb v).length):=zaz I true (memb v)
  have hml:=z2h v
  have hr:=zc5 hn hv
  have pl:=fun L=>z8g A L hp
  simp only [go_sem,lp26_2,hlt,hs,hil,hgj,hol,g,g0,pl,hA1,hb1,hb2,hg8,h94,hll,nn_,lm_]
  generalize hg:lim (headed pure (run L) true _ lp26_1 _ _) _ _=o
  obtain ⟨x,en,s,rfl,h2⟩: ∃x en s,o=some (x,en,s)∧_:=by rw [←hg];exact zkg A hA p hp h2p ss.length n hm hn [.rsl 1 0 ss.length ss.length 1 true] (by simp [okRefs,okRef]) (fun n T acc=>by simp only [renCells,ren1]) od ho j i hb (memb v) hr hml 0 U W ⟨by omega,hU,hW⟩ _ _ (by simp only [go_sem,hA.okApp,hA.renApp,pt,z9l,z5w,z8e,l0,l0',l1,l2,l3,l4,l5,Int.natCast_zero]<;>rfl)
  clear hg
  rw [List.drop_zero] at h2
  generalize (memb v).foldl (stepA i) (U,W)=UW at*
  obtain ⟨U2,W2⟩:=UW
  dsimp only at*
  obtain ⟨rfl,e4,e6,e10,e47,e48,e49,rfl⟩:=h2
  simp only [go_sem,lp26_2,e4,e6,e10,e47,e48,e49,hs]
  refine ⟨(j+1,U2,W2),by simp only [go_sem,z3,z4,z5,e4,e6,e10,e47,e48,e49,hA.okApp,hA.renApp,pt,z9l,z5w,l0,l0',l1,l2,l3,l4,l5]<;>rfl,?_,?_,fun x en s hq=> ?_⟩
  ·dsimp only;exact ⟨by omega,by omega,by omega⟩
  ·dsimp only;omega
  ·exact hq
 ·have hd:od.drop j=[]:=List.drop_eq_nil_of_le (by omega)
  have hlt:((j:Int)<(ss.length:Int))=False:=eF (by omega)
  rw [hd]
  simp only [go_sem,lp26_2,hlt]
  rfl
theorem zkh (A:List (List AV))(hA:Calm A)(p:Nat)(hp:A.length=p)(h2p:2≤p)(n m:Nat)(hm:m≤13)(j:Nat)(D:List Nat)(hok:j≤m∧D=List.range j++List.replicate (m-j) 0)(env:Env)(st:St)
  (hg:gcAV true (p+2) 0 (canon env [0,4,6,8,29,30]) st=([(0,J n),(4,.ptr 0 0),(6,.ptr p 0),(8,.rsl (p+1) 0 m m 1 false),(29,J m),(30,J j)],⟨A++ [[.rsl 1 0 m m 1 true],D.map J],[]⟩)):
  ∃x_1 en s,lim (headed pure (run L) true [0,4,6,8,29,30] lp26_0 (p+2) 0) env st=some (x_1,en,s)∧(x_1=.exit 0∧en.get 0=J n∧en.get 4=.ptr 0 0∧en.get 6=.ptr p 0∧en.get 8=.rsl (p+1) 0 m m 1 false∧s=⟨A++ [[.rsl 1 0 m m 1 true],(List.range m).map J],[]⟩):=by
 refine z7 (α:=Nat×List Nat) (fun ⟨j,D⟩=>m-j) (fun ⟨j,D⟩=>j≤m∧D=List.range j++List.replicate (m-j) 0) (fun ⟨j,D⟩=>([(0,J n),(4,.ptr 0 0),(6,.ptr p 0),(8,.rsl (p+1) 0 m m 1 false),(29,J m),(30,J j)],⟨A++ [[.rsl 1 0 m m 1 true],D.map J],[]⟩)) (fun ⟨j,D⟩ x_1 en s=>x_1=.exit 0∧en.get 0=J n∧en.get 4=.ptr 0 0∧en.get 6=.ptr p 0∧en.get 8=.rsl (p+1) 0 m m 1 false∧s=⟨A++ [[.rsl 1 0 m m 1 true],(List.range m).map J],[]⟩) (fun ⟨j,D⟩ hok=> ?_) ⟨j,D⟩ hok env st hg
 simp only at hok
 obtain ⟨h1,h2⟩:=hok
 dsimp only at h1 h2⊢
 have hDl:D.length=m:=by rw [h2];simp;omega
 by_cases h:j<m
 ·have hs:=zb j (by omega)
  have hlt:((j:Int)<(m:Int))=True:=eT (by omega)
  have hil:(j+1≤m)=True:=eT (by omega)
  have g:=fun L k=>z8w A L hp k
  have s':=fun L k v=>zbw A L hp k v
  have pt:=fun L k=>zd4 A L hp k
  have hset:(D.map J).set j (J j)=(List.range (j+1)++List.replicate (m-(j+1)) 0).map J:=by
   rw [setJ,h2,show m-j=(m-(j+1))+1 by omega,List.replicate_succ,List.range_succ]
   rw [List.set_append_right _ _ (by simp)]
   simp
  have hDJ:(D.map J).length=m:=by rw [lm_,hDl]
  have l0:(0<p+2)=True:=eT (by omega)
  have l0':(1<p+2)=True:=eT (by omega)
  have l1:(p<p+2)=True:=eT (by omega)
  have l2:(p+1<p+2)=True:=eT (by omega)
  simp only [go_sem,lp26_0,hlt,hs,hil,g,s',hset,hDJ,nn_,lm_,hDl]
  refine ⟨(j+1,List.range (j+1)++List.replicate (m-(j+1)) 0),by simp only [go_sem,z3,z4,z5,hA.okApp,hA.renApp,pt,z9l,z5w,l0,l0',l1,l2]<;>rfl,?_,?_,fun x en s hq=> ?_⟩
  ·dsimp only;exact ⟨by omega,rfl⟩
  ·dsimp only;omega
  ·exact hq
 ·have e:j=m:=by omega
  subst e
  rw [Nat.sub_self,List.replicate_zero,List.append_nil] at h2
  subst h2
  have hlt:((j:Int)<(j:Int))=False:=eF (by omega)
  simp only [go_sem,lp26_0,hlt]
attribute [local go_sem] m_ x_ l_ k_ o_ t_ a_ s_ q_ b_ c_ u_ g_ z00 zo zx z01 z41 z2o zg zk zm z9 zl z49
theorem c92 (ss:List Nat)(h256: ∀s∈ss,s<256)(p x y:Nat)(hx:x<ss.length)(hy:y<ss.length)(hm:ss.length≤13)(S:List (List AV))(T:List Nat)(g1:S[1]? =some (ss.map u8))(gp:S[p]? =some [.rsl 1 0 ss.length ss.length 1 true]):
  run L 92 [J x,J y,.ptr p 0] ⟨S,T⟩=some (I ((pc (ss.getD y 0):Int)-(pc (ss.getD x 0):Int)),⟨S,T⟩):=by
 rw [z6 (fn:=ir92) rfl rfl]
 have b1:((x:Int)<(ss.length:Int))=True:=eT (by omega)
 have b2:((y:Int)<(ss.length:Int))=True:=eT (by omega)
 have h1:=get8 ss x hx
 have h2:=get8 ss y hy
 have hx8:=h256 _ (z89 hx)
 have hy8:=h256 _ (z89 hy)
 generalize ss.getD x 0=a at*
 generalize ss.getD y 0=b at*
 have ha:=fun st=>c93 a hx8 st
 have hb:=fun st=>c93 b hy8 st
 have la:=z2h a
 have lb:=z2h b
 have hw:IntKind.i64.wrap (((memb b).length:Int)-((memb a).length:Int))=(pc b:Int)-(pc a:Int):=by
  unfold pc;rw [zu]<;>omega
 simp only [ir92,go_sem,g1,gp,b1,b2,h1,h2,ha,hb,hw,nn_]
def cG (ss:List Nat) (x y:Fin ss.length):Int:=(pc (ss.getD y.val 0):Int)-(pc (ss.getD x.val 0):Int)
def ltG (ss:List Nat) (x y:Fin ss.length):Bool:=decide (cG ss x y<0)
theorem zax (ss:List Nat)(x y:Fin ss.length):ltG ss x y=true↔pc (ss.getD y.val 0)<pc (ss.getD x.val 0):=by
 unfold ltG cG;rw [decide_eq_true_iff];omega
theorem swoG (ss:List Nat):Go.Sort.SWO (ltG ss) where
 irrefl x:=by cases h:ltG ss x x;rfl;rw [zax] at h;omega
 trans x y z h1 h2:=by rw [zax] at h1 h2⊢;omega
 ntrans x y z h1 h2:=by
  cases h:ltG ss x z
  ·rfl
  ·rw [zax] at h
   have h1: ¬ltG ss x y=true:=by rw [h1];simp
   have h2: ¬ltG ss y z=true:=by rw [h2];simp
   rw [zax] at h1 h2
   omega
def ordG (ss:List Nat):List Nat:=
 if h:ss.length=0 then [] else
  haveI:NeZero ss.length:=⟨h⟩
  (Go.Sort.insertionSort (ltG ss) (List.finRange ss.length).toArray 0 ss.length).toList.map (fun x=>x.val)
theorem zea (ss:List Nat):(ordG ss).Perm (List.range ss.length)∧(ordG ss).Pairwise (fun i j=>pc (ss.getD j 0)≤pc (ss.getD i 0)):=by
 unfold ordG
 split
 ·next h=>rw [h];exact ⟨List.Perm.refl _,List.Pairwise.nil⟩
 ·next h=>
  haveI:NeZero ss.length:=⟨h⟩
  have hsz:(List.finRange ss.length).toArray.size=ss.length:=by simp
  have h1:=Go.Sort.insertionSort_holds (swoG ss) (List.finRange ss.length).toArray 0 ss.length (Nat.zero_le _) (by rw [hsz];exact Nat.le_refl _)
  generalize Go.Sort.insertionSort (ltG ss) (List.finRange ss.length).toArray 0 ss.length=d at*
  obtain ⟨⟨g1,g2,g3⟩,g4⟩:=h1
  have hd:d.size=ss.length:=by rw [g1,hsz]
  have key: ∀(k:Nat) (d:Array (Fin ss.length)),d.size=k→(d.extract 0 k).toList=d.toList:=by
   intro k d h
   subst h
   rw [Array.extract_size]
  rw [key _ d hd,key _ _ hsz] at g3
  constructor
  ·have:=g3.map (fun x=>x.val)
   have e:(List.finRange ss.length).map (fun x=>x.val)=List.range ss.length:=by
    apply List.ext_getElem
    ·simp
    ·intro i h1 h2;simp
   simpa [e] using this
  ·rw [List.pairwise_map,List.pairwise_iff_getElem]
   intro i j hi hj hij
   simp only [Array.length_toList] at hi hj
   have:=g4 i j (Nat.zero_le _) hij (by omega)
   rw [getElem!_pos d i hi,getElem!_pos d j hj] at this
   have h2: ¬ltG ss d[j] d[i]=true:=by rw [this];simp
   rw [zax] at h2
   simp only [Array.getElem_toList]
   omega
theorem zm6 (ss:List Nat): ∀x∈ordG ss,x<ss.length:=fun x hx=>List.mem_range.1 ((zea ss).1.mem_iff.1 hx)
theorem zjy (ss:List Nat):(ordG ss).length=ss.length:=by rw [(zea ss).1.length_eq,List.length_range]
theorem PL_sh {X:List (List AV)} (h:PL X)(n:Nat):shStore n X=X:=by
 induction X with
 |nil=>rfl
 |cons B r ih=>
  obtain ⟨k,i,rfl⟩:=h B (by simp)
  simp only [shStore,shVs,shV,ih (fun C hC=>h C (by simp [hC]))]
theorem c91s (ss:List Nat)(h256: ∀s∈ss,s<256)(hm:ss.length≤13)(h0:ss.length≠0)(A:List (List AV))(p:Nat)(hp:A.length=p)(h2p:2≤p)(hA1: ∀L,(A++L)[1]? =some (ss.map u8)):
  run L 91 [.rsl (p+1) 0 ss.length ss.length 1 false,.fn (.func 92) [] [.ptr p 0]] ⟨A++ [[.rsl 1 0 ss.length ss.length 1 true],(List.range ss.length).map J],[]⟩=some (.tup [],⟨A++ [[.rsl 1 0 ss.length ss.length 1 true],(ordG ss).map J],[]⟩):=by
 haveI:NeZero ss.length:=⟨h0⟩
 have hput: ∀X E,put (A++ [[.rsl 1 0 ss.length ss.length 1 true],[]]) (p+1) X E=A++([.rsl 1 0 ss.length ss.length 1 true]::X::E):=by
  intro X E
  unfold put
  rw [zbw A _ hp 1]
  simp
 have h:=c91 ss.length (A++ [[.rsl 1 0 ss.length ss.length 1 true],[]]) [] (p+1) (by rw [z8g A _ hp];simp) (by omega) false 92 rfl [.ptr p 0] (cG ss) (ltG ss) (fun _ _=>rfl)
  (fun x y X E=>by
   rw [hput]
   exact c92 ss h256 p x.val y.val x.isLt y.isLt hm _ [] (hA1 _) (by rw [z1n A _ hp];rfl))
  (List.finRange ss.length).toArray (by simp)
 rw [hput,hput] at h
 have e1:Dm fK (List.finRange ss.length).toArray=(List.range ss.length).map J:=by
  unfold Dm
  apply List.ext_getElem
  ·simp
  ·intro i h1 h2;simp
 have e2:Dm fK (Go.Sort.insertionSort (ltG ss) (List.finRange ss.length).toArray 0 ss.length)=(ordG ss).map J:=by
  unfold Dm ordG
  rw [dif_neg h0,List.map_map];rfl
 rw [e1,e2] at h
 exact h
theorem makeJ (k:Nat)(hk:k≤1000)(S:List (List AV))(T:List Nat):makeAV 1 false [.v (.int .i64 0)] ⟨S,T⟩ (J k) (J k)=some (.rsl S.length 0 k k 1 false,⟨S++ [(List.replicate k 0).map J],T⟩):=by
 rw [z4n,if_pos ⟨by omega,by unfold maxGrow;omega⟩,Int.toNat_natCast]
 simp
theorem pubsJ (X:List Nat):pubs (X.map J)=X.map J:=zd3 J (fun _=>rfl) X
theorem zac (st:St)(l m:Nat)(X:List Nat)(hm:X.length=m)(h:st.store[l]? =some (X.map J)):fin st (.rsl l 0 m m 1 false)=sl 1 false (X.map J):=by
 subst hm
 have e:fin st (.rsl l 0 X.length X.length 1 false)=.lst .any 1 (group false 1 X.length (pubs ((X.map J).drop 0))):=by
  simp only [fin,h]
  rw [if_pos (by simp)]
 rw [e,List.drop_zero,pubsJ,zca J (fun _=>rfl)]
 rfl
def treeA (UW:List Nat×List Nat):AV:=.agg [sl 1 false (UW.1.map J),sl 1 false (UW.2.map J)]
theorem all26a:(List.range 7).map (fun n=>callAV L 400 26 [J (n+2),.v (.slice none 0 0)] ⟨[],[]⟩)=(List.range 7).map (fun n=>some (.tup [treeA (growN [] (n+2) []),I 0],(⟨[],[]⟩:St))):=by kernel_rfl
theorem all26b:(List.range 7).map (fun n=>callAV L 400 26 [J (n+2),.lst .any 1 []] ⟨[],[]⟩)=(List.range 7).map (fun n=>some (.tup [treeA (growN [] (n+2) []),I 0],(⟨[],[]⟩:St))):=by kernel_rfl
theorem c26e (n:Nat)(h2:2≤n)(hn:n≤8)(nl:Bool)(st:St):run L 26 [J n,sl 1 nl []] st=some (.tup [treeA (growN [] n []),I 0],st):=by
 obtain ⟨k,rfl⟩: ∃k,n=k+2:=⟨n-2,by omega⟩
 rcases z0z 1 nl [] with ⟨_,h⟩ |h
 ·rw [h];exact z6d (fn:=ir26) rfl rfl (z1l L 400 _ _ _ _ (z9d all26a k (by omega))) st
 ·rw [h];exact z6d (fn:=ir26) rfl rfl (z1l L 400 _ _ _ _ (z9d all26b k (by omega))) st
theorem c26 (n:Nat)(h2:2≤n)(hn:n≤8)(nl:Bool)(X:List Nat)(hX: ∀v∈X,v<2^n∧v≠0∧v≠2^n-1)(hnd:(X.map (smlN n)).Nodup)(hl:X.length≤13)(hc:clP (X.map (smlN n)) 0=none)(st:St):
  run L 26 [J n,sl 1 nl (X.map tM)] st=some (.tup [treeA (growN (srt (X.map (smlN n))) n (ordG (srt (X.map (smlN n))))),I 0],st):=by
 by_cases he:X=[]
 ·subst he
  have e1:srt (([]:List Nat).map (smlN n))=[]:=zcx
  have e2:ordG []=[]:=by unfold ordG;rw [dif_pos (by simp)]
  rw [e1,e2]
  exact c26e n h2 hn nl st
 rw [run_pure (fn:=ir26) rfl rfl]
 obtain ⟨X1,hX1,h79⟩:=(c79 n h2 hn nl X hX hnd hl).1 hc
 have hss0: ∀x∈X.map (smlN n),x<2^n:=by
  intro x hx
  rw [List.mem_map] at hx
  obtain ⟨v,hv,rfl⟩:=hx
  exact zcy (hX v hv).1
 have h2n:2^n≤256:=Nat.pow_le_pow_right (n:=2) (by decide) hn
 have hsl:=z5k (ss:=X.map (smlN n)) (fun s hs=>Nat.lt_of_lt_of_le (hss0 s hs) h2n)
 have hsm: ∀s∈srt (X.map (smlN n)),s<2^n:=fun s hs=>hss0 s ((z43 (fun s hs=>Nat.lt_of_lt_of_le (hss0 s hs) h2n)).mem_iff.1 hs)
 rw [lm_] at hsl
 generalize srt (X.map (smlN n))=ss at*
 have hne:ss≠[]:=fun e=>he (List.eq_nil_of_length_eq_zero (by rw [←hsl,e];rfl))
 have h0:ss.length≠0:=fun e=>hne (List.eq_nil_of_length_eq_zero e)
 rw [zfi hne,zda hne] at h79
 have hsv:=zhl 1 ss
 have hsx:=PL_sh hX1 1
 have hcal:Calm ([.v (.slice none 0 0),.v (.slice none 0 0)]::ss.map u8::X1):=
  (hX1.calm.cons (fun n=>z2f n ss) (fun n T acc=>z0c n T acc ss)).cons (fun n=>rfl) (fun n T acc=>rfl)
 obtain ⟨q,hq⟩: ∃q,X1.length=q:=⟨_,rfl⟩
 have g0:=fun L:List (List AV)=>z1n X1 L hq
 have g:=fun (L:List (List AV)) k=>z8w X1 L hq k
 have s0:=fun (L:List (List AV)) v=>z40 X1 L hq v
 have pl:=fun L:List (List AV)=>z8g X1 L hq
 have aa:=fun L M:List (List AV)=>List.append_assoc X1 L M
 have hmk:=fun S T=>makeJ ss.length (by omega) S T
 have hmn:=fun S T=>makeJ n (by omega) S T
 simp only [ir26,go_sem,h79,show pure 79=false from rfl,shStore,shV,shVs,hsv,hsx,keepR,keepT,ownTop,hq,g0,g,s0,pl,aa,hmk]
 obtain ⟨A,hAe⟩: ∃A,A=[.v (.slice none 0 0),.v (.slice none 0 0)]::ss.map u8::X1:=⟨_,rfl⟩
 have hcons: ∀L:List (List AV),[.v (.slice none 0 0),.v (.slice none 0 0)]::ss.map u8::(X1++L)=A++L:=by rw [hAe];exact fun L=>rfl
 have hA1: ∀L:List (List AV),(A++L)[1]? =some (ss.map u8):=fun L=>by rw [hAe];rfl
 have hA0: ∀L:List (List AV),(A++L)[0]? =some [.v (.slice none 0 0),.v (.slice none 0 0)]:=fun L=>by rw [hAe];rfl
 have hA0s: ∀(L:List (List AV)) v,(A++L).set 0 v=(v::ss.map u8::X1)++L:=fun L v=>by rw [hAe];rfl
 have hAp:A.length=q+1+1:=by rw [hAe];simp [hq]
 rw [←hAe] at hcal
 simp only [hcons]
 obtain ⟨p,hp⟩: ∃p,p=q+1+1:=⟨_,rfl⟩
 have hp1:q+1+1=p:=hp.symm
 have hp2:q+2+1+1=p+2:=by omega
 rw [←hp] at hAp
 clear hp g0 g s0 pl aa hq hsx
 simp only [hp1,hp2]
 have g0:=fun L=>z1n A L hAp
 have g:=fun L k=>z8w A L hAp k
 have s0:=fun L v=>z40 A L hAp v
 have s':=fun L k v=>zbw A L hAp k v
 have pl:=fun L=>z8g A L hAp
 have pt:=fun L k=>zd4 A L hAp k
 have aa:=fun L M:List (List AV)=>List.append_assoc A L M
 have l0:(0<p+2)=True:=eT (by omega)
 have l0':(1<p+2)=True:=eT (by omega)
 have l1:(p<p+2)=True:=eT (by omega)
 have l2:(p+1<p+2)=True:=eT (by omega)
 have h2p:2≤p:=by rw [←hp1];omega
 have h256: ∀s∈ss,s<256:=fun s hs=>Nat.lt_of_lt_of_le (hsm s hs) h2n
 generalize hg:lim (headed pure (run L) true _ lp26_0 _ _) _ _=o
 obtain ⟨x,en,s,rfl,h2⟩: ∃x en s,o=some (x,en,s)∧_:=by rw [←hg];exact zkh A hcal p hAp h2p n ss.length (by omega) 0 (List.replicate ss.length 0) ⟨by omega,by simp⟩ _ _ (by simp only [go_sem,hcal.okApp,hcal.renApp,pt,z9l,z5w,l0,l0',l1,l2,Int.natCast_zero]<;>rfl)
 clear hg
 obtain ⟨rfl,e0,e4,e6,e8,rfl⟩:=h2
 have h91:=c91s ss h256 (by omega) h0 A p hAp h2p hA1
 simp only [go_sem,e0,e4,e6,e8,h91,g0,g,s0,s',pl,aa,hmk,hmn]
 have k0:(0<p+5)=True:=eT (by omega)
 have k0':(1<p+5)=True:=eT (by omega)
 have k1:(p<p+5)=True:=eT (by omega)
 have k2:(p+1<p+5)=True:=eT (by omega)
 have k3:(p+2<p+5)=True:=eT (by omega)
 have k4:(p+3<p+5)=True:=eT (by omega)
 have k5:(p+4<p+5)=True:=eT (by omega)
 generalize hg:lim (headed pure (run L) true _ lp26_2 _ _) _ _=o
 obtain ⟨x,en,s,rfl,h2⟩: ∃x en s,o=some (x,en,s)∧_:=by rw [←hg];exact zkf A hcal p hAp h2p ss hA1 n (by omega) hn hsm (ordG ss) (zjy ss) (zm6 ss) 0 (List.replicate ss.length 0) (List.replicate n 0) ⟨by omega,by simp,by simp⟩ _ _ (by simp only [go_sem,e0,e4,e6,e8,hcal.okApp,hcal.renApp,pt,z9l,z5w,k0,k0',k1,k2,k3,k4,k5,Int.natCast_zero]<;>rfl)
 clear hg
 clear e0 e4 e6 e8
 rw [List.drop_zero] at h2
 have hgl:(growN ss n (ordG ss)).1.length=ss.length∧(growN ss n (ordG ss)).2.length=n:=by
  have key: ∀(l:List Nat) (UA:List Nat×List Nat),(l.foldl (stepI ss) UA).1.length=UA.1.length∧(l.foldl (stepI ss) UA).2.length=UA.2.length:=by
   intro l
   induction l with
   |nil=>intro UA;exact ⟨rfl,rfl⟩
   |cons i r ih=>
    intro UA
    rw [List.foldl_cons]
    have h1:=ih (stepI ss UA i)
    have h2:=zhg ss UA i
    exact ⟨h1.1.trans h2.1,h1.2.trans h2.2⟩
  have:=key (ordG ss) (List.replicate ss.length 0,List.replicate n 0)
  unfold growN
  simpa using this
 rw [show (ordG ss).foldl (stepI ss) (List.replicate ss.length 0,List.replicate n 0)=growN ss n (ordG ss) from rfl] at h2
 generalize growN ss n (ordG ss)=UW at*
 obtain ⟨U,W⟩:=UW
 dsimp only at hgl h2
 obtain ⟨rfl,e4,e10,rfl⟩:=h2
 obtain ⟨A2,hA2l,hA2s,hA20⟩: ∃A2:List (List AV),A2.length=p∧(∀L,(A++L).set 0 [.rsl (p+2) 0 ss.length ss.length 1 false,.rsl (p+3) 0 n n 1 false]=A2++L)∧(∀L,(A2++L)[0]? =some [.rsl (p+2) 0 ss.length ss.length 1 false,.rsl (p+3) 0 n n 1 false]):=by
  refine ⟨[.rsl (p+2) 0 ss.length ss.length 1 false,.rsl (p+3) 0 n n 1 false]::ss.map u8::X1,?_,fun L=>hA0s L _,fun L=>rfl⟩
  rw [←hAp,hAe];rfl
 have gA:=fun L k=>z8w A2 L hA2l k
 have f1:=fun S T h=>zac ⟨S,T⟩ (p+2) ss.length U hgl.1 h
 have f2:=fun S T h=>zac ⟨S,T⟩ (p+3) n W hgl.2 h
 have f1': ∀L,fin ⟨A2++([.rsl 1 0 ss.length ss.length 1 true]::L),[]⟩ (.rsl (p+2) 0 ss.length ss.length 1 false)=fin ⟨A2++([.rsl 1 0 ss.length ss.length 1 true]::L),[]⟩ (.rsl (p+2) 0 ss.length ss.length 1 false):=fun _=>rfl
 simp only [go_sem,e4,e10,g,hA0,hA2s,hA20]
 rw [show fin _ (AV.rsl (p+2) 0 ss.length ss.length 1 false)=sl 1 false (U.map J) from zac _ _ _ U hgl.1 (by rw [gA];rfl),show fin _ (AV.rsl (p+3) 0 n n 1 false)=sl 1 false (W.map J) from zac _ _ _ W hgl.2 (by rw [gA];rfl)]
 rfl
attribute [local go_sem] m_ x_ l_ k_ o_ t_ a_ s_ q_ b_ c_ u_ g_ z00 zo zx z01 z41 z2o zg zk zm z9 zl z49
def lA (ss:List Nat):AV:=if ss=[] then .v (.slice none 0 0) else .rsl 0 0 ss.length ss.length 1 false
def lS (ss:List Nat):List (List AV):=if ss=[] then [] else [ss.map tM]
theorem zmp {X:List Nat} (h:X≠[]):lA X=.rsl 0 0 X.length X.length 1 false:=by unfold lA;rw [if_neg h]
theorem zmn {X:List Nat} (h:X≠[]):lS X=[X.map tM]:=by unfold lS;rw [if_neg h]
theorem lA_one (l:Nat):lA [l]=.rsl 0 0 1 1 1 false:=rfl
theorem lS_one (l:Nat):lS [l]=[[tM l]]:=rfl
theorem zmo (X:List Nat)(l:Nat):lA (X++ [l])=.rsl 0 0 (X.length+1) (X.length+1) 1 false:=by rw [zmp (by simp)];simp
theorem zmm (X:List Nat)(l:Nat):lS (X++ [l])=[(X++ [l]).map tM]:=zmn (by simp)
theorem zir (v:Nat)(S:List (List AV))(T:List Nat):appendmAV 1 false (.v (.slice none 0 0)) [tM v] ⟨S,T⟩=some (.rsl S.length 0 1 1 1 false,⟨S++ [[tM v]],T⟩):=by
 simp [appendmAV,newM,maxGrow,flatAV,zk]
theorem zkt (X:List Nat)(v:Nat)(T:List Nat)(h:1≤X.length)(h2:X.length≤1000):appendmAV 1 false (.rsl 0 0 X.length X.length 1 false) [tM v] ⟨[X.map tM],T⟩=some (.rsl 1 0 (X.length+1) (X.length+1) 1 false,⟨[[],(X++ [v]).map tM],T⟩):=by
 have htk:(X.map tM).take X.length=X.map tM:=List.take_of_length_le (by simp)
 simp only [appendmAV,List.getElem?_cons_succ,List.getElem?_cons_zero,List.length_cons,List.length_nil,lm_,Nat.mul_one,htk]
 rw [if_pos ⟨trivial,trivial,Nat.le_refl _,by omega,by omega⟩,if_neg (by omega),if_pos ⟨trivial,by unfold maxGrow;omega,by omega⟩]
 simp [flatAV,zk]
theorem zma (n:Nat)(xs:List Nat):okRefs n (xs.map tM)=true:=z4e tM n (fun _=>zl _ _) xs
theorem zhw (n:Nat)(tips:List Nat)(acc:List (Nat×Nat))(xs:List Nat):renCells n tips acc (xs.map tM)=(xs.map tM,acc):=z1y tM n tips (fun _ _=>z8e _ _ _ _) xs acc
theorem zi0 (n:Nat): ∀(xs:List Nat) (acc:List Nat),refsL n acc (xs.map tM)=acc
 | [],acc=>rfl
 |x::r,acc=>by
  have:refsV n acc (tM x)=acc:=zy _ _ _ _ _
  simp only [List.map_cons,refsL,this,zi0 n r]
theorem zib (n:Nat)(M:List Nat): ∀(xs:List Nat),mapLs n M (xs.map tM)=xs.map tM
 | []=>rfl
 |x::r=>by
  have:mapL n M (tM x)=tM x:=z05 _ _ _ _ _
  simp only [List.map_cons,mapLs,this,zib n M r]
theorem zm2 (n:Nat)(acc:List Nat)(v:Nat):refsV n acc (tM v)=acc:=zy _ _ _ _ _
theorem mapL_M (n:Nat)(M:List Nat)(v:Nat):mapL n M (tM v)=tM v:=z05 _ _ _ _ _
theorem loop51 (nl:Bool)(ss:List Nat)(h256: ∀s∈ss,s<256)(hk:ss.length<256)(i:Nat)(X:List Nat)(hok:i≤ss.length∧X=ss.take i)(env:Env)(st:St)
  (hg:gcAV true 0 0 (canon env [3,6,7,8,3000000]) st=([(3,lA X),(6,sl 1 nl (ss.map U)),(7,J ss.length),(8,J i),(3000000,.any)],⟨lS X,[]⟩)):
  ∃x_1 en s,lim (headed pure (run L) true [3,6,7,8,3000000] lp51_0 0 0) env st=some (x_1,en,s)∧(x_1=.exit 0∧en.get 3=lA ss∧s=⟨lS ss,[]⟩):=by
 refine z7 (α:=Nat×List Nat) (fun ⟨i,X⟩=>ss.length-i) (fun ⟨i,X⟩=>i≤ss.length∧X=ss.take i) (fun ⟨i,X⟩=>([(3,lA X),(6,sl 1 nl (ss.map U)),(7,J ss.length),(8,J i),(3000000,.any)],⟨lS X,[]⟩)) (fun ⟨i,X⟩ x_1 en s=>x_1=.exit 0∧en.get 3=lA ss∧s=⟨lS ss,[]⟩) (fun ⟨i,X⟩ hok=> ?_) ⟨i,X⟩ hok env st hg
 simp only at hok
 obtain ⟨h1,h2⟩:=hok
 dsimp only at h1 h2⊢
 by_cases h:i<ss.length
 ·have hs:=zb i (by omega)
  have hlt:((i:Int)<(ss.length:Int))=True:=eT (by omega)
  have hx:=z7c U nl ss i h
  have hT:ss.take (i+1)=X++ [ss[i]]:=by rw [h2,List.take_succ,List.getElem?_eq_getElem h];rfl
  have hXl:X.length=i:=by rw [h2,List.length_take];omega
  have hb:=h256 ss[i] (List.getElem_mem h)
  generalize ss[i]=v at*
  have h40: ∀st,run L 40 [U v] st=some (tM v,st):=fun st=>c40 v (by omega) st
  by_cases he:X=[]
  ·subst he
   have eA:lA []=.v (.slice none 0 0):=rfl
   have eS:lS []=[]:=rfl
   rw [eA,eS]
   have happ:=zir v [] []
   simp only [go_sem,lp51_0,hlt,hx,hs,h40,happ]
   refine ⟨(i+1,[v]),by simp only [go_sem,z3,z4,z5,lA_one,lS_one,compact,compactW,refsEnv,refsV,refsL,refsStore,refsAt,mapEnv,mapL,mapLs,newName,posOf,mapStore,pickStore,namesOk,zy,z05,zm2,mapL_M,List.contains_nil,List.contains_cons,Option.getD_some,hasKey,z8e,renCells,okRefs]<;>rfl,?_,?_,fun x en s hq=> ?_⟩
   ·dsimp only;exact ⟨by omega,by rw [hT];rfl⟩
   ·dsimp only;omega
   ·exact hq
  ·have eA:=zmp he
   have eS:=zmn he
   have hpos:1≤X.length:=List.length_pos_iff.2 he
   rw [eA,eS]
   have happ:=zkt X v [] hpos (by omega)
   simp only [go_sem,lp51_0,hlt,hx,hs,h40,happ]
   refine ⟨(i+1,X++ [v]),by simp only [go_sem,z3,z4,z5,zmo,zmm,zi0,zib,zma,zhw,compact,compactW,refsEnv,refsV,refsL,refsStore,refsAt,mapEnv,mapL,mapLs,newName,posOf,mapStore,pickStore,namesOk,zy,z05,List.contains_nil,List.contains_cons,Option.getD_some,hasKey]<;>rfl,?_,?_,fun x en s hq=> ?_⟩
   ·dsimp only;exact ⟨by omega,by rw [hT]⟩
   ·dsimp only;omega
   ·exact hq
 ·have e:ss.take i=ss:=List.take_of_length_le (by omega)
  rw [e] at h2
  subst h2
  have hlt:((i:Int)<(X.length:Int))=False:=eF (by omega)
  simp only [go_sem,lp51_0,hlt]
abbrev cmpL:AV:=.fn (.func 42) [] []
def ltL (x y:LI):Bool:=lexLt x.val y.val
def finL (ss:List Nat):List LI:=ss.map fun x=>⟨memb x,by have:=z2h x;omega⟩
theorem zng (ss:List Nat):Dm fL (finL ss).toArray=ss.map tM:=by
 unfold Dm finL
 simp
theorem zhj {ss:List Nat} (h: ∀s∈ss,s<256):sortA ltL (finL ss)=finL (srt ss):=by
 have hp:=zbt (zcw (fun x:LI=>x.val)) (finL ss)
 have hs:=z9u (zcw (fun x:LI=>x.val)) (finL ss)
 refine z8m (R:=fun x y:LI=>lexLt y.val x.val=false) (fun x y h1 h2=>Subtype.ext (z93 _ _ h2 h1)) _ _ ?_ hs ?_
 ·exact hp.trans ((z43 h).symm.map _)
 ·unfold finL
  rw [List.pairwise_map]
  exact z9i ss
theorem c113 (ss:List Nat)(h: ∀s∈ss,s<256)(hn:ss.length<256)(he:ss≠[]):
  ∃X1,PL X1∧run L 113 [.rsl 0 0 ss.length ss.length 1 false,cmpL] ⟨[ss.map tM],[]⟩=some (.tup [],⟨(srt ss).map tM::X1,[]⟩):=by
 obtain ⟨X1,h1,h2⟩:=sortl [[]] [] 0 (by simp) ss.length (by omega) false 42 rfl [] (fun x y=>cmpN x.val y.val) ltL (fun x y=>(zdo _ _).symm)
  (fun x y X E=>c42 true true x.val y.val x.property _) hn (finL ss).toArray (by simp [finL]) []
 have e1:Dm fL (Go.Sort.sort ltL (finL ss).toArray)=(srt ss).map tM:=by
  have:=zhj h
  unfold sortA at this
  unfold Dm
  rw [this]
  unfold finL
  simp
 rw [zng,e1] at h2
 exact ⟨X1,h1 PL.nil,h2⟩
theorem insLn (st0:St)(lo hi:Nat)(i:Nat)(hok:True)(env:Env)(st:St)
  (hg:gcAV false lo hi (canon env [0,1,2,3,8]) st=([(0,.v (.slice none 0 0)),(1,I 0),(2,I 0),(3,cmpL),(8,J i)],st0)):
  ∃x_1 en s,lim (headed pure (run L) false [0,1,2,3,8] lp173_1 lo hi) env st=some (x_1,en,s)∧(x_1=.exit 0∧s=st0):=by
 refine z7 (α:=Nat) (fun i=>0) (fun i=>True) (fun i=>([(0,.v (.slice none 0 0)),(1,I 0),(2,I 0),(3,cmpL),(8,J i)],st0)) (fun i x_1 en s=>x_1=.exit 0∧s=st0) (fun i hok=> ?_) i hok env st hg
 have hlt:((i:Int)<0)=False:=eF (by omega)
 simp only [go_sem,lp173_1,hlt]
theorem c173n (st:St):run L 173 [.v (.slice none 0 0),I 0,I 0,cmpL] st=some (.tup [],st):=by
 rw [z6 (fn:=ir173) rfl rfl]
 have h1:IntKind.i64.wrap 1=1:=by decide
 simp only [ir173,go_sem,h1]
 generalize hg:lim (headed pure (run L) false _ lp173_1 _ _) _ _=o
 obtain ⟨x,en,s,rfl,h2⟩: ∃x en s,o=some (x,en,s)∧_:=by rw [←hg];exact insLn st _ _ 1 trivial _ _ (by simp only [go_sem,show I 1=J 1 from rfl]<;>rfl)
 clear hg
 obtain ⟨rfl,rfl⟩:=h2
 simp only [go_sem]
theorem pdqLn (st0:St)(lo hi:Nat)(i:Nat)(hok:True)(env:Env)(st:St)
  (hg:gcAV false lo hi (canon env [0,1,2,3,4,10,11]) st=([(0,.v (.slice none 0 0)),(1,I 0),(2,I 0),(3,J i),(4,cmpL),(10,B true),(11,B true)],st0)):
  ∃x_1 en s,lim (headed pure (run L) false [0,1,2,3,4,10,11] lp140_0 lo hi) env st=some (x_1,en,s)∧(x_1=.ret∧s=st0):=by
 refine z7 (α:=Nat) (fun i=>0) (fun i=>True) (fun i=>([(0,.v (.slice none 0 0)),(1,I 0),(2,I 0),(3,J i),(4,cmpL),(10,B true),(11,B true)],st0)) (fun i x_1 en s=>x_1=.ret∧s=st0) (fun i hok=> ?_) i hok env st hg
 have h1:IntKind.i64.wrap 0=0:=by decide
 have h2:((0:Int)≤12)=True:=eT (by omega)
 simp only [go_sem,lp140_0,h1,h2,c173n]
theorem c113n (st:St):run L 113 [.v (.slice none 0 0),cmpL] st=some (.tup [],st):=by
 have h129: ∀i:Nat,run L 140 [.v (.slice none 0 0),I 0,I 0,J i,cmpL] st=some (.tup [],st):=by
  intro i
  rw [z6 (fn:=ir140) rfl rfl]
  simp only [ir140,go_sem]
  generalize hg:lim (headed pure (run L) false _ lp140_0 _ _) _ _=o
  obtain ⟨x,en,s,rfl,h2⟩: ∃x en s,o=some (x,en,s)∧_:=by rw [←hg];exact pdqLn st _ _ i trivial _ _ (by simp only [go_sem]<;>rfl)
  clear hg
  obtain ⟨rfl,rfl⟩:=h2
  simp only [go_sem]
 rw [z6 (fn:=ir113) rfl rfl]
 have h115: ∀st,run L 115 [.v (.int .u64 0)] st=some (J (Go.Sort.bitsLen 0),st):=fun st=>c115 0 (by omega) st
 have hcv:IntKind.u64.wrap 0=0:=by decide
 simp only [ir113,go_sem,hcv,h115,h129]
theorem pubsM (X:List Nat):pubs (X.map tM)=X.map tM:=zd3 tM (fun _=>z49 _) X
theorem zn8 (v:Nat):cell1 (tM v)=tM v:=by unfold tM tAV sl;split<;>rfl
theorem zl3 (st:St)(l m:Nat)(X:List Nat)(hm:X.length=m)(hne:X≠[])(h:st.store[l]? =some (X.map tM)):fin st (.rsl l 0 m m 1 false)=sl 1 true (X.map tM):=by
 subst hm
 have e:fin st (.rsl l 0 X.length X.length 1 false)=.lst .any 1 (group false 1 X.length (pubs ((X.map tM).drop 0))):=by
  simp only [fin,h]
  rw [if_pos (by simp)]
 rw [e,List.drop_zero,pubsM,zca tM zn8,zcz (by simpa using hne)]
theorem c51 (nl:Bool)(ss:List Nat)(h256: ∀s∈ss,s<256)(hk:ss.length<256)(st:St):run L 51 [sl 1 nl (ss.map U)] st=some (sl 1 true ((srt ss).map tM),st):=by
 rw [run_pure (fn:=ir51) rfl rfl]
 simp only [ir51,go_sem,lm_]
 generalize hg:lim (headed pure (run L) true _ lp51_0 _ _) _ _=o
 obtain ⟨x,en,s,rfl,h2⟩: ∃x en s,o=some (x,en,s)∧_:=by rw [←hg];exact loop51 nl ss h256 hk 0 [] ⟨by omega,by simp⟩ _ _ (by simp only [go_sem,Int.natCast_zero,lA,lS,compact,compactW,refsEnv,refsV,refsL,refsStore,refsAt,mapEnv,mapL,mapLs,newName,posOf,mapStore,pickStore,namesOk,zy,z05,List.contains_nil,List.contains_cons,Option.getD_some,hasKey]<;>rfl)
 clear hg
 obtain ⟨rfl,e3,rfl⟩:=h2
 by_cases he:ss=[]
 ·subst he
  rw [zcx]
  rw [show lA []=.v (.slice none 0 0) from rfl] at e3
  simp only [go_sem,e3,c113n]
  rfl
 ·rw [zmp he] at e3
  rw [zmn he]
  obtain ⟨X1,hX1,h113⟩:=c113 ss h256 hk he
  have hsl:=z5k h256
  have hse:srt ss≠[]:=fun e=>he (List.eq_nil_of_length_eq_zero (by rw [←hsl,e];rfl))
  have hf:=zl3 ⟨(srt ss).map tM::X1,[]⟩ 0 ss.length (srt ss) hsl hse rfl
  simp only [go_sem,e3,h113,hf]
attribute [local go_sem] m_ x_ l_ k_ o_ t_ a_ s_ q_ b_ c_ u_ g_ z00 zo zx z01 z41 z2o zg zk zm z9 zl z49
theorem zlg (l:Nat)(X:List Nat)(h:X≠[]):frzV l (X.map u8) (.rsl l 0 X.length X.length 1 true)=sl 1 true (X.map E8):=by
 simp only [frzV,lm_,List.drop_zero]
 rw [if_pos ⟨trivial,by omega,.inl trivial,Nat.le_refl _⟩,zm3,zg0,zcz (by simpa using h)]
theorem frzEnv_get (l:Nat)(cs:List AV)(env:Env)(t:Tmp):(frzEnv l cs env).get t=frzV l cs (env.get t):=by
 induction env with
 |nil=>simp [frzEnv,Env.get,frzV]
 |cons x r ih=>
  obtain ⟨u,a⟩:=x
  simp only [frzEnv,Env.get]
  split
  ·rfl
  ·exact ih
theorem loop23 (n1 n2:Bool)(xs ys:List (List Int))(hl:xs.length=ys.length)(hlen:xs.length<1000000)(hlx: ∀x∈xs,x.length<1000000)(i:Nat)(hok:i≤xs.length)(env:Env)(st:St)
  (hg:gcAV true 0 0 (canon env [0,1,5]) st=([(0,sl 1 n1 (xs.map tAV)),(1,sl 1 n2 (ys.map tAV)),(5,I i)],⟨[],[]⟩)):
  ∃x_1 en s,lim (headed pure (run L) true [0,1,5] lp23_0 0 0) env st=some (x_1,en,s)∧(if xs.drop i=ys.drop i then x_1=.exit 0 else x_1=.ret∧en.get 4=B false):=by
 refine z7 (α:=Nat) (fun i=>xs.length-i) (fun i=>i≤xs.length) (fun i=>([(0,sl 1 n1 (xs.map tAV)),(1,sl 1 n2 (ys.map tAV)),(5,I i)],⟨[],[]⟩)) (fun i x_1 en s=>if xs.drop i=ys.drop i then x_1=.exit 0 else x_1=.ret∧en.get 4=B false) (fun i hok=> ?_) i hok env st hg
 by_cases h:i<xs.length
 ·have hx:=z7c tAV n1 xs i h
  have hy:=z7c tAV n2 ys i (by omega)
  have hs:=zb i (by omega)
  have hd:xs.drop i=xs[i]::xs.drop (i+1):=List.drop_eq_getElem_cons h
  have hd2:ys.drop i=ys[i]::ys.drop (i+1):=List.drop_eq_getElem_cons (by omega)
  have hlt:((i:Int)<(xs.length:Int))=True:=eT (by omega)
  have ha:=hlx xs[i] (List.getElem_mem h)
  rw [hd,hd2]
  generalize xs[i]=a at*
  generalize ys[i]'(by omega)=b at*
  have h22: ∀st,run L 22 [tAV a,tAV b] st=some (B (decide (a=b)),st):=fun st=>c22 true true a b ha st
  by_cases p:a=b
  ·rw [decide_eq_true p] at h22
   simp only [go_sem,lp23_0,hx,hy,hlt,h22,hs,lm_]
   refine ⟨i+1,by simp only [go_sem,z3,z4,z5]<;>rfl,?_,?_,fun x en s hq=> ?_⟩
   ·omega
   ·omega
   ·simp only [List.cons.injEq,p,true_and];exact hq
  ·rw [decide_eq_false p] at h22
   simp only [go_sem,lp23_0,hx,hy,hlt,h22,lm_]
   rw [if_neg (by simp [p])];trivial
 ·have hd:xs.drop i=[]:=List.drop_eq_nil_of_le (by omega)
  have hd2:ys.drop i=[]:=List.drop_eq_nil_of_le (by omega)
  have hlt:((i:Int)<(xs.length:Int))=False:=eF (by omega)
  simp only [go_sem,lp23_0,hlt,lm_]
  rw [hd,hd2];simp
theorem c23 (n1 n2:Bool)(xs ys:List (List Int))(hlen:xs.length<1000000)(hlx: ∀x∈xs,x.length<1000000)(st:St):run L 23 [sl 1 n1 (xs.map tAV),sl 1 n2 (ys.map tAV)] st=some (B (decide (xs=ys)),st):=by
 rw [run_pure (fn:=ir23) rfl rfl]
 by_cases hl:xs.length=ys.length
 ·simp only [ir23,go_sem,lm_,hl]
  generalize hg:lim (headed pure (run L) true _ lp23_0 _ _) _ _=o
  obtain ⟨x,en,s,rfl,h2⟩: ∃x en s,o=some (x,en,s)∧_:=by rw [←hg];exact loop23 n1 n2 xs ys hl hlen hlx 0 (by omega) _ _ (by simp only [go_sem]<;>rfl)
  clear hg
  simp only [List.drop_zero] at h2
  by_cases h:xs=ys
  ·rw [if_pos h] at h2
   subst h2
   simp only [go_sem,h]
  ·rw [if_neg h] at h2
   obtain ⟨rfl,h3⟩:=h2
   simp only [go_sem,h3,h]
 ·have hl2:((xs.length:Int)=(ys.length:Int))=False:=eF (by omega)
  have hne: ¬xs=ys:=fun h=>hl (by rw [h])
  simp only [ir23,go_sem,lm_,hl2,hne]
theorem c23M (n1 n2:Bool)(xs ys:List Nat)(hlen:xs.length<1000000)(st:St):run L 23 [sl 1 n1 (xs.map tM),sl 1 n2 (ys.map tM)] st=some (B (decide (xs.map memb=ys.map memb)),st):=by
 have:=c23 n1 n2 (xs.map memb) (ys.map memb) (by simpa using hlen) (fun x hx=>by
  rw [List.mem_map] at hx
  obtain ⟨m,_,rfl⟩:=hx
  have:=z2h m
  omega) st
 rw [List.map_map,List.map_map] at this
 exact this
attribute [local go_sem] m_ x_ l_ k_ o_ t_ a_ s_ q_ b_ c_ u_ g_ z00 zo zx z01 z41 z2o zg zk zm z9 zl z49
theorem Sides.lam {n:Nat} {ss:List Nat} (h:Sides n ss)(hn:n≤8)(hc:clP ss 0=none):Lam n ss:=by
 refine ⟨h.lt,h.ne,h.even,h.nd,fun s hs t ht=> ?_⟩
 have hp:=(zdq ss 0).1 hc
 have h8: ∀s∈ss,s<256:=fun s hs=>Nat.lt_of_lt_of_le (h.lt s hs) (Nat.pow_le_pow_right (n:=2) (by decide) hn)
 by_cases e:s=t
 ·subst e;exact zge (h8 s hs)
 ·rw [List.pairwise_iff_getElem] at hp
  obtain ⟨i,hi,rfl⟩:=List.getElem_of_mem hs
  obtain ⟨j,hj,rfl⟩:=List.getElem_of_mem ht
  rcases Nat.lt_trichotomy i j with h1|h1|h1
  ·exact hp i j hi hj h1
  ·subst h1;exact absurd rfl e
  ·rw [zdv];exact hp j i hj hi h1
theorem Lam.srt {n:Nat} {ss:List Nat} (h:Lam n ss)(hn:n≤8):Lam n (srt ss):=by
 have h8: ∀s∈ss,s<256:=fun s hs=>h.lt8 hn hs
 have hp:=z43 h8
 exact ⟨fun s hs=>h.lt s (hp.mem_iff.1 hs),fun s hs=>h.ne s (hp.mem_iff.1 hs),fun s hs=>h.even s (hp.mem_iff.1 hs),hp.nodup_iff.2 h.nd,fun s hs t ht=>h.ag s (hp.mem_iff.1 hs) t (hp.mem_iff.1 ht)⟩
attribute [local go_sem] m_ x_ l_ k_ o_ t_ a_ s_ q_ b_ c_ u_ g_ z00 zo zx z01 z41 z2o zg zk zm z9 zl z49
def Num (A:List (List AV)):Prop:=∀C∈A,∃xs:List Value,C=xs.map AV.v
theorem Num.nil:Num []:=fun _ h=>by cases h
theorem Num.app {A B:List (List AV)} (h:Num A)(g:Num B):Num (A++B):=fun C hC=>(List.mem_append.1 hC).elim (h C) (g C)
theorem Num.one8 (ss:List Nat):Num [ss.map u8]:=fun C hC=>⟨ss.map fun (n:Nat)=>Value.int .u8 (n:Int),by rw [List.mem_singleton.1 hC,List.map_map];rfl⟩
theorem Num.oneU (ss:List Nat):Num [ss.map U]:=fun C hC=>⟨ss.map fun (n:Nat)=>Value.int .u64 (n:Int),by rw [List.mem_singleton.1 hC,List.map_map];rfl⟩
theorem Num.kS (ss:List Nat):Num (kS ss):=by
 unfold Vm.kS;split
 ·exact Num.nil
 ·exact Num.one8 ss
theorem PL.num {X:List (List AV)} (h:PL X):Num X:=fun C hC=>by
 obtain ⟨k,i,rfl⟩:=h C hC
 exact ⟨[.int k i],rfl⟩
theorem Num.refs {A:List (List AV)} (h:Num A)(n:Nat)(acc:List Nat):refsStore n acc A=acc:=by
 induction A generalizing acc with
 |nil=>rfl
 |cons C r ih=>
  obtain ⟨xs,rfl⟩:=h C (by simp)
  simp only [refsStore]
  rw [show refsL n acc (xs.map AV.v)=acc from z7y n (fun x=>x) xs acc]
  exact ih (fun D hD=>h D (by simp [hD])) acc
theorem Num.maps {A:List (List AV)} (h:Num A)(n:Nat)(M:List Nat):mapStore n M A=A:=by
 induction A with
 |nil=>rfl
 |cons C r ih=>
  obtain ⟨xs,rfl⟩:=h C (by simp)
  simp only [mapStore]
  rw [show mapLs n M (xs.map AV.v)=xs.map AV.v from z86 n M (fun x=>x) xs,ih (fun D hD=>h D (by simp [hD]))]
theorem Num.calm {A:List (List AV)} (h:Num A):Calm A:=by
 induction A with
 |nil=>exact ⟨fun _=>rfl,fun _ _ _=>rfl⟩
 |cons C r ih=>
  obtain ⟨xs,rfl⟩:=h C (by simp)
  exact (ih (fun D hD=>h D (by simp [hD]))).cons (fun n=>z4e (fun x=>AV.v x) n (fun _=>rfl) xs) (fun n T acc=>z1y (fun x=>AV.v x) n T (fun _ _=>rfl) xs acc)
theorem z6a {α:Type} (A L:List α) {p:Nat} (hp:A.length=p):(A++L).take p=A:=by subst hp;simp
theorem zgd {α:Type} (A L:List α) {p:Nat} (hp:A.length=p):(A++L)[p+1]? =L[1]? :=z8w A L hp 1
def kB (p:Nat) (ss:List Nat):AV:=if ss=[] then .v (.slice none 0 0) else .rsl p 0 ss.length ss.length 1 true
theorem zmw {p:Nat} {X:List Nat} (h:X≠[]):kB p X=.rsl p 0 X.length X.length 1 true:=by unfold kB;rw [if_neg h]
theorem kB_one (p l:Nat):kB p [l]=.rsl p 0 1 1 1 true:=rfl
theorem zmv (p:Nat)(X:List Nat)(l:Nat):kB p (X++ [l])=.rsl p 0 (X.length+1) (X.length+1) 1 true:=by rw [zmw (by simp)];simp
theorem happP (A:List (List AV))(p:Nat)(hp:A.length=p)(X:List Nat)(v:Nat)(T:List Nat)(h:1≤X.length)(h2:X.length≤1000):appendmAV 1 true (.rsl p 0 X.length X.length 1 true) [E8 v] ⟨A++ [X.map u8],T⟩=some (.rsl (p+1) 0 (X.length+1) (X.length+1) 1 true,⟨A++ [[],(X++ [v]).map u8],T⟩):=by
 have htk:(X.map u8).take X.length=X.map u8:=List.take_of_length_le (by simp)
 have g0:=z1n A [X.map u8] hp
 simp only [appendmAV,g0,List.getElem?_cons_zero,lm_,List.length_cons,List.length_nil,Nat.mul_one,htk]
 rw [if_pos ⟨trivial,trivial,Nat.le_refl _,by omega,by omega⟩,if_neg (by omega),if_pos ⟨trivial,by unfold maxGrow;omega,by omega⟩]
 have hs:=z40 A [X.map u8] hp ([]:List AV)
 simp [flatAV,z0w,hp,hs]
def evs (k:Nat):List Nat:=(List.range k).map fun i=>2*i+2
theorem zdk (k:Nat):(evs k).length=k:=by simp [evs]
theorem zg7 (k:Nat):evs (k+1)=evs k++ [2*k+2]:=by simp [evs,List.range_succ]
theorem shl1 (n:Nat)(hn:n≤8):binAV .shl none (I 1) (J n)=some (J (2^n)):=by
 rcases (by omega:n=0∨n=1∨n=2∨n=3∨n=4∨n=5∨n=6∨n=7∨n=8) with h|h|h|h|h|h|h|h|h<;>subst h<;>rfl
theorem zkj (A:List (List AV))(hA:Num A)(p:Nat)(hp:A.length=p)(R:AV)(hr1: ∀acc,refsV p acc R=acc)(hr2: ∀M,mapL p M R=R)(hr4: ∀n T acc,ren1 n T acc R=(R,acc))(n:Nat)(h1n:1≤n)(hn:n≤8)(k:Nat)(ss:List Nat)(hok:k≤2^(n-1)-1∧ss=evs k)(env:Env)(st:St)
  (hg:gcAV true p 0 (canon env [0,6,8,9,3000000]) st=([(0,J n),(6,R),(8,kB p ss),(9,J (2*k+2)),(3000000,.any)],⟨A++kS ss,[]⟩)):
  ∃x_1 en s,lim (headed pure (run L) true [0,6,8,9,3000000] lp20_0 p 0) env st=some (x_1,en,s)∧(x_1=.exit 0∧en.get 3000000=.any∧en.get 0=J n∧en.get 6=R∧en.get 8=kB p (evs (2^(n-1)-1))∧s=⟨A++kS (evs (2^(n-1)-1)),[]⟩):=by
 refine z7 (α:=Nat×List Nat) (fun ⟨k,ss⟩=>2^(n-1)-k) (fun ⟨k,ss⟩=>k≤2^(n-1)-1∧ss=evs k) (fun ⟨k,ss⟩=>([(0,J n),(6,R),(8,kB p ss),(9,J (2*k+2)),(3000000,.any)],⟨A++kS ss,[]⟩)) (fun ⟨k,ss⟩ x_1 en s=>x_1=.exit 0∧en.get 3000000=.any∧en.get 0=J n∧en.get 6=R∧en.get 8=kB p (evs (2^(n-1)-1))∧s=⟨A++kS (evs (2^(n-1)-1)),[]⟩) (fun ⟨k,ss⟩ hok=> ?_) ⟨k,ss⟩ hok env st hg
 simp only at hok
 obtain ⟨h1,h2⟩:=hok
 dsimp only at h1 h2⊢
 have h2n:2^(n-1)≤128:=Nat.pow_le_pow_right (n:=2) (by decide) (by omega:n-1≤7)
 have hpos:0<2^(n-1):=Nat.two_pow_pos _
 have hpn:2^n=2*2^(n-1):=by rw [show n=(n-1)+1 by omega,Nat.pow_succ];simp;omega
 have hsh:=shl1 n hn
 by_cases h:k<2^(n-1)-1
 ·have hlt:(((2*k+2:Nat):Int)<((2^n:Nat):Int))=True:=eT (by omega)
  have hw:=zgf (2*k+2) (by omega)
  have ha:IntKind.i64.wrap (((2*k+2:Nat):Int)+2)=((2*k+2+2:Nat):Int):=by rw [zu]<;>omega
  have hT:evs (k+1)=ss++ [2*k+2]:=by rw [zg7,h2]
  have hln:ss.length=k:=by rw [h2,zdk]
  have pt0:=fun L=>z6a A L hp
  have pg0:=fun L=>z1n A L hp
  have pg1:=fun L=>zgd A L hp
  have pn:(p<p)=False:=eF (by omega)
  have pn1:(p+1<p)=False:=eF (by omega)
  have pp0:(p≤p)=True:=eT (by omega)
  have pp1:(p≤p+1)=True:=eT (by omega)
  have pp1b:(p=p+1)=False:=eF (by omega)
  have p00:p+0=p:=rfl
  generalize hv:2*k+2=v at*
  have hv2:2*(k+1)+2=v+2:=by omega
  generalize 2^n=N at*
  by_cases he:ss=[]
  ·subst he
   have eA:kB p []=.v (.slice none 0 0):=rfl
   have eS:kS []=[]:=rfl
   have happ:=zdd v (A++ []) []
   rw [List.append_nil,hp] at happ
   rw [eA,eS,List.append_nil]
   simp only [go_sem,lp20_0,hsh,hlt,hw,happ,ha]
   refine ⟨(k+1,[v]),by simp only [go_sem,z3,z4,z5,hv2,kB_one,zil,hr1,hr2,hr4,pt0,pg0,pn,pp0,p00,hA.refs,hA.maps,hA.calm.okApp,hA.calm.renApp,compact,compactW,refsEnv,refsV,refsL,refsStore,refsAt,mapEnv,mapL,mapLs,newName,posOf,mapStore,pickStore,namesOk,zy,z05,List.contains_nil,List.contains_cons,Option.getD_some,hasKey]<;>rfl,?_,?_,fun x en s hq=> ?_⟩
   ·dsimp only;exact ⟨by omega,by rw [hT];rfl⟩
   ·dsimp only;omega
   ·exact hq
  ·have eA:=zmw (p:=p) he
   have eS:=zda he
   have hpos:1≤ss.length:=List.length_pos_iff.2 he
   have happ:=happP A p hp ss v [] hpos (by omega)
   rw [eA,eS]
   simp only [go_sem,lp20_0,hsh,hlt,hw,happ,ha]
   refine ⟨(k+1,ss++ [v]),by simp only [go_sem,z3,z4,z5,hv2,zmv,zfh,hr1,hr2,hr4,pt0,pg1,pn1,pp1,pp1b,p00,hA.refs,hA.maps,hA.calm.okApp,hA.calm.renApp,z2f,z0c,compact,compactW,refsEnv,refsV,refsL,refsStore,refsAt,mapEnv,mapL,mapLs,newName,posOf,mapStore,pickStore,namesOk,zy,z05,z5l,z5m,List.contains_nil,List.contains_cons,Option.getD_some,hasKey]<;>rfl,?_,?_,fun x en s hq=> ?_⟩
   ·dsimp only;exact ⟨by omega,by rw [hT]⟩
   ·dsimp only;omega
   ·exact hq
 ·have e:k=2^(n-1)-1:=by omega
  have hlt:(((2*k+2:Nat):Int)<((2^n:Nat):Int))=False:=eF (by omega)
  rw [h2,e] at*
  simp only [go_sem,lp20_0,hsh,hlt]
attribute [local go_sem] m_ x_ l_ k_ o_ t_ a_ s_ q_ b_ c_ u_ g_ z00 zo zx z01 z41 z2o zg zk zm z9 zl z49
def bars (v o:Nat):Bool:=decide (o=v)|| !agN o v
theorem c83 (S:List (List AV))(T:List Nat)(q a b:Nat)(ha:a<256)(hb:b<256)(hq:S[q]? =some [u8 a]):run L 83 [E8 b,.ptr q 0] ⟨S,T⟩=some (B (bars a b),⟨S++ [[u8 b]],T⟩):=by
 rw [z6 (fn:=ir83) rfl rfl]
 have h:=fun st=>c73 b a hb ha st
 have hql:q<S.length:=by
  rcases Nat.lt_or_ge q S.length with h|h
  ·exact h
  ·rw [List.getElem?_eq_none h] at hq;cases hq
 have hg1:(S++ [[u8 b]])[S.length]? =some [u8 b]:=zbh S _
 have hg2:(S++ [[u8 b]])[q]? =some [u8 a]:=by rw [List.getElem?_append_left hql,hq]
 have hcell:((b:Int)==(a:Int))=decide (b=a):=by
  by_cases h:b=a
  ·subst h;simp
  ·rw [decide_eq_false h];simp;omega
 have hd:bars a b=(decide (b=a)|| !agN b a):=rfl
 rw [hd]
 by_cases he:b=a
 ·have hdd:decide (b=a)=true:=decide_eq_true he
  rw [hdd] at hcell⊢
  simp only [ir83,go_sem,hg1,hg2,hcell]
  rfl
 ·have hdd:decide (b=a)=false:=decide_eq_false he
  rw [hdd] at hcell⊢
  cases hh:agN b a<;>rw [hh] at h<;>simp only [ir83,go_sem,h,hg1,hg2,hcell]<;>rfl
theorem zkk (S0:List (List AV))(T:List Nat)(l q a:Nat)(ha:a<256)(ss:List Nat)(h256: ∀s∈ss,s<256)(hn:ss.length≤1000)(hl:S0[l]? =some (ss.map u8))(hq:S0[q]? =some [u8 a])(lo hi:Nat)(i:Nat)(G:List (List AV))(hok:i≤ss.length∧Num G)(env:Env)(st:St)
  (hg:gcAV false lo hi (canon env [0,1,7,8]) st=([(0,.rsl l 0 ss.length ss.length 1 true),(1,.fn (.func 83) [] [.ptr q 0]),(7,J ss.length),(8,J i)],⟨S0++G,T⟩)):
  ∃x_1 en s,lim (headed pure (run L) false [0,1,7,8] lp123_0 lo hi) env st=some (x_1,en,s)∧((∃G',Num G'∧s=⟨S0++G',T⟩)∧((x_1=.exit 0∧(ss.drop i).findIdx? (bars a)=none)∨(x_1=.ret∧∃j:Nat,(ss.drop i).findIdx? (bars a)=some j∧en.get 4=J (i+j)))):=by
 refine z7 (α:=Nat×List (List AV)) (fun ⟨i,G⟩=>ss.length-i) (fun ⟨i,G⟩=>i≤ss.length∧Num G) (fun ⟨i,G⟩=>([(0,.rsl l 0 ss.length ss.length 1 true),(1,.fn (.func 83) [] [.ptr q 0]),(7,J ss.length),(8,J i)],⟨S0++G,T⟩)) (fun ⟨i,G⟩ x_1 en s=>(∃G',Num G'∧s=⟨S0++G',T⟩)∧((x_1=.exit 0∧(ss.drop i).findIdx? (bars a)=none)∨(x_1=.ret∧∃j:Nat,(ss.drop i).findIdx? (bars a)=some j∧en.get 4=J (i+j)))) (fun ⟨i,G⟩ hok=> ?_) ⟨i,G⟩ hok env st hg
 simp only at hok
 obtain ⟨h1,h2⟩:=hok
 dsimp only at h1 h2⊢
 have up: ∀(k:Nat) (C:List AV),S0[k]? =some C→(S0++G)[k]? =some C:=by
  intro k C h
  have hk:k<S0.length:=by
   rcases Nat.lt_or_ge k S0.length with h'|h'
   ·exact h'
   ·rw [List.getElem?_eq_none h'] at h;cases h
  rw [List.getElem?_append_left hk,h]
 have hl2:=up _ _ hl
 by_cases h:i<ss.length
 ·have hs:=zb i (by omega)
  have hd:ss.drop i=ss.getD i 0::ss.drop (i+1):=by
   rw [List.drop_eq_getElem_cons h];simp [List.getD_eq_getElem?_getD,h]
  have hb8:=h256 _ (z89 h)
  have hg8:=zfp ss i h
  have hi2:(i+1≤ss.length)=True:=eT (by omega)
  have hi1:(i<ss.length)=True:=eT (by omega)
  have hlt:((i:Int)<(ss.length:Int))=True:=eT (by omega)
  rw [hd,List.findIdx?_cons]
  generalize ss.getD i 0=b at*
  have hcall:=c83 (S0++G) T q a b ha hb8 (up _ _ hq)
  have hN:Num (G++ [[u8 b]]):=h2.app (Num.one8 [b])
  rw [List.append_assoc] at hcall
  have hpk:pure 83=false:=rfl
  cases hp:bars a b with
  |true=>
   rw [hp] at hcall
   simp only [go_sem,lp123_0,hl2,hi1,hi2,hlt,hg8,hpk,hcall,nn_,lm_]
   exact ⟨⟨_,hN,rfl⟩,0,rfl,rfl⟩
  |false=>
   rw [hp] at hcall
   simp only [go_sem,lp123_0,hl2,hi1,hi2,hlt,hg8,hpk,hcall,hs,nn_,lm_]
   refine ⟨(i+1,G++ [[u8 b]]),by simp only [go_sem,z3,z4,z5]<;>rfl,?_,?_,fun x en s hq=> ?_⟩
   ·dsimp only;exact ⟨by omega,hN⟩
   ·dsimp only;omega
   ·obtain ⟨hq0,hq⟩:=hq
    refine ⟨hq0,?_⟩
    rcases hq with ⟨rfl,hq⟩ | ⟨rfl,j,hq,hj⟩
    ·left;rw [hq];exact ⟨rfl,rfl⟩
    ·right;refine ⟨rfl,j+1,by rw [hq];rfl,?_⟩
     rw [hj,show i+1+j=i+(j+1) by omega]
 ·have hd:ss.drop i=[]:=List.drop_eq_nil_of_le (by omega)
  have hlt:((i:Int)<(ss.length:Int))=False:=eF (by omega)
  rw [hd]
  simp only [go_sem,lp123_0,hlt]
  exact ⟨⟨_,h2,rfl⟩,rfl⟩
theorem c82r (S0:List (List AV))(T:List Nat)(l q a:Nat)(ha:a<256)(ss:List Nat)(h256: ∀s∈ss,s<256)(hn:ss.length≤1000)(hl:S0[l]? =some (ss.map u8))(hq:S0[q]? =some [u8 a]):
  ∃G,Num G∧run L 82 [.rsl l 0 ss.length ss.length 1 true,.fn (.func 83) [] [.ptr q 0]] ⟨S0,T⟩=some (B (ss.any (bars a)),⟨S0++G,T⟩):=by
 have h123: ∃G,Num G∧run L 123 [.rsl l 0 ss.length ss.length 1 true,.fn (.func 83) [] [.ptr q 0]] ⟨S0,T⟩=some (I (idxF (bars a) ss),⟨S0++G,T⟩):=by
  rw [z6 (fn:=ir123) rfl rfl]
  simp only [ir123,go_sem]
  generalize hg:lim (headed pure (run L) false _ lp123_0 _ _) _ _=o
  obtain ⟨x,en,s,rfl,h2⟩: ∃x en s,o=some (x,en,s)∧_:=by rw [←hg];exact zkk S0 T l q a ha ss h256 hn hl hq _ _ 0 [] ⟨by omega,Num.nil⟩ _ _ (by simp only [go_sem,List.append_nil]<;>rfl)
  clear hg
  rw [List.drop_zero] at h2
  obtain ⟨⟨G,hG,rfl⟩,h2⟩:=h2
  refine ⟨G,hG,?_⟩
  unfold idxF
  rcases h2 with ⟨rfl,h2⟩ | ⟨rfl,j,h2,h3⟩
  ·rw [h2]
   simp only [go_sem]
  ·rw [h2]
   rw [Nat.zero_add] at h3
   simp only [go_sem,h3]
 obtain ⟨G,hG,h⟩:=h123
 refine ⟨G,hG,?_⟩
 rw [z6 (fn:=ir82) rfl rfl]
 simp only [ir82,go_sem,h,zdb]
theorem c82e (S0:List (List AV))(T:List Nat)(k:Nat)(hk:pure k=false)(caps:List AV):run L 82 [.v (.slice none 0 0),.fn (.func k) [] caps] ⟨S0,T⟩=some (B false,⟨S0,T⟩):=
 c82 ⟨S0,T⟩ k hk caps (.v (.slice none 0 0)) [] (by decide) rfl (fun i h=>absurd h (by simp)) (fun _=>false) (fun x hx=>absurd hx (by simp))
attribute [local go_sem] m_ x_ l_ k_ o_ t_ a_ s_ q_ b_ c_ u_ g_ z00 zo zx z01 z41 z2o zg zk zm z9 zl z49
def fillStep (out:List Nat) (v:Nat):List Nat:=if out.any (bars v)=true then out else out++ [v]
theorem za4 (al:List Nat): ∀ss:List Nat,(al.foldl fillStep ss).length≤ss.length+al.length:=by
 induction al with
 |nil=>intro ss;simp
 |cons v r ih=>
  intro ss
  have h:(fillStep ss v).length≤ss.length+1:=by unfold fillStep;split<;>simp
  have:=ih (fillStep ss v)
  simp only [List.foldl_cons,List.length_cons];omega
theorem zb8 (al:List Nat)(ha: ∀s∈al,s<256): ∀ss:List Nat,(∀s∈ss,s<256)→∀s∈al.foldl fillStep ss,s<256:=by
 induction al with
 |nil=>intro ss h;exact h
 |cons v r ih=>
  intro ss h
  rw [List.foldl_cons]
  refine ih (fun s hs=>ha s (by simp [hs])) _ ?_
  unfold fillStep;split
  ·exact h
  ·intro s hs
   rcases List.mem_append.1 hs with hs|hs
   ·exact h s hs
   ·rw [List.mem_singleton.1 hs];exact ha v (by simp)
theorem happG (S:List (List AV))(l lo:Nat)(X:List Nat)(v:Nat)(hl:S[l]? =some (X.map u8))(h:1≤X.length)(h2:X.length≤1000)(hlo:lo≤S.length):
  ∃r S',appendmAV 1 true (.rsl l 0 X.length X.length 1 true) [E8 v] ⟨S,[]⟩=some (.rsl r 0 (X.length+1) (X.length+1) 1 true,⟨S',[]⟩)∧lo≤r∧S'.take lo=(S.set l []).take lo∧S'[r]? =some ((X++ [v]).map u8):=by
 have htk:(X.map u8).take X.length=X.map u8:=List.take_of_length_le (by simp)
 have key:appendmAV 1 true (.rsl l 0 X.length X.length 1 true) [E8 v] ⟨S,[]⟩=some (.rsl S.length 0 (X.length+1) (X.length+1) 1 true,⟨S.set l []++ [(X++ [v]).map u8],[]⟩):=by
  simp only [appendmAV,hl,lm_,List.length_cons,List.length_nil,Nat.mul_one,htk]
  rw [if_pos ⟨trivial,trivial,Nat.le_refl _,by omega,by omega⟩,if_neg (by omega),if_pos ⟨trivial,by unfold maxGrow;omega,by omega⟩]
  simp [flatAV,z0w]
 refine ⟨_,_,key,hlo,?_,?_⟩
 ·rw [List.take_append_of_le_length (by rw [List.length_set];exact hlo)]
 ·have:=zbh (S.set l []) ((X++ [v]).map u8)
  rwa [List.length_set] at this
theorem happN (S:List (List AV))(lo:Nat)(v:Nat)(hlo:lo≤S.length):
  ∃r S',appendmAV 1 true (.v (.slice none 0 0)) [E8 v] ⟨S,[]⟩=some (.rsl r 0 1 1 1 true,⟨S',[]⟩)∧lo≤r∧S'.take lo=S.take lo∧S'[r]? =some [u8 v]:=
 ⟨_,_,zdd v S [],hlo,by rw [List.take_append_of_le_length hlo],zbh _ _⟩
def rg (lo:Nat) (g:Bool) (out:List Nat):AV:=match g with|true=> .rsl lo 0 out.length out.length 1 true|false=>kA out
def sg (B B':List (List AV)) (g:Bool) (out:List Nat):List (List AV):=match g with|true=>B'++ [out.map u8]|false=>B
theorem zki (B B':List (List AV))(lo q:Nat)(hB:Num B)(hB':Num B')(hl:B.length=lo)(hl':B'.length=lo)(al:List Nat)(ha: ∀s∈al,s<256)(hal:al.length≤128)(hq:B[q]? =some (al.map u8))(hq':B'[q]? =some (al.map u8))(hqlo:q<lo)(ss:List Nat)(h256: ∀s∈ss,s<256)(hsl:ss.length≤13)(h0:ss≠[]→B[0]? =some (ss.map u8)∧B.set 0 []=B')(h0e:ss=[]→B=B')(i:Nat)(g:Bool)(out:List Nat)(hok:i≤al.length∧out=(al.take i).foldl fillStep ss∧(g=false→out=ss)∧(g=true→out≠[]))(env:Env)(st:St)
  (hg:gcAV true lo 0 (canon env [6,35,36,37,3000000]) st=([(6,rg lo g out),(35,.rsl q 0 al.length al.length 1 true),(36,J al.length),(37,J i),(3000000,.any)],⟨sg B B' g out,[]⟩)):
  ∃x_1 en s,lim (headed pure (run L) true [6,35,36,37,3000000] lp20_1 lo 0) env st=some (x_1,en,s)∧(x_1=.exit 2∧∃g',en.get 6=rg lo g' (al.foldl fillStep ss)∧s=⟨sg B B' g' (al.foldl fillStep ss),[]⟩∧(g'=false→al.foldl fillStep ss=ss)∧(g'=true→al.foldl fillStep ss≠[])):=by
 refine z7 (α:=Nat×Bool×List Nat) (fun ⟨i,g,out⟩=>al.length-i) (fun ⟨i,g,out⟩=>i≤al.length∧out=(al.take i).foldl fillStep ss∧(g=false→out=ss)∧(g=true→out≠[])) (fun ⟨i,g,out⟩=>([(6,rg lo g out),(35,.rsl q 0 al.length al.length 1 true),(36,J al.length),(37,J i),(3000000,.any)],⟨sg B B' g out,[]⟩)) (fun ⟨i,g,out⟩ x_1 en s=>x_1=.exit 2∧∃g',en.get 6=rg lo g' (al.foldl fillStep ss)∧s=⟨sg B B' g' (al.foldl fillStep ss),[]⟩∧(g'=false→al.foldl fillStep ss=ss)∧(g'=true→al.foldl fillStep ss≠[])) (fun ⟨i,g,out⟩ hok=> ?_) ⟨i,g,out⟩ hok env st hg
 simp only at hok
 obtain ⟨h1,h2,h3,h4⟩:=hok
 dsimp only at h1 h2 h3 h4⊢
 by_cases h:i<al.length
 ·have hs:=zb i (by omega)
  have hb8:=ha _ (z89 h)
  have hg8:=zfp al i h
  have hi2:(i+1≤al.length)=True:=eT (by omega)
  have hi1:(i<al.length)=True:=eT (by omega)
  have hlt:((i:Int)<(al.length:Int))=True:=eT (by omega)
  have hT:(al.take (i+1)).foldl fillStep ss=fillStep out (al.getD i 0):=by
   rw [List.take_succ,List.getElem?_eq_getElem h,List.foldl_append,←h2]
   simp [List.getD_eq_getElem?_getD,h]
  have hol:out.length≤1000:=by
   have:=za4 (al.take i) ss
   rw [←h2,List.length_take] at this;omega
  have ho8: ∀s∈out,s<256:=by
   rw [h2];exact zb8 _ (fun s hs=>ha s (List.mem_of_mem_take hs)) ss h256
  generalize al.getD i 0=a at*
  have hfs:fillStep out a=if out.any (bars a)=true then out else out++ [a]:=rfl
  have hq1:(q<lo)=True:=eT hqlo
  have hl00:(lo<lo)=False:=eF (by omega)
  have hl01:(lo≤lo)=True:=eT (by omega)
  have hlz:(0<lo)=True:=eT (by omega)
  have hp0:lo+0=lo:=rfl
  cases g with
  |true=>
   have e1:rg lo true out=.rsl lo 0 out.length out.length 1 true:=rfl
   have e2:sg B B' true out=B'++ [out.map u8]:=rfl
   rw [e1,e2]
   have gq: ∀L,(B'++L)[q]? =some (al.map u8):=fun L=>by rw [List.getElem?_append_left (by omega),hq']
   have g0:=fun L=>z1n B' L hl'
   have g1:=fun L=>z8w B' L hl' 1
   have s1:=fun L v=>zbw B' L hl' 1 v
   have pl:=fun L=>z8g B' L hl'
   have pt0:=fun L=>z6a B' L hl'
   obtain ⟨G,hG,hcall⟩:=c82r (B'++ [out.map u8,[u8 a]]) [] lo (lo+1) a hb8 out ho8 hol (by rw [g0];rfl) (by rw [g1];rfl)
   rw [List.append_assoc] at hcall
   simp only [List.cons_append,List.nil_append] at hcall
   have hpos:1≤out.length:=List.length_pos_iff.2 (h4 rfl)
   obtain ⟨r,S',happ,hr1,hr2,hr3⟩:=happG (B'++out.map u8:: [u8 a]::G) lo lo out a (by rw [g0];rfl) hpos hol (by rw [pl];omega)
   rw [z40 B' _ hl',List.set_cons_zero,pt0] at hr2
   have hrl:(r<lo)=False:=eF (by omega)
   have hrl2:(lo≤r)=True:=eT hr1
   have gr:(B'++out.map u8:: [u8 a]::G)[lo+1]? =some [u8 a]:=by rw [g1];rfl
   cases hp:out.any (bars a) with
   |true=>
    rw [hp] at hcall
    rw [hp,if_pos rfl] at hfs
    simp only [go_sem,lp20_1,gq,hi1,hi2,hlt,hg8,g0,g1,s1,pl,hcall,hs,nn_,lm_,List.append_assoc]
    refine ⟨(i+1,true,out),by simp only [go_sem,z3,z4,z5,e1,e2,gq,hq1,hl00,hl01,hp0,g0,pt0,hB'.refs,hB'.maps,hB'.calm.okApp,hB'.calm.renApp,z2f,z0c,compact,compactW,refsEnv,refsV,refsL,refsStore,refsAt,mapEnv,mapL,mapLs,newName,posOf,mapStore,pickStore,namesOk,zy,z05,z5l,z5m,List.contains_nil,List.contains_cons,Option.getD_some,hasKey]<;>rfl,?_,?_,fun x en s hq=> ?_⟩
    ·dsimp only;exact ⟨by omega,by rw [hT,hfs],h3,h4⟩
    ·dsimp only;omega
    ·exact hq
   |false=>
    rw [hp] at hcall
    rw [hp,if_neg (by simp)] at hfs
    have e3:rg lo true (out++ [a])=.rsl lo 0 (out.length+1) (out.length+1) 1 true:=by unfold rg;simp
    have e4:sg B B' true (out++ [a])=B'++ [(out++ [a]).map u8]:=rfl
    simp only [go_sem,lp20_1,gq,hi1,hi2,hlt,hg8,g0,g1,s1,pl,hcall,gr,happ,hs,nn_,lm_,List.append_assoc]
    refine ⟨(i+1,true,out++ [a]),by simp only [go_sem,z3,z4,z5,e3,e4,hq1,hl00,hl01,hrl,hrl2,hr2,hr3,hp0,pt0,hB'.refs,hB'.maps,hB'.calm.okApp,hB'.calm.renApp,z2f,z0c,compact,compactW,refsEnv,refsV,refsL,refsStore,refsAt,mapEnv,mapL,mapLs,newName,posOf,mapStore,pickStore,namesOk,zy,z05,z5l,z5m,List.contains_nil,List.contains_cons,Option.getD_some,hasKey]<;>rfl,?_,?_,fun x en s hq=> ?_⟩
    ·dsimp only;exact ⟨by omega,by rw [hT,hfs],(fun h=>by cases h),(fun _=>by simp)⟩
    ·dsimp only;omega
    ·exact hq
  |false=>
   have e1:rg lo false out=kA out:=rfl
   have e2:sg B B' false out=B:=rfl
   rw [e1,e2]
   have hos:=h3 rfl
   have gq: ∀L,(B++L)[q]? =some (al.map u8):=fun L=>by rw [List.getElem?_append_left (by omega),hq]
   have g0:=fun L=>z1n B L hl
   have s0:=fun L v=>z40 B L hl v
   have pl:=fun L=>z8g B L hl
   have pt0:=fun L=>z6a B L hl
   have e4:sg B B' true (out++ [a])=B'++ [(out++ [a]).map u8]:=rfl
   by_cases he:out=[]
   ·have hBB:=h0e (by rw [←hos,he])
    subst he
    have e5:kA []=.v (.slice none 0 0):=rfl
    rw [e5]
    have hcall:=c82e (B++ [[u8 a]]) [] 83 rfl [.ptr lo 0]
    have hfs:fillStep [] a=[a]:=rfl
    obtain ⟨r,S',happ,hr1,hr2,hr3⟩:=happN (B++ [[u8 a]]) lo a (by rw [pl];omega)
    rw [pt0,hBB] at hr2
    have hrl:(r<lo)=False:=eF (by omega)
    have hrl2:(lo≤r)=True:=eT hr1
    have e3:rg lo true [a]=.rsl lo 0 1 1 1 true:=rfl
    have e4:sg B B' true [a]=B'++ [[u8 a]]:=rfl
    simp only [go_sem,lp20_1,hq,gq,hi1,hi2,hlt,hg8,hl,g0,s0,pl,hcall,happ,hs,nn_,lm_,List.append_assoc]
    refine ⟨(i+1,true,[a]),by simp only [go_sem,z3,z4,z5,e3,e4,hq1,hl00,hl01,hrl,hrl2,hr2,hr3,hp0,pt0,hB'.refs,hB'.maps,hB'.calm.okApp,hB'.calm.renApp,z2f,z0c,compact,compactW,refsEnv,refsV,refsL,refsStore,refsAt,mapEnv,mapL,mapLs,newName,posOf,mapStore,pickStore,namesOk,zy,z05,z5l,z5m,List.contains_nil,List.contains_cons,Option.getD_some,hasKey]<;>rfl,?_,?_,fun x en s hq=> ?_⟩
    ·dsimp only;exact ⟨by omega,by rw [hT,hfs],(fun h=>by cases h),(fun _=>by simp)⟩
    ·dsimp only;omega
    ·exact hq
   ·obtain ⟨hb0,hbs⟩:=h0 (by rw [←hos];exact he)
    have e5:=zfi he
    rw [e5]
    rw [←hos] at hb0
    have gz: ∀L,(B++L)[0]? =some (out.map u8):=fun L=>by rw [List.getElem?_append_left (by omega),hb0]
    obtain ⟨G,hG,hcall⟩:=c82r (B++ [[u8 a]]) [] 0 lo a hb8 out ho8 hol (by rw [gz]) (by rw [g0];rfl)
    rw [List.append_assoc] at hcall
    simp only [List.cons_append,List.nil_append] at hcall
    have hpos:1≤out.length:=List.length_pos_iff.2 he
    obtain ⟨r,S',happ,hr1,hr2,hr3⟩:=happG (B++ [u8 a]::G) 0 lo out a (gz _) hpos hol (by rw [pl];omega)
    rw [List.set_append_left _ _ (by omega),hbs,z6a B' _ hl'] at hr2
    have hrl:(r<lo)=False:=eF (by omega)
    have hrl2:(lo≤r)=True:=eT hr1
    have gr:(B++ [u8 a]::G)[lo]? =some [u8 a]:=by rw [g0];rfl
    cases hp:out.any (bars a) with
    |true=>
     rw [hp] at hcall
     rw [hp,if_pos rfl] at hfs
     simp only [go_sem,lp20_1,hq,gq,hi1,hi2,hlt,hg8,hl,g0,s0,pl,hcall,hs,nn_,lm_,List.append_assoc]
     refine ⟨(i+1,false,out),by simp only [go_sem,z3,z4,z5,e1,e2,e5,hq1,hl00,hl01,hlz,hp0,pt0,hB.refs,hB.maps,hB.calm.ok,hB.calm.ren,hB.calm.okApp,hB.calm.renApp,List.append_nil,z2f,z0c,compact,compactW,refsEnv,refsV,refsL,refsStore,refsAt,mapEnv,mapL,mapLs,newName,posOf,mapStore,pickStore,namesOk,zy,z05,z5l,z5m,List.contains_nil,List.contains_cons,Option.getD_some,hasKey]<;>rfl,?_,?_,fun x en s hq=> ?_⟩
     ·dsimp only;exact ⟨by omega,by rw [hT,hfs],h3,h4⟩
     ·dsimp only;omega
     ·exact hq
    |false=>
     rw [hp] at hcall
     rw [hp,if_neg (by simp)] at hfs
     have e3:rg lo true (out++ [a])=.rsl lo 0 (out.length+1) (out.length+1) 1 true:=by unfold rg;simp
     simp only [go_sem,lp20_1,hq,gq,hi1,hi2,hlt,hg8,hl,g0,s0,pl,hcall,gr,happ,hs,nn_,lm_,List.append_assoc]
     refine ⟨(i+1,true,out++ [a]),by simp only [go_sem,z3,z4,z5,e3,e4,hq1,hl00,hl01,hrl,hrl2,hr2,hr3,hp0,pt0,hB'.refs,hB'.maps,hB'.calm.okApp,hB'.calm.renApp,z2f,z0c,compact,compactW,refsEnv,refsV,refsL,refsStore,refsAt,mapEnv,mapL,mapLs,newName,posOf,mapStore,pickStore,namesOk,zy,z05,z5l,z5m,List.contains_nil,List.contains_cons,Option.getD_some,hasKey]<;>rfl,?_,?_,fun x en s hq=> ?_⟩
     ·dsimp only;exact ⟨by omega,by rw [hT,hfs],(fun h=>by cases h),(fun _=>by simp)⟩
     ·dsimp only;omega
     ·exact hq
 ·have e:al.take i=al:=List.take_of_length_le (by omega)
  have hlt:((i:Int)<(al.length:Int))=False:=eF (by omega)
  rw [e] at h2
  rw [←h2]
  simp only [go_sem,lp20_1,hlt]
  exact ⟨g,rfl,rfl,h3,h4⟩
attribute [local go_sem] m_ x_ l_ k_ o_ t_ a_ s_ q_ b_ c_ u_ g_ z00 zo zx z01 z41 z2o zg zk zm z9 zl z49
theorem Num.sh {A:List (List AV)} (h:Num A)(n:Nat):shStore n A=A:=by
 induction A with
 |nil=>rfl
 |cons C r ih=>
  obtain ⟨xs,rfl⟩:=h C (by simp)
  have e:shVs n (xs.map AV.v)=xs.map AV.v:=by
   clear h ih
   induction xs with
   |nil=>rfl
   |cons x r ih=>simp only [List.map_cons,shVs,shV,ih]
  simp only [shStore,e,ih (fun D hD=>h D (by simp [hD]))]
theorem zix {S:List (List AV)} {l:Nat} {cs:List AV} (h:S[l]? =some cs)(hne:cs≠[])(T:List Nat): ∃S',∀env,frzL l env ⟨S,T⟩=(frzEnv l cs env,⟨S',T⟩):=by
 cases cs with
 |nil=>exact absurd rfl hne
 |cons x r=>exact ⟨(frzStore l (x::r) S).set l [],fun env=>by simp only [frzL,h]⟩
def fillL (n:Nat) (ss:List Nat):List Nat:=(srt (evs (2^(n-1)-1))).foldl fillStep ss
theorem zj8 {n:Nat} (hn:n≤8): ∀s∈evs (2^(n-1)-1),s<256:=by
 intro s hs
 have h2n:2^(n-1)≤128:=Nat.pow_le_pow_right (n:=2) (by decide) (by omega:n-1≤7)
 unfold evs at hs
 rw [List.mem_map] at hs
 obtain ⟨i,hi,rfl⟩:=hs
 rw [List.mem_range] at hi
 omega
theorem c20 (n:Nat)(h2:2≤n)(hn:n≤8)(nl:Bool)(X:List Nat)(hX: ∀v∈X,v<2^n∧v≠0∧v≠2^n-1)(hnd:(X.map (smlN n)).Nodup)(hl:X.length≤13)(hc:clP (X.map (smlN n)) 0=none)(st:St):
  run L 20 [J n,sl 1 nl (X.map tM)] st=some (.tup [sl 1 true ((srt (fillL n (srt (X.map (smlN n))))).map tM),I 0],st):=by
 rw [run_pure (fn:=ir20) rfl rfl]
 obtain ⟨X1,hX1,h79⟩:=(c79 n h2 hn nl X hX hnd hl).1 hc
 have h2n:2^n≤256:=Nat.pow_le_pow_right (n:=2) (by decide) hn
 have hss0: ∀x∈X.map (smlN n),x<256:=by
  intro x hx
  rw [List.mem_map] at hx
  obtain ⟨v,hv,rfl⟩:=hx
  exact Nat.lt_of_lt_of_le (zcy (hX v hv).1) h2n
 have hsl:=z5k hss0
 have h256: ∀s∈srt (X.map (smlN n)),s<256:=zbs _
 rw [lm_] at hsl
 generalize srt (X.map (smlN n))=ss at*
 clear hX hnd hc hss0
 have hsm:ss.length≤13:=by omega
 clear hsl hl
 have hm1:2≤2^(n-1):=Nat.pow_le_pow_right (n:=2) (by decide) (by omega:1≤n-1)
 have hm2:2^(n-1)≤128:=Nat.pow_le_pow_right (n:=2) (by decide) (by omega:n-1≤7)
 have hev:=zj8 hn
 have hel:=zdk (2^(n-1)-1)
 have hfd:fillL n ss=(srt (evs (2^(n-1)-1))).foldl fillStep ss:=rfl
 rw [hfd]
 have hA:Num (kS ss++X1):=(Num.kS ss).app hX1.num
 obtain ⟨p,hp⟩: ∃p,(kS ss++X1).length=p:=⟨_,rfl⟩
 have hsA:=hA.sh 0
 have h0:ss≠[]→(kS ss++X1)[0]? =some (ss.map u8)∧0<p:=by
  intro h
  rw [zda h] at hp⊢
  exact ⟨rfl,by rw [←hp];simp⟩
 have hr1a: ∀k,p≤k→∀acc,refsV k acc (kA ss)=acc:=by
  intro k hk acc;unfold kA;split
  ·rfl
  ·next h=>have:=(h0 h).2;simp only [refsV];rw [if_pos (Or.inl (by omega))]
 have hr2a: ∀k,p≤k→∀M,mapL k M (kA ss)=kA ss:=by
  intro k hk acc;unfold kA;split
  ·rfl
  ·next h=>have:=(h0 h).2;simp only [mapL,newName];rw [if_pos (by omega)]
 have hr1:=hr1a p (Nat.le_refl p)
 have hr2:=hr2a p (Nat.le_refl p)
 have hr4: ∀n T acc,ren1 n T acc (kA ss)=(kA ss,acc):=by
  intro n T acc;unfold kA;split<;>rfl
 have hr5:shV 0 (kA ss)=kA ss:=by unfold kA;split<;>simp only [shV]
 generalize hAA:kS ss++X1=A at*
 generalize hev0:evs (2^(n-1)-1)=al at*
 have hane:al≠[]:=by intro e;rw [e] at hel;simp at hel;omega
 have hkB:=zmw (p:=p) hane
 have hkS:=zda hane
 obtain ⟨X2,hX2,h80⟩:=c80 (A++ [[]]) [] p (by rw [List.length_append,hp];simp) true al hev (by omega)
 rw [z40 A _ hp,z40 A _ hp,List.set_cons_zero,List.set_cons_zero,List.append_assoc] at h80
 simp only [List.cons_append,List.nil_append] at h80
 have hsl:=z5k hev
 have hs8:=zbs al
 have pt0:=fun L=>z6a A L hp
 have ptA:A.take p=A:=by rw [←hp];exact List.take_length
 have g0:=fun L=>z1n A L hp
 have hkB0:kB p []=.v (.slice none 0 0):=rfl
 have hkS0:kS []=[]:=rfl
 simp only [ir20,go_sem,h79,show pure 79=false from rfl,shStore,shV,shVs,hr5,hsA,keepR,keepT,ownTop,hp]
 generalize hg:lim (headed pure (run L) true _ lp20_0 _ _) _ _=o
 obtain ⟨x,en,s,rfl,h2⟩: ∃x en s,o=some (x,en,s)∧_:=by rw [←hg];exact zkj A hA p hp (kA ss) hr1 hr2 hr4 n (by omega) hn 0 [] ⟨by omega,rfl⟩ _ _ (by simp only [go_sem,hr1,hr2,hr4,hkB0,hkS0,List.append_nil,ptA,hA.refs,hA.maps,hA.calm.ok,hA.calm.ren,compact,compactW,refsEnv,refsV,refsL,refsStore,refsAt,mapEnv,mapL,mapLs,newName,posOf,mapStore,pickStore,namesOk,zy,z05,z5l,z5m,List.contains_nil,List.contains_cons,Option.getD_some,hasKey]<;>rfl)
 clear hg
 obtain ⟨rfl,e30,e0,e6,e8,rfl⟩:=h2
 rw [hev0,hkB] at e8
 rw [hev0,hkS]
 simp only [go_sem,e0,e6,e8,h80]
 simp only [←hsl]
 have h128:(srt al).length≤128:=by omega
 have hfl:=za4 (srt al) ss
 have hf8:=zb8 (srt al) hs8 ss h256
 clear e0 e8 h80 hel hsl hev0 hkB hkS hane h79
 generalize srt al=bl at*
 have hB:Num (A++bl.map u8::X2):=hA.app ((Num.one8 bl).app hX2.num)
 obtain ⟨lo,hlo⟩: ∃lo,(A++bl.map u8::X2).length=lo:=⟨_,rfl⟩
 have hplo:p<lo:=by rw [←hlo,z8g A _ hp];simp
 have hBq:(A++bl.map u8::X2)[p]? =some (bl.map u8):=by rw [g0];rfl
 have hB0:ss≠[]→(A++bl.map u8::X2)[0]? =some (ss.map u8)∧0<p:=fun h=>⟨by rw [List.getElem?_append_left (by have:=(h0 h).2;omega),(h0 h).1],(h0 h).2⟩
 rw [hlo]
 generalize A++bl.map u8::X2=B at*
 obtain ⟨B',hBB,hB',hl',hq'⟩: ∃B',((ss≠[]→B.set 0 []=B')∧(ss=[]→B=B'))∧Num B'∧B'.length=lo∧B'[p]? =some (bl.map u8):=by
  by_cases he:ss=[]
  ·exact ⟨B,⟨fun h=>absurd he h,fun _=>rfl⟩,hB,hlo,hBq⟩
  ·refine ⟨B.set 0 [],⟨fun _=>rfl,fun h=>absurd h he⟩,?_,by rw [List.length_set,hlo],?_⟩
   ·intro C hC
    rcases List.mem_or_eq_of_mem_set hC with h|h
    ·exact hB C h
    ·exact ⟨[],h⟩
   ·rw [List.getElem?_set_ne (by have:=(hB0 he).2;omega),hBq]
 have hr1:=hr1a lo (by omega)
 have hr2:=hr2a lo (by omega)
 have hptB:B.take lo=B:=by rw [←hlo];exact List.take_length
 have hq1:(p<lo)=True:=eT hplo
 have eR:rg lo false ss=kA ss:=rfl
 have eS:sg B B' false ss=B:=rfl
 generalize hg:lim (headed pure (run L) true _ lp20_1 _ _) _ _=o
 obtain ⟨x,en,s,rfl,h2⟩: ∃x en s,o=some (x,en,s)∧_:=by rw [←hg];exact zki B B' lo p hB hB' hlo hl' bl hs8 h128 hBq hq' hplo ss h256 hsm (fun h=>⟨(hB0 h).1,hBB.1 h⟩) hBB.2 0 false ss ⟨by omega,rfl,fun _=>rfl,fun h=>by cases h⟩ _ _ (by simp only [go_sem,e6,e30,eR,eS,hr1,hr2,hr4,hq1,hptB,hB.refs,hB.maps,hB.calm.ok,hB.calm.ren,Int.natCast_zero,compact,compactW,refsEnv,refsV,refsL,refsStore,refsAt,mapEnv,mapL,mapLs,newName,posOf,mapStore,pickStore,namesOk,zy,z05,z5l,z5m,List.contains_nil,List.contains_cons,Option.getD_some,hasKey]<;>rfl)
 clear hg
 obtain ⟨rfl,g,e6,rfl,hg1,hg2⟩:=h2
 have h84:=fun st=>c84 true (bl.foldl fillStep ss) hf8 (by omega) st
 have hfin:plainR (sl 1 true ((srt (bl.foldl fillStep ss)).map tM))=plainR (sl 1 true ((srt (bl.foldl fillStep ss)).map tM)):=rfl
 generalize bl.foldl fillStep ss=out at*
 cases g with
 |true=>
  have hne:=hg2 rfl
  rw [show rg lo true out=.rsl lo 0 out.length out.length 1 true from rfl] at e6
  rw [show sg B B' true out=B'++ [out.map u8] from rfl]
  obtain ⟨S',hfz⟩:=zix (S:=B'++ [out.map u8]) (l:=lo) (cs:=out.map u8) (by rw [z1n B' _ hl'];rfl) (by simpa using hne) []
  have hfv:=zlg lo out hne
  simp only [go_sem,zdn,frzAV,frzT,frzLs,rslsOf,e6,hfz,frzEnv,frzEnv_get,hfv,h84]
 |false=>
  rw [show rg lo false out=kA out from rfl] at e6
  rw [show sg B B' false out=B from rfl]
  have hos:=hg1 rfl
  by_cases he:out=[]
  ·subst he
   rw [show kA []=.v (.slice none 0 0) from rfl] at e6
   rw [show sl 1 true (([]:List Nat).map E8)=AV.v (.slice none 0 0) from rfl] at h84
   simp only [go_sem,zdn,frzAV,frzT,frzLs,rslsOf,e6,h84]
  ·rw [zfi he] at e6
   obtain ⟨S',hfz⟩:=zix (S:=B) (l:=0) (cs:=out.map u8) (by rw [hos];exact (hB0 (by rw [←hos];exact he)).1) (by simpa using he) []
   have hfv:=zlg 0 out he
   simp only [go_sem,zdn,frzAV,frzT,frzLs,rslsOf,e6,hfz,frzEnv,frzEnv_get,hfv,h84]
theorem c20n (n:Nat)(h2:2≤n)(hn:n≤8)(nl:Bool)(X:List Nat)(hX: ∀v∈X,v<2^n∧v≠0∧v≠2^n-1)(hnd:(X.map (smlN n)).Nodup)(hl:X.length≤13)(hc:clP (X.map (smlN n)) 0≠none)(st:St):
  run L 20 [J n,sl 1 nl (X.map tM)] st=some (.tup [.v (.slice none 0 0),I 12],st):=by
 rw [run_pure (fn:=ir20) rfl rfl]
 have h79:=(c79 n h2 hn nl X hX hnd hl).2 hc
 have hsA:=(Num.kS (X.map (smlN n))).sh 0
 generalize kS (X.map (smlN n))=A at*
 simp only [ir20,go_sem,h79,show pure 79=false from rfl,shStore,shV,shVs,hsA,keepR,keepT,ownTop]
attribute [local go_sem] m_ x_ l_ k_ o_ t_ a_ s_ q_ b_ c_ u_ g_ z00 zo zx z01 z41 z2o zg zk zm z9 zl z49
theorem c53 (a b:Nat)(ha:a<256)(hb:b<256)(st:St):run L 53 [U a,U b] st=some (I (cmpN (memb a) (memb b)),st):=by
 rw [run_pure (fn:=ir53) rfl rfl]
 have h1:=fun st=>c40 a (by omega) st
 have h2:=fun st=>c40 b (by omega) st
 have hm:=z2h a
 have h3: ∀st,run L 42 [tAV (memb a),tAV (memb b)] st=some (I (cmpN (memb a) (memb b)),st):=fun st=>c42 true true (memb a) (memb b) (by omega) st
 simp only [ir53,go_sem,h1,h2,h3]
theorem znf {ss:List Nat} (h: ∀s∈ss,s<256):Dm fU (fin8 ss).toArray=ss.map U:=by
 unfold Dm
 show (fin8 ss).map (fun x=>U x.val)=ss.map U
 rw [show (fun x:Fin 256=>U x.val)=U∘(fun x:Fin 256=>x.val) from rfl,←List.map_map,zdi h]
theorem zne (ss:List Nat):Dm fU (Go.Sort.sort lt8 (fin8 ss).toArray)=(srt ss).map U:=by
 unfold Dm srt sortA
 rw [List.map_map];rfl
theorem c52 (S0:List (List AV))(T:List Nat)(l:Nat)(hl:l<S0.length)(ag:Bool)(ss:List Nat)(h: ∀s∈ss,s<256)(hn:ss.length<256):
  ∃X1,PL X1∧run L 52 [.rsl l 0 ss.length ss.length 1 ag,.fn (.func 53) [] []] ⟨S0.set l (ss.map U),T⟩=some (.tup [],⟨S0.set l ((srt ss).map U)++X1,T⟩):=by
 obtain ⟨X1,h1,h2⟩:=sortu S0 T l hl ss.length (by omega) ag 53 rfl [] (fun x y=>cmpN (memb x.val) (memb y.val)) lt8 (fun x y=>(zdo _ _).symm)
  (fun x y X E=>c53 x.val y.val x.isLt y.isLt _) hn (fin8 ss).toArray (by simp [fin8]) []
 rw [znf h,zne] at h2
 unfold put at h2
 rw [List.append_nil] at h2
 exact ⟨X1,h1 PL.nil,h2⟩
def kU (p:Nat) (ss:List Nat):AV:=if ss=[] then .v (.slice none 0 0) else .rsl p 0 ss.length ss.length 1 false
def kUS (ss:List Nat):List (List AV):=if ss=[] then [] else [ss.map U]
theorem zmt {p:Nat} {X:List Nat} (h:X≠[]):kU p X=.rsl p 0 X.length X.length 1 false:=by unfold kU;rw [if_neg h]
theorem zik {X:List Nat} (h:X≠[]):kUS X=[X.map U]:=by unfold kUS;rw [if_neg h]
theorem kU_one (p l:Nat):kU p [l]=.rsl p 0 1 1 1 false:=rfl
theorem zmu (l:Nat):kUS [l]=[[U l]]:=rfl
theorem zms (p:Nat)(X:List Nat)(l:Nat):kU p (X++ [l])=.rsl p 0 (X.length+1) (X.length+1) 1 false:=by rw [zmt (by simp)];simp
theorem zkp (X:List Nat)(l:Nat):kUS (X++ [l])=[(X++ [l]).map U]:=zik (by simp)
theorem ziq (v:Nat)(S:List (List AV))(T:List Nat):appendmAV 1 false (.v (.slice none 0 0)) [U v] ⟨S,T⟩=some (.rsl S.length 0 1 1 1 false,⟨S++ [[U v]],T⟩):=by
 have hc:(U v).cells=[U v]:=rfl
 simp [appendmAV,newM,maxGrow,flatAV,hc]
theorem happU (A:List (List AV))(p:Nat)(hp:A.length=p)(X:List Nat)(v:Nat)(T:List Nat)(h:1≤X.length)(h2:X.length≤1000):appendmAV 1 false (.rsl p 0 X.length X.length 1 false) [U v] ⟨A++ [X.map U],T⟩=some (.rsl (p+1) 0 (X.length+1) (X.length+1) 1 false,⟨A++ [[],(X++ [v]).map U],T⟩):=by
 have htk:(X.map U).take X.length=X.map U:=List.take_of_length_le (by simp)
 have g0:=z1n A [X.map U] hp
 simp only [appendmAV,g0,List.getElem?_cons_zero,lm_,List.length_cons,List.length_nil,Nat.mul_one,htk]
 rw [if_pos ⟨trivial,trivial,Nat.le_refl _,by omega,by omega⟩,if_neg (by omega),if_pos ⟨trivial,by unfold maxGrow;omega,by omega⟩]
 have hs:=z40 A [X.map U] hp ([]:List AV)
 have hc:(U v).cells=[U v]:=rfl
 simp [flatAV,hp,hs,hc]
theorem shlU1 (n:Nat)(hn:n≤8):binAV .shl none (.v (.int .u64 1)) (J n)=some (U (2^n)):=by
 rcases (by omega:n=0∨n=1∨n=2∨n=3∨n=4∨n=5∨n=6∨n=7∨n=8) with h|h|h|h|h|h|h|h|h<;>subst h<;>rfl
theorem zme (A:List (List AV))(hA:Num A)(p:Nat)(hp:A.length=p)(D F:List AV)(e7:Int)(n:Nat)(h1n:1≤n)(hn:n≤8)(k:Nat)(ss:List Nat)(hok:k≤2^(n-1)-1∧ss=evs k)(env:Env)(st:St)
  (hg:gcAV true p 0 (canon env [3,4,6,7,11,12,3000000]) st=([(3,J n),(4,sl 1 true D),(6,sl 1 true F),(7,I e7),(11,kU p ss),(12,U (2*k+2)),(3000000,.any)],⟨A++kUS ss,[]⟩)):
  ∃x_1 en s,lim (headed pure (run L) true [3,4,6,7,11,12,3000000] lp9_0 p 0) env st=some (x_1,en,s)∧(x_1=.exit 0∧en.get 3=J n∧en.get 4=sl 1 true D∧en.get 6=sl 1 true F∧en.get 7=I e7∧en.get 11=kU p (evs (2^(n-1)-1))∧s=⟨A++kUS (evs (2^(n-1)-1)),[]⟩):=by
 refine z7 (α:=Nat×List Nat) (fun ⟨k,ss⟩=>2^(n-1)-k) (fun ⟨k,ss⟩=>k≤2^(n-1)-1∧ss=evs k) (fun ⟨k,ss⟩=>([(3,J n),(4,sl 1 true D),(6,sl 1 true F),(7,I e7),(11,kU p ss),(12,U (2*k+2)),(3000000,.any)],⟨A++kUS ss,[]⟩)) (fun ⟨k,ss⟩ x_1 en s=>x_1=.exit 0∧en.get 3=J n∧en.get 4=sl 1 true D∧en.get 6=sl 1 true F∧en.get 7=I e7∧en.get 11=kU p (evs (2^(n-1)-1))∧s=⟨A++kUS (evs (2^(n-1)-1)),[]⟩) (fun ⟨k,ss⟩ hok=> ?_) ⟨k,ss⟩ hok env st hg
 simp only at hok
 obtain ⟨h1,h2⟩:=hok
 dsimp only at h1 h2⊢
 have h2n:2^(n-1)≤128:=Nat.pow_le_pow_right (n:=2) (by decide) (by omega:n-1≤7)
 have hpos:0<2^(n-1):=Nat.two_pow_pos _
 have hpn:2^n=2*2^(n-1):=by rw [show n=(n-1)+1 by omega,Nat.pow_succ];simp;omega
 have hsh:=shlU1 n hn
 by_cases h:k<2^(n-1)-1
 ·have hlt:(((2*k+2:Nat):Int)<((2^n:Nat):Int))=True:=eT (by omega)
  have ha:IntKind.u64.wrap (((2*k+2:Nat):Int)+2)=((2*k+2+2:Nat):Int):=z6s (2*k+2+2) (by omega)
  have hT:evs (k+1)=ss++ [2*k+2]:=by rw [zg7,h2]
  have hln:ss.length=k:=by rw [h2,zdk]
  have pt0:=fun L=>z6a A L hp
  have pg0:=fun L=>z1n A L hp
  have pg1:=fun L=>zgd A L hp
  have pn:(p<p)=False:=eF (by omega)
  have pn1:(p+1<p)=False:=eF (by omega)
  have pp0:(p≤p)=True:=eT (by omega)
  have pp1:(p≤p+1)=True:=eT (by omega)
  have pp1b:(p=p+1)=False:=eF (by omega)
  have p00:p+0=p:=rfl
  generalize hv:2*k+2=v at*
  have hv2:2*(k+1)+2=v+2:=by omega
  generalize 2^n=N at*
  by_cases he:ss=[]
  ·subst he
   have eA:kU p []=.v (.slice none 0 0):=rfl
   have eS:kUS []=[]:=rfl
   have happ:=ziq v (A++ []) []
   rw [List.append_nil,hp] at happ
   rw [eA,eS,List.append_nil]
   simp only [go_sem,lp9_0,hsh,hlt,happ,ha]
   refine ⟨(k+1,[v]),by simp only [go_sem,z3,z4,z5,hv2,kU_one,zmu,pt0,pg0,pn,pp0,p00,hA.refs,hA.maps,hA.calm.okApp,hA.calm.renApp,compact,compactW,refsEnv,refsV,refsL,refsStore,refsAt,mapEnv,mapL,mapLs,newName,posOf,mapStore,pickStore,namesOk,zy,z05,List.contains_nil,List.contains_cons,Option.getD_some,hasKey]<;>rfl,?_,?_,fun x en s hq=> ?_⟩
   ·dsimp only;exact ⟨by omega,by rw [hT];rfl⟩
   ·dsimp only;omega
   ·exact hq
  ·have eA:=zmt (p:=p) he
   have eS:=zik he
   have hpos:1≤ss.length:=List.length_pos_iff.2 he
   have happ:=happU A p hp ss v [] hpos (by omega)
   rw [eA,eS]
   simp only [go_sem,lp9_0,hsh,hlt,happ,ha]
   refine ⟨(k+1,ss++ [v]),by simp only [go_sem,z3,z4,z5,hv2,zms,zkp,pt0,pg1,pn1,pp1,pp1b,p00,hA.refs,hA.maps,hA.calm.okApp,hA.calm.renApp,zm9,zhv,compact,compactW,refsEnv,refsV,refsL,refsStore,refsAt,mapEnv,mapL,mapLs,newName,posOf,mapStore,pickStore,namesOk,zy,z05,zhz,zia,List.contains_nil,List.contains_cons,Option.getD_some,hasKey]<;>rfl,?_,?_,fun x en s hq=> ?_⟩
   ·dsimp only;exact ⟨by omega,by rw [hT]⟩
   ·dsimp only;omega
   ·exact hq
 ·have e:k=2^(n-1)-1:=by omega
  have hlt:(((2*k+2:Nat):Int)<((2^n:Nat):Int))=False:=eF (by omega)
  rw [h2,e] at*
  simp only [go_sem,lp9_0,hsh,hlt]
attribute [local go_sem] m_ x_ l_ k_ o_ t_ a_ s_ q_ b_ c_ u_ g_ z00 zo zx z01 z41 z2o zg zk zm z9 zl z49
theorem c57 (S:List (List AV))(T:List Nat)(q a o:Nat)(ha:a<256)(ho:o<256)(hq:S[q]? =some [U a]):run L 57 [U o,.ptr q 0] ⟨S,T⟩=some (B (!agN o a),⟨S,T⟩):=by
 rw [z6 (fn:=ir57) rfl rfl]
 have h:=fun st=>c41 o a ho ha st
 cases hh:agN o a<;>rw [hh] at h<;>simp only [ir57,go_sem,h,hq]<;>rfl
theorem c54 (ss:List Nat)(h:ss.length≤1000):run L 54 [sl 1 true (ss.map U)] ⟨[],[]⟩=some (oA (ss.map U),⟨[],oT (ss.map U)⟩):=by
 rw [z6 (fn:=ir54) rfl rfl]
 cases ss with
 |nil=>rfl
 |cons x r=>
  have hm:(x::r).length≤maxGrow:=by unfold maxGrow;omega
  rw [show sl 1 true ((x::r).map U)=AV.lst .any 1 ((x::r).map U) from zcz (by simp)]
  have happ:appendAV 1 (.lst .full 1 []) ((x::r).map U) ⟨[],[]⟩=some (oA ((x::r).map U),⟨[],oT ((x::r).map U)⟩):=by
   simp only [List.map_cons,appendAV,if_true,List.length_nil,Nat.zero_add,List.length_cons,lm_] at hm⊢
   rw [if_pos hm];simp [oA,oT,loc,locT]
  rw [List.map_cons] at happ⊢
  simp only [ir54,go_sem,happ]
theorem zl7 (a:Nat)(l:List Nat):l.any (bars a)=(decide (a∈l)||l.any fun o=> !agN o a):=by
 induction l with
 |nil=>rfl
 |cons x r ih=>
  rw [List.any_cons,ih,List.any_cons]
  unfold bars
  by_cases h:x=a
  ·subst h;simp
  ·have h2:decide (a∈x::r)=decide (a∈r):=by
    have: ¬a=x:=fun e=>h e.symm
    simp [this]
   rw [h2,decide_eq_false h]
   cases decide (a∈r)<;>cases agN x a<;>simp
def nextF (al full:List Nat):Option Nat:=al.find? fun v=> !full.any (bars v)
theorem zie (Bs:List (List AV))(hB:Num Bs)(lo q:Nat)(hl:Bs.length=lo)(al:List Nat)(ha: ∀s∈al,s<256)(hal:al.length≤128)(hq:Bs[q]? =some (al.map U))(hqlo:q<lo)(full:List Nat)(hf: ∀s∈full,s<256)(hfl:full.length≤900)(hi:Nat)(hhi:(oT (full.map U)).length≤hi)(n:Nat)(F:List AV)(e7:Int)(i:Nat)(hok:i≤al.length)(env:Env)(st:St)
  (hg:gcAV true lo hi (canon env [3,6,7,11,13,14,66,67,68]) st=([(3,J n),(6,sl 1 true F),(7,I e7),(11,.rsl q 0 al.length al.length 1 false),(13,oA (full.map U)),(14,B false),(66,.rsl q 0 al.length al.length 1 false),(67,J al.length),(68,J i)],⟨Bs,oT (full.map U)⟩)):
  ∃x_1 en s,lim (headed pure (run L) true [3,6,7,11,13,14,66,67,68] lp9_1 lo hi) env st=some (x_1,en,s)∧(x_1=.exit 4∧en.get 3=J n∧en.get 6=sl 1 true F∧en.get 7=I e7∧en.get 11=.rsl q 0 al.length al.length 1 false∧((nextF (al.drop i) full=none∧en.get 13=oA (full.map U)∧en.get 14=B false∧s=⟨Bs,oT (full.map U)⟩)∨(∃v,nextF (al.drop i) full=some v∧en.get 13=oA ((full++ [v]).map U)∧en.get 14=B true∧s=⟨Bs++ [[U v]],oT ((full++ [v]).map U)⟩))):=by
 refine z7 (α:=Nat) (fun i=>al.length-i) (fun i=>i≤al.length) (fun i=>([(3,J n),(6,sl 1 true F),(7,I e7),(11,.rsl q 0 al.length al.length 1 false),(13,oA (full.map U)),(14,B false),(66,.rsl q 0 al.length al.length 1 false),(67,J al.length),(68,J i)],⟨Bs,oT (full.map U)⟩)) (fun i x_1 en s=>x_1=.exit 4∧en.get 3=J n∧en.get 6=sl 1 true F∧en.get 7=I e7∧en.get 11=.rsl q 0 al.length al.length 1 false∧((nextF (al.drop i) full=none∧en.get 13=oA (full.map U)∧en.get 14=B false∧s=⟨Bs,oT (full.map U)⟩)∨(∃v,nextF (al.drop i) full=some v∧en.get 13=oA ((full++ [v]).map U)∧en.get 14=B true∧s=⟨Bs++ [[U v]],oT ((full++ [v]).map U)⟩))) (fun i hok=> ?_) i hok env st hg
 dsimp only at hok⊢
 by_cases h:i<al.length
 ·have hs:=zb i (by omega)
  have hb8:=ha _ (z89 h)
  have hgU:(al.map U)[i]? =some (U (al.getD i 0)):=by rw [getm U al 0 i,if_pos h]
  have hi2:(i+1≤al.length)=True:=eT (by omega)
  have hi1:(i<al.length)=True:=eT (by omega)
  have hlt:((i:Int)<(al.length:Int))=True:=eT (by omega)
  have hd:al.drop i=al.getD i 0::al.drop (i+1):=by
   rw [List.drop_eq_getElem_cons h];simp [List.getD_eq_getElem?_getD,h]
  have hnx:nextF (al.drop i) full=if full.any (bars (al.getD i 0))=true then nextF (al.drop (i+1)) full else some (al.getD i 0):=by
   rw [hd];unfold nextF;rw [List.find?_cons]
   cases full.any (bars (al.getD i 0))<;>rfl
  rw [hnx]
  clear hnx hd
  generalize al.getD i 0=a at*
  have hq1:(q<lo)=True:=eT hqlo
  have hba:=zl7 a full
  have gq: ∀L,(Bs++L)[q]? =some (al.map U):=fun L=>by rw [List.getElem?_append_left (by omega),hq]
  have g0:=fun L=>z1n Bs L hl
  have s0:=fun L v=>z40 Bs L hl v
  have pl:=fun L=>z8g Bs L hl
  have pt0:=fun L=>z6a Bs L hl
  have ptB:Bs.take lo=Bs:=by rw [←hl];exact List.take_length
  have hren:=fun T acc=>zap hhi T acc
  have htk:(oT (full.map U)).take hi=oT (full.map U):=List.take_of_length_le hhi
  have h55: ∀st,run L 55 [oA (full.map U),U a] st=some (B (decide (a∈full)),st):=fun st=>by
   rw [←c55 true full (by omega) a st]
   exact zd1 (fn:=ir55) rfl rfl st (by simp only [pubs,z2o,z5y])
  have h56:=c56 ⟨Bs++ [[U a]],oT (full.map U)⟩ 57 rfl [.ptr lo 0] (oA (full.map U)) full (by omega) (zle U full) (fun i h=>idx_o U full i h) (fun o=> !agN o a)
   (fun o ho=>c57 (Bs++ [[U a]]) _ lo a o hb8 (hf o ho) (by rw [g0];rfl))
  by_cases hin:a∈full
  ·have hdd:decide (a∈full)=true:=decide_eq_true hin
   rw [hdd] at h55 hba
   rw [hba,if_pos (by simp)]
   simp only [go_sem,lp9_1,hq,gq,hi1,hi2,hlt,hgU,hl,g0,s0,pl,h55,hs,nn_,lm_,List.append_assoc]
   refine ⟨i+1,by simp only [go_sem,z3,z4,z5,hq1,hl,pt0,ptB,hren,htk,hB.calm.ok,hB.calm.ren,hB.calm.okApp,hB.calm.renApp,List.append_nil,List.map_nil]<;>rfl,?_,?_,fun x en s hq=> ?_⟩
   ·omega
   ·omega
   ·exact hq
  ·have hdd:decide (a∈full)=false:=decide_eq_false hin
   rw [hdd] at h55 hba
   rw [Bool.false_or] at hba
   cases hp:full.any (fun o=> !agN o a) with
   |true=>
    rw [hp] at h56 hba
    rw [hba,if_pos rfl]
    simp only [go_sem,lp9_1,hq,gq,hi1,hi2,hlt,hgU,hl,g0,s0,pl,h55,h56,hs,nn_,lm_,List.append_assoc]
    refine ⟨i+1,by simp only [go_sem,z3,z4,z5,hq1,hl,pt0,ptB,hren,htk,hB.calm.ok,hB.calm.ren,hB.calm.okApp,hB.calm.renApp,List.append_nil,List.map_nil]<;>rfl,?_,?_,fun x en s hq=> ?_⟩
    ·omega
    ·omega
    ·exact hq
   |false=>
    rw [hp] at h56 hba
    rw [hba,if_neg (by simp)]
    have happ:=fun S=>z8c (full.map U) (U a) S (by rw [lm_];omega)
    have hmm:(full++ [a]).map U=full.map U++ [U a]:=by simp
    simp only [go_sem,lp9_1,hq,gq,hi1,hi2,hlt,hgU,hl,g0,s0,pl,h55,h56,happ,hs,nn_,lm_,List.append_assoc]
    exact ⟨a,rfl,by rw [hmm],by rw [hmm]⟩
 ·have hd:al.drop i=[]:=List.drop_eq_nil_of_le (by omega)
  have hlt:((i:Int)<(al.length:Int))=False:=eF (by omega)
  rw [hd]
  simp only [go_sem,lp9_1,hlt]
  exact Or.inl rfl
attribute [local go_sem] m_ x_ l_ k_ o_ t_ a_ s_ q_ b_ c_ u_ g_ z00 zo zx z01 z41 z2o zg zk zm z9 zl z49
def cntF (al full:List Nat):Nat:=(al.filter fun v=> !full.any (bars v)).length
theorem zc3 {al full:List Nat} (h:nextF al full=none):al.foldl fillStep full=full:=by
 induction al with
 |nil=>rfl
 |cons x r ih=>
  unfold nextF at h ih
  rw [List.find?_cons] at h
  cases hx:full.any (bars x) with
  |true=>
   rw [hx] at h
   rw [List.foldl_cons,show fillStep full x=full by unfold fillStep;rw [hx,if_pos rfl]]
   exact ih h
  |false=>rw [hx] at h;cases h
theorem zdu {full:List Nat} {x:Nat} (v:Nat)(h:full.any (bars x)=true):(full++ [v]).any (bars x)=true:=by rw [List.any_append,h];rfl
theorem zey (v:Nat):bars v v=true:=by unfold bars;simp
theorem zb7: ∀(l full:List Nat),(∀x∈l,full.any (bars x)=true)→l.foldl fillStep full=full:=by
 intro l
 induction l with
 |nil=>intro full _;rfl
 |cons x r ih=>
  intro full h
  rw [List.foldl_cons,show fillStep full x=full by unfold fillStep;rw [h x (by simp),if_pos rfl]]
  exact ih full (fun y hy=>h y (by simp [hy]))
theorem zc2 {al full:List Nat} {v:Nat} (h:nextF al full=some v):
  al.foldl fillStep (full++ [v])=al.foldl fillStep full∧v∈al∧cntF al (full++ [v])+1≤cntF al full:=by
 have hpv:(!full.any (bars v))=true:=by unfold nextF at h;exact List.find?_some (p:=fun v=> !full.any (bars v)) h
 have hv:full.any (bars v)=false:=by simpa using hpv
 have hmem:v∈al:=by unfold nextF at h;exact List.mem_of_find?_eq_some h
 obtain ⟨pre,post,hal,hpre⟩: ∃pre post,al=pre++v::post∧∀x∈pre,full.any (bars x)=true:=by
  unfold nextF at h
  rw [List.find?_eq_some_iff_append] at h
  obtain ⟨_,l1,l2,h1,h2⟩:=h
  exact ⟨l1,l2,h1,fun x hx=>by have:=h2 x hx;simpa using this⟩
 have hvv:(full++ [v]).any (bars v)=true:=by rw [List.any_append,List.any_cons,zey];simp
 refine ⟨?_,hmem,?_⟩
 ·rw [hal,List.foldl_append,List.foldl_append,List.foldl_cons,List.foldl_cons,zb7 pre full hpre,zb7 pre (full++ [v]) (fun x hx=>zdu v (hpre x hx))]
  congr 1
  unfold fillStep
  rw [hvv,hv,if_pos rfl,if_neg (by simp)]
 ·have mono: ∀l:List Nat,cntF l (full++ [v])≤cntF l full:=by
   intro l
   unfold cntF
   induction l with
   |nil=>simp
   |cons x r ih=>
    rw [List.filter_cons,List.filter_cons]
    cases hx:full.any (bars x) with
    |true=>rw [zdu v hx];simp only [Bool.not_true,Bool.false_eq_true,if_false];exact ih
    |false=>
     cases (full++ [v]).any (bars x)<;>simp only [Bool.not_true,Bool.not_false,Bool.false_eq_true,if_false,if_true,List.length_cons]<;>omega
  have h1:=mono pre
  have h2:=mono post
  unfold cntF at*
  rw [hal,List.filter_append,List.filter_append,List.filter_cons,List.filter_cons,hvv,hv]
  simp only [Bool.not_true,Bool.not_false,Bool.false_eq_true,if_false,if_true,List.length_append,List.length_cons]
  omega
theorem zk2 (o:List AV):(oT o).length≤1:=by unfold oT locT;split<;>simp
theorem zkb (Bs:List (List AV))(hB:Num Bs)(lo q:Nat)(hl:Bs.length=lo)(al:List Nat)(ha: ∀s∈al,s<256)(hal:al.length≤128)(hq:Bs[q]? =some (al.map U))(hqlo:q<lo)(tgt:List Nat)(n:Nat)(F:List AV)(e7:Int)(g:Bool)(full:List Nat)(hok:(∀s∈full,s<256)∧full.length+cntF al full≤200∧al.foldl fillStep full=tgt∧(g=false→full=tgt))(env:Env)(st:St)
  (hg:gcAV true lo 0 (canon env [3,6,7,11,13,14]) st=([(3,J n),(6,sl 1 true F),(7,I e7),(11,.rsl q 0 al.length al.length 1 false),(13,oA (full.map U)),(14,B g)],⟨Bs,oT (full.map U)⟩)):
  ∃x_1 en s,lim (headed pure (run L) true [3,6,7,11,13,14] lp9_2 lo 0) env st=some (x_1,en,s)∧(x_1=.exit 2∧en.get 3=J n∧en.get 6=sl 1 true F∧en.get 7=I e7∧en.get 13=oA (tgt.map U)∧s=⟨Bs,oT (tgt.map U)⟩):=by
 refine z7 (α:=Bool×List Nat) (fun ⟨g,full⟩=>2*cntF al full+(if g=true then 1 else 0)) (fun ⟨g,full⟩=>(∀s∈full,s<256)∧full.length+cntF al full≤200∧al.foldl fillStep full=tgt∧(g=false→full=tgt)) (fun ⟨g,full⟩=>([(3,J n),(6,sl 1 true F),(7,I e7),(11,.rsl q 0 al.length al.length 1 false),(13,oA (full.map U)),(14,B g)],⟨Bs,oT (full.map U)⟩)) (fun ⟨g,full⟩ x_1 en s=>x_1=.exit 2∧en.get 3=J n∧en.get 6=sl 1 true F∧en.get 7=I e7∧en.get 13=oA (tgt.map U)∧s=⟨Bs,oT (tgt.map U)⟩) (fun ⟨g,full⟩ hok=> ?_) ⟨g,full⟩ hok env st hg
 simp only at hok
 obtain ⟨h1,hcnt,h3,h4⟩:=hok
 dsimp only at h1 hcnt h3 h4⊢
 have hq1:(q<lo)=True:=eT hqlo
 have pt0:=fun L=>z6a Bs L hl
 have ptB:Bs.take lo=Bs:=by rw [←hl];exact List.take_length
 cases g with
 |false=>
  have h4:=h4 rfl
  subst h4
  simp only [go_sem,lp9_2]
 |true=>
  obtain ⟨k,hk⟩: ∃k,(oT (full.map U)).length=k:=⟨_,rfl⟩
  have hren:=fun T acc=>zap (Nat.le_of_eq hk) T acc
  have htk:(oT (full.map U)).take k=oT (full.map U):=List.take_of_length_le (Nat.le_of_eq hk)
  simp only [go_sem,lp9_2,hl,hk]
  generalize hg:lim (headed pure (run L) true _ lp9_1 _ _) _ _=o
  obtain ⟨x,en,s,rfl,h2⟩: ∃x en s,o=some (x,en,s)∧_:=by rw [←hg];exact zie Bs hB lo q hl al ha hal hq hqlo full h1 (by omega) k (Nat.le_of_eq hk) n F e7 0 (by omega) _ _ (by simp only [go_sem,hq1,ptB,hren,htk,hB.calm.ok,hB.calm.ren,List.append_nil,List.map_nil,Int.natCast_zero]<;>rfl)
  clear hg
  rw [List.drop_zero] at h2
  obtain ⟨rfl,e3,e6,e7,e11,h2⟩:=h2
  rcases h2 with ⟨hn,e13,e14,rfl⟩ | ⟨v,hn,e13,e14,rfl⟩
  ·have hfin:=zc3 hn
   simp only [go_sem,lp9_2,e3,e6,e7,e11,e13,e14]
   refine ⟨(false,full),by simp only [go_sem,z3,z4,z5,e3,e6,e7,e11,e13,e14,hq1,pt0,ptB,z5x,z1j,List.take_zero,List.nil_append,hB.calm.ok,hB.calm.ren,hB.calm.okApp,hB.calm.renApp,List.append_nil,List.map_nil]<;>rfl,?_,?_,fun x en s hq=> ?_⟩
   ·dsimp only;exact ⟨h1,hcnt,h3,fun _=>by rw [←h3,hfin]⟩
   ·dsimp only;simp
   ·exact hq
  ·obtain ⟨hf1,hf2,hf3⟩:=zc2 hn
   simp only [go_sem,lp9_2,e3,e6,e7,e11,e13,e14]
   refine ⟨(true,full++ [v]),by simp only [go_sem,z3,z4,z5,e3,e6,e7,e11,e13,e14,hq1,pt0,ptB,z5x,z1j,List.take_zero,List.nil_append,hB.calm.ok,hB.calm.ren,hB.calm.okApp,hB.calm.renApp,List.append_nil,List.map_nil]<;>rfl,?_,?_,fun x en s hq=> ?_⟩
   ·dsimp only
    refine ⟨?_,by rw [List.length_append];simp;omega,by rw [hf1,h3],fun h=>by cases h⟩
    intro s hs
    rcases List.mem_append.1 hs with hs|hs
    ·exact h1 s hs
    ·rw [List.mem_singleton.1 hs];exact ha v hf2
   ·dsimp only;simp;omega
   ·exact hq
theorem zka (Bs:List (List AV))(hB:Num Bs)(lo q:Nat)(hl:Bs.length=lo)(al:List Nat)(ha: ∀s∈al,s<256)(hal:al.length≤128)(hq:Bs[q]? =some (al.map U))(hqlo:q<lo)(tgt:List Nat)(n:Nat)(F:List AV)(e7:Int)(g:Bool)(full:List Nat)(hok:(∀s∈full,s<256)∧full.length+cntF al full≤200∧al.foldl fillStep full=tgt∧(g=false→full=tgt))(env:Env)(st:St)
  (hg:gcAV true lo 1 (canon env [3,6,7,11,13,14]) st=([(3,J n),(6,sl 1 true F),(7,I e7),(11,.rsl q 0 al.length al.length 1 false),(13,oA (full.map U)),(14,B g)],⟨Bs,oT (full.map U)⟩)):
  ∃x_1 en s,lim (headed pure (run L) true [3,6,7,11,13,14] lp9_2 lo 1) env st=some (x_1,en,s)∧(x_1=.exit 2∧en.get 3=J n∧en.get 6=sl 1 true F∧en.get 7=I e7∧en.get 13=oA (tgt.map U)∧s=⟨Bs,oT (tgt.map U)⟩):=by
 refine z7 (α:=Bool×List Nat) (fun ⟨g,full⟩=>2*cntF al full+(if g=true then 1 else 0)) (fun ⟨g,full⟩=>(∀s∈full,s<256)∧full.length+cntF al full≤200∧al.foldl fillStep full=tgt∧(g=false→full=tgt)) (fun ⟨g,full⟩=>([(3,J n),(6,sl 1 true F),(7,I e7),(11,.rsl q 0 al.length al.length 1 false),(13,oA (full.map U)),(14,B g)],⟨Bs,oT (full.map U)⟩)) (fun ⟨g,full⟩ x_1 en s=>x_1=.exit 2∧en.get 3=J n∧en.get 6=sl 1 true F∧en.get 7=I e7∧en.get 13=oA (tgt.map U)∧s=⟨Bs,oT (tgt.map U)⟩) (fun ⟨g,full⟩ hok=> ?_) ⟨g,full⟩ hok env st hg
 simp only at hok
 obtain ⟨h1,hcnt,h3,h4⟩:=hok
 dsimp only at h1 hcnt h3 h4⊢
 have hq1:(q<lo)=True:=eT hqlo
 have pt0:=fun L=>z6a Bs L hl
 have ptB:Bs.take lo=Bs:=by rw [←hl];exact List.take_length
 have hr1:=fun (o:List AV) T acc=>zap (zk2 o) T acc
 have ht1:=fun (o:List AV)=>List.take_of_length_le (zk2 o)
 cases g with
 |false=>
  have h4:=h4 rfl
  subst h4
  simp only [go_sem,lp9_2]
 |true=>
  obtain ⟨k,hk⟩: ∃k,(oT (full.map U)).length=k:=⟨_,rfl⟩
  have hren:=fun T acc=>zap (Nat.le_of_eq hk) T acc
  have htk:(oT (full.map U)).take k=oT (full.map U):=List.take_of_length_le (Nat.le_of_eq hk)
  simp only [go_sem,lp9_2,hl,hk]
  generalize hg:lim (headed pure (run L) true _ lp9_1 _ _) _ _=o
  obtain ⟨x,en,s,rfl,h2⟩: ∃x en s,o=some (x,en,s)∧_:=by rw [←hg];exact zie Bs hB lo q hl al ha hal hq hqlo full h1 (by omega) k (Nat.le_of_eq hk) n F e7 0 (by omega) _ _ (by simp only [go_sem,hq1,ptB,hren,htk,hB.calm.ok,hB.calm.ren,List.append_nil,List.map_nil,Int.natCast_zero]<;>rfl)
  clear hg
  rw [List.drop_zero] at h2
  obtain ⟨rfl,e3,e6,e7,e11,h2⟩:=h2
  rcases h2 with ⟨hn,e13,e14,rfl⟩ | ⟨v,hn,e13,e14,rfl⟩
  ·have hfin:=zc3 hn
   simp only [go_sem,lp9_2,e3,e6,e7,e11,e13,e14]
   refine ⟨(false,full),by simp only [go_sem,z3,z4,z5,e3,e6,e7,e11,e13,e14,hq1,pt0,ptB,hr1,ht1,hB.calm.ok,hB.calm.ren,hB.calm.okApp,hB.calm.renApp,List.append_nil,List.map_nil]<;>rfl,?_,?_,fun x en s hq=> ?_⟩
   ·dsimp only;exact ⟨h1,hcnt,h3,fun _=>by rw [←h3,hfin]⟩
   ·dsimp only;simp
   ·exact hq
  ·obtain ⟨hf1,hf2,hf3⟩:=zc2 hn
   simp only [go_sem,lp9_2,e3,e6,e7,e11,e13,e14]
   refine ⟨(true,full++ [v]),by simp only [go_sem,z3,z4,z5,e3,e6,e7,e11,e13,e14,hq1,pt0,ptB,hr1,ht1,hB.calm.ok,hB.calm.ren,hB.calm.okApp,hB.calm.renApp,List.append_nil,List.map_nil]<;>rfl,?_,?_,fun x en s hq=> ?_⟩
   ·dsimp only
    refine ⟨?_,by rw [List.length_append];simp;omega,by rw [hf1,h3],fun h=>by cases h⟩
    intro s hs
    rcases List.mem_append.1 hs with hs|hs
    ·exact h1 s hs
    ·rw [List.mem_singleton.1 hs];exact ha v hf2
   ·dsimp only;simp;omega
   ·exact hq
theorem zj7 {n v:Nat} (h1:1≤n):v∈evs (2^(n-1)-1)↔v<2^n∧v≠0∧v.testBit 0=false:=by
 have hpn:2^n=2*2^(n-1):=by rw [show n=(n-1)+1 by omega,Nat.pow_succ];simp;omega
 unfold evs
 rw [List.mem_map,Nat.testBit_zero]
 constructor
 ·rintro ⟨i,hi,rfl⟩
  rw [List.mem_range] at hi
  refine ⟨by omega,by omega,?_⟩
  rw [decide_eq_false_iff_not];omega
 ·rintro ⟨h2,h3,h4⟩
  rw [decide_eq_false_iff_not] at h4
  exact ⟨v / 2-1,List.mem_range.2 (by omega),by omega⟩
theorem z99 (x:Nat): ∀(l full:List Nat),full.any (bars x)=true→(l.foldl fillStep full).any (bars x)=true
 | [],full,h=>h
 |v::r,full,h=>by
  rw [List.foldl_cons]
  refine z99 x r _ ?_
  unfold fillStep;split
  ·exact h
  ·exact zdu v h
theorem zg2: ∀(l full:List Nat),∀x∈l,(l.foldl fillStep full).any (bars x)=true
 | [],full,x,hx=>by cases hx
 |v::r,full,x,hx=>by
  rw [List.foldl_cons]
  rcases List.mem_cons.1 hx with rfl|hx
  ·refine z99 x r _ ?_
   unfold fillStep;split
   ·next h=>exact h
   ·rw [List.any_append,List.any_cons,zey];simp
  ·exact zg2 r _ x hx
theorem zg1 {n:Nat} (hn:n≤8): ∀(l full:List Nat),(∀v∈l,v<2^n∧v≠0∧v.testBit 0=false)→Lam n full→Lam n (l.foldl fillStep full)
 | [],full,_,h=>h
 |v::r,full,hl,h=>by
  rw [List.foldl_cons]
  refine zg1 hn r _ (fun x hx=>hl x (by simp [hx])) ?_
  obtain ⟨h1,h2,h3⟩:=hl v (by simp)
  have h8:v<256:=Nat.lt_of_lt_of_le h1 (Nat.pow_le_pow_right (n:=2) (by decide) hn)
  unfold fillStep;split
  ·exact h
  ·next hb=>
   have hb2: ∀o∈full,o≠v∧agN o v=true:=by
    intro o ho
    have hbo: ¬bars v o=true:=fun e=>hb (List.any_eq_true.2 ⟨o,ho,e⟩)
    unfold bars at hbo
    rw [Bool.or_eq_true,decide_eq_true_eq,not_or] at hbo
    refine ⟨hbo.1,?_⟩
    cases e:agN o v with
    |true=>rfl
    |false=>rw [e] at hbo;exact absurd rfl hbo.2
   have mem: ∀s,s∈full++ [v]→s∈full∨s=v:=fun s hs=>(List.mem_append.1 hs).imp id List.mem_singleton.1
   refine ⟨fun s hs=> ?_,fun s hs=> ?_,fun s hs=> ?_,?_,fun s hs t ht=> ?_⟩
   ·rcases mem s hs with e|rfl
    ·exact h.lt s e
    ·exact h1
   ·rcases mem s hs with e|rfl
    ·exact h.ne s e
    ·exact h2
   ·rcases mem s hs with e|rfl
    ·exact h.even s e
    ·exact h3
   ·rw [List.nodup_append]
    refine ⟨h.nd,by simp,fun a ha b hb'=> ?_⟩
    rw [List.mem_singleton.1 hb'];exact (hb2 a ha).1
   ·rcases mem s hs with e|rfl
    ·rcases mem t ht with f|rfl
     ·exact h.ag s e t f
     ·exact (hb2 s e).2
    ·rcases mem t ht with f|rfl
     ·rw [zdv];exact (hb2 t f).2
     ·exact zge h8
theorem zdj {a b:List Nat} (h:a.Perm b)(v:Nat):(fillStep a v).Perm (fillStep b v):=by
 have e:a.any (bars v)=b.any (bars v):=by
  rw [Bool.eq_iff_iff,List.any_eq_true,List.any_eq_true]
  exact ⟨fun ⟨x,hx,q⟩=>⟨x,h.mem_iff.1 hx,q⟩,fun ⟨x,hx,q⟩=>⟨x,h.mem_iff.2 hx,q⟩⟩
 unfold fillStep
 rw [e];split
 ·exact h
 ·exact h.append_right _
theorem zen: ∀(l a b:List Nat),a.Perm b→(l.foldl fillStep a).Perm (l.foldl fillStep b)
 | [],_,_,h=>h
 |v::r,a,b,h=>by
  rw [List.foldl_cons,List.foldl_cons]
  exact zen r _ _ (zdj h v)
theorem zj6 {n:Nat} (h2:2≤n)(hn:n≤8) {ss:List Nat} (h:Lam n ss):
  Lam n (fillL n ss)∧(fillL n ss).length+1=2*(n-1)∧(fillL n (srt ss)).Perm (fillL n ss):=by
 have hp:=z43 (zj8 hn)
 have hal: ∀v∈srt (evs (2^(n-1)-1)),v<2^n∧v≠0∧v.testBit 0=false:=fun v hv=>(zj7 (by omega)).1 (hp.mem_iff.1 hv)
 have hL:Lam n (fillL n ss):=zg1 hn _ _ hal h
 refine ⟨hL,zky hn hL (fun s hs h0 he hag=> ?_) h2,zen _ _ _ (z43 (fun s hs=>h.lt8 hn hs))⟩
 have hm:s∈srt (evs (2^(n-1)-1)):=hp.mem_iff.2 ((zj7 (by omega)).2 ⟨hs,h0,he⟩)
 have hb:=zg2 _ ss s hm
 obtain ⟨o,ho,hbo⟩:=List.any_eq_true.1 hb
 unfold bars at hbo
 rw [Bool.or_eq_true,decide_eq_true_eq] at hbo
 rcases hbo with rfl|hbo
 ·exact ho
 ·rw [zdv,hag o ho] at hbo;cases hbo
theorem zmc {n:Nat} {F:List Nat} (h:Lam n F):F.map (smlN n)=F:=by
 have:F.map (smlN n)=F.map id:=List.map_congr_left (fun s hs=>by unfold smlN;rw [if_neg (by rw [h.even s hs];simp)];rfl)
 rw [this,List.map_id]
theorem zis (L:List Nat)(n:Nat)(o:List Nat):(growN L n o).1.length=L.length:=by
 have key: ∀(o:List Nat) (UA:List Nat×List Nat),(o.foldl (stepI L) UA).1.length=UA.1.length:=by
  intro o
  induction o with
  |nil=>intro UA;rfl
  |cons i r ih=>intro UA;rw [List.foldl_cons,ih];exact (z9a i _ UA).1
 unfold growN
 rw [key];simp
attribute [local go_sem] m_ x_ l_ k_ o_ t_ a_ s_ q_ b_ c_ u_ g_ z00 zo zx z01 z41 z2o zg zk zm z9 zl z49
theorem numC (a g:Nat)(zs:List Nat)(m w:Nat):Num [cutC a g zs m w]:=by
 intro C hC
 rw [List.mem_singleton.1 hC]
 have key: ∀l:List AV,l.all (fun x=>match x with| .v _=>true|_=>false)=true→∃xs:List Value,l=xs.map AV.v:=by
  intro l
  induction l with
  |nil=>intro _;exact ⟨[],rfl⟩
  |cons x r ih=>
   intro h
   rw [List.all_cons,Bool.and_eq_true] at h
   obtain ⟨xs,e⟩:=ih h.2
   cases x with
   |v y=>exact ⟨y::xs,by rw [e];rfl⟩
   |_=>simp at h
 refine key _ ?_
 simp only [cutC,List.all_cons,List.all_append,List.all_map,List.all_nil,Bool.and_true,Bool.true_and]
 rw [List.all_eq_true];intro x _;rfl
theorem zmr (n:Nat)(X:List AV):keepR n 0 ⟨[],oT X⟩ (oA X)=oA X:=by
 unfold oA oT loc locT
 split
 ·rfl
 ·simp [keepR,ownTop]
theorem zmq (X:List AV):keepT ⟨[],oT X⟩ (oA X)=oT X:=by
 unfold oA oT loc locT
 split
 ·rfl
 ·simp [keepT,ownTop]
theorem c9 (a g:Nat)(ha:a<256)(zs:List Nat)(hz:zs.length=13)(hzs: ∀z∈zs,z<256)(m w:Nat)(hm:m<256):
  run L 9 [cutAV a g zs m w] ⟨[],[]⟩=some (B true,⟨[],[]⟩):=by
 rw [run_pure (fn:=ir9) rfl rfl]
 have hd:=Nat.mod_lt a (show 0<7 by decide)
 have h38:=fun st=>c38 a g ha zs hz hzs m w hm 8 7 (.inr (.inr ⟨rfl,rfl⟩)) st
 have hmk:=zmd (n:=2+a % 7) (by omega) g zs (m % 14)
 have hm14:m % 14≤13:=by omega
 generalize hn:2+a % 7=n at*
 have hn2:2≤n∧n≤8:=by omega
 have h2n:2^n≤256:=Nat.pow_le_pow_right (n:=2) (by decide) hn2.2
 obtain ⟨hS,hSl⟩:=hmk
 generalize madeS n g zs (m % 14)=ss at*
 have hun:cutAV a g zs m w=.agg (cutC a g zs m w):=rfl
 have hl17:(cutC a g zs m w).length=17:=lenC a g zs hz m w
 have htk:(cutC a g zs m w).take 17=cutC a g zs m w:=List.take_of_length_le (by omega)
 have h256: ∀s∈ss,s<256:=fun s h=>Nat.lt_of_lt_of_le (hS.lt s h) h2n
 have h39: ∀st,run L 39 [.agg (cutC a g zs m w),J n,sl 1 true (ss.map U)] st=some (sl 1 true ((toldL n w 0 ss).map tM),st):=fun st=>c39 n (by omega) a g zs hz m w true ss h256 (by omega) st
 have hsm:=zfn (n:=n) (by omega) w 0 ss hS.even
 have hgd:=zdz (n:=n) (by omega) w 0 ss (fun s h=>⟨hS.lt s h,hS.ne s h,hS.even s h⟩)
 have hLl:=zfo n w 0 ss
 have h38: ∀st,run L 38 [.agg (cutC a g zs m w),I 8] st=some (.tup [J n,sl 1 true (ss.map U)],st):=h38
 have hnd:((toldL n w 0 ss).map (smlN n)).Nodup:=by rw [hsm];exact hS.nd
 have hl13:(toldL n w 0 ss).length≤13:=by rw [hLl];omega
 have h20:=fun hc st=>c20 n hn2.1 hn2.2 true (toldL n w 0 ss) hgd hnd hl13 hc st
 have h20n:=fun hc st=>c20n n hn2.1 hn2.2 true (toldL n w 0 ss) hgd hnd hl13 hc st
 have h49:=fun st=>c49 true ss h256 (by omega) st
 rw [hsm] at h20 h20n
 generalize toldL n w 0 ss=LL at*
 have hC1:=fun k=>z2e k a g zs m w
 have hC2:=fun k T acc=>z0b k T acc a g zs m w
 cases hc:clP ss 0 with
 |some p=>
  obtain ⟨x,y⟩:=p
  have h20:=h20n (by rw [hc];simp)
  rw [hc] at h49
  rw [show clA (some (x,y))=.tup [J x,J y,B true] from rfl] at h49
  simp only [ir9,hun,go_sem,z2e,z0b,zjx,z8p,hl17,htk,h38,h39,h49,h20,c15]
 |none=>
  have h20:=h20 hc
  rw [hc] at h49
  rw [show clA none=.tup [I 0,I 0,B false] from rfl] at h49
  obtain ⟨hF,hFl,hFp⟩:=zj6 hn2.1 hn2.2 (hS.lam hn2.2 hc)
  have hF8: ∀s∈fillL n ss,s<256:=fun s hs=>hF.lt8 hn2.2 hs
  rw [zhi hF8 hFp] at h20
  have hFs:=hF.srt hn2.2
  have hsl:=z5k hF8
  have hsF:=zmc hFs
  have hcF:clP (srt (fillL n ss)) 0=none:=(zdq _ 0).2 (List.pairwise_iff_getElem.2 fun i j hi hj _=>hFs.ag _ (List.getElem_mem hi) _ (List.getElem_mem hj))
  have h26:=fun st=>c26 n hn2.1 hn2.2 true (srt (fillL n ss)) (fun v hv=>⟨hFs.lt v hv,hFs.ne v hv,fun e=>by
    have:=hFs.even v hv
    rw [e,zab] at this
    simp at this;omega⟩) (by rw [hsF];exact hFs.nd) (by omega) (by rw [hsF];exact hcF) st
  rw [hsF] at h26
  have hUl:=zis (srt (srt (fillL n ss))) n (ordG (srt (srt (fillL n ss))))
  rw [z5k (zbs _),hsl] at hUl
  generalize growN (srt (srt (fillL n ss))) n (ordG (srt (srt (fillL n ss))))=UW at*
  obtain ⟨Us,W⟩:=UW
  dsimp only at hUl
  have hut:treeA (Us,W)=.agg [sl 1 false (Us.map J),sl 1 false (W.map J)]:=rfl
  rw [hut] at h26
  have h51: ∀st,run L 51 [oA ((fillL n ss).map U)] st=some (sl 1 true ((srt (fillL n ss)).map tM),st):=fun st=>by
   rw [←c51 true (fillL n ss) hF8 (by omega) st]
   exact zd1 (fn:=ir51) rfl rfl st (by simp only [pubs,z2o,z5y])
  have h23:=fun st=>c23M true true (srt (fillL n ss)) (srt (fillL n ss)) (by omega) st
  rw [decide_eq_true rfl] at h23
  simp only [ir9,hun,go_sem,z2e,z0b,zjx,z8p,hl17,htk,h38,h39,h49,h20]
  have hA:=numC a g zs m w
  generalize hAA: [cutC a g zs m w]=A at*
  have hp:A.length=1:=by rw [←hAA];rfl
  have ptA:A.take 1=A:=by rw [←hp];exact List.take_length
  have hk0:kU 1 []=.v (.slice none 0 0):=rfl
  have hkS0:kUS []=[]:=rfl
  generalize hg:lim (headed pure (run L) true _ lp9_0 _ _) _ _=o
  obtain ⟨x,en,s,rfl,h2⟩: ∃x en s,o=some (x,en,s)∧_:=by rw [←hg];exact zme A hA 1 hp (ss.map U) ((srt (fillL n ss)).map tM) 0 n (by omega) hn2.2 0 [] ⟨by omega,rfl⟩ _ _ (by simp only [go_sem,hp,hk0,hkS0,ptA,hA.refs,hA.maps,hA.calm.ok,hA.calm.ren,List.append_nil,compact,compactW,refsEnv,refsV,refsL,refsStore,refsAt,mapEnv,mapL,mapLs,newName,posOf,mapStore,pickStore,namesOk,zy,z05,zhz,zia,List.contains_nil,List.contains_cons,Option.getD_some,hasKey]<;>rfl)
  clear hg
  obtain ⟨rfl,e3,e4,e6,e7,e11,rfl⟩:=h2
  have hm1:2≤2^(n-1):=Nat.pow_le_pow_right (n:=2) (by decide) (by omega:1≤n-1)
  have hm2:2^(n-1)≤128:=Nat.pow_le_pow_right (n:=2) (by decide) (by omega:n-1≤7)
  have hev:=zj8 hn2.2
  have hel:=zdk (2^(n-1)-1)
  have hfd:fillL n ss=(srt (evs (2^(n-1)-1))).foldl fillStep ss:=rfl
  generalize hev0:evs (2^(n-1)-1)=al at*
  have hane:al≠[]:=by intro e;rw [e] at hel;simp at hel;omega
  rw [zmt hane] at e11
  rw [zik hane]
  obtain ⟨X2,hX2,h52⟩:=c52 (A++ [[]]) [] 1 (by rw [List.length_append,hp];simp) false al hev (by omega)
  rw [z40 A _ hp,z40 A _ hp,List.set_cons_zero,List.set_cons_zero,List.append_assoc] at h52
  simp only [List.cons_append,List.nil_append] at h52
  have hsl2:=z5k hev
  have hs8:=zbs al
  have h54:=c54 ss (by omega)
  have hk1:=fun k=>zmr k (ss.map U)
  have hk2:=zmq (ss.map U)
  have hk3:=hk1
  have hk4:=hk2
  simp only [keepR,keepT,ownTop] at hk1 hk2
  simp only [keepR,keepT,ownTop,Bool.and_eq_true] at hk3 hk4
  simp only [go_sem,e3,e4,e6,e7,e11,h52,h54,show pure 54=false from rfl,shStore,hk1,hk2,hk3,hk4,List.append_nil]
  simp only [←hsl2]
  rw [←hsl2] at e11
  have h128:(srt al).length≤128:=by omega
  have hB:Num (A++(srt al).map U::X2):=hA.app ((Num.oneU _).app hX2.num)
  have hBq:(A++(srt al).map U::X2)[1]? =some ((srt al).map U):=by rw [z1n A _ hp];rfl
  obtain ⟨lo,hlo⟩: ∃lo,(A++(srt al).map U::X2).length=lo:=⟨_,rfl⟩
  have hplo:1<lo:=by rw [←hlo,z8g A _ hp];simp
  rw [hlo]
  generalize A++(srt al).map U::X2=Bs at*
  generalize srt al=bl at*
  have hcnt:cntF bl ss≤bl.length:=List.length_filter_le _ _
  have hq1:(1<lo)=True:=eT hplo
  have ptB:Bs.take lo=Bs:=by rw [←hlo];exact List.take_length
  have g0:=fun L=>z1n Bs L hlo
  have s0:=fun L v=>z40 Bs L hlo v
  have pl:=fun L=>z8g Bs L hlo
  have hlF:=len_o ((fillL n ss).map U)
  have hlU:=zaz J false Us
  have hmul:IntKind.i64.wrap (2*(n:Int))=((2*n:Nat):Int):=by rw [zu]<;>omega
  have hsub:IntKind.i64.wrap (((2*n:Nat):Int)-3)=((fillL n ss).length:Int):=by rw [zu]<;>omega
  have qq:(((fillL n ss).length:Int)=((fillL n ss).length:Int))=True:=eT rfl
  have hcB: ∀b:Bool,(true&&b)=b:=fun b=>rfl
  by_cases hse:ss=[]
  ·have hT:(oT (ss.map U)).length=0:=by rw [hse];rfl
   rw [hT]
   generalize hg:lim (headed pure (run L) true _ lp9_2 _ _) _ _=o
   obtain ⟨x,en,s,rfl,h2⟩: ∃x en s,o=some (x,en,s)∧_:=by rw [←hg];exact zkb Bs hB lo 1 hlo bl hs8 h128 hBq hplo (fillL n ss) n ((srt (fillL n ss)).map tM) 0 true ss ⟨h256,by omega,hfd.symm,fun h=>by cases h⟩ _ _ (by simp only [go_sem,e3,e6,e7,e11,hq1,ptB,z5x,z1j,List.take_zero,List.nil_append,hB.calm.ok,hB.calm.ren,List.append_nil,List.map_nil]<;>rfl)
   clear hg
   obtain ⟨rfl,e3,e6,e7,e13,rfl⟩:=h2
   simp only [go_sem,e3,e6,e7,e13,h26,hlo,g0,s0,pl,hlF,hmul,hsub,qq,h51,h23,hlU,hUl,c15,lm_,hcB]
  ·have hT:(oT (ss.map U)).length=1:=by
    unfold oT locT
    rw [if_neg (by rw [lm_];intro e;exact hse (List.eq_nil_of_length_eq_zero e))];rfl
   have hr1:=fun (o:List AV) T acc=>zap (zk2 o) T acc
   have ht1:=fun (o:List AV)=>List.take_of_length_le (zk2 o)
   rw [hT]
   generalize hg:lim (headed pure (run L) true _ lp9_2 _ _) _ _=o
   obtain ⟨x,en,s,rfl,h2⟩: ∃x en s,o=some (x,en,s)∧_:=by rw [←hg];exact zka Bs hB lo 1 hlo bl hs8 h128 hBq hplo (fillL n ss) n ((srt (fillL n ss)).map tM) 0 true ss ⟨h256,by omega,hfd.symm,fun h=>by cases h⟩ _ _ (by simp only [go_sem,e3,e6,e7,e11,hq1,ptB,hr1,ht1,hB.calm.ok,hB.calm.ren,List.append_nil,List.map_nil]<;>rfl)
   clear hg
   obtain ⟨rfl,e3,e6,e7,e13,rfl⟩:=h2
   simp only [go_sem,e3,e6,e7,e13,h26,hlo,g0,s0,pl,hlF,hmul,hsub,qq,h51,h23,hlU,hUl,c15,lm_,hcB]
end Go.Proofs.YtdnmhlfjafjkbaaGreatDoor.Vm
