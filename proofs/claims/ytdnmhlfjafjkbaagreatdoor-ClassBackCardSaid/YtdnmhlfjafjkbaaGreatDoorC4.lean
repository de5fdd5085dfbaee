/- What is proved: what each function of this program computes, as equations on the evaluator. No condition. -/
import Derived.Test.YtdnmhlfjafjkbaaGreatDoorC3
import Derived.KernelRfl
import Derived.Test.YtdnmhlfjafjkbaaGreatDoorT0
set_option linter.all false
namespace Go.Proofs.YtdnmhlfjafjkbaaGreatDoor.Vm
open Go Go.Ev Go.Sort
set_option maxRecDepth 100000
set_option maxHeartbeats 4000000
theorem z8w {α:Type} (A L:List α) {p:Nat} (hp:A.length=p)(k:Nat):(A++L)[p+k]? =L[k]? :=by
 subst hp;rw [List.getElem?_append_right (by omega)];simp
theorem z7z {α:Type} (A L:List α) {p:Nat} (hp:A.length=p):(A++L)[p]? =L[0]? :=z8w A L hp 0
theorem zam {α:Type} (A L:List α) {p:Nat} (hp:A.length=p)(k:Nat)(v:α):(A++L).set (p+k) v=A++L.set k v:=by
 subst hp;rw [List.set_append_right _ _ (by omega)];simp
theorem za7 {α:Type} (A L:List α) {p:Nat} (hp:A.length=p)(v:α):(A++L).set p v=A++L.set 0 v:=zam A L hp 0 v
theorem zan {α:Type} (A L:List α) {p:Nat} (hp:A.length=p):(A++L).length=p+L.length:=by rw [List.length_append,hp]
theorem ze2 {α:Type} (A L:List α) {p:Nat} (hp:A.length=p)(k:Nat):(A++L).take (p+k)=A++L.take k:=by
 subst hp;rw [List.take_append,List.take_of_length_le (by omega),Nat.add_sub_cancel_left]
structure Calm (A:List (List AV)):Prop where
 ok: ∀n,okStore n A=true
 ren: ∀n T acc,renStore n T acc A=(A,acc)
theorem Calm.okApp {A:List (List AV)} (h:Calm A)(n:Nat)(L:List (List AV)):okStore n (A++L)=okStore n L:=by
 have key: ∀(B:List (List AV)),okStore n (B++L)=(okStore n B&&okStore n L):=by
  intro B
  induction B with
  |nil=>rfl
  |cons b r ih=>simp only [List.cons_append,okStore,ih,Bool.and_assoc]
 rw [key,h.ok,Bool.true_and]
theorem Calm.renApp {A:List (List AV)} (h:Calm A)(n:Nat)(T:List Nat)(acc:List (Nat×Nat))(L:List (List AV)):renStore n T acc (A++L)=(A++(renStore n T acc L).1,(renStore n T acc L).2):=by
 have key: ∀(B:List (List AV)) (acc:List (Nat×Nat)),renStore n T acc (B++L)=((renStore n T acc B).1++(renStore n T (renStore n T acc B).2 L).1,(renStore n T (renStore n T acc B).2 L).2):=by
  intro B
  induction B with
  |nil=>intro acc;rfl
  |cons b r ih=>intro acc;simp only [List.cons_append,renStore,ih]
 rw [key,h.ren]
theorem PL.calm {X:List (List AV)} (h:PL X):Calm X:=⟨zpm h,zl7 h⟩
theorem Calm.cons {A:List (List AV)} (h:Calm A) {C:List AV} (QH: ∀n,okRefs n C=true)(QI: ∀n T acc,renCells n T acc C=(C,acc)):Calm (C::A):=
 ⟨fun n=>by simp only [okStore,QH,h.ok,Bool.and_self],fun n T acc=>by simp only [renStore,QI,h.ren]⟩
theorem stb0 (st0:St)(R C:AV)(n:Nat)(hn:n<20)(lo hi:Nat)(i:Nat)(hok:i=20)(env:Env)(st:St)
  (hg:gcAV false lo hi (canon env [0,1,2,6,7,8]) st=([(0,R),(1,J n),(2,C),(6,I 20),(7,I 0),(8,J i)],st0)):
  ∃x_1 en s,lim (headed pure (run L) false [0,1,2,6,7,8] lp132_0 lo hi) env st=some (x_1,en,s)∧(x_1=.exit 0∧s=st0∧en.get 0=R∧en.get 1=J n∧en.get 2=C∧en.get 6=I 20∧en.get 7=I 0):=by
 refine z8 (α:=Nat) (fun i=>i) (fun i=>i=20) (fun i=>([(0,R),(1,J n),(2,C),(6,I 20),(7,I 0),(8,J i)],st0)) (fun i x_1 en s=>x_1=.exit 0∧s=st0∧en.get 0=R∧en.get 1=J n∧en.get 2=C∧en.get 6=I 20∧en.get 7=I 0) (fun i hok=> ?_) i hok env st hg
 subst hok
 have hlt:((20:Int)≤(n:Int))=False:=eF (by omega)
 simp only [go_sem,lp132_0,hlt]
theorem stb2 (st0:St)(R C:AV)(n:Nat)(hn:n<20)(lo hi:Nat)(i:Nat)(hok:i=20)(env:Env)(st:St)
  (hg:gcAV false lo hi (canon env [0,1,2,6]) st=([(0,R),(1,J n),(2,C),(6,J i)],st0)):
  ∃x_1 en s,lim (headed pure (run L) false [0,1,2,6] lp132_2 lo hi) env st=some (x_1,en,s)∧(x_1=.exit 2∧s=st0):=by
 refine z8 (α:=Nat) (fun i=>i) (fun i=>i=20) (fun i=>([(0,R),(1,J n),(2,C),(6,J i)],st0)) (fun i x_1 en s=>x_1=.exit 2∧s=st0) (fun i hok=> ?_) i hok env st hg
 subst hok
 have hlt:((20:Int)<(n:Int))=False:=eF (by omega)
 simp only [go_sem,lp132_2,hlt]
theorem c91 (m:Nat) [NeZero m] (S0:List (List AV))(T:List Nat)(l:Nat)(hl:l<S0.length)(hm:m<20)(ag:Bool)(k:Nat)(hk:pure k=false)(caps:List AV)(c:Fin m→Fin m→Int)(lt:Fin m→Fin m→Bool)(hlt: ∀x y,lt x y=decide (c x y<0))(hc: ∀x y X E,run L k (fK x::fK y::caps) ⟨put S0 l X E,T⟩=some (I (c x y),⟨put S0 l X E,T⟩))(d:Array (Fin m))(hsz:d.size=m):
  run L 91 [.rsl l 0 m m 1 ag,.fn (.func k) [] caps] ⟨put S0 l (Dm fK d) [],T⟩=some (.tup [],⟨put S0 l (Dm fK (insertionSort lt d 0 m)) [],T⟩):=by
 have Og:run L 171 [.rsl l 0 m m 1 ag,I 0,J m,.fn (.func k) [] caps] ⟨put S0 l (Dm fK d) [],T⟩=some (.tup [],⟨put S0 l (Dm fK (insertionSort lt d 0 m)) [],T⟩):=
  insk m S0 T l hl m (by omega) ag k hk caps c lt hlt hc [] 0 m (by omega) (Nat.le_refl _) d hsz
 have Oh:run L 132 [.rsl l 0 m m 1 ag,J m,.fn (.func k) [] caps] ⟨put S0 l (Dm fK d) [],T⟩=some (.tup [],⟨put S0 l (Dm fK (insertionSort lt d 0 m)) [],T⟩):=by
  rw [z6 (fn:=ir132) rfl rfl]
  simp only [ir132,go_sem]
  generalize hg:lim (headed pure (run L) false _ lp132_0 _ _) _ _=o
  obtain ⟨x,en,s,rfl,h2⟩: ∃x en s,o=some (x,en,s)∧_:=by rw [←hg];exact stb0 _ (.rsl l 0 m m 1 ag) (.fn (.func k) [] caps) m hm _ _ 20 rfl _ _ (by simp only [go_sem]<;>rfl)
  clear hg
  obtain ⟨rfl,rfl,e0,e1,e2,e6,e7⟩:=h2
  simp only [go_sem,e0,e1,e2,e6,e7,Og]
  generalize hg:lim (headed pure (run L) false _ lp132_2 _ _) _ _=o
  obtain ⟨x,en,s,rfl,h2⟩: ∃x en s,o=some (x,en,s)∧_:=by rw [←hg];exact stb2 _ (.rsl l 0 m m 1 ag) (.fn (.func k) [] caps) m hm _ _ 20 rfl _ _ (by simp only [go_sem,e0,e1,e2,e6,e7]<;>rfl)
  clear hg
  obtain ⟨rfl,rfl⟩:=h2
  simp only [go_sem]
 rw [z6 (fn:=ir91) rfl rfl]
 simp only [ir91,go_sem,Oh]
def stepA (i:Nat) (UA:List Nat×List Nat) (a:Int):List Nat×List Nat:=(UA.1.set i (UA.2.getD a.toNat 0),UA.2.set a.toNat (i+1))
def stepI (L:List Nat) (UA:List Nat×List Nat) (i:Nat):List Nat×List Nat:=(memb (L.getD i 0)).foldl (stepA i) UA
def growN (L:List Nat) (n:Nat) (order:List Nat):List Nat×List Nat:=order.foldl (stepI L) (List.replicate L.length 0,List.replicate n 0)
theorem zix (i:Nat)(UA:List Nat×List Nat)(a:Int):(stepA i UA a).1.length=UA.1.length∧(stepA i UA a).2.length=UA.2.length:=by
 unfold stepA;simp
theorem z9t (i:Nat): ∀(l:List Int) (UA:List Nat×List Nat),(l.foldl (stepA i) UA).1.length=UA.1.length∧(l.foldl (stepA i) UA).2.length=UA.2.length
 | [],UA=>⟨rfl,rfl⟩
 |a::r,UA=>by
  rw [List.foldl_cons]
  have h1:=z9t i r (stepA i UA a)
  have h2:=zix i UA a
  exact ⟨h1.1.trans h2.1,h1.2.trans h2.2⟩
theorem getJ (o:List Nat)(a:Nat)(h:a<o.length):(o.map J)[a]? =some (J (o.getD a 0)):=by
 rw [getm J o 0 a,if_pos h]
theorem z4q (n:Nat)(xs:List Nat):okRefs n (xs.map J)=true:=z63 J n (fun _=>rfl) xs
theorem z12 (n:Nat)(tips:List Nat)(acc:List (Nat×Nat))(xs:List Nat):renCells n tips acc (xs.map J)=(xs.map J,acc):=z3z J n tips (fun _ _=>rfl) xs acc
theorem setJ (xs:List Nat)(i v:Nat):(xs.map J).set i (J v)=(xs.set i v).map J:=by rw [List.map_set]
def isP (l:Nat):AV→Bool
 | .ptr l' _=>l'==l
 |_=>false
def notP (l:Nat):AV→Bool
 | .ptr l' _=>l' !=l
 |_=>true
theorem onB1 (env:Env)(t:Tmp)(l o:Nat):onB env [t] (.ptr l o)=isP l (env.get t):=by
 show ([t].any fun t=>match env.get t with| .ptr l' _=>l'==l|_=>false)=_
 rw [List.any_cons,List.any_nil,Bool.or_false];rfl
theorem onB_e (env:Env)(ts:List Tmp)(e:AV)(o:Nat):onB env ts (.eptr e o)=true:=rfl
theorem offB1 (env:Env)(t:Tmp)(l o:Nat):offB env [t] (.ptr l o)=notP l (env.get t):=by
 show ([t].all fun t=>match env.get t with| .ptr l' _=>l' !=l|_=>true)=_
 rw [List.all_cons,List.all_nil,Bool.and_true];rfl
theorem zp1 (l l' o:Nat):isP l (.ptr l' o)=(l'==l):=rfl
theorem zlx (l l' o:Nat):notP l (.ptr l' o)=(l' !=l):=rfl
theorem zma (A:List (List AV))(hA:Calm A)(p:Nat)(hp:A.length=p)(Qw:2≤p)(m n:Nat)(hm:m≤13)(hn:n≤8)(D:List AV)(O7:okRefs (p+5) D=true)(O8: ∀n T acc,renCells n T acc D=(D,acc))(o:List Nat)(ho:o.length=m)(j i:Nat)(hi:i<m)(l:List Int)(hlr: ∀a∈l,0≤a∧a<(n:Int))(KI:l.length≤9)(q:Nat)(U:List Nat)(W:List Nat)(hok:q≤l.length∧U.length=m∧W.length=n)(env:Env)(st:St)
  (hg:gcAV true (p+5) 0 (canon env [4,6,10,12,47,48,49,57,58,59]) st=([(4,.ptr 0 0),(6,.ptr p 0),(10,.ptr (p+4) 0),(12,J i),(47,.rsl (p+1) 0 m m 1 false),(48,J m),(49,J j),(57,tAV l),(58,J l.length),(59,J q)],⟨A++ [D,o.map J,U.map J,W.map J,[.rsl (p+2) 0 m m 1 false,.rsl (p+3) 0 n n 1 false]],[]⟩)):
  ∃x_1 en s,lim (headed pure (run L) true [4,6,10,12,47,48,49,57,58,59] lp26_1 (p+5) 0) env st=some (x_1,en,s)∧(x_1=.exit 4∧en.get 4=.ptr 0 0∧en.get 6=.ptr p 0∧en.get 10=.ptr (p+4) 0∧en.get 47=.rsl (p+1) 0 m m 1 false∧en.get 48=J m∧en.get 49=J j∧s=⟨A++ [D,o.map J,((l.drop q).foldl (stepA i) (U,W)).1.map J,((l.drop q).foldl (stepA i) (U,W)).2.map J,[.rsl (p+2) 0 m m 1 false,.rsl (p+3) 0 n n 1 false]],[]⟩):=by
 refine z8 (α:=Nat×List Nat×List Nat) (fun ⟨q,U,W⟩=>l.length-q) (fun ⟨q,U,W⟩=>q≤l.length∧U.length=m∧W.length=n) (fun ⟨q,U,W⟩=>([(4,.ptr 0 0),(6,.ptr p 0),(10,.ptr (p+4) 0),(12,J i),(47,.rsl (p+1) 0 m m 1 false),(48,J m),(49,J j),(57,tAV l),(58,J l.length),(59,J q)],⟨A++ [D,o.map J,U.map J,W.map J,[.rsl (p+2) 0 m m 1 false,.rsl (p+3) 0 n n 1 false]],[]⟩)) (fun ⟨q,U,W⟩ x_1 en s=>x_1=.exit 4∧en.get 4=.ptr 0 0∧en.get 6=.ptr p 0∧en.get 10=.ptr (p+4) 0∧en.get 47=.rsl (p+1) 0 m m 1 false∧en.get 48=J m∧en.get 49=J j∧s=⟨A++ [D,o.map J,((l.drop q).foldl (stepA i) (U,W)).1.map J,((l.drop q).foldl (stepA i) (U,W)).2.map J,[.rsl (p+2) 0 m m 1 false,.rsl (p+3) 0 n n 1 false]],[]⟩) (fun ⟨q,U,W⟩ hok=> ?_) ⟨q,U,W⟩ hok env st hg
 simp only at hok
 obtain ⟨h1,hU,hW⟩:=hok
 dsimp only at h1 hU hW⊢
 by_cases h:q<l.length
 ·have hs:=za q (by omega)
  have hlt:((q:Int)<(l.length:Int))=True:=eT (by omega)
  have hx:indexSAV 1 (tAV l) (.v (.int .i64 (q:Int)))=some (.eptr (I l[q]) 0):=z10 true l q h
  have hd:l.drop q=l[q]::l.drop (q+1):=List.drop_eq_getElem_cons h
  have hb:=hlr l[q] (List.getElem_mem h)
  rw [hd,List.foldl_cons]
  generalize l[q]=a at*
  obtain ⟨a,rfl⟩:=Int.eq_ofNat_of_zero_le hb.1
  have O9:stepA i (U,W) (a:Int)=(U.set i (W.getD a 0),W.set a (i+1)):=by unfold stepA;rw [Int.toNat_natCast]
  rw [O9]
  have b1:((a:Int)<(n:Int))=True:=eT (by omega)
  have b2:(a+1≤n)=True:=eT (by omega)
  have b3:((i:Int)<(m:Int))=True:=eT (by omega)
  have b4:(i+1≤m)=True:=eT (by omega)
  have hg:=getJ W a (by omega)
  have hi1:=za i (by omega)
  have g:=fun L k=>z8w A L hp k
  have s':=fun L k v=>zam A L hp k v
  have hu:=setJ U i (W.getD a 0)
  have hw:=setJ W a (i+1)
  have Ka:(U.map J).length=m:=by rw [lm_,hU]
  have hWl:(W.map J).length=n:=by rw [lm_,hW]
  generalize W.getD a 0=v at*
  have n3:(p+4==p+2)=false:=by simp
  have n4:(p+4==p+3)=false:=by simp
  have pt:=fun L k=>ze2 A L hp k
  have l0:(0<p+5)=True:=eT (by omega)
  have l1:(p<p+5)=True:=eT (by omega)
  have l2:(p+1<p+5)=True:=eT (by omega)
  have l3:(p+2<p+5)=True:=eT (by omega)
  have l4:(p+3<p+5)=True:=eT (by omega)
  have l5:(p+4<p+5)=True:=eT (by omega)
  simp only [go_sem,lp26_1,hlt,hx,hs,b1,b2,b3,b4,hg,hi1,g,s',Ka,hWl,hu,hw,onB1,onB_e,offB1,zp1,zlx,n3,n4,nn_,hU,hW,lm_]
  refine ⟨(q+1,U.set i v,W.set a (i+1)),by simp only [go_sem,z3,z4,z5,hA.okApp,hA.renApp,pt,z4q,z12,O7,O8,z8u,l0,l1,l2,l3,l4,l5]<;>rfl,?_,?_,fun x en s hq=> ?_⟩
  ·dsimp only;exact ⟨by omega,by rw [List.length_set,hU],by rw [List.length_set,hW]⟩
  ·dsimp only;omega
  ·exact hq
 ·have hd:l.drop q=[]:=List.drop_eq_nil_of_le (by omega)
  have hlt:((q:Int)<(l.length:Int))=False:=eF (by omega)
  rw [hd]
  simp only [go_sem,lp26_1,hlt]
  rfl
theorem ziw (L:List Nat)(UA:List Nat×List Nat)(i:Nat):(stepI L UA i).1.length=UA.1.length∧(stepI L UA i).2.length=UA.2.length:=z9t i _ UA
theorem zm9 (A:List (List AV))(hA:Calm A)(p:Nat)(hp:A.length=p)(Qw:2≤p)(ss:List Nat)(QN: ∀L,(A++L)[1]? =some (ss.map u8))(n:Nat)(hm:ss.length≤13)(hn:n≤8)(VV: ∀s∈ss,s<2^n)(od:List Nat)(ho:od.length=ss.length)(Oi: ∀x∈od,x<ss.length)(j:Nat)(U:List Nat)(W:List Nat)(hok:j≤od.length∧U.length=ss.length∧W.length=n)(env:Env)(st:St)
  (hg:gcAV true (p+5) 0 (canon env [4,6,10,47,48,49]) st=([(4,.ptr 0 0),(6,.ptr p 0),(10,.ptr (p+4) 0),(47,.rsl (p+1) 0 ss.length ss.length 1 false),(48,J ss.length),(49,J j)],⟨A++ [[.rsl 1 0 ss.length ss.length 1 true],od.map J,U.map J,W.map J,[.rsl (p+2) 0 ss.length ss.length 1 false,.rsl (p+3) 0 n n 1 false]],[]⟩)):
  ∃x_1 en s,lim (headed pure (run L) true [4,6,10,47,48,49] lp26_2 (p+5) 0) env st=some (x_1,en,s)∧(x_1=.exit 2∧en.get 4=.ptr 0 0∧en.get 10=.ptr (p+4) 0∧s=⟨A++ [[.rsl 1 0 ss.length ss.length 1 true],od.map J,((od.drop j).foldl (stepI ss) (U,W)).1.map J,((od.drop j).foldl (stepI ss) (U,W)).2.map J,[.rsl (p+2) 0 ss.length ss.length 1 false,.rsl (p+3) 0 n n 1 false]],[]⟩):=by
 refine z8 (α:=Nat×List Nat×List Nat) (fun ⟨j,U,W⟩=>od.length-j) (fun ⟨j,U,W⟩=>j≤od.length∧U.length=ss.length∧W.length=n) (fun ⟨j,U,W⟩=>([(4,.ptr 0 0),(6,.ptr p 0),(10,.ptr (p+4) 0),(47,.rsl (p+1) 0 ss.length ss.length 1 false),(48,J ss.length),(49,J j)],⟨A++ [[.rsl 1 0 ss.length ss.length 1 true],od.map J,U.map J,W.map J,[.rsl (p+2) 0 ss.length ss.length 1 false,.rsl (p+3) 0 n n 1 false]],[]⟩)) (fun ⟨j,U,W⟩ x_1 en s=>x_1=.exit 2∧en.get 4=.ptr 0 0∧en.get 10=.ptr (p+4) 0∧s=⟨A++ [[.rsl 1 0 ss.length ss.length 1 true],od.map J,((od.drop j).foldl (stepI ss) (U,W)).1.map J,((od.drop j).foldl (stepI ss) (U,W)).2.map J,[.rsl (p+2) 0 ss.length ss.length 1 false,.rsl (p+3) 0 n n 1 false]],[]⟩) (fun ⟨j,U,W⟩ hok=> ?_) ⟨j,U,W⟩ hok env st hg
 simp only at hok
 obtain ⟨h1,hU,hW⟩:=hok
 dsimp only at h1 hU hW⊢
 have V9:2^n≤256:=Nat.pow_le_pow_right (n:=2) (by decide) hn
 have pt:=fun L k=>ze2 A L hp k
 have l0:(0<p+5)=True:=eT (by omega)
 have l0':(1<p+5)=True:=eT (by omega)
 have l1:(p<p+5)=True:=eT (by omega)
 have l2:(p+1<p+5)=True:=eT (by omega)
 have l3:(p+2<p+5)=True:=eT (by omega)
 have l4:(p+3<p+5)=True:=eT (by omega)
 have l5:(p+4<p+5)=True:=eT (by omega)
 by_cases h:j<od.length
 ·have hs:=za j (by omega)
  have hlt:((j:Int)<(ss.length:Int))=True:=eT (by omega)
  have hil:(j+1≤ss.length)=True:=eT (by omega)
  have hd:od.drop j=od.getD j 0::od.drop (j+1):=by
   rw [List.drop_eq_getElem_cons h];simp [List.getD_eq_getElem?_getD,h]
  have hb:od.getD j 0<ss.length:=by
   rw [List.getD_eq_getElem?_getD,List.getElem?_eq_getElem h];exact Oi _ (List.getElem_mem h)
  have Kb:=getJ od j h
  have hol:(od.map J).length=ss.length:=by rw [lm_,ho]
  rw [hd,List.foldl_cons]
  generalize od.getD j 0=i at*
  have g:=fun L k=>z8w A L hp k
  have g0:=fun L=>z7z A L hp
  have hb1:((i:Int)<(ss.length:Int))=True:=eT (by omega)
  have hb2:(i+1≤ss.length)=True:=eT (by omega)
  have Kc:=zgo ss i hb
  have hmem:ss.getD i 0∈ss:=zp hb
  have Kd:stepI ss (U,W) i=(memb (ss.getD i 0)).foldl (stepA i) (U,W):=rfl
  have hl2:=z9t i (memb (ss.getD i 0)) (U,W)
  rw [Kd]
  have hv:=VV _ hmem
  generalize ss.getD i 0=v at*
  have Of:=fun st=>c94 v (by omega) st
  have Vy:lenAV (tAV (memb v))=some (J (memb v).length):=z7d I true (memb v)
  have VQ:=z4t v
  have hr:=zaa hn hv
  have pl:=fun L=>zan A L hp
  simp only [go_sem,lp26_2,hlt,hs,hil,Kb,hol,g,g0,pl,QN,hb1,hb2,Kc,Of,Vy,nn_,lm_]
  generalize hg:lim (headed pure (run L) true _ lp26_1 _ _) _ _=o
  obtain ⟨x,en,s,rfl,h2⟩: ∃x en s,o=some (x,en,s)∧_:=by rw [←hg];exact zma A hA p hp Qw ss.length n hm hn [.rsl 1 0 ss.length ss.length 1 true] (by simp [okRefs,okRef]) (fun n T acc=>by simp only [renCells,ren1]) od ho j i hb (memb v) hr VQ 0 U W ⟨by omega,hU,hW⟩ _ _ (by simp only [go_sem,hA.okApp,hA.renApp,pt,z4q,z12,z8u,l0,l0',l1,l2,l3,l4,l5,Int.natCast_zero]<;>rfl)
  clear hg
  rw [List.drop_zero] at h2
  generalize (memb v).foldl (stepA i) (U,W)=UW at*
  obtain ⟨U2,W2⟩:=UW
  dsimp only at*
  obtain ⟨rfl,e4,e6,e10,e47,e48,e49,rfl⟩:=h2
  simp only [go_sem,lp26_2,e4,e6,e10,e47,e48,e49,hs]
  refine ⟨(j+1,U2,W2),by simp only [go_sem,z3,z4,z5,e4,e6,e10,e47,e48,e49,hA.okApp,hA.renApp,pt,z4q,z12,l0,l0',l1,l2,l3,l4,l5]<;>rfl,?_,?_,fun x en s hq=> ?_⟩
  ·dsimp only;exact ⟨by omega,by omega,by omega⟩
  ·dsimp only;omega
  ·exact hq
 ·have hd:od.drop j=[]:=List.drop_eq_nil_of_le (by omega)
  have hlt:((j:Int)<(ss.length:Int))=False:=eF (by omega)
  rw [hd]
  simp only [go_sem,lp26_2,hlt]
  rfl
theorem zmb (A:List (List AV))(hA:Calm A)(p:Nat)(hp:A.length=p)(Qw:2≤p)(n m:Nat)(hm:m≤13)(j:Nat)(D:List Nat)(hok:j≤m∧D=List.range j++List.replicate (m-j) 0)(env:Env)(st:St)
  (hg:gcAV true (p+2) 0 (canon env [0,4,6,8,29,30]) st=([(0,J n),(4,.ptr 0 0),(6,.ptr p 0),(8,.rsl (p+1) 0 m m 1 false),(29,J m),(30,J j)],⟨A++ [[.rsl 1 0 m m 1 true],D.map J],[]⟩)):
  ∃x_1 en s,lim (headed pure (run L) true [0,4,6,8,29,30] lp26_0 (p+2) 0) env st=some (x_1,en,s)∧(x_1=.exit 0∧en.get 0=J n∧en.get 4=.ptr 0 0∧en.get 6=.ptr p 0∧en.get 8=.rsl (p+1) 0 m m 1 false∧s=⟨A++ [[.rsl 1 0 m m 1 true],(List.range m).map J],[]⟩):=by
 refine z8 (α:=Nat×List Nat) (fun ⟨j,D⟩=>m-j) (fun ⟨j,D⟩=>j≤m∧D=List.range j++List.replicate (m-j) 0) (fun ⟨j,D⟩=>([(0,J n),(4,.ptr 0 0),(6,.ptr p 0),(8,.rsl (p+1) 0 m m 1 false),(29,J m),(30,J j)],⟨A++ [[.rsl 1 0 m m 1 true],D.map J],[]⟩)) (fun ⟨j,D⟩ x_1 en s=>x_1=.exit 0∧en.get 0=J n∧en.get 4=.ptr 0 0∧en.get 6=.ptr p 0∧en.get 8=.rsl (p+1) 0 m m 1 false∧s=⟨A++ [[.rsl 1 0 m m 1 true],(List.range m).map J],[]⟩) (fun ⟨j,D⟩ hok=> ?_) ⟨j,D⟩ hok env st hg
 simp only at hok
 obtain ⟨h1,h2⟩:=hok
 dsimp only at h1 h2⊢
 have hDl:D.length=m:=by rw [h2];simp;omega
 by_cases h:j<m
 ·have hs:=za j (by omega)
  have hlt:((j:Int)<(m:Int))=True:=eT (by omega)
  have hil:(j+1≤m)=True:=eT (by omega)
  have g:=fun L k=>z8w A L hp k
  have s':=fun L k v=>zam A L hp k v
  have pt:=fun L k=>ze2 A L hp k
  have hset:(D.map J).set j (J j)=(List.range (j+1)++List.replicate (m-(j+1)) 0).map J:=by
   rw [setJ,h2,show m-j=(m-(j+1))+1 by omega,List.replicate_succ,List.range_succ]
   rw [List.set_append_right _ _ (by simp)]
   simp
  have Ke:(D.map J).length=m:=by rw [lm_,hDl]
  have l0:(0<p+2)=True:=eT (by omega)
  have l0':(1<p+2)=True:=eT (by omega)
  have l1:(p<p+2)=True:=eT (by omega)
  have l2:(p+1<p+2)=True:=eT (by omega)
  simp only [go_sem,lp26_0,hlt,hs,hil,g,s',hset,Ke,nn_,lm_,hDl]
  refine ⟨(j+1,List.range (j+1)++List.replicate (m-(j+1)) 0),by simp only [go_sem,z3,z4,z5,hA.okApp,hA.renApp,pt,z4q,z12,l0,l0',l1,l2]<;>rfl,?_,?_,fun x en s hq=> ?_⟩
  ·dsimp only;exact ⟨by omega,rfl⟩
  ·dsimp only;omega
  ·exact hq
 ·have e:j=m:=by omega
  subst e
  rw [Nat.sub_self,List.replicate_zero,List.append_nil] at h2
  subst h2
  have hlt:((j:Int)<(j:Int))=False:=eF (by omega)
  simp only [go_sem,lp26_0,hlt]
theorem c92 (ss:List Nat)(Vw: ∀s∈ss,s<256)(p x y:Nat)(hx:x<ss.length)(hy:y<ss.length)(hm:ss.length≤13)(S:List (List AV))(T:List Nat)(g1:S[1]? =some (ss.map u8))(gp:S[p]? =some [.rsl 1 0 ss.length ss.length 1 true]):
  run L 92 [J x,J y,.ptr p 0] ⟨S,T⟩=some (I ((pc (ss.getD y 0):Int)-(pc (ss.getD x 0):Int)),⟨S,T⟩):=by
 rw [z6 (fn:=ir92) rfl rfl]
 have b1:((x:Int)<(ss.length:Int))=True:=eT (by omega)
 have b2:((y:Int)<(ss.length:Int))=True:=eT (by omega)
 have h1:=get8 ss x hx
 have h2:=get8 ss y hy
 have Kf:=Vw _ (zp hx)
 have Kg:=Vw _ (zp hy)
 generalize ss.getD x 0=a at*
 generalize ss.getD y 0=b at*
 have ha:=fun st=>c93 a Kf st
 have hb:=fun st=>c93 b Kg st
 have la:=z4t a
 have lb:=z4t b
 have hw:IntKind.i64.wrap (((memb b).length:Int)-((memb a).length:Int))=(pc b:Int)-(pc a:Int):=by
  unfold pc;rw [zz]<;>omega
 simp only [ir92,go_sem,g1,gp,b1,b2,h1,h2,ha,hb,hw,nn_]
def cG (ss:List Nat) (x y:Fin ss.length):Int:=(pc (ss.getD y.val 0):Int)-(pc (ss.getD x.val 0):Int)
def ltG (ss:List Nat) (x y:Fin ss.length):Bool:=decide (cG ss x y<0)
theorem zbt (ss:List Nat)(x y:Fin ss.length):ltG ss x y=true↔pc (ss.getD y.val 0)<pc (ss.getD x.val 0):=by
 unfold ltG cG;rw [decide_eq_true_iff];omega
theorem swoG (ss:List Nat):Go.Sort.SWO (ltG ss) where
 irrefl x:=by cases h:ltG ss x x;rfl;rw [zbt] at h;omega
 trans x y z h1 h2:=by rw [zbt] at h1 h2⊢;omega
 ntrans x y z h1 h2:=by
  cases h:ltG ss x z
  ·rfl
  ·rw [zbt] at h
   have h1: ¬ltG ss x y=true:=by rw [h1];simp
   have h2: ¬ltG ss y z=true:=by rw [h2];simp
   rw [zbt] at h1 h2
   omega
def ordG (ss:List Nat):List Nat:=
 if h:ss.length=0 then [] else
  haveI:NeZero ss.length:=⟨h⟩
  (insertionSort (ltG ss) (List.finRange ss.length).toArray 0 ss.length).toList.map (fun x=>x.val)
theorem zbp (ss:List Nat):(ordG ss).Perm (List.range ss.length)∧(ordG ss).Pairwise (fun i j=>pc (ss.getD j 0)≤pc (ss.getD i 0)):=by
 unfold ordG
 split
 ·next h=>rw [h];exact ⟨List.Perm.refl _,List.Pairwise.nil⟩
 ·next h=>
  haveI:NeZero ss.length:=⟨h⟩
  have hsz:(List.finRange ss.length).toArray.size=ss.length:=by simp
  have h1:=Go.Sort.insertionSort_holds (swoG ss) (List.finRange ss.length).toArray 0 ss.length (Nat.zero_le _) (by rw [hsz];exact Nat.le_refl _)
  generalize insertionSort (ltG ss) (List.finRange ss.length).toArray 0 ss.length=d at*
  obtain ⟨⟨g1,g2,g3⟩,g4⟩:=h1
  have hd:d.size=ss.length:=by rw [g1,hsz]
  have key: ∀(k:Nat) (d:Array (Fin ss.length)),d.size=k→(d.extract 0 k).toList=d.toList:=by
   intro k d h
   subst h
   rw [Array.extract_size]
  rw [key _ d hd,key _ _ hsz] at g3
  constructor
  ·have:=g3.map (fun x=>x.val)
   have e:(List.finRange ss.length).map (fun x=>x.val)=List.range ss.length:=by
    apply List.ext_getElem
    ·simp
    ·intro i h1 h2;simp
   simpa [e] using this
  ·rw [List.pairwise_map,List.pairwise_iff_getElem]
   intro i j hi hj hij
   simp only [Array.length_toList] at hi hj
   have:=g4 i j (Nat.zero_le _) hij (by omega)
   rw [getElem!_pos d i hi,getElem!_pos d j hj] at this
   have h2: ¬ltG ss d[j] d[i]=true:=by rw [this];simp
   rw [zbt] at h2
   simp only [Array.getElem_toList]
   omega
theorem zjk (ss:List Nat): ∀x∈ordG ss,x<ss.length:=fun x hx=>List.mem_range.1 ((zbp ss).1.mem_iff.1 hx)
theorem zlr (ss:List Nat):(ordG ss).length=ss.length:=by rw [(zbp ss).1.length_eq,List.length_range]
theorem PL_sh {X:List (List AV)} (h:PL X)(n:Nat):shStore n X=X:=by
 induction X with
 |nil=>rfl
 |cons B r ih=>
  obtain ⟨k,i,rfl⟩:=h B (by simp)
  simp only [shStore,shVs,shV,ih (fun C hC=>h C (by simp [hC]))]
theorem c91s (ss:List Nat)(Vw: ∀s∈ss,s<256)(hm:ss.length≤13)(h0:ss.length≠0)(A:List (List AV))(p:Nat)(hp:A.length=p)(Qw:2≤p)(QN: ∀L,(A++L)[1]? =some (ss.map u8)):
  run L 91 [.rsl (p+1) 0 ss.length ss.length 1 false,.fn (.func 92) [] [.ptr p 0]] ⟨A++ [[.rsl 1 0 ss.length ss.length 1 true],(List.range ss.length).map J],[]⟩=some (.tup [],⟨A++ [[.rsl 1 0 ss.length ss.length 1 true],(ordG ss).map J],[]⟩):=by
 haveI:NeZero ss.length:=⟨h0⟩
 have hput: ∀X E,put (A++ [[.rsl 1 0 ss.length ss.length 1 true],[]]) (p+1) X E=A++([.rsl 1 0 ss.length ss.length 1 true]::X::E):=by
  intro X E
  unfold put
  rw [zam A _ hp 1]
  simp
 have h:=c91 ss.length (A++ [[.rsl 1 0 ss.length ss.length 1 true],[]]) [] (p+1) (by rw [zan A _ hp];simp) (by omega) false 92 rfl [.ptr p 0] (cG ss) (ltG ss) (fun _ _=>rfl)
  (fun x y X E=>by
   rw [hput]
   exact c92 ss Vw p x.val y.val x.isLt y.isLt hm _ [] (QN _) (by rw [z7z A _ hp];rfl))
  (List.finRange ss.length).toArray (by simp)
 rw [hput,hput] at h
 have e1:Dm fK (List.finRange ss.length).toArray=(List.range ss.length).map J:=by
  unfold Dm
  apply List.ext_getElem
  ·simp
  ·intro i h1 h2;simp
 have e2:Dm fK (insertionSort (ltG ss) (List.finRange ss.length).toArray 0 ss.length)=(ordG ss).map J:=by
  unfold Dm ordG
  rw [dif_neg h0,List.map_map];rfl
 rw [e1,e2] at h
 exact h
theorem zok (k:Nat)(hk:k≤1000)(S:List (List AV))(T:List Nat):makeAV 1 false [.v (.int .i64 0)] ⟨S,T⟩ (J k) (J k)=some (.rsl S.length 0 k k 1 false,⟨S++ [(List.replicate k 0).map J],T⟩):=by
 rw [z3v,if_pos ⟨by omega,by unfold maxGrow;omega⟩,Int.toNat_natCast]
 simp
theorem pubsJ (X:List Nat):pubs (X.map J)=X.map J:=z8g J (fun _=>rfl) X
theorem zb3 (st:St)(l m:Nat)(X:List Nat)(hm:X.length=m)(h:st.store[l]? =some (X.map J)):fin st (.rsl l 0 m m 1 false)=sl 1 false (X.map J):=by
 subst hm
 have e:fin st (.rsl l 0 X.length X.length 1 false)=.lst .any 1 (group false 1 X.length (pubs ((X.map J).drop 0))):=by
  simp only [fin,h]
  rw [if_pos (by simp)]
 rw [e,List.drop_zero,pubsJ,zac J (fun _=>rfl)]
 rfl
def treeA (UW:List Nat×List Nat):AV:=.agg [sl 1 false (UW.1.map J),sl 1 false (UW.2.map J)]
theorem all26a:(List.range 7).map (fun n=>callAV L 400 26 [J (n+2),.v (.slice none 0 0)] ⟨[],[]⟩)=(List.range 7).map (fun n=>some (.tup [treeA (growN [] (n+2) []),I 0],(⟨[],[]⟩:St))):=by kernel_rfl
theorem all26b:(List.range 7).map (fun n=>callAV L 400 26 [J (n+2),.lst .any 1 []] ⟨[],[]⟩)=(List.range 7).map (fun n=>some (.tup [treeA (growN [] (n+2) []),I 0],(⟨[],[]⟩:St))):=by kernel_rfl
theorem c26e (n:Nat)(h2:2≤n)(hn:n≤8)(nl:Bool)(st:St):run L 26 [J n,sl 1 nl []] st=some (.tup [treeA (growN [] n []),I 0],st):=by
 obtain ⟨k,rfl⟩: ∃k,n=k+2:=⟨n-2,by omega⟩
 rcases z29 1 nl [] with ⟨_,h⟩ |h
 ·rw [h];exact z4b (fn:=ir26) rfl rfl (z11 L 400 _ _ _ _ (z89 all26a k (by omega))) st
 ·rw [h];exact z4b (fn:=ir26) rfl rfl (z11 L 400 _ _ _ _ (z89 all26b k (by omega))) st
theorem c26 (n:Nat)(h2:2≤n)(hn:n≤8)(nl:Bool)(X:List Nat)(hX: ∀v∈X,v<2^n∧v≠0∧v≠2^n-1)(hnd:(X.map (smlN n)).Nodup)(hl:X.length≤13)(hc:clP (X.map (smlN n)) 0=none)(st:St):
  run L 26 [J n,sl 1 nl (X.map tM)] st=some (.tup [treeA (growN (srt (X.map (smlN n))) n (ordG (srt (X.map (smlN n))))),I 0],st):=by
 by_cases he:X=[]
 ·subst he
  have e1:srt (([]:List Nat).map (smlN n))=[]:=zdx
  have e2:ordG []=[]:=by unfold ordG;rw [dif_pos (by simp)]
  rw [e1,e2]
  exact c26e n h2 hn nl st
 rw [run_pure (fn:=ir26) rfl rfl]
 obtain ⟨X1,hX1,OE⟩:=(c79 n h2 hn nl X hX hnd hl).1 hc
 have Yr: ∀x∈X.map (smlN n),x<2^n:=by
  intro x hx
  rw [List.mem_map] at hx
  obtain ⟨v,hv,rfl⟩:=hx
  exact zg4 (hX v hv).1
 have V9:2^n≤256:=Nat.pow_le_pow_right (n:=2) (by decide) hn
 have hsl:=z91 (ss:=X.map (smlN n)) (fun s hs=>Nat.lt_of_lt_of_le (Yr s hs) V9)
 have Qx: ∀s∈srt (X.map (smlN n)),s<2^n:=fun s hs=>Yr s ((z47 (fun s hs=>Nat.lt_of_lt_of_le (Yr s hs) V9)).mem_iff.1 hs)
 rw [lm_] at hsl
 generalize srt (X.map (smlN n))=ss at*
 have hne:ss≠[]:=fun e=>he (List.eq_nil_of_length_eq_zero (by rw [←hsl,e];rfl))
 have h0:ss.length≠0:=fun e=>hne (List.eq_nil_of_length_eq_zero e)
 rw [zk8 hne,zi6 hne] at OE
 have hsv:=zj2 1 ss
 have OG:=PL_sh hX1 1
 have Yw:Calm ([.v (.slice none 0 0),.v (.slice none 0 0)]::ss.map u8::X1):=
  (hX1.calm.cons (fun n=>z5l n ss) (fun n T acc=>z23 n T acc ss)).cons (fun n=>rfl) (fun n T acc=>rfl)
 obtain ⟨q,hq⟩: ∃q,X1.length=q:=⟨_,rfl⟩
 have g0:=fun L:List (List AV)=>z7z X1 L hq
 have g:=fun (L:List (List AV)) k=>z8w X1 L hq k
 have s0:=fun (L:List (List AV)) v=>za7 X1 L hq v
 have pl:=fun L:List (List AV)=>zan X1 L hq
 have aa:=fun L M:List (List AV)=>List.append_assoc X1 L M
 have Qe:=fun S T=>zok ss.length (by omega) S T
 have hmn:=fun S T=>zok n (by omega) S T
 simp only [ir26,go_sem,OE,show pure 79=false from rfl,shStore,shV,shVs,hsv,OG,keepR,keepT,ownTop,hq,g0,g,s0,pl,aa,Qe]
 obtain ⟨A,Qf⟩: ∃A,A=[.v (.slice none 0 0),.v (.slice none 0 0)]::ss.map u8::X1:=⟨_,rfl⟩
 have YM: ∀L:List (List AV),[.v (.slice none 0 0),.v (.slice none 0 0)]::ss.map u8::(X1++L)=A++L:=by rw [Qf];exact fun L=>rfl
 have QN: ∀L:List (List AV),(A++L)[1]? =some (ss.map u8):=fun L=>by rw [Qf];rfl
 have hA0: ∀L:List (List AV),(A++L)[0]? =some [.v (.slice none 0 0),.v (.slice none 0 0)]:=fun L=>by rw [Qf];rfl
 have Y4: ∀(L:List (List AV)) v,(A++L).set 0 v=(v::ss.map u8::X1)++L:=fun L v=>by rw [Qf];rfl
 have Qg:A.length=q+1+1:=by rw [Qf];simp [hq]
 rw [←Qf] at Yw
 simp only [YM]
 obtain ⟨p,hp⟩: ∃p,p=q+1+1:=⟨_,rfl⟩
 have QR:q+1+1=p:=hp.symm
 have Q3:q+2+1+1=p+2:=by omega
 rw [←hp] at Qg
 clear hp g0 g s0 pl aa hq OG
 simp only [QR,Q3]
 have g0:=fun L=>z7z A L Qg
 have g:=fun L k=>z8w A L Qg k
 have s0:=fun L v=>za7 A L Qg v
 have s':=fun L k v=>zam A L Qg k v
 have pl:=fun L=>zan A L Qg
 have pt:=fun L k=>ze2 A L Qg k
 have aa:=fun L M:List (List AV)=>List.append_assoc A L M
 have l0:(0<p+2)=True:=eT (by omega)
 have l0':(1<p+2)=True:=eT (by omega)
 have l1:(p<p+2)=True:=eT (by omega)
 have l2:(p+1<p+2)=True:=eT (by omega)
 have Qw:2≤p:=by rw [←QR];omega
 have Vw: ∀s∈ss,s<256:=fun s hs=>Nat.lt_of_lt_of_le (Qx s hs) V9
 generalize hg:lim (headed pure (run L) true _ lp26_0 _ _) _ _=o
 obtain ⟨x,en,s,rfl,h2⟩: ∃x en s,o=some (x,en,s)∧_:=by rw [←hg];exact zmb A Yw p Qg Qw n ss.length (by omega) 0 (List.replicate ss.length 0) ⟨by omega,by simp⟩ _ _ (by simp only [go_sem,Yw.okApp,Yw.renApp,pt,z4q,z12,l0,l0',l1,l2,Int.natCast_zero]<;>rfl)
 clear hg
 obtain ⟨rfl,e0,e4,e6,e8,rfl⟩:=h2
 have Kh:=c91s ss Vw (by omega) h0 A p Qg Qw QN
 simp only [go_sem,e0,e4,e6,e8,Kh,g0,g,s0,s',pl,aa,Qe,hmn]
 have k0:(0<p+5)=True:=eT (by omega)
 have k0':(1<p+5)=True:=eT (by omega)
 have k1:(p<p+5)=True:=eT (by omega)
 have k2:(p+1<p+5)=True:=eT (by omega)
 have k3:(p+2<p+5)=True:=eT (by omega)
 have k4:(p+3<p+5)=True:=eT (by omega)
 have k5:(p+4<p+5)=True:=eT (by omega)
 generalize hg:lim (headed pure (run L) true _ lp26_2 _ _) _ _=o
 obtain ⟨x,en,s,rfl,h2⟩: ∃x en s,o=some (x,en,s)∧_:=by rw [←hg];exact zm9 A Yw p Qg Qw ss QN n (by omega) hn Qx (ordG ss) (zlr ss) (zjk ss) 0 (List.replicate ss.length 0) (List.replicate n 0) ⟨by omega,by simp,by simp⟩ _ _ (by simp only [go_sem,e0,e4,e6,e8,Yw.okApp,Yw.renApp,pt,z4q,z12,k0,k0',k1,k2,k3,k4,k5,Int.natCast_zero]<;>rfl)
 clear hg
 clear e0 e4 e6 e8
 rw [List.drop_zero] at h2
 have hgl:(growN ss n (ordG ss)).1.length=ss.length∧(growN ss n (ordG ss)).2.length=n:=by
  have key: ∀(l:List Nat) (UA:List Nat×List Nat),(l.foldl (stepI ss) UA).1.length=UA.1.length∧(l.foldl (stepI ss) UA).2.length=UA.2.length:=by
   intro l
   induction l with
   |nil=>intro UA;exact ⟨rfl,rfl⟩
   |cons i r ih=>
    intro UA
    rw [List.foldl_cons]
    have h1:=ih (stepI ss UA i)
    have h2:=ziw ss UA i
    exact ⟨h1.1.trans h2.1,h1.2.trans h2.2⟩
  have:=key (ordG ss) (List.replicate ss.length 0,List.replicate n 0)
  unfold growN
  simpa using this
 rw [show (ordG ss).foldl (stepI ss) (List.replicate ss.length 0,List.replicate n 0)=growN ss n (ordG ss) from rfl] at h2
 generalize growN ss n (ordG ss)=UW at*
 obtain ⟨U,W⟩:=UW
 dsimp only at hgl h2
 obtain ⟨rfl,e4,e10,rfl⟩:=h2
 obtain ⟨A2,Y5,Y6,Y7⟩: ∃A2:List (List AV),A2.length=p∧(∀L,(A++L).set 0 [.rsl (p+2) 0 ss.length ss.length 1 false,.rsl (p+3) 0 n n 1 false]=A2++L)∧(∀L,(A2++L)[0]? =some [.rsl (p+2) 0 ss.length ss.length 1 false,.rsl (p+3) 0 n n 1 false]):=by
  refine ⟨[.rsl (p+2) 0 ss.length ss.length 1 false,.rsl (p+3) 0 n n 1 false]::ss.map u8::X1,?_,fun L=>Y4 L _,fun L=>rfl⟩
  rw [←Qg,Qf];rfl
 have gA:=fun L k=>z8w A2 L Y5 k
 have f1:=fun S T h=>zb3 ⟨S,T⟩ (p+2) ss.length U hgl.1 h
 have f2:=fun S T h=>zb3 ⟨S,T⟩ (p+3) n W hgl.2 h
 have f1': ∀L,fin ⟨A2++([.rsl 1 0 ss.length ss.length 1 true]::L),[]⟩ (.rsl (p+2) 0 ss.length ss.length 1 false)=fin ⟨A2++([.rsl 1 0 ss.length ss.length 1 true]::L),[]⟩ (.rsl (p+2) 0 ss.length ss.length 1 false):=fun _=>rfl
 simp only [go_sem,e4,e10,g,hA0,Y6,Y7]
 rw [show fin _ (AV.rsl (p+2) 0 ss.length ss.length 1 false)=sl 1 false (U.map J) from zb3 _ _ _ U hgl.1 (by rw [gA];rfl),show fin _ (AV.rsl (p+3) 0 n n 1 false)=sl 1 false (W.map J) from zb3 _ _ _ W hgl.2 (by rw [gA];rfl)]
 rfl
def lA (ss:List Nat):AV:=if ss=[] then .v (.slice none 0 0) else .rsl 0 0 ss.length ss.length 1 false
def lS (ss:List Nat):List (List AV):=if ss=[] then [] else [ss.map tM]
theorem zoz {X:List Nat} (h:X≠[]):lA X=.rsl 0 0 X.length X.length 1 false:=by unfold lA;rw [if_neg h]
theorem zox {X:List Nat} (h:X≠[]):lS X=[X.map tM]:=by unfold lS;rw [if_neg h]
theorem lA_one (l:Nat):lA [l]=.rsl 0 0 1 1 1 false:=rfl
theorem lS_one (l:Nat):lS [l]=[[tM l]]:=rfl
theorem zoy (X:List Nat)(l:Nat):lA (X++ [l])=.rsl 0 0 (X.length+1) (X.length+1) 1 false:=by rw [zoz (by simp)];simp
theorem zow (X:List Nat)(l:Nat):lS (X++ [l])=[(X++ [l]).map tM]:=zox (by simp)
theorem zkd (v:Nat)(S:List (List AV))(T:List Nat):appendmAV 1 false (.v (.slice none 0 0)) [tM v] ⟨S,T⟩=some (.rsl S.length 0 1 1 1 false,⟨S++ [[tM v]],T⟩):=by
 simp [appendmAV,newM,maxGrow,flatAV,zi]
theorem zmn (X:List Nat)(v:Nat)(T:List Nat)(h:1≤X.length)(h2:X.length≤1000):appendmAV 1 false (.rsl 0 0 X.length X.length 1 false) [tM v] ⟨[X.map tM],T⟩=some (.rsl 1 0 (X.length+1) (X.length+1) 1 false,⟨[[],(X++ [v]).map tM],T⟩):=by
 have htk:(X.map tM).take X.length=X.map tM:=List.take_of_length_le (by simp)
 simp only [appendmAV,List.getElem?_cons_succ,List.getElem?_cons_zero,List.length_cons,List.length_nil,lm_,Nat.mul_one,htk]
 rw [if_pos ⟨trivial,trivial,Nat.le_refl _,by omega,by omega⟩,if_neg (by omega),if_pos ⟨trivial,by unfold maxGrow;omega,by omega⟩]
 simp [flatAV,zi]
theorem zog (n:Nat)(xs:List Nat):okRefs n (xs.map tM)=true:=z63 tM n (fun _=>zj _ _) xs
theorem zjc (n:Nat)(tips:List Nat)(acc:List (Nat×Nat))(xs:List Nat):renCells n tips acc (xs.map tM)=(xs.map tM,acc):=z3z tM n tips (fun _ _=>z8u _ _ _ _) xs acc
theorem zjg (n:Nat): ∀(xs:List Nat) (acc:List Nat),refsL n acc (xs.map tM)=acc
 | [],acc=>rfl
 |x::r,acc=>by
  have:refsV n acc (tM x)=acc:=z0j _ _ _ _ _
  simp only [List.map_cons,refsL,this,zjg n r]
theorem zjr (n:Nat)(M:List Nat): ∀(xs:List Nat),mapLs n M (xs.map tM)=xs.map tM
 | []=>rfl
 |x::r=>by
  have:mapL n M (tM x)=tM x:=z20 _ _ _ _ _
  simp only [List.map_cons,mapLs,this,zjr n M r]
theorem zo9 (n:Nat)(acc:List Nat)(v:Nat):refsV n acc (tM v)=acc:=z0j _ _ _ _ _
theorem mapL_M (n:Nat)(M:List Nat)(v:Nat):mapL n M (tM v)=tM v:=z20 _ _ _ _ _
theorem loop51 (nl:Bool)(ss:List Nat)(Vw: ∀s∈ss,s<256)(hk:ss.length<256)(i:Nat)(X:List Nat)(hok:i≤ss.length∧X=ss.take i)(env:Env)(st:St)
  (hg:gcAV true 0 0 (canon env [3,6,7,8,3000000]) st=([(3,lA X),(6,sl 1 nl (ss.map U)),(7,J ss.length),(8,J i),(3000000,.any)],⟨lS X,[]⟩)):
  ∃x_1 en s,lim (headed pure (run L) true [3,6,7,8,3000000] lp51_0 0 0) env st=some (x_1,en,s)∧(x_1=.exit 0∧en.get 3=lA ss∧s=⟨lS ss,[]⟩):=by
 refine z8 (α:=Nat×List Nat) (fun ⟨i,X⟩=>ss.length-i) (fun ⟨i,X⟩=>i≤ss.length∧X=ss.take i) (fun ⟨i,X⟩=>([(3,lA X),(6,sl 1 nl (ss.map U)),(7,J ss.length),(8,J i),(3000000,.any)],⟨lS X,[]⟩)) (fun ⟨i,X⟩ x_1 en s=>x_1=.exit 0∧en.get 3=lA ss∧s=⟨lS ss,[]⟩) (fun ⟨i,X⟩ hok=> ?_) ⟨i,X⟩ hok env st hg
 simp only at hok
 obtain ⟨h1,h2⟩:=hok
 dsimp only at h1 h2⊢
 by_cases h:i<ss.length
 ·have hs:=za i (by omega)
  have hlt:((i:Int)<(ss.length:Int))=True:=eT (by omega)
  have hx:=z5n U nl ss i h
  have hT:ss.take (i+1)=X++ [ss[i]]:=by rw [h2,List.take_succ,List.getElem?_eq_getElem h];rfl
  have OH:X.length=i:=by rw [h2,List.length_take];omega
  have hb:=Vw ss[i] (List.getElem_mem h)
  generalize ss[i]=v at*
  have OI: ∀st,run L 40 [U v] st=some (tM v,st):=fun st=>c40 v (by omega) st
  by_cases he:X=[]
  ·subst he
   have eA:lA []=.v (.slice none 0 0):=rfl
   have eS:lS []=[]:=rfl
   rw [eA,eS]
   have happ:=zkd v [] []
   simp only [go_sem,lp51_0,hlt,hx,hs,OI,happ]
   refine ⟨(i+1,[v]),by simp only [go_sem,z3,z4,z5,lA_one,lS_one,compact,compactW,refsEnv,refsV,refsL,refsStore,refsAt,mapEnv,mapL,mapLs,newName,posOf,mapStore,pickStore,namesOk,z0j,z20,zo9,mapL_M,List.contains_nil,List.contains_cons,Option.getD_some,hasKey,z8u,renCells,okRefs]<;>rfl,?_,?_,fun x en s hq=> ?_⟩
   ·dsimp only;exact ⟨by omega,by rw [hT];rfl⟩
   ·dsimp only;omega
   ·exact hq
  ·have eA:=zoz he
   have eS:=zox he
   have hpos:1≤X.length:=List.length_pos_iff.2 he
   rw [eA,eS]
   have happ:=zmn X v [] hpos (by omega)
   simp only [go_sem,lp51_0,hlt,hx,hs,OI,happ]
   refine ⟨(i+1,X++ [v]),by simp only [go_sem,z3,z4,z5,zoy,zow,zjg,zjr,zog,zjc,compact,compactW,refsEnv,refsV,refsL,refsStore,refsAt,mapEnv,mapL,mapLs,newName,posOf,mapStore,pickStore,namesOk,z0j,z20,List.contains_nil,List.contains_cons,Option.getD_some,hasKey]<;>rfl,?_,?_,fun x en s hq=> ?_⟩
   ·dsimp only;exact ⟨by omega,by rw [hT]⟩
   ·dsimp only;omega
   ·exact hq
 ·have e:ss.take i=ss:=List.take_of_length_le (by omega)
  rw [e] at h2
  subst h2
  have hlt:((i:Int)<(X.length:Int))=False:=eF (by omega)
  simp only [go_sem,lp51_0,hlt]
abbrev cmpL:AV:=.fn (.func 42) [] []
def ltL (x y:LI):Bool:=lexLt x.val y.val
def finL (ss:List Nat):List LI:=ss.map fun x=>⟨memb x,by have:=z4t x;omega⟩
theorem zpp (ss:List Nat):Dm fL (finL ss).toArray=ss.map tM:=by
 unfold Dm finL
 simp
theorem zj0 {ss:List Nat} (h: ∀s∈ss,s<256):sortA ltL (finL ss)=finL (srt ss):=by
 have hp:=zcu (zdv (fun x:LI=>x.val)) (finL ss)
 have hs:=zaj (zdv (fun x:LI=>x.val)) (finL ss)
 refine z93 (R:=fun x y:LI=>lexLt y.val x.val=false) (fun x y h1 h2=>Subtype.ext (z82 _ _ h2 h1)) _ _ ?_ hs ?_
 ·exact hp.trans ((z47 h).symm.map _)
 ·unfold finL
  rw [List.pairwise_map]
  exact z8c ss
theorem c113 (ss:List Nat)(h: ∀s∈ss,s<256)(hn:ss.length<256)(he:ss≠[]):
  ∃X1,PL X1∧run L 113 [.rsl 0 0 ss.length ss.length 1 false,cmpL] ⟨[ss.map tM],[]⟩=some (.tup [],⟨(srt ss).map tM::X1,[]⟩):=by
 obtain ⟨X1,h1,h2⟩:=sortl [[]] [] 0 (by simp) ss.length (by omega) false 42 rfl [] (fun x y=>cmpN x.val y.val) ltL (fun x y=>(zcc _ _).symm)
  (fun x y X E=>c42 true true x.val y.val x.property _) hn (finL ss).toArray (by simp [finL]) []
 have e1:Dm fL (Go.Sort.sort ltL (finL ss).toArray)=(srt ss).map tM:=by
  have:=zj0 h
  unfold sortA at this
  unfold Dm
  rw [this]
  unfold finL
  simp
 rw [zpp,e1] at h2
 exact ⟨X1,h1 PL.nil,h2⟩
theorem insLn (st0:St)(lo hi:Nat)(i:Nat)(hok:True)(env:Env)(st:St)
  (hg:gcAV false lo hi (canon env [0,1,2,3,8]) st=([(0,.v (.slice none 0 0)),(1,I 0),(2,I 0),(3,cmpL),(8,J i)],st0)):
  ∃x_1 en s,lim (headed pure (run L) false [0,1,2,3,8] lp173_1 lo hi) env st=some (x_1,en,s)∧(x_1=.exit 0∧s=st0):=by
 refine z8 (α:=Nat) (fun i=>0) (fun i=>True) (fun i=>([(0,.v (.slice none 0 0)),(1,I 0),(2,I 0),(3,cmpL),(8,J i)],st0)) (fun i x_1 en s=>x_1=.exit 0∧s=st0) (fun i hok=> ?_) i hok env st hg
 have hlt:((i:Int)<0)=False:=eF (by omega)
 simp only [go_sem,lp173_1,hlt]
theorem c173n (st:St):run L 173 [.v (.slice none 0 0),I 0,I 0,cmpL] st=some (.tup [],st):=by
 rw [z6 (fn:=ir173) rfl rfl]
 have h1:IntKind.i64.wrap 1=1:=by decide
 simp only [ir173,go_sem,h1]
 generalize hg:lim (headed pure (run L) false _ lp173_1 _ _) _ _=o
 obtain ⟨x,en,s,rfl,h2⟩: ∃x en s,o=some (x,en,s)∧_:=by rw [←hg];exact insLn st _ _ 1 trivial _ _ (by simp only [go_sem,show I 1=J 1 from rfl]<;>rfl)
 clear hg
 obtain ⟨rfl,rfl⟩:=h2
 simp only [go_sem]
theorem pdqLn (st0:St)(lo hi:Nat)(i:Nat)(hok:True)(env:Env)(st:St)
  (hg:gcAV false lo hi (canon env [0,1,2,3,4,10,11]) st=([(0,.v (.slice none 0 0)),(1,I 0),(2,I 0),(3,J i),(4,cmpL),(10,B true),(11,B true)],st0)):
  ∃x_1 en s,lim (headed pure (run L) false [0,1,2,3,4,10,11] lp140_0 lo hi) env st=some (x_1,en,s)∧(x_1=.ret∧s=st0):=by
 refine z8 (α:=Nat) (fun i=>0) (fun i=>True) (fun i=>([(0,.v (.slice none 0 0)),(1,I 0),(2,I 0),(3,J i),(4,cmpL),(10,B true),(11,B true)],st0)) (fun i x_1 en s=>x_1=.ret∧s=st0) (fun i hok=> ?_) i hok env st hg
 have h1:IntKind.i64.wrap 0=0:=by decide
 have h2:((0:Int)≤12)=True:=eT (by omega)
 simp only [go_sem,lp140_0,h1,h2,c173n]
theorem c113n (st:St):run L 113 [.v (.slice none 0 0),cmpL] st=some (.tup [],st):=by
 have Qd: ∀i:Nat,run L 140 [.v (.slice none 0 0),I 0,I 0,J i,cmpL] st=some (.tup [],st):=by
  intro i
  rw [z6 (fn:=ir140) rfl rfl]
  simp only [ir140,go_sem]
  generalize hg:lim (headed pure (run L) false _ lp140_0 _ _) _ _=o
  obtain ⟨x,en,s,rfl,h2⟩: ∃x en s,o=some (x,en,s)∧_:=by rw [←hg];exact pdqLn st _ _ i trivial _ _ (by simp only [go_sem]<;>rfl)
  clear hg
  obtain ⟨rfl,rfl⟩:=h2
  simp only [go_sem]
 rw [z6 (fn:=ir113) rfl rfl]
 have VI: ∀st,run L 115 [.v (.int .u64 0)] st=some (J (bitsLen 0),st):=fun st=>c115 0 (by omega) st
 have VE:IntKind.u64.wrap 0=0:=by decide
 simp only [ir113,go_sem,VE,VI,Qd]
theorem pubsM (X:List Nat):pubs (X.map tM)=X.map tM:=z8g tM (fun _=>z18 _) X
theorem zph (v:Nat):cell1 (tM v)=tM v:=by unfold tM tAV sl;split<;>rfl
theorem zmy (st:St)(l m:Nat)(X:List Nat)(hm:X.length=m)(hne:X≠[])(h:st.store[l]? =some (X.map tM)):fin st (.rsl l 0 m m 1 false)=sl 1 true (X.map tM):=by
 subst hm
 have e:fin st (.rsl l 0 X.length X.length 1 false)=.lst .any 1 (group false 1 X.length (pubs ((X.map tM).drop 0))):=by
  simp only [fin,h]
  rw [if_pos (by simp)]
 rw [e,List.drop_zero,pubsM,zac tM zph,za3 (by simpa using hne)]
theorem c51 (nl:Bool)(ss:List Nat)(Vw: ∀s∈ss,s<256)(hk:ss.length<256)(st:St):run L 51 [sl 1 nl (ss.map U)] st=some (sl 1 true ((srt ss).map tM),st):=by
 rw [run_pure (fn:=ir51) rfl rfl]
 simp only [ir51,go_sem,lm_]
 generalize hg:lim (headed pure (run L) true _ lp51_0 _ _) _ _=o
 obtain ⟨x,en,s,rfl,h2⟩: ∃x en s,o=some (x,en,s)∧_:=by rw [←hg];exact loop51 nl ss Vw hk 0 [] ⟨by omega,by simp⟩ _ _ (by simp only [go_sem,Int.natCast_zero,lA,lS,compact,compactW,refsEnv,refsV,refsL,refsStore,refsAt,mapEnv,mapL,mapLs,newName,posOf,mapStore,pickStore,namesOk,z0j,z20,List.contains_nil,List.contains_cons,Option.getD_some,hasKey]<;>rfl)
 clear hg
 obtain ⟨rfl,e3,rfl⟩:=h2
 by_cases he:ss=[]
 ·subst he
  rw [zdx]
  rw [show lA []=.v (.slice none 0 0) from rfl] at e3
  simp only [go_sem,e3,c113n]
  rfl
 ·rw [zoz he] at e3
  rw [zox he]
  obtain ⟨X1,hX1,Oj⟩:=c113 ss Vw hk he
  have hsl:=z91 Vw
  have Qv:srt ss≠[]:=fun e=>he (List.eq_nil_of_length_eq_zero (by rw [←hsl,e];rfl))
  have hf:=zmy ⟨(srt ss).map tM::X1,[]⟩ 0 ss.length (srt ss) hsl Qv rfl
  simp only [go_sem,e3,Oj,hf]
theorem frzEnv_get (l:Nat)(cs:List AV)(env:Env)(t:Tmp):(frzEnv l cs env).get t=frzV l cs (env.get t):=by
 induction env with
 |nil=>simp [frzEnv,Env.get,frzV]
 |cons x r ih=>
  obtain ⟨u,a⟩:=x
  simp only [frzEnv,Env.get]
  split
  ·rfl
  ·exact ih
theorem loop23 (n1 n2:Bool)(xs ys:List (List Int))(hl:xs.length=ys.length)(hlen:xs.length<1000000)(Ok: ∀x∈xs,x.length<1000000)(i:Nat)(hok:i≤xs.length)(env:Env)(st:St)
  (hg:gcAV true 0 0 (canon env [0,1,5]) st=([(0,sl 1 n1 (xs.map tAV)),(1,sl 1 n2 (ys.map tAV)),(5,I i)],⟨[],[]⟩)):
  ∃x_1 en s,lim (headed pure (run L) true [0,1,5] lp23_0 0 0) env st=some (x_1,en,s)∧(if xs.drop i=ys.drop i then x_1=.exit 0 else x_1=.ret∧en.get 4=B false):=by
 refine z8 (α:=Nat) (fun i=>xs.length-i) (fun i=>i≤xs.length) (fun i=>([(0,sl 1 n1 (xs.map tAV)),(1,sl 1 n2 (ys.map tAV)),(5,I i)],⟨[],[]⟩)) (fun i x_1 en s=>if xs.drop i=ys.drop i then x_1=.exit 0 else x_1=.ret∧en.get 4=B false) (fun i hok=> ?_) i hok env st hg
 by_cases h:i<xs.length
 ·have hx:=z5n tAV n1 xs i h
  have hy:=z5n tAV n2 ys i (by omega)
  have hs:=za i (by omega)
  have hd:xs.drop i=xs[i]::xs.drop (i+1):=List.drop_eq_getElem_cons h
  have hd2:ys.drop i=ys[i]::ys.drop (i+1):=List.drop_eq_getElem_cons (by omega)
  have hlt:((i:Int)<(xs.length:Int))=True:=eT (by omega)
  have ha:=Ok xs[i] (List.getElem_mem h)
  rw [hd,hd2]
  generalize xs[i]=a at*
  generalize ys[i]'(by omega)=b at*
  have Q4: ∀st,run L 22 [tAV a,tAV b] st=some (B (decide (a=b)),st):=fun st=>c22 true true a b ha st
  by_cases p:a=b
  ·rw [decide_eq_true p] at Q4
   simp only [go_sem,lp23_0,hx,hy,hlt,Q4,hs,lm_]
   refine ⟨i+1,by simp only [go_sem,z3,z4,z5]<;>rfl,?_,?_,fun x en s hq=> ?_⟩
   ·omega
   ·omega
   ·simp only [List.cons.injEq,p,true_and];exact hq
  ·rw [decide_eq_false p] at Q4
   simp only [go_sem,lp23_0,hx,hy,hlt,Q4,lm_]
   rw [if_neg (by simp [p])];trivial
 ·have hd:xs.drop i=[]:=List.drop_eq_nil_of_le (by omega)
  have hd2:ys.drop i=[]:=List.drop_eq_nil_of_le (by omega)
  have hlt:((i:Int)<(xs.length:Int))=False:=eF (by omega)
  simp only [go_sem,lp23_0,hlt,lm_]
  rw [hd,hd2];simp
theorem c23 (n1 n2:Bool)(xs ys:List (List Int))(hlen:xs.length<1000000)(Ok: ∀x∈xs,x.length<1000000)(st:St):run L 23 [sl 1 n1 (xs.map tAV),sl 1 n2 (ys.map tAV)] st=some (B (decide (xs=ys)),st):=by
 rw [run_pure (fn:=ir23) rfl rfl]
 by_cases hl:xs.length=ys.length
 ·simp only [ir23,go_sem,lm_,hl]
  generalize hg:lim (headed pure (run L) true _ lp23_0 _ _) _ _=o
  obtain ⟨x,en,s,rfl,h2⟩: ∃x en s,o=some (x,en,s)∧_:=by rw [←hg];exact loop23 n1 n2 xs ys hl hlen Ok 0 (by omega) _ _ (by simp only [go_sem]<;>rfl)
  clear hg
  simp only [List.drop_zero] at h2
  by_cases h:xs=ys
  ·rw [if_pos h] at h2
   subst h2
   simp only [go_sem,h]
  ·rw [if_neg h] at h2
   obtain ⟨rfl,h3⟩:=h2
   simp only [go_sem,h3,h]
 ·have hl2:((xs.length:Int)=(ys.length:Int))=False:=eF (by omega)
  have hne: ¬xs=ys:=fun h=>hl (by rw [h])
  simp only [ir23,go_sem,lm_,hl2,hne]
theorem c23M (n1 n2:Bool)(xs ys:List Nat)(hlen:xs.length<1000000)(st:St):run L 23 [sl 1 n1 (xs.map tM),sl 1 n2 (ys.map tM)] st=some (B (decide (xs.map memb=ys.map memb)),st):=by
 have:=c23 n1 n2 (xs.map memb) (ys.map memb) (by simpa using hlen) (fun x hx=>by
  rw [List.mem_map] at hx
  obtain ⟨m,_,rfl⟩:=hx
  have:=z4t m
  omega) st
 rw [List.map_map,List.map_map] at this
 exact this
def cellsI (D:List Int) (k:Nat):List AV:=(D++List.replicate k 0).map I
theorem zdo (D:List Int)(k:Nat):(cellsI D k).length=D.length+k:=by
 unfold cellsI;simp
theorem flatI: ∀A:List Int,flatAV (A.map I)=A.map I
 | []=>rfl
 |p::r=>by
  have:=flatI r
  unfold flatAV at this⊢
  rw [List.map_cons,List.flatMap_cons,this];rfl
theorem zl6 (D A:List Int)(k c:Nat)(hc:c=D.length+(A.length+k))(h0:0<c)(T:List Nat):
  appendmAV 1 false (.rsl 0 0 D.length c 1 false) (A.map I) ⟨[cellsI D (A.length+k)],T⟩=some (.rsl 0 0 (D++A).length c 1 false,⟨[cellsI (D++A) k],T⟩):=by
 have hl:=zdo D (A.length+k)
 simp only [appendmAV,List.getElem?_cons_zero,lm_,Nat.zero_add,flatI]
 rw [if_pos ⟨trivial,trivial,by omega,by omega,by omega⟩,if_pos (by omega),if_pos (by omega),List.length_append]
 have e:(cellsI D (A.length+k)).take (D.length*1)++A.map I++(cellsI D (A.length+k)).drop (D.length*1+A.length)=cellsI (D++A) k:=by
  unfold cellsI
  rw [Nat.mul_one,List.map_append,List.map_append,List.take_left' (by simp),List.drop_append,List.drop_of_length_le (by simp),List.nil_append]
  rw [lm_,Nat.add_sub_cancel_left,←List.map_drop,List.drop_replicate,Nat.add_sub_cancel_left,List.map_append]
 rw [e];rfl
def catX (n1 n2:Bool) (A B:List Int):AV:=.lst .any 1 [sl 1 n1 (A.map I),sl 1 n2 (B.map I)]
def catT (A B:List Int):Nat→Nat
 |0=>0
 |1=>A.length
 |_=>A.length+B.length
theorem zk1 (n1 n2:Bool)(A B:List Int)(hA:A.length<1000)(hB:B.length<1000)(i:Nat)(hok:i≤2)(env:Env)(st:St)
  (hg:gcAV true 0 0 (canon env [0,3,9,10,11]) st=([(0,catX n1 n2 A B),(3,I (catT A B i)),(9,catX n1 n2 A B),(10,I 2),(11,I i)],⟨[],[]⟩)):
  ∃x_1 en s,lim (headed pure (run L) true [0,3,9,10,11] lp111_0 0 0) env st=some (x_1,en,s)∧(x_1=.exit 0∧en.get 0=catX n1 n2 A B∧en.get 3=I (catT A B 2)∧s=⟨[],[]⟩):=by
 refine z8 (α:=Nat) (fun i=>2-i) (fun i=>i≤2) (fun i=>([(0,catX n1 n2 A B),(3,I (catT A B i)),(9,catX n1 n2 A B),(10,I 2),(11,I i)],⟨[],[]⟩)) (fun i x_1 en s=>x_1=.exit 0∧en.get 0=catX n1 n2 A B∧en.get 3=I (catT A B 2)∧s=⟨[],[]⟩) (fun i hok=> ?_) i hok env st hg
 have hX:catX n1 n2 A B=.lst .any 1 [sl 1 n1 (A.map I),sl 1 n2 (B.map I)]:=rfl
 rcases (show i=0∨i=1∨i=2 by omega) with rfl|rfl|rfl
 ·have h0:indexSAV 1 (.lst .any 1 [sl 1 n1 (A.map I),sl 1 n2 (B.map I)]) (.v (.int .i64 0))=some (.eptr (sl 1 n1 (A.map I)) 0):=rfl
  have hlt:(((0:Nat):Int)<2)=True:=eT (by omega)
  have hw1:IntKind.i64.wrap (((catT A B 0:Nat):Int)+(A.length:Int))=((catT A B 1:Nat):Int):=by show IntKind.i64.wrap ((0:Int)+(A.length:Int))=(A.length:Int);rw [zz]<;>omega
  have hs:IntKind.i64.wrap 1=1:=rfl
  have hn:((catT A B 1:Int)<0)=False:=eF (by omega)
  simp only [go_sem,lp111_0,hX,h0,hlt,hw1,hs,hn,lm_]
  refine ⟨0+1,by simp only [go_sem,z3,z4,z5,hX]<;>rfl,?_,?_,fun x en s hq=> ?_⟩
  ·omega
  ·omega
  ·exact hq
 ·have h0:indexSAV 1 (.lst .any 1 [sl 1 n1 (A.map I),sl 1 n2 (B.map I)]) (.v (.int .i64 1))=some (.eptr (sl 1 n2 (B.map I)) 0):=rfl
  have hlt:(((1:Nat):Int)<2)=True:=eT (by omega)
  have hw1:IntKind.i64.wrap (((catT A B 1:Nat):Int)+(B.length:Int))=((catT A B 2:Nat):Int):=by show IntKind.i64.wrap ((A.length:Int)+(B.length:Int))=((A.length+B.length:Nat):Int);rw [zz]<;>omega
  have hs:IntKind.i64.wrap 2=2:=rfl
  have hn:((catT A B 2:Int)<0)=False:=eF (by omega)
  simp only [go_sem,lp111_0,hX,h0,hlt,hw1,hs,hn,lm_]
  refine ⟨1+1,by simp only [go_sem,z3,z4,z5,hX]<;>rfl,?_,?_,fun x en s hq=> ?_⟩
  ·omega
  ·omega
  ·exact hq
 ·have hlt:(((2:Nat):Int)<2)=False:=eF (by omega)
  simp only [go_sem,lp111_0,hlt]
theorem c139 (t:Nat)(h:1≤t)(h2:t<10000):run L 139 [.v (.slice none 0 0),I t] ⟨[],[]⟩=some (.rsl 0 0 0 t 1 false,⟨[cellsI [] t],[]⟩):=by
 rw [z6 (fn:=ir139) rfl rfl]
 have p1:((t:Int)<0)=False:=eF (by omega)
 have p2:((0:Int)<(t:Int))=True:=eT (by omega)
 have hw:IntKind.i64.wrap ((t:Int)-0)=(t:Int):=by rw [zz]<;>omega
 have hg:growAV 1 false [.v (.int .i64 0)] ⟨[],[]⟩ (.v (.slice none 0 0)) (.v (.int .i64 (t:Int)))=some (.rsl 0 0 t t 1 false,⟨[cellsI [] t],[]⟩):=by
  have hm:t≤maxGrow:=by unfold maxGrow;omega
  simp [growAV,makeAV,natOf,hm,show t≠0 by omega,cellsI]
 have hs:sliceAV 1 (.rsl 0 0 t t 1 false) none (some (.v (.int .i64 0))) none=some (.rsl 0 0 0 t 1 false):=by
  simp [sliceAV,natOr,natOf]
 have hs0:sliceAV 1 (.v (.slice none 0 0)) none (some (.v (.int .i64 0))) none=some (.v (.slice none 0 0)):=rfl
 have QJ:IntKind.i64.wrap 0=0:=rfl
 simp only [ir139,go_sem,p1,p2,QJ,hw,hg,hs,hs0,capAV]
def catD (A B:List Int):Nat→List Int
 |0=> []
 |1=>A
 |_=>A++B
theorem zgc (k:Nat)(D:List Int)(m:Nat):okRefs k (cellsI D m)=true:=z0i _ _
theorem zbj (n:Nat)(T:List Nat)(acc:List (Nat×Nat))(D:List Int)(m:Nat):renCells n T acc (cellsI D m)=(cellsI D m,acc):=z01 _ _ _ _
theorem zk0 (n1 n2:Bool)(A B:List Int)(c:Nat)(hc:c=A.length+B.length)(h0:0<c)(i:Nat)(hok:i≤2)(env:Env)(st:St)
  (hg:gcAV true 1 0 (canon env [6,25,26,27]) st=([(6,.rsl 0 0 (catD A B i).length c 1 false),(25,catX n1 n2 A B),(26,I 2),(27,I i)],⟨[cellsI (catD A B i) (c-(catD A B i).length)],[]⟩)):
  ∃x_1 en s,lim (headed pure (run L) true [6,25,26,27] lp111_1 1 0) env st=some (x_1,en,s)∧(x_1=.exit 2∧en.get 6=.rsl 0 0 c c 1 false∧s=⟨[cellsI (A++B) 0],[]⟩):=by
 refine z8 (α:=Nat) (fun i=>2-i) (fun i=>i≤2) (fun i=>([(6,.rsl 0 0 (catD A B i).length c 1 false),(25,catX n1 n2 A B),(26,I 2),(27,I i)],⟨[cellsI (catD A B i) (c-(catD A B i).length)],[]⟩)) (fun i x_1 en s=>x_1=.exit 2∧en.get 6=.rsl 0 0 c c 1 false∧s=⟨[cellsI (A++B) 0],[]⟩) (fun i hok=> ?_) i hok env st hg
 have hX:catX n1 n2 A B=.lst .any 1 [sl 1 n1 (A.map I),sl 1 n2 (B.map I)]:=rfl
 rcases (show i=0∨i=1∨i=2 by omega) with rfl|rfl|rfl
 ·have h1:indexSAV 1 (.lst .any 1 [sl 1 n1 (A.map I),sl 1 n2 (B.map I)]) (.v (.int .i64 0))=some (.eptr (sl 1 n1 (A.map I)) 0):=rfl
  have hs:IntKind.i64.wrap 1=1:=rfl
  have ha:=zl6 [] A B.length c (by simp;omega) h0 []
  rw [List.nil_append,show A.length+B.length=c by omega] at ha
  have e0:catD A B 0=[]:=rfl
  have e1:c-([]:List Int).length=c:=by simp
  have e2:([]:List Int).length=0:=rfl
  have e3:c-A.length=B.length:=by omega
  have e4:catD A B 1=A:=rfl
  rw [e2] at ha e1
  rw [e0,e2,e1]
  simp only [go_sem,lp111_1,hX,h1,hs,ha]
  refine ⟨0+1,by simp only [go_sem,z3,z4,z5,hX,zgc,zbj,e3,e4]<;>rfl,?_,?_,fun x en s hq=> ?_⟩
  ·omega
  ·omega
  ·exact hq
 ·have h1:indexSAV 1 (.lst .any 1 [sl 1 n1 (A.map I),sl 1 n2 (B.map I)]) (.v (.int .i64 1))=some (.eptr (sl 1 n2 (B.map I)) 0):=rfl
  have hs:IntKind.i64.wrap 2=2:=rfl
  have ha:=zl6 A B 0 c (by omega) h0 []
  rw [Nat.add_zero] at ha
  have e0:catD A B 1=A:=rfl
  have e3:c-A.length=B.length:=by omega
  have e4:catD A B 2=A++B:=rfl
  have e5:c-(A++B).length=0:=by rw [List.length_append];omega
  rw [e0,e3]
  simp only [go_sem,lp111_1,hX,h1,hs,ha]
  refine ⟨1+1,by simp only [go_sem,z3,z4,z5,hX,zgc,zbj,e4,e5]<;>rfl,?_,?_,fun x en s hq=> ?_⟩
  ·omega
  ·omega
  ·exact hq
 ·have hlt:(((2:Nat):Int)<2)=False:=eF (by omega)
  have e4:catD A B 2=A++B:=rfl
  have e5:(A++B).length=c:=by rw [List.length_append];omega
  rw [e4,e5,Nat.sub_self]
  simp only [go_sem,lp111_1,hlt]
theorem zmz (st:St)(l m:Nat)(X:List Int)(hm:X.length=m)(h:st.store[l]? =some (X.map I)):fin st (.rsl l 0 m m 1 false)=sl 1 false (X.map I):=by
 subst hm
 have hp:pubs (X.map I)=X.map I:=z8g I (fun _=>rfl) X
 have e:fin st (.rsl l 0 X.length X.length 1 false)=.lst .any 1 (group false 1 X.length (pubs ((X.map I).drop 0))):=by
  simp only [fin,h]
  rw [if_pos (by simp)]
 rw [e,List.drop_zero,hp,zac I (fun _=>rfl)]
 rfl
theorem zna (n:Nat): ∀xs:List Int,shVs n (xs.map I)=xs.map I
 | []=>rfl
 |x::r=>by simp only [List.map_cons,shVs,shV,zna n r]
theorem c111 (n1 n2:Bool)(A B:List Int)(hA:A.length<1000)(hB:B.length<1000)(h0:0<A.length+B.length)(st:St):run L 111 [catX n1 n2 A B] st=some (sl 1 false ((A++B).map I),st):=by
 rw [run_pure (fn:=ir111) rfl rfl]
 have hX:catX n1 n2 A B=.lst .any 1 [sl 1 n1 (A.map I),sl 1 n2 (B.map I)]:=rfl
 simp only [ir111,go_sem,hX]
 generalize hg:lim (headed pure (run L) true _ lp111_0 _ _) _ _=o
 obtain ⟨x,en,s,rfl,h2⟩: ∃x en s,o=some (x,en,s)∧_:=by rw [←hg];exact zk1 n1 n2 A B hA hB 0 (by omega) _ _ (by simp only [go_sem,hX,show catT A B 0=0 from rfl,Int.natCast_zero]<;>rfl)
 clear hg
 obtain ⟨rfl,e0,e3,rfl⟩:=h2
 have hct:catT A B 2=A.length+B.length:=rfl
 rw [hct] at e3
 rw [hX] at e0
 have Ol:=c139 (A.length+B.length) (by omega) (by omega)
 have hcl:(cellsI [] (A.length+B.length)).length=A.length+B.length:=by rw [zdo];simp
 have hsv:shVs 0 (cellsI [] (A.length+B.length))=cellsI [] (A.length+B.length):=by
  unfold cellsI
  exact zna 0 _
 simp only [go_sem,e0,e3,Ol,show pure 139=false from rfl,shStore,shV,shVs,hsv]
 generalize hg:lim (headed pure (run L) true _ lp111_1 _ _) _ _=o
 obtain ⟨x,en,s,rfl,h2⟩: ∃x en s,o=some (x,en,s)∧_:=by rw [←hg];exact zk0 n1 n2 A B (A.length+B.length) rfl h0 0 (by omega) _ _ (by simp only [go_sem,e0,e3,hX,zgc,zbj,show catD A B 0=[] from rfl,List.length_nil,Nat.sub_zero]<;>rfl)
 clear hg
 obtain ⟨rfl,e6,rfl⟩:=h2
 have hf:=zmz ⟨[cellsI (A++B) 0],[]⟩ 0 (A.length+B.length) (A++B) (by simp) (by unfold cellsI;simp)
 simp only [go_sem,e6,hf]
theorem c111J (n1 n2:Bool)(A B:List Nat)(hA:A.length<1000)(hB:B.length<1000)(h0:0<A.length+B.length)(st:St):run L 111 [.lst .any 1 [sl 1 n1 (A.map J),sl 1 n2 (B.map J)]] st=some (sl 1 false ((A++B).map J),st):=by
 have:=c111 n1 n2 (A.map fun (x:Nat)=>(x:Int)) (B.map fun (x:Nat)=>(x:Int)) (by simpa using hA) (by simpa using hB) (by simpa using h0) st
 unfold catX at this
 rw [←List.map_append,List.map_map,List.map_map,List.map_map] at this
 exact this
def badC (m:Nat) (c:Int):Bool:=decide (c<0)||decide ((m:Int)<c)
def lostC (U:List Nat):Bool:=(List.range U.length).any fun c=>decide (itC U U.length (c+1)≠0)
def laneS (L:List Nat) (cu:Nat×Nat):List Nat:=(L.set (cu.1+1) (L.getD (cu.1+1) 0+1)).set cu.2 ((L.set (cu.1+1) (L.getD (cu.1+1) 0+1)).getD cu.2 0+1)
def laneF (U:List Nat):Nat→List Nat→List Nat→List Nat
 |_,[],L=>L
 |c,u::r,L=>laneF U (c+1) r (laneS L (c,u))
def laneL (U:List Nat):List Nat:=laneF U 0 U (List.replicate (U.length+1) 0)
def lackB (W:List Nat) (c k:Nat):Bool:=decide (k<3)&&decide (c ∉ W)
def lackF (W:List Nat):Nat→List Nat→Bool
 |_,[]=>false
 |c,k::r=>lackB W c k||lackF W (c+1) r
def walkO (U:List Nat) (a:Nat):Nat→Nat→List Nat→List Nat
 |0,_,out=>out
 |f+1,at',out=>if at'=0 then out else walkO U a f (upC U at') (out.set (at'-1) (out.getD (at'-1) 0|||2^a))
def outF (U:List Nat):Nat→List Nat→List Nat→List Nat
 |_,[],out=>out
 |a,w::r,out=>outF U (a+1) r (walkO U a U.length w out)
def outL (U W:List Nat):List Nat:=outF U 0 W (List.replicate U.length 0)
def srtB (O:List Nat):Bool:=(List.range (O.length-1)).all fun j=> !lexLt (memb (O.getD (j+1) 0)) (memb (O.getD j 0))
def readN (U W:List Nat):Int×List Nat:=
 if lostC U=true then (12,[]) else if W.getD 0 0≠0 then (5,[]) else if lackF W 0 (laneL U)=true then (4,[]) else if srtB (outL U W)=true then (0,outL U W) else (7,[])
theorem z9n (U:List Nat)(t c:Nat):itC U (t+1) c=upC U (itC U t c):=by
 have:=z28 U t 1 c
 rw [this];rfl
theorem ziq {U:List Nat} {m:Nat} (h: ∀u∈U,u≤m)(c:Nat):upC U c≤m:=by
 unfold upC
 split
 ·omega
 ·rw [List.getD_eq_getElem?_getD]
  cases hc:U[c-1]? with
  |none=>simp
  |some u=>exact h u (List.mem_of_getElem? hc)
theorem zk9 {U:List Nat} {m:Nat} (h: ∀u∈U,u≤m): ∀(t c:Nat),c≤m→itC U t c≤m
 |0,_,hc=>hc
 |t+1,c,_=>zk9 h t _ (ziq h c)
theorem zm7 (x y:AV)(hx1: ∀n,okRef n x=true)(hx2: ∀n T acc,ren1 n T acc x=(x,acc))(V1: ∀n,okRef n y=true)(V2: ∀n T acc,ren1 n T acc y=(y,acc))(m:Nat)(nl:Bool)(A:List Int)(hA:A.length<1000)(i:Nat)(hok:i≤A.length)(env:Env)(st:St)
  (hg:gcAV true 1 0 (canon env [3,6,44,45,46]) st=([(3,.ptr 0 0),(6,J m),(44,sl 1 nl (A.map I)),(45,J A.length),(46,J i)],⟨[[x,y]],[]⟩)):
  ∃x_1 en s,lim (headed pure (run L) true [3,6,44,45,46] lp96_0 1 0) env st=some (x_1,en,s)∧(if (A.drop i).any (badC m)=true then x_1=.ret∧en.get 4=.v (.slice none 0 0)∧en.get 5=I 2 else x_1=.exit 1∧en.get 3=.ptr 0 0∧en.get 6=J m∧s=⟨[[x,y]],[]⟩):=by
 refine z8 (α:=Nat) (fun i=>A.length-i) (fun i=>i≤A.length) (fun i=>([(3,.ptr 0 0),(6,J m),(44,sl 1 nl (A.map I)),(45,J A.length),(46,J i)],⟨[[x,y]],[]⟩)) (fun i x_1 en s=>if (A.drop i).any (badC m)=true then x_1=.ret∧en.get 4=.v (.slice none 0 0)∧en.get 5=I 2 else x_1=.exit 1∧en.get 3=.ptr 0 0∧en.get 6=J m∧s=⟨[[x,y]],[]⟩) (fun i hok=> ?_) i hok env st hg
 by_cases h:i<A.length
 ·have hx:=z10 nl A i h
  have hs:=za i (by omega)
  have hd:A.drop i=A[i]::A.drop (i+1):=List.drop_eq_getElem_cons h
  have hlt:((i:Int)<(A.length:Int))=True:=eT (by omega)
  rw [hd,List.any_cons]
  generalize A[i]=a at*
  by_cases p1:a<0
  ·have e:badC m a=true:=by unfold badC;rw [decide_eq_true p1,Bool.true_or]
   rw [e,Bool.true_or]
   simp only [go_sem,lp96_0,hlt,hx,p1]
  ·by_cases p2:(m:Int)<a
   ·have e:badC m a=true:=by unfold badC;rw [decide_eq_true p2,Bool.or_true]
    rw [e,Bool.true_or]
    simp only [go_sem,lp96_0,hlt,hx,p1,p2]
   ·have e:badC m a=false:=by unfold badC;rw [decide_eq_false p1,decide_eq_false p2];rfl
    rw [e,Bool.false_or]
    simp only [go_sem,lp96_0,hlt,hx,p1,p2,hs]
    refine ⟨i+1,by simp only [go_sem,z3,z4,z5,hx1,hx2,V1,V2]<;>rfl,?_,?_,fun x en s hq=> ?_⟩
    ·omega
    ·omega
    ·exact hq
 ·have hd:A.drop i=[]:=List.drop_eq_nil_of_le (by omega)
  have hlt:((i:Int)<(A.length:Int))=False:=eF (by omega)
  rw [hd,List.any_nil]
  simp only [go_sem,lp96_0,hlt]
theorem zh4 (y:AV)(V1: ∀n,okRef n y=true)(V2: ∀n T acc,ren1 n T acc y=(y,acc))(nu:Bool)(U:List Nat)(hU: ∀u∈U,u≤U.length)(hl:U.length≤13)(c:Nat)(hc:c≤U.length)(t:Nat)(w:Nat)(hok:t≤U.length∧w=itC U t c∧w≤U.length)(env:Env)(st:St)
  (hg:gcAV true 1 0 (canon env [3,6,10,60,61,66,67]) st=([(3,.ptr 0 0),(6,J U.length),(10,J w),(60,J U.length),(61,J (c-1)),(66,J U.length),(67,J t)],⟨[[sl 1 nu (U.map J),y]],[]⟩)):
  ∃x_1 en s,lim (headed pure (run L) true [3,6,10,60,61,66,67] lp96_1 1 0) env st=some (x_1,en,s)∧(x_1=.exit 5∧en.get 3=.ptr 0 0∧en.get 6=J U.length∧en.get 10=J (itC U U.length c)∧en.get 60=J U.length∧en.get 61=J (c-1)∧s=⟨[[sl 1 nu (U.map J),y]],[]⟩):=by
 refine z8 (α:=Nat×Nat) (fun ⟨t,w⟩=>U.length-t) (fun ⟨t,w⟩=>t≤U.length∧w=itC U t c∧w≤U.length) (fun ⟨t,w⟩=>([(3,.ptr 0 0),(6,J U.length),(10,J w),(60,J U.length),(61,J (c-1)),(66,J U.length),(67,J t)],⟨[[sl 1 nu (U.map J),y]],[]⟩)) (fun ⟨t,w⟩ x_1 en s=>x_1=.exit 5∧en.get 3=.ptr 0 0∧en.get 6=J U.length∧en.get 10=J (itC U U.length c)∧en.get 60=J U.length∧en.get 61=J (c-1)∧s=⟨[[sl 1 nu (U.map J),y]],[]⟩) (fun ⟨t,w⟩ hok=> ?_) ⟨t,w⟩ hok env st hg
 simp only at hok
 obtain ⟨h1,h2,h3⟩:=hok
 dsimp only at h1 h2 h3⊢
 by_cases h:t<U.length
 ·have hs:=za t (by omega)
  have hlt:((t:Int)<(U.length:Int))=True:=eT (by omega)
  have Q5:=z9n U t c
  rw [←h2] at Q5
  by_cases p:0<w
  ·have q:((0:Int)<(w:Int))=True:=eT (by omega)
   have hw:=zu w p (by omega)
   have hx:=z5n J nu U (w-1) (by omega)
   have hu:upC U w=U[w-1]'(by omega):=by
    unfold upC;rw [if_neg (by omega),List.getD_eq_getElem?_getD,List.getElem?_eq_getElem (by omega)];rfl
   have hle:=ziq hU w
   rw [hu] at Q5 hle
   generalize U[w-1]'(by omega)=v at*
   simp only [go_sem,lp96_1,hlt,hs,q,hw,hx]
   refine ⟨(t+1,v),by simp only [go_sem,z3,z4,z5,V1,V2]<;>rfl,?_,?_,fun x en s hq=> ?_⟩
   ·dsimp only;exact ⟨by omega,Q5.symm,hle⟩
   ·dsimp only;omega
   ·exact hq
  ·have q:((0:Int)<(w:Int))=False:=eF (by omega)
   have w0:w=0:=by omega
   simp only [go_sem,lp96_1,hlt,hs,q]
   refine ⟨(t+1,w),by simp only [go_sem,z3,z4,z5,V1,V2]<;>rfl,?_,?_,fun x en s hq=> ?_⟩
   ·dsimp only;exact ⟨by omega,by rw [Q5,w0];rfl,h3⟩
   ·dsimp only;omega
   ·exact hq
 ·have e:t=U.length:=by omega
  subst e
  have hlt:((U.length:Int)<(U.length:Int))=False:=eF (by omega)
  rw [←h2]
  simp only [go_sem,lp96_1,hlt]
def lostTo (U:List Nat) (i:Nat):Bool:=(List.range' i (U.length-i)).any fun c=>decide (itC U U.length (c+1)≠0)
theorem zm6 (y:AV)(V1: ∀n,okRef n y=true)(V2: ∀n T acc,ren1 n T acc y=(y,acc))(nu:Bool)(U:List Nat)(hU: ∀u∈U,u≤U.length)(hl:U.length≤13)(i:Nat)(hok:i≤U.length)(env:Env)(st:St)
  (hg:gcAV true 1 0 (canon env [3,6,60,61]) st=([(3,.ptr 0 0),(6,J U.length),(60,J U.length),(61,J i)],⟨[[sl 1 nu (U.map J),y]],[]⟩)):
  ∃x_1 en s,lim (headed pure (run L) true [3,6,60,61] lp96_2 1 0) env st=some (x_1,en,s)∧(if lostTo U i=true then x_1=.ret∧en.get 4=.v (.slice none 0 0)∧en.get 5=I 12 else x_1=.exit 3∧en.get 3=.ptr 0 0∧en.get 6=J U.length∧s=⟨[[sl 1 nu (U.map J),y]],[]⟩):=by
 refine z8 (α:=Nat) (fun i=>U.length-i) (fun i=>i≤U.length) (fun i=>([(3,.ptr 0 0),(6,J U.length),(60,J U.length),(61,J i)],⟨[[sl 1 nu (U.map J),y]],[]⟩)) (fun i x_1 en s=>if lostTo U i=true then x_1=.ret∧en.get 4=.v (.slice none 0 0)∧en.get 5=I 12 else x_1=.exit 3∧en.get 3=.ptr 0 0∧en.get 6=J U.length∧s=⟨[[sl 1 nu (U.map J),y]],[]⟩) (fun i hok=> ?_) i hok env st hg
 by_cases h:i<U.length
 ·have hs:=za i (by omega)
  have hlt:((i:Int)<(U.length:Int))=True:=eT (by omega)
  have e0:lostTo U i=(decide (itC U U.length (i+1)≠0)||lostTo U (i+1)):=by
   unfold lostTo
   rw [show U.length-i=(U.length-(i+1))+1 by omega,List.range'_succ,List.any_cons]
  by_cases p:itC U U.length (i+1)=0
  ·have e:lostTo U i=lostTo U (i+1):=by rw [e0,decide_eq_false (by simpa using p),Bool.false_or]
   rw [e]
   simp only [go_sem,lp96_2,hlt,hs]
   generalize hg:lim (headed pure (run L) true _ lp96_1 _ _) _ _=o
   obtain ⟨x,en,s,rfl,h2⟩: ∃x en s,o=some (x,en,s)∧_:=by rw [←hg];exact zh4 y V1 V2 nu U hU hl (i+1) (by omega) 0 (i+1) ⟨by omega,rfl,by omega⟩ _ _ (by simp only [go_sem,V1,V2,Int.natCast_zero,show i+1-1=i from rfl]<;>rfl)
   clear hg
   obtain ⟨rfl,e3,e6,e10,e60,e61,rfl⟩:=h2
   rw [show i+1-1=i from rfl] at e61
   rw [p] at e10
   have q:((0:Int)<((0:Nat):Int))=False:=eF (by omega)
   simp only [go_sem,lp96_2,e3,e6,e10,e60,e61,q,hs]
   refine ⟨i+1,by simp only [go_sem,z3,z4,z5,e3,e6,e60,V1,V2]<;>rfl,?_,?_,fun x en s hq=> ?_⟩
   ·omega
   ·omega
   ·exact hq
  ·have e:lostTo U i=true:=by rw [e0,decide_eq_true (by simpa using p),Bool.true_or]
   rw [e]
   simp only [go_sem,lp96_2,hlt,hs]
   generalize hg:lim (headed pure (run L) true _ lp96_1 _ _) _ _=o
   obtain ⟨x,en,s,rfl,h2⟩: ∃x en s,o=some (x,en,s)∧_:=by rw [←hg];exact zh4 y V1 V2 nu U hU hl (i+1) (by omega) 0 (i+1) ⟨by omega,rfl,by omega⟩ _ _ (by simp only [go_sem,V1,V2,Int.natCast_zero,show i+1-1=i from rfl]<;>rfl)
   clear hg
   obtain ⟨rfl,e3,e6,e10,e60,e61,rfl⟩:=h2
   rw [show i+1-1=i from rfl] at e61
   generalize itC U U.length (i+1)=z at*
   have q:((0:Int)<(z:Int))=True:=eT (by omega)
   simp only [go_sem,lp96_2,e3,e6,e10,e60,e61,q]
 ·have hlt:((i:Int)<(U.length:Int))=False:=eF (by omega)
  have e:lostTo U i=false:=by unfold lostTo;rw [show U.length-i=0 by omega];rfl
  rw [e]
  simp only [go_sem,lp96_2,hlt]
theorem zbw (L:List Nat)(cu:Nat×Nat):(laneS L cu).length=L.length:=by unfold laneS;simp
theorem zd8 (U:List Nat): ∀(us:List Nat) (c:Nat) (L:List Nat),(laneF U c us L).length=L.length
 | [],_,_=>rfl
 |u::r,c,L=>by
  show (laneF U (c+1) r (laneS L (c,u))).length=L.length
  rw [zd8 U r,zbw]
theorem z3x (L:List Nat)(i v k:Nat):(L.set i v).getD k 0=if i=k∧k<L.length then v else L.getD k 0:=by
 rw [List.getD_eq_getElem?_getD,List.getD_eq_getElem?_getD,List.getElem?_set]
 by_cases h:i=k
 ·subst h
  by_cases h2:i<L.length
  ·simp [h2]
  ·rw [if_pos rfl,if_neg h2,if_neg (by simp [h2]),List.getElem?_eq_none (by omega)]
 ·rw [if_neg h,if_neg (by simp [h])]
theorem zh6 {Q:List Nat} {b:Nat} (h: ∀k,Q.getD k 0≤b)(cu:Nat×Nat): ∀k,(laneS Q cu).getD k 0≤b+2:=by
 intro k
 have h1: ∀k,(Q.set (cu.1+1) (Q.getD (cu.1+1) 0+1)).getD k 0≤b+1:=by
  intro k
  rw [z3x]
  split
  ·have:=h (cu.1+1);omega
  ·have:=h k;omega
 unfold laneS
 rw [z3x]
 split
 ·have:=h1 cu.2;omega
 ·have:=h1 k;omega
theorem zm5 (y:AV)(V1: ∀n,okRef n y=true)(V2: ∀n T acc,ren1 n T acc y=(y,acc))(nu:Bool)(U:List Nat)(hU: ∀u∈U,u≤U.length)(hl:U.length≤13)(i:Nat)(Q:List Nat)(hok:i≤U.length∧Q.length=U.length+1∧∀k,Q.getD k 0≤2*i)(env:Env)(st:St)
  (hg:gcAV true 2 0 (canon env [3,6,11,90,91,92]) st=([(3,.ptr 0 0),(6,J U.length),(11,.rsl 1 0 (U.length+1) (U.length+1) 1 false),(90,sl 1 nu (U.map J)),(91,J U.length),(92,J i)],⟨[[sl 1 nu (U.map J),y],Q.map J],[]⟩)):
  ∃x_1 en s,lim (headed pure (run L) true [3,6,11,90,91,92] lp96_3 2 0) env st=some (x_1,en,s)∧(x_1=.exit 7∧en.get 3=.ptr 0 0∧en.get 6=J U.length∧en.get 11=.rsl 1 0 (U.length+1) (U.length+1) 1 false∧s=⟨[[sl 1 nu (U.map J),y],(laneF U i (U.drop i) Q).map J],[]⟩):=by
 refine z8 (α:=Nat×List Nat) (fun ⟨i,Q⟩=>U.length-i) (fun ⟨i,Q⟩=>i≤U.length∧Q.length=U.length+1∧∀k,Q.getD k 0≤2*i) (fun ⟨i,Q⟩=>([(3,.ptr 0 0),(6,J U.length),(11,.rsl 1 0 (U.length+1) (U.length+1) 1 false),(90,sl 1 nu (U.map J)),(91,J U.length),(92,J i)],⟨[[sl 1 nu (U.map J),y],Q.map J],[]⟩)) (fun ⟨i,Q⟩ x_1 en s=>x_1=.exit 7∧en.get 3=.ptr 0 0∧en.get 6=J U.length∧en.get 11=.rsl 1 0 (U.length+1) (U.length+1) 1 false∧s=⟨[[sl 1 nu (U.map J),y],(laneF U i (U.drop i) Q).map J],[]⟩) (fun ⟨i,Q⟩ hok=> ?_) ⟨i,Q⟩ hok env st hg
 simp only at hok
 obtain ⟨h1,h2,h3⟩:=hok
 dsimp only at h1 h2 h3⊢
 by_cases h:i<U.length
 ·have hs:=za i (by omega)
  have hlt:((i:Int)<(U.length:Int))=True:=eT (by omega)
  have hx:=z5n J nu U i h
  have hd:U.drop i=U[i]::U.drop (i+1):=List.drop_eq_getElem_cons h
  have hu:=hU U[i] (List.getElem_mem h)
  have Om:laneF U i (U[i]::U.drop (i+1)) Q=laneF U (i+1) (U.drop (i+1)) (laneS Q (i,U[i])):=rfl
  rw [hd,Om]
  generalize U[i]=u at*
  have hsl:=zbw Q (i,u)
  have Qv:laneS Q (i,u)=(Q.set (i+1) (Q.getD (i+1) 0+1)).set u ((Q.set (i+1) (Q.getD (i+1) 0+1)).getD u 0+1):=rfl
  have c1:(((i+1:Nat):Int)<((U.length+1:Nat):Int))=True:=eT (by omega)
  have c2:(i+1+1≤U.length+1)=True:=eT (by omega)
  have c3:((u:Int)<((U.length+1:Nat):Int))=True:=eT (by omega)
  have c4:(u+1≤U.length+1)=True:=eT (by omega)
  have g1:=getJ Q (i+1) (by omega)
  have hle:=zh6 h3 (i,u)
  have hw1:IntKind.i64.wrap (((Q.getD (i+1) 0:Nat):Int)+1)=((Q.getD (i+1) 0+1:Nat):Int):=za _ (by have:=h3 (i+1);omega)
  have hs1:=setJ Q (i+1) (Q.getD (i+1) 0+1)
  have OJ:(Q.set (i+1) (Q.getD (i+1) 0+1)).length=U.length+1:=by rw [List.length_set,h2]
  have Y8: ∀k,(Q.set (i+1) (Q.getD (i+1) 0+1)).getD k 0≤2*i+1:=by
   intro k
   rw [z3x]
   split
   ·have:=h3 (i+1);omega
   ·have:=h3 k;omega
  generalize Q.getD (i+1) 0=v at*
  generalize Vo:Q.set (i+1) (v+1)=Q1 at*
  have g2:=getJ Q1 u (by omega)
  have hw2:IntKind.i64.wrap (((Q1.getD u 0:Nat):Int)+1)=((Q1.getD u 0+1:Nat):Int):=za _ (by have:=Y8 u;omega)
  have hs2:=setJ Q1 u (Q1.getD u 0+1)
  rw [←Qv] at hs2
  generalize Q1.getD u 0=v2 at*
  generalize laneS Q (i,u)=Q2 at*
  have Qp:(Q.map J).length=U.length+1:=by rw [lm_,h2]
  have Y9:(Q1.map J).length=U.length+1:=by rw [lm_,OJ]
  simp only [go_sem,lp96_3,hlt,hs,hx,c1,c2,c3,c4,g1,hw1,hs1,g2,hw2,hs2,Qp,Y9,h2,OJ,nn_,lm_]
  refine ⟨(i+1,Q2),by simp only [go_sem,z3,z4,z5,V1,V2,z4q,z12]<;>rfl,?_,?_,fun x en s hq=> ?_⟩
  ·dsimp only;exact ⟨by omega,by omega,hle⟩
  ·dsimp only;omega
  ·exact hq
 ·have e:U.drop i=[]:=List.drop_eq_nil_of_le (by omega)
  have hlt:((i:Int)<(U.length:Int))=False:=eF (by omega)
  rw [e]
  simp only [go_sem,lp96_3,hlt]
  rfl
theorem all134:(List.range 100).map (fun k=>(callAV L 400 134 [J k,B true] ⟨[],[]⟩,callAV L 400 134 [J k,B false] ⟨[],[]⟩))=(List.range 100).map (fun k=>(some (I 0,(⟨[],[]⟩:St)),some (I (if k<3 then 4 else 0),(⟨[],[]⟩:St)))):=by kernel_rfl
theorem c134 (k:Nat)(hk:k<100)(b:Bool)(st:St):run L 134 [J k,B b] st=some (I (if k<3∧b=false then 4 else 0),st):=by
 have h:=z89 all134 k hk
 simp only [Prod.mk.injEq] at h
 cases b
 ·have:=z4b (fn:=ir134) rfl rfl (z11 L 400 _ _ _ _ h.2) st
  simpa using this
 ·have:=z4b (fn:=ir134) rfl rfl (z11 L 400 _ _ _ _ h.1) st
  simpa using this
theorem zc2 (a:Int): ∀(l:List Int) (i:Nat),decide (0≤indexOf a l i)=decide (a∈l)
 | [],i=>by simp [indexOf]
 |b::r,i=>by
  have ih:=zc2 a r (i+1)
  simp only [indexOf]
  by_cases h:a=b
  ·subst h;simp
  ·have h2: ¬b=a:=fun e=>h e.symm
   simp only [h,h2,if_false,List.mem_cons,false_or]
   exact ih
theorem c112 (nl:Bool)(W:List Nat)(hlen:W.length<1000000)(a:Nat)(st:St):run L 112 [sl 1 nl (W.map J),J a] st=some (B (decide (a∈W)),st):=by
 rw [run_pure (fn:=ir112) rfl rfl]
 have e:W.map J=(W.map fun (x:Nat)=>(x:Int)).map I:=by rw [List.map_map];rfl
 have OK:=fun st=>c59 nl (W.map fun (x:Nat)=>(x:Int)) (by simpa using hlen) (a:Int) st
 rw [←e] at OK
 have hm:=zc2 (a:Int) (W.map fun (x:Nat)=>(x:Int)) 0
 have Va:((a:Int)∈W.map fun (x:Nat)=>(x:Int))↔a∈W:=by
  rw [List.mem_map]
  constructor
  ·rintro ⟨x,hx,e⟩
   have:x=a:=by omega
   subst this;exact hx
  ·intro h;exact ⟨a,h,rfl⟩
 simp only [Va] at hm
 simp only [ir112,go_sem,OK,hm]
theorem zm4 (x:AV)(hx1: ∀n,okRef n x=true)(hx2: ∀n T acc,ren1 n T acc x=(x,acc))(nw:Bool)(W:List Nat)(hW:W.length<1000)(m:Nat)(Q:List Nat)(hQ:Q.length=m)(hm:m≤14)(Ki: ∀k,Q.getD k 0<100)(i:Nat)(hok:i≤m)(env:Env)(st:St)
  (hg:gcAV true 2 0 (canon env [3,6,111,112,113]) st=([(3,.ptr 0 0),(6,J (m-1)),(111,.rsl 1 0 m m 1 false),(112,J m),(113,J i)],⟨[[x,sl 1 nw (W.map J)],Q.map J],[]⟩)):
  ∃x_1 en s,lim (headed pure (run L) true [3,6,111,112,113] lp96_4 2 0) env st=some (x_1,en,s)∧(if lackF W i (Q.drop i)=true then x_1=.ret∧en.get 4=.v (.slice none 0 0)∧en.get 5=I 4 else x_1=.exit 9∧en.get 3=.ptr 0 0∧en.get 6=J (m-1)∧s=⟨[[x,sl 1 nw (W.map J)],Q.map J],[]⟩):=by
 refine z8 (α:=Nat) (fun i=>m-i) (fun i=>i≤m) (fun i=>([(3,.ptr 0 0),(6,J (m-1)),(111,.rsl 1 0 m m 1 false),(112,J m),(113,J i)],⟨[[x,sl 1 nw (W.map J)],Q.map J],[]⟩)) (fun i x_1 en s=>if lackF W i (Q.drop i)=true then x_1=.ret∧en.get 4=.v (.slice none 0 0)∧en.get 5=I 4 else x_1=.exit 9∧en.get 3=.ptr 0 0∧en.get 6=J (m-1)∧s=⟨[[x,sl 1 nw (W.map J)],Q.map J],[]⟩) (fun i hok=> ?_) i hok env st hg
 by_cases h:i<m
 ·have hs:=za i (by omega)
  have hlt:((i:Int)<(m:Int))=True:=eT (by omega)
  have hil:(i+1≤m)=True:=eT (by omega)
  have hg:=getJ Q i (by omega)
  have hd:Q.drop i=Q.getD i 0::Q.drop (i+1):=by
   rw [List.drop_eq_getElem_cons (by omega)];simp [List.getD_eq_getElem?_getD,show i<Q.length by omega]
  have hb:=Ki i
  have Qp:(Q.map J).length=m:=by rw [lm_,hQ]
  rw [hd]
  generalize Q.getD i 0=k at*
  have Om:lackF W i (k::Q.drop (i+1))=(lackB W i k||lackF W (i+1) (Q.drop (i+1))):=rfl
  rw [Om]
  have QV:=fun st=>c112 nw W (by omega) i st
  have Qq:=fun st=>c134 k hb (decide (i∈W)) st
  by_cases p:k<3∧decide (i∈W)=false
  ·have e:lackB W i k=true:=by unfold lackB;simp only [p.1,decide_true,Bool.true_and];simpa using p.2
   rw [if_pos p] at Qq
   rw [e,Bool.true_or]
   generalize decide (i∈W)=bb at*
   simp only [go_sem,lp96_4,hlt,hil,hg,Qp,hQ,QV,Qq,nn_,lm_]
  ·have e:lackB W i k=false:=by
    unfold lackB
    rw [Bool.and_eq_false_iff]
    by_cases q:k<3
    ·right
     have:decide (i∈W)≠false:=fun h=>p ⟨q,h⟩
     simp at this
     simp [this]
    ·left;simp [q]
   rw [if_neg p] at Qq
   rw [e,Bool.false_or]
   generalize decide (i∈W)=bb at*
   simp only [go_sem,lp96_4,hlt,hs,hil,hg,Qp,hQ,QV,Qq,nn_,lm_]
   refine ⟨i+1,by simp only [go_sem,z3,z4,z5,hx1,hx2,z4q,z12]<;>rfl,?_,?_,fun x en s hq=> ?_⟩
   ·omega
   ·omega
   ·exact hq
 ·have e:Q.drop i=[]:=List.drop_eq_nil_of_le (by omega)
  have hlt:((i:Int)<(m:Int))=False:=eF (by omega)
  rw [e]
  have e2:lackF W i []=false:=rfl
  rw [e2]
  simp only [go_sem,lp96_4,hlt]
theorem zax (U:List Nat)(a:Nat)(ha:a<8): ∀(f w:Nat) (O:List Nat),(∀k,O.getD k 0<256)→(walkO U a f w O).length=O.length∧∀k,(walkO U a f w O).getD k 0<256
 |0,_,_,h=>⟨rfl,h⟩
 |f+1,w,O,h=>by
  unfold walkO
  split
  ·exact ⟨rfl,h⟩
  ·have hb: ∀k,(O.set (w-1) (O.getD (w-1) 0|||2^a)).getD k 0<256:=by
    intro k
    rw [z3x]
    split
    ·exact Nat.or_lt_two_pow (n:=8) (h _) (Nat.pow_lt_pow_right (by omega) ha)
    ·exact h k
   have ih:=zax U a ha f (upC U w) _ hb
   exact ⟨by rw [ih.1,List.length_set],ih.2⟩
theorem z94 (U:List Nat): ∀(W:List Nat) (a:Nat) (O:List Nat),a+W.length≤8→(∀k,O.getD k 0<256)→(outF U a W O).length=O.length∧∀k,(outF U a W O).getD k 0<256
 | [],_,_,_,h=>⟨rfl,h⟩
 |w::r,a,O,hl,h=>by
  rw [List.length_cons] at hl
  have h1:=zax U a (by omega) U.length w O h
  have ih:=z94 U r (a+1) (walkO U a U.length w O) (by omega) h1.2
  exact ⟨ih.1.trans h1.1,ih.2⟩
theorem set8 (O:List Nat)(i v:Nat):(O.map u8).set i (u8 v)=(O.set i v).map u8:=by rw [List.map_set]
theorem zm3 (y:AV)(V1: ∀n,okRef n y=true)(V2: ∀n T acc,ren1 n T acc y=(y,acc))(nu:Bool)(U:List Nat)(hU: ∀u∈U,u≤U.length)(hl:U.length≤13)(Q:List Nat)(X:AV)(hX1: ∀n,okRef n X=true)(hX2: ∀n T acc,ren1 n T acc X=(X,acc))(k a:Nat)(ha:a<8)(f:Nat)(w:Nat)(O:List Nat)(hok:itC U f w=0∧w≤U.length∧O.length=U.length∧∀k,O.getD k 0<256)(env:Env)(st:St)
  (hg:gcAV true 3 0 (canon env [3,17,18,19,131,132,133]) st=([(3,.ptr 0 0),(17,.rsl 2 0 U.length U.length 1 true),(18,J a),(19,J w),(131,X),(132,J k),(133,J a)],⟨[[sl 1 nu (U.map J),y],Q.map J,O.map u8],[]⟩)):
  ∃x_1 en s,lim (headed pure (run L) true [3,17,18,19,131,132,133] lp96_5 3 0) env st=some (x_1,en,s)∧(x_1=.exit 13∧en.get 3=.ptr 0 0∧en.get 17=.rsl 2 0 U.length U.length 1 true∧en.get 131=X∧en.get 132=J k∧en.get 133=J a∧s=⟨[[sl 1 nu (U.map J),y],Q.map J,(walkO U a f w O).map u8],[]⟩):=by
 refine z8 (α:=Nat×Nat×List Nat) (fun ⟨f,w,O⟩=>f) (fun ⟨f,w,O⟩=>itC U f w=0∧w≤U.length∧O.length=U.length∧∀k,O.getD k 0<256) (fun ⟨f,w,O⟩=>([(3,.ptr 0 0),(17,.rsl 2 0 U.length U.length 1 true),(18,J a),(19,J w),(131,X),(132,J k),(133,J a)],⟨[[sl 1 nu (U.map J),y],Q.map J,O.map u8],[]⟩)) (fun ⟨f,w,O⟩ x_1 en s=>x_1=.exit 13∧en.get 3=.ptr 0 0∧en.get 17=.rsl 2 0 U.length U.length 1 true∧en.get 131=X∧en.get 132=J k∧en.get 133=J a∧s=⟨[[sl 1 nu (U.map J),y],Q.map J,(walkO U a f w O).map u8],[]⟩) (fun ⟨f,w,O⟩ hok=> ?_) ⟨f,w,O⟩ hok env st hg
 simp only at hok
 obtain ⟨h1,h2,h3,h4⟩:=hok
 dsimp only at h1 h2 h3 h4⊢
 by_cases h:w=0
 ·subst h
  have e:walkO U a f 0 O=O:=by
   cases f with
   |zero=>rfl
   |succ f=>unfold walkO;rw [if_pos rfl]
  rw [e]
  have q:((0:Int)<((0:Nat):Int))=False:=eF (by omega)
  simp only [go_sem,lp96_5,q]
 ·cases f with
  |zero=>exact absurd h1 h
  |succ f=>
   have q:((0:Int)<(w:Int))=True:=eT (by omega)
   have hw:=zu w (by omega) (by omega)
   have hx:=z5n J nu U (w-1) (by omega)
   have hu:upC U w=U[w-1]'(by omega):=by
    unfold upC;rw [if_neg h,List.getD_eq_getElem?_getD,List.getElem?_eq_getElem (by omega)];rfl
   have hle:=ziq hU w
   have h1:itC U f (upC U w)=0:=h1
   have e:walkO U a (f+1) w O=walkO U a f (upC U w) (O.set (w-1) (O.getD (w-1) 0|||2^a)):=by
    show (if w=0 then O else _)=_
    rw [if_neg h]
   rw [e]
   rw [hu] at hle h1⊢
   generalize U[w-1]'(by omega)=v at*
   have OL:=h4 (w-1)
   have hg:=get8 O (w-1) (by omega)
   have VO:2^a<256:=Nat.pow_lt_pow_right (n:=8) (by omega) ha
   have hsh:=shl8 a ha
   have Oi:=or8 (O.getD (w-1) 0) (2^a) OL VO
   have hst:=set8 O (w-1) (O.getD (w-1) 0|||2^a)
   have Qj: ∀k,(O.set (w-1) (O.getD (w-1) 0|||2^a)).getD k 0<256:=by
    intro k
    rw [z3x]
    split
    ·exact Nat.or_lt_two_pow (n:=8) OL VO
    ·exact h4 k
   have Kj:(O.set (w-1) (O.getD (w-1) 0|||2^a)).length=U.length:=by rw [List.length_set,h3]
   generalize O.getD (w-1) 0=ov at*
   generalize O.set (w-1) (ov|||2^a)=O2 at*
   generalize ov|||2^a=ow at*
   have Qp:(O.map u8).length=U.length:=by rw [lm_,h3]
   have c1:(((w-1:Nat):Int)<(U.length:Int))=True:=eT (by omega)
   have c2:(w-1+1≤U.length)=True:=eT (by omega)
   simp only [go_sem,lp96_5,q,hw,hx,c1,c2,hg,hsh,Oi,hst,Qp,h3,nn_,lm_]
   refine ⟨(f,v,O2),by simp only [go_sem,z3,z4,z5,V1,V2,hX1,hX2,z4q,z12,z5l,z23]<;>rfl,?_,?_,fun x en s hq=> ?_⟩
   ·dsimp only;exact ⟨h1,hle,Kj,Qj⟩
   ·dsimp only;omega
   ·exact hq
theorem zm2 (nu nw:Bool)(U W:List Nat)(hU: ∀u∈U,u≤U.length)(hW: ∀w∈W,w≤U.length)(hl:U.length≤13)(hWl:W.length≤8)(YA: ∀w,w≤U.length→itC U U.length w=0)(Q:List Nat)(i:Nat)(O:List Nat)(hok:i≤W.length∧O.length=U.length∧∀k,O.getD k 0<256)(env:Env)(st:St)
  (hg:gcAV true 3 0 (canon env [3,17,131,132,133]) st=([(3,.ptr 0 0),(17,.rsl 2 0 U.length U.length 1 true),(131,sl 1 nw (W.map J)),(132,J W.length),(133,J i)],⟨[[sl 1 nu (U.map J),sl 1 nw (W.map J)],Q.map J,O.map u8],[]⟩)):
  ∃x_1 en s,lim (headed pure (run L) true [3,17,131,132,133] lp96_6 3 0) env st=some (x_1,en,s)∧(x_1=.exit 11∧en.get 17=.rsl 2 0 U.length U.length 1 true∧s=⟨[[sl 1 nu (U.map J),sl 1 nw (W.map J)],Q.map J,(outF U i (W.drop i) O).map u8],[]⟩):=by
 refine z8 (α:=Nat×List Nat) (fun ⟨i,O⟩=>W.length-i) (fun ⟨i,O⟩=>i≤W.length∧O.length=U.length∧∀k,O.getD k 0<256) (fun ⟨i,O⟩=>([(3,.ptr 0 0),(17,.rsl 2 0 U.length U.length 1 true),(131,sl 1 nw (W.map J)),(132,J W.length),(133,J i)],⟨[[sl 1 nu (U.map J),sl 1 nw (W.map J)],Q.map J,O.map u8],[]⟩)) (fun ⟨i,O⟩ x_1 en s=>x_1=.exit 11∧en.get 17=.rsl 2 0 U.length U.length 1 true∧s=⟨[[sl 1 nu (U.map J),sl 1 nw (W.map J)],Q.map J,(outF U i (W.drop i) O).map u8],[]⟩) (fun ⟨i,O⟩ hok=> ?_) ⟨i,O⟩ hok env st hg
 simp only at hok
 obtain ⟨h1,h2,h3⟩:=hok
 dsimp only at h1 h2 h3⊢
 by_cases h:i<W.length
 ·have hs:=za i (by omega)
  have hlt:((i:Int)<(W.length:Int))=True:=eT (by omega)
  have hx:=z5n J nw W i h
  have hd:W.drop i=W[i]::W.drop (i+1):=List.drop_eq_getElem_cons h
  have hw:=hW W[i] (List.getElem_mem h)
  have hof:outF U i (W[i]::W.drop (i+1)) O=outF U (i+1) (W.drop (i+1)) (walkO U i U.length W[i] O):=rfl
  rw [hd,hof]
  generalize W[i]=w at*
  have Q6:=zax U i (by omega) U.length w O h3
  simp only [go_sem,lp96_6,hlt,hs,hx]
  generalize hg:lim (headed pure (run L) true _ lp96_5 _ _) _ _=o
  obtain ⟨x,en,s,rfl,h2⟩: ∃x en s,o=some (x,en,s)∧_:=by rw [←hg];exact zm3 (sl 1 nw (W.map J)) (fun n=>z1a _ _ _ _) (fun n T acc=>z3u _ _ _ _ _ _) nu U hU hl Q (sl 1 nw (W.map J)) (fun n=>z1a _ _ _ _) (fun n T acc=>z3u _ _ _ _ _ _) W.length i (by omega) U.length w O ⟨YA w hw,hw,h2,h3⟩ _ _ (by simp only [go_sem,z4q,z12,z5l,z23]<;>rfl)
  clear hg
  generalize walkO U i U.length w O=O2 at*
  obtain ⟨rfl,e3,e17,e131,e132,e133,rfl⟩:=h2
  simp only [go_sem,lp96_6,e3,e17,e131,e132,e133,hs]
  refine ⟨(i+1,O2),by simp only [go_sem,z3,z4,z5,e3,e17,e131,e132,e133,z4q,z12,z5l,z23]<;>rfl,?_,?_,fun x en s hq=> ?_⟩
  ·dsimp only;exact ⟨by omega,by omega,Q6.2⟩
  ·dsimp only;omega
  ·exact hq
 ·have e:W.drop i=[]:=List.drop_eq_nil_of_le (by omega)
  have hlt:((i:Int)<(W.length:Int))=False:=eF (by omega)
  rw [e]
  simp only [go_sem,lp96_6,hlt]
  rfl
def srtTo (O:List Nat) (i:Nat):Bool:=(List.range i).all fun j=> !lexLt (memb (O.getD (j+1) 0)) (memb (O.getD j 0))
theorem zor (a b:List AV)(O:List Nat)(hO: ∀k,O.getD k 0<256)(m:Nat)(hm:O.length=m)(YN:m≤13)(lo hi:Nat)(i:Nat)(hok:i<m)(env:Env)(st:St)
  (hg:gcAV false lo hi (canon env [0,1,5]) st=([(0,.rsl 2 0 m m 1 true),(1,cmpS),(5,J i)],⟨[a,b,O.map u8],[]⟩)):
  ∃x_1 en s,lim (headed pure (run L) false [0,1,5] lp135_0 lo hi) env st=some (x_1,en,s)∧(s=⟨[a,b,O.map u8],[]⟩∧(if srtTo O i=true then x_1=.exit 0 else x_1=.ret∧en.get 4=B false)):=by
 refine z8 (α:=Nat) (fun i=>i) (fun i=>i<m) (fun i=>([(0,.rsl 2 0 m m 1 true),(1,cmpS),(5,J i)],⟨[a,b,O.map u8],[]⟩)) (fun i x_1 en s=>s=⟨[a,b,O.map u8],[]⟩∧(if srtTo O i=true then x_1=.exit 0 else x_1=.ret∧en.get 4=B false)) (fun i hok=> ?_) i hok env st hg
 cases i with
 |zero=>
  have q:((0:Int)<((0:Nat):Int))=False:=eF (by omega)
  have e:srtTo O 0=true:=rfl
  rw [e]
  simp only [go_sem,lp135_0,q]
 |succ j=>
  have q:((0:Int)<((j+1:Nat):Int))=True:=eT (by omega)
  have hw:IntKind.i64.wrap (((j+1:Nat):Int)-1)=((j:Nat):Int):=by rw [zz]<;>omega
  have hg1:=zgo O (j+1) (by omega)
  have hg2:=zgo O j (by omega)
  have c1:(((j+1:Nat):Int)<(m:Int))=True:=eT (by omega)
  have c2:(j+1+1≤m)=True:=eT (by omega)
  have c3:((j:Int)<(m:Int))=True:=eT (by omega)
  have c4:(j+1≤m)=True:=eT (by omega)
  have Qp:(O.map u8).length=m:=by rw [lm_,hm]
  have e:srtTo O (j+1)=(srtTo O j&& !lexLt (memb (O.getD (j+1) 0)) (memb (O.getD j 0))):=by
   unfold srtTo;rw [List.range_succ,List.all_append];simp
  rw [e]
  have b1:=hO (j+1)
  have b2:=hO j
  generalize O.getD (j+1) 0=u at*
  generalize O.getD j 0=v at*
  have OM:=fun st=>c81 u v b1 b2 st
  have hcl:=zcc (memb u) (memb v)
  have YO:pure 81=true:=rfl
  cases hc:lexLt (memb u) (memb v) with
  |true=>
   rw [hc] at hcl
   have q4:(cmpN (memb u) (memb v)<0)=True:=eT (of_decide_eq_true hcl)
   rw [Bool.not_true,Bool.and_false]
   simp only [go_sem,lp135_0,q,hw,hg1,hg2,c1,c2,c3,c4,Qp,hm,OM,YO,q4,nn_,lm_]
  |false=>
   rw [hc] at hcl
   have q4:(cmpN (memb u) (memb v)<0)=False:=eF (of_decide_eq_false hcl)
   rw [Bool.not_false,Bool.and_true]
   simp only [go_sem,lp135_0,q,hw,hg1,hg2,c1,c2,c3,c4,Qp,hm,OM,YO,q4,nn_,lm_]
   refine ⟨j,by simp only [go_sem,z3,z4,z5]<;>rfl,?_,?_,fun x en s hq=> ?_⟩
   ·omega
   ·omega
   ·exact hq
theorem zmc (st0:St)(R:AV)(lo hi:Nat)(i:Nat)(hok:True)(env:Env)(st:St)
  (hg:gcAV false lo hi (canon env [0,1,5]) st=([(0,R),(1,cmpS),(5,I (-1))],st0)):
  ∃x_1 en s,lim (headed pure (run L) false [0,1,5] lp135_0 lo hi) env st=some (x_1,en,s)∧(s=st0∧x_1=.exit 0):=by
 refine z8 (α:=Nat) (fun i=>i) (fun i=>True) (fun i=>([(0,R),(1,cmpS),(5,I (-1))],st0)) (fun i x_1 en s=>s=st0∧x_1=.exit 0) (fun i hok=> ?_) i hok env st hg
 have q:((0:Int)< -1)=False:=eF (by omega)
 simp only [go_sem,lp135_0,q]
theorem c135 (a b:List AV)(O:List Nat)(hO: ∀k,O.getD k 0<256)(m:Nat)(hm:O.length=m)(YN:m≤13):run L 135 [.rsl 2 0 m m 1 true,cmpS] ⟨[a,b,O.map u8],[]⟩=some (B (srtB O),⟨[a,b,O.map u8],[]⟩):=by
 rw [z6 (fn:=ir135) rfl rfl]
 have hb:srtB O=srtTo O (m-1):=by unfold srtB srtTo;rw [hm]
 rw [hb]
 by_cases h:m=0
 ·subst h
  have hw:IntKind.i64.wrap (((0:Nat):Int)-1)= -1:=by decide
  have e:srtTo O (0-1)=true:=rfl
  rw [e]
  simp only [ir135,go_sem,hw]
  generalize hg:lim (headed pure (run L) false _ lp135_0 _ _) _ _=o
  obtain ⟨x,en,s,rfl,h2⟩: ∃x en s,o=some (x,en,s)∧_:=by rw [←hg];exact zmc ⟨[a,b,O.map u8],[]⟩ (.rsl 2 0 0 0 1 true) _ _ 0 trivial _ _ (by simp only [go_sem]<;>rfl)
  clear hg
  obtain ⟨rfl,rfl⟩:=h2
  simp only [go_sem]
 ·have hw:=zu m (by omega) (by omega)
  simp only [ir135,go_sem,hw]
  generalize hg:lim (headed pure (run L) false _ lp135_0 _ _) _ _=o
  obtain ⟨x,en,s,rfl,h2⟩: ∃x en s,o=some (x,en,s)∧_:=by rw [←hg];exact zor a b O hO m hm YN _ _ (m-1) (by omega) _ _ (by simp only [go_sem]<;>rfl)
  clear hg
  obtain ⟨rfl,h2⟩:=h2
  cases hc:srtTo O (m-1) with
  |true=>
   rw [hc,if_pos rfl] at h2
   subst h2
   simp only [go_sem]
  |false=>
   rw [hc,if_neg (by simp)] at h2
   obtain ⟨rfl,e4⟩:=h2
   simp only [go_sem,e4]
def readA (r:Int×List Nat):AV:=.tup [if r.1=0 then sl 1 false (r.2.map E8) else .v (.slice none 0 0),I r.1]
theorem zn0 (st:St)(l m:Nat)(X:List Nat)(hm:X.length=m)(h:st.store[l]? =some (X.map u8)):fin st (.rsl l 0 m m 1 true)=sl 1 false (X.map E8):=by
 subst hm
 have e:fin st (.rsl l 0 X.length X.length 1 true)=.lst .any 1 (group true 1 X.length (pubs ((X.map u8).drop 0))):=by
  simp only [fin,h]
  rw [if_pos (by simp)]
 rw [e,List.drop_zero,zob,zha]
 rfl
theorem make8 (k:Nat)(hk:k≤1000)(S:List (List AV))(T:List Nat):makeAV 1 true [.v (.int .u8 0)] ⟨S,T⟩ (J k) (J k)=some (.rsl S.length 0 k k 1 true,⟨S++ [(List.replicate k 0).map u8],T⟩):=by
 simp only [makeAV,natOf]
 have:k≤maxGrow:=by unfold maxGrow;omega
 simp [this]
theorem zbx (U:List Nat):(laneL U).length=U.length+1:=by unfold laneL;rw [zd8];simp
theorem zh7 (U:List Nat): ∀(us:List Nat) (c:Nat) (Q:List Nat) (b:Nat),(∀k,Q.getD k 0≤b)→∀k,(laneF U c us Q).getD k 0≤b+2*us.length
 | [],_,_,_,h,k=>by have:=h k;simpa [laneF] using this
 |u::r,c,Q,b,h,k=>by
  have:=zh7 U r (c+1) (laneS Q (c,u)) (b+2) (zh6 h _) k
  simp only [laneF,List.length_cons]
  omega
theorem zju (U:List Nat):lostTo U 0=lostC U:=by unfold lostTo lostC;rw [Nat.sub_zero,List.range_eq_range']
theorem c96N (n:Nat)(h2:2≤n)(hn:n≤8)(nu nw:Bool)(U W:List Nat)(hU: ∀u∈U,u≤U.length)(hW: ∀w∈W,w≤U.length)(hl:U.length≤13)(hWl:W.length=n)(st:St):
  run L 96 [J n,.agg [sl 1 nu (U.map J),sl 1 nw (W.map J)]] st=some (readA (readN U W),st):=by
 rw [run_pure (fn:=ir96) rfl rfl]
 have q1:((n:Int)<2)=False:=eF (by omega)
 have q2:((8:Int)<(n:Int))=False:=eF (by omega)
 have q3:((13:Int)<(U.length:Int))=False:=eF (by omega)
 have V7:=z7d J nu U
 have QO:=z7d J nw W
 rw [hWl] at QO
 have Kk:(U++W).map J=((U++W).map fun (x:Nat)=>(x:Int)).map I:=by rw [List.map_map];rfl
 have Vb:((U++W).map fun (x:Nat)=>(x:Int)).any (badC U.length)=false:=by
  rw [List.any_map,List.any_eq_false]
  intro x hx
  have:x≤U.length:=by
   rw [List.mem_append] at hx
   rcases hx with hx|hx
   ·exact hU x hx
   ·exact hW x hx
  simp only [Function.comp,badC,Bool.or_eq_true,decide_eq_true_eq,not_or]
  omega
 have QW: ∀st,run L 111 [.lst .full 1 [sl 1 nu (U.map J),sl 1 nw (W.map J)]] st=some (sl 1 false ((U++W).map J),st):=fun st=>
  (z5v (fn:=ir111) rfl rfl st (by rfl)).trans (c111J nu nw U W (by omega) (by omega) (by omega) st)
 rw [Kk] at QW
 have ON:=fun n=>z1a 1 nu (U.map J) n
 have On:=fun n=>z1a 1 nw (W.map J) n
 have hrx:=fun n T acc=>z3u 1 nu (U.map J) n T acc
 have Oo:=fun n T acc=>z3u 1 nw (W.map J) n T acc
 have hal:((U++W).map fun (x:Nat)=>(x:Int)).length=U.length+n:=by simp [hWl]
 have Vc:=z7d I false ((U++W).map fun (x:Nat)=>(x:Int))
 simp only [ir96,go_sem,V7,QO,q1,q2,q3,QW,Vc]
 generalize hg:lim (headed pure (run L) true _ lp96_0 _ _) _ _=o
 obtain ⟨x,en,s,rfl,h2⟩: ∃x en s,o=some (x,en,s)∧_:=by rw [←hg];exact zm7 (sl 1 nu (U.map J)) (sl 1 nw (W.map J)) ON hrx On Oo U.length false ((U++W).map fun (x:Nat)=>(x:Int)) (by rw [hal];omega) 0 (by omega) _ _ (by simp only [go_sem,Int.natCast_zero,lm_]<;>rfl)
 clear hg
 rw [List.drop_zero,Vb,if_neg (by simp)] at h2
 obtain ⟨rfl,e3,e6,rfl⟩:=h2
 simp only [go_sem,e3,e6,V7,QO]
 generalize hg:lim (headed pure (run L) true _ lp96_2 _ _) _ _=o
 obtain ⟨x,en,s,rfl,h2⟩: ∃x en s,o=some (x,en,s)∧_:=by rw [←hg];exact zm6 (sl 1 nw (W.map J)) On Oo nu U hU hl 0 (by omega) _ _ (by simp only [go_sem,e3,e6,Int.natCast_zero]<;>rfl)
 clear hg
 rw [zju] at h2
 unfold readN
 by_cases hlc:lostC U=true
 ·rw [if_pos hlc] at h2⊢
  obtain ⟨rfl,e4,e5⟩:=h2
  simp only [go_sem,e4,e5]
  rfl
 rw [if_neg hlc] at h2⊢
 clear e3 e6
 obtain ⟨rfl,e3,e6,rfl⟩:=h2
 have h0:=z5n J nw W 0 (by omega)
 have QJ:W.getD 0 0=W[0]'(by omega):=by rw [List.getD_eq_getElem?_getD,List.getElem?_eq_getElem (by omega)];rfl
 have h0':indexSAV 1 (sl 1 nw (W.map J)) (.v (.int .i64 0))=some (.eptr (J (W[0]'(by omega))) 0):=h0
 rw [QJ]
 generalize W[0]'(by omega)=w0 at*
 by_cases hz:w0=0
 ·have z1:((w0:Int)=0)=True:=eT (by omega)
  rw [if_neg (by simpa using hz)]
  have Qe:=fun S T=>zok (U.length+1) (by omega) S T
  have hs1:=za U.length (by omega)
  have YA: ∀w,w≤U.length→itC U U.length w=0:=by
   intro w hw
   by_cases QJ:w=0
   ·rw [QJ,z2b]
   ·have hlc:lostC U=false:=by simpa using hlc
    unfold lostC at hlc
    rw [List.any_eq_false] at hlc
    have:=hlc (w-1) (List.mem_range.2 (by omega))
    simp only [decide_eq_true_eq,Classical.not_not] at this
    rw [show w-1+1=w by omega] at this
    exact this
  simp only [go_sem,e3,e6,V7,QO,h0',z1,hs1,Qe]
  generalize hg:lim (headed pure (run L) true _ lp96_3 _ _) _ _=o
  obtain ⟨x,en,s,rfl,h2⟩: ∃x en s,o=some (x,en,s)∧_:=by rw [←hg];exact zm5 (sl 1 nw (W.map J)) On Oo nu U hU hl 0 (List.replicate (U.length+1) 0) ⟨by omega,by simp,fun k=>by simp [List.getD_eq_getElem?_getD,List.getElem?_replicate];split<;>rfl⟩ _ _ (by simp only [go_sem,e3,e6,z4q,z12,Int.natCast_zero]<;>rfl)
  clear hg
  rw [List.drop_zero,show laneF U 0 U (List.replicate (U.length+1) 0)=laneL U from rfl] at h2
  clear e3 e6
  obtain ⟨rfl,e3,e6,e11,rfl⟩:=h2
  have Vy:=zbx U
  have Kl: ∀k,(laneL U).getD k 0<100:=fun k=>by
   have:=zh7 U U 0 (List.replicate (U.length+1) 0) 0 (fun k=>by simp [List.getD_eq_getElem?_getD,List.getElem?_replicate];split<;>rfl) k
   unfold laneL
   omega
  generalize laneL U=Q at*
  simp only [go_sem,e3,e6,e11]
  generalize hg:lim (headed pure (run L) true _ lp96_4 _ _) _ _=o
  obtain ⟨x,en,s,rfl,h2⟩: ∃x en s,o=some (x,en,s)∧_:=by rw [←hg];exact zm4 (sl 1 nu (U.map J)) ON hrx nw W (by omega) (U.length+1) Q Vy (by omega) Kl 0 (by omega) _ _ (by simp only [go_sem,e3,e6,z4q,z12,Int.natCast_zero,show U.length+1-1=U.length from rfl]<;>rfl)
  clear hg
  rw [List.drop_zero] at h2
  by_cases Q7:lackF W 0 Q=true
  ·rw [if_pos Q7] at h2⊢
   obtain ⟨rfl,e4,e5⟩:=h2
   simp only [go_sem,e4,e5]
   rfl
  ·rw [if_neg Q7] at h2⊢
   clear e3 e6 e11
   obtain ⟨rfl,e3,e6,rfl⟩:=h2
   rw [show U.length+1-1=U.length from rfl] at e6
   have Km:=fun S T=>make8 U.length (by omega) S T
   simp only [go_sem,e3,e6,QO,Km]
   generalize hg:lim (headed pure (run L) true _ lp96_6 _ _) _ _=o
   obtain ⟨x,en,s,rfl,h2⟩: ∃x en s,o=some (x,en,s)∧_:=by rw [←hg];exact zm2 nu nw U W hU hW hl (by omega) YA Q 0 (List.replicate U.length 0) ⟨by omega,by simp,fun k=>by simp [List.getD_eq_getElem?_getD,List.getElem?_replicate];split<;>simp⟩ _ _ (by simp only [go_sem,e3,e6,z4q,z12,z5l,z23,Int.natCast_zero,hWl]<;>rfl)
   clear hg
   rw [List.drop_zero,show outF U 0 W (List.replicate U.length 0)=outL U W from rfl] at h2
   have VP:=z94 U W 0 (List.replicate U.length 0) (by omega) (fun k=>by simp [List.getD_eq_getElem?_getD,List.getElem?_replicate];split<;>simp)
   rw [show outF U 0 W (List.replicate U.length 0)=outL U W from rfl,List.length_replicate] at VP
   generalize outL U W=O at*
   clear e3 e6
   obtain ⟨rfl,e17,rfl⟩:=h2
   have Qr:=c135 [sl 1 nu (U.map J),sl 1 nw (W.map J)] (Q.map J) O VP.2 U.length VP.1 hl
   have hf:=zn0 ⟨[[sl 1 nu (U.map J),sl 1 nw (W.map J)],Q.map J,O.map u8],[]⟩ 2 U.length O VP.1 rfl
   cases Qy:srtB O with
   |true=>
    rw [Qy] at Qr
    rw [if_pos rfl]
    simp only [go_sem,e17,Qr,hf]
    rfl
   |false=>
    rw [Qy] at Qr
    rw [if_neg (by simp)]
    simp only [go_sem,e17,Qr]
    rfl
 ·have z1:((w0:Int)=0)=False:=eF (by omega)
  rw [if_pos hz]
  simp only [go_sem,e3,e6,V7,QO,h0',z1]
  rfl
theorem ze1 {n:Nat} (hn:n≤8) {U W:List Nat} (hWl:W.length=n): ∀s∈(readN U W).2,s<256:=by
 have VP:=z94 U W 0 (List.replicate U.length 0) (by omega) (fun k=>by simp [List.getD_eq_getElem?_getD,List.getElem?_replicate];split<;>simp)
 have key: ∀s∈outL U W,s<256:=by
  intro s hs
  obtain ⟨i,hi,rfl⟩:=List.getElem_of_mem hs
  have:=VP.2 i
  rwa [show outF U 0 W (List.replicate U.length 0)=outL U W from rfl,List.getD_eq_getElem?_getD,List.getElem?_eq_getElem hi] at this
 unfold readN
 split
 ·intro s hs;cases hs
 ·split
  ·intro s hs;cases hs
  ·split
   ·intro s hs;cases hs
   ·split
    ·exact key
    ·intro s hs;cases hs
theorem zey {U W:List Nat} (hWl:W.length≤8):(readN U W).2.length≤U.length:=by
 have VP:=z94 U W 0 (List.replicate U.length 0) (by omega) (fun k=>by simp [List.getD_eq_getElem?_getD,List.getElem?_replicate];split<;>simp)
 rw [show outF U 0 W (List.replicate U.length 0)=outL U W from rfl,List.length_replicate] at VP
 unfold readN
 split
 ·simp
 ·split
  ·simp
  ·split
   ·simp
   ·split
    ·exact Nat.le_of_eq VP.1
    ·simp
def sidesA (r:Int×List Nat):AV:=.tup [if r.1=0 then sl 1 true ((srt r.2).map tM) else .v (.slice none 0 0),I r.1]
theorem c28N (n:Nat)(h2:2≤n)(hn:n≤8)(nu nw:Bool)(U W:List Nat)(hU: ∀u∈U,u≤U.length)(hW: ∀w∈W,w≤U.length)(hl:U.length≤13)(hWl:W.length=n)(st:St):
  run L 28 [J n,.agg [sl 1 nu (U.map J),sl 1 nw (W.map J)]] st=some (sidesA (readN U W),st):=by
 rw [run_pure (fn:=ir28) rfl rfl]
 have Qk:=fun st=>c96N n h2 hn nu nw U W hU hW hl hWl st
 have hlt:=ze1 hn hWl (U:=U)
 have hle:=zey (U:=U) (W:=W) (by omega)
 generalize readN U W=r at*
 obtain ⟨e,O⟩:=r
 dsimp only at hlt hle
 have Kn:=fun st=>c84 false O hlt (by omega) st
 unfold readA at Qk
 unfold sidesA
 dsimp only at Qk⊢
 by_cases he:e=0
 ·subst he
  rw [if_pos rfl] at Qk⊢
  simp only [ir28,go_sem,Qk,Kn]
 ·rw [if_neg he] at Qk⊢
  have q:(e=0)=False:=eF he
  simp only [ir28,go_sem,Qk,q]
theorem c30N (n:Nat)(h2:2≤n)(hn:n≤8)(nu nw:Bool)(U W:List Nat)(hU: ∀u∈U,u≤U.length)(hW: ∀w∈W,w≤U.length)(hl:U.length≤13)(hWl:W.length=n)(st:St):
  run L 30 [J n,.agg [sl 1 nu (U.map J),sl 1 nw (W.map J)]] st=some (I (readN U W).1,st):=by
 rw [run_pure (fn:=ir30) rfl rfl]
 have Qk:=fun st=>c96N n h2 hn nu nw U W hU hW hl hWl st
 generalize readN U W=r at*
 obtain ⟨e,O⟩:=r
 unfold readA at Qk
 dsimp only at Qk⊢
 simp only [ir30,go_sem,Qk]
theorem zhn (U:List Nat)(a f:Nat)(O:List Nat):walkO U a f 0 O=O:=by
 cases f with
 |zero=>rfl
 |succ f=>unfold walkO;rw [if_pos rfl]
theorem zdj (i:Nat): ∀(l:List Int) (U W:List Nat),(∀a∈l,0≤a∧a<(W.length:Int))→l.Nodup→i<U.length→
  (∀k,k≠i→(l.foldl (stepA i) (U,W)).1.getD k 0=U.getD k 0)∧(l≠[]→∃a∈l,(l.foldl (stepA i) (U,W)).1.getD i 0=W.getD a.toNat 0)∧
  ∀a:Nat,a<W.length→(l.foldl (stepA i) (U,W)).2.getD a 0=if ((a:Nat):Int)∈l then i+1 else W.getD a 0
 | [],U,W,_,_,_=>⟨fun _ _=>rfl,fun h=>absurd rfl h,fun a _=>by simp⟩
 |b::r,U,W,hr,hnd,hi=>by
  rw [List.nodup_cons] at hnd
  have hb:=hr b (by simp)
  obtain ⟨b,rfl⟩:=Int.eq_ofNat_of_zero_le hb.1
  have hs:stepA i (U,W) (b:Int)=(U.set i (W.getD b 0),W.set b (i+1)):=by unfold stepA;rw [Int.toNat_natCast]
  obtain ⟨h1,h2,h3⟩:=zdj i r (U.set i (W.getD b 0)) (W.set b (i+1)) (fun a ha=>by rw [List.length_set];exact hr a (by simp [ha])) hnd.2 (by rw [List.length_set];exact hi)
  rw [List.foldl_cons,hs]
  refine ⟨fun k hk=> ?_,fun _=> ?_,fun a ha=> ?_⟩
  ·rw [h1 k hk,z3x,if_neg (by omega)]
  ·by_cases he:r=[]
   ·subst he
    refine ⟨(b:Int),by simp,?_⟩
    rw [List.foldl_nil,z3x,if_pos ⟨rfl,hi⟩,Int.toNat_natCast]
   ·obtain ⟨a,ha,e⟩:=h2 he
    refine ⟨a,by simp [ha],?_⟩
    rw [e,z3x,if_neg]
    rintro ⟨e2,_⟩
    have ha0:=(hr a (by simp [ha])).1
    have:(b:Int)=a:=by omega
    rw [this] at hnd
    exact hnd.1 ha
  ·rw [h3 a (by rw [List.length_set];exact ha),z3x]
   by_cases hm:(a:Int)∈r
   ·rw [if_pos hm,if_pos (by simp [hm])]
   ·rw [if_neg hm]
    by_cases e:b=a
    ·subst e
     rw [if_pos ⟨rfl,ha⟩,if_pos (by simp)]
    ·rw [if_neg (by omega),if_neg]
     rw [List.mem_cons]
     rintro (h|h)
     ·exact e (by omega)
     ·exact hm h
structure GrowInv (L:List Nat) (n:Nat) (P:List Nat) (U W:List Nat):Prop where
 ul:U.length=L.length
 wl:W.length=n
 at': ∀a,a<n→(W.getD a 0=0∧∀j∈P,(L.getD j 0).testBit a=false)∨(∃j∈P,W.getD a 0=j+1∧(L.getD j 0).testBit a=true∧∀i∈P,(L.getD i 0).testBit a=true→Sub (L.getD j 0) (L.getD i 0))
 up: ∀i∈P,Abv L (L.getD i 0) (some i) (U.getD i 0)
theorem zoi (m:Nat):(memb m).Nodup:=(zh3 m).imp (fun h=>by omega)
theorem zkf {n:Nat} {L:List Nat} (hn:n≤8)(h:Lam n L) {P:List Nat} {U W:List Nat} (hI:GrowInv L n P U W) {i:Nat} (hi:i<L.length)(OO:i ∉ P)(hP: ∀j∈P,j<L.length)
  (Oe: ∀j∈P,pc (L.getD i 0)≤pc (L.getD j 0)) (Vd: ∀j,j<L.length→pc (L.getD i 0)<pc (L.getD j 0)→j∈P):
  GrowInv L n (P++ [i]) (stepI L (U,W) i).1 (stepI L (U,W) i).2:=by
 have QP:=zp hi
 have hlt:=h.lt _ QP
 have Ko:=h.lt8 hn QP
 have hr:=zaa hn hlt
 obtain ⟨s1,s2,s3⟩:=zdj i (memb (L.getD i 0)) U W (by rw [hI.wl];exact hr) (zoi _) (by rw [hI.ul];exact hi)
 have hlen:=z9t i (memb (L.getD i 0)) (U,W)
 have he:stepI L (U,W) i=(memb (L.getD i 0)).foldl (stepA i) (U,W):=rfl
 rw [he]
 generalize (memb (L.getD i 0)).foldl (stepA i) (U,W)=UW at*
 obtain ⟨U2,W2⟩:=UW
 dsimp only at*
 have hsub: ∀j∈P,∀b,(L.getD i 0).testBit b=true→(L.getD j 0).testBit b=true→Sub (L.getD i 0) (L.getD j 0):=by
  intro j hj b hb1 hb2
  have l2:=h.lt8 hn (zp (hP j hj))
  rcases h.cmp hn QP (zp (hP j hj)) hb1 hb2 with c|c
  ·exact c
  ·rw [zcx (by omega) (by omega) c (Oe j hj)];exact Sub.refl _
 have YB: ∀a:Nat,((a:Nat):Int)∈memb (L.getD i 0)↔(L.getD i 0).testBit a=true:=by
  intro a
  rw [zb0 (by omega)]
  constructor
  ·rintro ⟨k,e,hk⟩
   have:a=k:=by omega
   subst this;exact hk
  ·intro hk;exact ⟨a,rfl,hk⟩
 have YF: ∀j,j<L.length→j≠i→Sub (L.getD i 0) (L.getD j 0)→j∈P:=by
  intro j hj hne hs
  have l2:=h.lt8 hn (zp hj)
  exact Vd j hj (zod (by omega) (by omega) hs (fun e=>hne (zbr h.nd hi hj e).symm))
 refine ⟨hlen.1.trans hI.ul,hlen.2.trans hI.wl,fun a ha=> ?_,fun k hk=> ?_⟩
 ·rw [s3 a (by rw [hI.wl];exact ha)]
  by_cases hb:(L.getD i 0).testBit a=true
  ·rw [if_pos ((YB a).2 hb)]
   refine .inr ⟨i,by simp,rfl,hb,fun j hj Kp=> ?_⟩
   rw [List.mem_append] at hj
   rcases hj with hj|hj
   ·exact hsub j hj a hb Kp
   ·rw [List.mem_singleton.1 hj];exact Sub.refl _
  ·rw [if_neg (fun hm=>hb ((YB a).1 hm))]
   rcases hI.at' a ha with ⟨h1,h2⟩ | ⟨j,hj,h1,h2,h3⟩
   ·refine .inl ⟨h1,fun j hj=> ?_⟩
    rw [List.mem_append] at hj
    rcases hj with hj|hj
    ·exact h2 j hj
    ·rw [List.mem_singleton.1 hj];simpa using hb
   ·refine .inr ⟨j,by simp [hj],h1,h2,fun k hk Oq=> ?_⟩
    rw [List.mem_append] at hk
    rcases hk with hk|hk
    ·exact h3 k hk Oq
    ·rw [List.mem_singleton.1 hk] at Oq;exact absurd Oq hb
 ·rw [List.mem_append] at hk
  rcases hk with hk|hk
  ·rw [s1 k (by rintro rfl;exact OO hk)]
   exact hI.up k hk
  ·rw [List.mem_singleton.1 hk]
   have hne:memb (L.getD i 0)≠[]:=by
    intro e
    have:=pc_pos Ko (h.ne _ QP)
    unfold pc at this
    rw [e] at this;simp at this
   obtain ⟨a,ha,e⟩:=s2 hne
   have Vu:=hr a ha
   obtain ⟨a,rfl⟩:=Int.eq_ofNat_of_zero_le Vu.1
   rw [Int.toNat_natCast] at e
   have hb:=(YB a).1 ha
   rw [e]
   rcases hI.at' a (by omega) with ⟨h1,h2⟩ | ⟨j,hj,h1,h2,h3⟩
   ·refine .inl ⟨h1,fun j hj hne hs=> ?_⟩
    have:=h2 j (YF j hj (by simpa using hne) hs)
    rw [hs a hb] at this;cases this
   ·refine .inr ⟨j,h1,hP j hj,?_,hsub j hj a hb h2,fun k hk hne hs=> ?_⟩
    ·intro e2
     have:j=i:=by simpa using e2
     rw [this] at hj;exact OO hj
    ·exact za8 (h3 k (YF k hk (by simpa using hne) hs) (hs a hb))
theorem zfd {n:Nat} {L:List Nat} (hn:n≤8)(h:Lam n L): ∀(R P:List Nat) (U W:List Nat),GrowInv L n P U W→(P++R).Perm (List.range L.length)→(P++R).Pairwise (fun i j=>pc (L.getD j 0)≤pc (L.getD i 0))→
  GrowInv L n (P++R) (R.foldl (stepI L) (U,W)).1 (R.foldl (stepI L) (U,W)).2
 | [],P,U,W,hI,_,_=>by rw [List.append_nil];exact hI
 |i::R,P,U,W,hI,hp,hs=>by
  have hnd:(P++i::R).Nodup:=hp.nodup_iff.2 List.nodup_range
  have hall: ∀j∈P++i::R,j<L.length:=fun j hj=>List.mem_range.1 (hp.mem_iff.1 hj)
  have hi:i<L.length:=hall i (by simp)
  have hs2:=List.pairwise_append.1 hs
  have Kq:=List.pairwise_cons.1 hs2.2.1
  have hstep:=zkf hn h hI hi (fun hm=>by
    have:=(List.nodup_append.1 hnd).2.2 i hm i (by simp)
    exact this rfl) (fun j hj=>hall j (by simp [hj]))
   (fun j hj=>hs2.2.2 j hj i (by simp)) (fun j hj hlt=>by
    have hm:=hp.mem_iff.2 (List.mem_range.2 hj)
    rw [List.mem_append,List.mem_cons] at hm
    rcases hm with hm|rfl|hm
    ·exact hm
    ·omega
    ·have:=Kq.1 j hm;omega)
  have e:P++i::R=(P++ [i])++R:=by simp
  rw [e] at hp hs⊢
  rw [List.foldl_cons]
  have:=zfd hn h R (P++ [i]) (stepI L (U,W) i).1 (stepI L (U,W) i).2 hstep hp hs
  exact this
theorem zke {n:Nat} {L:List Nat} (hn:n≤8)(h:Lam n L):IsTree L n (growN L n (ordG L)).1 (growN L n (ordG L)).2:=by
 obtain ⟨hp,hs⟩:=zbp L
 have h0:GrowInv L n [] (List.replicate L.length 0) (List.replicate n 0):=⟨by simp,by simp,fun a ha=> .inl ⟨by simp [List.getD_eq_getElem?_getD,List.getElem?_replicate];split<;>rfl,fun j hj=>by cases hj⟩,fun i hi=>by cases hi⟩
 have hI:=zfd hn h (ordG L) [] _ _ h0 (by simpa using hp) (by simpa using hs)
 rw [List.nil_append] at hI
 have hin: ∀k,k<L.length→k∈ordG L:=fun k hk=>hp.mem_iff.2 (List.mem_range.2 hk)
 have hlt:=zjk L
 refine ⟨hI.ul,hI.wl,fun k hk=>hI.up k (hin k hk),fun a ha=> ?_⟩
 rcases hI.at' a ha with ⟨h1,h2⟩ | ⟨j,hj,h1,h2,h3⟩
 ·refine .inl ⟨h1,fun j hj _ hs=> ?_⟩
  have:=h2 j (hin j hj)
  rw [za1 hs] at this;cases this
 ·exact .inr ⟨j,h1,hlt j hj,by simp,ze3 h2,fun k hk _ hs=>za8 (h3 k (hin k hk) (za1 hs))⟩
theorem zel (U:List Nat)(a:Nat): ∀(f w:Nat) (O:List Nat),(∀t,itC U t w≤O.length)→∀k,k<O.length→∀b,
  ((walkO U a f w O).getD k 0).testBit b=((O.getD k 0).testBit b||(decide (b=a)&&decide (∃t,t<f∧itC U t w=k+1)))
 |0,w,O,_,k,hk,b=>by
  have: ¬ ∃t,t<0∧itC U t w=k+1:=fun ⟨t,h,_⟩=>by omega
  rw [decide_eq_false this,Bool.and_false,Bool.or_false];rfl
 |f+1,w,O,hle,k,hk,b=>by
  by_cases hw:w=0
  ·subst hw
   rw [zhn]
   have: ¬ ∃t,t<f+1∧itC U t 0=k+1:=fun ⟨t,_,h⟩=>by rw [z2b] at h;omega
   rw [decide_eq_false this,Bool.and_false,Bool.or_false]
  ·have e:walkO U a (f+1) w O=walkO U a f (upC U w) (O.set (w-1) (O.getD (w-1) 0|||2^a)):=by
    show (if w=0 then O else _)=_
    rw [if_neg hw]
   have hw1:w≤O.length:=hle 0
   have ih:=zel U a f (upC U w) (O.set (w-1) (O.getD (w-1) 0|||2^a)) (fun t=>by rw [List.length_set];exact hle (t+1)) k (by rw [List.length_set];exact hk) b
   rw [e,ih,z3x]
   have YI:decide (∃t,t<f+1∧itC U t w=k+1)=(decide (w=k+1)||decide (∃t,t<f∧itC U t (upC U w)=k+1)):=by
    rw [Bool.eq_iff_iff]
    simp only [Bool.or_eq_true,decide_eq_true_eq]
    constructor
    ·rintro ⟨t,h1,h2⟩
     cases t with
     |zero=>exact .inl h2
     |succ t=>exact .inr ⟨t,by omega,h2⟩
    ·rintro (h| ⟨t,h1,h2⟩)
     ·exact ⟨0,by omega,h⟩
     ·exact ⟨t+1,by omega,h2⟩
   rw [YI]
   by_cases hk2:w=k+1
   ·rw [if_pos ⟨by omega,hk⟩,Nat.testBit_or,Nat.testBit_two_pow,decide_eq_true hk2,Bool.true_or,Bool.and_true]
    rw [show w-1=k by omega]
    have e3:decide (a=b)=decide (b=a):=by simp only [eq_comm]
    rw [e3]
    cases (O.getD k 0).testBit b<;>cases decide (b=a)<;>simp
   ·rw [if_neg (by omega),decide_eq_false hk2,Bool.false_or]
theorem zgx (U:List Nat)(m:Nat)(hU: ∀u∈U,u≤m): ∀(W:List Nat) (a:Nat) (O:List Nat),a+W.length≤8→O.length=m→(∀w∈W,w≤m)→(∀k,O.getD k 0<256)→∀k,k<m→∀b,
  ((outF U a W O).getD k 0).testBit b=((O.getD k 0).testBit b||(decide (a≤b∧b<a+W.length)&&decide (∃t,t<U.length∧itC U t (W.getD (b-a) 0)=k+1)))
 | [],a,O,_,_,_,_,k,hk,b=>by
  have: ¬(a≤b∧b<a+([]:List Nat).length):=by simp
  rw [decide_eq_false this,Bool.false_and,Bool.or_false];rfl
 |w::r,a,O,hl,hO,hW,hb,k,hk,b=>by
  rw [List.length_cons] at hl
  have Q6:=zax U a (by omega) U.length w O hb
  have Ve:=zel U a U.length w O (fun t=>by rw [hO];exact zk9 hU t w (hW w (by simp))) k (by rw [hO];exact hk) b
  have ih:=zgx U m hU r (a+1) (walkO U a U.length w O) (by omega) (by rw [Q6.1,hO]) (fun x hx=>hW x (by simp [hx])) Q6.2 k hk b
  show ((outF U (a+1) r (walkO U a U.length w O)).getD k 0).testBit b=_
  rw [ih,Ve]
  by_cases h1:b=a
  ·subst h1
   have e1: ¬(b+1≤b∧b<b+1+r.length):=by omega
   have e2:b≤b∧b<b+(w::r).length:=⟨Nat.le_refl _,by simp⟩
   rw [decide_eq_false e1,decide_eq_true e2,Nat.sub_self,List.getD_cons_zero]
   simp
  ·rw [decide_eq_false h1,Bool.false_and,Bool.or_false]
   by_cases h2:a+1≤b∧b<a+1+r.length
   ·have e2:a≤b∧b<a+(w::r).length:=⟨by omega,by rw [List.length_cons];omega⟩
    rw [decide_eq_true h2,decide_eq_true e2,show b-a=(b-(a+1))+1 by omega]
    rfl
   ·have e2: ¬(a≤b∧b<a+(w::r).length):=by rw [List.length_cons];omega
    rw [decide_eq_false h2,decide_eq_false e2]
    simp
theorem zgw {U W:List Nat} (hU: ∀u∈U,u≤U.length)(hW: ∀w∈W,w≤U.length)(hWl:W.length≤8) {k:Nat} (hk:k<U.length)(b:Nat):
  ((outL U W).getD k 0).testBit b=(decide (b<W.length)&&decide (∃t,t<U.length∧itC U t (W.getD b 0)=k+1)):=by
 have h:=zgx U U.length hU W 0 (List.replicate U.length 0) (by omega) (by simp) hW (fun k=>by simp [List.getD_eq_getElem?_getD,List.getElem?_replicate];split<;>simp) k hk b
 have e0:((List.replicate U.length 0).getD k 0).testBit b=false:=by
  simp [List.getD_eq_getElem?_getD,List.getElem?_replicate,hk]
 unfold outL
 rw [h,e0,Bool.false_or,Nat.zero_add,Nat.sub_zero]
 simp
theorem zb4 {A B:List Nat} (hl:A.length=B.length)(h: ∀k,k<A.length→A.getD k 0=B.getD k 0):A=B:=by
 apply List.ext_getElem hl
 intro i h1 h2
 have:=h i h1
 rw [List.getD_eq_getElem?_getD,List.getD_eq_getElem?_getD,List.getElem?_eq_getElem h1,List.getElem?_eq_getElem h2] at this
 exact this
theorem zfa (U:List Nat): ∀(us:List Nat) (s:Nat) (Q:List Nat) (c:Nat),c<Q.length→s+us.length<Q.length→(∀u∈us,u<Q.length)→
  (laneF U s us Q).getD c 0=Q.getD c 0+(if s<c∧c≤s+us.length then 1 else 0)+us.count c
 | [],s,Q,c,_,_,_=>by
  rw [if_neg (by simp)];rfl
 |u::r,s,Q,c,hc,hs,hu=>by
  rw [List.length_cons] at hs
  have hl:=zbw Q (s,u)
  have ih:=zfa U r (s+1) (laneS Q (s,u)) c (by rw [hl];exact hc) (by rw [hl];omega) (fun x hx=>by rw [hl];exact hu x (by simp [hx]))
  show (laneF U (s+1) r (laneS Q (s,u))).getD c 0=_
  have hul:=hu u (by simp)
  have e:(laneS Q (s,u)).getD c 0=Q.getD c 0+(if c=s+1 then 1 else 0)+(if u=c then 1 else 0):=by
   unfold laneS
   dsimp only
   have e2: ∀x,x<Q.length→(Q.set (s+1) (Q.getD (s+1) 0+1)).getD x 0=Q.getD x 0+(if x=s+1 then 1 else 0):=by
    intro x hx
    rw [z3x]
    by_cases h:s+1=x
    ·rw [if_pos ⟨h,hx⟩,if_pos h.symm,h]
    ·rw [if_neg (fun h2=>h h2.1),if_neg (fun h2=>h h2.symm),Nat.add_zero]
   rw [z3x,List.length_set]
   by_cases h:u=c
   ·subst h
    rw [if_pos ⟨rfl,hc⟩,e2 u hc,if_pos rfl]
   ·rw [if_neg (fun h2=>h h2.1),if_neg h,e2 c hc];omega
  rw [ih,e,List.count_cons,List.length_cons]
  have e3:(if (u==c)=true then 1 else 0)=(if u=c then 1 else 0):=by simp
  rw [e3]
  repeat' split
  all_goals omega
theorem zf9 {U:List Nat} (hU: ∀u∈U,u≤U.length) {c:Nat} (hc:c≤U.length):(laneL U).getD c 0=min c 1+U.count c:=by
 unfold laneL
 rw [zfa U U 0 _ c (by simp;omega) (by simp) (fun u hu=>by have:=hU u hu;simp;omega)]
 have e0:(List.replicate (U.length+1) 0).getD c 0=0:=by simp [List.getD_eq_getElem?_getD,List.getElem?_replicate];split<;>rfl
 rw [e0]
 by_cases h:c=0
 ·subst h;simp
 ·rw [if_pos (by omega)];omega
theorem zby (W:List Nat): ∀(Q:List Nat) (c:Nat),lackF W c Q=true↔∃i,i<Q.length∧Q.getD i 0<3∧(c+i) ∉ W
 | [],c=>by simp [lackF]
 |k::r,c=>by
  have ih:=zby W r (c+1)
  simp only [lackF,Bool.or_eq_true,ih,lackB,Bool.and_eq_true,decide_eq_true_eq]
  constructor
  ·rintro (⟨h1,h2⟩ | ⟨i,h1,h2,h3⟩)
   ·exact ⟨0,by simp,h1,h2⟩
   ·exact ⟨i+1,by simpa using h1,h2,by rwa [show c+(i+1)=c+1+i by omega]⟩
  ·rintro ⟨i,h1,h2,h3⟩
   cases i with
   |zero=>exact .inl ⟨h2,h3⟩
   |succ i=>exact .inr ⟨i,by simpa using h1,h2,by rwa [show c+1+i=c+(i+1) by omega]⟩
section
variable {n:Nat} {L U A:List Nat} (hn:n≤8) (h:Lam n L) (ht:IsTree L n U A)
include hn h ht
theorem zgm: ∀u∈U,u≤U.length:=by
 intro u hu
 obtain ⟨k,hk,rfl⟩:=List.getElem_of_mem hu
 rw [ht.ul]
 have hk2:k<L.length:=by rw [←ht.ul];exact hk
 have e:U.getD k 0=U[k]:=by rw [List.getD_eq_getElem?_getD,List.getElem?_eq_getElem hk];rfl
 rcases ht.up k hk2 with ⟨h1,_⟩ | ⟨j,h1,h2,_⟩
 ·rw [e] at h1;omega
 ·rw [e] at h1;omega
theorem zit: ∀w∈A,w≤U.length:=by
 intro w hw
 obtain ⟨a,ha,rfl⟩:=List.getElem_of_mem hw
 rw [ht.ul]
 have e:A.getD a 0=A[a]:=by rw [List.getD_eq_getElem?_getD,List.getElem?_eq_getElem ha];rfl
 rcases ht.at' a (by rw [←ht.al];exact ha) with ⟨h1,_⟩ | ⟨j,h1,h2,_⟩
 ·rw [e] at h1;omega
 ·rw [e] at h1;omega
theorem zgl: ∀w,w≤U.length→itC U U.length w=0:=by
 intro w hw
 by_cases h0:w=0
 ·rw [h0,z2b]
 ·have:=up_end hn h ht (k:=w-1) (by rw [←ht.ul];omega)
  rw [show w-1+1=w by omega,←ht.ul] at this
  exact this
theorem zeo (h1:1≤n):A.getD 0 0=0:=by
 rcases zhl hn h ht (a:=0) (by omega) with ⟨h1,_⟩ | ⟨j,_,h2,h3,_⟩
 ·exact h1
 ·rw [h.even _ (zp h2)] at h3;cases h3
theorem zcs {k a:Nat} (ha:a<n)(hk:k<L.length)(hb:(L.getD k 0).testBit a=true)(hne:A.getD a 0≠k+1): ∃i,i<L.length∧U.getD i 0=k+1∧(L.getD i 0).testBit a=true:=by
 obtain ⟨t,e⟩:=(ze5 hn h ht ha k).2 ⟨hk,hb⟩
 cases t with
 |zero=>exact absurd e hne
 |succ t=>
  rw [z9n] at e
  have hc0:itC U t (A.getD a 0)≠0:=fun h0=>by rw [h0] at e;simp [upC] at e
  obtain ⟨i,hi⟩: ∃i,itC U t (A.getD a 0)=i+1:=⟨itC U t (A.getD a 0)-1,by omega⟩
  rw [hi,z6u] at e
  obtain ⟨h1,h2⟩:=(ze5 hn h ht ha i).1 ⟨t,hi⟩
  exact ⟨i,h1,e,h2⟩
theorem zfn {U:List Nat} {c i j:Nat} (hi:i<U.length)(hj:j<U.length)(hij:i<j)(h1:U.getD i 0=c)(h2:U.getD j 0=c):2≤U.count c:=by
 have e1:U[i]=c:=by rwa [List.getD_eq_getElem?_getD,List.getElem?_eq_getElem hi] at h1
 have e2:U[j]=c:=by rwa [List.getD_eq_getElem?_getD,List.getElem?_eq_getElem hj] at h2
 have hs:U=U.take j++U.drop j:=(List.take_append_drop j U).symm
 rw [hs,List.count_append]
 have m1:c∈U.take j:=by rw [List.mem_take_iff_getElem];exact ⟨i,by omega,e1⟩
 have m2:c∈U.drop j:=by rw [List.drop_eq_getElem_cons hj,e2];simp
 have:=List.count_pos_iff.2 m1
 have:=List.count_pos_iff.2 m2
 omega
theorem zis (h1:1≤n): ∀c,c≤U.length→¬(min c 1+U.count c<3∧c ∉ A):=by
 rintro c hc ⟨h2,h3⟩
 have hin: ∀a,a<n→A.getD a 0∈A:=fun a ha=>zp (by rw [ht.al];exact ha)
 by_cases h0:c=0
 ·have:=hin 0 (by omega)
  rw [zeo hn h ht h1] at this
  rw [h0] at h3;exact h3 this
 ·obtain ⟨k,rfl⟩: ∃k,c=k+1:=⟨c-1,by omega⟩
  have hk:k<L.length:=by rw [←ht.ul];omega
  have Qe:=zp hk
  have lk:=h.lt8 hn Qe
  have hlt: ∀{s a:Nat},s∈L→s.testBit a=true→a<n:=by
   intro s a hs hb
   apply Nat.lt_of_not_le;intro h9
   rw [ziu (h.lt s hs) a h9] at hb;cases hb
  obtain ⟨a,ha⟩:=zh0 (h.ne _ Qe)
  have Ot:=hlt Qe ha
  obtain ⟨i,hi,ui,bi⟩:=zcs hn h ht Ot hk ha (fun e=>h3 (e▸hin a Ot))
  have QP:=zp hi
  have li:=h.lt8 hn QP
  have Q0:Sub (L.getD i 0) (L.getD k 0)∧pc (L.getD i 0)<pc (L.getD k 0):=by
   rcases zay hn h ht hi with ⟨e,_⟩ | ⟨j,e,hj,s1,s2,_⟩
   ·rw [e] at ui;omega
   ·have:j=k:=by rw [ui] at e;omega
    subst this;exact ⟨s1,s2⟩
  obtain ⟨b,hb1,hb2⟩: ∃b,(L.getD k 0).testBit b=true∧(L.getD i 0).testBit b=false:=by
   apply Classical.byContradiction
   intro hno
   have:Sub (L.getD k 0) (L.getD i 0):=fun b hb=>by
    cases hc:(L.getD i 0).testBit b
    ·exact absurd ⟨b,hb,hc⟩ hno
    ·rfl
   have:=za8 this
   omega
  have Qj:=hlt Qe hb1
  obtain ⟨j,hj,uj,bj⟩:=zcs hn h ht Qj hk hb1 (fun e=>h3 (e▸hin b Qj))
  have hij:i≠j:=by rintro rfl;rw [hb2] at bj;cases bj
  have YP:2≤U.count (k+1):=by
   rcases Nat.lt_or_gt_of_ne hij with h4|h4
   ·exact zfn hn h ht (by rw [ht.ul];exact hi) (by rw [ht.ul];exact hj) h4 ui uj
   ·exact zfn hn h ht (by rw [ht.ul];exact hj) (by rw [ht.ul];exact hi) h4 uj ui
  omega
theorem zla:outL U A=L:=by
 have hU:=zgm hn h ht
 have hA:=zit hn h ht
 have VP:=z94 U A 0 (List.replicate U.length 0) (by rw [ht.al];omega) (fun k=>by simp [List.getD_eq_getElem?_getD,List.getElem?_replicate];split<;>simp)
 rw [show outF U 0 A (List.replicate U.length 0)=outL U A from rfl,List.length_replicate] at VP
 apply zb4 (VP.1.trans ht.ul)
 intro k hk
 rw [VP.1] at hk
 have hk2:k<L.length:=by rw [←ht.ul];exact hk
 apply Nat.eq_of_testBit_eq
 intro b
 rw [zgw hU hA (by rw [ht.al];exact hn) hk b,ht.al,Bool.eq_iff_iff]
 simp only [Bool.and_eq_true,decide_eq_true_eq]
 constructor
 ·rintro ⟨hb,t,_,e⟩
  exact ((ze5 hn h ht hb k).1 ⟨t,e⟩).2
 ·intro hb
  have Qj:b<n:=by
   apply Nat.lt_of_not_le;intro h9
   rw [ziu (h.lt _ (zp hk2)) b h9] at hb;cases hb
  obtain ⟨t,e⟩:=(ze5 hn h ht Qj k).2 ⟨hk2,hb⟩
  refine ⟨Qj,t,?_,e⟩
  apply Nat.lt_of_not_le
  intro hge
  have hend:=zgl hn h ht (A.getD b 0) (hA _ (zp (by rw [ht.al];exact Qj)))
  have:itC U t (A.getD b 0)=0:=by
   rw [show t=U.length+(t-U.length) by omega,z28,hend,z2b]
  omega
theorem zep (h1:1≤n)(hs:L.Pairwise LexLe):readN U A=(0,L):=by
 have hlc:lostC U=false:=by
  unfold lostC
  rw [List.any_eq_false]
  intro c hc
  have:=zgl hn h ht (c+1) (by have:=List.mem_range.1 hc;omega)
  simp [this]
 have Q7:lackF A 0 (laneL U)=false:=by
  cases hq:lackF A 0 (laneL U)
  ·rfl
  ·rw [zby] at hq
   obtain ⟨i,hi,h2,h3⟩:=hq
   rw [zbx] at hi
   rw [zf9 (zgm hn h ht) (by omega)] at h2
   rw [Nat.zero_add] at h3
   exact absurd ⟨h2,h3⟩ (zis hn h ht h1 i (by omega))
 have Qy:srtB L=true:=by
  unfold srtB
  rw [List.all_eq_true]
  intro j hj
  have hj:=List.mem_range.1 hj
  have:=List.pairwise_iff_getElem.1 hs j (j+1) (by omega) (by omega) (by omega)
  unfold LexLe at this
  rw [List.getD_eq_getElem?_getD,List.getD_eq_getElem?_getD,List.getElem?_eq_getElem (by omega),List.getElem?_eq_getElem (by omega)]
  simp only [Option.getD_some,this,Bool.not_false]
 unfold readN
 rw [hlc,if_neg (by simp),zeo hn h ht h1,if_neg (by simp),Q7,if_neg (by simp),zla hn h ht,Qy,if_pos rfl]
end
theorem Sides.lam {n:Nat} {ss:List Nat} (h:Sides n ss)(hn:n≤8)(hc:clP ss 0=none):Lam n ss:=by
 refine ⟨h.lt,h.ne,h.even,h.nd,fun s hs t ht=> ?_⟩
 have hp:=(zb6 ss 0).1 hc
 have h8: ∀s∈ss,s<256:=fun s hs=>Nat.lt_of_lt_of_le (h.lt s hs) (Nat.pow_le_pow_right (n:=2) (by decide) hn)
 by_cases e:s=t
 ·subst e;exact zn7 (h8 s hs)
 ·rw [List.pairwise_iff_getElem] at hp
  obtain ⟨i,hi,rfl⟩:=List.getElem_of_mem hs
  obtain ⟨j,hj,rfl⟩:=List.getElem_of_mem ht
  rcases Nat.lt_trichotomy i j with h1|h1|h1
  ·exact hp i j hi hj h1
  ·subst h1;exact absurd rfl e
  ·rw [zn8];exact hp j i hj hi h1
theorem Lam.srt {n:Nat} {ss:List Nat} (h:Lam n ss)(hn:n≤8):Lam n (srt ss):=by
 have h8: ∀s∈ss,s<256:=fun s hs=>h.lt8 hn hs
 have hp:=z47 h8
 exact ⟨fun s hs=>h.lt s (hp.mem_iff.1 hs),fun s hs=>h.ne s (hp.mem_iff.1 hs),fun s hs=>h.even s (hp.mem_iff.1 hs),hp.nodup_iff.2 h.nd,fun s hs t ht=>h.ag s (hp.mem_iff.1 hs) t (hp.mem_iff.1 ht)⟩
def Num (A:List (List AV)):Prop:=∀C∈A,∃xs:List Value,C=xs.map AV.v
theorem Num.nil:Num []:=fun _ h=>by cases h
theorem Num.one8 (ss:List Nat):Num [ss.map u8]:=fun C hC=>⟨ss.map fun (n:Nat)=>Value.int .u8 (n:Int),by rw [List.mem_singleton.1 hC,List.map_map];rfl⟩
theorem Num.kS (ss:List Nat):Num (kS ss):=by
 unfold Vm.kS;split
 ·exact Num.nil
 ·exact Num.one8 ss
theorem PL.num {X:List (List AV)} (h:PL X):Num X:=fun C hC=>by
 obtain ⟨k,i,rfl⟩:=h C hC
 exact ⟨[.int k i],rfl⟩
theorem Num.refs {A:List (List AV)} (h:Num A)(n:Nat)(acc:List Nat):refsStore n acc A=acc:=by
 induction A generalizing acc with
 |nil=>rfl
 |cons C r ih=>
  obtain ⟨xs,rfl⟩:=h C (by simp)
  simp only [refsStore]
  rw [show refsL n acc (xs.map AV.v)=acc from z8e n (fun x=>x) xs acc]
  exact ih (fun D hD=>h D (by simp [hD])) acc
theorem Num.maps {A:List (List AV)} (h:Num A)(n:Nat)(M:List Nat):mapStore n M A=A:=by
 induction A with
 |nil=>rfl
 |cons C r ih=>
  obtain ⟨xs,rfl⟩:=h C (by simp)
  simp only [mapStore]
  rw [show mapLs n M (xs.map AV.v)=xs.map AV.v from z8l n M (fun x=>x) xs,ih (fun D hD=>h D (by simp [hD]))]
theorem Num.calm {A:List (List AV)} (h:Num A):Calm A:=by
 induction A with
 |nil=>exact ⟨fun _=>rfl,fun _ _ _=>rfl⟩
 |cons C r ih=>
  obtain ⟨xs,rfl⟩:=h C (by simp)
  exact (ih (fun D hD=>h D (by simp [hD]))).cons (fun n=>z63 (fun x=>AV.v x) n (fun _=>rfl) xs) (fun n T acc=>z3z (fun x=>AV.v x) n T (fun _ _=>rfl) xs acc)
theorem zpo {ss:List Nat} (h: ∀s∈ss,s<256):Dm fU (fin8 ss).toArray=ss.map U:=by
 unfold Dm
 show (fin8 ss).map (fun x=>U x.val)=ss.map U
 rw [show (fun x:Fin 256=>U x.val)=U∘(fun x:Fin 256=>x.val) from rfl,←List.map_map,zed h]
theorem zpn (ss:List Nat):Dm fU (Go.Sort.sort lt8 (fin8 ss).toArray)=(srt ss).map U:=by
 unfold Dm srt sortA
 rw [List.map_map];rfl
theorem znd (a g:Nat)(zs:List Nat)(m w:Nat):Num [cutC a g zs m w]:=by
 intro C hC
 rw [List.mem_singleton.1 hC]
 have key: ∀l:List AV,l.all (fun x=>match x with| .v _=>true|_=>false)=true→∃xs:List Value,l=xs.map AV.v:=by
  intro l
  induction l with
  |nil=>intro _;exact ⟨[],rfl⟩
  |cons x r ih=>
   intro h
   rw [List.all_cons,Bool.and_eq_true] at h
   obtain ⟨xs,e⟩:=ih h.2
   cases x with
   |v y=>exact ⟨y::xs,by rw [e];rfl⟩
   |_=>simp at h
 refine key _ ?_
 simp only [cutC,List.all_cons,List.all_append,List.all_map,List.all_nil,Bool.and_true,Bool.true_and]
 rw [List.all_eq_true];intro x _;rfl
theorem zbu {U:List Nat} {w s:Nat} (hs:itC U (s+1) w=w): ∀(k:Nat),itC U (k*(s+1)) w=w
 |0=>by rw [Nat.zero_mul];rfl
 |k+1=>by rw [Nat.succ_mul,z28,zbu hs k,hs]
section
variable {n:Nat} {L U W:List Nat} (hn:n≤8) (hU: ∀u∈U,u≤U.length) (hW: ∀w∈W,w≤U.length) (hWl:W.length=n) (hul:U.length=L.length) (hend: ∀w,w≤U.length→itC U U.length w=0) (Yq:outL U W=L)
include hn hU hW hWl hul hend Yq
theorem z97 {k:Nat} (hk:k<L.length)(b:Nat):(L.getD k 0).testBit b=true↔b<n∧∃t,itC U t (W.getD b 0)=k+1:=by
 have h:=zgw hU hW (by omega) (k:=k) (by omega) b
 rw [Yq] at h
 rw [h,hWl,Bool.and_eq_true,decide_eq_true_eq,decide_eq_true_eq]
 constructor
 ·rintro ⟨h1,t,_,h2⟩;exact ⟨h1,t,h2⟩
 ·rintro ⟨h1,t,h2⟩
  refine ⟨h1,t,?_,h2⟩
  apply Nat.lt_of_not_le;intro hle
  have hw:=hend (W.getD b 0) (hW _ (zp (by omega)))
  rw [show t=U.length+(t-U.length) by omega,z28,hw,z2b] at h2
  omega
theorem za5 {i j t:Nat} (hi:i<L.length)(hj:j<L.length)(h:itC U t (i+1)=j+1):Sub (L.getD i 0) (L.getD j 0):=by
 intro b hb
 obtain ⟨h1,s,h2⟩:=(z97 hn hU hW hWl hul hend Yq hi b).1 hb
 exact (z97 hn hU hW hWl hul hend Yq hj b).2 ⟨h1,s+t,by rw [z28,h2,h]⟩
theorem zgp (h:Lam n L) {k:Nat} (hk:k<L.length):Abv L (L.getD k 0) (some k) (U.getD k 0):=by
 obtain ⟨a,ha⟩:=zh0 (h.ne _ (zp hk))
 obtain ⟨Ot,t0,e0⟩:=(z97 hn hU hW hWl hul hend Yq hk a).1 ha
 have key: ∀j,j<L.length→j≠k→Sub (L.getD k 0) (L.getD j 0)→∃s,itC U s (U.getD k 0)=j+1:=by
  intro j hj QE hsub
  obtain ⟨_,s,e⟩:=(z97 hn hU hW hWl hul hend Yq hj a).1 (hsub a ha)
  rcases Nat.lt_trichotomy s t0 with h1|h1|h1
  ·exfalso
   have e2:itC U (t0-s) (j+1)=k+1:=by rw [←e,←z28,show s+(t0-s)=t0 by omega,e0]
   have:=za5 hn hU hW hWl hul hend Yq hj hk e2
   exact QE (zbr h.nd hj hk (this.anti hsub))
  ·subst h1;rw [e0] at e;omega
  ·refine ⟨s-t0-1,?_⟩
   have e2:itC U (s-t0) (k+1)=j+1:=by rw [←e0,←z28,show t0+(s-t0)=s by omega,e]
   rw [show s-t0=(s-t0-1)+1 by omega] at e2
   have e3:itC U (s-t0-1) (upC U (k+1))=j+1:=e2
   rwa [z6u] at e3
 by_cases h0:U.getD k 0=0
 ·left
  refine ⟨h0,fun j hj QE hsub=> ?_⟩
  obtain ⟨s,e⟩:=key j hj (fun e=>QE (by rw [e])) hsub
  rw [h0,z2b] at e;omega
 ·right
  have hv:=hU _ (zp (L:=U) (k:=k) (by omega))
  obtain ⟨i,hi⟩: ∃i,U.getD k 0=i+1:=⟨U.getD k 0-1,by omega⟩
  have hil:i<L.length:=by omega
  have hup:itC U 1 (k+1)=i+1:=by
   show upC U (k+1)=i+1
   rw [z6u,hi]
  have Q0:i≠k:=by
   rintro rfl
   have h1:=zbu (U:=U) (w:=i+1) (s:=0) hup U.length
   rw [Nat.zero_add,Nat.mul_one,hend _ (by omega)] at h1
   omega
  refine ⟨i,hi,hil,fun e=>Q0 (by simpa using e),za5 hn hU hW hWl hul hend Yq hk hil hup,fun j hj QE hsub=> ?_⟩
  obtain ⟨s,e⟩:=key j hj (fun e=>QE (by rw [e])) hsub
  rw [hi] at e
  exact za8 (za5 hn hU hW hWl hul hend Yq hil hj e)
end
theorem zir {n:Nat} {L U U2 W A2:List Nat} (hn:n≤8)(h:Lam n L)(ht:IsTree L n U2 A2)(hU: ∀u∈U,u≤U.length)(hW: ∀w∈W,w≤U.length)(hWl:W.length=n)(hul:U.length=L.length)(hend: ∀w,w≤U.length→itC U U.length w=0)(Yq:outL U W=L):U=U2:=by
 apply zb4 (by rw [hul,ht.ul])
 intro k hk
 have hk2:k<L.length:=by omega
 exact (zgp hn hU hW hWl hul hend Yq h hk2).uniq h hn (h.ne _ (zp hk2)) (ht.up k hk2)
theorem zka {n:Nat} {L U U2 A A2:List Nat} (hn:n≤8)(h:Lam n L)(ht:IsTree L n U A)(Q8:IsTree L n U2 A2):U=U2∧A=A2:=by
 constructor
 ·apply zb4 (by rw [ht.ul,Q8.ul])
  intro k hk
  have hk2:k<L.length:=by rw [←ht.ul];exact hk
  exact (ht.up k hk2).uniq h hn (h.ne _ (zp hk2)) (Q8.up k hk2)
 ·apply zb4 (by rw [ht.al,Q8.al])
  intro a ha
  have Vu:a<n:=by rw [←ht.al];exact ha
  refine (ht.at' a Vu).uniq h hn (fun e=> ?_) (Q8.at' a Vu)
  have:=Nat.two_pow_pos a
  omega
theorem mapJ (y:List Nat):(y.map fun (n:Nat)=>(n:Int)).map I=y.map J:=by rw [List.map_map];rfl
theorem mk_ag {n:Nat} (hn:n≤8)(g:Nat)(hg:g % 2=1) {out:List Nat} (h:clP out 0=none)(x:Nat):clP (mkS n g out x) 0=none:=by
 unfold mkS
 split
 ·exact h
 ·split
  ·exact h
  ·split
   ·exact h
   ·rename_i h3
    rw [zb6] at h⊢
    rw [List.pairwise_append]
    refine ⟨h,by simp,?_⟩
    intro a ha b hb
    rw [List.mem_singleton] at hb
    subst hb
    cases hc:agN a (smN n x)
    ·exfalso
     apply h3
     refine ⟨hg,?_⟩
     rw [List.any_eq_true]
     exact ⟨a,ha,by rw [hc];rfl⟩
    ·rfl
theorem zkq {n:Nat} (hn:n≤8)(g:Nat)(hg:g % 2=1): ∀(zs out:List Nat),clP out 0=none→clP (zs.foldl (mkS n g) out) 0=none
 | [],out,h=>h
 |z::r,out,h=>by
  rw [List.foldl_cons]
  exact zkq hn g hg r _ (mk_ag hn g hg h z)
theorem zom {n:Nat} (hn:n≤8)(g:Nat)(hg:g % 2=1)(zs:List Nat)(k:Nat):clP (madeS n g zs k) 0=none:=zkq hn g hg _ _ rfl
theorem zpe (a g:Nat)(zs:List Nat)(m w:Nat):(cutC a g zs m w).set 1 (.v (.int .u8 1))=cutC a 1 zs m w:=rfl
inductive GK
 |nil
 |lst
 |odd (a:Addr) (cap:Nat)
abbrev GS:=GK×List Int
def gK:GK→AV
 | .nil=> .v (.slice none 0 0)
 | .lst=> .lst .any 1 []
 | .odd a c=> .v (.slice (some a) 0 c)
def gM (p:GS):AV:=if p.2.length=0 then gK p.1 else .lst .any 1 (p.2.map I)
theorem z8o (p:GS)(R:AV→Prop)(h1:R (.v (.slice none 0 0)))(h2: ∀xs,R (.lst .any 1 xs))(h3: ∀a c,R (.v (.slice (some a) 0 c))):R (gM p):=by
 unfold gM
 split
 ·unfold gK;split
  ·exact h1
  ·exact h2 _
  ·exact h3 _ _
 ·exact h2 _
theorem z7t (p:GS):(gM p).shaped=true:=z8o p (fun a=>a.shaped=true) rfl (fun _=>rfl) (fun _ _=>rfl)
theorem z9v (p:GS):(gM p).cells=[gM p]:=z8o p (fun a=>a.cells=[a]) rfl (fun _=>rfl) (fun _ _=>rfl)
theorem z9o (p:GS):Ev.isAgg (gM p)=false:=z8o p (fun a=>Ev.isAgg a=false) rfl (fun _=>rfl) (fun _ _=>rfl)
theorem z66 (p:GS):storable (gM p)=true:=z8o p (fun a=>storable a=true) rfl (fun _=>rfl) (fun _ _=>rfl)
theorem z9k (n:Nat)(p:GS):okRef n (gM p)=true:=z8o p (fun a=>okRef n a=true) rfl (fun _=>rfl) (fun _ _=>rfl)
theorem zf0 (p:GS):pub (gM p)=gM p:=z8o p (fun a=>pub a=a) rfl (fun xs=>z3t 1 false xs) (fun _ _=>rfl)
attribute [go_sem] z7t z9v z9o z66 z9k zf0
section
variable {n:Nat} {U W:List Nat} (hn:n≤8) (hU: ∀u∈U,u≤U.length) (hW: ∀w∈W,w≤U.length) (hWl:W.length=n) (hend: ∀w,w≤U.length→itC U U.length w=0)
include hU hend in
theorem zge {x s:Nat} (hx:x≤U.length)(h0:x≠0):itC U (s+1) x≠x:=by
 intro h
 have h2:=zbu (U:=U) (w:=x) (s:=s) h U.length
 have h3:U.length*(s+1)=U.length+U.length*s:=by rw [Nat.mul_succ,Nat.add_comm]
 rw [h3,z28,hend x hx,z2b] at h2
 exact h0 h2.symm
include hU hend in
theorem zlf {w p q x:Nat} (hx:x≤U.length)(h0:x≠0)(h1:itC U p w=x)(h2:itC U q w=x):p=q:=by
 rcases Nat.lt_trichotomy p q with h|h|h
 ·exfalso
  apply zge (U:=U) hU hend (s:=q-p-1) hx h0
  rw [show q-p-1+1=q-p by omega,←h1,←z28,show p+(q-p)=q by omega,h2,h1]
 ·exact h
 ·exfalso
  apply zge (U:=U) hU hend (s:=p-q-1) hx h0
  rw [show p-q-1+1=p-q by omega,←h2,←z28,show q+(p-q)=p by omega,h1,h2]
include hn hU hW hWl hend
theorem sb {k:Nat} (hk:k<U.length)(b:Nat):((outL U W).getD k 0).testBit b=true↔b<n∧∃t,itC U t (W.getD b 0)=k+1:=by
 have VP:=z94 U W 0 (List.replicate U.length 0) (by omega) (fun k=>by simp [List.getD_eq_getElem?_getD,List.getElem?_replicate];split<;>simp)
 rw [show outF U 0 W (List.replicate U.length 0)=outL U W from rfl,List.length_replicate] at VP
 exact z97 hn hU hW hWl VP.1.symm hend rfl (by rw [VP.1];exact hk) b
theorem zjj:(outL U W).length=U.length:=by
 have VP:=z94 U W 0 (List.replicate U.length 0) (by omega) (fun k=>by simp [List.getD_eq_getElem?_getD,List.getElem?_replicate];split<;>simp)
 rw [show outF U 0 W (List.replicate U.length 0)=outL U W from rfl,List.length_replicate] at VP
 exact VP.1
variable (hlack: ∀c,c≤U.length→¬(min c 1+U.count c<3∧c ∉ W))
include hlack
theorem zeq {c:Nat} (hc:c≤U.length)(h0:c≠0): ∀(d x t:Nat),x≤U.length→x≠0→itC U t x=c→t+d=U.length→∃a,a<n∧∃s,itC U s (W.getD a 0)=x
 |0,x,t,hx,_,h,e=>by
  have:t=U.length:=by omega
  subst this
  rw [hend x hx] at h
  exact absurd h.symm h0
 |d+1,x,t,hx,hx0,h,e=>by
  by_cases hin:x∈W
  ·obtain ⟨a,ha,he⟩:=List.getElem_of_mem hin
   refine ⟨a,by omega,0,?_⟩
   show W.getD a 0=x
   rw [List.getD_eq_getElem?_getD,List.getElem?_eq_getElem ha,←he];rfl
  ·have hl:=hlack x hx
   have YP:0<U.count x:=by
    apply Nat.pos_of_ne_zero;intro hz
    exact hl ⟨by rw [hz];omega,hin⟩
   have hm:=List.count_pos_iff.1 YP
   obtain ⟨k,hk,he⟩:=List.getElem_of_mem hm
   have hup:upC U (k+1)=x:=by rw [z6u,List.getD_eq_getElem?_getD,List.getElem?_eq_getElem hk,←he];rfl
   obtain ⟨a,ha,s,hs⟩:=zeq hc h0 d (k+1) (t+1) (by omega) (by omega) (by
    show itC U t (upC U (k+1))=c
    rw [hup,h]) (by omega)
   exact ⟨a,ha,s+1,by rw [z9n,hs,hup]⟩
theorem zg5 {k:Nat} (hk:k<U.length): ∃a,a<n∧∃s,itC U s (W.getD a 0)=k+1:=
 zeq hn hU hW hWl hend hlack (c:=k+1) (by omega) (by omega) U.length (k+1) 0 (by omega) (by omega) rfl (by omega)
theorem two_at {c:Nat} (h:2≤U.count c)(i:Nat): ∃k,k<U.length∧k≠i∧U.getD k 0=c:=by
 apply Classical.byContradiction
 intro hno
 have key: ∀k,k<U.length→U.getD k 0=c→k=i:=fun k hk e=>by
  apply Classical.byContradiction;intro hne
  exact hno ⟨k,hk,hne,e⟩
 have h1:U.count c≤1:=by
  by_cases hi:i<U.length
  ·have hs:U=U.take i++U[i]::U.drop (i+1):=by
    rw [List.getElem_cons_drop,List.take_append_drop]
   have z1:(U.take i).count c=0:=by
    rw [List.count_eq_zero];intro hm
    obtain ⟨k,hk,e⟩:=List.mem_take_iff_getElem.1 hm
    have:=key k (by omega) (by rw [List.getD_eq_getElem?_getD,List.getElem?_eq_getElem (by omega),e];rfl)
    omega
   have z2:(U.drop (i+1)).count c=0:=by
    rw [List.count_eq_zero];intro hm
    obtain ⟨k,hk,e⟩:=List.mem_drop_iff_getElem.1 hm
    have:=key (i+1+k) (by omega) (by rw [List.getD_eq_getElem?_getD,List.getElem?_eq_getElem (by omega),e];rfl)
    omega
   rw [hs,List.count_append,List.count_cons,z1,z2]
   split<;>omega
  ·have:U.count c=0:=by
    rw [List.count_eq_zero];intro hm
    obtain ⟨k,hk,e⟩:=List.getElem_of_mem hm
    have:=key k hk (by rw [List.getD_eq_getElem?_getD,List.getElem?_eq_getElem hk,e];rfl)
    omega
   omega
 omega
theorem zhj {i j d:Nat} (hi:i<U.length)(hj:j<U.length)(hd:itC U (d+1) (i+1)=j+1): ∃b,((outL U W).getD j 0).testBit b=true∧((outL U W).getD i 0).testBit b=false:=by
 apply Classical.byContradiction
 intro hno
 have hsub: ∀b,b<n→(∃t,itC U t (W.getD b 0)=j+1)→∃t,itC U t (W.getD b 0)=i+1:=by
  intro b hb ht
  have h1:=(sb hn hU hW hWl hend hj b).2 ⟨hb,ht⟩
  cases hc:((outL U W).getD i 0).testBit b
  ·exact absurd ⟨b,h1,hc⟩ hno
  ·exact ((sb hn hU hW hWl hend hi b).1 hc).2
 have Kr:j+1 ∉ W:=by
  intro hm
  obtain ⟨b,hb,e⟩:=List.getElem_of_mem hm
  have e2:W.getD b 0=j+1:=by rw [List.getD_eq_getElem?_getD,List.getElem?_eq_getElem hb,e];rfl
  obtain ⟨t,ht⟩:=hsub b (by omega) ⟨0,e2⟩
  rw [e2] at ht
  apply zge (U:=U) hU hend (x:=j+1) (s:=t+d) (by omega) (by omega)
  rw [show t+d+1=t+(d+1) by omega,z28,ht,hd]
 have hc2:2≤U.count (j+1):=by
  apply Nat.le_of_not_lt;intro hlt
  exact hlack (j+1) (by omega) ⟨by omega,Kr⟩
 have YQ:upC U (itC U d (i+1))=j+1:=by rw [←z9n,hd]
 have KJ:itC U d (i+1)≠0:=fun h=>by rw [h] at YQ;simp [upC] at YQ
 have hpl:itC U d (i+1)≤U.length:=zk9 hU d (i+1) (by omega)
 obtain ⟨k,hk,KK,Ks⟩:=two_at hn hU hW hWl hend hlack hc2 (itC U d (i+1)-1)
 obtain ⟨b,hb,p,hp⟩:=zg5 hn hU hW hWl hend hlack hk
 have hpj:itC U (p+1) (W.getD b 0)=j+1:=by rw [z9n,hp,z6u,Ks]
 obtain ⟨q,hq⟩:=hsub b hb ⟨p+1,hpj⟩
 have hq2:itC U (q+d+1) (W.getD b 0)=j+1:=by rw [show q+d+1=q+(d+1) by omega,z28,hq,hd]
 have:=zlf hU hend (x:=j+1) (by omega) (by omega) hpj hq2
 have hpq:p=q+d:=by omega
 rw [hpq,z28,hq] at hp
 omega
theorem zld {i j:Nat} (hi:i<U.length)(hj:j<U.length)(hne:i≠j):(outL U W).getD i 0≠(outL U W).getD j 0:=by
 intro he
 obtain ⟨a,ha,s,hs⟩:=zg5 hn hU hW hWl hend hlack hi
 have hb:=(sb hn hU hW hWl hend hi a).2 ⟨ha,s,hs⟩
 have hb2:=hb
 rw [he] at hb2
 obtain ⟨_,t,ht⟩:=(sb hn hU hW hWl hend hj a).1 hb2
 rcases Nat.lt_trichotomy s t with h|h|h
 ·obtain ⟨b,h1,h2⟩:=zhj hn hU hW hWl hend hlack hi hj (d:=t-s-1) (by rw [show t-s-1+1=t-s by omega,←hs,←z28,show s+(t-s)=t by omega,ht])
  rw [he,h1] at h2;cases h2
 ·subst h;rw [hs] at ht;omega
 ·obtain ⟨b,h1,h2⟩:=zhj hn hU hW hWl hend hlack hj hi (d:=s-t-1) (by rw [show s-t-1+1=s-t by omega,←ht,←z28,show t+(s-t)=s by omega,hs])
  rw [he,h2] at h1;cases h1
variable (Ou:W.getD 0 0=0) (OP:1≤n)
include Ou OP
theorem zem:Lam n (outL U W):=by
 have hl:=zjj hn hU hW hWl hend
 have mem: ∀s∈outL U W,∃k,k<U.length∧s=(outL U W).getD k 0:=by
  intro s hs
  obtain ⟨k,hk,e⟩:=List.getElem_of_mem hs
  exact ⟨k,by omega,by rw [List.getD_eq_getElem?_getD,List.getElem?_eq_getElem hk,←e];rfl⟩
 refine ⟨?_,?_,?_,?_,?_⟩
 ·intro s hs
  obtain ⟨k,hk,rfl⟩:=mem s hs
  apply Nat.lt_pow_two_of_testBit
  intro i hi
  cases hc:((outL U W).getD k 0).testBit i
  ·rfl
  ·have:=((sb hn hU hW hWl hend hk i).1 hc).1;omega
 ·intro s hs h
  obtain ⟨k,hk,rfl⟩:=mem s hs
  obtain ⟨a,ha,t,ht⟩:=zg5 hn hU hW hWl hend hlack hk
  have:=(sb hn hU hW hWl hend hk a).2 ⟨ha,t,ht⟩
  rw [h,Nat.zero_testBit] at this;cases this
 ·intro s hs
  obtain ⟨k,hk,rfl⟩:=mem s hs
  cases hc:((outL U W).getD k 0).testBit 0
  ·rfl
  ·obtain ⟨_,t,ht⟩:=(sb hn hU hW hWl hend hk 0).1 hc
   rw [Ou,z2b] at ht;omega
 ·unfold List.Nodup
  rw [List.pairwise_iff_getElem]
  intro i j hi hj hij he
  apply zld hn hU hW hWl hend hlack (i:=i) (j:=j) (by omega) (by omega) (by omega)
  rw [List.getD_eq_getElem?_getD,List.getD_eq_getElem?_getD,List.getElem?_eq_getElem hi,List.getElem?_eq_getElem hj]
  exact he
 ·have h8: ∀k,k<U.length→(outL U W).getD k 0<256:=by
   intro k hk
   have:(outL U W).getD k 0<2^n:=by
    apply Nat.lt_pow_two_of_testBit
    intro i hi
    cases hc:((outL U W).getD k 0).testBit i
    ·rfl
    ·have:=((sb hn hU hW hWl hend hk i).1 hc).1;omega
   exact Nat.lt_of_lt_of_le this (Nat.pow_le_pow_right (n:=2) (by decide) hn)
  intro s hs t ht
  obtain ⟨i,hi,rfl⟩:=mem s hs
  obtain ⟨j,hj,rfl⟩:=mem t ht
  rw [znm (h8 i hi) (h8 j hj)]
  by_cases hd: ∀b,((outL U W).getD i 0).testBit b=true→((outL U W).getD j 0).testBit b=false
  ·exact .inl hd
  ·right
   obtain ⟨a,ha⟩:=Classical.not_forall.1 hd
   rw [Classical.not_imp] at ha
   obtain ⟨h1,h2⟩:=ha
   have h2:((outL U W).getD j 0).testBit a=true:=by simpa using h2
   obtain ⟨_,p,hp⟩:=(sb hn hU hW hWl hend hi a).1 h1
   obtain ⟨_,q,hq⟩:=(sb hn hU hW hWl hend hj a).1 h2
   rcases Nat.le_total p q with h|h
   ·left
    exact za5 hn hU hW hWl hl.symm hend rfl (by omega) (by omega) (t:=q-p) (by rw [←hp,←z28,show p+(q-p)=q by omega,hq])
   ·right
    exact za5 hn hU hW hWl hl.symm hend rfl (by omega) (by omega) (t:=p-q) (by rw [←hq,←z28,show q+(p-q)=p by omega,hp])
theorem zho:IsTree (outL U W) n U W:=by
 have hl:=zjj hn hU hW hWl hend
 have Yl:=zem hn hU hW hWl hend hlack Ou OP
 refine ⟨hl.symm,hWl,fun k hk=>zgp hn hU hW hWl hl.symm hend rfl Yl hk,fun a ha=> ?_⟩
 have hin:=hW (W.getD a 0) (zp (by omega))
 by_cases h0:W.getD a 0=0
 ·left
  refine ⟨h0,fun j hj _ hs=> ?_⟩
  obtain ⟨_,t,ht⟩:=(sb hn hU hW hWl hend (by omega) a).1 (za1 hs)
  rw [h0,z2b] at ht;omega
 ·right
  refine ⟨W.getD a 0-1,by omega,by omega,by simp,?_,fun j hj _ hs=> ?_⟩
  ·exact ze3 ((sb hn hU hW hWl hend (by omega) a).2 ⟨ha,0,by show W.getD a 0=_;omega⟩)
  ·obtain ⟨_,t,ht⟩:=(sb hn hU hW hWl hend (by omega) a).1 (za1 hs)
   exact za8 (za5 hn hU hW hWl hl.symm hend rfl (by omega) (by omega) (t:=t) (by rw [show W.getD a 0-1+1=W.getD a 0 by omega,ht]))
end
structure Tree (n:Nat) (U W:List Nat):Prop where
 hU: ∀u∈U,u≤U.length
 hW: ∀w∈W,w≤U.length
 hWl:W.length=n
 hend: ∀w,w≤U.length→itC U U.length w=0
 h0:W.getD 0 0=0
 hlack: ∀c,c≤U.length→¬(min c 1+U.count c<3∧c ∉ W)
theorem zlo {n:Nat} {U W:List Nat} (hU: ∀u∈U,u≤U.length)(hW: ∀w∈W,w≤U.length)(hWl:W.length=n)(h:(readN U W).1=0):Tree n U W∧readN U W=(0,outL U W)∧srtB (outL U W)=true:=by
 unfold readN at h⊢
 split at h
 ·cases h
 ·rename_i h1
  split at h
  ·cases h
  ·rename_i h2
   split at h
   ·cases h
   ·rename_i h3
    split at h
    ·rename_i h4
     rw [if_neg h1,if_neg h2,if_neg h3,if_pos h4]
     refine ⟨⟨hU,hW,hWl,?_,by simpa using h2,?_⟩,rfl,h4⟩
     ·intro w hw
      by_cases QJ:w=0
      ·rw [QJ,z2b]
      ·have hlc:lostC U=false:=by simpa using h1
       unfold lostC at hlc
       rw [List.any_eq_false] at hlc
       have:=hlc (w-1) (List.mem_range.2 (by omega))
       simp only [decide_eq_true_eq,Classical.not_not] at this
       rw [show w-1+1=w by omega] at this
       exact this
     ·rintro c hc ⟨h5,h6⟩
      apply h3
      rw [zby]
      exact ⟨c,by rw [zbx];omega,by rw [zf9 hU hc];exact h5,by rw [Nat.zero_add];exact h6⟩
    ·cases h
theorem Tree.lam {n:Nat} {U W:List Nat} (h:Tree n U W)(hn:n≤8)(h1:1≤n):Lam n (outL U W):=zem hn h.hU h.hW h.hWl h.hend h.hlack h.h0 h1
theorem Tree.is {n:Nat} {U W:List Nat} (h:Tree n U W)(hn:n≤8)(h1:1≤n):IsTree (outL U W) n U W:=zho hn h.hU h.hW h.hWl h.hend h.hlack h.h0 h1
def AbvTo (L:List Nat) (s:Nat) (but:Option Nat) (i r:Nat):Prop:=
 (r=0∧∀j,j<i→some j≠but→¬Sub s (L.getD j 0))∨
 (∃k,r=k+1∧k<i∧some k≠but∧Sub s (L.getD k 0)∧∀j,j<i→some j≠but→Sub s (L.getD j 0)→pc (L.getD k 0)≤pc (L.getD j 0))
theorem AbvTo.skip {L:List Nat} {s:Nat} {but:Option Nat} {i r:Nat} (h:AbvTo L s but i r)(hi:some i≠but→¬Sub s (L.getD i 0)∨(r≠0∧pc (L.getD (r-1) 0)≤pc (L.getD i 0))):AbvTo L s but (i+1) r:=by
 rcases h with ⟨rfl,h⟩ | ⟨k,rfl,h1,h2,h3,h4⟩
 ·left
  refine ⟨rfl,fun j hj hb=> ?_⟩
  by_cases e:j=i
  ·subst e
   rcases hi hb with h| ⟨h,_⟩
   ·exact h
   ·exact absurd rfl h
  ·exact h j (by omega) hb
 ·right
  refine ⟨k,rfl,by omega,h2,h3,fun j hj hb hs=> ?_⟩
  by_cases e:j=i
  ·subst e
   rcases hi hb with h| ⟨_,h⟩
   ·exact absurd hs h
   ·rw [Nat.add_sub_cancel] at h;exact h
  ·exact h4 j (by omega) hb hs
theorem AbvTo.take {L:List Nat} {s:Nat} {but:Option Nat} {i r:Nat} (h:AbvTo L s but i r)(hb:some i≠but)(hs:Sub s (L.getD i 0))(hr:r=0∨pc (L.getD i 0)<pc (L.getD (r-1) 0)):AbvTo L s but (i+1) (i+1):=by
 right
 refine ⟨i,rfl,by omega,hb,hs,fun j hj OQ OR=> ?_⟩
 by_cases e:j=i
 ·subst e;exact Nat.le_refl _
 ·rcases h with ⟨rfl,h⟩ | ⟨k,rfl,h1,h2,h3,h4⟩
  ·exact absurd OR (h j (by omega) OQ)
  ·have:=h4 j (by omega) OQ OR
   rcases hr with hr|hr
   ·omega
   ·rw [Nat.add_sub_cancel] at hr;omega
abbrev nilA:AV:=.v (.slice none 0 0)
def o1A (o:List AV):AV:=if o.length=0 then nilA else .lst (.own 1 o.length) 1 o
def o1T (m:Nat) (o:List AV):List Nat:=if o.length=0 then [m] else [m,o.length]
def o1Acc (o:List AV):List (Nat×Nat):=if o.length=0 then [] else [(1,o.length)]
theorem zgy (n:Nat)(o:List AV):okRef n (o1A o)=true:=by unfold o1A;split<;>rfl
theorem zb8 (o:List AV):storable (o1A o)=true:=by unfold o1A;split<;>rfl
theorem zer (o:List AV):(o1A o).shaped=true:=by unfold o1A;split<;>rfl
theorem zhh (o:List AV):(o1A o).cells=[o1A o]:=by unfold o1A;split<;>rfl
theorem zo8 (m:Nat)(o:List AV):ren1 1 (o1T m o) [] (o1A o)=(o1A o,o1Acc o):=by
 unfold o1A o1T o1Acc
 split
 ·rfl
 ·simp [ren1]
theorem zje (T:List Nat)(acc:List (Nat×Nat))(k:Nat)(xs:List AV):ren1 1 T acc (.lst (.own 0 k) 1 xs)=(.lst (.own 0 k) 1 xs,acc):=by simp [ren1]
theorem zlv (m:Nat)(o:List AV):(o1T m o).take 1=[m]:=by unfold o1T;split<;>rfl
theorem zlw (m:Nat)(o:List AV):m::(o1Acc o).map (fun x=>x.2)=o1T m o:=by unfold o1T o1Acc;split<;>rfl
theorem zl5 (m:Nat)(o:List AV)(y:AV)(s:List (List AV))(h:o.length<1000):appendAV 1 (o1A o) [y] ⟨s,o1T m o⟩=some (o1A (o++ [y]),⟨s,o1T m (o++ [y])⟩):=by
 have h2: ¬(o++ [y]).length=0:=by simp
 unfold o1A o1T
 rw [if_neg h2,if_neg h2]
 split
 ·next h0=>
  have:o=[]:=List.eq_nil_of_length_eq_zero h0
  subst this;rfl
 ·next h0=>
  simp only [appendAV]
  rw [if_pos trivial,if_pos (by unfold maxGrow;simp;omega)]
  simp
theorem zns {O:List Nat} (h:srtB O=true):O.Pairwise LexLe:=by
 unfold srtB at h
 rw [List.all_eq_true] at h
 rw [List.pairwise_iff_getElem]
 have step: ∀j (hj:j+1<O.length),LexLe O[j] O[j+1]:=by
  intro j hj
  have:=h j (List.mem_range.2 (by omega))
  rw [List.getD_eq_getElem?_getD,List.getD_eq_getElem?_getD,List.getElem?_eq_getElem hj,List.getElem?_eq_getElem (show j<O.length by omega)] at this
  unfold LexLe
  simpa using this
 have key: ∀d i (hj:i+d+1<O.length),LexLe O[i] O[i+d+1]:=by
  intro d
  induction d with
  |zero=>intro i hj;exact step i hj
  |succ d ih=>
   intro i hj
   have h1:=ih i (by omega)
   have h2:=step (i+d+1) (by omega)
   exact zne h1 h2
 intro i j hi hj hij
 have:=key (j-i-1) i (by omega)
 simp only [show i+(j-i-1)+1=j by omega] at this
 exact this
def membW (m:Nat):List Int:=((List.range 14).filter m.testBit).map fun (i:Nat)=>(i:Int)
def GoodW (ss:List Nat) (m:Nat):Prop:=m<2^ss.length∧∀i j,m.testBit i=true→m.testBit j=true→agN (ss.getD i 0) (ss.getD j 0)=true
section
variable {ss:List Nat} (hk:ss.length≤13) (h8: ∀s∈ss,s<256)
include hk h8
def BestW (ss:List Nat) (l:List Int):Prop:=(∃m,GoodW ss m∧l=membW m)∧∀m,GoodW ss m→(membW m).length<l.length∨((membW m).length=l.length∧lexLt (membW m) l=false)
omit hk h8 in
theorem BestW.uniq {l k:List Int} (h1:BestW ss l)(h2:BestW ss k):l=k:=by
 obtain ⟨⟨a,ga,rfl⟩,ha⟩:=h1
 obtain ⟨⟨b,gb,rfl⟩,hb⟩:=h2
 rcases ha b gb with h| ⟨h,h3⟩
 ·rcases hb a ga with h2| ⟨h2,_⟩ <;>omega
 ·rcases hb a ga with h2| ⟨_,h4⟩
  ·omega
  ·exact z82 _ _ h4 h3
omit hk h8 in
end
theorem zlc {n v:Nat} (h:v.testBit 0=false):smlN n v=v:=by unfold smlN;rw [if_neg (by rw [h];simp)]
end Go.Proofs.YtdnmhlfjafjkbaaGreatDoor.Vm
namespace Go.Proofs.YtdnmhlfjafjkbaaGreatDoor.Vm
open Go Go.Ev Go.Sort
set_option maxRecDepth 100000
set_option maxHeartbeats 4000000
theorem zkk {n j:Nat}:(2^n-1).testBit j=decide (j<n):=Nat.testBit_two_pow_sub_one n j
end Go.Proofs.YtdnmhlfjafjkbaaGreatDoor.Vm
namespace Go.Proofs.YtdnmhlfjafjkbaaGreatDoor.Vm
open Go Go.Ev Go.Sort
set_option maxRecDepth 100000
set_option maxHeartbeats 4000000
theorem idxU (xs:List Nat)(i:Nat)(h:i<xs.length):(xs.map U)[i]? =some (U xs[i]):=by simp [h]
theorem znh: ∀(X:List Nat),group false 1 X.length (X.map U)=X.map U
 | []=>rfl
 |x::r=>by
  have ih:=znh r
  simp only [List.length_cons,List.map_cons,group,List.drop_succ_cons,List.drop_zero,ih]
  rfl
theorem znj (l:Nat)(X:List Nat)(h:X≠[]):frzV l (X.map U) (.rsl l 0 X.length X.length 1 false)=sl 1 true (X.map U):=by
 simp only [frzV,lm_,List.drop_zero]
 rw [if_pos ⟨trivial,by omega,.inr trivial,Nat.le_refl _⟩,pubsU,znh,za3 (by simpa using h)]
theorem zp5 {S:List (List AV)} {l:Nat} {X:List Nat} (h:X≠[])(hl:S[l]? =some (X.map U))(v:Nat)(T:List Nat): ∃S',frzArgs (rslsOf [.rsl l 0 X.length X.length 1 false,U v]) [.rsl l 0 X.length X.length 1 false,U v] ⟨S,T⟩=([sl 1 true (X.map U),U v],⟨S',T⟩):=by
 have e1:=znj l X h
 obtain ⟨x,r,rfl⟩: ∃x r,X=x::r:=by cases X with|nil=>exact absurd rfl h|cons x r=>exact ⟨x,r,rfl⟩
 have e2:frzV l (U x::List.map U r) (U v)=U v:=rfl
 simp only [List.map_cons] at hl e1
 simp only [rslsOf,frzArgs,List.map_cons,List.map_nil,frzA,frzL,hl,e1,e2]
 exact ⟨_,rfl⟩
theorem zme (S:List (List AV))(T:List Nat)(l:Nat)(xs:List Nat)(hl:S[l]? =some (xs.map U))(k:Nat)(hk:pure k=false)(caps:List AV)(hlen:xs.length<1000000)(p:Nat→Bool)(hc: ∀x∈xs,run L k (U x::caps) ⟨S,T⟩=some (B (p x),⟨S,T⟩))(lo hi:Nat)(i:Nat)(hok:i≤xs.length)(env:Env)(st:St)
  (hg:gcAV false lo hi (canon env [0,1,7,8]) st=([(0,.rsl l 0 xs.length xs.length 1 false),(1,.fn (.func k) [] caps),(7,J xs.length),(8,J i)],⟨S,T⟩)):
  ∃x_1 en s,lim (headed pure (run L) false [0,1,7,8] lp117_0 lo hi) env st=some (x_1,en,s)∧(s=⟨S,T⟩∧((x_1=.exit 0∧(xs.drop i).findIdx? p=none)∨(x_1=.ret∧∃j:Nat,(xs.drop i).findIdx? p=some j∧en.get 4=J (i+j)))):=by
 refine z8 (α:=Nat) (fun i=>xs.length-i) (fun i=>i≤xs.length) (fun i=>([(0,.rsl l 0 xs.length xs.length 1 false),(1,.fn (.func k) [] caps),(7,J xs.length),(8,J i)],⟨S,T⟩)) (fun i x_1 en s=>s=⟨S,T⟩∧((x_1=.exit 0∧(xs.drop i).findIdx? p=none)∨(x_1=.ret∧∃j:Nat,(xs.drop i).findIdx? p=some j∧en.get 4=J (i+j)))) (fun i hok=> ?_) i hok env st hg
 by_cases h:i<xs.length
 ·have hx:=idxU xs i h
  have hs:=za i (by omega)
  have hd:xs.drop i=xs[i]::xs.drop (i+1):=List.drop_eq_getElem_cons h
  have hcall:=hc xs[i] (List.getElem_mem h)
  have hlt:((i:Int)<(xs.length:Int))=True:=eT (by omega)
  have hi1:(i<xs.length)=True:=eT (by omega)
  have hi2:(i+1≤xs.length)=True:=eT (by omega)
  rw [hd,List.findIdx?_cons]
  generalize xs[i]=a at*
  cases hp:p a with
  |true=>
   rw [hp] at hcall
   simp only [go_sem,lp117_0,hl,hx,hlt,hi1,hi2,hk,hcall,nn_,lm_]
   exact ⟨0,rfl,rfl⟩
  |false=>
   rw [hp] at hcall
   simp only [go_sem,lp117_0,hl,hx,hlt,hi1,hi2,hk,hcall,hs,nn_,lm_]
   refine ⟨i+1,by simp only [go_sem,z3,z4,z5]<;>rfl,?_,?_,fun x en s hq=> ?_⟩
   ·omega
   ·omega
   ·obtain ⟨rfl,hq⟩:=hq
    refine ⟨rfl,?_⟩
    rcases hq with ⟨rfl,hq⟩ | ⟨rfl,j,hq,hj⟩
    ·left;rw [hq];exact ⟨rfl,rfl⟩
    ·right;refine ⟨rfl,j+1,by rw [hq];rfl,?_⟩
     rw [hj,show i+1+j=i+(j+1) by omega]
 ·have hd:xs.drop i=[]:=List.drop_eq_nil_of_le (by omega)
  have hlt:((i:Int)<(xs.length:Int))=False:=eF (by omega)
  rw [hd]
  simp only [go_sem,lp117_0,hlt]
  trivial
theorem c117r (S:List (List AV))(T:List Nat)(l:Nat)(xs:List Nat)(hl:S[l]? =some (xs.map U))(k:Nat)(hk:pure k=false)(caps:List AV)(hlen:xs.length<1000000)(p:Nat→Bool)(hc: ∀x∈xs,run L k (U x::caps) ⟨S,T⟩=some (B (p x),⟨S,T⟩)):
  run L 117 [.rsl l 0 xs.length xs.length 1 false,.fn (.func k) [] caps] ⟨S,T⟩=some (I (idxF p xs),⟨S,T⟩):=by
 rw [z6 (fn:=ir117) rfl rfl]
 simp only [ir117,go_sem]
 generalize hg:lim (headed pure (run L) false _ lp117_0 _ _) _ _=o
 obtain ⟨x,en,s,rfl,h2⟩: ∃x en s,o=some (x,en,s)∧_:=by rw [←hg];exact zme S T l xs hl k hk caps hlen p hc _ _ 0 (by omega) _ _ (by simp only [go_sem]<;>rfl)
 clear hg
 obtain ⟨rfl,h2⟩:=h2
 rw [List.drop_zero] at h2
 unfold idxF
 rcases h2 with ⟨rfl,h2⟩ | ⟨rfl,j,h2,hj⟩
 ·rw [h2]
  simp only [go_sem]
 ·rw [h2]
  rw [Nat.zero_add] at hj
  simp only [go_sem,hj]
theorem c56r (S:List (List AV))(T:List Nat)(l:Nat)(xs:List Nat)(hl:S[l]? =some (xs.map U))(k:Nat)(hk:pure k=false)(caps:List AV)(hlen:xs.length<1000000)(p:Nat→Bool)(hc: ∀x∈xs,run L k (U x::caps) ⟨S,T⟩=some (B (p x),⟨S,T⟩)):
  run L 56 [.rsl l 0 xs.length xs.length 1 false,.fn (.func k) [] caps] ⟨S,T⟩=some (B (xs.any p),⟨S,T⟩):=by
 have h:=c117r S T l xs hl k hk caps hlen p hc
 rw [z6 (fn:=ir56) rfl rfl]
 simp only [ir56,go_sem,h,zh9]
theorem c107r (S:List (List AV))(T:List Nat)(l:Nat)(a b:Nat)(ha:a<256)(hb:b<256)(hl:S[l]? =some [U b]):run L 107 [U a,.ptr l 0] ⟨S,T⟩=some (B (!agN a b),⟨S,T⟩):=by
 rw [z6 (fn:=ir107) rfl rfl]
 have h:=fun st=>c41 a b ha hb st
 cases hh:agN a b<;>rw [hh] at h<;>simp only [ir107,go_sem,h,hl]
def mU (o:List Nat):AV:=if o=[] then .v (.slice none 0 0) else .rsl 1 0 o.length o.length 1 false
def mS (o:List Nat):List (List AV):=if o=[] then [] else [o.map U]
theorem zon {o:List Nat} (h:o≠[]):mU o=.rsl 1 0 o.length o.length 1 false:=if_neg h
theorem zoo {o:List Nat} (h:o≠[]):mS o=[o.map U]:=if_neg h
theorem hapU0 (S:List (List AV))(v:Nat):appendmAV 1 false (.v (.slice none 0 0)) [U v] ⟨S,[]⟩=some (.rsl S.length 0 1 1 1 false,⟨S++ [[U v]],[]⟩):=by
 simp only [appendmAV,newM]
 rw [if_pos (by unfold maxGrow;simp)]
 rfl
theorem hapU (S:List (List AV))(l:Nat)(o:List Nat)(v:Nat)(hl:S[l]? =some (o.map U))(h:o≠[])(h2:o.length≤1000):appendmAV 1 false (.rsl l 0 o.length o.length 1 false) [U v] ⟨S,[]⟩=some (.rsl S.length 0 (o.length+1) (o.length+1) 1 false,⟨S.set l []++ [(o++ [v]).map U],[]⟩):=by
 have htk:(o.map U).take o.length=o.map U:=List.take_of_length_le (by simp)
 have hp:1≤o.length:=List.length_pos_iff.2 h
 simp only [appendmAV,hl,lm_,List.length_cons,List.length_nil,Nat.mul_one,htk]
 rw [if_pos ⟨trivial,trivial,Nat.le_refl _,by omega,by omega⟩,if_neg (by omega),if_pos ⟨trivial,by unfold maxGrow;omega,by omega⟩]
 simp [flatAV]
 rfl
theorem ze0 (n:Nat)(acc:List Nat)(a g:Nat)(zs:List Nat)(m w:Nat):refsL n acc (cutC a g zs m w)=acc:=(znd a g zs m w).refs n acc
theorem ze6 (n:Nat)(M:List Nat)(a g:Nat)(zs:List Nat)(m w:Nat):mapLs n M (cutC a g zs m w)=cutC a g zs m w:=by
 have h:=(znd a g zs m w).maps n M
 simpa [mapStore] using h
theorem loop38 (n:Nat)(hn:n≤8)(a g:Nat)(zs:List Nat)(hz:zs.length=13)(hzs: ∀z∈zs,z<256)(m w k:Nat)(hk:k≤13)(i:Nat)(o:List Nat)(hok:i≤k∧o.length≤i∧∀y∈o,y<256)(env:Env)(st:St)
  (hg:gcAV true 1 0 (canon env [2,6,7,23,24,25,3000000]) st=([(2,.ptr 0 0),(6,J n),(7,mU o),(23,.rsl 0 2 k 13 1 false),(24,J k),(25,J i),(3000000,.any)],⟨cutC a g zs m w::mS o,[]⟩)):
  ∃x_1 en s,lim (headed pure (run L) true [2,6,7,23,24,25,3000000] lp38_0 1 0) env st=some (x_1,en,s)∧(x_1=.exit 0∧en.get 6=J n∧en.get 7=mU (((zs.take k).drop i).foldl (mkS n g) o)∧s=⟨cutC a g zs m w::mS (((zs.take k).drop i).foldl (mkS n g) o),[]⟩):=by
 refine z8 (α:=Nat×List Nat) (fun ⟨i,o⟩=>k-i) (fun ⟨i,o⟩=>i≤k∧o.length≤i∧∀y∈o,y<256) (fun ⟨i,o⟩=>([(2,.ptr 0 0),(6,J n),(7,mU o),(23,.rsl 0 2 k 13 1 false),(24,J k),(25,J i),(3000000,.any)],⟨cutC a g zs m w::mS o,[]⟩)) (fun ⟨i,o⟩ x_1 en s=>x_1=.exit 0∧en.get 6=J n∧en.get 7=mU (((zs.take k).drop i).foldl (mkS n g) o)∧s=⟨cutC a g zs m w::mS (((zs.take k).drop i).foldl (mkS n g) o),[]⟩) (fun ⟨i,o⟩ hok=> ?_) ⟨i,o⟩ hok env st hg
 simp only at hok
 obtain ⟨h1,h2,h3⟩:=hok
 dsimp only at h1 h2 h3⊢
 by_cases h:i<k
 ·have hs:=za i (by omega)
  have hlt:((i:Int)<(k:Int))=True:=eT (by omega)
  have hd:(zs.take k).drop i=zs.getD i 0::(zs.take k).drop (i+1):=by
   rw [List.drop_eq_getElem_cons (by rw [List.length_take];omega)]
   congr 1
   rw [List.getElem_take];simp [List.getD_eq_getElem?_getD,show i<zs.length by omega]
  have hz2:=cutZ a g zs hz m w i (by omega)
  have hg1:=cut1 a g zs m w
  have hx:zs.getD i 0<256:=by
   rw [List.getD_eq_getElem?_getD,List.getElem?_eq_getElem (by omega)]
   exact hzs _ (List.getElem_mem _)
  rw [hd,List.foldl_cons]
  generalize zs.getD i 0=x at*
  have Qx:=zn9 hn x
  have hl:=zjq n g o x
  have hl2:=mkS_lt hn g o h3 x
  have hw:=z8s x (by omega)
  have hsh:=shlU n hn
  have hfu:=fullU n hn
  have V9:2^n≤256:=Nat.pow_le_pow_right (n:=2) (by decide) hn
  have hp:0<2^n:=Nat.two_pow_pos n
  have ha:=zn6 x (2^n-1) (by omega) (by omega)
  have hb:binAV .andNot none (U (x&&&(2^n-1))) (.v (.int .u64 1))=some (U (dfN (x&&&(2^n-1)) 1)):=dfU (x&&&(2^n-1)) 1 (Nat.lt_of_le_of_lt Nat.and_le_left (by omega)) (by omega)
  have he:mkS n g o x=if smN n x=0 then o else if smN n x∈o then o else if g % 2=1∧o.any (fun y=> !agN y (smN n x))=true then o else o++ [smN n x]:=rfl
  have Qv:dfN (x&&&(2^n-1)) 1=smN n x:=rfl
  rw [Qv] at hb
  rw [he] at hl hl2⊢
  generalize smN n x=v at*
  have Ql: ∀st,run L 55 [sl 1 true (o.map U),U v] st=some (B (decide (v∈o)),st):=fun st=>c55 true o (by omega) v st
  have hr:binAV .rem none (u8 g) (.v (.int .u8 2))=some (u8 (g % 2)):=rem8 g 2 (by omega)
  have Yy:pure 55=true:=rfl
  have YC:pure 56=false:=rfl
  have hpr: ∀b,plainR (B b)=true:=fun _=>rfl
  by_cases ho:o=[]
  ·subst ho
   have eU:mU []=.v (.slice none 0 0):=rfl
   have eS:mS []=[]:=rfl
   have Ql: ∀st,run L 55 [.v (.slice none 0 0),U v] st=some (B (decide (v∈([]:List Nat))),st):=Ql
   have hfr: ∀st,frzArgs (rslsOf [.v (.slice none 0 0),U v]) [.v (.slice none 0 0),U v] st=([.v (.slice none 0 0),U v],st):=fun _=>rfl
   have Qz:=c56 ⟨[cutC a g zs m w,[U v]],[]⟩ 107 rfl [.ptr 1 0] (.v (.slice none 0 0)) [] (by simp) rfl (fun i h=>absurd h (by simp)) (fun y=> !agN y v) (fun y hy=>absurd hy (by simp))
   have happ:=hapU0 [cutC a g zs m w,[U v]] v
   rw [eU,eS]
   by_cases p1:v=0
   ·subst p1
    rw [if_pos rfl]
    simp only [go_sem,lp38_0,hlt,nn_,hs,hz2,hw,hsh,hfu,ha,hb,Int.natCast_zero]
    refine ⟨(i+1,[]),by simp only [go_sem,z3,z4,z5,eU,eS,z4r,z13,ze0,ze6,z79,z7c,z7a,z4d,compact,compactW,refsEnv,refsV,refsL,refsStore,refsAt,mapEnv,mapL,mapLs,newName,posOf,mapStore,pickStore,namesOk,z0j,z20,List.contains_nil,List.contains_cons,Option.getD_some,hasKey]<;>rfl,?_,?_,fun x en s hq=> ?_⟩
    ·dsimp only;exact ⟨by omega,by simp,h3⟩
    ·dsimp only;omega
    ·exact hq
   ·have q1:((v:Int)=0)=False:=eF (by omega)
    have p2:(v∈([]:List Nat))=False:=eF (by simp)
    have Ql: ∀st,run L 55 [.v (.slice none 0 0),U v] st=some (B false,st):=Ql
    have Qz:run L 56 [.v (.slice none 0 0),.fn (.func 107) [] [.ptr 1 0]] ⟨[cutC a g zs m w,[U v]],[]⟩=some (B false,⟨[cutC a g zs m w,[U v]],[]⟩):=Qz
    rw [if_neg p1,if_neg (by simp),if_neg (by simp)] at hl hl2⊢
    rw [List.nil_append] at hl hl2⊢
    have eU1:mU [v]=.rsl 1 0 1 1 1 false:=rfl
    have eS1:mS [v]=[[U v]]:=rfl
    by_cases p3:g % 2=1
    ·have q3:(((g % 2:Nat):Int)=1)=True:=eT (by omega)
     simp only [go_sem,lp38_0,hlt,nn_,hs,hz2,hw,hsh,hfu,ha,hb,hg1,q1,Ql,Yy,hpr,YC,hfr,hr,q3,Qz,happ,Int.cast_ofNat_Int]
     refine ⟨(i+1,[v]),by simp only [go_sem,z3,z4,z5,eU1,eS1,z4r,z13,ze0,ze6,z79,z7c,z7a,z4d,compact,compactW,refsEnv,refsV,refsL,refsStore,refsAt,mapEnv,mapL,mapLs,newName,posOf,mapStore,pickStore,namesOk,z0j,z20,List.contains_nil,List.contains_cons,Option.getD_some,hasKey]<;>rfl,?_,?_,fun x en s hq=> ?_⟩
     ·dsimp only;exact ⟨by omega,by simp,hl2⟩
     ·dsimp only;omega
     ·exact hq
    ·have q3:(((g % 2:Nat):Int)=1)=False:=eF (by omega)
     simp only [go_sem,lp38_0,hlt,nn_,hs,hz2,hw,hsh,hfu,ha,hb,hg1,q1,Ql,Yy,hpr,YC,hfr,hr,q3,happ]
     refine ⟨(i+1,[v]),by simp only [go_sem,z3,z4,z5,eU1,eS1,z4r,z13,ze0,ze6,z79,z7c,z7a,z4d,compact,compactW,refsEnv,refsV,refsL,refsStore,refsAt,mapEnv,mapL,mapLs,newName,posOf,mapStore,pickStore,namesOk,z0j,z20,List.contains_nil,List.contains_cons,Option.getD_some,hasKey]<;>rfl,?_,?_,fun x en s hq=> ?_⟩
     ·dsimp only;exact ⟨by omega,by simp,hl2⟩
     ·dsimp only;omega
     ·exact hq
  ·have eU:=zon ho
   have eS:=zoo ho
   obtain ⟨S',hfr⟩:=zp5 (S:=[cutC a g zs m w,o.map U,[U v]]) (l:=1) ho rfl v []
   have Qz:=c56r [cutC a g zs m w,o.map U,[U v]] [] 1 o rfl 107 rfl [.ptr 2 0] (by omega) (fun y=> !agN y v) (fun y hy=>c107r _ _ 2 y v (h3 y hy) Qx rfl)
   have happ:=hapU [cutC a g zs m w,o.map U,[U v]] 1 o v rfl ho (by omega)
   rw [eU,eS]
   by_cases p1:v=0
   ·subst p1
    rw [if_pos rfl]
    simp only [go_sem,lp38_0,hlt,nn_,hs,hz2,hw,hsh,hfu,ha,hb,Int.natCast_zero]
    refine ⟨(i+1,o),by simp only [go_sem,z3,z4,z5,eU,eS,z4r,z13,ze0,ze6,z79,z7c,z7a,z4d,compact,compactW,refsEnv,refsV,refsL,refsStore,refsAt,mapEnv,mapL,mapLs,newName,posOf,mapStore,pickStore,namesOk,z0j,z20,List.contains_nil,List.contains_cons,Option.getD_some,hasKey]<;>rfl,?_,?_,fun x en s hq=> ?_⟩
    ·dsimp only;exact ⟨by omega,by omega,h3⟩
    ·dsimp only;omega
    ·exact hq
   ·have q1:((v:Int)=0)=False:=eF (by omega)
    rw [if_neg p1] at hl hl2⊢
    by_cases p2:v∈o
    ·rw [if_pos p2]
     simp only [go_sem,lp38_0,hlt,nn_,hs,hz2,hw,hsh,hfu,ha,hb,q1,Ql,Yy,hpr,hfr,p2]
     refine ⟨(i+1,o),by simp only [go_sem,z3,z4,z5,eU,eS,z4r,z13,ze0,ze6,z79,z7c,z7a,z4d,compact,compactW,refsEnv,refsV,refsL,refsStore,refsAt,mapEnv,mapL,mapLs,newName,posOf,mapStore,pickStore,namesOk,z0j,z20,List.contains_nil,List.contains_cons,Option.getD_some,hasKey]<;>rfl,?_,?_,fun x en s hq=> ?_⟩
     ·dsimp only;exact ⟨by omega,by omega,h3⟩
     ·dsimp only;omega
     ·exact hq
    ·rw [if_neg p2] at hl hl2⊢
     have eU1:mU (o++ [v])=.rsl 1 0 (o.length+1) (o.length+1) 1 false:=by rw [zon (by simp)];simp
     have eS1:mS (o++ [v])=[(o++ [v]).map U]:=zoo (by simp)
     by_cases p3:g % 2=1
     ·have q3:(((g % 2:Nat):Int)=1)=True:=eT (by omega)
      cases p4:o.any (fun y=> !agN y v) with
      |true=>
       rw [p4] at Qz hl hl2
       rw [if_pos ⟨p3,rfl⟩] at hl hl2⊢
       simp only [go_sem,lp38_0,hlt,nn_,hs,hz2,hw,hsh,hfu,ha,hb,hg1,q1,Ql,Yy,hpr,YC,hfr,p2,hr,q3,Qz,Int.cast_ofNat_Int]
       refine ⟨(i+1,o),by simp only [go_sem,z3,z4,z5,eU,eS,z4r,z13,ze0,ze6,z79,z7c,z7a,z4d,compact,compactW,refsEnv,refsV,refsL,refsStore,refsAt,mapEnv,mapL,mapLs,newName,posOf,mapStore,pickStore,namesOk,z0j,z20,List.contains_nil,List.contains_cons,Option.getD_some,hasKey]<;>rfl,?_,?_,fun x en s hq=> ?_⟩
       ·dsimp only;exact ⟨by omega,by omega,h3⟩
       ·dsimp only;omega
       ·exact hq
      |false=>
       rw [p4] at Qz hl hl2
       rw [if_neg (by simp)] at hl hl2⊢
       simp only [go_sem,lp38_0,hlt,nn_,hs,hz2,hw,hsh,hfu,ha,hb,hg1,q1,Ql,Yy,hpr,YC,hfr,p2,hr,q3,Qz,happ]
       refine ⟨(i+1,o++ [v]),by simp only [go_sem,z3,z4,z5,eU1,eS1,z4r,z13,ze0,ze6,z79,z7c,z7a,z4d,compact,compactW,refsEnv,refsV,refsL,refsStore,refsAt,mapEnv,mapL,mapLs,newName,posOf,mapStore,pickStore,namesOk,z0j,z20,List.contains_nil,List.contains_cons,Option.getD_some,hasKey]<;>rfl,?_,?_,fun x en s hq=> ?_⟩
       ·dsimp only;exact ⟨by omega,by omega,hl2⟩
       ·dsimp only;omega
       ·exact hq
     ·have q3:(((g % 2:Nat):Int)=1)=False:=eF (by omega)
      rw [if_neg (fun hh=>p3 hh.1)] at hl hl2⊢
      simp only [go_sem,lp38_0,hlt,nn_,hs,hz2,hw,hsh,hfu,ha,hb,hg1,q1,Ql,Yy,hpr,YC,hfr,p2,hr,q3,happ]
      refine ⟨(i+1,o++ [v]),by simp only [go_sem,z3,z4,z5,eU1,eS1,z4r,z13,ze0,ze6,z79,z7c,z7a,z4d,compact,compactW,refsEnv,refsV,refsL,refsStore,refsAt,mapEnv,mapL,mapLs,newName,posOf,mapStore,pickStore,namesOk,z0j,z20,List.contains_nil,List.contains_cons,Option.getD_some,hasKey]<;>rfl,?_,?_,fun x en s hq=> ?_⟩
      ·dsimp only;exact ⟨by omega,by omega,hl2⟩
      ·dsimp only;omega
      ·exact hq
 ·have hd:(zs.take k).drop i=[]:=List.drop_eq_nil_of_le (by rw [List.length_take];omega)
  have hlt:((i:Int)<(k:Int))=False:=eF (by omega)
  rw [hd]
  simp only [go_sem,lp38_0,hlt]
  try trivial
theorem c38 (a g:Nat)(ha:a<256)(zs:List Nat)(hz:zs.length=13)(hzs: ∀z∈zs,z<256)(m w:Nat)(hm:m<256)(M d:Nat)(hM:(M=6∧d=5)∨(M=7∧d=6)∨(M=8∧d=7)):
  run L 38 [cutAV a g zs m w,J M] ⟨[],[]⟩=some (.tup [J (2+a % d),mU (madeS (2+a % d) g zs (m % 14))],⟨cutC a g zs m w::mS (madeS (2+a % d) g zs (m % 14)),[]⟩):=by
 rw [z6 (fn:=ir38) rfl rfl]
 have h0:=cut0 a g zs m w
 have Kt:=cut15 a g zs hz m w
 have hw:=w64 a (by omega)
 have Ku:=w64 m (by omega)
 have hd:0<d∧d<8:=by omega
 have Qi:IntKind.i64.wrap ((M:Int)-1)=(d:Int):=by
  rw [←w64 d (by omega)];congr 1;omega
 have hr:=remJ a d (by omega)
 have hlt:=Nat.mod_lt a hd.1
 have hn:IntKind.i64.wrap (2+((a % d:Nat):Int))=((2+a % d:Nat):Int):=by
  rw [←w64 (2+a % d) (by omega)];congr 1
 have Kv:binAV .rem none (J m) (I 14)=some (J (m % 14)):=remJ m 14 (by omega)
 have hk:m % 14≤13:=by omega
 have hl:(cutC a g zs m w).length=17:=lenC a g zs hz m w
 have e:madeS (2+a % d) g zs (m % 14)=(((zs.take (m % 14)).drop 0).foldl (mkS (2+a % d) g) []):=rfl
 rw [e]
 generalize m % 14=k at*
 generalize a % d=q at*
 have hsl:sliceaAV 13 1 false (.ptr 0 2) none (some (.v (.int .i64 (k:Int)))) none=some (.rsl 0 2 k 13 1 false):=by
  simp only [sliceaAV,natOr,natOf]
  simp;omega
 have Q9:cutAV a g zs m w=.agg (cutC a g zs m w):=rfl
 have e1:mU []=.v (.slice none 0 0):=rfl
 have e2:mS []=[]:=rfl
 simp only [ir38,Q9,go_sem,z4r,z13,zoa,zb9,h0,Kt,hw,Ku,Qi,hr,hn,Kv,hsl,hl]
 generalize hg:lim (headed pure (run L) true _ lp38_0 _ _) _ _=o
 obtain ⟨x,en,s,rfl,h2⟩: ∃x en s,o=some (x,en,s)∧_:=by rw [←hg];exact loop38 (2+q) (by omega) a g zs hz hzs m w k hk 0 [] ⟨by omega,by simp,by simp⟩ _ _ (by simp only [go_sem,e1,e2,z4r,z13,ze0,ze6,z79,z7c,z7a,z4d,compact,compactW,refsEnv,refsV,refsL,refsStore,refsAt,mapEnv,mapL,mapLs,newName,posOf,mapStore,pickStore,namesOk,z0j,z20,List.contains_nil,List.contains_cons,Option.getD_some,hasKey,Int.natCast_zero]<;>rfl)
 clear hg
 obtain ⟨rfl,h6,h7,rfl⟩:=h2
 simp only [go_sem,h6,h7]
theorem zae (l:Nat)(cs:List AV): ∀xs:List Value,frzVs l cs (xs.map AV.v)=xs.map AV.v
 | []=>rfl
 |x::r=>by
  have ih:=zae l cs r
  simp only [List.map_cons,frzVs,frzV,ih]
theorem Num.frz {A:List (List AV)} (h:Num A)(l:Nat)(cs:List AV):frzStore l cs A=A:=by
 induction A with
 |nil=>rfl
 |cons a r ih=>
  obtain ⟨xs,rfl⟩:=h a List.mem_cons_self
  simp only [frzStore,zae,ih (fun C hC=>h C (List.mem_cons_of_mem _ hC))]
theorem zni: ∀(X:List Int),group false 1 X.length (X.map I)=X.map I
 | []=>rfl
 |x::r=>by
  have ih:=zni r
  simp only [List.length_cons,List.map_cons,group,List.drop_succ_cons,List.drop_zero,ih]
  rfl
theorem frzV_I (l:Nat)(X:List Int)(h:X≠[]):frzV l (X.map I) (.rsl l 0 X.length X.length 1 false)=sl 1 true (X.map I):=by
 have hp:pubs (X.map I)=X.map I:=z8g I (fun _=>rfl) X
 simp only [frzV,lm_,List.drop_zero]
 rw [if_pos ⟨trivial,by omega,.inr trivial,Nat.le_refl _⟩,hp,zni,za3 (by simpa using h)]
theorem zgq (n:Nat): ∀xs:List Value,shVs n (xs.map AV.v)=xs.map AV.v
 | []=>rfl
 |x::r=>by simp only [List.map_cons,shVs,shV,zgq n r]
theorem shVs_U (n:Nat)(X:List Nat):shVs n (X.map U)=X.map U:=by
 have:=zgq n (X.map fun (a:Nat)=>Value.int .u64 (a:Int))
 rwa [List.map_map] at this
theorem znb (n a g:Nat)(zs:List Nat)(m w:Nat):shVs n (cutC a g zs m w)=cutC a g zs m w:=by
 obtain ⟨xs,h⟩:=znd a g zs m w _ (List.mem_singleton.2 rfl)
 rw [h,zgq]
theorem zp7 (l:Nat)(cs:List AV)(a g:Nat)(zs:List Nat)(m w:Nat):frzVs l cs (cutC a g zs m w)=cutC a g zs m w:=by
 obtain ⟨xs,h⟩:=znd a g zs m w _ (List.mem_singleton.2 rfl)
 rw [h,zae]
theorem zp8 (l:Nat)(cs:List AV)(X:List Nat):frzVs l cs (X.map u8)=X.map u8:=by
 have:=zae l cs (X.map fun (a:Nat)=>Value.int .u8 (a:Int))
 rwa [List.map_map] at this
theorem zkl {S:List (List AV)} {l:Nat} {cs:List AV} (h:S[l]? =some cs)(hne:cs≠[])(T:List Nat)(env:Env):frzL l env ⟨S,T⟩=(frzEnv l cs env,⟨(frzStore l cs S).set l [],T⟩):=by
 cases cs with
 |nil=>exact absurd rfl hne
 |cons x r=>simp only [frzL,h]
theorem c60 (a b:Nat)(ha:a<256)(hb:b<256)(st:St):run L 60 [U a,U b] st=some (I (cmpN (memb a) (memb b)),st):=by
 rw [run_pure (fn:=ir60) rfl rfl]
 have h1:=fun st=>c40 a (by omega) st
 have h2:=fun st=>c40 b (by omega) st
 have hm:=z4t a
 have h3: ∀st,run L 42 [tAV (memb a),tAV (memb b)] st=some (I (cmpN (memb a) (memb b)),st):=fun st=>c42 true true (memb a) (memb b) (by omega) st
 simp only [ir60,go_sem,h1,h2,h3]
theorem c52b (S0:List (List AV))(T:List Nat)(l:Nat)(hl:l<S0.length)(ag:Bool)(ss:List Nat)(h: ∀s∈ss,s<256)(hn:ss.length<256):
  ∃X1,PL X1∧run L 52 [.rsl l 0 ss.length ss.length 1 ag,.fn (.func 60) [] []] ⟨S0.set l (ss.map U),T⟩=some (.tup [],⟨S0.set l ((srt ss).map U)++X1,T⟩):=by
 obtain ⟨X1,h1,h2⟩:=sortu S0 T l hl ss.length (by omega) ag 60 rfl [] (fun x y=>cmpN (memb x.val) (memb y.val)) lt8 (fun x y=>(zcc _ _).symm)
  (fun x y X E=>c60 x.val y.val x.isLt y.isLt _) hn (fin8 ss).toArray (by simp [fin8]) []
 rw [zpo h,zpn] at h2
 unfold put at h2
 rw [List.append_nil] at h2
 exact ⟨X1,h1 PL.nil,h2⟩
def butI (but:Option Nat):Int:=match but with|none=> -1|some k=>k
theorem zhi (but:Option Nat)(i:Nat):((i:Int)=butI but)↔some i=but:=by
 cases but with
 |none=>simp [butI]
 |some k=>simp [butI];omega
theorem loop61 (L0:List Nat)(hL: ∀s∈L0,s<256)(hl:L0.length≤13)(v:Nat)(hv:v<256)(but:Option Nat)(i:Nat)(r:Nat)(hok:i≤L0.length∧AbvTo L0 v but i r)(env:Env)(st:St)
  (hg:gcAV true 0 0 (canon env [0,1,2,6,9,10,11]) st=([(0,U v),(1,I (butI but)),(2,.eptr (.agg [sl 1 true (L0.map U)]) 0),(6,I ((r:Int)-1)),(9,sl 1 true (L0.map U)),(10,J L0.length),(11,J i)],⟨[],[]⟩)):
  ∃x_1 en s,lim (headed pure (run L) true [0,1,2,6,9,10,11] lp61_0 0 0) env st=some (x_1,en,s)∧(x_1=.exit 0∧∃r',AbvTo L0 v but L0.length r'∧r'≤13∧en.get 6=I ((r':Int)-1)):=by
 refine z8 (α:=Nat×Nat) (fun ⟨i,r⟩=>L0.length-i) (fun ⟨i,r⟩=>i≤L0.length∧AbvTo L0 v but i r) (fun ⟨i,r⟩=>([(0,U v),(1,I (butI but)),(2,.eptr (.agg [sl 1 true (L0.map U)]) 0),(6,I ((r:Int)-1)),(9,sl 1 true (L0.map U)),(10,J L0.length),(11,J i)],⟨[],[]⟩)) (fun ⟨i,r⟩ x_1 en s=>x_1=.exit 0∧∃r',AbvTo L0 v but L0.length r'∧r'≤13∧en.get 6=I ((r':Int)-1)) (fun ⟨i,r⟩ hok=> ?_) ⟨i,r⟩ hok env st hg
 simp only at hok
 obtain ⟨h1,h2⟩:=hok
 dsimp only at h1 h2⊢
 have KL:r≤i:=by
  rcases h2 with ⟨h,_⟩ | ⟨k,h,h3,_⟩
  ·omega
  ·omega
 by_cases h:i<L0.length
 ·have hs:=za i (by omega)
  have hlt:((i:Int)<(L0.length:Int))=True:=eT (by omega)
  have hx:=z5n U true L0 i h
  have h8:=hL L0[i] (List.getElem_mem h)
  have hg:L0.getD i 0=L0[i]:=by rw [List.getD_eq_getElem?_getD,List.getElem?_eq_getElem h];rfl
  have Oa:=dfU v L0[i] hv h8
  have Ov:=zkx hv h8
  have OS:=fun st=>c58 L0[i] h8 st
  have OT:((((i+1:Nat):Int)-1))=(i:Int):=by omega
  by_cases hb:some i=but
  ·have q:((i:Int)=butI but)=True:=eT ((zhi but i).2 hb)
   simp only [go_sem,lp61_0,hlt,hs,hx,q]
   refine ⟨(i+1,r),by simp only [go_sem,z3,z4,z5]<;>rfl,?_,?_,fun x en s hq=> ?_⟩
   ·dsimp only;exact ⟨by omega,h2.skip (fun h=>absurd hb h)⟩
   ·dsimp only;omega
   ·exact hq
  ·have q:((i:Int)=butI but)=False:=eF (fun h=>hb ((zhi but i).1 h))
   have Oe:pc (L0.getD i 0)=(memb L0[i]).length:=by rw [hg];rfl
   rw [←hg] at Ov
   by_cases hw:dfN v L0[i]=0
   ·have hsub:Sub v (L0.getD i 0):=Ov.1 (by rw [hg];exact hw)
    have qd:((dfN v L0[i]:Int)=0)=True:=eT (by omega)
    generalize KM:L0[i]=a at*
    by_cases hr0:r=0
    ·have q0:((r:Int)-1<0)=True:=eT (by omega)
     simp only [go_sem,lp61_0,hlt,hs,hx,q,Oa,qd,q0]
     refine ⟨(i+1,i+1),by simp only [go_sem,z3,z4,z5,OT]<;>rfl,?_,?_,fun x en s hq=> ?_⟩
     ·dsimp only;exact ⟨by omega,h2.take hb hsub (.inl hr0)⟩
     ·dsimp only;omega
     ·exact hq
    ·have q0:((r:Int)-1<0)=False:=eF (by omega)
     have hm:((r:Int)-1)=((r-1:Nat):Int):=by omega
     have hx2:=z5n U true L0 (r-1) (by omega)
     have hg2:L0.getD (r-1) 0=L0[r-1]'(by omega):=by rw [List.getD_eq_getElem?_getD,List.getElem?_eq_getElem (by omega)];rfl
     have QX:=fun st=>c58 (L0[r-1]'(by omega)) (hL _ (List.getElem_mem _)) st
     have Vp:pc (L0.getD (r-1) 0)=(memb (L0[r-1]'(by omega))).length:=by rw [hg2];rfl
     rw [hm] at q0
     by_cases Yc:pc (L0.getD i 0)<pc (L0.getD (r-1) 0)
     ·have q1:(((memb a).length:Int)<((memb (L0[r-1]'(by omega))).length:Int))=True:=eT (by omega)
      simp only [go_sem,lp61_0,hm,hlt,hs,hx,q,Oa,qd,q0,OS,hx2,QX,q1]
      refine ⟨(i+1,i+1),by simp only [go_sem,z3,z4,z5,OT]<;>rfl,?_,?_,fun x en s hq=> ?_⟩
      ·dsimp only;exact ⟨by omega,h2.take hb hsub (.inr Yc)⟩
      ·dsimp only;omega
      ·exact hq
     ·have q1:(((memb a).length:Int)<((memb (L0[r-1]'(by omega))).length:Int))=False:=eF (by omega)
      simp only [go_sem,lp61_0,hm,hlt,hs,hx,q,Oa,qd,q0,OS,hx2,QX,q1]
      refine ⟨(i+1,r),by simp only [go_sem,z3,z4,z5,hm]<;>rfl,?_,?_,fun x en s hq=> ?_⟩
      ·dsimp only;exact ⟨by omega,h2.skip (fun _=> .inr ⟨hr0,by omega⟩)⟩
      ·dsimp only;omega
      ·exact hq
   ·have Kw: ¬Sub v (L0.getD i 0):=fun h=>hw (by rw [←hg];exact Ov.2 h)
    have qd:((dfN v L0[i]:Int)=0)=False:=eF (by omega)
    simp only [go_sem,lp61_0,hlt,hs,hx,q,Oa,qd]
    refine ⟨(i+1,r),by simp only [go_sem,z3,z4,z5]<;>rfl,?_,?_,fun x en s hq=> ?_⟩
    ·dsimp only;exact ⟨by omega,h2.skip (fun _=> .inl Kw)⟩
    ·dsimp only;omega
    ·exact hq
 ·have hi:i=L0.length:=by omega
  subst hi
  have hlt:((L0.length:Int)<(L0.length:Int))=False:=eF (by omega)
  simp only [go_sem,lp61_0,hlt]
  exact ⟨r,h2,by omega,rfl⟩
theorem c61 (L0:List Nat)(hL: ∀s∈L0,s<256)(hl:L0.length≤13)(v:Nat)(hv:v<256)(but:Option Nat):
  ∃r,Abv L0 v but r∧r≤13∧∀st,run L 61 [U v,I (butI but),.eptr (.agg [sl 1 true (L0.map U)]) 0] st=some (J r,st):=by
 have key: ∃r,Abv L0 v but r∧r≤13∧run L 61 [U v,I (butI but),.eptr (.agg [sl 1 true (L0.map U)]) 0] ⟨[],[]⟩=some (J r,⟨[],[]⟩):=by
  rw [run_pure (fn:=ir61) rfl rfl]
  have V7:=z7d U true L0
  simp only [ir61,go_sem,V7]
  generalize hg:lim (headed pure (run L) true _ lp61_0 _ _) _ _=o
  obtain ⟨x,en,s,rfl,h2⟩: ∃x en s,o=some (x,en,s)∧_:=by rw [←hg];exact loop61 L0 hL hl v hv but 0 0 ⟨by omega,.inl ⟨rfl,fun j hj=>by omega⟩⟩ _ _ (by simp only [go_sem,show ((0:Nat):Int)-1= -1 from rfl,Int.natCast_zero]<;>rfl)
  clear hg
  obtain ⟨rfl,r,h3,h4,e6⟩:=h2
  have hw:IntKind.i64.wrap ((r:Int)-1+1)=(r:Int):=by rw [zz]<;>omega
  exact ⟨r,h3,h4,by simp only [go_sem,e6,hw]⟩
 obtain ⟨r,h1,h3,h2⟩:=key
 exact ⟨r,h1,h3,fun st=>z4b (fn:=ir61) rfl rfl h2 st⟩
def bE (L0:List Nat):AV:=.eptr (.agg [sl 1 true (L0.map U)]) 0
theorem okE (k:Nat)(L0:List Nat):okRef k (bE L0)=true:=rfl
theorem renE (k:Nat)(T:List Nat)(acc:List (Nat×Nat))(L0:List Nat):ren1 k T acc (bE L0)=(bE L0,acc):=rfl
theorem zh5 (A:List (List AV))(hA:Num A)(p lo:Nat)(hp:A.length=p)(OU:p+1=lo)(n:Nat)(L0:List Nat)(hL: ∀s∈L0,s<256)(hl:L0.length≤13)(x1 x2:Nat)(i:Nat)(us:List Nat)(hok:i≤L0.length∧us.length=i∧(∀k,k<i→Abv L0 (L0.getD k 0) (some k) (us.getD k 0)))(env:Env)(st:St)
  (hg:gcAV true lo 0 (canon env [1,2,7,8,9,10,30,31,32]) st=([(1,u8 x1),(2,u8 x2),(7,J n),(8,bE L0),(9,.fn (.func 61) [] [bE L0]),(10,.ptr p 0),(30,sl 1 true (L0.map U)),(31,J L0.length),(32,J i)],⟨A++ [[oA (us.map J),nilA]],oT (us.map J)⟩)):
  ∃x_1 en s,lim (headed pure (run L) true [1,2,7,8,9,10,30,31,32] lp11_0 lo 0) env st=some (x_1,en,s)∧(x_1=.exit 0∧en.get 1=u8 x1∧en.get 2=u8 x2∧en.get 7=J n∧en.get 8=bE L0∧en.get 9=.fn (.func 61) [] [bE L0]∧en.get 10=.ptr p 0∧∃us':List Nat,us'.length=L0.length∧(∀k,k<L0.length→Abv L0 (L0.getD k 0) (some k) (us'.getD k 0))∧s=⟨A++ [[oA (us'.map J),nilA]],oT (us'.map J)⟩):=by
 refine z8 (α:=Nat×List Nat) (fun ⟨i,us⟩=>L0.length-i) (fun ⟨i,us⟩=>i≤L0.length∧us.length=i∧(∀k,k<i→Abv L0 (L0.getD k 0) (some k) (us.getD k 0))) (fun ⟨i,us⟩=>([(1,u8 x1),(2,u8 x2),(7,J n),(8,bE L0),(9,.fn (.func 61) [] [bE L0]),(10,.ptr p 0),(30,sl 1 true (L0.map U)),(31,J L0.length),(32,J i)],⟨A++ [[oA (us.map J),nilA]],oT (us.map J)⟩)) (fun ⟨i,us⟩ x_1 en s=>x_1=.exit 0∧en.get 1=u8 x1∧en.get 2=u8 x2∧en.get 7=J n∧en.get 8=bE L0∧en.get 9=.fn (.func 61) [] [bE L0]∧en.get 10=.ptr p 0∧∃us':List Nat,us'.length=L0.length∧(∀k,k<L0.length→Abv L0 (L0.getD k 0) (some k) (us'.getD k 0))∧s=⟨A++ [[oA (us'.map J),nilA]],oT (us'.map J)⟩) (fun ⟨i,us⟩ hok=> ?_) ⟨i,us⟩ hok env st hg
 simp only at hok
 obtain ⟨h1,h2,h3⟩:=hok
 dsimp only at h1 h2 h3⊢
 by_cases h:i<L0.length
 ·have hs:=za i (by omega)
  have hlt:((i:Int)<(L0.length:Int))=True:=eT (by omega)
  have hx:=z5n U true L0 i h
  have hg:L0.getD i 0=L0[i]:=by rw [List.getD_eq_getElem?_getD,List.getElem?_eq_getElem h];rfl
  have h8:=hL L0[i] (List.getElem_mem h)
  obtain ⟨r,hr,YR,Qh⟩:=c61 L0 hL hl L0[i] h8 (some i)
  have Qh: ∀st,run L 61 [U L0[i],J i,bE L0] st=some (J r,st):=Qh
  rw [←hg] at hr
  generalize L0[i]=a at*
  have YD:pure 61=true:=rfl
  have happ:=fun S=>z9x (us.map J) (J r) S (by rw [lm_];omega)
  have g0:=fun L=>z7z A L hp
  have s0:=fun L v=>za7 A L hp v
  have pl:=fun L=>zan A L hp
  have htk: ∀b,(A++ [b]).take lo=A++ [b]:=fun b=>List.take_of_length_le (by simp;omega)
  have b7:(p<lo)=True:=eT (by omega)
  simp only [go_sem,lp11_0,hlt,hs,hx,Qh,YD,happ,g0,s0,pl,zd,zl,zt,zq,nn_,List.set_cons_zero]
  refine ⟨(i+1,us++ [r]),by simp only [go_sem,z3,z4,z5,htk,b7,hA.calm.okApp,hA.calm.renApp,okE,renE,zex,z9l,List.map_append,zq]<;>rfl,?_,?_,fun x en s hq=> ?_⟩
  ·dsimp only
   refine ⟨by omega,by rw [List.length_append,List.length_singleton];omega,fun k hk=> ?_⟩
   by_cases e:k=i
   ·subst e
    have:(us++ [r]).getD k 0=r:=by rw [←h2];simp [List.getD_eq_getElem?_getD]
    rw [this];exact hr
   ·have:(us++ [r]).getD k 0=us.getD k 0:=by
     rw [List.getD_eq_getElem?_getD,List.getD_eq_getElem?_getD,List.getElem?_append_left (by omega)]
    rw [this];exact h3 k (by omega)
  ·dsimp only;omega
  ·exact hq
 ·have hi:i=L0.length:=by omega
  subst hi
  have hlt:((L0.length:Int)<(L0.length:Int))=False:=eF (by omega)
  simp only [go_sem,lp11_0,hlt]
  exact ⟨us,h2,h3,rfl⟩
theorem zjz (A:List (List AV))(hA:Num A)(p lo:Nat)(hp:A.length=p)(OU:p+1=lo)(n:Nat)(hn:n≤8)(L0:List Nat)(hL: ∀s∈L0,s<256)(hl:L0.length≤13)(x1 x2:Nat)(i:Nat)(ws:List Nat)(hok:i≤n∧ws.length=i∧(∀k,k<i→Abv L0 (2^k) none (ws.getD k 0)))(env:Env)(st:St)
  (hg:gcAV true lo 0 (canon env [1,2,7,8,9,10,47,48]) st=([(1,u8 x1),(2,u8 x2),(7,J n),(8,bE L0),(9,.fn (.func 61) [] [bE L0]),(10,.ptr p 0),(47,J n),(48,J i)],⟨A++ [[nilA,oA (ws.map J)]],oT (ws.map J)⟩)):
  ∃x_1 en s,lim (headed pure (run L) true [1,2,7,8,9,10,47,48] lp11_1 lo 0) env st=some (x_1,en,s)∧(x_1=.exit 2∧en.get 1=u8 x1∧en.get 2=u8 x2∧en.get 7=J n∧en.get 8=bE L0∧en.get 10=.ptr p 0∧∃ws':List Nat,ws'.length=n∧(∀k,k<n→Abv L0 (2^k) none (ws'.getD k 0))∧s=⟨A++ [[nilA,oA (ws'.map J)]],oT (ws'.map J)⟩):=by
 refine z8 (α:=Nat×List Nat) (fun ⟨i,ws⟩=>n-i) (fun ⟨i,ws⟩=>i≤n∧ws.length=i∧(∀k,k<i→Abv L0 (2^k) none (ws.getD k 0))) (fun ⟨i,ws⟩=>([(1,u8 x1),(2,u8 x2),(7,J n),(8,bE L0),(9,.fn (.func 61) [] [bE L0]),(10,.ptr p 0),(47,J n),(48,J i)],⟨A++ [[nilA,oA (ws.map J)]],oT (ws.map J)⟩)) (fun ⟨i,ws⟩ x_1 en s=>x_1=.exit 2∧en.get 1=u8 x1∧en.get 2=u8 x2∧en.get 7=J n∧en.get 8=bE L0∧en.get 10=.ptr p 0∧∃ws':List Nat,ws'.length=n∧(∀k,k<n→Abv L0 (2^k) none (ws'.getD k 0))∧s=⟨A++ [[nilA,oA (ws'.map J)]],oT (ws'.map J)⟩) (fun ⟨i,ws⟩ hok=> ?_) ⟨i,ws⟩ hok env st hg
 simp only at hok
 obtain ⟨h1,h2,h3⟩:=hok
 dsimp only at h1 h2 h3⊢
 by_cases h:i<n
 ·have hs:=za i (by omega)
  have hlt:((i:Int)<(n:Int))=True:=eT (by omega)
  have Ow:2^i<256:=Nat.lt_of_lt_of_le (Nat.pow_lt_pow_right (by omega) (show i<8 by omega)) (by decide)
  obtain ⟨r,hr,YR,Qh⟩:=c61 L0 hL hl (2^i) Ow none
  have Qh: ∀st,run L 61 [U (2^i),I (-1),bE L0] st=some (J r,st):=Qh
  have hsh:=shlU i (by omega)
  have YD:pure 61=true:=rfl
  have happ:=fun S=>z9x (ws.map J) (J r) S (by rw [lm_];omega)
  have g0:=fun L=>z7z A L hp
  have s0:=fun L v=>za7 A L hp v
  have pl:=fun L=>zan A L hp
  have htk: ∀b,(A++ [b]).take lo=A++ [b]:=fun b=>List.take_of_length_le (by simp;omega)
  have b7:(p<lo)=True:=eT (by omega)
  simp only [go_sem,lp11_1,hlt,hs,Qh,hsh,YD,happ,g0,s0,pl,nn_,List.set_cons_zero,zd,zl,zt,zq]
  refine ⟨(i+1,ws++ [r]),by simp only [go_sem,z3,z4,z5,htk,b7,hA.calm.okApp,hA.calm.renApp,okE,renE,List.map_append,zex,z9l,zq]<;>rfl,?_,?_,fun x en s hq=> ?_⟩
  ·dsimp only
   refine ⟨by omega,by rw [List.length_append,List.length_singleton];omega,fun k hk=> ?_⟩
   by_cases e:k=i
   ·subst e
    have:(ws++ [r]).getD k 0=r:=by rw [←h2];simp [List.getD_eq_getElem?_getD]
    rw [this];exact hr
   ·have:(ws++ [r]).getD k 0=ws.getD k 0:=by
     rw [List.getD_eq_getElem?_getD,List.getD_eq_getElem?_getD,List.getElem?_append_left (by omega)]
    rw [this];exact h3 k (by omega)
  ·dsimp only;omega
  ·exact hq
 ·have hi:i=n:=by omega
  subst hi
  have hlt:((i:Int)<(i:Int))=False:=eF (by omega)
  simp only [go_sem,lp11_1,hlt]
  exact ⟨ws,h2,h3,rfl⟩
theorem zjy (A:List (List AV))(hA:Num A)(p lo:Nat)(hp:A.length=p)(OU:p+1=lo)(n:Nat)(hn:n≤8)(L0:List Nat)(hL: ∀s∈L0,s<256)(hl:L0.length≤13)(x1 x2:Nat)(us:List Nat)(i:Nat)(ws:List Nat)(hok:i≤n∧ws.length=i∧(∀k,k<i→Abv L0 (2^k) none (ws.getD k 0)))(env:Env)(st:St)
  (hg:gcAV true lo 1 (canon env [1,2,7,8,9,10,47,48]) st=([(1,u8 x1),(2,u8 x2),(7,J n),(8,bE L0),(9,.fn (.func 61) [] [bE L0]),(10,.ptr p 0),(47,J n),(48,J i)],⟨A++ [[.lst (.own 0 us.length) 1 (us.map J),o1A (ws.map J)]],o1T us.length (ws.map J)⟩)):
  ∃x_1 en s,lim (headed pure (run L) true [1,2,7,8,9,10,47,48] lp11_1 lo 1) env st=some (x_1,en,s)∧(x_1=.exit 2∧en.get 1=u8 x1∧en.get 2=u8 x2∧en.get 7=J n∧en.get 8=bE L0∧en.get 10=.ptr p 0∧∃ws':List Nat,ws'.length=n∧(∀k,k<n→Abv L0 (2^k) none (ws'.getD k 0))∧s=⟨A++ [[.lst (.own 0 us.length) 1 (us.map J),o1A (ws'.map J)]],o1T us.length (ws'.map J)⟩):=by
 refine z8 (α:=Nat×List Nat) (fun ⟨i,ws⟩=>n-i) (fun ⟨i,ws⟩=>i≤n∧ws.length=i∧(∀k,k<i→Abv L0 (2^k) none (ws.getD k 0))) (fun ⟨i,ws⟩=>([(1,u8 x1),(2,u8 x2),(7,J n),(8,bE L0),(9,.fn (.func 61) [] [bE L0]),(10,.ptr p 0),(47,J n),(48,J i)],⟨A++ [[.lst (.own 0 us.length) 1 (us.map J),o1A (ws.map J)]],o1T us.length (ws.map J)⟩)) (fun ⟨i,ws⟩ x_1 en s=>x_1=.exit 2∧en.get 1=u8 x1∧en.get 2=u8 x2∧en.get 7=J n∧en.get 8=bE L0∧en.get 10=.ptr p 0∧∃ws':List Nat,ws'.length=n∧(∀k,k<n→Abv L0 (2^k) none (ws'.getD k 0))∧s=⟨A++ [[.lst (.own 0 us.length) 1 (us.map J),o1A (ws'.map J)]],o1T us.length (ws'.map J)⟩) (fun ⟨i,ws⟩ hok=> ?_) ⟨i,ws⟩ hok env st hg
 simp only at hok
 obtain ⟨h1,h2,h3⟩:=hok
 dsimp only at h1 h2 h3⊢
 by_cases h:i<n
 ·have hs:=za i (by omega)
  have hlt:((i:Int)<(n:Int))=True:=eT (by omega)
  have Ow:2^i<256:=Nat.lt_of_lt_of_le (Nat.pow_lt_pow_right (by omega) (show i<8 by omega)) (by decide)
  obtain ⟨r,hr,YR,Qh⟩:=c61 L0 hL hl (2^i) Ow none
  have Qh: ∀st,run L 61 [U (2^i),I (-1),bE L0] st=some (J r,st):=Qh
  have hsh:=shlU i (by omega)
  have YD:pure 61=true:=rfl
  have happ:=fun S=>zl5 us.length (ws.map J) (J r) S (by rw [lm_];omega)
  have g0:=fun L=>z7z A L hp
  have s0:=fun L v=>za7 A L hp v
  have pl:=fun L=>zan A L hp
  have htk: ∀b,(A++ [b]).take lo=A++ [b]:=fun b=>List.take_of_length_le (by simp;omega)
  have b7:(p<lo)=True:=eT (by omega)
  simp only [go_sem,lp11_1,hlt,hs,Qh,hsh,YD,happ,g0,s0,pl,nn_,List.set_cons_zero,zb8,zer,zhh,zgy]
  refine ⟨(i+1,ws++ [r]),by simp only [go_sem,z3,z4,z5,htk,b7,hA.calm.okApp,hA.calm.renApp,okE,renE,List.map_append,zo8,zje,zlv,zlw,zgy,List.singleton_append]<;>rfl,?_,?_,fun x en s hq=> ?_⟩
  ·dsimp only
   refine ⟨by omega,by rw [List.length_append,List.length_singleton];omega,fun k hk=> ?_⟩
   by_cases e:k=i
   ·subst e
    have:(ws++ [r]).getD k 0=r:=by rw [←h2];simp [List.getD_eq_getElem?_getD]
    rw [this];exact hr
   ·have:(ws++ [r]).getD k 0=ws.getD k 0:=by
     rw [List.getD_eq_getElem?_getD,List.getD_eq_getElem?_getD,List.getElem?_append_left (by omega)]
    rw [this];exact h3 k (by omega)
  ·dsimp only;omega
  ·exact hq
 ·have hi:i=n:=by omega
  subst hi
  have hlt:((i:Int)<(i:Int))=False:=eF (by omega)
  simp only [go_sem,lp11_1,hlt]
  exact ⟨ws,h2,h3,rfl⟩
abbrev cmpB:AV:=.fn (.func 60) [] []
theorem insBn (st0:St)(lo hi:Nat)(i:Nat)(hok:True)(env:Env)(st:St)
  (hg:gcAV false lo hi (canon env [0,1,2,3,8]) st=([(0,.v (.slice none 0 0)),(1,I 0),(2,I 0),(3,cmpB),(8,J i)],st0)):
  ∃x_1 en s,lim (headed pure (run L) false [0,1,2,3,8] lp141_1 lo hi) env st=some (x_1,en,s)∧(x_1=.exit 0∧s=st0):=by
 refine z8 (α:=Nat) (fun i=>0) (fun i=>True) (fun i=>([(0,.v (.slice none 0 0)),(1,I 0),(2,I 0),(3,cmpB),(8,J i)],st0)) (fun i x_1 en s=>x_1=.exit 0∧s=st0) (fun i hok=> ?_) i hok env st hg
 have hlt:((i:Int)<0)=False:=eF (by omega)
 simp only [go_sem,lp141_1,hlt]
theorem c141n (st:St):run L 141 [.v (.slice none 0 0),I 0,I 0,cmpB] st=some (.tup [],st):=by
 rw [z6 (fn:=ir141) rfl rfl]
 have h1:IntKind.i64.wrap 1=1:=by decide
 simp only [ir141,go_sem,h1]
 generalize hg:lim (headed pure (run L) false _ lp141_1 _ _) _ _=o
 obtain ⟨x,en,s,rfl,h2⟩: ∃x en s,o=some (x,en,s)∧_:=by rw [←hg];exact insBn st _ _ 1 trivial _ _ (by simp only [go_sem,show I 1=J 1 from rfl]<;>rfl)
 clear hg
 obtain ⟨rfl,rfl⟩:=h2
 simp only [go_sem]
theorem pdqBn (st0:St)(lo hi:Nat)(i:Nat)(hok:True)(env:Env)(st:St)
  (hg:gcAV false lo hi (canon env [0,1,2,3,4,10,11]) st=([(0,.v (.slice none 0 0)),(1,I 0),(2,I 0),(3,J i),(4,cmpB),(10,B true),(11,B true)],st0)):
  ∃x_1 en s,lim (headed pure (run L) false [0,1,2,3,4,10,11] lp114_0 lo hi) env st=some (x_1,en,s)∧(x_1=.ret∧s=st0):=by
 refine z8 (α:=Nat) (fun i=>0) (fun i=>True) (fun i=>([(0,.v (.slice none 0 0)),(1,I 0),(2,I 0),(3,J i),(4,cmpB),(10,B true),(11,B true)],st0)) (fun i x_1 en s=>x_1=.ret∧s=st0) (fun i hok=> ?_) i hok env st hg
 have h1:IntKind.i64.wrap 0=0:=by decide
 have h2:((0:Int)≤12)=True:=eT (by omega)
 simp only [go_sem,lp114_0,h1,h2,c141n]
theorem c52n (st:St):run L 52 [.v (.slice none 0 0),cmpB] st=some (.tup [],st):=by
 have Qd: ∀i:Nat,run L 114 [.v (.slice none 0 0),I 0,I 0,J i,cmpB] st=some (.tup [],st):=by
  intro i
  rw [z6 (fn:=ir114) rfl rfl]
  simp only [ir114,go_sem]
  generalize hg:lim (headed pure (run L) false _ lp114_0 _ _) _ _=o
  obtain ⟨x,en,s,rfl,h2⟩: ∃x en s,o=some (x,en,s)∧_:=by rw [←hg];exact pdqBn st _ _ i trivial _ _ (by simp only [go_sem]<;>rfl)
  clear hg
  obtain ⟨rfl,rfl⟩:=h2
  simp only [go_sem]
 rw [z6 (fn:=ir52) rfl rfl]
 have VI: ∀st,run L 115 [.v (.int .u64 0)] st=some (J (bitsLen 0),st):=fun st=>c115 0 (by omega) st
 have VE:IntKind.u64.wrap 0=0:=by decide
 simp only [ir52,go_sem,VE,VI,Qd]
theorem flatJ: ∀X:List Nat,flatAV (X.map J)=X.map J
 | []=>rfl
 |x::r=>by
  have ih:=flatJ r
  unfold flatAV at ih⊢
  rw [List.map_cons,List.flatMap_cons,ih];rfl
theorem c62 (g:Tag)(us:List Nat)(h:us≠[])(hl:us.length≤13):run L 62 [.lst g 1 (us.map J)] ⟨[],[]⟩=some (.rsl 0 0 us.length us.length 1 false,⟨[us.map J],[]⟩):=by
 rw [z6 (fn:=ir62) rfl rfl]
 have h1:binAV .eql (some 0) (.lst g 1 (us.map J)) (.v (.slice none 0 0))=some (B false):=rfl
 have h2: ∀st,elemsOf 1 st (.lst g 1 (us.map J))=some (us.map J):=fun st=>rfl
 have h3:appendmAV 1 false (.lst .full 1 []) (us.map J) ⟨[],[]⟩=some (.rsl 0 0 us.length us.length 1 false,⟨[us.map J],[]⟩):=by
  obtain ⟨x,r,rfl⟩: ∃x r,us=x::r:=by cases us with|nil=>exact absurd rfl h|cons x r=>exact ⟨x,r,rfl⟩
  simp only [List.map_cons,appendmAV,newM,List.nil_append]
  rw [if_pos trivial,if_pos (by unfold maxGrow;simp at hl⊢;omega)]
  have hf:flatAV (J x::r.map J)=J x::r.map J:=flatJ (x::r)
  simp [hf]
 simp only [ir62,go_sem,h1,h2,h3]
theorem zap: ∀(l k:List Nat),(∀x∈l,x<512)→(∀x∈k,x<512)→l.map memb=k.map memb→l=k
 | [],[],_,_,_=>rfl
 | [],_::_,_,_,h=>by cases h
 |_::_,[],_,_,h=>by cases h
 |x::l,y::k,h1,h2,h=>by
  rw [List.map_cons,List.map_cons,List.cons.injEq] at h
  rw [zh2 (h1 x (by simp)) (h2 y (by simp)) h.1,zap l k (fun z hz=>h1 z (by simp [hz])) (fun z hz=>h2 z (by simp [hz])) h.2]
theorem zpi {n:Nat} {L0 us ws bad:List Nat} (hn:n≤8)(Yl:Lam n L0)(hs0:L0.Pairwise LexLe)(Vw: ∀s∈L0,s<256)(ht:IsTree L0 n us ws)(hU: ∀u∈bad,u≤bad.length)(hW: ∀w∈ws,w≤bad.length)(hWl:ws.length=n)(hbl:bad.length=L0.length)(hr:(readN bad ws).1=0)(hne:bad≠us): ¬((srt (readN bad ws).2).map memb=(srt L0).map memb):=by
 intro heq
 have hlt:=ze1 hn hWl (U:=bad)
 obtain ⟨hT,e,hs⟩:=zlo hU hW hWl hr
 rw [e] at heq hlt
 dsimp only at heq hlt
 have e1:=zdw hlt (List.Perm.refl _) (zns hs)
 have e2:=zdw Vw (List.Perm.refl _) hs0
 rw [←e1,←e2] at heq
 have e3:=zap _ _ (fun x hx=>by have:=hlt x hx;omega) (fun x hx=>by have:=Vw x hx;omega) heq
 exact hne (zir hn Yl ht hU hW hWl hbl hT.hend e3)
end Go.Proofs.YtdnmhlfjafjkbaaGreatDoor.Vm
